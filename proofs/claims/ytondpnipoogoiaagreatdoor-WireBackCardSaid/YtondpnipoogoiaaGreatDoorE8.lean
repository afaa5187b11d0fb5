import Derived.Test.YtondpnipoogoiaaGreatDoorE7
set_option maxRecDepth 100000
set_option linter.unusedVariables false
set_option linter.unusedSimpArgs false
namespace Go.Proofs.YtondpnipoogoiaaGreatDoor.F
open Go Go.RowKit Go.Proofs.Tryz
theorem ints_eq {a b : List Int} (hl : a.length = b.length) (h : ∀ j, j < a.length → a.getD j (dflt (.int .u32)) = b.getD j (dflt (.int .u32))) : a = b := by
 refine List.ext_getElem hl (fun i h1 h2 => ?_)
 have := h i h1
 rw [List.getD_eq_getElem?_getD, List.getD_eq_getElem?_getD, List.getElem?_eq_getElem h1, List.getElem?_eq_getElem h2] at this
 exact this
theorem con145 (xs ys : List Int) (h : xs.length < 4294967296) : Con Tryz.prog I0 145 [.row (.int .u32) xs, .row (.int .u32) ys] (.val (vb (decide (xs = ys)))) := by
 refine con_of Tryz.func145 rfl (Nat.le_of_ble_eq_true rfl) stab (fun w0 fz a hI hs => ?_)
 refine wNs hs hI [] 11 [] [(0, rwU xs), (1, rwU ys)] [] fun a w hs => ?_
 refine wp_seq ?_
 rcases bt ((xs.length : Int) != (ys.length : Int)) with b1 | b1
 have n1 := bne_iff_ne.1 b1
 refine wN hs hI (bz 1 1) 12172688 [q1 b1] .ret [(4, vb false)] [] fun a w hs => ?_
 refine then_ret ?_
 exact rK (.val (vb false)) [] hs (by rw [decide_eq_false (fun e => by subst e; simp at b1)])
 have n1 := bne_eq_false_iff_eq.1 b1
 refine wN hs hI (bz 1 0) 72688 [q1 b1] .norm [(0, rwU xs), (1, rwU ys)] [] fun a w hs => ?_
 refine then_norm ?_
 refine wp_seq ?_
 refine wNs hs hI [] 11 [] [(0, rwU xs), (1, rwU ys), (5, vi 0)] [] fun a w hs => ?_
 refine wp_block ?_
 refine loop_L (N := Tryz.f145.ntmps) (w0 := w0) (ow := noO fz) (α := Nat) (fun p => [(0, rwU xs), (1, rwU ys), (5, vi (p : Int))]) (fun p => []) (fun p => p ≤ xs.length ∧ ∀ j, j < p → xs.getD j (dflt (.int .u32)) = ys.getD j (dflt (.int .u32))) (fun p => xs.length - p) 0 ?_ ?_ ?_
 exact ⟨Nat.zero_le _, fun j hj => absurd hj (Nat.not_lt_zero _)⟩
 exact hs.rk []
 rintro i hJ a w hs
 obtain ⟨hi, hall⟩ := hJ
 rcases bd ((i : Int) < (xs.length : Int)) with ⟨b2, n2⟩ | ⟨b2, n2⟩
 rcases bt ((xs.getD i (dflt (.int .u32))) != (ys.getD i (dflt (.int .u32)))) with b3 | b3
 have n3 := bne_iff_ne.1 b3
 refine wN hs hI (bz 2 3) 12172660707097608 [q1 b2, q4 (i : Int) xs.length, q4 (i : Int) ys.length, q1 b3] .ret [(4, vb false)] [] fun a w hs => ?_
 refine then_ret ?_
 refine inb_ret ?_
 refine then_ret ?_
 exact rK (.val (vb false)) [] hs (by rw [decide_eq_false (fun e => by subst e; simp at b3)])
 have n3 := bne_eq_false_iff_eq.1 b3
 refine wN hs hI (bz 2 1) 171972660707097608 [q1 b2, q4 (i : Int) xs.length, q4 (i : Int) ys.length, q1 b3, q3 ((i : Int) + 1)] .norm [(0, rwU xs), (1, rwU ys), (5, vi ((i : Int) + 1))] [] fun a w hs => ?_
 refine then_norm ⟨i + 1, ⟨by omega, fun j hj => by rcases Nat.lt_succ_iff_lt_or_eq.1 hj with h | h; exact hall j h; subst h; exact (by simpa using b3)⟩, by omega, ?_⟩
 exact hs.rk []
 refine wN hs hI (bz 1 0) 7608 [q1 b2] (.exit 0) [] [] fun a w hs => ?_
 refine then_exit ?_
 refine inb_hit ?_
 refine then_norm ?_
 refine wN hs hI [] 120 [] .ret [(4, vb true)] [] fun a w hs => ?_
 exact rK (.val (vb true)) [] hs (by rw [decide_eq_true (ints_eq (by omega) (fun j hj => hall j (by omega)))])
def eqN (a b : Num) : Bool := a.neg == b.neg && (a.e == b.e && decide (a.m = b.m))
theorem con88 (x y : Num) (hl : x.m.length < 4294967296) : Con Tryz.prog I0 88 [.agg [vb x.neg, .row (.int .u32) x.m, vi x.e], .agg [vb y.neg, .row (.int .u32) y.m, vi y.e]] (.val (vb (eqN x y))) := by
 refine con_of Tryz.func88 rfl (Nat.le_of_ble_eq_true rfl) stab (fun w0 fz a hI hs => ?_)
 rcases bq (x.neg) (y.neg) with ⟨b1, n1⟩ | ⟨b1, n1⟩
 rcases bq (x.e) (y.e) with ⟨b2, n2⟩ | ⟨b2, n2⟩
 refine wL hs hI [(1, rg [(17, ciV 145 [rwU x.m, rwU y.m] (vb (decide (x.m = y.m))))] [6, 7, 8, 9, 10, 1011, 13, 14, 15, 16, 17, 1018] [])] [] 19666666617437777777777882918 [q1 b1, q1 b1, q1 b1, q1 b1, q1 b1, q1 b1, q1 b2, q1 b2, q1 b2, q1 b2, q1 b2, q1 b2] .ret [(4, vb (decide (x.m = y.m)))] [] ⟨con145 _ _ hl, tv⟩ fun a w hs => ?_
 exact rK (.val (vb (decide (x.m = y.m)))) [] hs (by simp only [eqN]; simp_all)
 refine wL hs hI [(1, rg [] [6, 7, 8, 9, 10, 1011] [13, 14, 15, 16, 17, 1018])] [] 126666661733333777777882918 [q1 b1, q1 b1, q1 b1, q1 b1, q1 b1, q1 b1, q1 b2, q1 b2, q1 b2, q1 b2, q1 b2, q1 b2] .ret [(4, vb false)] [] tv fun a w hs => ?_
 exact rK (.val (vb false)) [] hs (by simp only [eqN]; simp_all)
 refine wL hs hI [(1, rg [] [] [6, 7, 8, 9, 10, 1011, 13, 14, 15, 16, 17, 1018])] [] 1666661733333733333882918 [q1 b1, q1 b1, q1 b1, q1 b1, q1 b1, q1 b1, q0 false, q0 false, q0 false, q0 false, q0 false, q0 false] .ret [(4, vb false)] [] tv fun a w hs => ?_
 exact rK (.val (vb false)) [] hs (by simp only [eqN]; simp_all)
def bigK (k : ByteArray) : Bool := decide ((k.size : Int) > 2100)
mutual
def lightF : Tree → Int → Int
 | .mk _ _ n s ks v, m => if (n.m.length : Int) > 95 ∨ (s.size : Int) > 2100 ∨ (ks.length : Int) > 40 ∨ (v.length : Int) > 40 then -1 else if (ks.any bigK) = true then -1 else lightL v (m - 1)
def lightL : List Tree → Int → Int
 | [], m => m
 | t :: l, m => if m ≥ 0 then lightL l (lightF t m) else m
end
theorem lightF_eq (t : Tree) (m : Int) : lightF t m = if (t.n.m.length : Int) > 95 ∨ (t.s.size : Int) > 2100 ∨ (t.k.length : Int) > 40 ∨ (t.v.length : Int) > 40 then -1 else if (t.k.any bigK) = true then -1 else lightL t.v (m - 1) := by cases t; rfl
mutual
theorem light_in : ∀ (t : Tree) (m : Int), 0 ≤ m → -1 ≤ lightF t m ∧ lightF t m ≤ m
 | .mk k b n s ks v, m, h => by
  have := lightL_in v (m - 1) (by omega)
  rw [lightF_eq]
  split
  omega
  split
  omega
  show -1 ≤ lightL v (m - 1) ∧ lightL v (m - 1) ≤ m; omega
theorem lightL_in : ∀ (l : List Tree) (m : Int), -1 ≤ m → -1 ≤ lightL l m ∧ lightL l m ≤ m
 | [], m, h => ⟨h, Int.le_refl _⟩
 | t :: l, m, h => by
  simp only [lightL]
  split
  rename_i h0
  have h1 := light_in t m h0
  have := lightL_in l (lightF t m) h1.1; omega
  omega
end
theorem lightL_go {v : List Tree} {i : Nat} {n : Int} (hi : i < v.length) (hn : n ≥ 0) : lightL (v.drop i) n = lightL (v.drop (i + 1)) (lightF (v.getD i (dflt .tree)) n) := by
 rw [List.drop_eq_getElem_cons hi, lightL, if_pos hn]
 have e : v.getD i (dflt .tree) = v[i] := by rw [List.getD_eq_getElem?_getD, List.getElem?_eq_getElem hi]; rfl
 rw [e]
theorem lightL_end {v : List Tree} {n : Int} (h : v = [] ∨ ¬ n ≥ 0) : lightL v n = n := by
 cases v with
 | nil => rfl
 | cons t l =>
  rcases h with h | h
  cases h
  rw [lightL, if_neg h]
theorem anyK_no {l : List ByteArray} (h : ∀ j, j < l.length → ¬ ((l.getD j (dflt .str)).size : Int) > 2100) : l.any bigK = false := by
 rw [List.any_eq_false]
 intro x hx
 obtain ⟨j, hj, rfl⟩ := List.mem_iff_getElem.1 hx
 have := h j hj
 rw [List.getD_eq_getElem?_getD, List.getElem?_eq_getElem hj] at this
 unfold bigK; simpa using this
theorem anyK_yes {l : List ByteArray} {j : Nat} (hj : j < l.length) (h : ((l.getD j (dflt .str)).size : Int) > 2100) : l.any bigK = true :=
 List.any_eq_true.2 ⟨_, getD_mem hj (dflt .str), decide_eq_true h⟩
theorem con53_ : ∀ (n : Nat) (t : Tree) (m : Int), nodes t < n → 0 ≤ m → m ≤ 4000 → Con Tryz.prog I0 53 [.agg (encTree t), vi m] (.val (vi (lightF t m))) := by
 intro n
 induction n
 case zero => intro t m hn; omega
 rename_i n ih
 intro t m hn hm0 hm1
 refine con_of Tryz.func53 rfl (Nat.le_of_ble_eq_true rfl) stab (fun w0 fz a hI hs => ?_)
 refine wNs hs hI [] 8 [] [(1, vi m), (2, .ptr 1000 0)] [(1000, bTr (t))] fun a w hs => ?_
 refine wNs hs hI [] 171 [q3 (m - 1)] [(1, vi (m - 1)), (2, .ptr 1000 0)] [(1000, bTr (t))] fun a w hs => ?_
 refine wp_seq ?_
 rcases bd ((t.n.m.length : Int) > 95) with ⟨b1, n1⟩ | ⟨b1, n1⟩
 refine wL hs hI [(2, rg [] [1010, 1016, 1022] [6, 7, 8, 9, 12, 13, 14, 15, 18, 19, 20, 21])] (bz 1 1) 1217296666673333733337333388 [q1 b1, q1 b1, q1 b1, q1 b1, q1 b1, q0 true, q0 true, q0 true, q0 true, q0 true, q0 true, q0 true, q0 true, q0 true, q0 true, q0 true] .ret [(4, vi (-1))] [] tv fun a w hs => ?_
 refine then_ret ?_
 exact rK (.val (vi (-1))) [] hs (by rw [lightF_eq, if_pos (by omega)])
 rcases bd ((t.s.size : Int) > 2100) with ⟨b2, n2⟩ | ⟨b2, n2⟩
 refine wL hs hI [(2, rg [] [6, 7, 8, 9, 1016, 1022] [1010, 12, 13, 14, 15, 18, 19, 20, 21])] (bz 1 1) 12172966666673333733337777788 [q1 b1, q1 b1, q1 b1, q1 b1, q1 b1, q1 b2, q1 b2, q1 b2, q1 b2, q1 b2, q0 true, q0 true, q0 true, q0 true, q0 true, q0 true] .ret [(4, vi (-1))] [] tv fun a w hs => ?_
 refine then_ret ?_
 exact rK (.val (vi (-1))) [] hs (by rw [lightF_eq, if_pos (by omega)])
 rcases bd ((t.k.length : Int) > 40) with ⟨b3, n3⟩ | ⟨b3, n3⟩
 refine wL hs hI [(2, rg [] [6, 7, 8, 9, 12, 13, 14, 15, 1022] [1010, 1016, 18, 19, 20, 21])] (bz 1 1) 121729666666673333777777777788 [q1 b1, q1 b1, q1 b1, q1 b1, q1 b1, q1 b2, q1 b2, q1 b2, q1 b2, q1 b2, q1 b3, q1 b3, q1 b3, q1 b3, q1 b3, q0 true] .ret [(4, vi (-1))] [] tv fun a w hs => ?_
 refine then_ret ?_
 exact rK (.val (vi (-1))) [] hs (by rw [lightF_eq, if_pos (by omega)])
 rcases bd ((t.v.length : Int) > 40) with ⟨b4, n4⟩ | ⟨b4, n4⟩
 refine wL hs hI [(2, rg [] [6, 7, 8, 9, 12, 13, 14, 15, 18, 19, 20, 21] [1010, 1016, 1022])] (bz 1 1) 1217296666666677777777777777788 [q1 b1, q1 b1, q1 b1, q1 b1, q1 b1, q1 b2, q1 b2, q1 b2, q1 b2, q1 b2, q1 b3, q1 b3, q1 b3, q1 b3, q1 b3, q1 b4] .ret [(4, vi (-1))] [] tv fun a w hs => ?_
 refine then_ret ?_
 exact rK (.val (vi (-1))) [] hs (by rw [lightF_eq, if_pos (by omega)])
 refine wL hs hI [(2, rg [] [6, 7, 8, 9, 12, 13, 14, 15, 18, 19, 20, 21] [1010, 1016, 1022])] (bz 1 0) 7296666666677777777777777788 [q1 b1, q1 b1, q1 b1, q1 b1, q1 b1, q1 b2, q1 b2, q1 b2, q1 b2, q1 b2, q1 b3, q1 b3, q1 b3, q1 b3, q1 b3, q1 b4] .norm [(1, vi (m - 1)), (2, .ptr 1000 0)] [(1000, bTr (t))] tv fun a w hs => ?_
 refine then_norm ?_
 refine wp_seq ?_
 refine wNs hs hI [] 11 [] [(1, vi (m - 1)), (2, .ptr 1000 0), (5, vi 0)] [(1000, bTr (t))] fun a w hs => ?_
 refine wp_block ?_
 refine loop_L (N := Tryz.f53.ntmps) (w0 := w0) (ow := noO fz) (α := Nat) (fun p => [(1, vi (m - 1)), (2, .ptr 1000 0), (5, vi (p : Int))]) (fun p => [(1000, bTr (t))]) (fun p => p ≤ t.k.length ∧ ∀ j, j < p → ¬ ((t.k.getD j (dflt .str)).size : Int) > 2100) (fun p => t.k.length - p) 0 ?_ ?_ ?_
 exact ⟨Nat.zero_le _, fun j hj => absurd hj (Nat.not_lt_zero _)⟩
 exact hs.rk [(1000, 1000)]
 rintro i hJ a w hs
 obtain ⟨hi, hall⟩ := hJ
 rcases bd ((i : Int) < (t.k.length : Int)) with ⟨b5, n5⟩ | ⟨b5, n5⟩
 rcases bd (((t.k.getD i (dflt .str)).size : Int) > 2100) with ⟨b6, n6⟩ | ⟨b6, n6⟩
 refine wN hs hI (bz 2 3) 1217296878972688 [q1 b5, q4 (i : Int) t.k.length, q1 b6] .ret [(4, vi (-1))] [] fun a w hs => ?_
 refine then_ret ?_
 refine inb_ret ?_
 refine then_ret ?_
 exact rK (.val (vi (-1))) [] hs (by rw [lightF_eq, if_neg (by omega), if_pos (anyK_yes (j := i) (by omega) (by omega))])
 refine wN hs hI (bz 2 1) 17197296878972688 [q1 b5, q4 (i : Int) t.k.length, q1 b6, q3 ((i : Int) + 1)] .norm [(1, vi (m - 1)), (2, .ptr 1000 0), (5, vi ((i : Int) + 1))] [(1000, bTr (t))] fun a w hs => ?_
 refine then_norm ⟨i + 1, ⟨by omega, fun j hj => by rcases Nat.lt_succ_iff_lt_or_eq.1 hj with h | h; exact hall j h; subst h; omega⟩, by omega, ?_⟩
 exact hs.rk [(1000, 1000)]
 refine wN hs hI (bz 1 0) 72688 [q1 b5] (.exit 0) [(1, vi (m - 1)), (2, .ptr 1000 0)] [(1000, bTr (t))] fun a w hs => ?_
 refine then_exit ?_
 refine inb_hit ?_
 refine then_norm ?_
 refine wp_seq ?_
 refine wNs hs hI [] 11 [] [(1, vi (m - 1)), (2, .ptr 1000 0), (6, vi 0)] [(1000, bTr (t))] fun a w hs => ?_
 refine wp_block ?_
 have hk0 := anyK_no (l := t.k) (fun j hj => hall j (by omega))
 clear hall
 refine loop_L (N := Tryz.f53.ntmps) (w0 := w0) (ow := noO fz) (α := Nat × Int) (fun p => [(1, vi p.2), (2, .ptr 1000 0), (6, vi ((p.1 : Nat) : Int))]) (fun p => [(1000, bTr (t))]) (fun p => p.1 ≤ t.v.length ∧ lightL (t.v.drop p.1) p.2 = lightL t.v (m - 1) ∧ -1 ≤ p.2 ∧ p.2 ≤ m) (fun p => t.v.length - p.1) (0, m - 1) ?_ ?_ ?_
 exact ⟨Nat.zero_le _, rfl, by omega, by omega⟩
 exact (hs.cst [(1, vi (m - 1)), (2, .ptr 1000 0), (6, vi ((0 : Nat) : Int))] [(1000, bTr (t))] rfl).rk [(1000, 1000)]
 rintro ⟨i, n_⟩ hJ a w hs
 try dsimp only at hJ
 obtain ⟨hi, hd, hn0, hn1⟩ := hJ
 rcases bd ((i : Int) < (t.v.length : Int)) with ⟨b7, n7⟩ | ⟨b7, n7⟩
 rcases bd (n_ ≥ 0) with ⟨b8, n8⟩ | ⟨b8, n8⟩
 refine wL hs hI [(12, rc [(6, ciV 53 [aTr ((t.v.getD i (dflt .tree))), vi n_] (vi (lightF (t.v.getD i (dflt .tree)) n_)))]), (10, rg [] [6, 7, 1008] [])] (bz 1 1) 171660417897296677788 [q1 b7, q1 b7, q1 b7, q1 b8, q4 (i : Int) t.v.length, q3 ((i : Int) + 1)] .norm [(1, vi (lightF (t.v.getD i (dflt .tree)) n_)), (2, .ptr 1000 0), (6, vi ((i : Int) + 1))] [(1000, bTr (t))] ⟨ih _ _ (by have h1 := nodes_eq t; have h2 := nodes_at (l := t.v) (i := i) (by omega); omega) (by omega) (by omega), tv⟩ fun a w hs => ?_
 refine then_norm ⟨(i + 1, lightF (t.v.getD i (dflt .tree)) n_), ⟨by omega, by rw [← lightL_go (by omega) (by omega)]; exact hd, (light_in _ _ (by omega)).1, by have := (light_in (t.v.getD i (dflt .tree)) n_ (by omega)).2; omega⟩, by omega, ?_⟩
 (have e0_ : (lightF (t.v.getD i (dflt .tree)) n_) = ((lightF (t.v.getD i (dflt .tree)) n_)) := (by first | rfl | (first | rfl | omega)); have e1_ : ((i : Int) + 1) = ((((i + 1) : Nat) : Int)) := (by first | rfl | (first | rfl | omega)); exact (hs.cst [(1, vi (lightF (t.v.getD i (dflt .tree)) n_)), (2, .ptr 1000 0), (6, vi (((i + 1) : Nat) : Int))] [(1000, bTr (t))] (by first | (rw [e0_, e1_]; done) | (simp only [e0_, e1_]; done) | rfl | (simp only [e0_, e1_]; rfl))).rk [(1000, 1000)])
 refine wL hs hI [(10, rg [] [6, 7, 1008] [])] (bz 1 0) 7296677788 [q1 b7, q1 b7, q1 b7, q1 b8] (.exit 2) [(1, vi n_)] [] tv fun a w hs => ?_
 refine then_exit ?_
 refine inb_hit ?_
 refine then_norm ?_
 refine wN hs hI [] 198 [] .ret [(4, vi n_)] [] fun a w hs => ?_
 exact rK (.val (vi n_)) [] hs (by rw [lightF_eq, if_neg (by omega), if_neg (by rw [hk0]; decide), ← hd, lightL_end (by first | exact .inl (List.drop_of_length_le (by omega)) | exact .inr (by omega))])
 refine wL hs hI [(10, rg [] [] [6, 7, 1008])] (bz 1 0) 726673388 [q1 b7, q1 b7, q1 b7, q0 false] (.exit 2) [(1, vi n_)] [] tv fun a w hs => ?_
 refine then_exit ?_
 refine inb_hit ?_
 refine then_norm ?_
 refine wN hs hI [] 198 [] .ret [(4, vi n_)] [] fun a w hs => ?_
 exact rK (.val (vi n_)) [] hs (by rw [lightF_eq, if_neg (by omega), if_neg (by rw [hk0]; decide), ← hd, lightL_end (by first | exact .inl (List.drop_of_length_le (by omega)) | exact .inr (by omega))])
theorem con10 (t : Tree) (m : Int) (hm0 : 0 ≤ m) (hm1 : m ≤ 4000) : Con Tryz.prog I0 10 [.agg (encTree t), vi m] (.val (vb (decide (lightF t m ≥ 0)))) := by
 refine con_of Tryz.func10 rfl (Nat.le_of_ble_eq_true rfl) stab (fun w0 fz a hI hs => ?_)
 refine wL hs hI [(1, rc [(2, ciV 53 [aTr (t), vi m] (vi (lightF t m)))])] [] 12684098 [] .ret [(4, vb (decide ((lightF t m) ≥ 0)))] [] ⟨con53_ (nodes t + 1) t m (Nat.lt_succ_self _) hm0 hm1, tv⟩ fun a w hs => ?_
 exact rK (.val (vb (decide ((lightF t m) ≥ 0)))) [] hs rfl
theorem step_keep {out : List (List ByteArray)} {p q : List ByteArray} (h : q ∈ out) : q ∈ normStep out p := by
 unfold normStep
 split
 split
 exact h
 exact List.mem_append_left _ h
 exact List.mem_append_left _ h
theorem fold_stay : ∀ (s : List (List ByteArray)) {out : List (List ByteArray)} {q : List ByteArray}, q ∈ out → q ∈ s.foldl normStep out
 | [], _, _, h => h
 | p :: s, _, _, h => fold_stay s (step_keep h)
theorem step_cover (out : List (List ByteArray)) (p : List ByteArray) : ∃ o ∈ normStep out p, startsF o p = true := by
 unfold normStep
 split
 rename_i h
 split
 rename_i h2
 exact ⟨_, getD_mem (by have := of_decide_eq_true h; omega) _, h2⟩
 exact ⟨p, by simp, starts_self p⟩
 exact ⟨p, by simp, starts_self p⟩
theorem fold_cover : ∀ (s : List (List ByteArray)) (out : List (List ByteArray)) {p : List ByteArray}, p ∈ s → ∃ o ∈ s.foldl normStep out, startsF o p = true
 | [], _, _, h => by simp at h
 | q :: s, out, p, h => by
  rcases List.mem_cons.1 h with rfl | h
  obtain ⟨o, h1, h2⟩ := step_cover out p
  exact ⟨o, fold_stay s h1, h2⟩
  exact fold_cover s _ h
theorem norm_cover {l : List (List ByteArray)} {p : List ByteArray} (h : p ∈ l) : ∃ o ∈ normF l, startsF o p = true := fold_cover _ _ (sortP_mem.2 h)
theorem starts_trans {a b c : List ByteArray} (h1 : startsF a b = true) (h2 : startsF b c = true) : startsF a c = true := starts_iff.2 ((starts_iff.1 h1).trans (starts_iff.1 h2))
theorem starts_anti {a b : List ByteArray} (h1 : startsF a b = true) (h2 : startsF b a = true) : a = b := (starts_iff.1 h1).eq_of_length_le (starts_iff.1 h2).length_le
theorem pw_mem {α : Type} {r : α → α → Prop} (hs : ∀ a b, r a b → r b a) : ∀ {l : List α}, l.Pairwise r → ∀ {x y : α}, x ∈ l → y ∈ l → x ≠ y → r x y
 | [], _, _, _, h, _, _ => by simp at h
 | a :: l, h, x, y, hx, hy, hne => by
  rw [List.pairwise_cons] at h
  rcases List.mem_cons.1 hx with rfl | hx'
  rcases List.mem_cons.1 hy with rfl | hy'
  exact absurd rfl hne
  exact h.1 y hy'
  rcases List.mem_cons.1 hy with rfl | hy'
  exact hs _ _ (h.1 x hx')
  exact pw_mem hs h.2 hx' hy' hne
theorem norm_iff {l : List (List ByteArray)} {x : List ByteArray} : x ∈ normF l ↔ x ∈ l ∧ ∀ y ∈ l, startsF y x = true → y = x := by
 constructor
 intro h
 refine ⟨normF_mem h, fun y hy hs => ?_⟩
 obtain ⟨o, h1, h2⟩ := norm_cover hy
 have h3 := starts_trans h2 hs
 have h4 : o = x := by
  by_cases e : o = x
  exact e
  have := pw_mem (fun a b h => Inc.symm h) (normF_inc l) h1 h e
  rw [this.no] at h3; cases h3
 subst h4
 exact starts_anti hs h2
 rintro ⟨h1, h2⟩
 obtain ⟨o, h3, h4⟩ := norm_cover h1
 rw [← h2 o (normF_mem h3) h4]; exact h3
theorem norm_nodup (l : List (List ByteArray)) : (normF l).Nodup := (normF_inc l).imp (fun h e => by subst e; have := h.no; rw [starts_self] at this; cases this)
theorem mem_kind {t : Tree} {x : ByteArray} (h : memB t x = true) : t.kind = 7 := by
 by_cases hk : t.kind = 7
 exact hk
 rw [memB_look, mems_none hk] at h; simp [lookA] at h
theorem con93 (xs ys : List ByteArray) (h : xs.length < 1000000000) (h2 : ys.length < 1000000000) : Con Tryz.prog I0 93 [.row .str xs, .row .str ys] (.val (vb (startsF xs ys))) := by
 refine con_of Tryz.func93 rfl (Nat.le_of_ble_eq_true rfl) stab (fun w0 fz a hI hs => ?_)
 refine wNs hs hI [] 11 [] [(0, rwS xs), (1, rwS ys)] [] fun a w hs => ?_
 refine wp_seq ?_
 rcases bd ((ys.length : Int) < (xs.length : Int)) with ⟨b1, n1⟩ | ⟨b1, n1⟩
 refine wN hs hI (bz 1 1) 12172688 [q1 b1] .ret [(4, vb false)] [] fun a w hs => ?_
 refine then_ret ?_
 exact rK (.val (vb false)) [] hs (by rw [starts_len (by omega)])
 refine wN hs hI (bz 1 0) 72688 [q1 b1] .norm [(0, rwS xs), (1, rwS ys)] [] fun a w hs => ?_
 refine then_norm ?_
 refine wp_seq ?_
 refine wNs hs hI [] 11 [] [(0, rwS xs), (1, rwS ys), (5, vi 0)] [] fun a w hs => ?_
 refine wp_block ?_
 refine loop_L (N := Tryz.f93.ntmps) (w0 := w0) (ow := noO fz) (α := Nat) (fun p => [(0, rwS xs), (1, rwS ys), (5, vi (p : Int))]) (fun p => []) (fun p => p ≤ xs.length ∧ ∀ j, j < p → eqT (xs.getD j (dflt .str)) (ys.getD j (dflt .str)) = true) (fun p => xs.length - p) 0 ?_ ?_ ?_
 exact ⟨Nat.zero_le _, fun j hj => absurd hj (Nat.not_lt_zero _)⟩
 exact hs.rk []
 rintro i hJ a w hs
 obtain ⟨hi, hall⟩ := hJ
 rcases bd ((i : Int) < (xs.length : Int)) with ⟨b2, n2⟩ | ⟨b2, n2⟩
 rcases bq ((xs.getD i (dflt .str)).toList) ((ys.getD i (dflt .str)).toList) with ⟨b3, n3⟩ | ⟨b3, n3⟩
 refine wN hs hI (bz 2 1) 171972660707097608 [q1 b2, q4 (i : Int) xs.length, q4 (i : Int) ys.length, q1 (ng1 b3), q3 ((i : Int) + 1)] .norm [(0, rwS xs), (1, rwS ys), (5, vi ((i : Int) + 1))] [] fun a w hs => ?_
 refine then_norm ⟨i + 1, ⟨by omega, fun j hj => by rcases Nat.lt_succ_iff_lt_or_eq.1 hj with h | h; exact hall j h; subst h; exact b3⟩, by omega, ?_⟩
 exact hs.rk []
 refine wN hs hI (bz 2 3) 12172660707097608 [q1 b2, q4 (i : Int) xs.length, q4 (i : Int) ys.length, q1 (ng0 b3)] .ret [(4, vb false)] [] fun a w hs => ?_
 refine then_ret ?_
 refine inb_ret ?_
 refine then_ret ?_
 exact rK (.val (vb false)) [] hs (by rw [starts_no (i := i) (by omega) (by omega) b3])
 refine wN hs hI (bz 1 0) 7608 [q1 b2] (.exit 0) [] [] fun a w hs => ?_
 refine then_exit ?_
 refine inb_hit ?_
 refine then_norm ?_
 refine wN hs hI [] 120 [] .ret [(4, vb true)] [] fun a w hs => ?_
 exact rK (.val (vb true)) [] hs (by rw [starts_yes (by omega) (fun j hj => hall j (by omega))])
def restD (x : ByteArray) (done : Bool) (l : Mem) : Mem := if done = true then l else delA x l
structure DelJ (t : Tree) (x : ByteArray) (i : Nat) (acc : Mem) (done : Bool) : Prop where
 eq : acc ++ restD x done ((mems t).drop i) = delA x (mems t)
 len : acc.length ≤ i
theorem DelJ.start (t : Tree) (x : ByteArray) : DelJ t x 0 [] false := ⟨by simp [restD], Nat.zero_le _⟩
section
variable {t : Tree} {x : ByteArray} {i : Nat} {acc : Mem} {done : Bool} (J : DelJ t x i acc done) (hk : t.kind = 7) (h1 : i < t.k.length) (h2 : i < t.v.length)
include J hk h1 h2
theorem DelJ.hit (hd : done = false) (h : eqT (t.k.getD i (dflt .str)) x = true) : DelJ t x (i + 1) acc true := by
 refine ⟨?_, by have := J.len; omega⟩
 have he := J.eq
 rw [mems_drop hk h1 h2, hd] at he
 rw [← he]
 have e : delA x ((t.k.getD i (dflt .str), t.v.getD i (dflt .tree)) :: (mems t).drop (i + 1)) = (mems t).drop (i + 1) := by
  simp only [delA]; rw [if_pos (by rw [eqT_comm]; exact h)]
 show acc ++ (mems t).drop (i + 1) = acc ++ delA x _
 rw [e]
theorem DelJ.on (h : done = true ∨ eqT (t.k.getD i (dflt .str)) x = false) : DelJ t x (i + 1) (acc ++ [(t.k.getD i (dflt .str), t.v.getD i (dflt .tree))]) done := by
 refine ⟨?_, by have := J.len; simp; omega⟩
 have he := J.eq
 rw [mems_drop hk h1 h2] at he
 rw [← he]
 rcases h with rfl | h
 simp [restD]
 have e : delA x ((t.k.getD i (dflt .str), t.v.getD i (dflt .tree)) :: (mems t).drop (i + 1)) = (t.k.getD i (dflt .str), t.v.getD i (dflt .tree)) :: delA x ((mems t).drop (i + 1)) := by
  simp only [delA]; rw [if_neg (by rw [eqT_comm, h]; decide)]
 cases done with
 | true => simp [restD]
 | false =>
  show (acc ++ [_]) ++ delA x _ = acc ++ delA x _
  rw [e]; simp
end
theorem DelJ.fin {t : Tree} {x : ByteArray} {i : Nat} {acc : Mem} {done : Bool} (J : DelJ t x i acc done) (hb : memB t x = true) (he : (mems t).drop i = []) : unsetT t x = objM acc := by
 have h := J.eq
 rw [he] at h
 have e : restD x done [] = [] := by cases done <;> rfl
 rw [e, List.append_nil] at h
 unfold unsetT; rw [if_pos hb, ← h]
theorem con21 (t : Tree) (x : ByteArray) (hv : t.v.length < 100000000) : Con Tryz.prog I0 21 [.agg (encTree t), vs x] (.val (.agg (encTree (unsetT t x)))) := by
 refine con_of Tryz.func21 rfl (Nat.le_of_ble_eq_true rfl) stab (fun w0 fz a hI hs => ?_)
 refine wNs hs hI [] 8 [] [(1, vs x), (2, .ptr 1000 0), (4, .ptr 1001 0)] [(1000, bTr (t)), (1001, .var zTr)] fun a w hs => ?_
 refine wp_seq ?_
 rcases bt (memB t x) with b1 | b1
 refine wL hs hI [(1, rc [(2, ciV 69 [aTr (t), vs x] (.tup [aTr ((memV t x)), vb (memB t x)]))])] (bz 1 0) 79826618840 [q1 (ng1 b1)] .norm [(1, vs x), (2, .ptr 1000 0), (4, .ptr 1001 0)] [(1000, bTr (t)), (1001, .var zTr)] ⟨con69 _ _ (by omega), tv⟩ fun a w hs => ?_
 refine then_norm ?_
 refine wNs hs hI [] 18 [] [(1, vs x), (2, .ptr 1000 0), (4, .ptr 1001 0), (7, .ptr 5001 0)] [(1000, bTr (t)), (1001, .var zTr), (5001, .var [vi 7, vb false, vb false, nilv, vi 0, vs (ba []), nilv, nilv])] fun a w hs => ?_
 refine wNs hs hI [] 11 [] [(1, vs x), (2, .ptr 1000 0), (4, .ptr 1001 0), (7, .ptr 5001 0), (8, vb false)] [(1000, bTr (t)), (1001, .var zTr), (5001, .var [vi 7, vb false, vb false, nilv, vi 0, vs (ba []), nilv, nilv])] fun a w hs => ?_
 refine wp_seq ?_
 refine wNs hs hI [] 11 [] [(1, vs x), (2, .ptr 1000 0), (4, .ptr 1001 0), (7, .ptr 5001 0), (8, vb false), (9, vi 0)] [(1000, bTr (t)), (1001, .var zTr), (5001, .var [vi 7, vb false, vb false, nilv, vi 0, vs (ba []), nilv, nilv])] fun a w hs => ?_
 refine wp_block ?_
 have hk7 := mem_kind (t := t) (x := x) (by assumption)
 have hbx : memB t x = true := by assumption
 refine loop_L (N := Tryz.f21.ntmps) (w0 := w0) (ow := noO fz) (α := Nat × Mem × Bool) (fun p => [(1, vs x), (2, .ptr 1000 0), (4, .ptr 1001 0), (7, .ptr 90000001 0), (8, vb p.2.2), (9, vi ((p.1 : Nat) : Int))]) (fun p => [(1000, bTr (t)), (1001, .var zTr), (90000001, .var [vi 7, vb false, vb false, nilv, vi 0, vs (ba []), .own 90000002, .own 90000003]), (90000002, .sl 9 .str (mK p.2.1)), (90000003, .sl 29 .tree (mV p.2.1))]) (fun p => (p.1 ≤ t.k.length ∧ p.1 ≤ t.v.length) ∧ DelJ t x p.1 p.2.1 p.2.2) (fun p => t.k.length - p.1) (0, [], false) ?_ ?_ ?_
 exact ⟨⟨Nat.zero_le _, Nat.zero_le _⟩, DelJ.start t x⟩
 (have hs := ((hs.nilB 10000005 5001 6 9 .str [vi 7, vb false, vb false, nilv, vi 0, vs (ba []), nilv, nilv] (by kernel_rfl) (by kernel_rfl) (by decide) (by decide) (by kernel_rfl) (by kernel_rfl)).nilB 10000006 5001 7 29 .tree [vi 7, vb false, vb false, nilv, vi 0, vs (ba []), .own 10000005, nilv] (by kernel_rfl) (by kernel_rfl) (by decide) (by decide) (by kernel_rfl) (by kernel_rfl)).rmT [(1, vs x), (2, .ptr 1000 0), (4, .ptr 1001 0), (7, .ptr 5001 0), (8, vb false), (9, vi 0)] [(1000, bTr (t)), (1001, .var zTr), (5001, .var [vi 7, vb false, vb false, nilv, vi 0, vs (ba []), .own 10000005, .own 10000006]), (10000005, .sl 9 .str ([])), (10000006, .sl 29 .tree ([]))] [(1000, 1000), (1001, 1001), (5001, 5001), (10000005, 10000005), (10000006, 10000006)] (by kernel_rfl); exact (hs.cst [(1, vs x), (2, .ptr 1000 0), (4, .ptr 1001 0), (7, .ptr 5001 0), (8, vb false), (9, vi ((0 : Nat) : Int))] [(1000, bTr (t)), (1001, .var zTr), (5001, .var [vi 7, vb false, vb false, nilv, vi 0, vs (ba []), .own 10000005, .own 10000006]), (10000005, .sl 9 .str (mK ([]))), (10000006, .sl 29 .tree (mV ([])))] rfl).rk [(1000, 1000), (1001, 1001), (90000001, 5001), (90000002, 10000005), (90000003, 10000006)])
 rintro ⟨i, acc, done⟩ hJ a w hs
 try dsimp only at hJ
 obtain ⟨⟨hi, hi2⟩, hJ⟩ := hJ
 have hln := hJ.len
 have hl1 : (mK acc).length = acc.length := List.length_map _
 have hl2 : (mV acc).length = acc.length := List.length_map _
 refine wp_seq ?_
 rcases bd ((i : Int) < (t.k.length : Int)) with ⟨b2, n2⟩ | ⟨b2, n2⟩
 rcases bd ((i : Int) < (t.v.length : Int)) with ⟨b3, n3⟩ | ⟨b3, n3⟩
 refine wL hs hI [(7, rg [] [6, 7, 8, 9, 10, 1011] [])] (bz 1 1) 72666677777788 [q1 b2, q1 b2, q1 b2, q1 b2, q1 b2, q1 b2, q1 b3] .norm [(1, vs x), (2, .ptr 1000 0), (4, .ptr 1001 0), (7, .ptr 90000001 0), (8, vb done), (9, vi (i : Int))] [(1000, bTr (t)), (1001, .var zTr), (90000001, .var [vi 7, vb false, vb false, nilv, vi 0, vs (ba []), .own 90000002, .own 90000003]), (90000002, .sl 9 .str (mK acc)), (90000003, .sl 29 .tree (mV acc))] tv fun a w hs => ?_
 refine then_norm ?_
 rcases bt (done) with b4 | b4
 refine wL hs hI [(9, rg [] [] [3, 4, 5, 6, 7, 8, 9, 1010])] (bz 1 0) 1712966666187171871708972966733333338 [q1 (ng1 b4), q1 (ng1 b4), q1 (ng1 b4), q1 (ng1 b4), q1 (ng1 b4), q1 (ng1 b4), q1 (ng1 b4), q1 (ng1 b4), q0 false, q4 (i : Int) t.k.length, q7 ((mK acc).length) 1 16, q4 (i : Int) t.v.length, q7 ((mV acc).length) 1 120, q3 ((i : Int) + 1)] .norm [(1, vs x), (2, .ptr 1000 0), (4, .ptr 1001 0), (7, .ptr 90000001 0), (8, vb done), (9, vi ((i : Int) + 1))] [(1000, bTr (t)), (1001, .var zTr), (12008, .sl 9 .str ((mK acc) ++ ([(t.k.getD i (dflt .str))]))), (12017, .sl 29 .tree ((mV acc) ++ ([(Tree.et (t.v.getD i (dflt .tree)))]))), (90000001, .var [vi 7, vb false, vb false, nilv, vi 0, vs (ba []), .own 12008, .own 12017])] tv fun a w hs => ?_
 refine then_norm ⟨(i + 1, acc ++ [(t.k.getD i (dflt .str), t.v.getD i (dflt .tree))], done), ⟨⟨by omega, by omega⟩, hJ.on hk7 (by omega) (by omega) (.inl b4)⟩, by omega, ?_⟩
 (have e0_ : ((i : Int) + 1) = ((((i + 1) : Nat) : Int)) := (by first | rfl | (first | rfl | (simp only [mK_add, mV_add, Tree.eta']; rfl) | (simp [mK, mV, Tree.eta']; done))); have e1_ : ((mK acc) ++ ([(t.k.getD i (dflt .str))])) = (mK (acc ++ [(t.k.getD i (dflt .str), t.v.getD i (dflt .tree))])) := (by first | rfl | (first | rfl | (simp only [mK_add, mV_add, Tree.eta']; rfl) | (simp [mK, mV, Tree.eta']; done))); have e2_ : ((mV acc) ++ ([(Tree.et (t.v.getD i (dflt .tree)))])) = (mV (acc ++ [(t.k.getD i (dflt .str), t.v.getD i (dflt .tree))])) := (by first | rfl | (first | rfl | (simp only [mK_add, mV_add, Tree.eta']; rfl) | (simp [mK, mV, Tree.eta']; done))); exact (hs.cst [(1, vs x), (2, .ptr 1000 0), (4, .ptr 1001 0), (7, .ptr 90000001 0), (8, vb done), (9, vi (((i + 1) : Nat) : Int))] [(1000, bTr (t)), (1001, .var zTr), (12008, .sl 9 .str (mK (acc ++ [(t.k.getD i (dflt .str), t.v.getD i (dflt .tree))]))), (12017, .sl 29 .tree (mV (acc ++ [(t.k.getD i (dflt .str), t.v.getD i (dflt .tree))]))), (90000001, .var [vi 7, vb false, vb false, nilv, vi 0, vs (ba []), .own 12008, .own 12017])] (by first | (rw [e0_, e1_, e2_]; done) | (simp only [e0_, e1_, e2_]; done) | rfl | (simp only [e0_, e1_, e2_]; rfl))).rk [(1000, 1000), (1001, 1001), (90000001, 90000001), (90000002, 12008), (90000003, 12017)])
 rcases bq ((t.k.getD i (dflt .str)).toList) (x.toList) with ⟨b5, n5⟩ | ⟨b5, n5⟩
 refine wL hs hI [(9, rg [] [3, 4, 5, 6, 7, 8, 9, 1010] [])] (bz 1 1) 171291217966667777337778 [q1 (ng0 b4), q1 (ng0 b4), q1 (ng0 b4), q1 (ng0 b4), q4 (i : Int) t.k.length, q1 (ng0 b4), q1 (ng0 b4), q1 (ng0 b4), q1 (ng0 b4), q1 b5, q3 ((i : Int) + 1)] .norm [(1, vs x), (2, .ptr 1000 0), (4, .ptr 1001 0), (7, .ptr 90000001 0), (8, vb true), (9, vi ((i : Int) + 1))] [(1000, bTr (t)), (1001, .var zTr), (90000001, .var [vi 7, vb false, vb false, nilv, vi 0, vs (ba []), .own 90000002, .own 90000003]), (90000002, .sl 9 .str (mK acc)), (90000003, .sl 29 .tree (mV acc))] tv fun a w hs => ?_
 refine then_norm ⟨(i + 1, acc, true), ⟨⟨by omega, by omega⟩, hJ.hit hk7 (by omega) (by omega) b4 b5⟩, by omega, ?_⟩
 exact hs.rk [(1000, 1000), (1001, 1001), (90000001, 90000001), (90000002, 90000002), (90000003, 90000003)]
 refine wL hs hI [(9, rg [] [3, 4, 5, 6, 7, 8, 9, 1010] [])] (bz 1 0) 171296666618717187170897966667777337778 [q1 (ng0 b4), q1 (ng0 b4), q1 (ng0 b4), q1 (ng0 b4), q4 (i : Int) t.k.length, q1 (ng0 b4), q1 (ng0 b4), q1 (ng0 b4), q1 (ng0 b4), q1 b5, q4 (i : Int) t.k.length, q7 ((mK acc).length) 1 16, q4 (i : Int) t.v.length, q7 ((mV acc).length) 1 120, q3 ((i : Int) + 1)] .norm [(1, vs x), (2, .ptr 1000 0), (4, .ptr 1001 0), (7, .ptr 90000001 0), (8, vb done), (9, vi ((i : Int) + 1))] [(1000, bTr (t)), (1001, .var zTr), (12008, .sl 9 .str ((mK acc) ++ ([(t.k.getD i (dflt .str))]))), (12017, .sl 29 .tree ((mV acc) ++ ([(Tree.et (t.v.getD i (dflt .tree)))]))), (90000001, .var [vi 7, vb false, vb false, nilv, vi 0, vs (ba []), .own 12008, .own 12017])] tv fun a w hs => ?_
 refine then_norm ⟨(i + 1, acc ++ [(t.k.getD i (dflt .str), t.v.getD i (dflt .tree))], done), ⟨⟨by omega, by omega⟩, hJ.on hk7 (by omega) (by omega) (.inr b5)⟩, by omega, ?_⟩
 (have e0_ : ((i : Int) + 1) = ((((i + 1) : Nat) : Int)) := (by first | rfl | (first | rfl | (simp only [mK_add, mV_add, Tree.eta']; rfl) | (simp [mK, mV, Tree.eta']; done))); have e1_ : ((mK acc) ++ ([(t.k.getD i (dflt .str))])) = (mK (acc ++ [(t.k.getD i (dflt .str), t.v.getD i (dflt .tree))])) := (by first | rfl | (first | rfl | (simp only [mK_add, mV_add, Tree.eta']; rfl) | (simp [mK, mV, Tree.eta']; done))); have e2_ : ((mV acc) ++ ([(Tree.et (t.v.getD i (dflt .tree)))])) = (mV (acc ++ [(t.k.getD i (dflt .str), t.v.getD i (dflt .tree))])) := (by first | rfl | (first | rfl | (simp only [mK_add, mV_add, Tree.eta']; rfl) | (simp [mK, mV, Tree.eta']; done))); exact (hs.cst [(1, vs x), (2, .ptr 1000 0), (4, .ptr 1001 0), (7, .ptr 90000001 0), (8, vb done), (9, vi (((i + 1) : Nat) : Int))] [(1000, bTr (t)), (1001, .var zTr), (12008, .sl 9 .str (mK (acc ++ [(t.k.getD i (dflt .str), t.v.getD i (dflt .tree))]))), (12017, .sl 29 .tree (mV (acc ++ [(t.k.getD i (dflt .str), t.v.getD i (dflt .tree))]))), (90000001, .var [vi 7, vb false, vb false, nilv, vi 0, vs (ba []), .own 12008, .own 12017])] (by first | (rw [e0_, e1_, e2_]; done) | (simp only [e0_, e1_, e2_]; done) | rfl | (simp only [e0_, e1_, e2_]; rfl))).rk [(1000, 1000), (1001, 1001), (90000001, 90000001), (90000002, 12008), (90000003, 12017)])
 refine wL hs hI [(7, rg [] [6, 7, 8, 9, 10, 1011] [])] (bz 1 0) 72666677777788 [q1 b2, q1 b2, q1 b2, q1 b2, q1 b2, q1 b2, q1 b3] (.exit 0) [(4, .ptr 1001 0), (7, .ptr 90000001 0)] [(1001, .var zTr), (90000001, .var [vi 7, vb false, vb false, nilv, vi 0, vs (ba []), .own 90000002, .own 90000003]), (90000002, .sl 9 .str (mK acc)), (90000003, .sl 29 .tree (mV acc))] tv fun a w hs => ?_
 refine then_exit ?_
 refine then_exit ?_
 refine inb_hit ?_
 refine then_norm ?_
 refine wN hs hI [] 198 [] .ret [(4, .ptr 1001 0)] [(1001, .var [vi 7, vb false, vb false, nilv, vi 0, vs (ba []), .own 90000002, .own 90000003]), (90000002, .sl 9 .str (mK acc)), (90000003, .sl 29 .tree (mV acc))] fun a w hs => ?_
 exact rK (.val (.agg [vi 7, vb false, vb false, rwU ([]), vi 0, vs (ba []), rwS (mK acc), rwT (mV acc)])) [90000002, 90000003] hs (by rw [hJ.fin hbx (mems_end (by omega))]; rfl)
 refine wL hs hI [(7, rg [] [] [6, 7, 8, 9, 10, 1011])] (bz 1 0) 766673333388 [q1 b2, q1 b2, q1 b2, q1 b2, q1 b2, q1 b2, q0 false] (.exit 0) [(4, .ptr 1001 0), (7, .ptr 90000001 0)] [(1001, .var zTr), (90000001, .var [vi 7, vb false, vb false, nilv, vi 0, vs (ba []), .own 90000002, .own 90000003]), (90000002, .sl 9 .str (mK acc)), (90000003, .sl 29 .tree (mV acc))] tv fun a w hs => ?_
 refine then_exit ?_
 refine then_exit ?_
 refine inb_hit ?_
 refine then_norm ?_
 refine wN hs hI [] 198 [] .ret [(4, .ptr 1001 0)] [(1001, .var [vi 7, vb false, vb false, nilv, vi 0, vs (ba []), .own 90000002, .own 90000003]), (90000002, .sl 9 .str (mK acc)), (90000003, .sl 29 .tree (mV acc))] fun a w hs => ?_
 exact rK (.val (.agg [vi 7, vb false, vb false, rwU ([]), vi 0, vs (ba []), rwS (mK acc), rwT (mV acc)])) [90000002, 90000003] hs (by rw [hJ.fin hbx (mems_end (by omega))]; rfl)
 refine wL hs hI [(1, rc [(2, ciV 69 [aTr (t), vs x] (.tup [aTr ((memV t x)), vb (memB t x)]))])] (bz 1 1) 19079826618840 [q1 (ng0 b1)] .ret [(4, .ptr 1001 0)] [(1001, bTr (t))] ⟨con69 _ _ (by omega), tv⟩ fun a w hs => ?_
 refine then_ret ?_
 exact rK (.val (aTr (t))) [] hs (by unfold unsetT; rw [if_neg (by rw [b1]; decide)])
abbrev pAt (l : List (List ByteArray)) (i : Nat) : List ByteArray := l.getD i (dflt .strs)
def coverB (l : List (List ByteArray)) (i k : Nat) : Bool := startsF (pAt l k) (pAt l i) && (decide (((pAt l k).length : Int) < ((pAt l i).length : Int)) || decide ((k : Int) < (i : Int)))
def keepF (l : List (List ByteArray)) (i : Nat) : Bool := (List.range l.length).all fun k => !coverB l i k
structure NrmJ (l : List (List ByteArray)) (i : Nat) (m : List (List ByteArray)) : Prop where
 le : i ≤ l.length
 srt : m.Pairwise Le
 nd : m.Nodup
 mem : ∀ x, x ∈ m ↔ ∃ j, j < i ∧ keepF l j = true ∧ pAt l j = x
 len : m.length ≤ i
theorem NrmJ.start (l : List (List ByteArray)) : NrmJ l 0 [] := ⟨Nat.zero_le _, List.Pairwise.nil, List.nodup_nil, fun x => ⟨fun h => by simp at h, fun ⟨j, h, _⟩ => absurd h (Nat.not_lt_zero _)⟩, Nat.le_refl _⟩
theorem NrmJ.skip {l : List (List ByteArray)} {i : Nat} {m : List (List ByteArray)} (h : NrmJ l i m) (hi : i < l.length) (hk : keepF l i = false) : NrmJ l (i + 1) m := by
 refine ⟨by omega, h.srt, h.nd, fun x => ?_, by have := h.len; omega⟩
 rw [h.mem x]
 refine ⟨fun ⟨j, h1, h2, h3⟩ => ⟨j, by omega, h2, h3⟩, fun ⟨j, h1, h2, h3⟩ => ⟨j, ?_, h2, h3⟩⟩
 rcases Nat.lt_succ_iff_lt_or_eq.1 h1 with h4 | h4
 exact h4
 subst h4; rw [hk] at h2; cases h2
theorem keep_yes {l : List (List ByteArray)} {i : Nat} (h : keepF l i = true) {k : Nat} (hk : k < l.length) (hs : startsF (pAt l k) (pAt l i) = true) : ¬ (pAt l k).length < (pAt l i).length ∧ ¬ k < i := by
 have h1 := List.all_eq_true.1 h k (by simpa using hk)
 unfold coverB at h1
 rw [hs, Bool.true_and, Bool.not_eq_true', Bool.or_eq_false_iff] at h1
 have h2 := of_decide_eq_false h1.1
 have h3 := of_decide_eq_false h1.2
 omega
structure InsJ (x : List ByteArray) (m : List (List ByteArray)) (k : Nat) : Prop where
 le : k ≤ m.length
 up : ∀ j, k ≤ j → j < m.length → cmpS x (pAt m j) < 0
theorem InsJ.start (x : List ByteArray) (m : List (List ByteArray)) : InsJ x m m.length := ⟨Nat.le_refl _, fun j h1 h2 => absurd h2 (by omega)⟩
theorem InsJ.on {x : List ByteArray} {m : List (List ByteArray)} {k : Nat} (h : InsJ x m k) (hk : 0 < k) (hl : cmpS x (pAt m (k - 1)) < 0) : InsJ x m (k - 1) := by
 refine ⟨by have := h.le; omega, fun j h1 h2 => ?_⟩
 rcases Nat.lt_or_ge j k with h3 | h3
 rw [show j = k - 1 by omega]; exact hl
 exact h.up j h3 h2
theorem getD_at {m : List (List ByteArray)} {j : Nat} (h : j < m.length) : pAt m j = m[j] := by
 unfold pAt; rw [List.getD_eq_getElem?_getD, List.getElem?_eq_getElem h]; rfl
theorem le_last {m : List (List ByteArray)} (hs : m.Pairwise Le) {j k : Nat} (h : j ≤ k) (hk : k < m.length) : Le (pAt m j) (pAt m k) := by
 rcases Nat.lt_or_eq_of_le h with h1 | h1
 rw [getD_at hk, getD_at (show j < m.length by omega)]
 exact List.pairwise_iff_getElem.1 hs j k (by omega) hk h1
 subst h1; exact Le.refl _
theorem insP_sorted {x : List ByteArray} {m : List (List ByteArray)} {k : Nat} (hs : m.Pairwise Le) (h : InsJ x m k) (h0 : k = 0 ∨ ¬ cmpS x (pAt m (k - 1)) < 0) : (m.take k ++ [x] ++ m.drop k).Pairwise Le := by
 have hle := h.le
 have h1 : ∀ a ∈ m.take k, Le a x := fun a ha => by
  obtain ⟨j, hj, rfl⟩ := List.mem_iff_getElem.1 ha
  rw [List.length_take] at hj
  rcases h0 with h0 | h0
  omega
  have h2 := le_last hs (j := j) (k := k - 1) (by omega) (by omega)
  rw [List.getElem_take, ← getD_at (show j < m.length by omega)]
  exact h2.trans h0
 have h2 : ∀ b ∈ m.drop k, Le x b := fun b hb => by
  obtain ⟨j, hj, rfl⟩ := List.mem_iff_getElem.1 hb
  rw [List.length_drop] at hj
  rw [List.getElem_drop, ← getD_at (show k + j < m.length by omega)]
  have h3 := h.up (k + j) (by omega) (by omega)
  intro h4
  have h5 := cmpS_trans h3 h4
  rw [cmpS_self] at h5
  exact absurd h5 (by decide)
 have hm := hs
 rw [← List.take_append_drop k m, List.pairwise_append] at hm
 rw [List.append_assoc, List.pairwise_append]
 refine ⟨hm.1, ?_, fun a ha b hb => ?_⟩
 rw [List.singleton_append, List.pairwise_cons]
 exact ⟨h2, hm.2.1⟩
 rw [List.singleton_append, List.mem_cons] at hb
 rcases hb with rfl | hb
 exact h1 a ha
 exact hm.2.2 a ha b hb
theorem insP_perm (x : List ByteArray) (m : List (List ByteArray)) (k : Nat) : (m.take k ++ [x] ++ m.drop k).Perm (x :: m) := by
 rw [List.append_assoc, List.singleton_append]
 refine List.perm_middle.trans ?_
 rw [List.take_append_drop]
theorem NrmJ.put {l : List (List ByteArray)} {i k : Nat} {m : List (List ByteArray)} (h : NrmJ l i m) (hi : i < l.length) (hk : keepF l i = true) (hins : InsJ (pAt l i) m k) (h0 : k = 0 ∨ ¬ cmpS (pAt l i) (pAt m (k - 1)) < 0) : NrmJ l (i + 1) (m.take k ++ [pAt l i] ++ m.drop k) := by
 have hp := insP_perm (pAt l i) m k
 refine ⟨by omega, insP_sorted h.srt hins h0, hp.nodup_iff.2 (List.nodup_cons.2 ⟨fun hm => ?_, h.nd⟩), fun x => ?_, by rw [hp.length_eq, List.length_cons]; have := h.len; omega⟩
 obtain ⟨j, h1, h2, h3⟩ := (h.mem _).1 hm
 exact (keep_yes hk (k := j) (by omega) (by rw [h3]; exact starts_self _)).2 h1
 rw [hp.mem_iff, List.mem_cons, h.mem x]
 constructor
 rintro (rfl | ⟨j, h1, h2, h3⟩)
 exact ⟨i, by omega, hk, rfl⟩
 exact ⟨j, by omega, h2, h3⟩
 rintro ⟨j, h1, h2, h3⟩
 rcases Nat.lt_succ_iff_lt_or_eq.1 h1 with h4 | h4
 exact .inr ⟨j, h4, h2, h3⟩
 subst h4; exact .inl h3.symm
theorem first_of {l : List (List ByteArray)} {x : List ByteArray} (h : x ∈ l) : ∃ i, i < l.length ∧ pAt l i = x ∧ ∀ j, j < i → pAt l j ≠ x := by
 induction l with
 | nil => simp at h
 | cons y l ih =>
  by_cases he : y = x
  exact ⟨0, by simp, he, fun j hj => absurd hj (Nat.not_lt_zero _)⟩
  obtain ⟨i, h1, h2, h3⟩ := ih (by rcases List.mem_cons.1 h with h | h; exact absurd h.symm he; exact h)
  refine ⟨i + 1, by simp; omega, h2, fun j hj => ?_⟩
  rcases j with _ | j
  exact he
  exact h3 j (by omega)
theorem NrmJ.fin {l : List (List ByteArray)} {i : Nat} {m : List (List ByteArray)} (h : NrmJ l i m) (hi : i = l.length) : m = normF l := by
 subst hi
 refine List.Perm.eq_of_pairwise (le := Le) (fun a b _ _ h1 h2 => cmpS_anti h2 h1) h.srt (normF_sorted l) ?_
 rw [List.perm_ext_iff_of_nodup h.nd (norm_nodup l)]
 intro x
 rw [h.mem x, norm_iff]
 constructor
 rintro ⟨j, h1, h2, rfl⟩
 refine ⟨getD_mem h1 _, fun y hy hs => ?_⟩
 obtain ⟨k, hk, rfl⟩ := List.mem_iff_getElem.1 hy
 rw [← getD_at hk] at hs ⊢
 have h3 := keep_yes h2 hk hs
 exact (starts_iff.1 hs).eq_of_length_le (by omega)
 rintro ⟨h1, h2⟩
 obtain ⟨j, h3, h4, h5⟩ := first_of h1
 refine ⟨j, h3, ?_, h4⟩
 refine all_yes' (fun k hk => ?_)
 cases hc : coverB l j k with
 | false => rfl
 | true =>
  exfalso
  unfold coverB at hc
  rw [Bool.and_eq_true, h4] at hc
  have h6 := h2 _ (getD_mem hk (dflt .strs)) hc.1
  have h7 := hc.2
  rw [show pAt l k = x from h6] at h7
  simp at h7
  exact h5 k (by omega) h6
structure OneN (n : Nat) (t : Tree) : Prop where
 own : ownO t = true
 ok : Ok t.n.m
 len : t.n.m.length ≤ 3
 k : t.k.length ≤ n
 sorted : ((mems t).map (·.1)).Pairwise ltB
 texts : ∀ p ∈ mems t, textOk p.1 = true
def GoodN (n : Nat) : Nat → Tree → Prop
 | 0, _ => False
 | d + 1, t => OneN n t ∧ t.v.length ≤ n ∧ ∀ u ∈ t.v, GoodN n d u
def MemN (n d : Nat) (t : Tree) : Prop := (mems t).length ≤ n ∧ ((mems t).map (·.1)).Pairwise ltB ∧ ∀ p ∈ mems t, textOk p.1 = true ∧ GoodN n d p.2
theorem goodN_T : ∀ {d : Nat} {t : Tree}, GoodT d t → GoodN 3 d t
 | 0, _, h => h.elim
 | d + 1, t, ⟨h1, h2, h3⟩ => ⟨⟨h1.own, h1.ok, h1.len, h1.k, h1.sorted, h1.texts⟩, h2, fun u hu => goodN_T (h3 u hu)⟩
theorem goodN_mono {n m : Nat} (hn : n ≤ m) : ∀ {d e : Nat} {t : Tree}, d ≤ e → GoodN n d t → GoodN m e t
 | 0, _, _, _, h => h.elim
 | d + 1, 0, _, hd, _ => absurd hd (Nat.not_succ_le_zero d)
 | d + 1, e + 1, t, hd, ⟨h1, h2, h3⟩ => ⟨⟨h1.own, h1.ok, h1.len, Nat.le_trans h1.k hn, h1.sorted, h1.texts⟩, Nat.le_trans h2 hn, fun u hu => goodN_mono hn (Nat.le_of_succ_le_succ hd) (h3 u hu)⟩
theorem goodN_fine {n : Nat} (hn : n < 1000000000) : ∀ {d : Nat} {t : Tree}, GoodN n d t → fineT t
 | 0, _, h => h.elim
 | d + 1, t, ⟨h1, h2, h3⟩ => by
  have hl : ∀ l : List Tree, (∀ u ∈ l, fineT u) → fineL l := by
   intro l
   induction l with
   | nil => intro _; trivial
   | cons x l ih => exact fun h => ⟨h x (by simp), ih (fun u hu => h u (by simp [hu]))⟩
  rw [fine_eq]
  exact ⟨⟨h1.ok, by have := h1.len; omega, by have := h1.k; omega, by omega⟩, hl _ (fun u hu => goodN_fine hn (h3 u hu))⟩
theorem chk_goodN {n : Nat} : ∀ {d : Nat} {t : Tree} {e l : Int}, GoodN n d t → e + d ≤ 65 → (nodes t : Int) ≤ l → (chk t e l).1 = true ∧ (chk t e l).2 = l - nodes t
 | 0, _, _, _, h, _, _ => h.elim
 | d + 1, t, e, l, ⟨h1, h2, h3⟩, he, hl => by
  have hn := nodes_eq t
  have key : ∀ (v : List Tree) (l : Int), (∀ u ∈ v, GoodN n d u) → (nodesL v : Int) ≤ l → (chkL v (e + 1) l).1 = true ∧ (chkL v (e + 1) l).2 = l - nodesL v := by
   intro v
   induction v with
   | nil => intro l _ _; simp [chkL, nodesL]
   | cons x v ih =>
    intro l hv hl
    simp only [nodesL] at hl
    have hx := chk_goodN (e := e + 1) (l := l) (hv x (by simp)) (by omega) (by omega)
    simp only [chkL]
    rw [if_pos hx.1, hx.2]
    have := ih (l - nodes x) (fun u hu => hv u (by simp [hu])) (by omega)
    simp only [nodesL]
    exact ⟨this.1, by rw [this.2]; omega⟩
  rw [chk_eq, if_neg (by
   rintro (h | h | h)
   ·omega
   ·omega
   ·rw [h1.own] at h; cases h)]
  have := key t.v (l - 1) h3 (by omega)
  exact ⟨this.1, by rw [this.2]; omega⟩
theorem goodN_mem {n d : Nat} {t : Tree} (h : GoodN n (d + 1) t) : MemN n d t := ⟨by have := mems_lev t; have := h.2.1; omega, h.1.sorted, fun p hp => ⟨h.1.texts p hp, h.2.2 _ (mems_in hp)⟩⟩
theorem obj_goodN {n d : Nat} {L : Mem} (hn : n ≤ 300) (h1 : L.length ≤ n) (h2 : (L.map (·.1)).Pairwise ltB) (h3 : ∀ p ∈ L, textOk p.1 = true ∧ GoodN n d p.2) : GoodN n (d + 1) (objM L) := by
 refine ⟨⟨own_obj (by omega) h2 (fun p hp => (h3 p hp).1), Ok.nil, Nat.zero_le _, ?_, by rw [mems_objM]; exact h2, by rw [mems_objM]; exact fun p hp => (h3 p hp).1⟩, ?_, fun u hu => ?_⟩
 show (L.map (·.1)).length ≤ n; rw [List.length_map]; exact h1
 show (L.map (·.2)).length ≤ n; rw [List.length_map]; exact h1
 obtain ⟨p, hp, rfl⟩ := List.mem_map.1 (show u ∈ L.map (·.2) from hu)
 exact (h3 p hp).2
theorem setN {n d : Nat} {t u : Tree} {x : ByteArray} (hn : n + 1 ≤ 300) (hx : textOk x = true) (h : MemN n d t) (hu : GoodN (n + 1) d u) : GoodN (n + 1) (d + 1) (setT t x u) := by
 unfold setT
 refine obj_goodN hn ?_ (ins_sorted h.2.1) (fun p hp => ?_)
 have := keys_ins x u (mems t)
 have := h.1; omega
 rcases ins_mem hp with rfl | hp
 exact ⟨hx, hu⟩
 have := h.2.2 p hp
 exact ⟨this.1, goodN_mono (Nat.le_succ n) (Nat.le_refl _) this.2⟩
theorem unsetN {n d : Nat} {t : Tree} {x : ByteArray} (hn : n ≤ 300) (h : GoodN n d t) : GoodN n d (unsetT t x) := by
 unfold unsetT
 split
 cases d with
 | zero => exact h.elim
 | succ d =>
  have hm := goodN_mem h
  have hs := del_sub x (mems t)
  refine obj_goodN hn (Nat.le_trans hs.length_le hm.1) (hm.2.1.sublist (hs.map _)) (fun p hp => hm.2.2 p (hs.subset hp))
 exact h
theorem nil_row {w : World} {fz : Nat → Prop} {η : Nat → Option Value} {v : Value} (τ : Ty) (h : R w fz η v nilv) : R w fz η v (.row τ []) := by
 rw [h.lit_inv]
 exact .row none 0 τ [] (fun _ _ => .bool false) (Nat.le_refl _) (Nat.zero_le _) (fun i x h => by simp at h) (fun i x j y h => by simp at h)
def Wk : List AV → List AV → Prop
 | [], [] => True
 | a :: l, b :: m => (a = b ∨ (a = nilv ∧ ∃ τ, b = .row τ []) ∨ ∃ l', a = .agg l' ∧ ∃ m', b = .agg m' ∧ Wk1 l' m') ∧ Wk l m
 | _, _ => False
where Wk1 : List AV → List AV → Prop
 | [], [] => True
 | a :: l, b :: m => (a = b ∨ (a = nilv ∧ ∃ τ, b = .row τ [])) ∧ Wk1 l m
 | _, _ => False
theorem wk1_len : ∀ {l m : List AV}, Wk.Wk1 l m → l.length = m.length
 | [], [], _ => rfl
 | _ :: _, _ :: _, h => by simp [wk1_len h.2]
theorem wk_len : ∀ {l m : List AV}, Wk l m → l.length = m.length
 | [], [], _ => rfl
 | _ :: _, _ :: _, h => by simp [wk_len h.2]
theorem wk1_at : ∀ {l m : List AV} {j : Nat} {b : AV}, Wk.Wk1 l m → m[j]? = some b → ∃ a, l[j]? = some a ∧ (a = b ∨ (a = nilv ∧ ∃ τ, b = .row τ []))
 | [], [], _, _, _, hb => by simp at hb
 | a :: l, b :: m, 0, _, h, hb => by
  simp only [List.getElem?_cons_zero, Option.some.injEq] at hb
  subst hb
  exact ⟨a, rfl, h.1⟩
 | a :: l, b :: m, j + 1, _, h, hb => by simpa using wk1_at h.2 (by simpa using hb)
theorem wk_at : ∀ {l m : List AV} {j : Nat} {b : AV}, Wk l m → m[j]? = some b → ∃ a, l[j]? = some a ∧ (a = b ∨ (a = nilv ∧ ∃ τ, b = .row τ []) ∨ ∃ l', a = .agg l' ∧ ∃ m', b = .agg m' ∧ Wk.Wk1 l' m')
 | [], [], _, _, _, hb => by simp at hb
 | a :: l, b :: m, 0, _, h, hb => by
  simp only [List.getElem?_cons_zero, Option.some.injEq] at hb
  subst hb
  exact ⟨a, rfl, h.1⟩
 | a :: l, b :: m, j + 1, _, h, hb => by simpa using wk_at h.2 (by simpa using hb)
theorem wk_R {w : World} {fz : Nat → Prop} {η : Nat → Option Value} {v : Value} {a b : AV} (hR : R w fz η v a) (h : a = b ∨ (a = nilv ∧ ∃ τ, b = .row τ []) ∨ ∃ l', a = .agg l' ∧ ∃ m', b = .agg m' ∧ Wk.Wk1 l' m') : R w fz η v b := by
 rcases h with rfl | ⟨rfl, τ, rfl⟩ | ⟨l', rfl, m', rfl, hw⟩
 exact hR
 exact nil_row τ hR
 obtain ⟨vs, rfl, hl, hel⟩ := hR.agg_inv
 refine .agg vs m' (by rw [hl, wk1_len hw]) (fun j v b hv hb => ?_)
 obtain ⟨a, ha, hab⟩ := wk1_at hw hb
 have := hel j v a hv ha
 rcases hab with rfl | ⟨rfl, τ, rfl⟩
 exact this
 exact nil_row τ this
theorem Con.told {P : Program} {I : World → Prop} {f : FuncId} {args args' : List AV} {out : COut} (h : Con P I f args' out) (hw : Wk args args') : Con P I f args out := fun w fz vs hI hf hR => by
 refine h w fz vs hI hf ⟨by rw [hR.1, wk_len hw], fun j v b hv hb => ?_⟩
 obtain ⟨a, ha, hab⟩ := wk_at hw hb
 exact wk_R (hR.2 j v a hv ha) hab
theorem chk_own {t : Tree} {d l : Int} (h : (chk t d l).1 = true) : ownO t = true ∧ (chkL t.v (d + 1) (l - 1)).1 = true := by
 rw [chk_eq] at h
 split at h
 cases h
 rename_i hc
 refine ⟨?_, h⟩
 cases ho : ownO t with
 | true => rfl
 | false => exact absurd (.inr (.inr ho)) hc
theorem chkL_mem : ∀ {v : List Tree} {d l : Int} {c : Tree}, (chkL v d l).1 = true → c ∈ v → ∃ l', (chk c d l').1 = true
 | [], _, _, _, _, h => by simp at h
 | x :: v, d, l, c, h, hc => by
  simp only [chkL] at h
  split at h
  rename_i h1
  rcases List.mem_cons.1 hc with rfl | hc
  exact ⟨l, h1⟩
  exact chkL_mem h hc
  cases h
theorem fineL_of : ∀ {l : List Tree}, (∀ u ∈ l, fineT u) → fineL l
 | [], _ => trivial
 | x :: l, h => ⟨h x (by simp), fineL_of (fun u hu => h u (by simp [hu]))⟩
theorem fine_memV {t : Tree} (h : fineT t) (x : ByteArray) : fineT (memV t x) := by
 cases hb : memB t x with
 | true => exact fine_mem ((fine_eq t).1 h).2 (mem_cutV hb)
 | false => rw [memV_zero hb]; exact (fine_eq _).2 ⟨⟨Ok.nil, by decide, by decide, by decide⟩, trivial⟩
mutual
def okT : Tree → Prop
 | .mk _ _ n _ _ v => Ok n.m ∧ okL v
def okL : List Tree → Prop
 | [] => True
 | t :: l => okT t ∧ okL l
end
mutual
theorem light_fine : ∀ (t : Tree) (m : Int), okT t → 0 ≤ lightF t m → fineT t ∧ nodes t ≤ m - lightF t m
 | .mk k b n s ks v, m, ho, h => by
  rw [lightF_eq] at h ⊢
  split at h
  omega
  rename_i h1
  split at h
  omega
  rename_i h2
  rw [if_neg h1, if_neg h2]
  have ih := lightL_fine v (m - 1) ho.2 h
  simp only [Tree.n, Tree.k, Tree.v, Tree.s] at h1
  refine ⟨(fine_eq _).2 ⟨⟨ho.1, ?_, ?_, ?_⟩, ih.1⟩, ?_⟩
  show n.m.length < _; omega
  show ks.length < _; omega
  show v.length < _; omega
  show ((1 + nodesL v : Nat) : Int) ≤ m - lightL v (m - 1)
  omega
theorem lightL_fine : ∀ (l : List Tree) (m : Int), okL l → 0 ≤ lightL l m → fineL l ∧ nodesL l ≤ m - lightL l m
 | [], m, _, h => ⟨trivial, by simp [nodesL, lightL]⟩
 | t :: l, m, ho, h => by
  simp only [lightL] at h ⊢
  split at h
  rename_i h0
  rw [if_pos h0]
  have hp : 0 ≤ lightF t m := by
   by_cases hq : 0 ≤ lightF t m
   exact hq
   rw [lightL_end (.inr (by omega))] at h; omega
  have h1 := light_fine t m ho.1 hp
  have h2 := lightL_fine l (lightF t m) ho.2 h
  refine ⟨⟨h1.1, h2.1⟩, ?_⟩
  show ((nodes t + nodesL l : Nat) : Int) ≤ _
  omega
  omega
end
def walkF (t : Tree) (d n : Int) : Int := if (chk t d (2000 - n)).1 = true then 2000 - (chk t d (2000 - n)).2 else -1
structure WalkJ (v : List Tree) (d n0 : Int) (i : Nat) (n : Int) : Prop where
 le : i ≤ v.length
 lo : -1 ≤ n
 hi : n ≤ 2000
 eq : if n ≥ 0 then chkL (v.drop i) (d + 1) (2000 - n) = chkL v (d + 1) (2000 - n0) else (chkL v (d + 1) (2000 - n0)).1 = false
theorem WalkJ.start {v : List Tree} {d n : Int} (h0 : 0 ≤ n) (h1 : n ≤ 2000) : WalkJ v d n 0 n := ⟨Nat.zero_le _, by omega, h1, by rw [if_pos h0]; rfl⟩
theorem walkF_in (t : Tree) {d n : Int} (h : n ≤ 2000) (h0 : 0 ≤ n) : -1 ≤ walkF t d n ∧ walkF t d n ≤ 2000 := by
 unfold walkF
 have h1 := chk_le t d (2000 - n) (by omega)
 split
 rename_i hc
 have := h1.2 hc; omega
 omega
theorem WalkJ.on {v : List Tree} {d n0 n : Int} {i : Nat} (h : WalkJ v d n0 i n) (hi : i < v.length) (hn : n ≥ 0) : WalkJ v d n0 (i + 1) (walkF (v.getD i (dflt .tree)) (d + 1) n) := by
 have hq := walkF_in (v.getD i (dflt .tree)) (d := d + 1) h.hi hn
 refine ⟨by omega, hq.1, hq.2, ?_⟩
 have he := h.eq
 rw [if_pos hn] at he
 unfold walkF
 by_cases hc : (chk (v.getD i (dflt .tree)) (d + 1) (2000 - n)).1 = true
 have h1 := chk_le (v.getD i (dflt .tree)) (d + 1) (2000 - n) (by have := h.hi; omega)
 have h2 := h.hi
 rw [if_pos hc, if_pos (by omega), show 2000 - (2000 - (chk (v.getD i (dflt .tree)) (d + 1) (2000 - n)).2) = (chk (v.getD i (dflt .tree)) (d + 1) (2000 - n)).2 by omega, ← chkL_yes hi hc]
 exact he
 rw [if_neg hc, if_neg (by omega), ← he, chkL_no hi (by simpa using hc)]
theorem WalkJ.fin {t : Tree} {d n0 n : Int} {i : Nat} (h : WalkJ t.v d (n0 + 1) i n) (hi : ¬ (i < t.v.length ∧ n ≥ 0)) (h1 : n0 + 1 ≤ 2000) (h2 : d ≤ 64) (h3 : ownO t = true) : n = walkF t d n0 := by
 have he := h.eq
 unfold walkF
 rw [chk_eq, if_neg (c := 2000 - n0 - 1 < 0 ∨ d > 64 ∨ ownO t = false) (by rintro (a | a | a); omega; omega; rw [h3] at a; cases a), show 2000 - n0 - 1 = 2000 - (n0 + 1) by omega]
 by_cases hn : n ≥ 0
 rw [if_pos hn, List.drop_of_length_le (by omega), chkL] at he
 rw [← he, if_pos rfl]; show n = 2000 - (2000 - n); omega
 rw [if_neg hn] at he
 rw [if_neg (by rw [he]; decide)]
 have := h.lo; omega
def bN (s : ByteArray) (i : Nat) : Nat := ((s.data[i]?).getD 0).toNat
theorem byteAt_bN (s : ByteArray) (i : Nat) : byteAt s (i : Int) = (bN s i : Int) := rfl
theorem bN_lt (s : ByteArray) (i : Nat) : bN s i < 256 := by unfold bN; exact UInt8.toNat_lt _
theorem bN_get (s : ByteArray) (i : Nat) : (s.get! i).toNat = bN s i := by
 unfold bN
 show (s.data[i]!).toNat = _
 rw [getElem!_def]
 cases h : s.data[i]? <;> rfl
def contB (s : ByteArray) (i : Nat) : Bool := decide (i < s.size) && (bN s i / 64 == 2)
def rune2 (s : ByteArray) (i : Nat) : Nat := bN s i % 32 * 64 + bN s (i + 1) % 64
def rune3 (s : ByteArray) (i : Nat) : Nat := bN s i % 16 * 4096 + bN s (i + 1) % 64 * 64 + bN s (i + 2) % 64
def rune4 (s : ByteArray) (i : Nat) : Nat := bN s i % 8 * 262144 + bN s (i + 1) % 64 * 4096 + bN s (i + 2) % 64 * 64 + bN s (i + 3) % 64
def c2B (s : ByteArray) (i : Nat) : Bool := decide ((bN s i : Int) ≥ 194) && (decide ((bN s i : Int) < 224) && contB s (i + 1))
def c3B (s : ByteArray) (i : Nat) : Bool := decide ((bN s i : Int) ≥ 224) && (decide ((bN s i : Int) < 240) && (contB s (i + 1) && contB s (i + 2)))
def c4B (s : ByteArray) (i : Nat) : Bool := decide ((bN s i : Int) ≥ 240) && (decide ((bN s i : Int) < 245) && (contB s (i + 1) && (contB s (i + 2) && contB s (i + 3))))
def runeF (s : ByteArray) (i : Nat) : Int × Int :=
 if bN s i < 128 then ((bN s i : Int), 1)
 else if c2B s i = true then ((rune2 s i : Int), 2)
 else if c3B s i = true then (if 2048 ≤ rune3 s i ∧ (rune3 s i < 55296 ∨ 57343 < rune3 s i) then ((rune3 s i : Int), 3) else (-1, 1))
 else if c4B s i = true then (if 65536 ≤ rune4 s i ∧ rune4 s i ≤ 1114111 then ((rune4 s i : Int), 4) else (-1, 1))
 else (-1, 1)
theorem rune_in (s : ByteArray) (i : Nat) : 1 ≤ (runeF s i).2 ∧ (runeF s i).2 ≤ 4 := by
 unfold runeF
 (repeat' split) <;> simp
theorem rune_dec (s : ByteArray) (i : Nat) (h : i < s.size) : (runeF s i).2 = ((Utf8.decode s i).2 : Int) ∧ ((runeF s i).1 < 0 ↔ (Utf8.decode s i).1 = 65533 ∧ (Utf8.decode s i).2 = 1) := by
 have b0 := bN_lt s i
 unfold runeF c2B c3B c4B Utf8.decode rune2 rune3 rune4 contB
 simp only [bN_get, Nat.add_zero, Utf8.runeError, Utf8.valid]
 rw [show (decide ((bN s i : Int) ≥ 194)) = decide (194 ≤ bN s i) from by simp; omega, show (decide ((bN s i : Int) < 224)) = decide (bN s i < 224) from by simp; omega, show (decide ((bN s i : Int) ≥ 224)) = decide (224 ≤ bN s i) from by simp; omega, show (decide ((bN s i : Int) < 240)) = decide (bN s i < 240) from by simp; omega, show (decide ((bN s i : Int) ≥ 240)) = decide (240 ≤ bN s i) from by simp; omega, show (decide ((bN s i : Int) < 245)) = decide (bN s i < 245) from by simp; omega]
 generalize bN s i = x at *
 generalize bN s (i + 1) = y at *
 generalize bN s (i + 2) = z at *
 generalize bN s (i + 3) = u at *
 generalize hA : (decide (i + 1 < s.size) && y / 64 == 2) = A at *
 generalize hB : (decide (i + 2 < s.size) && z / 64 == 2) = B at *
 generalize hC : (decide (i + 3 < s.size) && u / 64 == 2) = C at *
 clear hA hB hC h
 have e2 : ∀ (p q : Prop) [Decidable p] [Decidable q] (D : Bool), ((decide p && (decide q && D)) = true) = (p ∧ q ∧ D = true) := by intros; simp
 simp only [e2]
 by_cases h0 : x < 128
 rw [if_pos h0, if_pos h0]
 refine ⟨rfl, ⟨fun h => ?_, fun h => ?_⟩⟩
 simp at h; omega
 simp at h; omega
 rw [if_neg h0, if_neg h0]
 cases A
 simp
 by_cases h2 : x / 32 = 6
 by_cases h3 : 194 ≤ x
 rw [if_pos ⟨h3, by omega, rfl⟩, if_pos (by simpa using h2), if_pos (by omega)]
 refine ⟨rfl, ⟨fun h => ?_, fun h => ?_⟩⟩
 simp at h; omega
 simp at h
 rw [if_neg (by omega), if_neg (by omega), if_neg (by omega), if_pos (by simpa using h2), if_neg (by omega)]
 simp
 rw [if_neg (by omega), if_neg (c := ((x / 32 == 6 && true) = true)) (by simpa using h2)]
 cases B
 simp
 by_cases h4 : x / 16 = 14
 rw [if_pos ⟨by omega, by omega, rfl⟩, if_pos (c := ((x / 16 == 14 && true && true) = true)) (by simpa using h4)]
 by_cases h5 : 2048 ≤ x % 16 * 4096 + y % 64 * 64 + z % 64 ∧ (x % 16 * 4096 + y % 64 * 64 + z % 64 < 55296 ∨ 57343 < x % 16 * 4096 + y % 64 * 64 + z % 64)
 rw [if_pos h5, if_pos (by simp; omega)]
 refine ⟨rfl, ⟨fun h => ?_, fun h => ?_⟩⟩
 simp at h; omega
 simp at h
 rw [if_neg h5, if_neg (by simp; omega)]
 simp
 rw [if_neg (by omega), if_neg (c := ((x / 16 == 14 && true && true) = true)) (by simpa using h4)]
 cases C
 simp
 by_cases h6 : x / 8 = 30
 rw [if_pos (c := ((x / 8 == 30 && true && true && true) = true)) (by simpa using h6)]
 by_cases h7 : x < 245
 rw [if_pos ⟨by omega, h7, rfl⟩]
 by_cases h8 : 65536 ≤ x % 8 * 262144 + y % 64 * 4096 + z % 64 * 64 + u % 64 ∧ x % 8 * 262144 + y % 64 * 4096 + z % 64 * 64 + u % 64 ≤ 1114111
 rw [if_pos h8, if_pos (by simp; omega)]
 refine ⟨rfl, ⟨fun h => ?_, fun h => ?_⟩⟩
 simp at h; omega
 simp at h
 rw [if_neg h8, if_neg (by simp; omega)]
 simp
 rw [if_neg (by omega), if_neg (by simp; omega)]
 simp
 rw [if_neg (by omega), if_neg (c := ((x / 8 == 30 && true && true && true) = true)) (by simpa using h6)]
 simp
def runesF (s : ByteArray) : Nat → Nat → List Int
 | 0, _ => []
 | b + 1, i => if i < s.size then (runeF s i).1 :: runesF s b (i + (runeF s i).2.toNat) else []
theorem runes_end (s : ByteArray) (b i : Nat) (h : ¬ i < s.size) : runesF s b i = [] := by
 cases b with
 | zero => rfl
 | succ b => rw [runesF, if_neg h]
theorem runes_valid (s : ByteArray) : ∀ b i, ((runesF s b i).all fun r => decide (0 ≤ r)) = X.validAt s b i
 | 0, i => rfl
 | b + 1, i => by
  rw [runesF, X.validAt]
  split
  ·rename_i h
   obtain ⟨h1, h2⟩ := rune_dec s i h
   have e : (runeF s i).2.toNat = (Utf8.decode s i).2 := by omega
   rw [List.all_cons, e, runes_valid s b]
   by_cases hr : (Utf8.decode s i).1 = 65533
   ·rw [if_pos hr]
    by_cases hk : (Utf8.decode s i).2 = 1
    ·rw [if_pos hk, decide_eq_false (by have := h2.2 ⟨hr, hk⟩; omega)]; rfl
    ·rw [if_neg hk, decide_eq_true (by
      by_cases hq : (runeF s i).1 < 0
      ·exact absurd (h2.1 hq).2 hk
      ·omega)]; rfl
   ·rw [if_neg hr, decide_eq_true (by
     by_cases hq : (runeF s i).1 < 0
     ·exact absurd (h2.1 hq).1 hr
     ·omega)]; rfl
  ·rfl
structure RunJ (s : ByteArray) (i : Nat) (acc : List Int) : Prop where
 len : acc.length ≤ i
 le : i ≤ s.size + 4
 eq : ∃ b, acc ++ runesF s b i = runesF s s.size 0 ∧ s.size ≤ i + b
theorem RunJ.start (s : ByteArray) : RunJ s 0 [] := ⟨Nat.zero_le _, Nat.zero_le _, s.size, rfl, by omega⟩
theorem RunJ.on {s : ByteArray} {i : Nat} {acc : List Int} (h : RunJ s i acc) (hi : i < s.size) : RunJ s (i + (runeF s i).2.toNat) (acc ++ [(runeF s i).1]) := by
 obtain ⟨h1, h2, b, h3, h4⟩ := h
 have hr := rune_in s i
 obtain ⟨c, rfl⟩ : ∃ c, b = c + 1 := ⟨b - 1, by omega⟩
 refine ⟨by simp; omega, by omega, c, ?_, by omega⟩
 rw [runesF, if_pos hi] at h3
 rw [List.append_assoc]; exact h3
theorem RunJ.fin {s : ByteArray} {i : Nat} {acc : List Int} (h : RunJ s i acc) (hi : ¬ i < s.size) : acc = runesF s s.size 0 := by
 obtain ⟨_, _, b, h3, _⟩ := h
 rw [runes_end s b i hi, List.append_nil] at h3; exact h3
theorem runes_len (s : ByteArray) : ∀ b i, (runesF s b i).length ≤ b
 | 0, i => Nat.le_refl _
 | b + 1, i => by
  rw [runesF]
  split
  have := runes_len s b (i + (runeF s i).2.toNat); simp; omega
  simp
theorem valid_no {s : ByteArray} {j : Nat} (hj : j < (runesF s s.size 0).length) (h : (runesF s s.size 0).getD j (dflt (.int .i32)) < 0) : X.validAt s s.size 0 = false := by
 rw [← runes_valid, List.all_eq_false]
 exact ⟨_, getD_mem hj (dflt (.int .i32)), by simpa using h⟩
theorem valid_yes {s : ByteArray} (h : ∀ j, j < (runesF s s.size 0).length → ¬ (runesF s s.size 0).getD j (dflt (.int .i32)) < 0) : X.validAt s s.size 0 = true := by
 rw [← runes_valid, List.all_eq_true]
 intro x hx
 obtain ⟨j, hj, rfl⟩ := List.mem_iff_getElem.1 hx
 have h1 := h j hj
 rw [List.getD_eq_getElem?_getD, List.getElem?_eq_getElem hj] at h1
 simp only [Option.getD_some] at h1
 simp; omega
theorem wrap32 {n : Int} (h0 : 0 ≤ n) (h1 : n < 2147483648) : IntKind.wrap .i32 n = n := by
 simp only [IntKind.wrap, IntKind.bits, IntKind.signed]
 simp; omega
theorem or32 (k : Nat) {a b : Nat} (hb : b < 2 ^ k) (h : a * 2 ^ k + b < 2147483648) : bitsOr .i32 ((a * 2 ^ k : Nat) : Int) (b : Int) = ((a * 2 ^ k + b : Nat) : Int) := by
 unfold bitsOr
 have hb' : IntKind.bits .i32 = 32 := rfl
 rw [hb']
 have e2 : (BitVec.ofInt 32 ((a * 2 ^ k : Nat) : Int) ||| BitVec.ofInt 32 (b : Int)).toNat = a * 2 ^ k + b := by
  rw [BitVec.ofInt_natCast, BitVec.ofInt_natCast, BitVec.toNat_or, BitVec.toNat_ofNat, BitVec.toNat_ofNat, Nat.mod_eq_of_lt (by omega), Nat.mod_eq_of_lt (by omega)]
  have := Nat.shiftLeft_add_eq_or_of_lt (i := k) (b := b) hb a
  rw [Nat.shiftLeft_eq] at this
  exact this.symm
 rw [e2, wrap32 (by omega) (by omega)]
theorem and_i32 : ∀ b : Nat, b < 256 → bitsAnd .i32 (b : Int) 31 = ((b % 32 : Nat) : Int) ∧ bitsAnd .i32 (b : Int) 15 = ((b % 16 : Nat) : Int) ∧ bitsAnd .i32 (b : Int) 7 = ((b % 8 : Nat) : Int) := by decide +kernel
theorem and_u8 : ∀ b : Nat, b < 256 → bitsAnd .u8 (b : Int) 63 = ((b % 64 : Nat) : Int) ∧ (bitsAnd .u8 (b : Int) 192 == 128) = (b / 64 == 2) := by decide +kernel
theorem shl32 {x : Nat} (k : Nat) (h : x * 2 ^ k < 2147483648) : IntKind.wrap .i32 ((x : Int) * 2 ^ k) = ((x * 2 ^ k : Nat) : Int) := by
 have e : ((x : Int) * 2 ^ k) = ((x * 2 ^ k : Nat) : Int) := by simp
 rw [e, wrap32 (by omega) (by omega)]
theorem contB_lt {s : ByteArray} {k : Nat} (h : contB s k = true) : k < s.size := by
 unfold contB at h; rw [Bool.and_eq_true] at h; exact of_decide_eq_true h.1
theorem cont_in {s : ByteArray} {at_ : Int} {k : Nat} (h : at_ = k) : (bitsAnd .u8 (byteAt s at_) 192 == 128) = (bN s k / 64 == 2) := by
 subst h; rw [byteAt_bN]; exact (and_u8 _ (bN_lt s k)).2
theorem b32 (s : ByteArray) (i : Nat) : IntKind.wrap .i32 (byteAt s (i : Int)) = (bN s i : Int) := by
 rw [byteAt_bN]; have := bN_lt s i; exact wrap32 (by omega) (by omega)
theorem low6 {s : ByteArray} {at_ : Int} {k : Nat} (h : at_ = k) : IntKind.wrap .i32 (bitsAnd .u8 (byteAt s at_) 63) = ((bN s k % 64 : Nat) : Int) := by
 subst h
 rw [byteAt_bN, (and_u8 _ (bN_lt s k)).1]
 exact wrap32 (by omega) (by omega)
theorem p6 : (2 : Nat) ^ 6 = 64 := rfl
theorem p12 : (2 : Nat) ^ 12 = 4096 := rfl
theorem p18 : (2 : Nat) ^ 18 = 262144 := rfl
theorem mul_lo (X y : Nat) : X * 2 ^ 12 + y * 2 ^ 6 = (X * 64 + y) * 2 ^ 6 := by rw [p12, p6]; omega
theorem rune2_eq (s : ByteArray) (i : Nat) : bitsOr .i32 (IntKind.wrap .i32 ((bitsAnd .i32 (bN s i : Int) 31) * 2 ^ 6)) (IntKind.wrap .i32 (bitsAnd .u8 (byteAt s ((i : Int) + 1)) 63)) = (rune2 s i : Int) := by
 have h := bN_lt s i
 rw [low6 (k := i + 1) (by omega), (and_i32 _ h).1, shl32 6 (by omega), or32 6 (by omega) (by omega)]; rfl
theorem rune3_eq (s : ByteArray) (i : Nat) : bitsOr .i32 (bitsOr .i32 (IntKind.wrap .i32 ((bitsAnd .i32 (bN s i : Int) 15) * 2 ^ 12)) (IntKind.wrap .i32 ((IntKind.wrap .i32 (bitsAnd .u8 (byteAt s ((i : Int) + 1)) 63)) * 2 ^ 6))) (IntKind.wrap .i32 (bitsAnd .u8 (byteAt s ((i : Int) + 2)) 63)) = (rune3 s i : Int) := by
 have h := bN_lt s i
 rw [low6 (k := i + 1) (by omega), low6 (k := i + 2) (by omega), (and_i32 _ h).2.1, shl32 12 (by rw [p12]; omega), shl32 6 (by omega), or32 12 (by rw [p12]; omega) (by rw [p12]; omega)]
 have e : bN s i % 16 * 2 ^ 12 + bN s (i + 1) % 64 * 2 ^ 6 = (bN s i % 16 * 64 + bN s (i + 1) % 64) * 2 ^ 6 := mul_lo _ _
 rw [e, or32 6 (by omega) (by omega)]
 unfold rune3; omega
theorem rune4_eq (s : ByteArray) (i : Nat) : bitsOr .i32 (bitsOr .i32 (bitsOr .i32 (IntKind.wrap .i32 ((bitsAnd .i32 (bN s i : Int) 7) * 2 ^ 18)) (IntKind.wrap .i32 ((IntKind.wrap .i32 (bitsAnd .u8 (byteAt s ((i : Int) + 1)) 63)) * 2 ^ 12))) (IntKind.wrap .i32 ((IntKind.wrap .i32 (bitsAnd .u8 (byteAt s ((i : Int) + 2)) 63)) * 2 ^ 6))) (IntKind.wrap .i32 (bitsAnd .u8 (byteAt s ((i : Int) + 3)) 63)) = (rune4 s i : Int) := by
 have h := bN_lt s i
 rw [low6 (k := i + 1) (by omega), low6 (k := i + 2) (by omega), low6 (k := i + 3) (by omega), (and_i32 _ h).2.2, shl32 18 (by rw [p18]; omega), shl32 12 (by rw [p12]; omega), shl32 6 (by omega), or32 18 (by rw [p18]; omega) (by rw [p18]; omega)]
 have e : bN s i % 8 * 2 ^ 18 + bN s (i + 1) % 64 * 2 ^ 12 = (bN s i % 8 * 64 + bN s (i + 1) % 64) * 2 ^ 12 := by rw [p18, p12, Nat.add_mul, Nat.mul_assoc]
 rw [e, or32 12 (by rw [p12]; omega) (by rw [p12]; omega)]
 have e2 : (bN s i % 8 * 64 + bN s (i + 1) % 64) * 2 ^ 12 + bN s (i + 2) % 64 * 2 ^ 6 = ((bN s i % 8 * 64 + bN s (i + 1) % 64) * 64 + bN s (i + 2) % 64) * 2 ^ 6 := mul_lo _ _
 rw [e2, or32 6 (by omega) (by omega)]
 unfold rune4; omega
theorem con276 (s : ByteArray) (at_ : Int) (k : Nat) (hk : at_ = k) : Con Tryz.prog I0 276 [vs s, vi at_] (.val (vb (contB s k))) := by
 refine con_of Tryz.func276 rfl (Nat.le_of_ble_eq_true rfl) stab (fun w0 fz a hI hs => ?_)
 rcases bd (at_ < (s.size : Int)) with ⟨b1, n1⟩ | ⟨b1, n1⟩
 refine wL hs hI [(1, rg [] [5, 6, 7, 8, 9, 1010] [])] [] 126666177733770820 [q1 b1, q1 b1, q1 b1, q4 at_ s.size, q1 b1, q1 b1, q1 b1] .ret [(4, vb ((bitsAnd .u8 (byteAt s at_) 192) == 128))] [] tv fun a w hs => ?_
 exact rK (.val (vb ((bitsAnd .u8 (byteAt s at_) 192) == 128))) [] hs (by unfold contB; rw [← cont_in (s := s) hk, show decide (k < s.size) = true from by simp; omega]; simp_all)
 refine wL hs hI [(1, rg [] [] [5, 6, 7, 8, 9, 1010])] [] 166617333330820 [q1 b1, q1 b1, q1 b1, q1 b1, q1 b1, q1 b1] .ret [(4, vb false)] [] tv fun a w hs => ?_
 exact rK (.val (vb false)) [] hs (by unfold contB; rw [← cont_in (s := s) hk, show decide (k < s.size) = false from by simp; omega]; simp_all)
theorem con261 (s : ByteArray) (i : Nat) (hi : i < s.size) (hz : s.size < 4294967281) : Con Tryz.prog I0 261 [vs s, vi (i : Int)] (.val (.tup [.lit (.int .i32 ((runeF s i).1)), vi ((runeF s i).2)])) := by
 refine con_of Tryz.func261 rfl (Nat.le_of_ble_eq_true rfl) stab (fun w0 fz a hI hs => ?_)
 refine wNs hs hI [] 8 [] [(0, vs s), (1, vi (i : Int))] [] fun a w hs => ?_
 refine wp_seq ?_
 have b1 : (decide ((i : Int) < 0)) = false := by exact decide_eq_false (by omega)
 have b2 : (decide ((i : Int) ≥ (s.size : Int))) = false := by exact decide_eq_false (by omega)
 refine wL hs hI [(1, rg [] [3, 4, 5, 6] [1007])] (bz 1 0) 7666777778 [q1 b1, q1 b1, q1 b1, q1 b1, q1 b1, q1 b2] .norm [(0, vs s), (1, vi (i : Int))] [] tv fun a w hs => ?_
 refine then_norm ?_
 refine wp_cut (N := Tryz.f261.ntmps) (w0 := w0) (ow := noO fz) (T := [(0, vs s), (1, vi (i : Int)), (6, .lit (.int .i32 (bN s i : Int)))]) (B := []) (True) ?_ ?_
 refine wN hs hI [] 1170 [q4 (i : Int) s.size] .norm [(0, vs s), (1, vi (i : Int)), (6, .lit (.int .i32 (IntKind.wrap .i32 (byteAt s (i : Int)))))] [] fun a w hs => ?_
 refine then_norm ⟨trivial, ?_⟩
 (have e0_ : (IntKind.wrap .i32 (byteAt s (i : Int))) = ((bN s i : Int)) := (by first | rfl | (exact b32 s i)); exact (hs.cst [(0, vs s), (1, vi (i : Int)), (6, .lit (.int .i32 (bN s i : Int)))] [] (by first | (rw [e0_]; done) | (simp only [e0_]; done) | rfl | (simp only [e0_]; rfl))).rk [])
 intro hF a w hs
 refine wp_seq ?_
 refine wp_block ?_
 refine wNs hs hI [] 18 [] [(0, vs s), (1, vi (i : Int)), (6, .lit (.int .i32 (bN s i : Int))), (21, vb (decide ((bN s i : Int) < 128)))] [] fun a w hs => ?_
 refine cond_L (c := 21) hs (b := decide ((bN s i : Int) < 128)) rfl (fun hb => ?_) (fun hb => ?_)
 have b3 := hb
 clear hb
 have n3 := dT b3
 refine wN hs hI [] 12918 [] .ret [(4, .lit (.int .i32 (bN s i : Int))), (5, vi 1)] [] fun a w hs => ?_
 refine inb_ret ?_
 refine then_ret ?_
 exact rK (.val (.tup [.lit (.int .i32 (bN s i : Int)), vi 1])) [] hs (by rw [runeF, if_pos (by omega)])
 have b4 := hb
 clear hb
 have n4 := dF b4
 refine wp_cut (N := Tryz.f261.ntmps) (w0 := w0) (ow := noO fz) (T := [(0, vs s), (1, vi (i : Int)), (6, .lit (.int .i32 (bN s i : Int))), (25, vb (c2B s i))]) (B := []) (True) ?_ ?_
 rcases bd ((bN s i : Int) ≥ 194) with ⟨b5, n5⟩ | ⟨b5, n5⟩
 rcases bd ((bN s i : Int) < 224) with ⟨b6, n6⟩ | ⟨b6, n6⟩
 refine wL hs hI [(6, rg [(10, ciV 276 [vs s, vi ((i : Int) + 1)] (vb (contB s (i + 1))))] [3, 4, 1005, 7, 8, 9, 10, 1011] [])] [] 174333777778 [q1 b5, q1 b5, q1 b5, q1 b6, q1 b6, q1 b6, q3 ((i : Int) + 1), q1 b6, q1 b6] .norm [(0, vs s), (1, vi (i : Int)), (6, .lit (.int .i32 (bN s i : Int))), (25, vb (contB s (i + 1)))] [] ⟨con276 _ _ (i + 1) (by omega), tv⟩ fun a w hs => ?_
 refine then_norm ⟨trivial, ?_⟩
 (have e0_ : (contB s (i + 1)) = (c2B s i) := (by first | rfl | (simp [c2B, b5, b6])); exact (hs.cst [(0, vs s), (1, vi (i : Int)), (6, .lit (.int .i32 (bN s i : Int))), (25, vb (c2B s i))] [] (by first | (rw [e0_]; done) | (simp only [e0_]; done) | rfl | (simp only [e0_]; rfl))).rk [])
 refine wL hs hI [(6, rg [] [3, 4, 1005] [7, 8, 9, 10, 1011])] [] 1733337778 [q1 b5, q1 b5, q1 b5, q1 b6, q1 b6, q1 b6, q1 b6, q1 b6] .norm [(0, vs s), (1, vi (i : Int)), (6, .lit (.int .i32 (bN s i : Int))), (25, vb false)] [] tv fun a w hs => ?_
 refine then_norm ⟨trivial, ?_⟩
 (have e0_ : (false) = (c2B s i) := (by first | rfl | (simp [c2B, b5, b6])); exact (hs.cst [(0, vs s), (1, vi (i : Int)), (6, .lit (.int .i32 (bN s i : Int))), (25, vb (c2B s i))] [] (by first | (rw [e0_]; done) | (simp only [e0_]; done) | rfl | (simp only [e0_]; rfl))).rk [])
 refine wL hs hI [(6, rg [] [] [3, 4, 1005, 7, 8, 9, 10, 1011])] [] 1733337338 [q1 b5, q1 b5, q1 b5, q0 false, q0 false, q0 false, q0 false, q0 false] .norm [(0, vs s), (1, vi (i : Int)), (6, .lit (.int .i32 (bN s i : Int))), (25, vb false)] [] tv fun a w hs => ?_
 refine then_norm ⟨trivial, ?_⟩
 (have e0_ : (false) = (c2B s i) := (by first | rfl | (simp [c2B, b5])); exact (hs.cst [(0, vs s), (1, vi (i : Int)), (6, .lit (.int .i32 (bN s i : Int))), (25, vb (c2B s i))] [] (by first | (rw [e0_]; done) | (simp only [e0_]; done) | rfl | (simp only [e0_]; rfl))).rk [])
 intro hF a w hs
 refine cond_L (c := 25) hs (b := c2B s i) rfl (fun hb => ?_) (fun hb => ?_)
 have b7 := hb
 clear hb
 have hc1 := contB_lt (s := s) (k := i + 1) (by have hq : c2B s i = true := (by assumption); simp only [c2B, Bool.and_eq_true] at hq; exact hq.2.2)
 refine wN hs hI [] 1666087308 [q3 ((i : Int) + 1), q4 ((i : Int) + 1) s.size] .ret [(4, .lit (.int .i32 (bitsOr .i32 (IntKind.wrap .i32 ((bitsAnd .i32 (bN s i : Int) 31) * 2 ^ 6)) (IntKind.wrap .i32 (bitsAnd .u8 (byteAt s ((i : Int) + 1)) 63))))), (5, vi 2)] [] fun a w hs => ?_
 refine inb_ret ?_
 refine then_ret ?_
 exact rK (.val (.tup [.lit (.int .i32 (bitsOr .i32 (IntKind.wrap .i32 ((bitsAnd .i32 (bN s i : Int) 31) * 2 ^ 6)) (IntKind.wrap .i32 (bitsAnd .u8 (byteAt s ((i : Int) + 1)) 63)))), vi 2])) [] hs (by rw [rune2_eq]; rw [runeF, if_neg (by omega), if_pos b7])
 have b8 := hb
 clear hb
 refine wp_cut (N := Tryz.f261.ntmps) (w0 := w0) (ow := noO fz) (T := [(0, vs s), (1, vi (i : Int)), (6, .lit (.int .i32 (bN s i : Int))), (48, vb (c3B s i))]) (B := []) (True) ?_ ?_
 rcases bd ((bN s i : Int) ≥ 224) with ⟨b9, n9⟩ | ⟨b9, n9⟩
 rcases bd ((bN s i : Int) < 240) with ⟨b10, n10⟩ | ⟨b10, n10⟩
 rcases bt (contB s (i + 1)) with b11 | b11
 refine wL hs hI [(8, rg [(10, ciV 276 [vs s, vi ((i : Int) + 1)] (vb (contB s (i + 1)))), (16, ciV 276 [vs s, vi ((i : Int) + 2)] (vb (contB s (i + 2))))] [3, 4, 1005, 7, 8, 9, 10, 1011, 13, 14, 15, 16, 1017] [])] [] 1743337774333777778 [q1 b9, q1 b9, q1 b9, q1 b10, q1 b10, q1 b10, q3 ((i : Int) + 1), q1 b10, q1 b10, q1 b11, q1 b11, q1 b11, q3 ((i : Int) + 2), q1 b11, q1 b11] .norm [(0, vs s), (1, vi (i : Int)), (6, .lit (.int .i32 (bN s i : Int))), (48, vb (contB s (i + 2)))] [] ⟨con276 _ _ (i + 1) (by omega), con276 _ _ (i + 2) (by omega), tv⟩ fun a w hs => ?_
 refine then_norm ⟨trivial, ?_⟩
 (have e0_ : (contB s (i + 2)) = (c3B s i) := (by first | rfl | (simp [c3B, b9, b10, b11])); exact (hs.cst [(0, vs s), (1, vi (i : Int)), (6, .lit (.int .i32 (bN s i : Int))), (48, vb (c3B s i))] [] (by first | (rw [e0_]; done) | (simp only [e0_]; done) | rfl | (simp only [e0_]; rfl))).rk [])
 refine wL hs hI [(8, rg [(10, ciV 276 [vs s, vi ((i : Int) + 1)] (vb (contB s (i + 1))))] [3, 4, 1005, 7, 8, 9, 10, 1011] [13, 14, 15, 16, 1017])] [] 17333374333777778 [q1 b9, q1 b9, q1 b9, q1 b10, q1 b10, q1 b10, q3 ((i : Int) + 1), q1 b10, q1 b10, q1 b11, q1 b11, q1 b11, q1 b11, q1 b11] .norm [(0, vs s), (1, vi (i : Int)), (6, .lit (.int .i32 (bN s i : Int))), (48, vb false)] [] ⟨con276 _ _ (i + 1) (by omega), tv⟩ fun a w hs => ?_
 refine then_norm ⟨trivial, ?_⟩
 (have e0_ : (false) = (c3B s i) := (by first | rfl | (simp [c3B, b9, b10, b11])); exact (hs.cst [(0, vs s), (1, vi (i : Int)), (6, .lit (.int .i32 (bN s i : Int))), (48, vb (c3B s i))] [] (by first | (rw [e0_]; done) | (simp only [e0_]; done) | rfl | (simp only [e0_]; rfl))).rk [])
 refine wL hs hI [(8, rg [] [3, 4, 1005] [7, 8, 9, 10, 1011, 13, 14, 15, 16, 1017])] [] 173333733337778 [q1 b9, q1 b9, q1 b9, q1 b10, q1 b10, q1 b10, q1 b10, q1 b10, q0 false, q0 false, q0 false, q0 false, q0 false] .norm [(0, vs s), (1, vi (i : Int)), (6, .lit (.int .i32 (bN s i : Int))), (48, vb false)] [] tv fun a w hs => ?_
 refine then_norm ⟨trivial, ?_⟩
 (have e0_ : (false) = (c3B s i) := (by first | rfl | (simp [c3B, b9, b10])); exact (hs.cst [(0, vs s), (1, vi (i : Int)), (6, .lit (.int .i32 (bN s i : Int))), (48, vb (c3B s i))] [] (by first | (rw [e0_]; done) | (simp only [e0_]; done) | rfl | (simp only [e0_]; rfl))).rk [])
 refine wL hs hI [(8, rg [] [] [3, 4, 1005, 7, 8, 9, 10, 1011, 13, 14, 15, 16, 1017])] [] 173333733337338 [q1 b9, q1 b9, q1 b9, q0 false, q0 false, q0 false, q0 false, q0 false, q0 false, q0 false, q0 false, q0 false, q0 false] .norm [(0, vs s), (1, vi (i : Int)), (6, .lit (.int .i32 (bN s i : Int))), (48, vb false)] [] tv fun a w hs => ?_
 refine then_norm ⟨trivial, ?_⟩
 (have e0_ : (false) = (c3B s i) := (by first | rfl | (simp [c3B, b9])); exact (hs.cst [(0, vs s), (1, vi (i : Int)), (6, .lit (.int .i32 (bN s i : Int))), (48, vb (c3B s i))] [] (by first | (rw [e0_]; done) | (simp only [e0_]; done) | rfl | (simp only [e0_]; rfl))).rk [])
 intro hF a w hs
 refine cond_L (c := 48) hs (b := c3B s i) rfl (fun hb => ?_) (fun hb => ?_)
 have b12 := hb
 clear hb
 have hc1 := contB_lt (s := s) (k := i + 1) (by have hq : c3B s i = true := (by assumption); simp only [c3B, Bool.and_eq_true] at hq; exact hq.2.2.1)
 have hc2 := contB_lt (s := s) (k := i + 2) (by have hq : c3B s i = true := (by assumption); simp only [c3B, Bool.and_eq_true] at hq; exact hq.2.2.2)
 refine wp_cut (N := Tryz.f261.ntmps) (w0 := w0) (ow := noO fz) (T := [(7, .lit (.int .i32 (rune3 s i : Int)))]) (B := []) (True) ?_ ?_
 refine wN hs hI [] 1873087308 [q3 ((i : Int) + 1), q4 ((i : Int) + 1) s.size, q3 ((i : Int) + 2), q4 ((i : Int) + 2) s.size] .norm [(7, .lit (.int .i32 (bitsOr .i32 (bitsOr .i32 (IntKind.wrap .i32 ((bitsAnd .i32 (bN s i : Int) 15) * 2 ^ 12)) (IntKind.wrap .i32 ((IntKind.wrap .i32 (bitsAnd .u8 (byteAt s ((i : Int) + 1)) 63)) * 2 ^ 6))) (IntKind.wrap .i32 (bitsAnd .u8 (byteAt s ((i : Int) + 2)) 63)))))] [] fun a w hs => ?_
 refine then_norm ⟨trivial, ?_⟩
 (have e0_ : (bitsOr .i32 (bitsOr .i32 (IntKind.wrap .i32 ((bitsAnd .i32 (bN s i : Int) 15) * 2 ^ 12)) (IntKind.wrap .i32 ((IntKind.wrap .i32 (bitsAnd .u8 (byteAt s ((i : Int) + 1)) 63)) * 2 ^ 6))) (IntKind.wrap .i32 (bitsAnd .u8 (byteAt s ((i : Int) + 2)) 63))) = ((rune3 s i : Int)) := (by first | rfl | (exact rune3_eq s i)); exact (hs.cst [(7, .lit (.int .i32 (rune3 s i : Int)))] [] (by first | (rw [e0_]; done) | (simp only [e0_]; done) | rfl | (simp only [e0_]; rfl))).rk [])
 intro hF a w hs
 refine wp_seq ?_
 rcases bd ((rune3 s i : Int) ≥ 2048) with ⟨b13, n13⟩ | ⟨b13, n13⟩
 rcases bd ((rune3 s i : Int) < 55296) with ⟨b14, n14⟩ | ⟨b14, n14⟩
 refine wL hs hI [(10, rg [] [3, 4, 5, 8, 1008, 1009] [6, 7])] [] 733337778 [q1 b13, q1 b13, q1 b13, q1 b14, q1 b14, q1 b13, q1 b14, q1 b13] .norm [(7, .lit (.int .i32 (rune3 s i : Int))), (94, vb true)] [] tv fun a w hs => ?_
 refine then_norm ?_
 refine wN hs hI (bz 1 1) 12987 [q0 true] .ret [(4, .lit (.int .i32 (rune3 s i : Int))), (5, vi 3)] [] fun a w hs => ?_
 refine inb_ret ?_
 refine then_ret ?_
 exact rK (.val (.tup [.lit (.int .i32 (rune3 s i : Int)), vi 3])) [] hs (by rw [runeF, if_neg (by omega), if_neg (by rw [b8]; decide), if_pos b12, if_pos (by omega)])
 refine wL hs hI [(10, rg [] [3, 4, 5, 6, 7, 8, 1009] [1008])] [] 733777778 [q1 b13, q1 b13, q1 b13, q1 b14, q1 b14, q1 b13, q1 b14, q1 b13] .norm [(7, .lit (.int .i32 (rune3 s i : Int))), (94, vb (decide ((rune3 s i : Int) > 57343)))] [] tv fun a w hs => ?_
 refine then_norm ?_
 rcases bd ((rune3 s i : Int) > 57343) with ⟨b15, n15⟩ | ⟨b15, n15⟩
 refine wN hs hI (bz 1 1) 12987 [q1 b15] .ret [(4, .lit (.int .i32 (rune3 s i : Int))), (5, vi 3)] [] fun a w hs => ?_
 refine inb_ret ?_
 refine then_ret ?_
 exact rK (.val (.tup [.lit (.int .i32 (rune3 s i : Int)), vi 3])) [] hs (by rw [runeF, if_neg (by omega), if_neg (by rw [b8]; decide), if_pos b12, if_pos (by omega)])
 refine wN hs hI (bz 1 0) 7 [q1 b15] .norm [] [] fun a w hs => ?_
 refine inb_norm ?_
 refine then_norm ?_
 refine wN hs hI [] 198 [] .ret [(4, .lit (.int .i32 (-1))), (5, vi 1)] [] fun a w hs => ?_
 exact rK (.val (.tup [.lit (.int .i32 (-1)), vi 1])) [] hs (by rw [runeF, if_neg (by omega), if_neg (by rw [b8]; decide), if_pos b12, if_neg (by omega)])
 refine wL hs hI [(10, rg [] [] [3, 4, 5, 8, 1009])] [] 7317338 [q1 b13, q1 b13, q1 b13, q1 b13, q1 b13] .norm [(7, .lit (.int .i32 (rune3 s i : Int))), (94, vb false)] [] tv fun a w hs => ?_
 refine then_norm ?_
 refine wN hs hI (bz 1 0) 7 [q0 false] .norm [] [] fun a w hs => ?_
 refine inb_norm ?_
 refine then_norm ?_
 refine wN hs hI [] 198 [] .ret [(4, .lit (.int .i32 (-1))), (5, vi 1)] [] fun a w hs => ?_
 exact rK (.val (.tup [.lit (.int .i32 (-1)), vi 1])) [] hs (by rw [runeF, if_neg (by omega), if_neg (by rw [b8]; decide), if_pos b12, if_neg (by omega)])
 have b16 := hb
 clear hb
 refine wp_cut (N := Tryz.f261.ntmps) (w0 := w0) (ow := noO fz) (T := [(0, vs s), (1, vi (i : Int)), (6, .lit (.int .i32 (bN s i : Int))), (96, vb (c4B s i))]) (B := []) (True) ?_ ?_
 rcases bd ((bN s i : Int) ≥ 240) with ⟨b17, n17⟩ | ⟨b17, n17⟩
 rcases bd ((bN s i : Int) < 245) with ⟨b18, n18⟩ | ⟨b18, n18⟩
 rcases bt (contB s (i + 1)) with b19 | b19
 rcases bt (contB s (i + 2)) with b20 | b20
 refine wL hs hI [(12, rg [(10, ciV 276 [vs s, vi ((i : Int) + 1)] (vb (contB s (i + 1)))), (16, ciV 276 [vs s, vi ((i : Int) + 2)] (vb (contB s (i + 2)))), (22, ciV 276 [vs s, vi ((i : Int) + 3)] (vb (contB s (i + 3))))] [3, 4, 1005, 7, 8, 9, 10, 1011, 13, 14, 15, 16, 1017, 19, 20, 21, 22, 1023] [])] [] 17433377743337774333777778 [q1 b17, q1 b17, q1 b17, q1 b18, q1 b18, q1 b18, q3 ((i : Int) + 1), q1 b18, q1 b18, q1 b19, q1 b19, q1 b19, q3 ((i : Int) + 2), q1 b19, q1 b19, q1 b20, q1 b20, q1 b20, q3 ((i : Int) + 3), q1 b20, q1 b20] .norm [(0, vs s), (1, vi (i : Int)), (6, .lit (.int .i32 (bN s i : Int))), (96, vb (contB s (i + 3)))] [] ⟨con276 _ _ (i + 1) (by omega), con276 _ _ (i + 2) (by omega), con276 _ _ (i + 3) (by omega), tv⟩ fun a w hs => ?_
 refine then_norm ⟨trivial, ?_⟩
 (have e0_ : (contB s (i + 3)) = (c4B s i) := (by first | rfl | (simp [c4B, b17, b18, b19, b20])); exact (hs.cst [(0, vs s), (1, vi (i : Int)), (6, .lit (.int .i32 (bN s i : Int))), (96, vb (c4B s i))] [] (by first | (rw [e0_]; done) | (simp only [e0_]; done) | rfl | (simp only [e0_]; rfl))).rk [])
 refine wL hs hI [(12, rg [(10, ciV 276 [vs s, vi ((i : Int) + 1)] (vb (contB s (i + 1)))), (16, ciV 276 [vs s, vi ((i : Int) + 2)] (vb (contB s (i + 2))))] [3, 4, 1005, 7, 8, 9, 10, 1011, 13, 14, 15, 16, 1017] [19, 20, 21, 22, 1023])] [] 173333743337774333777778 [q1 b17, q1 b17, q1 b17, q1 b18, q1 b18, q1 b18, q3 ((i : Int) + 1), q1 b18, q1 b18, q1 b19, q1 b19, q1 b19, q3 ((i : Int) + 2), q1 b19, q1 b19, q1 b20, q1 b20, q1 b20, q1 b20, q1 b20] .norm [(0, vs s), (1, vi (i : Int)), (6, .lit (.int .i32 (bN s i : Int))), (96, vb false)] [] ⟨con276 _ _ (i + 1) (by omega), con276 _ _ (i + 2) (by omega), tv⟩ fun a w hs => ?_
 refine then_norm ⟨trivial, ?_⟩
 (have e0_ : (false) = (c4B s i) := (by first | rfl | (simp [c4B, b17, b18, b19, b20])); exact (hs.cst [(0, vs s), (1, vi (i : Int)), (6, .lit (.int .i32 (bN s i : Int))), (96, vb (c4B s i))] [] (by first | (rw [e0_]; done) | (simp only [e0_]; done) | rfl | (simp only [e0_]; rfl))).rk [])
 refine wL hs hI [(12, rg [(10, ciV 276 [vs s, vi ((i : Int) + 1)] (vb (contB s (i + 1))))] [3, 4, 1005, 7, 8, 9, 10, 1011] [13, 14, 15, 16, 1017, 19, 20, 21, 22, 1023])] [] 1733337333374333777778 [q1 b17, q1 b17, q1 b17, q1 b18, q1 b18, q1 b18, q3 ((i : Int) + 1), q1 b18, q1 b18, q1 b19, q1 b19, q1 b19, q1 b19, q1 b19, q0 false, q0 false, q0 false, q0 false, q0 false] .norm [(0, vs s), (1, vi (i : Int)), (6, .lit (.int .i32 (bN s i : Int))), (96, vb false)] [] ⟨con276 _ _ (i + 1) (by omega), tv⟩ fun a w hs => ?_
 refine then_norm ⟨trivial, ?_⟩
 (have e0_ : (false) = (c4B s i) := (by first | rfl | (simp [c4B, b17, b18, b19])); exact (hs.cst [(0, vs s), (1, vi (i : Int)), (6, .lit (.int .i32 (bN s i : Int))), (96, vb (c4B s i))] [] (by first | (rw [e0_]; done) | (simp only [e0_]; done) | rfl | (simp only [e0_]; rfl))).rk [])
 refine wL hs hI [(12, rg [] [3, 4, 1005] [7, 8, 9, 10, 1011, 13, 14, 15, 16, 1017, 19, 20, 21, 22, 1023])] [] 17333373333733337778 [q1 b17, q1 b17, q1 b17, q1 b18, q1 b18, q1 b18, q1 b18, q1 b18, q0 false, q0 false, q0 false, q0 false, q0 false, q0 false, q0 false, q0 false, q0 false, q0 false] .norm [(0, vs s), (1, vi (i : Int)), (6, .lit (.int .i32 (bN s i : Int))), (96, vb false)] [] tv fun a w hs => ?_
 refine then_norm ⟨trivial, ?_⟩
 (have e0_ : (false) = (c4B s i) := (by first | rfl | (simp [c4B, b17, b18])); exact (hs.cst [(0, vs s), (1, vi (i : Int)), (6, .lit (.int .i32 (bN s i : Int))), (96, vb (c4B s i))] [] (by first | (rw [e0_]; done) | (simp only [e0_]; done) | rfl | (simp only [e0_]; rfl))).rk [])
 refine wL hs hI [(12, rg [] [] [3, 4, 1005, 7, 8, 9, 10, 1011, 13, 14, 15, 16, 1017, 19, 20, 21, 22, 1023])] [] 17333373333733337338 [q1 b17, q1 b17, q1 b17, q0 false, q0 false, q0 false, q0 false, q0 false, q0 false, q0 false, q0 false, q0 false, q0 false, q0 false, q0 false, q0 false, q0 false, q0 false] .norm [(0, vs s), (1, vi (i : Int)), (6, .lit (.int .i32 (bN s i : Int))), (96, vb false)] [] tv fun a w hs => ?_
 refine then_norm ⟨trivial, ?_⟩
 (have e0_ : (false) = (c4B s i) := (by first | rfl | (simp [c4B, b17])); exact (hs.cst [(0, vs s), (1, vi (i : Int)), (6, .lit (.int .i32 (bN s i : Int))), (96, vb (c4B s i))] [] (by first | (rw [e0_]; done) | (simp only [e0_]; done) | rfl | (simp only [e0_]; rfl))).rk [])
 intro hF a w hs
 refine cond_L (c := 96) hs (b := c4B s i) rfl (fun hb => ?_) (fun hb => ?_)
 have b21 := hb
 clear hb
 have hc1 := contB_lt (s := s) (k := i + 1) (by have hq : c4B s i = true := (by assumption); simp only [c4B, Bool.and_eq_true] at hq; exact hq.2.2.1)
 have hc2 := contB_lt (s := s) (k := i + 2) (by have hq : c4B s i = true := (by assumption); simp only [c4B, Bool.and_eq_true] at hq; exact hq.2.2.2.1)
 have hc3 := contB_lt (s := s) (k := i + 3) (by have hq : c4B s i = true := (by assumption); simp only [c4B, Bool.and_eq_true] at hq; exact hq.2.2.2.2)
 refine wp_cut (N := Tryz.f261.ntmps) (w0 := w0) (ow := noO fz) (T := [(8, .lit (.int .i32 (rune4 s i : Int)))]) (B := []) (True) ?_ ?_
 refine wN hs hI [] 18730873087308 [q3 ((i : Int) + 1), q4 ((i : Int) + 1) s.size, q3 ((i : Int) + 2), q4 ((i : Int) + 2) s.size, q3 ((i : Int) + 3), q4 ((i : Int) + 3) s.size] .norm [(8, .lit (.int .i32 (bitsOr .i32 (bitsOr .i32 (bitsOr .i32 (IntKind.wrap .i32 ((bitsAnd .i32 (bN s i : Int) 7) * 2 ^ 18)) (IntKind.wrap .i32 ((IntKind.wrap .i32 (bitsAnd .u8 (byteAt s ((i : Int) + 1)) 63)) * 2 ^ 12))) (IntKind.wrap .i32 ((IntKind.wrap .i32 (bitsAnd .u8 (byteAt s ((i : Int) + 2)) 63)) * 2 ^ 6))) (IntKind.wrap .i32 (bitsAnd .u8 (byteAt s ((i : Int) + 3)) 63)))))] [] fun a w hs => ?_
 refine then_norm ⟨trivial, ?_⟩
 (have e0_ : (bitsOr .i32 (bitsOr .i32 (bitsOr .i32 (IntKind.wrap .i32 ((bitsAnd .i32 (bN s i : Int) 7) * 2 ^ 18)) (IntKind.wrap .i32 ((IntKind.wrap .i32 (bitsAnd .u8 (byteAt s ((i : Int) + 1)) 63)) * 2 ^ 12))) (IntKind.wrap .i32 ((IntKind.wrap .i32 (bitsAnd .u8 (byteAt s ((i : Int) + 2)) 63)) * 2 ^ 6))) (IntKind.wrap .i32 (bitsAnd .u8 (byteAt s ((i : Int) + 3)) 63))) = ((rune4 s i : Int)) := (by first | rfl | (exact rune4_eq s i)); exact (hs.cst [(8, .lit (.int .i32 (rune4 s i : Int)))] [] (by first | (rw [e0_]; done) | (simp only [e0_]; done) | rfl | (simp only [e0_]; rfl))).rk [])
 intro hF a w hs
 rcases bd ((rune4 s i : Int) ≥ 65536) with ⟨b22, n22⟩ | ⟨b22, n22⟩
 rcases bd ((rune4 s i : Int) ≤ 1114111) with ⟨b23, n23⟩ | ⟨b23, n23⟩
 refine wL hs hI [(14, rg [] [3, 4, 1005] [])] (bz 1 1) 12987667778 [q1 b22, q1 b22, q1 b22, q1 b23] .ret [(4, .lit (.int .i32 (rune4 s i : Int))), (5, vi 4)] [] tv fun a w hs => ?_
 refine inb_ret ?_
 refine then_ret ?_
 exact rK (.val (.tup [.lit (.int .i32 (rune4 s i : Int)), vi 4])) [] hs (by rw [runeF, if_neg (by omega), if_neg (by rw [b8]; decide), if_neg (by rw [b16]; decide), if_pos b21, if_pos (by omega)])
 refine wL hs hI [(14, rg [] [3, 4, 1005] [])] (bz 1 0) 7667778 [q1 b22, q1 b22, q1 b22, q1 b23] .norm [] [] tv fun a w hs => ?_
 refine inb_norm ?_
 refine then_norm ?_
 refine wN hs hI [] 198 [] .ret [(4, .lit (.int .i32 (-1))), (5, vi 1)] [] fun a w hs => ?_
 exact rK (.val (.tup [.lit (.int .i32 (-1)), vi 1])) [] hs (by rw [runeF, if_neg (by omega), if_neg (by rw [b8]; decide), if_neg (by rw [b16]; decide), if_pos b21, if_neg (by omega)])
 refine wL hs hI [(14, rg [] [] [3, 4, 1005])] (bz 1 0) 7967338 [q1 b22, q1 b22, q1 b22, q0 false] .norm [] [] tv fun a w hs => ?_
 refine inb_norm ?_
 refine then_norm ?_
 refine wN hs hI [] 198 [] .ret [(4, .lit (.int .i32 (-1))), (5, vi 1)] [] fun a w hs => ?_
 exact rK (.val (.tup [.lit (.int .i32 (-1)), vi 1])) [] hs (by rw [runeF, if_neg (by omega), if_neg (by rw [b8]; decide), if_neg (by rw [b16]; decide), if_pos b21, if_neg (by omega)])
 have b24 := hb
 clear hb
 refine wN hs hI [] 1 [] .norm [] [] fun a w hs => ?_
 refine inb_norm ?_
 refine then_norm ?_
 refine wN hs hI [] 198 [] .ret [(4, .lit (.int .i32 (-1))), (5, vi 1)] [] fun a w hs => ?_
 exact rK (.val (.tup [.lit (.int .i32 (-1)), vi 1])) [] hs (by rw [runeF, if_neg (by omega), if_neg (by rw [b8]; decide), if_neg (by rw [b16]; decide), if_neg (by rw [b24]; decide)])
theorem con236 (s : ByteArray) (hz : s.size < 4294967281) : Con Tryz.prog I0 236 [vs s] (.val (.row (.int .i32) (runesF s s.size 0))) := by
 refine con_of Tryz.func236 rfl (Nat.le_of_ble_eq_true rfl) stab (fun w0 fz a hI hs => ?_)
 refine wNs hs hI [] 11 [] [(0, vs s)] [] fun a w hs => ?_
 refine wNs hs hI [] 11 [] [(0, vs s), (3, nilv)] [] fun a w hs => ?_
 refine wp_seq ?_
 refine wNs hs hI [] 11 [] [(0, vs s), (3, nilv), (4, vi 0)] [] fun a w hs => ?_
 refine wp_block ?_
 refine loop_L (N := Tryz.f236.ntmps) (w0 := w0) (ow := noO fz) (α := Nat × List Int) (fun p => [(0, vs s), (3, .own 90000001), (4, vi ((p.1 : Nat) : Int))]) (fun p => [(90000001, .sl 21 (.int .i32) p.2)]) (fun p => RunJ s p.1 p.2) (fun p => s.size - p.1) (0, []) ?_ ?_ ?_
 exact RunJ.start s
 (have hs := (hs.nil 10000005 3 21 (.int .i32) (by kernel_rfl) (by decide) (by kernel_rfl) (by kernel_rfl)).rmT [(0, vs s), (3, .own 10000005), (4, vi 0)] [(10000005, .sl 21 (.int .i32) ([]))] [(10000005, 10000005)] (by kernel_rfl); exact (hs.cst [(0, vs s), (3, .own 10000005), (4, vi ((0 : Nat) : Int))] [(10000005, .sl 21 (.int .i32) ([]))] rfl).rk [(90000001, 10000005)])
 rintro ⟨i, acc⟩ hJ a w hs
 try dsimp only at hJ
 have hln := hJ.len
 have hle := hJ.le
 have hri := rune_in s i
 rcases bd ((i : Int) < (s.size : Int)) with ⟨b1, n1⟩ | ⟨b1, n1⟩
 refine wL hs hI [(4, rc [(2, ciV 261 [vs s, vi (i : Int)] (.tup [.lit (.int .i32 ((runeF s i).1)), vi ((runeF s i).2)]))])] (bz 1 1) 1702617866884097608 [q1 b1, q7 acc.length 1 4, q3 ((i : Int) + ((runeF s i).2))] .norm [(0, vs s), (3, .own 6003), (4, vi ((i : Int) + ((runeF s i).2)))] [(6003, .sl 21 (.int .i32) (acc ++ ([(runeF s i).1])))] ⟨con261 s i (by omega) hz, tv⟩ fun a w hs => ?_
 refine then_norm ⟨(i + (runeF s i).2.toNat, acc ++ [(runeF s i).1]), hJ.on (by omega), by omega, ?_⟩
 (have e0_ : ((i : Int) + ((runeF s i).2)) = ((((i + (runeF s i).2.toNat) : Nat) : Int)) := (by first | rfl | (first | rfl | omega)); have e1_ : (acc ++ ([(runeF s i).1])) = ((acc ++ [(runeF s i).1])) := (by first | rfl | (first | rfl | omega)); exact (hs.cst [(0, vs s), (3, .own 6003), (4, vi (((i + (runeF s i).2.toNat) : Nat) : Int))] [(6003, .sl 21 (.int .i32) (acc ++ [(runeF s i).1]))] (by first | (rw [e0_, e1_]; done) | (simp only [e0_, e1_]; done) | rfl | (simp only [e0_, e1_]; rfl))).rk [(90000001, 6003)])
 refine wN hs hI (bz 1 0) 7608 [q1 b1] (.exit 0) [(3, .own 90000001)] [(90000001, .sl 21 (.int .i32) acc)] fun a w hs => ?_
 refine then_exit ?_
 refine inb_hit ?_
 refine then_norm ?_
 refine wN hs hI [] 198 [] .ret [(2, .own 90000001)] [(90000001, .sl 21 (.int .i32) acc)] fun a w hs => ?_
 exact rK (.val (.row (.int .i32) acc)) [90000001] hs (by rw [hJ.fin (by omega)])
theorem con200 (s : ByteArray) (hz : s.size < 4294967281) : Con Tryz.prog I0 200 [vs s] (.val (vb (X.validAt s s.size 0))) := by
 have hrl := runes_len s s.size 0
 refine con_of Tryz.func200 rfl (Nat.le_of_ble_eq_true rfl) stab (fun w0 fz a hI hs => ?_)
 refine wNs hs hI [] 11 [] [(0, vs s)] [] fun a w hs => ?_
 refine wLs hs hI [(1, rc [(1, ciV 236 [vs s] (.row (.int .i32) (runesF s s.size 0)))])] [] 1141 [] [(3, .row (.int .i32) (runesF s s.size 0))] [] ⟨con236 s hz, tv⟩ fun a w hs => ?_
 refine wp_seq ?_
 refine wNs hs hI [] 11 [] [(3, .row (.int .i32) (runesF s s.size 0)), (4, vi 0)] [] fun a w hs => ?_
 refine wp_block ?_
 refine loop_L (N := Tryz.f200.ntmps) (w0 := w0) (ow := noO fz) (α := Nat) (fun p => [(3, .row (.int .i32) (runesF s s.size 0)), (4, vi (p : Int))]) (fun p => []) (fun p => p ≤ (runesF s s.size 0).length ∧ ∀ j, j < p → ¬ (runesF s s.size 0).getD j (dflt (.int .i32)) < 0) (fun p => (runesF s s.size 0).length - p) 0 ?_ ?_ ?_
 exact ⟨Nat.zero_le _, fun j hj => absurd hj (Nat.not_lt_zero _)⟩
 exact (hs.cst [(3, .row (.int .i32) (runesF s s.size 0)), (4, vi ((0 : Nat) : Int))] [] rfl).rk []
 rintro i hJ a w hs
 obtain ⟨hi, hall⟩ := hJ
 rcases bd ((i : Int) < ((runesF s s.size 0).length : Int)) with ⟨b1, n1⟩ | ⟨b1, n1⟩
 rcases bd (((runesF s s.size 0).getD i (dflt (.int .i32))) < 0) with ⟨b2, n2⟩ | ⟨b2, n2⟩
 refine wN hs hI (bz 2 3) 12172607097608 [q1 b1, q4 (i : Int) ((runesF s s.size 0).length), q1 b2] .ret [(2, vb false)] [] fun a w hs => ?_
 refine then_ret ?_
 refine inb_ret ?_
 refine then_ret ?_
 exact rK (.val (vb false)) [] hs (by rw [valid_no (j := i) (by omega) (of_decide_eq_true b2)])
 refine wN hs hI (bz 2 1) 171972607097608 [q1 b1, q4 (i : Int) ((runesF s s.size 0).length), q1 b2, q3 ((i : Int) + 1)] .norm [(3, .row (.int .i32) (runesF s s.size 0)), (4, vi ((i : Int) + 1))] [] fun a w hs => ?_
 refine then_norm ⟨i + 1, ⟨by omega, fun j hj => by rcases Nat.lt_succ_iff_lt_or_eq.1 hj with h | h; exact hall j h; subst h; exact of_decide_eq_false b2⟩, by omega, ?_⟩
 exact hs.rk []
 refine wN hs hI (bz 1 0) 7608 [q1 b1] (.exit 0) [] [] fun a w hs => ?_
 refine then_exit ?_
 refine inb_hit ?_
 refine then_norm ?_
 refine wN hs hI [] 120 [] .ret [(2, vb true)] [] fun a w hs => ?_
 exact rK (.val (vb true)) [] hs (by rw [valid_yes (fun j hj => hall j (by omega))])
theorem leB_not {x y : ByteArray} : (Op.bytesLess x.toList y.toList || x.toList == y.toList) = !Op.bytesLess y.toList x.toList := by
 have e : (x.toList == y.toList) = eqT x y := rfl
 rw [e]
 rcases ltB_tri x y with h | h | h
 ·rw [ltB_less.2 h, show Op.bytesLess y.toList x.toList = false from by
   cases hq : Op.bytesLess y.toList x.toList with
   | false => rfl
   | true => exact absurd (ltB_trans h (ltB_less.1 hq)) (ltB_irrefl _)]; rfl
 ·subst h
  rw [eqT_self, show Op.bytesLess x.toList x.toList = false from by
   cases hq : Op.bytesLess x.toList x.toList with
   | false => rfl
   | true => exact absurd (ltB_less.1 hq) (ltB_irrefl _)]; rfl
 ·rw [ltB_less.2 h, show Op.bytesLess x.toList y.toList = false from by
   cases hq : Op.bytesLess x.toList y.toList with
   | false => rfl
   | true => exact absurd (ltB_trans h (ltB_less.1 hq)) (ltB_irrefl _), eqT_ne.2 (fun e => by subst e; exact ltB_irrefl _ h)]; rfl
theorem nm_yes {l : List ByteArray} {i : Nat} (h1 : X.validAt (l.getD i (dflt .str)) (l.getD i (dflt .str)).size 0 = true) (h2 : ((l.getD i (dflt .str)).size : Int) ≤ 2000) (h3 : i = 0 ∨ (Op.bytesLess (l.getD i (dflt .str)).toList (l.getD ((i : Int) - 1).toNat (dflt .str)).toList || (l.getD i (dflt .str)).toList == (l.getD ((i : Int) - 1).toNat (dflt .str)).toList) = false) : nmOk l i = true := by
 unfold nmOk textOk
 rw [h1, decide_eq_true h2]
 rcases h3 with h3 | h3
 subst h3; rfl
 rw [leB_not] at h3
 have h4 : Op.bytesLess (l.getD ((i : Int) - 1).toNat (dflt .str)).toList (l.getD i (dflt .str)).toList = true := by simpa using h3
 rw [h4]; simp
theorem nm_bad {l : List ByteArray} {i : Nat} (h : X.validAt (l.getD i (dflt .str)) (l.getD i (dflt .str)).size 0 = false ∨ ((l.getD i (dflt .str)).size : Int) > 2000 ∨ (0 < i ∧ (Op.bytesLess (l.getD i (dflt .str)).toList (l.getD ((i : Int) - 1).toNat (dflt .str)).toList || (l.getD i (dflt .str)).toList == (l.getD ((i : Int) - 1).toNat (dflt .str)).toList) = true)) : nmOk l i = false := by
 unfold nmOk textOk
 rcases h with h | h | ⟨h, h2⟩
 rw [h]; simp
 rw [decide_eq_false (by omega)]; rfl
 rw [leB_not] at h2
 have h4 : Op.bytesLess (l.getD ((i : Int) - 1).toNat (dflt .str)).toList (l.getD i (dflt .str)).toList = false := by simpa using h2
 rw [h4, decide_eq_true (show (i : Int) > 0 by omega)]; simp
theorem con201 (l : List ByteArray) (hsm : ∀ x ∈ l, x.size < 4294967281) (hl : l.length < 4611686018427387904) : Con Tryz.prog I0 201 [.row .str l] (.val (vb (namesOk l))) := by
 refine con_of Tryz.func201 rfl (Nat.le_of_ble_eq_true rfl) stab (fun w0 fz a hI hs => ?_)
 refine wNs hs hI [] 11 [] [(0, rwS l)] [] fun a w hs => ?_
 refine wp_seq ?_
 refine wNs hs hI [] 11 [] [(0, rwS l), (3, vi 0)] [] fun a w hs => ?_
 refine wp_block ?_
 refine loop_L (N := Tryz.f201.ntmps) (w0 := w0) (ow := noO fz) (α := Nat) (fun p => [(0, rwS l), (3, vi (p : Int))]) (fun p => []) (fun p => p ≤ l.length ∧ ∀ j, j < p → nmOk l j = true) (fun p => l.length - p) 0 ?_ ?_ ?_
 exact ⟨Nat.zero_le _, fun j hj => absurd hj (Nat.not_lt_zero _)⟩
 exact (hs.cst [(0, rwS l), (3, vi ((0 : Nat) : Int))] [] rfl).rk []
 rintro i hJ a w hs
 obtain ⟨hi, hall⟩ := hJ
 refine wp_seq ?_
 rcases bd ((i : Int) < (l.length : Int)) with ⟨b1, n1⟩ | ⟨b1, n1⟩
 refine wN hs hI (bz 1 1) 7608 [q1 b1] .norm [(0, rwS l), (3, vi (i : Int))] [] fun a w hs => ?_
 refine then_norm ?_
 rcases bt (X.validAt (l.getD i (dflt .str)) (l.getD i (dflt .str)).size 0) with b2 | b2
 rcases bd (((l.getD i (dflt .str)).size : Int) > 2000) with ⟨b3, n3⟩ | ⟨b3, n3⟩
 refine wL hs hI [(4, rg [(4, ciV 200 [vs (l.getD i (dflt .str))] (vb (X.validAt (l.getD i (dflt .str)) (l.getD i (dflt .str)).size 0)))] [7, 8, 9, 10, 11, 12, 1029] [1013, 15, 16, 17, 28])] (bz 1 1) 12179666666673888733727272723327270470 [q4 (i : Int) l.length, q1 (ng1 b2), q1 (ng1 b2), q1 (ng1 b2), q4 (i : Int) l.length, q1 (ng1 b2), q1 (ng1 b2), q1 (ng1 b2), q1 (ng1 b2), q1 b3, q1 b3, q1 b3, q1 b3, q1 b3, q0 true] .ret [(2, vb false)] [] ⟨con200 _ (hsm _ (getD_mem (by omega) _)), tv⟩ fun a w hs => ?_
 refine then_ret ?_
 refine inb_ret ?_
 refine then_ret ?_
 exact rK (.val (vb false)) [] hs (by simp only [namesOk]; rw [all_no' (i := i) (by omega) (nm_bad (.inr (.inl (by omega))))]; rfl)
 rcases bd ((i : Int) > 0) with ⟨b4, n4⟩ | ⟨b4, n4⟩
 rcases bt (Op.bytesLess (l.getD i (dflt .str)).toList (l.getD (((i : Int) - 1).toNat) (dflt .str)).toList || (l.getD i (dflt .str)).toList == (l.getD (((i : Int) - 1).toNat) (dflt .str)).toList) with b5 | b5
 refine wL hs hI [(4, rg [(4, ciV 200 [vs (l.getD i (dflt .str))] (vb (X.validAt (l.getD i (dflt .str)) (l.getD i (dflt .str)).size 0)))] [7, 8, 9, 10, 11, 12, 15, 16, 17, 18, 19, 20, 21, 22, 23, 24, 25, 26, 27, 28, 1028] [1013, 1029])] (bz 1 1) 121796666666723327272332332727272332727272727727272723327270470 [q4 (i : Int) l.length, q1 (ng1 b2), q1 (ng1 b2), q1 (ng1 b2), q4 (i : Int) l.length, q1 (ng1 b2), q1 (ng1 b2), q1 (ng1 b2), q1 (ng1 b2), q1 b3, q1 b3, q1 b3, q1 b4, q1 b4, q1 b4, q4 (i : Int) l.length, q1 b4, q1 b4, q1 b4, q1 b4, q3 ((i : Int) - 1), q1 b4, q4 ((i : Int) - 1) l.length, q1 b4, q1 b4, q1 b3, q1 b4, q1 b3, q1 b5] .ret [(2, vb false)] [] ⟨con200 _ (hsm _ (getD_mem (by omega) _)), tv⟩ fun a w hs => ?_
 refine then_ret ?_
 refine inb_ret ?_
 refine then_ret ?_
 exact rK (.val (vb false)) [] hs (by simp only [namesOk]; rw [all_no' (i := i) (by omega) (nm_bad (.inr (.inr ⟨by omega, by simp_all⟩)))]; rfl)
 refine wL hs hI [(4, rg [(4, ciV 200 [vs (l.getD i (dflt .str))] (vb (X.validAt (l.getD i (dflt .str)) (l.getD i (dflt .str)).size 0)))] [7, 8, 9, 10, 11, 12, 15, 16, 17, 18, 19, 20, 21, 22, 23, 24, 25, 26, 27, 28, 1028] [1013, 1029])] (bz 1 0) 1719796666666723327272332332727272332727272727727272723327270470 [q4 (i : Int) l.length, q1 (ng1 b2), q1 (ng1 b2), q1 (ng1 b2), q4 (i : Int) l.length, q1 (ng1 b2), q1 (ng1 b2), q1 (ng1 b2), q1 (ng1 b2), q1 b3, q1 b3, q1 b3, q1 b4, q1 b4, q1 b4, q4 (i : Int) l.length, q1 b4, q1 b4, q1 b4, q1 b4, q3 ((i : Int) - 1), q1 b4, q4 ((i : Int) - 1) l.length, q1 b4, q1 b4, q1 b3, q1 b4, q1 b3, q1 b5, q3 ((i : Int) + 1)] .norm [(0, rwS l), (3, vi ((i : Int) + 1))] [] ⟨con200 _ (hsm _ (getD_mem (by omega) _)), tv⟩ fun a w hs => ?_
 refine then_norm ⟨i + 1, ⟨by omega, fun j hj => by rcases Nat.lt_succ_iff_lt_or_eq.1 hj with h | h; exact hall j h; subst h; exact nm_yes (by simpa using b2) (by omega) (by exact .inr (by simpa [Bool.or_eq_false_iff] using b5))⟩, by omega, ?_⟩
 exact hs.rk []
 refine wL hs hI [(4, rg [(4, ciV 200 [vs (l.getD i (dflt .str))] (vb (X.validAt (l.getD i (dflt .str)) (l.getD i (dflt .str)).size 0)))] [7, 8, 9, 10, 11, 12, 15, 16, 17, 28] [1013, 18, 19, 20, 21, 22, 23, 24, 25, 26, 27, 1028, 1029])] (bz 1 0) 171979666666672333333333333272727727272723327270470 [q4 (i : Int) l.length, q1 (ng1 b2), q1 (ng1 b2), q1 (ng1 b2), q4 (i : Int) l.length, q1 (ng1 b2), q1 (ng1 b2), q1 (ng1 b2), q1 (ng1 b2), q1 b3, q1 b3, q1 b3, q1 b4, q1 b4, q1 b4, q1 b4, q1 b4, q1 b4, q1 b4, q1 b4, q1 b4, q1 b4, q1 b3, q1 b4, q1 b3, q0 false, q3 ((i : Int) + 1)] .norm [(0, rwS l), (3, vi ((i : Int) + 1))] [] ⟨con200 _ (hsm _ (getD_mem (by omega) _)), tv⟩ fun a w hs => ?_
 refine then_norm ⟨i + 1, ⟨by omega, fun j hj => by rcases Nat.lt_succ_iff_lt_or_eq.1 hj with h | h; exact hall j h; subst h; exact nm_yes (by simpa using b2) (by omega) (by exact .inl (by omega))⟩, by omega, ?_⟩
 exact hs.rk []
 refine wL hs hI [(4, rg [(4, ciV 200 [vs (l.getD i (dflt .str))] (vb (X.validAt (l.getD i (dflt .str)) (l.getD i (dflt .str)).size 0)))] [1013, 1029] [7, 8, 9, 10, 11, 12, 15, 16, 17, 28])] (bz 1 1) 1217966666667388873373333330470 [q4 (i : Int) l.length, q1 (ng0 b2), q1 (ng0 b2), q1 (ng0 b2), q1 (ng0 b2), q1 (ng0 b2), q1 (ng0 b2), q1 (ng0 b2), q0 true, q0 true, q0 true, q0 true, q0 true, q0 true] .ret [(2, vb false)] [] ⟨con200 _ (hsm _ (getD_mem (by omega) _)), tv⟩ fun a w hs => ?_
 refine then_ret ?_
 refine inb_ret ?_
 refine then_ret ?_
 exact rK (.val (vb false)) [] hs (by simp only [namesOk]; rw [all_no' (i := i) (by omega) (nm_bad (.inl b2))]; rfl)
 refine wN hs hI (bz 1 0) 7608 [q1 b1] (.exit 0) [(0, rwS l)] [] fun a w hs => ?_
 refine then_exit ?_
 refine then_exit ?_
 refine inb_hit ?_
 refine then_norm ?_
 refine wN hs hI [] 1608 [] .ret [(2, vb (decide ((l.length : Int) ≤ 300)))] [] fun a w hs => ?_
 exact rK (.val (vb (decide ((l.length : Int) ≤ 300)))) [] hs (by simp only [namesOk]; rw [all_yes' (fun j hj => hall j (by omega))]; simp)
theorem con199 (n : Num) : Con Tryz.prog I0 199 [.agg [vb n.neg, .row (.int .u32) n.m, vi n.e]] (.val (vb (ownN n))) := by
 refine con_of Tryz.func199 rfl (Nat.le_of_ble_eq_true rfl) stab (fun w0 fz a hI hs => ?_)
 rcases bt (n.neg) with b1 | b1
 refine wL hs hI [(1, rg [] [] [4, 5, 6, 7, 1008, 10, 11, 12, 1013])] [] 12966617333733331898 [q1 (ng1 b1), q1 (ng1 b1), q1 (ng1 b1), q1 (ng1 b1), q1 (ng1 b1), q0 false, q0 false, q0 false, q0 false] .ret [(2, vb false)] [] tv fun a w hs => ?_
 exact rK (.val (vb false)) [] hs (by simp only [ownN, b1]; rfl)
 rcases bq (n.m.length : Int) (0) with ⟨b2, n2⟩ | ⟨b2, n2⟩
 refine wL hs hI [(1, rg [] [4, 5, 6, 7, 1008, 10, 11, 12, 1013] [])] [] 196666617777777771898 [q1 (ng0 b1), q1 (ng0 b1), q1 (ng0 b1), q1 (ng0 b1), q1 (ng0 b1), q1 b2, q1 b2, q1 b2, q1 b2] .ret [(2, vb (n.e == 0))] [] tv fun a w hs => ?_
 exact rK (.val (vb (n.e == 0))) [] hs (by simp only [ownN, b1, b2]; rfl)
 refine wL hs hI [(1, rg [] [4, 5, 6, 7, 1008] [10, 11, 12, 1013])] [] 129666617333777771898 [q1 (ng0 b1), q1 (ng0 b1), q1 (ng0 b1), q1 (ng0 b1), q1 (ng0 b1), q1 b2, q1 b2, q1 b2, q1 b2] .ret [(2, vb false)] [] tv fun a w hs => ?_
 exact rK (.val (vb false)) [] hs (by simp only [ownN, b1, b2]; rfl)
theorem con64_ : ∀ (n : Nat) (t : Tree), nodes t < n → nodes t < 4611686018427387904 → Con Tryz.prog I0 64 [.agg (encTree t)] (.val (vi ((nodes t : Nat) : Int))) := by
 intro n
 induction n
 case zero => intro t hn; omega
 rename_i n ih
 intro t hn hw
 refine con_of Tryz.func64 rfl (Nat.le_of_ble_eq_true rfl) stab (fun w0 fz a hI hs => ?_)
 refine wNs hs hI [] 8 [] [(1, .ptr 1000 0)] [(1000, bTr (t))] fun a w hs => ?_
 refine wNs hs hI [] 11 [] [(1, .ptr 1000 0), (3, vi 1)] [(1000, bTr (t))] fun a w hs => ?_
 refine wp_seq ?_
 refine wNs hs hI [] 11 [] [(1, .ptr 1000 0), (3, vi 1), (4, vi 0)] [(1000, bTr (t))] fun a w hs => ?_
 refine wp_block ?_
 refine loop_L (N := Tryz.f64.ntmps) (w0 := w0) (ow := noO fz) (α := Nat) (fun p => [(1, .ptr 1000 0), (3, vi ((1 + nodesL (t.v.take p) : Nat) : Int)), (4, vi (p : Int))]) (fun p => [(1000, bTr (t))]) (fun p => p ≤ t.v.length) (fun p => t.v.length - p) 0 ?_ ?_ ?_
 exact Nat.zero_le _
 (have e0_ : (1) = (((1 + nodesL (t.v.take 0) : Nat) : Int)) := (by first | rfl | (simp only [List.take_zero, nodesL]; omega)); have e1_ : (0) = (((0 : Nat) : Int)) := (by first | rfl | (simp only [List.take_zero, nodesL]; omega)); exact (hs.cst [(1, .ptr 1000 0), (3, vi ((1 + nodesL (t.v.take 0) : Nat) : Int)), (4, vi ((0 : Nat) : Int))] [(1000, bTr (t))] (by first | (rw [e0_, e1_]; done) | (simp only [e0_, e1_]; done) | rfl | (simp only [e0_, e1_]; rfl))).rk [(1000, 1000)])
 rintro i hJ a w hs
 have hwt := nodes_eq t
 have hle := nodesL_le t.v i
 have hlen := nodesL_len t.v
 rcases bd ((i : Int) < (t.v.length : Int)) with ⟨b1, n1⟩ | ⟨b1, n1⟩
 have ht1 := nodesL_take t.v i (by omega)
 have hle1 := nodesL_le t.v (i + 1)
 refine wL hs hI [(5, rc [(6, ciV 64 [aTr ((t.v.getD i (dflt .tree)))] (vi ((nodes (t.v.getD i (dflt .tree)) : Nat) : Int)))])] (bz 1 1) 171266174718972688 [q1 b1, q4 (i : Int) t.v.length, q3 (((1 + nodesL (t.v.take i) : Nat) : Int) + ((nodes (t.v.getD i (dflt .tree)) : Nat) : Int)), q3 ((i : Int) + 1)] .norm [(1, .ptr 1000 0), (3, vi (((1 + nodesL (t.v.take i) : Nat) : Int) + ((nodes (t.v.getD i (dflt .tree)) : Nat) : Int))), (4, vi ((i : Int) + 1))] [(1000, bTr (t))] ⟨ih _ (by have h1 := nodes_eq t; have h2 := nodes_at (l := t.v) (i := i) (by omega); omega) (by have := weightL_take t.v i (by omega); have := weightL_le t.v (i + 1); have := nodesL_take t.v i (by omega); have := nodesL_le t.v (i + 1); have := weight_eq t; have := nodes_eq t; omega), tv⟩ fun a w hs => ?_
 refine then_norm ⟨i + 1, by omega, by omega, ?_⟩
 (have e0_ : (((1 + nodesL (t.v.take i) : Nat) : Int) + ((nodes (t.v.getD i (dflt .tree)) : Nat) : Int)) = (((1 + nodesL (t.v.take (i + 1)) : Nat) : Int)) := (by first | rfl | (omega)); have e1_ : ((i : Int) + 1) = ((((i + 1) : Nat) : Int)) := (by first | rfl | (omega)); exact (hs.cst [(1, .ptr 1000 0), (3, vi ((1 + nodesL (t.v.take (i + 1)) : Nat) : Int)), (4, vi (((i + 1) : Nat) : Int))] [(1000, bTr (t))] (by first | (rw [e0_, e1_]; done) | (simp only [e0_, e1_]; done) | rfl | (simp only [e0_, e1_]; rfl))).rk [(1000, 1000)])
 refine wN hs hI (bz 1 0) 72688 [q1 b1] (.exit 0) [(3, vi ((1 + nodesL (t.v.take i) : Nat) : Int))] [] fun a w hs => ?_
 refine then_exit ?_
 refine inb_hit ?_
 refine then_norm ?_
 refine wN hs hI [] 198 [] .ret [(2, vi ((1 + nodesL (t.v.take i) : Nat) : Int))] [] fun a w hs => ?_
 exact rK (.val (vi ((1 + nodesL (t.v.take i) : Nat) : Int))) [] hs (by have h1 := nodes_eq t; have h2 : t.v.take i = t.v := List.take_of_length_le (by omega); rw [h2, ← h1])
theorem con64 (t : Tree) (h : nodes t < 4611686018427387904) : Con Tryz.prog I0 64 [.agg (encTree t)] (.val (vi ((nodes t : Nat) : Int))) := con64_ (nodes t + 1) t (Nat.lt_succ_self _) h
theorem con66_ : ∀ (n : Nat) (t : Tree), nodes t < n → nodes t < 4611686018427387904 → Con Tryz.prog I0 66 [.agg (encTree t)] (.val (vi ((depth t : Nat) : Int))) := by
 intro n
 induction n
 case zero => intro t hn; omega
 rename_i n ih
 intro t hn hw
 refine con_of Tryz.func66 rfl (Nat.le_of_ble_eq_true rfl) stab (fun w0 fz a hI hs => ?_)
 refine wNs hs hI [] 8 [] [(1, .ptr 1000 0)] [(1000, bTr (t))] fun a w hs => ?_
 refine wNs hs hI [] 11 [] [(1, .ptr 1000 0), (3, vi 0)] [(1000, bTr (t))] fun a w hs => ?_
 refine wp_seq ?_
 refine wNs hs hI [] 11 [] [(1, .ptr 1000 0), (3, vi 0), (4, vi 0)] [(1000, bTr (t))] fun a w hs => ?_
 refine wp_block ?_
 refine loop_L (N := Tryz.f66.ntmps) (w0 := w0) (ow := noO fz) (α := Nat) (fun p => [(1, .ptr 1000 0), (3, vi ((depthL (t.v.take p) : Nat) : Int)), (4, vi (p : Int))]) (fun p => [(1000, bTr (t))]) (fun p => p ≤ t.v.length) (fun p => t.v.length - p) 0 ?_ ?_ ?_
 exact Nat.zero_le _
 exact (hs.cst [(1, .ptr 1000 0), (3, vi ((depthL (t.v.take 0) : Nat) : Int)), (4, vi ((0 : Nat) : Int))] [(1000, bTr (t))] rfl).rk [(1000, 1000)]
 rintro i hJ a w hs
 have hwt := nodes_eq t
 have hlen := nodesL_len t.v
 have hdl := depthL_le (t.v.take i)
 have hle := nodesL_le t.v i
 rcases bd ((i : Int) < (t.v.length : Int)) with ⟨b1, n1⟩ | ⟨b1, n1⟩
 have ht1 := depthL_take t.v i (by omega)
 refine wL hs hI [(5, rc [(6, ciV 66 [aTr ((t.v.getD i (dflt .tree)))] (vi ((depth (t.v.getD i (dflt .tree)) : Nat) : Int)))])] (bz 1 1) 17126684718972688 [q1 b1, q4 (i : Int) t.v.length, q3 ((i : Int) + 1)] .norm [(1, .ptr 1000 0), (3, vi (max ((depthL (t.v.take i) : Nat) : Int) ((depth (t.v.getD i (dflt .tree)) : Nat) : Int))), (4, vi ((i : Int) + 1))] [(1000, bTr (t))] ⟨ih _ (by have h1 := nodes_eq t; have h2 := nodes_at (l := t.v) (i := i) (by omega); omega) (by have := weightL_take t.v i (by omega); have := weightL_le t.v (i + 1); have := nodesL_take t.v i (by omega); have := nodesL_le t.v (i + 1); have := weight_eq t; have := nodes_eq t; omega), tv⟩ fun a w hs => ?_
 refine then_norm ⟨i + 1, by omega, by omega, ?_⟩
 (have e0_ : (max ((depthL (t.v.take i) : Nat) : Int) ((depth (t.v.getD i (dflt .tree)) : Nat) : Int)) = (((depthL (t.v.take (i + 1)) : Nat) : Int)) := (by first | rfl | (omega)); have e1_ : ((i : Int) + 1) = ((((i + 1) : Nat) : Int)) := (by first | rfl | (omega)); exact (hs.cst [(1, .ptr 1000 0), (3, vi ((depthL (t.v.take (i + 1)) : Nat) : Int)), (4, vi (((i + 1) : Nat) : Int))] [(1000, bTr (t))] (by first | (rw [e0_, e1_]; done) | (simp only [e0_, e1_]; done) | rfl | (simp only [e0_, e1_]; rfl))).rk [(1000, 1000)])
 refine wN hs hI (bz 1 0) 72688 [q1 b1] (.exit 0) [(3, vi ((depthL (t.v.take i) : Nat) : Int))] [] fun a w hs => ?_
 refine then_exit ?_
 refine inb_hit ?_
 refine then_norm ?_
 refine wN hs hI [] 129171 [q3 (((depthL (t.v.take i) : Nat) : Int) + 1)] .ret [(2, vi (((depthL (t.v.take i) : Nat) : Int) + 1))] [] fun a w hs => ?_
 exact rK (.val (vi (((depthL (t.v.take i) : Nat) : Int) + 1))) [] hs (by have h1 := depth_eq t; have h2 : t.v.take i = t.v := List.take_of_length_le (by omega); rw [h2, show (((depthL t.v : Nat) : Int) + 1) = ((depth t : Nat) : Int) by omega])
theorem con66 (t : Tree) (h : nodes t < 4611686018427387904) : Con Tryz.prog I0 66 [.agg (encTree t)] (.val (vi ((depth t : Nat) : Int))) := con66_ (nodes t + 1) t (Nat.lt_succ_self _) h
end Go.Proofs.YtondpnipoogoiaaGreatDoor.F
