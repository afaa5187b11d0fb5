/- DiffMergesCardSaid -/
import Derived.Test.YtfimffgfnhplkaaGreatDoorJ9
import Derived.Test.YtfimffgfnhplkaaGreatDoorJ8
import Derived.Test.YtfimffgfnhplkaaGreatDoorJ5
set_option maxRecDepth 100000
set_option linter.unusedVariables false
set_option linter.unusedSimpArgs false
namespace Go.Proofs.YtfimffgfnhplkaaGreatDoor.F
open Go Go.RowKit Go.Proofs.Tryz
theorem conPutP (x : ByteArray) (v : Tree) (ks : List ByteArray) (us : List Tree) (ms : List (El .strs)) (hk : ks.length < 4000000000) (hu : us.length < 4000000000) : ConB Tryz.prog I0 68 [.ptr 0 2, vs x, .agg (encTree v)] [(0, .var [vi 3, nilv, vi 7, vb false, vb false, nilv, vi 0, vs (ba []), .own 1, .own 2, .own 3]), (1, .sl 9 .str ks), (2, .sl 28 .tree us), (3, .sl 25 .strs ms)] (.val (.tup [])) [(0, .var [vi 3, nilv, vi 7, vb false, vb false, nilv, vi 0, vs (ba []), .own 2007, .own 3007, .own 3]), (3, .sl 25 .strs ms), (2007, .sl 9 .str (ks ++ [x])), (3007, .sl 28 .tree (us ++ [v]))] := by
 refine con_ofB Tryz.func68 rfl (Nat.le_of_ble_eq_true rfl) (by kernel_rfl) (fun w0 fz η a hI hs => ?_)
 refine wN hs hI [] 873318829668718820 [q7 ks.length 1 16, q7 us.length 1 120, ⟨0 ≤ (us.length : Int) ∧ (us.length : Int) < (us ++ ([(Tree.mk 0 false ⟨false, [], 0⟩ (ba []) ([]) ([]))])).length, (by first | omega | (simp; done) | (simp; omega))⟩, ⟨us.length < (us ++ ([(Tree.mk 0 false ⟨false, [], 0⟩ (ba []) ([]) ([]))])).length, (by first | omega | (simp; done) | (simp; omega))⟩] .norm [] [(0, .var [vi 3, nilv, vi 7, vb false, vb false, nilv, vi 0, vs (ba []), .own 2007, .own 3007, .own 3]), (3, .sl 25 .strs ms), (2007, .sl 9 .str (ks ++ ([x]))), (3007, .sl 28 .tree ((us ++ ([(Tree.mk 0 false ⟨false, [], 0⟩ (ba []) ([]) ([]))])).set us.length (Tree.et v)))] fun a w hs => ?_
 exact FnQB_cast (out := .val (.tup [])) (bo := [(0, .var [vi 3, nilv, vi 7, vb false, vb false, nilv, vi 0, vs (ba []), .own 2007, .own 3007, .own 3]), (3, .sl 25 .strs ms), (2007, .sl 9 .str (ks ++ ([x]))), (3007, .sl 28 .tree ((us ++ ([(Tree.mk 0 false ⟨false, [], 0⟩ (ba []) ([]) ([]))])).set us.length (Tree.et v)))]) (rfl) (by simp only [Tree.eta', setLast]) (norm_okB _ hs (by kernel_rfl) (by kernel_rfl))
theorem conMasked (ta tb : Tree) (hfa : fineT ta) (hfb : fineT tb) (hka : ∀ x ∈ ta.k, x.size < 4294967281) (hkb : ∀ x ∈ tb.k, x.size < 4294967281) : Con Tryz.prog I0 35 [.agg (encTree ta), .agg (encTree tb)] (.val (.tup [.agg (encP (maskG ta tb).1), vb (maskG ta tb).2])) := by
 have hfo := obT_fine hfa
 have ha1 := ((fine_eq (obT ta)).1 hfo).1.2.2.1
 have hb1 := ((fine_eq tb).1 hfb).1.2.2.1
 have hb2 := cutK_le tb
 have hnl := namesU_len (obT ta) tb
 refine con_of Tryz.func35 rfl (Nat.le_of_ble_eq_true rfl) stab (fun w0 fz a hI hs => ?_)
 refine wNs hs hI [] 118 [] [(2, .ptr 1000 0), (3, .ptr 1001 0), (4, .ptr 1002 0)] [(1000, bTr (ta)), (1001, bTr (tb)), (1002, .var [vi 0, nilv, vi 0, vb false, vb false, nilv, vi 0, vs (ba []), nilv, nilv, nilv])] fun a w hs => ?_
 refine wNs hs hI [] 118 [] [(2, .ptr 1000 0), (3, .ptr 1001 0), (4, .ptr 1002 0), (6, .ptr 2002 0)] [(1000, bTr (ta)), (1001, bTr (tb)), (1002, .var [vi 0, nilv, vi 0, vb false, vb false, nilv, vi 0, vs (ba []), nilv, nilv, nilv]), (2002, .var [vi 3, nilv, vi 7, vb false, vb false, nilv, vi 0, vs (ba []), nilv, nilv, nilv])] fun a w hs => ?_
 refine wp_seq ?_
 rcases bt (sameT ta tb) with b1 | b1
 refine wL hs hI [(2, rc [(2, ciV 55 [aTr (ta), aTr (tb)] (vb (sameT ta tb)))])] (bz 1 1) 1298729140 [q1 b1] .ret [(4, .ptr 1002 0), (5, vb true)] [(1002, .var [vi 3, nilv, vi 7, vb false, vb false, nilv, vi 0, vs (ba []), nilv, nilv, nilv])] ⟨conSame _ _ hfa hfb, tv⟩ fun a w hs => ?_
 refine then_ret ?_
 exact rK (.val (.tup [.agg [vi 3, .row .opn ([]), vi 7, vb false, vb false, rwU ([]), vi 0, vs (ba []), rwS ([]), rwT ([]), .row .strs ([])], vb true])) [] hs (by rw [maskG, if_pos b1]; rfl)
 refine wL hs hI [(2, rc [(2, ciV 55 [aTr (ta), aTr (tb)] (vb (sameT ta tb)))])] (bz 1 0) 729140 [q1 b1] .norm [(2, .ptr 1000 0), (3, .ptr 1001 0), (4, .ptr 1002 0), (6, .ptr 2002 0)] [(1000, bTr (ta)), (1001, bTr (tb)), (1002, .var [vi 0, nilv, vi 0, vb false, vb false, nilv, vi 0, vs (ba []), nilv, nilv, nilv]), (2002, .var [vi 3, nilv, vi 7, vb false, vb false, nilv, vi 0, vs (ba []), nilv, nilv, nilv])] ⟨conSame _ _ hfa hfb, tv⟩ fun a w hs => ?_
 refine then_norm ?_
 refine wNs hs hI [] 118 [] [(2, .ptr 1000 0), (3, .ptr 1001 0), (4, .ptr 1002 0), (6, .ptr 2002 0), (7, vb (ta.kind == 7))] [(1000, bTr (ta)), (1001, bTr (tb)), (1002, .var [vi 0, nilv, vi 0, vb false, vb false, nilv, vi 0, vs (ba []), nilv, nilv, nilv]), (2002, .var [vi 3, nilv, vi 7, vb false, vb false, nilv, vi 0, vs (ba []), nilv, nilv, nilv])] fun a w hs => ?_
 refine wp_seq ?_
 rcases bt (tb.kind != 7) with b2 | b2
 have n2 := bne_iff_ne.1 b2
 refine wL hs hI [(5, rg [] [1012] [4, 5, 6, 11])] (bz 1 1) 12987266673873318 [q1 b2, q1 b2, q1 b2, q1 b2, q1 b2, q0 true] .ret [(4, .ptr 1002 0), (5, vb false)] [(1002, .var [vi 0, nilv, vi 0, vb false, vb false, nilv, vi 0, vs (ba []), nilv, nilv, nilv])] tv fun a w hs => ?_
 refine then_ret ?_
 exact rK (.val (.tup [.agg [vi 0, .row .opn ([]), vi 0, vb false, vb false, rwU ([]), vi 0, vs (ba []), rwS ([]), rwT ([]), .row .strs ([])], vb false])) [] hs (by rw [maskG, if_neg (by rw [b1]; decide), if_pos (by omega)]; rfl)
 have n2 := bne_eq_false_iff_eq.1 b2
 rcases bq (ta.kind) (7) with ⟨b3, n3⟩ | ⟨b3, n3⟩
 refine wL hs hI [(5, rg [] [4, 5, 6, 11] [7, 8, 9, 10, 1011, 1012])] (bz 1 0) 726666733333377718 [q1 b2, q1 b2, q1 b2, q1 (ng1 b3), q1 (ng1 b3), q1 (ng1 b3), q1 (ng1 b3), q1 b2, q1 (ng1 b3), q1 b2, q0 false] .norm [(2, .ptr 1000 0), (3, .ptr 1001 0), (4, .ptr 1002 0), (6, .ptr 2002 0)] [(1000, bTr (ta)), (1001, bTr (tb)), (1002, .var [vi 0, nilv, vi 0, vb false, vb false, nilv, vi 0, vs (ba []), nilv, nilv, nilv]), (2002, .var [vi 3, nilv, vi 7, vb false, vb false, nilv, vi 0, vs (ba []), nilv, nilv, nilv])] tv fun a w hs => ?_
 refine then_norm ?_
 refine wLs hs hI [(7, rc [(1, ciV 65 [aTr (ta)] (aTr ((obT ta))))])] [] 1141 [] [(2, .ptr 1000 0), (3, .ptr 1001 0), (4, .ptr 1002 0), (6, .ptr 2002 0)] [(1000, bTr ((obT ta))), (1001, bTr (tb)), (1002, .var [vi 0, nilv, vi 0, vb false, vb false, nilv, vi 0, vs (ba []), nilv, nilv, nilv]), (2002, .var [vi 3, nilv, vi 7, vb false, vb false, nilv, vi 0, vs (ba []), nilv, nilv, nilv])] ⟨conObT _, tv⟩ fun a w hs => ?_
 refine wp_seq ?_
 refine wLs hs hI [(8, rc [(2, ciV 66 [aTr ((obT ta)), aTr (tb)] (rwS (namesU (obT ta) tb)))])] [] 840 [] [(2, .ptr 1000 0), (3, .ptr 1001 0), (4, .ptr 1002 0), (6, .ptr 2002 0), (41, rwS (namesU (obT ta) tb)), (42, vi ((namesU (obT ta) tb).length : Int)), (43, vi 0)] [(1000, bTr ((obT ta))), (1001, bTr (tb)), (1002, .var [vi 0, nilv, vi 0, vb false, vb false, nilv, vi 0, vs (ba []), nilv, nilv, nilv]), (2002, .var [vi 3, nilv, vi 7, vb false, vb false, nilv, vi 0, vs (ba []), nilv, nilv, nilv])] ⟨(conNames _ _ (by omega) (by omega)).frz, tv⟩ fun a w hs => ?_
 refine wp_block ?_
 refine loop_L (N := Tryz.f35.ntmps) (w0 := w0) (ow := noO fz) (α := Nat) (fun p => [(2, .ptr 1000 0), (3, .ptr 1001 0), (4, .ptr 1002 0), (6, .ptr 90000001 0), (41, rwS (namesU (obT ta) tb)), (42, vi ((namesU (obT ta) tb).length : Int)), (43, vi (p : Int))]) (fun p => [(1000, bTr ((obT ta))), (1001, bTr (tb)), (1002, .var [vi 0, nilv, vi 0, vb false, vb false, nilv, vi 0, vs (ba []), nilv, nilv, nilv]), (90000001, .var [vi 3, nilv, vi 7, vb false, vb false, nilv, vi 0, vs (ba []), .own 90000002, .own 90000003, .own 90000004]), (90000002, .sl 9 .str (vK (obT ta) tb p)), (90000003, .sl 28 .tree (vV (obT ta) tb p)), (90000004, .sl 25 .strs (maskI (obT ta) tb p))]) (fun p => p ≤ (namesU (obT ta) tb).length) (fun p => (namesU (obT ta) tb).length - p) 0 ?_ ?_ ?_
 exact Nat.zero_le _
 (have hs := (((hs.nilB 10000003 2002 8 9 .str [vi 3, nilv, vi 7, vb false, vb false, nilv, vi 0, vs (ba []), nilv, nilv, nilv] (by kernel_rfl) (by kernel_rfl) (by decide) (by decide) (by kernel_rfl) (by kernel_rfl)).nilB 10000004 2002 9 28 .tree [vi 3, nilv, vi 7, vb false, vb false, nilv, vi 0, vs (ba []), .own 10000003, nilv, nilv] (by kernel_rfl) (by kernel_rfl) (by decide) (by decide) (by kernel_rfl) (by kernel_rfl)).nilB 10000005 2002 10 25 .strs [vi 3, nilv, vi 7, vb false, vb false, nilv, vi 0, vs (ba []), .own 10000003, .own 10000004, nilv] (by kernel_rfl) (by kernel_rfl) (by decide) (by decide) (by kernel_rfl) (by kernel_rfl)).rmT [(2, .ptr 1000 0), (3, .ptr 1001 0), (4, .ptr 1002 0), (6, .ptr 2002 0), (41, rwS (namesU (obT ta) tb)), (42, vi ((namesU (obT ta) tb).length : Int)), (43, vi 0)] [(1000, bTr ((obT ta))), (1001, bTr (tb)), (1002, .var [vi 0, nilv, vi 0, vb false, vb false, nilv, vi 0, vs (ba []), nilv, nilv, nilv]), (2002, .var [vi 3, nilv, vi 7, vb false, vb false, nilv, vi 0, vs (ba []), .own 10000003, .own 10000004, .own 10000005]), (10000003, .sl 9 .str ([])), (10000004, .sl 28 .tree ([])), (10000005, .sl 25 .strs ([]))] [(1000, 1000), (1001, 1001), (1002, 1002), (2002, 2002), (10000003, 10000003), (10000004, 10000004), (10000005, 10000005)] (by kernel_rfl); exact (hs.cst [(2, .ptr 1000 0), (3, .ptr 1001 0), (4, .ptr 1002 0), (6, .ptr 2002 0), (41, rwS (namesU (obT ta) tb)), (42, vi ((namesU (obT ta) tb).length : Int)), (43, vi ((0 : Nat) : Int))] [(1000, bTr ((obT ta))), (1001, bTr (tb)), (1002, .var [vi 0, nilv, vi 0, vb false, vb false, nilv, vi 0, vs (ba []), nilv, nilv, nilv]), (2002, .var [vi 3, nilv, vi 7, vb false, vb false, nilv, vi 0, vs (ba []), .own 10000003, .own 10000004, .own 10000005]), (10000003, .sl 9 .str (vK (obT ta) tb 0)), (10000004, .sl 28 .tree (vV (obT ta) tb 0)), (10000005, .sl 25 .strs (maskI (obT ta) tb 0))] rfl).rk [(1000, 1000), (1001, 1001), (1002, 1002), (90000001, 2002), (90000002, 10000003), (90000003, 10000004), (90000004, 10000005)])
 rintro i hJ a w hs
 have hl1 := vK_len (obT ta) tb i
 have hl2 := vV_len (obT ta) tb i
 have hl3 := maskI_len (obT ta) tb i
 rcases bd ((i : Int) < ((namesU (obT ta) tb).length : Int)) with ⟨b4, n4⟩ | ⟨b4, n4⟩
 rcases bt (alike (obT ta) tb ((namesU (obT ta) tb).getD i (dflt .str))) with b5 | b5
 refine wL hs hI [(11, rc [(3, ciV 67 [aTr ((obT ta)), aTr (tb), vs ((namesU (obT ta) tb).getD i (dflt .str))] (.tup [aTr ((memV (obT ta) ((namesU (obT ta) tb).getD i (dflt .str)))), vb (alike (obT ta) tb ((namesU (obT ta) tb).getD i (dflt .str)))]))])] (bz 2 3) 1767209661884829072720 [q1 b4, q4 (i : Int) ((namesU (obT ta) tb).length), q1 b5, q3 ((i : Int) + 1)] .norm [(2, .ptr 1000 0), (3, .ptr 1001 0), (4, .ptr 1002 0), (6, .ptr 90000001 0), (41, rwS (namesU (obT ta) tb)), (42, vi ((namesU (obT ta) tb).length : Int)), (43, vi ((i : Int) + 1))] [(1000, bTr ((obT ta))), (1001, bTr (tb)), (1002, .var [vi 0, nilv, vi 0, vb false, vb false, nilv, vi 0, vs (ba []), nilv, nilv, nilv]), (90000001, .var [vi 3, nilv, vi 7, vb false, vb false, nilv, vi 0, vs (ba []), .own 90000002, .own 90000003, .own 90000004]), (90000002, .sl 9 .str (vK (obT ta) tb i)), (90000003, .sl 28 .tree (vV (obT ta) tb i)), (90000004, .sl 25 .strs (maskI (obT ta) tb i))] ⟨conAlike _ _ _ hfo hfb, tv⟩ fun a w hs => ?_
 refine then_norm ⟨i + 1, by omega, by omega, ?_⟩
 (have e0_ : ((i : Int) + 1) = ((((i + 1) : Nat) : Int)) := (by first | rfl | (omega)); have e1_ : (vK (obT ta) tb i) = (vK (obT ta) tb (i + 1)) := (by first | rfl | (rw [vK_same (by omega) b5])); have e2_ : (vV (obT ta) tb i) = (vV (obT ta) tb (i + 1)) := (by first | rfl | (rw [vV_same (by omega) b5])); have e3_ : (maskI (obT ta) tb i) = (maskI (obT ta) tb (i + 1)) := (by first | rfl | (rw [maskI_same (by omega) b5])); exact (hs.cst [(2, .ptr 1000 0), (3, .ptr 1001 0), (4, .ptr 1002 0), (6, .ptr 90000001 0), (41, rwS (namesU (obT ta) tb)), (42, vi ((namesU (obT ta) tb).length : Int)), (43, vi (((i + 1) : Nat) : Int))] [(1000, bTr ((obT ta))), (1001, bTr (tb)), (1002, .var [vi 0, nilv, vi 0, vb false, vb false, nilv, vi 0, vs (ba []), nilv, nilv, nilv]), (90000001, .var [vi 3, nilv, vi 7, vb false, vb false, nilv, vi 0, vs (ba []), .own 90000002, .own 90000003, .own 90000004]), (90000002, .sl 9 .str (vK (obT ta) tb (i + 1))), (90000003, .sl 28 .tree (vV (obT ta) tb (i + 1))), (90000004, .sl 25 .strs (maskI (obT ta) tb (i + 1)))] (by first | (rw [e0_, e1_, e2_, e3_]; done) | (simp only [e0_, e1_, e2_, e3_]; done) | rfl | (simp only [e0_, e1_, e2_, e3_]; rfl))).rk [(1000, 1000), (1001, 1001), (1002, 1002), (90000001, 90000001), (90000002, 90000002), (90000003, 90000003), (90000004, 90000004)])
 rcases bt (memB tb ((namesU (obT ta) tb).getD i (dflt .str))) with b6 | b6
 refine wL hs hI [(11, rc [(3, ciV 67 [aTr ((obT ta)), aTr (tb), vs ((namesU (obT ta) tb).getD i (dflt .str))] (.tup [aTr ((memV (obT ta) ((namesU (obT ta) tb).getD i (dflt .str)))), vb (alike (obT ta) tb ((namesU (obT ta) tb).getD i (dflt .str)))]))]), (14, rc [(2, ciV 57 [aTr (tb), vs ((namesU (obT ta) tb).getD i (dflt .str))] (.tup [aTr ((memV tb ((namesU (obT ta) tb).getD i (dflt .str)))), vb (memB tb ((namesU (obT ta) tb).getD i (dflt .str)))]))]), (16, rc [(3, ciB 68 [.ptr 0 2, vs ((namesU (obT ta) tb).getD i (dflt .str)), aTr ((memV tb ((namesU (obT ta) tb).getD i (dflt .str))))] [] (.val (.tup [])) [(0, .var [vi 3, nilv, vi 7, vb false, vb false, nilv, vi 0, vs (ba []), .own 1, .own 2, .own 3]), (1, .sl 9 .str (vK (obT ta) tb i)), (2, .sl 28 .tree (vV (obT ta) tb i)), (3, .sl 25 .strs ((maskI (obT ta) tb i) ++ ([[((namesU (obT ta) tb).getD i (dflt .str))]])))] [(0, .var [vi 3, nilv, vi 7, vb false, vb false, nilv, vi 0, vs (ba []), .own 2007, .own 3007, .own 3]), (3, .sl 25 .strs ((maskI (obT ta) tb i) ++ ([[((namesU (obT ta) tb).getD i (dflt .str))]]))), (2007, .sl 9 .str ((vK (obT ta) tb i) ++ [((namesU (obT ta) tb).getD i (dflt .str))])), (3007, .sl 28 .tree ((vV (obT ta) tb i) ++ [(memV tb ((namesU (obT ta) tb).getD i (dflt .str)))]))] [(0, 90000001), (1, 90000002), (2, 90000003), (2007, 17003), (3007, 1017003), (3, 14005)])])] (bz 3 5) 1796614072026618840660708297209661884829072720 [q1 b4, q4 (i : Int) ((namesU (obT ta) tb).length), q1 b5, ⟨(((maskI (obT ta) tb i).length + 1) * 24 : Nat) ≤ 140737488355328 ∧ (maskI (obT ta) tb i).length + 1 ≤ 140737488355328, (by first | omega | (simp only [List.length_singleton, List.length_cons, List.length_nil]; omega))⟩, q1 b6, q3 ((i : Int) + 1)] .norm [(2, .ptr 1000 0), (3, .ptr 1001 0), (4, .ptr 1002 0), (6, .ptr 90000001 0), (41, rwS (namesU (obT ta) tb)), (42, vi ((namesU (obT ta) tb).length : Int)), (43, vi ((i : Int) + 1))] [(1000, bTr ((obT ta))), (1001, bTr (tb)), (1002, .var [vi 0, nilv, vi 0, vb false, vb false, nilv, vi 0, vs (ba []), nilv, nilv, nilv]), (14005, .sl 25 .strs ((maskI (obT ta) tb i) ++ ([[((namesU (obT ta) tb).getD i (dflt .str))]]))), (17003, .sl 9 .str ((vK (obT ta) tb i) ++ [((namesU (obT ta) tb).getD i (dflt .str))])), (1017003, .sl 28 .tree ((vV (obT ta) tb i) ++ [(memV tb ((namesU (obT ta) tb).getD i (dflt .str)))])), (90000001, .var [vi 3, nilv, vi 7, vb false, vb false, nilv, vi 0, vs (ba []), .own 17003, .own 1017003, .own 14005])] ⟨conAlike _ _ _ hfo hfb, con122 _ _ (by omega), conPutP _ _ _ _ _ (by first | omega | (simp; omega)) (by first | omega | (simp; omega)), tv⟩ fun a w hs => ?_
 refine then_norm ⟨i + 1, by omega, by omega, ?_⟩
 (have e0_ : ((i : Int) + 1) = ((((i + 1) : Nat) : Int)) := (by first | rfl | (omega)); have e1_ : (((maskI (obT ta) tb i) ++ ([[((namesU (obT ta) tb).getD i (dflt .str))]]))) = (maskI (obT ta) tb (i + 1)) := (by first | rfl | (rw [maskI_on (by omega) b5])); have e2_ : ((vK (obT ta) tb i) ++ [((namesU (obT ta) tb).getD i (dflt .str))]) = (vK (obT ta) tb (i + 1)) := (by first | rfl | (rw [vK_on (by omega) b5 b6])); have e3_ : ((vV (obT ta) tb i) ++ [(memV tb ((namesU (obT ta) tb).getD i (dflt .str)))]) = (vV (obT ta) tb (i + 1)) := (by first | rfl | (rw [vV_on (by omega) b5 b6])); exact (hs.cst [(2, .ptr 1000 0), (3, .ptr 1001 0), (4, .ptr 1002 0), (6, .ptr 90000001 0), (41, rwS (namesU (obT ta) tb)), (42, vi ((namesU (obT ta) tb).length : Int)), (43, vi (((i + 1) : Nat) : Int))] [(1000, bTr ((obT ta))), (1001, bTr (tb)), (1002, .var [vi 0, nilv, vi 0, vb false, vb false, nilv, vi 0, vs (ba []), nilv, nilv, nilv]), (14005, .sl 25 .strs (maskI (obT ta) tb (i + 1))), (17003, .sl 9 .str (vK (obT ta) tb (i + 1))), (1017003, .sl 28 .tree (vV (obT ta) tb (i + 1))), (90000001, .var [vi 3, nilv, vi 7, vb false, vb false, nilv, vi 0, vs (ba []), .own 17003, .own 1017003, .own 14005])] (by first | (rw [e0_, e1_, e2_, e3_]; done) | (simp only [e0_, e1_, e2_, e3_]; done) | rfl | (simp only [e0_, e1_, e2_, e3_]; rfl))).rk [(1000, 1000), (1001, 1001), (1002, 1002), (90000001, 90000001), (90000002, 17003), (90000003, 1017003), (90000004, 14005)])
 refine wL hs hI [(11, rc [(3, ciV 67 [aTr ((obT ta)), aTr (tb), vs ((namesU (obT ta) tb).getD i (dflt .str))] (.tup [aTr ((memV (obT ta) ((namesU (obT ta) tb).getD i (dflt .str)))), vb (alike (obT ta) tb ((namesU (obT ta) tb).getD i (dflt .str)))]))]), (14, rc [(2, ciV 57 [aTr (tb), vs ((namesU (obT ta) tb).getD i (dflt .str))] (.tup [aTr ((memV tb ((namesU (obT ta) tb).getD i (dflt .str)))), vb (memB tb ((namesU (obT ta) tb).getD i (dflt .str)))]))])] (bz 3 1) 179672026618840660708297209661884829072720 [q1 b4, q4 (i : Int) ((namesU (obT ta) tb).length), q1 b5, ⟨(((maskI (obT ta) tb i).length + 1) * 24 : Nat) ≤ 140737488355328 ∧ (maskI (obT ta) tb i).length + 1 ≤ 140737488355328, (by first | omega | (simp only [List.length_singleton, List.length_cons, List.length_nil]; omega))⟩, q1 b6, q3 ((i : Int) + 1)] .norm [(2, .ptr 1000 0), (3, .ptr 1001 0), (4, .ptr 1002 0), (6, .ptr 90000001 0), (41, rwS (namesU (obT ta) tb)), (42, vi ((namesU (obT ta) tb).length : Int)), (43, vi ((i : Int) + 1))] [(1000, bTr ((obT ta))), (1001, bTr (tb)), (1002, .var [vi 0, nilv, vi 0, vb false, vb false, nilv, vi 0, vs (ba []), nilv, nilv, nilv]), (14005, .sl 25 .strs ((maskI (obT ta) tb i) ++ ([[((namesU (obT ta) tb).getD i (dflt .str))]]))), (90000001, .var [vi 3, nilv, vi 7, vb false, vb false, nilv, vi 0, vs (ba []), .own 90000002, .own 90000003, .own 14005]), (90000002, .sl 9 .str (vK (obT ta) tb i)), (90000003, .sl 28 .tree (vV (obT ta) tb i))] ⟨conAlike _ _ _ hfo hfb, con122 _ _ (by omega), tv⟩ fun a w hs => ?_
 refine then_norm ⟨i + 1, by omega, by omega, ?_⟩
 (have e0_ : ((i : Int) + 1) = ((((i + 1) : Nat) : Int)) := (by first | rfl | (omega)); have e1_ : ((maskI (obT ta) tb i) ++ ([[((namesU (obT ta) tb).getD i (dflt .str))]])) = (maskI (obT ta) tb (i + 1)) := (by first | rfl | (rw [maskI_on (by omega) b5])); have e2_ : (vK (obT ta) tb i) = (vK (obT ta) tb (i + 1)) := (by first | rfl | (rw [vK_off (by omega) b5 b6])); have e3_ : (vV (obT ta) tb i) = (vV (obT ta) tb (i + 1)) := (by first | rfl | (rw [vV_off (by omega) b5 b6])); exact (hs.cst [(2, .ptr 1000 0), (3, .ptr 1001 0), (4, .ptr 1002 0), (6, .ptr 90000001 0), (41, rwS (namesU (obT ta) tb)), (42, vi ((namesU (obT ta) tb).length : Int)), (43, vi (((i + 1) : Nat) : Int))] [(1000, bTr ((obT ta))), (1001, bTr (tb)), (1002, .var [vi 0, nilv, vi 0, vb false, vb false, nilv, vi 0, vs (ba []), nilv, nilv, nilv]), (14005, .sl 25 .strs (maskI (obT ta) tb (i + 1))), (90000001, .var [vi 3, nilv, vi 7, vb false, vb false, nilv, vi 0, vs (ba []), .own 90000002, .own 90000003, .own 14005]), (90000002, .sl 9 .str (vK (obT ta) tb (i + 1))), (90000003, .sl 28 .tree (vV (obT ta) tb (i + 1)))] (by first | (rw [e0_, e1_, e2_, e3_]; done) | (simp only [e0_, e1_, e2_, e3_]; done) | rfl | (simp only [e0_, e1_, e2_, e3_]; rfl))).rk [(1000, 1000), (1001, 1001), (1002, 1002), (90000001, 90000001), (90000002, 90000002), (90000003, 90000003), (90000004, 14005)])
 refine wN hs hI (bz 1 0) 720 [q1 b4] (.exit 0) [(4, .ptr 1002 0), (6, .ptr 90000001 0)] [(1002, .var [vi 0, nilv, vi 0, vb false, vb false, nilv, vi 0, vs (ba []), nilv, nilv, nilv]), (90000001, .var [vi 3, nilv, vi 7, vb false, vb false, nilv, vi 0, vs (ba []), .own 90000002, .own 90000003, .own 90000004]), (90000002, .sl 9 .str (vK (obT ta) tb i)), (90000003, .sl 28 .tree (vV (obT ta) tb i)), (90000004, .sl 25 .strs (maskI (obT ta) tb i))] fun a w hs => ?_
 refine then_exit ?_
 refine inb_hit ?_
 refine then_norm ?_
 refine wL hs hI [(18, rc [(3, ciA 69 [.row .strs (maskI (obT ta) tb i)] [90000004] [] (.val (vb (checkF (maskI (obT ta) tb i)))))])] [] 196848 [] .ret [(4, .ptr 1002 0), (5, vb (checkF (maskI (obT ta) tb i)))] [(1002, .var [vi 3, nilv, vi 7, vb false, vb false, nilv, vi 0, vs (ba []), .own 90000002, .own 90000003, .own 90000004]), (90000002, .sl 9 .str (vK (obT ta) tb i)), (90000003, .sl 28 .tree (vV (obT ta) tb i)), (90000004, .sl 25 .strs (maskI (obT ta) tb i))] ⟨con39 _ (maskI_small _ (obT_small hka) hkb) (by omega), tv⟩ fun a w hs => ?_
 exact rK (.val (.tup [.agg [vi 3, .row .opn ([]), vi 7, vb false, vb false, rwU ([]), vi 0, vs (ba []), rwS (vK (obT ta) tb i), rwT (vV (obT ta) tb i), .row .strs (maskI (obT ta) tb i)], vb (checkF (maskI (obT ta) tb i))])) [90000002, 90000003, 90000004] hs (by rw [maskG_fin (i := i) b1 (by omega) (by omega)]; rfl)
 rcases bq (tb.k.length : Int) (0) with ⟨b7, n7⟩ | ⟨b7, n7⟩
 refine wL hs hI [(5, rg [] [4, 5, 6, 7, 8, 9, 10, 11, 1011] [1012])] (bz 1 1) 12987266666733777777718 [q1 b2, q1 b2, q1 b2, q1 (ng0 b3), q1 (ng0 b3), q1 (ng0 b3), q1 (ng0 b3), q1 b2, q1 (ng0 b3), q1 b2, q1 b7] .ret [(4, .ptr 1002 0), (5, vb false)] [(1002, .var [vi 0, nilv, vi 0, vb false, vb false, nilv, vi 0, vs (ba []), nilv, nilv, nilv])] tv fun a w hs => ?_
 refine then_ret ?_
 exact rK (.val (.tup [.agg [vi 0, .row .opn ([]), vi 0, vb false, vb false, rwU ([]), vi 0, vs (ba []), rwS ([]), rwT ([]), .row .strs ([])], vb false])) [] hs (by rw [maskG, if_neg (by rw [b1]; decide), if_pos (by omega)]; rfl)
 refine wL hs hI [(5, rg [] [4, 5, 6, 7, 8, 9, 10, 11, 1011] [1012])] (bz 1 0) 7266666733777777718 [q1 b2, q1 b2, q1 b2, q1 (ng0 b3), q1 (ng0 b3), q1 (ng0 b3), q1 (ng0 b3), q1 b2, q1 (ng0 b3), q1 b2, q1 b7] .norm [(2, .ptr 1000 0), (3, .ptr 1001 0), (4, .ptr 1002 0), (6, .ptr 2002 0)] [(1000, bTr (ta)), (1001, bTr (tb)), (1002, .var [vi 0, nilv, vi 0, vb false, vb false, nilv, vi 0, vs (ba []), nilv, nilv, nilv]), (2002, .var [vi 3, nilv, vi 7, vb false, vb false, nilv, vi 0, vs (ba []), nilv, nilv, nilv])] tv fun a w hs => ?_
 refine then_norm ?_
 refine wLs hs hI [(7, rc [(1, ciV 65 [aTr (ta)] (aTr ((obT ta))))])] [] 1141 [] [(2, .ptr 1000 0), (3, .ptr 1001 0), (4, .ptr 1002 0), (6, .ptr 2002 0)] [(1000, bTr ((obT ta))), (1001, bTr (tb)), (1002, .var [vi 0, nilv, vi 0, vb false, vb false, nilv, vi 0, vs (ba []), nilv, nilv, nilv]), (2002, .var [vi 3, nilv, vi 7, vb false, vb false, nilv, vi 0, vs (ba []), nilv, nilv, nilv])] ⟨conObT _, tv⟩ fun a w hs => ?_
 refine wp_seq ?_
 refine wLs hs hI [(8, rc [(2, ciV 66 [aTr ((obT ta)), aTr (tb)] (rwS (namesU (obT ta) tb)))])] [] 840 [] [(2, .ptr 1000 0), (3, .ptr 1001 0), (4, .ptr 1002 0), (6, .ptr 2002 0), (41, rwS (namesU (obT ta) tb)), (42, vi ((namesU (obT ta) tb).length : Int)), (43, vi 0)] [(1000, bTr ((obT ta))), (1001, bTr (tb)), (1002, .var [vi 0, nilv, vi 0, vb false, vb false, nilv, vi 0, vs (ba []), nilv, nilv, nilv]), (2002, .var [vi 3, nilv, vi 7, vb false, vb false, nilv, vi 0, vs (ba []), nilv, nilv, nilv])] ⟨(conNames _ _ (by omega) (by omega)).frz, tv⟩ fun a w hs => ?_
 refine wp_block ?_
 refine loop_L (N := Tryz.f35.ntmps) (w0 := w0) (ow := noO fz) (α := Nat) (fun p => [(2, .ptr 1000 0), (3, .ptr 1001 0), (4, .ptr 1002 0), (6, .ptr 90000001 0), (41, rwS (namesU (obT ta) tb)), (42, vi ((namesU (obT ta) tb).length : Int)), (43, vi (p : Int))]) (fun p => [(1000, bTr ((obT ta))), (1001, bTr (tb)), (1002, .var [vi 0, nilv, vi 0, vb false, vb false, nilv, vi 0, vs (ba []), nilv, nilv, nilv]), (90000001, .var [vi 3, nilv, vi 7, vb false, vb false, nilv, vi 0, vs (ba []), .own 90000002, .own 90000003, .own 90000004]), (90000002, .sl 9 .str (vK (obT ta) tb p)), (90000003, .sl 28 .tree (vV (obT ta) tb p)), (90000004, .sl 25 .strs (maskI (obT ta) tb p))]) (fun p => p ≤ (namesU (obT ta) tb).length) (fun p => (namesU (obT ta) tb).length - p) 0 ?_ ?_ ?_
 exact Nat.zero_le _
 (have hs := (((hs.nilB 10000006 2002 8 9 .str [vi 3, nilv, vi 7, vb false, vb false, nilv, vi 0, vs (ba []), nilv, nilv, nilv] (by kernel_rfl) (by kernel_rfl) (by decide) (by decide) (by kernel_rfl) (by kernel_rfl)).nilB 10000007 2002 9 28 .tree [vi 3, nilv, vi 7, vb false, vb false, nilv, vi 0, vs (ba []), .own 10000006, nilv, nilv] (by kernel_rfl) (by kernel_rfl) (by decide) (by decide) (by kernel_rfl) (by kernel_rfl)).nilB 10000008 2002 10 25 .strs [vi 3, nilv, vi 7, vb false, vb false, nilv, vi 0, vs (ba []), .own 10000006, .own 10000007, nilv] (by kernel_rfl) (by kernel_rfl) (by decide) (by decide) (by kernel_rfl) (by kernel_rfl)).rmT [(2, .ptr 1000 0), (3, .ptr 1001 0), (4, .ptr 1002 0), (6, .ptr 2002 0), (41, rwS (namesU (obT ta) tb)), (42, vi ((namesU (obT ta) tb).length : Int)), (43, vi 0)] [(1000, bTr ((obT ta))), (1001, bTr (tb)), (1002, .var [vi 0, nilv, vi 0, vb false, vb false, nilv, vi 0, vs (ba []), nilv, nilv, nilv]), (2002, .var [vi 3, nilv, vi 7, vb false, vb false, nilv, vi 0, vs (ba []), .own 10000006, .own 10000007, .own 10000008]), (10000006, .sl 9 .str ([])), (10000007, .sl 28 .tree ([])), (10000008, .sl 25 .strs ([]))] [(1000, 1000), (1001, 1001), (1002, 1002), (2002, 2002), (10000006, 10000006), (10000007, 10000007), (10000008, 10000008)] (by kernel_rfl); exact (hs.cst [(2, .ptr 1000 0), (3, .ptr 1001 0), (4, .ptr 1002 0), (6, .ptr 2002 0), (41, rwS (namesU (obT ta) tb)), (42, vi ((namesU (obT ta) tb).length : Int)), (43, vi ((0 : Nat) : Int))] [(1000, bTr ((obT ta))), (1001, bTr (tb)), (1002, .var [vi 0, nilv, vi 0, vb false, vb false, nilv, vi 0, vs (ba []), nilv, nilv, nilv]), (2002, .var [vi 3, nilv, vi 7, vb false, vb false, nilv, vi 0, vs (ba []), .own 10000006, .own 10000007, .own 10000008]), (10000006, .sl 9 .str (vK (obT ta) tb 0)), (10000007, .sl 28 .tree (vV (obT ta) tb 0)), (10000008, .sl 25 .strs (maskI (obT ta) tb 0))] rfl).rk [(1000, 1000), (1001, 1001), (1002, 1002), (90000001, 2002), (90000002, 10000006), (90000003, 10000007), (90000004, 10000008)])
 rintro i hJ a w hs
 have hl1 := vK_len (obT ta) tb i
 have hl2 := vV_len (obT ta) tb i
 have hl3 := maskI_len (obT ta) tb i
 rcases bd ((i : Int) < ((namesU (obT ta) tb).length : Int)) with ⟨b8, n8⟩ | ⟨b8, n8⟩
 rcases bt (alike (obT ta) tb ((namesU (obT ta) tb).getD i (dflt .str))) with b9 | b9
 refine wL hs hI [(11, rc [(3, ciV 67 [aTr ((obT ta)), aTr (tb), vs ((namesU (obT ta) tb).getD i (dflt .str))] (.tup [aTr ((memV (obT ta) ((namesU (obT ta) tb).getD i (dflt .str)))), vb (alike (obT ta) tb ((namesU (obT ta) tb).getD i (dflt .str)))]))])] (bz 2 3) 1767209661884829072720 [q1 b8, q4 (i : Int) ((namesU (obT ta) tb).length), q1 b9, q3 ((i : Int) + 1)] .norm [(2, .ptr 1000 0), (3, .ptr 1001 0), (4, .ptr 1002 0), (6, .ptr 90000001 0), (41, rwS (namesU (obT ta) tb)), (42, vi ((namesU (obT ta) tb).length : Int)), (43, vi ((i : Int) + 1))] [(1000, bTr ((obT ta))), (1001, bTr (tb)), (1002, .var [vi 0, nilv, vi 0, vb false, vb false, nilv, vi 0, vs (ba []), nilv, nilv, nilv]), (90000001, .var [vi 3, nilv, vi 7, vb false, vb false, nilv, vi 0, vs (ba []), .own 90000002, .own 90000003, .own 90000004]), (90000002, .sl 9 .str (vK (obT ta) tb i)), (90000003, .sl 28 .tree (vV (obT ta) tb i)), (90000004, .sl 25 .strs (maskI (obT ta) tb i))] ⟨conAlike _ _ _ hfo hfb, tv⟩ fun a w hs => ?_
 refine then_norm ⟨i + 1, by omega, by omega, ?_⟩
 (have e0_ : ((i : Int) + 1) = ((((i + 1) : Nat) : Int)) := (by first | rfl | (omega)); have e1_ : (vK (obT ta) tb i) = (vK (obT ta) tb (i + 1)) := (by first | rfl | (rw [vK_same (by omega) b9])); have e2_ : (vV (obT ta) tb i) = (vV (obT ta) tb (i + 1)) := (by first | rfl | (rw [vV_same (by omega) b9])); have e3_ : (maskI (obT ta) tb i) = (maskI (obT ta) tb (i + 1)) := (by first | rfl | (rw [maskI_same (by omega) b9])); exact (hs.cst [(2, .ptr 1000 0), (3, .ptr 1001 0), (4, .ptr 1002 0), (6, .ptr 90000001 0), (41, rwS (namesU (obT ta) tb)), (42, vi ((namesU (obT ta) tb).length : Int)), (43, vi (((i + 1) : Nat) : Int))] [(1000, bTr ((obT ta))), (1001, bTr (tb)), (1002, .var [vi 0, nilv, vi 0, vb false, vb false, nilv, vi 0, vs (ba []), nilv, nilv, nilv]), (90000001, .var [vi 3, nilv, vi 7, vb false, vb false, nilv, vi 0, vs (ba []), .own 90000002, .own 90000003, .own 90000004]), (90000002, .sl 9 .str (vK (obT ta) tb (i + 1))), (90000003, .sl 28 .tree (vV (obT ta) tb (i + 1))), (90000004, .sl 25 .strs (maskI (obT ta) tb (i + 1)))] (by first | (rw [e0_, e1_, e2_, e3_]; done) | (simp only [e0_, e1_, e2_, e3_]; done) | rfl | (simp only [e0_, e1_, e2_, e3_]; rfl))).rk [(1000, 1000), (1001, 1001), (1002, 1002), (90000001, 90000001), (90000002, 90000002), (90000003, 90000003), (90000004, 90000004)])
 rcases bt (memB tb ((namesU (obT ta) tb).getD i (dflt .str))) with b10 | b10
 refine wL hs hI [(11, rc [(3, ciV 67 [aTr ((obT ta)), aTr (tb), vs ((namesU (obT ta) tb).getD i (dflt .str))] (.tup [aTr ((memV (obT ta) ((namesU (obT ta) tb).getD i (dflt .str)))), vb (alike (obT ta) tb ((namesU (obT ta) tb).getD i (dflt .str)))]))]), (14, rc [(2, ciV 57 [aTr (tb), vs ((namesU (obT ta) tb).getD i (dflt .str))] (.tup [aTr ((memV tb ((namesU (obT ta) tb).getD i (dflt .str)))), vb (memB tb ((namesU (obT ta) tb).getD i (dflt .str)))]))]), (16, rc [(3, ciB 68 [.ptr 0 2, vs ((namesU (obT ta) tb).getD i (dflt .str)), aTr ((memV tb ((namesU (obT ta) tb).getD i (dflt .str))))] [] (.val (.tup [])) [(0, .var [vi 3, nilv, vi 7, vb false, vb false, nilv, vi 0, vs (ba []), .own 1, .own 2, .own 3]), (1, .sl 9 .str (vK (obT ta) tb i)), (2, .sl 28 .tree (vV (obT ta) tb i)), (3, .sl 25 .strs ((maskI (obT ta) tb i) ++ ([[((namesU (obT ta) tb).getD i (dflt .str))]])))] [(0, .var [vi 3, nilv, vi 7, vb false, vb false, nilv, vi 0, vs (ba []), .own 2007, .own 3007, .own 3]), (3, .sl 25 .strs ((maskI (obT ta) tb i) ++ ([[((namesU (obT ta) tb).getD i (dflt .str))]]))), (2007, .sl 9 .str ((vK (obT ta) tb i) ++ [((namesU (obT ta) tb).getD i (dflt .str))])), (3007, .sl 28 .tree ((vV (obT ta) tb i) ++ [(memV tb ((namesU (obT ta) tb).getD i (dflt .str)))]))] [(0, 90000001), (1, 90000002), (2, 90000003), (2007, 17003), (3007, 1017003), (3, 14005)])])] (bz 3 5) 1796614072026618840660708297209661884829072720 [q1 b8, q4 (i : Int) ((namesU (obT ta) tb).length), q1 b9, ⟨(((maskI (obT ta) tb i).length + 1) * 24 : Nat) ≤ 140737488355328 ∧ (maskI (obT ta) tb i).length + 1 ≤ 140737488355328, (by first | omega | (simp only [List.length_singleton, List.length_cons, List.length_nil]; omega))⟩, q1 b10, q3 ((i : Int) + 1)] .norm [(2, .ptr 1000 0), (3, .ptr 1001 0), (4, .ptr 1002 0), (6, .ptr 90000001 0), (41, rwS (namesU (obT ta) tb)), (42, vi ((namesU (obT ta) tb).length : Int)), (43, vi ((i : Int) + 1))] [(1000, bTr ((obT ta))), (1001, bTr (tb)), (1002, .var [vi 0, nilv, vi 0, vb false, vb false, nilv, vi 0, vs (ba []), nilv, nilv, nilv]), (14005, .sl 25 .strs ((maskI (obT ta) tb i) ++ ([[((namesU (obT ta) tb).getD i (dflt .str))]]))), (17003, .sl 9 .str ((vK (obT ta) tb i) ++ [((namesU (obT ta) tb).getD i (dflt .str))])), (1017003, .sl 28 .tree ((vV (obT ta) tb i) ++ [(memV tb ((namesU (obT ta) tb).getD i (dflt .str)))])), (90000001, .var [vi 3, nilv, vi 7, vb false, vb false, nilv, vi 0, vs (ba []), .own 17003, .own 1017003, .own 14005])] ⟨conAlike _ _ _ hfo hfb, con122 _ _ (by omega), conPutP _ _ _ _ _ (by first | omega | (simp; omega)) (by first | omega | (simp; omega)), tv⟩ fun a w hs => ?_
 refine then_norm ⟨i + 1, by omega, by omega, ?_⟩
 (have e0_ : ((i : Int) + 1) = ((((i + 1) : Nat) : Int)) := (by first | rfl | (omega)); have e1_ : (((maskI (obT ta) tb i) ++ ([[((namesU (obT ta) tb).getD i (dflt .str))]]))) = (maskI (obT ta) tb (i + 1)) := (by first | rfl | (rw [maskI_on (by omega) b9])); have e2_ : ((vK (obT ta) tb i) ++ [((namesU (obT ta) tb).getD i (dflt .str))]) = (vK (obT ta) tb (i + 1)) := (by first | rfl | (rw [vK_on (by omega) b9 b10])); have e3_ : ((vV (obT ta) tb i) ++ [(memV tb ((namesU (obT ta) tb).getD i (dflt .str)))]) = (vV (obT ta) tb (i + 1)) := (by first | rfl | (rw [vV_on (by omega) b9 b10])); exact (hs.cst [(2, .ptr 1000 0), (3, .ptr 1001 0), (4, .ptr 1002 0), (6, .ptr 90000001 0), (41, rwS (namesU (obT ta) tb)), (42, vi ((namesU (obT ta) tb).length : Int)), (43, vi (((i + 1) : Nat) : Int))] [(1000, bTr ((obT ta))), (1001, bTr (tb)), (1002, .var [vi 0, nilv, vi 0, vb false, vb false, nilv, vi 0, vs (ba []), nilv, nilv, nilv]), (14005, .sl 25 .strs (maskI (obT ta) tb (i + 1))), (17003, .sl 9 .str (vK (obT ta) tb (i + 1))), (1017003, .sl 28 .tree (vV (obT ta) tb (i + 1))), (90000001, .var [vi 3, nilv, vi 7, vb false, vb false, nilv, vi 0, vs (ba []), .own 17003, .own 1017003, .own 14005])] (by first | (rw [e0_, e1_, e2_, e3_]; done) | (simp only [e0_, e1_, e2_, e3_]; done) | rfl | (simp only [e0_, e1_, e2_, e3_]; rfl))).rk [(1000, 1000), (1001, 1001), (1002, 1002), (90000001, 90000001), (90000002, 17003), (90000003, 1017003), (90000004, 14005)])
 refine wL hs hI [(11, rc [(3, ciV 67 [aTr ((obT ta)), aTr (tb), vs ((namesU (obT ta) tb).getD i (dflt .str))] (.tup [aTr ((memV (obT ta) ((namesU (obT ta) tb).getD i (dflt .str)))), vb (alike (obT ta) tb ((namesU (obT ta) tb).getD i (dflt .str)))]))]), (14, rc [(2, ciV 57 [aTr (tb), vs ((namesU (obT ta) tb).getD i (dflt .str))] (.tup [aTr ((memV tb ((namesU (obT ta) tb).getD i (dflt .str)))), vb (memB tb ((namesU (obT ta) tb).getD i (dflt .str)))]))])] (bz 3 1) 179672026618840660708297209661884829072720 [q1 b8, q4 (i : Int) ((namesU (obT ta) tb).length), q1 b9, ⟨(((maskI (obT ta) tb i).length + 1) * 24 : Nat) ≤ 140737488355328 ∧ (maskI (obT ta) tb i).length + 1 ≤ 140737488355328, (by first | omega | (simp only [List.length_singleton, List.length_cons, List.length_nil]; omega))⟩, q1 b10, q3 ((i : Int) + 1)] .norm [(2, .ptr 1000 0), (3, .ptr 1001 0), (4, .ptr 1002 0), (6, .ptr 90000001 0), (41, rwS (namesU (obT ta) tb)), (42, vi ((namesU (obT ta) tb).length : Int)), (43, vi ((i : Int) + 1))] [(1000, bTr ((obT ta))), (1001, bTr (tb)), (1002, .var [vi 0, nilv, vi 0, vb false, vb false, nilv, vi 0, vs (ba []), nilv, nilv, nilv]), (14005, .sl 25 .strs ((maskI (obT ta) tb i) ++ ([[((namesU (obT ta) tb).getD i (dflt .str))]]))), (90000001, .var [vi 3, nilv, vi 7, vb false, vb false, nilv, vi 0, vs (ba []), .own 90000002, .own 90000003, .own 14005]), (90000002, .sl 9 .str (vK (obT ta) tb i)), (90000003, .sl 28 .tree (vV (obT ta) tb i))] ⟨conAlike _ _ _ hfo hfb, con122 _ _ (by omega), tv⟩ fun a w hs => ?_
 refine then_norm ⟨i + 1, by omega, by omega, ?_⟩
 (have e0_ : ((i : Int) + 1) = ((((i + 1) : Nat) : Int)) := (by first | rfl | (omega)); have e1_ : ((maskI (obT ta) tb i) ++ ([[((namesU (obT ta) tb).getD i (dflt .str))]])) = (maskI (obT ta) tb (i + 1)) := (by first | rfl | (rw [maskI_on (by omega) b9])); have e2_ : (vK (obT ta) tb i) = (vK (obT ta) tb (i + 1)) := (by first | rfl | (rw [vK_off (by omega) b9 b10])); have e3_ : (vV (obT ta) tb i) = (vV (obT ta) tb (i + 1)) := (by first | rfl | (rw [vV_off (by omega) b9 b10])); exact (hs.cst [(2, .ptr 1000 0), (3, .ptr 1001 0), (4, .ptr 1002 0), (6, .ptr 90000001 0), (41, rwS (namesU (obT ta) tb)), (42, vi ((namesU (obT ta) tb).length : Int)), (43, vi (((i + 1) : Nat) : Int))] [(1000, bTr ((obT ta))), (1001, bTr (tb)), (1002, .var [vi 0, nilv, vi 0, vb false, vb false, nilv, vi 0, vs (ba []), nilv, nilv, nilv]), (14005, .sl 25 .strs (maskI (obT ta) tb (i + 1))), (90000001, .var [vi 3, nilv, vi 7, vb false, vb false, nilv, vi 0, vs (ba []), .own 90000002, .own 90000003, .own 14005]), (90000002, .sl 9 .str (vK (obT ta) tb (i + 1))), (90000003, .sl 28 .tree (vV (obT ta) tb (i + 1)))] (by first | (rw [e0_, e1_, e2_, e3_]; done) | (simp only [e0_, e1_, e2_, e3_]; done) | rfl | (simp only [e0_, e1_, e2_, e3_]; rfl))).rk [(1000, 1000), (1001, 1001), (1002, 1002), (90000001, 90000001), (90000002, 90000002), (90000003, 90000003), (90000004, 14005)])
 refine wN hs hI (bz 1 0) 720 [q1 b8] (.exit 0) [(4, .ptr 1002 0), (6, .ptr 90000001 0)] [(1002, .var [vi 0, nilv, vi 0, vb false, vb false, nilv, vi 0, vs (ba []), nilv, nilv, nilv]), (90000001, .var [vi 3, nilv, vi 7, vb false, vb false, nilv, vi 0, vs (ba []), .own 90000002, .own 90000003, .own 90000004]), (90000002, .sl 9 .str (vK (obT ta) tb i)), (90000003, .sl 28 .tree (vV (obT ta) tb i)), (90000004, .sl 25 .strs (maskI (obT ta) tb i))] fun a w hs => ?_
 refine then_exit ?_
 refine inb_hit ?_
 refine then_norm ?_
 refine wL hs hI [(18, rc [(3, ciA 69 [.row .strs (maskI (obT ta) tb i)] [90000004] [] (.val (vb (checkF (maskI (obT ta) tb i)))))])] [] 196848 [] .ret [(4, .ptr 1002 0), (5, vb (checkF (maskI (obT ta) tb i)))] [(1002, .var [vi 3, nilv, vi 7, vb false, vb false, nilv, vi 0, vs (ba []), .own 90000002, .own 90000003, .own 90000004]), (90000002, .sl 9 .str (vK (obT ta) tb i)), (90000003, .sl 28 .tree (vV (obT ta) tb i)), (90000004, .sl 25 .strs (maskI (obT ta) tb i))] ⟨con39 _ (maskI_small _ (obT_small hka) hkb) (by omega), tv⟩ fun a w hs => ?_
 exact rK (.val (.tup [.agg [vi 3, .row .opn ([]), vi 7, vb false, vb false, rwU ([]), vi 0, vs (ba []), rwS (vK (obT ta) tb i), rwT (vV (obT ta) tb i), .row .strs (maskI (obT ta) tb i)], vb (checkF (maskI (obT ta) tb i))])) [90000002, 90000003, 90000004] hs (by rw [maskG_fin (i := i) b1 (by omega) (by omega)]; rfl)
theorem conCan (n : Nat) (ta tb : Tree) (hd : depth tb ≤ n) (hfa : fineT ta) (hfb : fineT tb) (lang : Int) : Con Tryz.prog I0 15 [.agg (encTree ta), .agg (encTree tb), vi lang] (.val (vb (canF n ta tb lang))) := by
 refine con_of Tryz.func15 rfl (Nat.le_of_ble_eq_true rfl) stab (fun w0 fz a hI hs => ?_)
 refine wNs hs hI [] 18 [] [(2, vi lang), (3, .ptr 1000 0), (4, .ptr 1001 0)] [(1000, bTr (ta)), (1001, bTr (tb))] fun a w hs => ?_
 refine wp_seq ?_
 rcases bt (validT ta) with b1 | b1
 rcases bt (validT tb) with b2 | b2
 refine wL hs hI [(1, rg [(1, ciV 33 [aTr (ta)] (vb (validT ta))), (5, ciV 33 [aTr (tb)] (vb (validT tb)))] [4, 5, 6] [1007])] (bz 1 0) 7296677437041 [q1 (ng1 b1), q1 (ng1 b1), q1 (ng1 b1), q1 (ng1 b1), q1 (ng1 b2)] .norm [(2, vi lang), (3, .ptr 1000 0), (4, .ptr 1001 0)] [(1000, bTr (ta)), (1001, bTr (tb))] ⟨con57 _ hfa, con57 _ hfb, tv⟩ fun a w hs => ?_
 refine then_norm ?_
 rcases bq (lang) (2) with ⟨b3, n3⟩ | ⟨b3, n3⟩
 refine wL hs hI [(6, rc [(2, ciV 34 [aTr (ta), aTr (tb)] (.tup [aTr ((theM (mergedO n ta tb))), vb ((mergedO n ta tb).isSome)]))])] (bz 1 1) 1989660841798202918 [q1 b3] .ret [(6, vb ((mergedO n ta tb).isSome))] [] ⟨conMerge n ta tb hd hfa hfb, tv⟩ fun a w hs => ?_
 exact rK (.val (vb ((mergedO n ta tb).isSome))) [] hs (by simp only [canF, b1, b2]; simp only [Bool.true_and]; (repeat (first | rw [if_pos (by omega)] | rw [if_neg (by omega)])); first | done | rfl)
 rcases bq (lang) (3) with ⟨b4, n4⟩ | ⟨b4, n4⟩
 refine wL hs hI [(8, rc [(2, ciV 35 [aTr (ta), aTr (tb)] (.tup [.agg (e8 [vi ((maskG ta tb).1.lang), .row .opn ((maskG ta tb).1.ops)] (((maskG ta tb).1.value)) [.row .strs ((maskG ta tb).1.mask)]), vb ((maskG ta tb).2)]))])] (bz 2 2) 1986660841790798202918 [q1 b3, q1 b4] .ret [(6, vb ((maskG ta tb).2))] [] ⟨conMasked ta tb hfa hfb (valid_small (by assumption)) (valid_small (by assumption)), tv⟩ fun a w hs => ?_
 exact rK (.val (vb ((maskG ta tb).2))) [] hs (by simp only [canF, b1, b2]; simp only [Bool.true_and]; (repeat (first | rw [if_pos (by omega)] | rw [if_neg (by omega)])); first | done | rfl)
 refine wN hs hI (bz 2 0) 19826790798202918 [q1 b3, q1 b4] .ret [(6, vb (lang == 1))] [] fun a w hs => ?_
 exact rK (.val (vb (lang == 1))) [] hs (by simp only [canF, b1, b2]; simp only [Bool.true_and]; (repeat (first | rw [if_pos (by omega)] | rw [if_neg (by omega)])); first | done | rfl)
 refine wL hs hI [(1, rg [(1, ciV 33 [aTr (ta)] (vb (validT ta))), (5, ciV 33 [aTr (tb)] (vb (validT tb)))] [4, 5, 6] [1007])] (bz 1 1) 1217296677437041 [q1 (ng1 b1), q1 (ng1 b1), q1 (ng1 b1), q1 (ng1 b1), q1 (ng0 b2)] .ret [(6, vb false)] [] ⟨con57 _ hfa, con57 _ hfb, tv⟩ fun a w hs => ?_
 refine then_ret ?_
 exact rK (.val (vb false)) [] hs (by simp only [canF, b1, b2]; first | done | rfl)
 refine wL hs hI [(1, rg [(1, ciV 33 [aTr (ta)] (vb (validT ta)))] [1007] [4, 5, 6])] (bz 1 1) 1217667333041 [q1 (ng0 b1), q1 (ng0 b1), q1 (ng0 b1), q1 (ng0 b1), q0 true] .ret [(6, vb false)] [] ⟨con57 _ hfa, tv⟩ fun a w hs => ?_
 refine then_ret ?_
 exact rK (.val (vb false)) [] hs (by simp only [canF, b1]; first | done | rfl)
theorem conDiff (n : Nat) (ta tb : Tree) (hd : depth tb ≤ n) (hfa : fineT ta) (hfb : fineT tb) (lang cells : Int) (hl : lang = 2 ∨ lang = 3) : Con Tryz.prog I0 11 [.agg (encTree ta), .agg (encTree tb), vi lang, vi cells] (.val (.tup [.agg (encP (diffP n ta tb lang).1), vi (diffP n ta tb lang).2])) := by
 refine con_of Tryz.func11 rfl (Nat.le_of_ble_eq_true rfl) stab (fun w0 fz a hI hs => ?_)
 refine wNs hs hI [] 118 [] [(2, vi lang), (3, vi cells), (4, .ptr 1000 0), (5, .ptr 1001 0), (8, .ptr 1002 0)] [(1000, bTr (ta)), (1001, bTr (tb)), (1002, .var [vi 0, nilv, vi 0, vb false, vb false, nilv, vi 0, vs (ba []), nilv, nilv, nilv])] fun a w hs => ?_
 refine wp_seq ?_
 rcases bt (validT ta) with b1 | b1
 rcases bt (validT tb) with b2 | b2
 have b3 : (decide (lang < 1)) = false := by exact decide_eq_false (by omega)
 have b4 : (decide (lang > 3)) = false := by exact decide_eq_false (by omega)
 have b5 : (lang == 1) = false := by exact beq_eq_false_iff_ne.2 (by omega)
 rcases bt (canF n ta tb lang) with b6 | b6
 refine wL hs hI [(1, rg [(1, ciV 33 [aTr (ta)] (vb (validT ta))), (5, ciV 33 [aTr (tb)] (vb (validT tb)))] [4, 5, 6, 9, 10, 13, 14] [1007, 1011, 1015]), (5, rc [(3, ciV 15 [aTr (ta), aTr (tb), vi lang] (vb (canF n ta tb lang)))]), (3, rg [] [] [3, 4, 5, 6, 7, 1008])] (bz 3 0) 7968407966173333307666666177777777437041 [q1 (ng1 b1), q1 (ng1 b1), q1 (ng1 b1), q1 (ng1 b1), q1 (ng1 b2), q1 (ng1 b2), q1 (ng1 b2), q1 b3, q1 b3, q1 b3, q1 b4, q1 b5, q1 b5, q1 b5, q1 b5, q1 b5, q1 b5, q0 false, q1 (ng1 b6)] .norm [(2, vi lang), (4, .ptr 1000 0), (5, .ptr 1001 0), (8, .ptr 1002 0)] [(1000, bTr (ta)), (1001, bTr (tb)), (1002, .var [vi 0, nilv, vi 0, vb false, vb false, nilv, vi 0, vs (ba []), nilv, nilv, nilv])] ⟨con57 _ hfa, con57 _ hfb, conCan n ta tb hd hfa hfb lang, tv⟩ fun a w hs => ?_
 refine then_norm ?_
 rcases bq (lang) (2) with ⟨b7, n7⟩ | ⟨b7, n7⟩
 refine wL hs hI [(9, rc [(2, ciV 34 [aTr (ta), aTr (tb)] (.tup [aTr ((theM (mergedO n ta tb))), vb ((mergedO n ta tb).isSome)]))])] (bz 1 1) 126882661884179820 [q1 b7] .ret [(8, .ptr 1002 0), (9, vi 0)] [(1002, .var (e8 [vi lang, nilv] ((theM (mergedO n ta tb))) [nilv]))] ⟨conMerge n ta tb hd hfa hfb, tv⟩ fun a w hs => ?_
 exact rK (.val (.tup [.agg (e8 [vi lang, .row .opn ([])] ((theM (mergedO n ta tb))) [.row .strs ([])]), vi 0])) [] hs (by rw [diffP, if_pos (by rw [b1, b2]; rfl), if_pos b6, if_pos (by omega)]; first | rfl | (obtain rfl : lang = 2 := (by omega); rfl))
 have b8 : (lang == 3) = true := by exact beq_iff_eq.2 (by omega)
 refine wL hs hI [(12, rc [(2, ciV 35 [aTr (ta), aTr (tb)] (.tup [.agg (e8 [vi ((maskG ta tb).1.lang), .row .opn ((maskG ta tb).1.ops)] (((maskG ta tb).1.value)) [.row .strs ((maskG ta tb).1.mask)]), vb ((maskG ta tb).2)]))])] (bz 2 2) 129182661884179079820 [q1 b7, q1 b8] .ret [(8, .ptr 1002 0), (9, vi 0)] [(1002, .var (e8 [vi ((maskG ta tb).1.lang), .row .opn ((maskG ta tb).1.ops)] (((maskG ta tb).1.value)) [.row .strs ((maskG ta tb).1.mask)]))] ⟨conMasked ta tb hfa hfb (valid_small (by assumption)) (valid_small (by assumption)), tv⟩ fun a w hs => ?_
 exact rK (.val (.tup [.agg (e8 [vi ((maskG ta tb).1.lang), .row .opn ((maskG ta tb).1.ops)] (((maskG ta tb).1.value)) [.row .strs ((maskG ta tb).1.mask)]), vi 0])) [] hs (by rw [diffP, if_pos (by rw [b1, b2]; rfl), if_pos b6, if_neg (by omega)]; rfl)
 refine wL hs hI [(1, rg [(1, ciV 33 [aTr (ta)] (vb (validT ta))), (5, ciV 33 [aTr (tb)] (vb (validT tb)))] [4, 5, 6, 9, 10, 13, 14] [1007, 1011, 1015]), (5, rc [(3, ciV 15 [aTr (ta), aTr (tb), vi lang] (vb (canF n ta tb lang)))]), (3, rg [] [] [3, 4, 5, 6, 7, 1008])] (bz 3 4) 12987968407966173333307666666177777777437041 [q1 (ng1 b1), q1 (ng1 b1), q1 (ng1 b1), q1 (ng1 b1), q1 (ng1 b2), q1 (ng1 b2), q1 (ng1 b2), q1 b3, q1 b3, q1 b3, q1 b4, q1 b5, q1 b5, q1 b5, q1 b5, q1 b5, q1 b5, q0 false, q1 (ng0 b6)] .ret [(8, .ptr 1002 0), (9, vi 7)] [(1002, .var [vi 0, nilv, vi 0, vb false, vb false, nilv, vi 0, vs (ba []), nilv, nilv, nilv])] ⟨con57 _ hfa, con57 _ hfb, conCan n ta tb hd hfa hfb lang, tv⟩ fun a w hs => ?_
 refine then_ret ?_
 exact rK (.val (.tup [.agg [vi 0, .row .opn ([]), vi 0, vb false, vb false, rwU ([]), vi 0, vs (ba []), rwS ([]), rwT ([]), .row .strs ([])], vi 7])) [] hs (by rw [diffP, if_pos (by rw [b1, b2]; rfl), if_neg (by rw [b6]; decide)]; rfl)
 refine wL hs hI [(1, rg [(1, ciV 33 [aTr (ta)] (vb (validT ta))), (5, ciV 33 [aTr (tb)] (vb (validT tb)))] [4, 5, 6, 1011, 1015] [1007, 9, 10, 13, 14])] (bz 1 1) 1298766666173373377437041 [q1 (ng1 b1), q1 (ng1 b1), q1 (ng1 b1), q1 (ng1 b1), q1 (ng0 b2), q1 (ng0 b2), q1 (ng0 b2), q0 true, q0 true, q0 true, q0 true] .ret [(8, .ptr 1002 0), (9, vi 1)] [(1002, .var [vi 0, nilv, vi 0, vb false, vb false, nilv, vi 0, vs (ba []), nilv, nilv, nilv])] ⟨con57 _ hfa, con57 _ hfb, tv⟩ fun a w hs => ?_
 refine then_ret ?_
 exact rK (.val (.tup [.agg [vi 0, .row .opn ([]), vi 0, vb false, vb false, rwU ([]), vi 0, vs (ba []), rwS ([]), rwT ([]), .row .strs ([])], vi 1])) [] hs (by rw [diffP, if_neg (by rw [Bool.and_eq_true]; simp [b2])]; rfl)
 refine wL hs hI [(1, rg [(1, ciV 33 [aTr (ta)] (vb (validT ta)))] [1007, 1011, 1015] [4, 5, 6, 9, 10, 13, 14])] (bz 1 1) 129872666617337337333041 [q1 (ng0 b1), q1 (ng0 b1), q1 (ng0 b1), q1 (ng0 b1), q0 true, q0 true, q0 true, q0 true, q0 true, q0 true, q0 true] .ret [(8, .ptr 1002 0), (9, vi 1)] [(1002, .var [vi 0, nilv, vi 0, vb false, vb false, nilv, vi 0, vs (ba []), nilv, nilv, nilv])] ⟨con57 _ hfa, tv⟩ fun a w hs => ?_
 refine then_ret ?_
 exact rK (.val (.tup [.agg [vi 0, .row .opn ([]), vi 0, vb false, vb false, rwU ([]), vi 0, vs (ba []), rwS ([]), rwT ([]), .row .strs ([])], vi 1])) [] hs (by rw [diffP, if_neg (by rw [Bool.and_eq_true]; simp [b1])]; rfl)
theorem obT_not {t : Tree} (h : ¬ t.kind = 7) : obT t = objM [] := if_neg h
theorem obT_is {t : Tree} (h : t.kind = 7) : obT t = t := if_pos h
theorem depth_at1 {p : Tree} {n i : Nat} (hd : depth p ≤ n + 1) (hi : i < p.v.length) : depth (p.v.getD i (dflt .tree)) ≤ n := by
 have h1 := depth_eq p
 have h2 := depth_mem (getD_mem hi (dflt .tree))
 omega
theorem conMg_ : ∀ (n : Nat) (t pt : Tree), depth pt ≤ n → fineT t → fineT pt → nodes t + 2 * nodes pt < 100000000 → Con Tryz.prog I0 26 [.agg (encTree t), .agg (encTree pt)] (.val (.agg (encTree (mergeR n t pt)))) := by
 intro n
 induction n
 case zero => intro t pt hd; have := depth_eq pt; omega
 rename_i n ih
 intro t pt hd hft hfp hn
 obtain ⟨⟨hf1, hf2, hf3, hf4⟩, hf5⟩ := (fine_eq pt).1 hfp
 refine con_of Tryz.func26 rfl (Nat.le_of_ble_eq_true rfl) stab (fun w0 fz a hI hs => ?_)
 refine wNs hs hI [] 18 [] [(2, .ptr 1000 0), (3, .ptr 1001 0), (4, .ptr 1002 0)] [(1000, bTr (t)), (1001, bTr (pt)), (1002, .var zTr)] fun a w hs => ?_
 refine wp_seq ?_
 rcases bt (pt.kind != 7) with b1 | b1
 have n1 := bne_iff_ne.1 b1
 refine wN hs hI (bz 1 1) 19072918 [q1 b1] .ret [(4, .ptr 1002 0)] [(1002, bTr (pt))] fun a w hs => ?_
 refine then_ret ?_
 exact rK (.val (aTr (pt))) [] hs (by rw [mergeR, if_neg (by omega)]; first | done | rfl)
 have n1 := bne_eq_false_iff_eq.1 b1
 refine wN hs hI (bz 1 0) 72918 [q1 b1] .norm [(2, .ptr 1000 0), (3, .ptr 1001 0), (4, .ptr 1002 0)] [(1000, bTr (t)), (1001, bTr (pt)), (1002, .var zTr)] fun a w hs => ?_
 refine then_norm ?_
 refine wNs hs hI [] 18 [] [(2, .ptr 1000 0), (3, .ptr 1001 0), (4, .ptr 1002 0), (5, .ptr 4001 0)] [(1000, bTr (t)), (1001, bTr (pt)), (1002, .var zTr), (4001, .var [vi 7, vb false, vb false, nilv, vi 0, vs (ba []), nilv, nilv])] fun a w hs => ?_
 refine wp_cut (N := Tryz.f26.ntmps) (w0 := w0) (ow := noO fz) (T := [(3, .ptr 1001 0), (4, .ptr 1002 0), (5, .ptr 90000009 0)]) (B := [(1001, bTr (pt)), (1002, .var zTr), (90000009, bTr ((obT t)))]) (True) ?_ ?_
 rcases bq (t.kind) (7) with ⟨b2, n2⟩ | ⟨b2, n2⟩
 refine wN hs hI (bz 1 1) 1172918 [q1 b2] .norm [(3, .ptr 1001 0), (4, .ptr 1002 0), (5, .ptr 4001 0)] [(1001, bTr (pt)), (1002, .var zTr), (4001, bTr (t))] fun a w hs => ?_
 refine then_norm ⟨trivial, ?_⟩
 exact (hs.cst [(3, .ptr 1001 0), (4, .ptr 1002 0), (5, .ptr 4001 0)] [(1001, bTr (pt)), (1002, .var zTr), (4001, bTr ((obT t)))] (by rw [obT_is (t := t) (by omega)])).rk [(1001, 1001), (1002, 1002), (90000009, 4001)]
 refine wN hs hI (bz 1 0) 72918 [q1 b2] .norm [(3, .ptr 1001 0), (4, .ptr 1002 0), (5, .ptr 4001 0)] [(1001, bTr (pt)), (1002, .var zTr), (4001, .var [vi 7, vb false, vb false, nilv, vi 0, vs (ba []), nilv, nilv])] fun a w hs => ?_
 refine then_norm ⟨trivial, ?_⟩
 (have hs := (((hs.rowB 4001 3 (.int .u32) [vi 7, vb false, vb false, nilv, vi 0, vs (ba []), nilv, nilv] (by kernel_rfl) (by kernel_rfl)).rowB 4001 6 .str [vi 7, vb false, vb false, rwU ([]), vi 0, vs (ba []), nilv, nilv] (by kernel_rfl) (by kernel_rfl)).rowB 4001 7 .tree [vi 7, vb false, vb false, rwU ([]), vi 0, vs (ba []), rwS ([]), nilv] (by kernel_rfl) (by kernel_rfl)).rmT [(3, .ptr 1001 0), (4, .ptr 1002 0), (5, .ptr 4001 0)] [(1001, bTr (pt)), (1002, .var zTr), (4001, .var [vi 7, vb false, vb false, rwU ([]), vi 0, vs (ba []), rwS ([]), rwT ([])])] [(1001, 1001), (1002, 1002), (4001, 4001)] (by kernel_rfl); exact (hs.cst [(3, .ptr 1001 0), (4, .ptr 1002 0), (5, .ptr 4001 0)] [(1001, bTr (pt)), (1002, .var zTr), (4001, bTr ((obT t)))] (by rw [obT_not (t := t) (by omega)]; rfl)).rk [(1001, 1001), (1002, 1002), (90000009, 4001)])
 intro hF a w hs
 refine wp_seq ?_
 refine wNs hs hI [] 11 [] [(3, .ptr 1001 0), (4, .ptr 1002 0), (5, .ptr 90000009 0), (6, vi 0)] [(1001, bTr (pt)), (1002, .var zTr), (90000009, bTr ((obT t)))] fun a w hs => ?_
 refine wp_block ?_
 refine loop_L (N := Tryz.f26.ntmps) (w0 := w0) (ow := noO fz) (α := Nat × Tree) (fun p => [(3, .ptr 1001 0), (4, .ptr 1002 0), (5, .ptr 90000001 0), (6, vi ((p.1 : Nat) : Int))]) (fun p => [(1001, bTr (pt)), (1002, .var zTr), (90000001, bTr (p.2))]) (fun p => MgJ n t pt p.1 p.2) (fun p => (mems pt).length - p.1) (0, obT t) ?_ ?_ ?_
 exact MgJ.start (by omega) hft hn
 exact (hs.cst [(3, .ptr 1001 0), (4, .ptr 1002 0), (5, .ptr 90000009 0), (6, vi ((0 : Nat) : Int))] [(1001, bTr (pt)), (1002, .var zTr), (90000009, bTr ((obT t)))] rfl).rk [(1001, 1001), (1002, 1002), (90000001, 90000009)]
 rintro ⟨i, u⟩ hJ a w hs
 try dsimp only at hJ
 have hi := hJ.le
 have hml := mems_len (t := pt) (by omega)
 refine wp_seq ?_
 rcases bd ((i : Int) < (pt.k.length : Int)) with ⟨b3, n3⟩ | ⟨b3, n3⟩
 rcases bd ((i : Int) < (pt.v.length : Int)) with ⟨b4, n4⟩ | ⟨b4, n4⟩
 refine wL hs hI [(7, rg [] [6, 7, 8, 9, 10, 1011] [])] (bz 1 1) 72666677777788 [q1 b3, q1 b3, q1 b3, q1 b3, q1 b3, q1 b3, q1 b4] .norm [(3, .ptr 1001 0), (4, .ptr 1002 0), (5, .ptr 90000001 0), (6, vi (i : Int))] [(1001, bTr (pt)), (1002, .var zTr), (90000001, bTr (u))] tv fun a w hs => ?_
 refine then_norm ?_
 rcases bq ((pt.v.getD i (dflt .tree)).kind) (1) with ⟨b5, n5⟩ | ⟨b5, n5⟩
 refine wL hs hI [(10, rc [(6, ciV 54 [aTr (u), vs (pt.k.getD i (dflt .str))] (aTr ((unsetT u (pt.k.getD i (dflt .str))))))])] (bz 1 1) 1712916604787296878 [q4 (i : Int) pt.v.length, q1 b5, q4 (i : Int) pt.k.length, q3 ((i : Int) + 1)] .norm [(3, .ptr 1001 0), (4, .ptr 1002 0), (5, .ptr 90000001 0), (6, vi ((i : Int) + 1))] [(1001, bTr (pt)), (1002, .var zTr), (90000001, bTr ((unsetT u (pt.k.getD i (dflt .str)))))] ⟨con21 _ _ (by have h1 := nodes_eq u; have h2 := nodesL_len u.v; have h3 := hJ.few; omega), tv⟩ fun a w hs => ?_
 refine then_norm ⟨(i + 1, (unsetT u (pt.k.getD i (dflt .str)))), (by have h := hJ.on (by omega) hfp (by omega) (by omega); rw [step_unset (by omega)] at h; exact h), by omega, ?_⟩
 exact hs.rk [(1001, 1001), (1002, 1002), (90000001, 90000001)]
 rcases bt (memB u (pt.k.getD i (dflt .str))) with b6 | b6
 refine wL hs hI [(11, rc [(6, ciV 24 [aTr (u), vs (pt.k.getD i (dflt .str))] (.tup [aTr ((memV u (pt.k.getD i (dflt .str)))), vb (memB u (pt.k.getD i (dflt .str)))]))]), (14, rc [(12, ciV 26 [aTr ((memV u (pt.k.getD i (dflt .str)))), aTr ((pt.v.getD i (dflt .tree)))] (aTr ((mergeR n (memV u (pt.k.getD i (dflt .str))) (pt.v.getD i (dflt .tree)))))), (13, ciV 25 [aTr (u), vs (pt.k.getD i (dflt .str)), aTr ((mergeR n (memV u (pt.k.getD i (dflt .str))) (pt.v.getD i (dflt .tree))))] (aTr ((setT u (pt.k.getD i (dflt .str)) (mergeR n (memV u (pt.k.getD i (dflt .str))) (pt.v.getD i (dflt .tree)))))))])] (bz 2 0) 1719666604471871897982666188471897296878 [q4 (i : Int) pt.v.length, q1 b5, q4 (i : Int) pt.k.length, q1 (ng1 b6), q4 (i : Int) pt.k.length, q4 (i : Int) pt.v.length, q3 ((i : Int) + 1)] .norm [(3, .ptr 1001 0), (4, .ptr 1002 0), (5, .ptr 90000001 0), (6, vi ((i : Int) + 1))] [(1001, bTr (pt)), (1002, .var zTr), (90000001, bTr ((setT u (pt.k.getD i (dflt .str)) (mergeR n (memV u (pt.k.getD i (dflt .str))) (pt.v.getD i (dflt .tree))))))] ⟨con69 _ _ (by have h1 := nodes_eq u; have h2 := nodesL_len u.v; have h3 := hJ.few; omega), ih _ _ (depth_at1 hd (by omega)) (fine_memV hJ.fine _) (fine_at hfp (by omega) _) (by have h1 := hJ.at (by omega) (by omega) (by omega); have h2 := nodes_eq u; have h3 := memV_nodes' u (pt.k.getD i (dflt .str)); omega), con22 _ _ _ (by have h1 := nodes_eq u; have h2 := nodesL_len u.v; have h3 := hJ.few; omega), tv⟩ fun a w hs => ?_
 refine then_norm ⟨(i + 1, (setT u (pt.k.getD i (dflt .str)) (mergeR n (memV u (pt.k.getD i (dflt .str))) (pt.v.getD i (dflt .tree))))), (by have h := hJ.on (by omega) hfp (by omega) (by omega); rw [step_there (by omega) b6] at h; exact h), by omega, ?_⟩
 exact hs.rk [(1001, 1001), (1002, 1002), (90000001, 90000001)]
 refine wL hs hI [(11, rc [(6, ciV 24 [aTr (u), vs (pt.k.getD i (dflt .str))] (.tup [aTr ((memV u (pt.k.getD i (dflt .str)))), vb (memB u (pt.k.getD i (dflt .str)))]))]), (14, rc [(12, ciV 26 [aTr (nul), aTr ((pt.v.getD i (dflt .tree)))] (aTr ((mergeR n nul (pt.v.getD i (dflt .tree)))))), (13, ciV 25 [aTr (u), vs (pt.k.getD i (dflt .str)), aTr ((mergeR n nul (pt.v.getD i (dflt .tree))))] (aTr ((setT u (pt.k.getD i (dflt .str)) (mergeR n nul (pt.v.getD i (dflt .tree)))))))])] (bz 2 2) 17196666044718718607982666188471897296878 [q4 (i : Int) pt.v.length, q1 b5, q4 (i : Int) pt.k.length, q1 (ng0 b6), q4 (i : Int) pt.k.length, q4 (i : Int) pt.v.length, q3 ((i : Int) + 1)] .norm [(3, .ptr 1001 0), (4, .ptr 1002 0), (5, .ptr 90000001 0), (6, vi ((i : Int) + 1))] [(1001, bTr (pt)), (1002, .var zTr), (90000001, bTr ((setT u (pt.k.getD i (dflt .str)) (mergeR n nul (pt.v.getD i (dflt .tree))))))] ⟨con69 _ _ (by have h1 := nodes_eq u; have h2 := nodesL_len u.v; have h3 := hJ.few; omega), ih _ _ (depth_at1 hd (by omega)) nul_fineT (fine_at hfp (by omega) _) (by have h1 := hJ.at (by omega) (by omega) (by omega); have h2 := nodes_eq u; have h3 := nul_nodes; omega), con22 _ _ _ (by have h1 := nodes_eq u; have h2 := nodesL_len u.v; have h3 := hJ.few; omega), tv⟩ fun a w hs => ?_
 refine then_norm ⟨(i + 1, (setT u (pt.k.getD i (dflt .str)) (mergeR n nul (pt.v.getD i (dflt .tree))))), (by have h := hJ.on (by omega) hfp (by omega) (by omega); rw [step_new (by omega) b6] at h; exact h), by omega, ?_⟩
 exact hs.rk [(1001, 1001), (1002, 1002), (90000001, 90000001)]
 refine wL hs hI [(7, rg [] [6, 7, 8, 9, 10, 1011] [])] (bz 1 0) 72666677777788 [q1 b3, q1 b3, q1 b3, q1 b3, q1 b3, q1 b3, q1 b4] (.exit 0) [(4, .ptr 1002 0), (5, .ptr 90000001 0)] [(1002, .var zTr), (90000001, bTr (u))] tv fun a w hs => ?_
 refine then_exit ?_
 refine then_exit ?_
 refine inb_hit ?_
 refine then_norm ?_
 refine wN hs hI [] 198 [] .ret [(4, .ptr 1002 0)] [(1002, bTr (u))] fun a w hs => ?_
 exact rK (.val (aTr (u))) [] hs (by rw [hJ.fin (by omega)]; first | done | rfl)
 refine wL hs hI [(7, rg [] [] [6, 7, 8, 9, 10, 1011])] (bz 1 0) 766673333388 [q1 b3, q1 b3, q1 b3, q1 b3, q1 b3, q1 b3, q0 false] (.exit 0) [(4, .ptr 1002 0), (5, .ptr 90000001 0)] [(1002, .var zTr), (90000001, bTr (u))] tv fun a w hs => ?_
 refine then_exit ?_
 refine then_exit ?_
 refine inb_hit ?_
 refine then_norm ?_
 refine wN hs hI [] 198 [] .ret [(4, .ptr 1002 0)] [(1002, bTr (u))] fun a w hs => ?_
 exact rK (.val (aTr (u))) [] hs (by rw [hJ.fin (by omega)]; first | done | rfl)
def mdA (L : List Int) : Tree := (madeF 3 L).1
theorem conMade3 (l : List Int) : Con Tryz.prog I0 21 [.row (.int .i64) l, vi 3] (.val (.agg (encTree ((madeF 3 l).1)))) := by
 refine con_of Tryz.func21 rfl (Nat.le_of_ble_eq_true rfl) stab (fun w0 fz a hI hs => ?_)
 refine wL hs hI [(1, rc [(2, ciV 53 [.row (.int .i64) l, vi 3] (.tup [aTr (((madeF 3 l).1)), .row (.int .i64) ((madeF 3 l).2)]))])] [] 1982661884020 [] .ret [(4, .ptr 1000 0)] [(1000, bTr (((madeF 3 l).1)))] ⟨con54 3 (by decide) _, tv⟩ fun a w hs => ?_
 exact rK (.val (aTr (((madeF 3 l).1)))) [] hs rfl
theorem conMdA {l L : List Int} (h : [45] ++ l = L) : Con Tryz.prog I0 21 [.row (.int .i64) ([45] ++ l), vi 3] (.val (.agg [vi ((mdA L).kind), vb ((mdA L).b), vb ((mdA L).n.neg), .row (.int .u32) ((mdA L).n.m), vi ((mdA L).n.e), vs ((mdA L).s), .row .str ((mdA L).k), .row .tree ((mdA L).v)])) := by subst h; exact conMade3 _
def oneT (b : Bool) : Tree := .mk 7 false ⟨false, [], 0⟩ (ba []) [ba [97]] [.mk 2 b ⟨false, [], 0⟩ (ba []) [] []]
theorem oneT_fine (b : Bool) : fineT (oneT b) := (fine_eq _).2 ⟨⟨Ok.nil, by cases b <;> decide, by cases b <;> decide, by cases b <;> decide⟩, (fine_eq _).2 ⟨⟨Ok.nil, by cases b <;> decide, by cases b <;> decide, by cases b <;> decide⟩, trivial⟩, trivial⟩
theorem oneT_depth (b : Bool) : depth (oneT b) ≤ 2 := by cases b <;> decide +kernel
def patAw : Pat := ⟨2, [], oneT true, []⟩
theorem diffAw : diffP 2 (oneT false) (oneT true) 2 = (patAw, 0) := by kernel_rfl
theorem canAw : canF 2 (oneT true) (oneT true) 3 = true := by kernel_rfl
theorem conDiffAw : Con Tryz.prog I0 11 [.agg (encTree (oneT false)), .agg (encTree (oneT true)), vi 2, vi 0] (.val (.tup [.agg (encP patAw), vi 0])) := by
 have h := conDiff 2 (oneT false) (oneT true) (oneT_depth _) (oneT_fine _) (oneT_fine _) 2 0 (.inl rfl)
 rw [diffAw] at h; exact h
theorem conCanAw : Con Tryz.prog I0 15 [.agg (encTree (oneT true)), .agg (encTree (oneT true)), vi 3] (.val (vb true)) := by
 have h := conCan 2 (oneT true) (oneT true) (oneT_depth _) (oneT_fine _) (oneT_fine _) 3
 rw [canAw] at h; exact h
theorem conOneT (b : Bool) : Con Tryz.prog I0 32 [vb b] (.val (.agg (encTree (oneT b)))) := by
 refine con_of Tryz.func32 rfl (Nat.le_of_ble_eq_true rfl) stab (fun w0 fz a hI hs => ?_)
 refine wN hs hI [] 19618820 [] .ret [(2, .ptr 1000 0)] [(1000, .var [vi 7, vb false, vb false, nilv, vi 0, vs (ba []), .own 2000, .own 2003]), (2000, .sl 9 .str ([(ba [97])])), (2003, .sl 28 .tree ([(Tree.mk 2 b ⟨false, [], 0⟩ (ba []) ([]) ([]))]))] fun a w hs => ?_
 exact rK (.val (.agg [vi 7, vb false, vb false, rwU ([]), vi 0, vs (ba []), rwS ([(ba [97])]), rwT ([(Tree.mk 2 b ⟨false, [], 0⟩ (ba []) ([]) ([]))])])) [2000, 2003] hs rfl
theorem conAwake  : Con Tryz.prog I0 10 [] (.val (vb true)) := by
 have hlv : patAw.value.v.length = 1 := rfl
 refine con_of Tryz.func10 rfl (Nat.le_of_ble_eq_true rfl) stab (fun w0 fz a hI hs => ?_)
 have b1 : ((patAw.value.v.length : Int) == 1) = true := by rfl
 have b2 : ((patAw.value.v.getD 0 (dflt .tree)).b) = true := by rfl
 refine wL hs hI [(2, rc [(1, ciV 32 [vb false] (aTr ((oneT false)))), (3, ciV 32 [vb true] (aTr ((oneT true)))), (4, ciV 11 [aTr ((oneT false)), aTr ((oneT true)), vi 2, vi 0] (.tup [.agg (encP patAw), vi 0]))]), (3, rg [(19, ciV 32 [vb true] (aTr ((oneT true)))), (21, ciV 32 [vb true] (aTr ((oneT true)))), (22, ciV 15 [aTr ((oneT true)), aTr ((oneT true)), vi 3] (vb true))] [3, 4, 5, 6, 7, 1008, 10, 11, 12, 13, 14, 15, 1016, 18, 19, 20, 21, 22, 1023] [])] [] 12666666666617434374377773377777777782966188441412020 [q0 true, q0 true, q0 true, q0 true, q0 true, q0 true, q1 b1, q1 b1, q1 b1, q1 b1, q4 (0 : Int) patAw.value.v.length, q1 b1, q1 b1, q1 b1, q1 b2, q1 b2, q1 b2, q1 b2, q1 b2, q1 b2] .ret [(0, vb true)] [] ⟨conOneT _, conOneT _, conDiffAw, conOneT _, conOneT _, conCanAw, tv⟩ fun a w hs => ?_
 exact rK (.val (vb true)) [] hs rfl
theorem mdA_two {l k L K : List Int} (hL : [45] ++ l = L) (hK : [45] ++ k = K) : Two (mdA L) (mdA K) := by subst hL hK; exact made_two l k
theorem mdA_valid (l : List Int) : validT (mdA l) = true := good_valid (good_made 3 _) (by decide)
theorem mdA_fine (l : List Int) : fineT (mdA l) := good_fine (good_made 3 _)
theorem mdA_depth (l : List Int) : depth (mdA l) ≤ 4 := depth_goodN (goodN_T (good_made 3 _))
section
variable {a b : Tree}
end
theorem depthL_B {B : Nat} : ∀ {l : List Tree}, (∀ u ∈ l, depth u ≤ B) → depthL l ≤ B
 | [], _ => Nat.zero_le _
 | x :: l, h => by
  have h1 := h x (List.mem_cons_self ..)
  have h2 := depthL_B (l := l) (fun u hu => h u (List.mem_cons_of_mem _ hu))
  simp only [depthL]; omega
structure SmT (B D : Nat) (t : Tree) : Prop where
 nodes : nodes t ≤ B
 depth : depth t ≤ D
 fine : fineT t
theorem smT_obj {B D : Nat} {L : Mem} {m : Nat} (hm : L.length ≤ m) (hm2 : m < 1000000000) (h : ∀ p ∈ L, SmT B D p.2) : SmT (1 + m * B) (D + 1) (objM L) := by
 have h2 : ∀ u ∈ L.map (·.2), SmT B D u := fun u hu => by
  obtain ⟨p, hp, rfl⟩ := List.mem_map.1 hu
  exact h p hp
 refine ⟨?_, ?_, fine_objM (by omega) (fun p hp => (h p hp).fine)⟩
 rw [nodes_eq]
 have h3 := nodesL_B (B := B) (fun u hu => (h2 u hu).nodes)
 rw [List.length_map] at h3
 have h4 : L.length * B ≤ m * B := Nat.mul_le_mul_right _ hm
 show 1 + nodesL (L.map (·.2)) ≤ _
 omega
 rw [depth_eq]
 have h3 := depthL_B (B := D) (fun u hu => (h2 u hu).depth)
 show 1 + depthL (L.map (·.2)) ≤ _
 omega
theorem smT_good : ∀ {d : Nat} {t : Tree}, GoodN 3 d t → SmT (7 ^ d) d t
 | 0, _, h => h.elim
 | d + 1, t, h => by
  have ih : ∀ u ∈ t.v, SmT (7 ^ d) d u := fun u hu => smT_good (h.2.2 u hu)
  have h1 := nodesL_B (B := 7 ^ d) (fun u hu => (ih u hu).nodes)
  have h2 := depthL_B (B := d) (fun u hu => (ih u hu).depth)
  have h3 : t.v.length * 7 ^ d ≤ 3 * 7 ^ d := Nat.mul_le_mul_right _ h.2.1
  have h4 : 0 < 7 ^ d := Nat.pow_pos (by decide)
  refine ⟨?_, ?_, goodN_fine (by decide) h⟩
  rw [nodes_eq, Nat.pow_succ]; omega
  rw [depth_eq]; omega
theorem smT_mono {B B' D D' : Nat} {t : Tree} (h : SmT B D t) (hB : B ≤ B') (hD : D ≤ D') : SmT B' D' t := ⟨Nat.le_trans h.nodes hB, Nat.le_trans h.depth hD, h.fine⟩
theorem smT_nul {B D : Nat} (hB : 0 < B) (hD : 0 < D) : SmT B D nul := ⟨by rw [nul_nodes]; exact hB, by rw [show depth nul = 1 from by simp [nul, depth, depthL]]; exact hD, nul_fineT⟩
theorem merged_small : ∀ (n d : Nat) {a b p : Tree}, (GoodN 3 d a ∨ a.kind ≠ 7) → GoodN 3 d b → mergedO n a b = some p → SmT (7 ^ d) (d + 1) p
 | 0, d, a, b, p, _, hb, h => by
  rw [mergedO] at h
  split at h
  cases h
  obtain rfl := Option.some.inj h
  exact smT_mono (smT_good hb) (Nat.le_refl _) (Nat.le_succ _)
 | n + 1, 0, a, b, p, _, hb, _ => hb.elim
 | n + 1, d + 1, a, b, p, ha, hb, h => by
  by_cases h7 : b.kind = 7
  obtain ⟨L, rfl, hL, hk⟩ := merged_in h7 h
  have hp : 0 < 7 ^ d := Nat.pow_pos (by decide)
  have hal : (obT a).k.length ≤ 3 := by
   unfold obT
   split
   rename_i hk
   rcases ha with ha | ha
   exact ha.1.k
   exact absurd hk ha
   exact Nat.zero_le _
  have hl : L.length ≤ 6 := by
   have h1 := congrArg List.length hk
   rw [List.length_map] at h1
   have h2 : (diffN (obT a) b).length ≤ (namesU (obT a) b).length := List.length_filter_le _ _
   have h3 := namesU_len (obT a) b
   have h4 := hb.1.k
   omega
  have key : ∀ q ∈ L, SmT (7 ^ d) (d + 1) q.2 := fun q hq => by
   have hn : (L.map (·.1)).Nodup := by rw [hk]; exact nodup_sorted ((namesU_sorted _ _).filter _)
   obtain ⟨j, hj, rfl⟩ := List.mem_iff_getElem.1 hq
   have hlk := look_at hj hn
   obtain ⟨v, hv, hf⟩ := (goM_look (y := (L[j]).1) hL).2 (by rw [← hk]; exact List.mem_map.2 ⟨L[j], List.getElem_mem hj, rfl⟩)
   rw [hlk] at hv
   rw [Option.some.inj hv]
   split at hf
   rename_i hm
   split at hf
   cases hf
   refine merged_small n d ?_ (hb.2.2 _ (mem_cutV hm)) hf
   cases hq2 : memB (obT a) (L[j]).1 with
   | true =>
    left
    have h1 := mem_cutV hq2
    unfold obT at h1 ⊢
    split at h1
    rename_i hk7
    rw [if_pos hk7]
    rcases ha with ha | ha
    exact ha.2.2 _ h1
    exact absurd hk7 ha
    simp [objM, Tree.v] at h1
   | false => right; rw [memV_zero hq2]; decide
   obtain rfl := Option.some.inj hf
   exact smT_nul hp (Nat.succ_pos _)
  have h1 := smT_obj hl (by decide) key
  exact smT_mono h1 (by rw [Nat.pow_succ]; omega) (Nat.le_refl _)
  rw [mergedO, if_neg h7] at h
  obtain rfl := Option.some.inj h
  exact smT_mono (smT_good hb) (Nat.le_refl _) (Nat.le_succ _)
theorem mdA_good (L : List Int) : GoodN 3 4 (mdA L) := goodN_T (good_made 3 _)
theorem mdA_sm (L : List Int) : SmT 2401 4 (mdA L) := smT_good (mdA_good L)
section
variable {a b : Tree}
def patG (a b : Tree) : Pat := ⟨2, [], theM (mergedO 5 a b), []⟩
theorem diff_yes (va : validT a = true) (vb : validT b = true) (hm : (mergedO 5 a b).isSome = true) : diffP 5 a b 2 = (patG a b, 0) := by
 unfold diffP canF
 rw [va, vb]
 simp only [Bool.and_self, if_true]
 rw [if_pos (by rw [hm]; rfl)]; rfl
theorem diff_no (va : validT a = true) (vb : validT b = true) (hm : (mergedO 5 a b).isSome = false) : diffP 5 a b 2 = (Pat.zero, 7) := by
 unfold diffP canF
 rw [va, vb]
 simp only [Bool.and_self, if_true]
 rw [if_neg (by rw [hm]; decide)]
theorem can_is (n : Nat) : canF n a b 2 = (validT a && (validT b && (mergedO n a b).isSome)) := rfl
structure MgF (a b : Tree) : Prop where
 sm : SmT 2401 5 (theM (mergedO 5 a b))
 same : sameT (mergeR 5 a (theM (mergedO 5 a b))) b = true
 no : ∀ x, alike a b x = true → memB (theM (mergedO 5 a b)) x = false
 yes : ∀ x, alike a b x = false → memB (theM (mergedO 5 a b)) x = true ∧ (memB b x = true ∨ (memV (theM (mergedO 5 a b)) x).kind = 1)
theorem mgF_of (h : Two a b) (ga : GoodN 3 4 a) (gb : GoodN 3 4 b) (hm : (mergedO 5 a b).isSome = true) : MgF a b := by
 have e := theM_some hm
 refine ⟨merged_small 5 4 (.inl ga) gb e, ?_, fun x hx => told_no h.ka h.kb e hx, fun x hx => told_yes h.ka h.kb h.oa h.ob e hx⟩
 exact merge_good (goodN_mono (Nat.le_refl _) (Nat.le_succ 4) ga) (goodN_mono (Nat.le_refl _) (Nat.le_succ 4) gb) (Nat.le_refl _) e
theorem told_both {x : ByteArray} (h1 : memB a x = true) (h2 : memB b x = true) (h3 : sameT (memV a x) (memV b x) = true) : alike a b x = true := by unfold alike; rw [h1, h2, h3]; rfl
theorem told_diff {x : ByteArray} (h1 : memB a x = true) (h2 : memB b x = true) (h3 : sameT (memV a x) (memV b x) = false) : alike a b x = false := by unfold alike; rw [h1, h2, h3]; rfl
theorem told_one {x : ByteArray} (h1 : memB a x = true) (h2 : memB b x = false) : alike a b x = false := by unfold alike; rw [h1, h2]; rfl
theorem told_two {x : ByteArray} (h1 : memB a x = false) (h2 : memB b x = true) : alike a b x = false := by unfold alike; rw [h1, h2]; rfl
end
theorem setNul_good (K : List Int) {x : ByteArray} (hx : textOk x = true) : GoodN 4 5 (setT (mdA K) x nul) := set_good K hx
theorem names8_text {x : ByteArray} (h : x ∈ names8) : textOk x = true := by
 simp only [names8, List.mem_cons, List.not_mem_nil, or_false] at h
 rcases h with rfl | rfl | rfl | rfl | rfl | rfl | rfl | rfl <;> kernel_rfl
theorem can_nulG {a b : Tree} {x : ByteArray} (ha : a.kind = 7) (hc : ownO (setT b x nul) = true) (h : canF 5 a (setT b x nul) 2 = true) : memB a x = true ∧ (memV a x).kind = 1 := by
 rw [can_is, Bool.and_eq_true, Bool.and_eq_true] at h
 exact can_null ha hc h.2.2
theorem conDiffGy {L K : List Int} (hm : (mergedO 5 (mdA L) (mdA K)).isSome = true) : Con Tryz.prog I0 11 [.agg (encTree (mdA L)), .agg (encTree (mdA K)), vi 2, vi 0] (.val (.tup [.agg (encP (patG (mdA L) (mdA K))), vi 0])) := by
 have h := conDiff 5 (mdA L) (mdA K) (Nat.le_succ_of_le (mdA_depth K)) (mdA_fine L) (mdA_fine K) 2 0 (.inl rfl)
 rw [diff_yes (mdA_valid L) (mdA_valid K) hm] at h; exact h
theorem conDiffGn {L K : List Int} (hm : (mergedO 5 (mdA L) (mdA K)).isSome = false) : Con Tryz.prog I0 11 [.agg (encTree (mdA L)), .agg (encTree (mdA K)), vi 2, vi 0] (.val (.tup [.agg (encP Pat.zero), vi 7])) := by
 have h := conDiff 5 (mdA L) (mdA K) (Nat.le_succ_of_le (mdA_depth K)) (mdA_fine L) (mdA_fine K) 2 0 (.inl rfl)
 rw [diff_no (mdA_valid L) (mdA_valid K) hm] at h; exact h
theorem conCanGn {L K : List Int} (hm : (mergedO 5 (mdA L) (mdA K)).isSome = false) : Con Tryz.prog I0 15 [.agg (encTree (mdA L)), .agg (encTree (mdA K)), vi 2] (.val (vb false)) := by
 have h := conCan 5 (mdA L) (mdA K) (Nat.le_succ_of_le (mdA_depth K)) (mdA_fine L) (mdA_fine K) 2
 rw [can_is, hm, mdA_valid, mdA_valid] at h; exact h
theorem conCanC {L K : List Int} {x : ByteArray} (hx : textOk x = true) : Con Tryz.prog I0 15 [.agg (encTree (mdA L)), .agg (encTree (setT (mdA K) x nul)), vi 2] (.val (vb (canF 5 (mdA L) (setT (mdA K) x nul) 2))) :=
 conCan 5 (mdA L) (setT (mdA K) x nul) (depth_goodN (setNul_good K hx)) (mdA_fine L) (goodN_fine (by decide) (setNul_good K hx)) 2
theorem mdA_len8 (L : List Int) : (mdA L).v.length < 100000000 := by
 have h1 := (mdA_sm L).nodes
 have h2 := nodes_eq (mdA L)
 have h3 := nodesL_len (mdA L).v
 omega
theorem mdA_len (L : List Int) : (mdA L).v.length < 4611686018427387904 := by have := mdA_len8 L; omega
theorem patG_len {a b : Tree} (h : MgF a b) : (patG a b).value.v.length < 4611686018427387904 := by
 have h1 := h.sm.nodes
 have h2 := nodes_eq (theM (mergedO 5 a b))
 have h3 := nodesL_len (theM (mergedO 5 a b)).v
 show (theM (mergedO 5 a b)).v.length < _
 omega
theorem mg_few {L K : List Int} (h : MgF (mdA L) (mdA K)) : nodes (mdA L) + 2 * nodes (patG (mdA L) (mdA K)).value < 100000000 := by
 have h1 := h.sm.nodes
 have h2 := (mdA_sm L).nodes
 show nodes (mdA L) + 2 * nodes (theM (mergedO 5 (mdA L) (mdA K))) < _
 omega
theorem mg_fine {L K : List Int} (h : MgF (mdA L) (mdA K)) : fineT (mergeR 5 (mdA L) (patG (mdA L) (mdA K)).value) := (mergeR_ok 5).fine _ _ (mdA_fine L) h.sm.fine (mg_few h)
theorem law_DiffMerges_y (l k : List Int) (nm : Int) (L K : List Int) (hL : [45] ++ l = L) (hK : [45] ++ k = K) (h2 : Two (mdA L) (mdA K)) (hm : (mergedO 5 (mdA L) (mdA K)).isSome = true) : Con Tryz.prog I0 6 [.row (.int .i64) l, .row (.int .i64) k, vi nm] (.val (vb true)) := by
 have hpl := placeF_in nm 8 (by decide)
 have hn8 : names8.length = 8 := rfl
 have hx8 : textOk (names8.getD ((placeF nm 8).toNat) (dflt .str)) = true := names8_text (getD_mem (by omega) _)
 have hmg := mgF_of h2 (mdA_good L) (mdA_good K) hm
 refine con_of Tryz.func6 rfl (Nat.le_of_ble_eq_true rfl) stab (fun w0 fz a hI hs => ?_)
 refine wNs hs hI [] 11 [] [(0, .row (.int .i64) l), (1, .row (.int .i64) k), (2, vi nm)] [] fun a w hs => ?_
 refine wp_seq ?_
 rcases bd ((l.length : Int) > 40) with ⟨b1, n1⟩ | ⟨b1, n1⟩
 refine wL hs hI [(2, rc [(0, ciV 10 [] (vb true))]), (1, rg [] [1007] [4, 5, 6])] (bz 1 1) 1904366733318 [q1 b1, q1 b1, q1 b1, q1 b1, q0 true] .ret [(6, vb true)] [] ⟨conAwake, tv⟩ fun a w hs => ?_
 refine then_ret ?_
 exact rK (.val (vb true)) [] hs rfl
 rcases bd ((k.length : Int) > 40) with ⟨b2, n2⟩ | ⟨b2, n2⟩
 refine wL hs hI [(2, rc [(0, ciV 10 [] (vb true))]), (1, rg [] [4, 5, 6] [1007])] (bz 1 1) 190432966777718 [q1 b1, q1 b1, q1 b1, q1 b1, q1 b2] .ret [(6, vb true)] [] ⟨conAwake, tv⟩ fun a w hs => ?_
 refine then_ret ?_
 exact rK (.val (vb true)) [] hs rfl
 refine wL hs hI [(1, rg [] [4, 5, 6] [1007])] (bz 1 0) 72966777718 [q1 b1, q1 b1, q1 b1, q1 b1, q1 b2] .norm [(0, .row (.int .i64) l), (1, .row (.int .i64) k), (2, vi nm)] [] tv fun a w hs => ?_
 refine then_norm ?_
 refine wLs hs hI [(3, rc [(3, ciA 21 [.row (.int .i64) (([45]) ++ l), vi 3] [] [4002] (.val (aTr ((mdA L))))), (7, ciA 21 [.row (.int .i64) (([45]) ++ k), vi 3] [] [4006] (.val (aTr ((mdA K)))))])] [] 118430430 [q7 1 l.length 8, q7 1 k.length 8] [(2, vi nm), (7, .ptr 4008 0), (8, .ptr 4009 0)] [(4008, bTr ((mdA L))), (4009, bTr ((mdA K)))] ⟨conMdA hL, conMdA hK, tv⟩ fun a w hs => ?_
 refine wLs hs hI [(4, rc [(0, ciV 23 [] (rwS names8)), (2, ciV 18 [vi nm, vi 8] (vi (placeF nm 8)))])] [] 117414 [q4 (placeF nm 8) names8.length] [(7, .ptr 4008 0), (8, .ptr 4009 0), (9, vs (names8.getD ((placeF nm 8).toNat) (dflt .str)))] [(4008, bTr ((mdA L))), (4009, bTr ((mdA K)))] ⟨con111.frz, con17 _ _ (by decide) (by decide), tv⟩ fun a w hs => ?_
 refine wLs hs hI [(5, rc [(2, ciV 24 [aTr ((mdA L)), vs (names8.getD ((placeF nm 8).toNat) (dflt .str))] (.tup [aTr ((memV (mdA L) (names8.getD ((placeF nm 8).toNat) (dflt .str)))), vb (memB (mdA L) (names8.getD ((placeF nm 8).toNat) (dflt .str)))]))])] [] 18840 [] [(7, .ptr 4008 0), (8, .ptr 4009 0), (9, vs (names8.getD ((placeF nm 8).toNat) (dflt .str))), (10, .ptr 6006 0), (11, vb (memB (mdA L) (names8.getD ((placeF nm 8).toNat) (dflt .str))))] [(4008, bTr ((mdA L))), (4009, bTr ((mdA K))), (6006, bTr ((memV (mdA L) (names8.getD ((placeF nm 8).toNat) (dflt .str)))))] ⟨con69 _ _ (mdA_len _), tv⟩ fun a w hs => ?_
 refine wLs hs hI [(6, rc [(3, ciV 25 [aTr ((mdA K)), vs (names8.getD ((placeF nm 8).toNat) (dflt .str)), aTr (nul)] (aTr ((setT (mdA K) (names8.getD ((placeF nm 8).toNat) (dflt .str)) nul))))])] [] 848 [] [(7, .ptr 4008 0), (8, .ptr 4009 0), (9, vs (names8.getD ((placeF nm 8).toNat) (dflt .str))), (10, .ptr 6006 0), (11, vb (memB (mdA L) (names8.getD ((placeF nm 8).toNat) (dflt .str)))), (12, .ptr 7004 0)] [(4008, bTr ((mdA L))), (4009, bTr ((mdA K))), (6006, bTr ((memV (mdA L) (names8.getD ((placeF nm 8).toNat) (dflt .str))))), (7004, bTr ((setT (mdA K) (names8.getD ((placeF nm 8).toNat) (dflt .str)) nul)))] ⟨con22 _ _ _ (mdA_len8 _), tv⟩ fun a w hs => ?_
 refine wp_seq ?_
 rcases bt (memB (mdA L) (names8.getD ((placeF nm 8).toNat) (dflt .str))) with b3 | b3
 refine wL hs hI [(7, rg [] [2, 3, 4, 1005] [])] [] 177770 [q1 b3, q1 b3, q1 b3, q1 b3] .norm [(7, .ptr 4008 0), (8, .ptr 4009 0), (9, vs (names8.getD ((placeF nm 8).toNat) (dflt .str))), (10, .ptr 6006 0), (11, vb (memB (mdA L) (names8.getD ((placeF nm 8).toNat) (dflt .str)))), (12, .ptr 7004 0), (13, vb (((memV (mdA L) (names8.getD ((placeF nm 8).toNat) (dflt .str))).kind) == 1))] [(4008, bTr ((mdA L))), (4009, bTr ((mdA K))), (6006, bTr ((memV (mdA L) (names8.getD ((placeF nm 8).toNat) (dflt .str))))), (7004, bTr ((setT (mdA K) (names8.getD ((placeF nm 8).toNat) (dflt .str)) nul)))] tv fun a w hs => ?_
 refine then_norm ?_
 refine wLs hs hI [(8, rc [(2, ciV 11 [aTr ((mdA L)), aTr ((mdA K)), vi 2, vi 0] (.tup [.agg (e8 [vi ((patG (mdA L) (mdA K)).lang), .row .opn ((patG (mdA L) (mdA K)).ops)] (((patG (mdA L) (mdA K)).value)) [.row .strs ((patG (mdA L) (mdA K)).mask)]), vi 0]))])] [] 18840 [] [(7, .ptr 4008 0), (8, .ptr 4009 0), (9, vs (names8.getD ((placeF nm 8).toNat) (dflt .str))), (10, .ptr 6006 0), (11, vb (memB (mdA L) (names8.getD ((placeF nm 8).toNat) (dflt .str)))), (12, .ptr 7004 0), (13, vb (((memV (mdA L) (names8.getD ((placeF nm 8).toNat) (dflt .str))).kind) == 1)), (14, .ptr 9006 0), (15, vi 0)] [(4008, bTr ((mdA L))), (4009, bTr ((mdA K))), (6006, bTr ((memV (mdA L) (names8.getD ((placeF nm 8).toNat) (dflt .str))))), (7004, bTr ((setT (mdA K) (names8.getD ((placeF nm 8).toNat) (dflt .str)) nul))), (9006, .var (e8 [vi ((patG (mdA L) (mdA K)).lang), .row .opn ((patG (mdA L) (mdA K)).ops)] (((patG (mdA L) (mdA K)).value)) [.row .strs ((patG (mdA L) (mdA K)).mask)]))] ⟨conDiffGy hm, tv⟩ fun a w hs => ?_
 refine wp_seq ?_
 rcases bt (canF 5 (mdA L) (setT (mdA K) (names8.getD ((placeF nm 8).toNat) (dflt .str)) nul) 2) with b4 | b4
 have b5 : (((memV (mdA L) (names8.getD ((placeF nm 8).toNat) (dflt .str))).kind) == 1) = true := by exact beq_iff_eq.2 (can_nulG h2.ka (setNul_good K hx8).1.own b4).2
 refine wL hs hI [(9, rg [(2, ciV 15 [aTr ((mdA L)), aTr ((setT (mdA K) (names8.getD ((placeF nm 8).toNat) (dflt .str)) nul)), vi 2] (vb (canF 5 (mdA L) (setT (mdA K) (names8.getD ((placeF nm 8).toNat) (dflt .str)) nul) 2)))] [4, 5, 1006, 8, 9, 10, 13] [11, 12, 1013, 1014])] (bz 1 0) 726666673333777777140 [q1 b4, q1 b4, q1 b4, q1 (ng1 b5), q1 (ng1 b5), q1 (ng1 b5), q0 false, q0 false, q1 (ng1 b5), q0 false, q1 (ng1 b5), q0 false] .norm [(7, .ptr 4008 0), (8, .ptr 4009 0), (9, vs (names8.getD ((placeF nm 8).toNat) (dflt .str))), (10, .ptr 6006 0), (11, vb (memB (mdA L) (names8.getD ((placeF nm 8).toNat) (dflt .str)))), (14, .ptr 9006 0), (15, vi 0)] [(4008, bTr ((mdA L))), (4009, bTr ((mdA K))), (6006, bTr ((memV (mdA L) (names8.getD ((placeF nm 8).toNat) (dflt .str))))), (9006, .var (e8 [vi ((patG (mdA L) (mdA K)).lang), .row .opn ((patG (mdA L) (mdA K)).ops)] (((patG (mdA L) (mdA K)).value)) [.row .strs ((patG (mdA L) (mdA K)).mask)]))] ⟨conCanC hx8, tv⟩ fun a w hs => ?_
 refine then_norm ?_
 rcases bt (memB (mdA K) (names8.getD ((placeF nm 8).toNat) (dflt .str))) with b6 | b6
 rcases bt (sameT (memV (mdA L) (names8.getD ((placeF nm 8).toNat) (dflt .str))) (memV (mdA K) (names8.getD ((placeF nm 8).toNat) (dflt .str)))) with b7 | b7
 have b8 : (memB ((patG (mdA L) (mdA K)).value) (names8.getD ((placeF nm 8).toNat) (dflt .str))) = false := by exact hmg.no _ (told_both b3 b6 b7)
 refine wL hs hI [(13, rc [(2, ciV 24 [aTr ((mdA K)), vs (names8.getD ((placeF nm 8).toNat) (dflt .str))] (.tup [aTr ((memV (mdA K) (names8.getD ((placeF nm 8).toNat) (dflt .str)))), vb (memB (mdA K) (names8.getD ((placeF nm 8).toNat) (dflt .str)))]))]), (14, rc [(3, ciV 24 [aTr (((patG (mdA L) (mdA K)).value)), vs (names8.getD ((placeF nm 8).toNat) (dflt .str))] (.tup [aTr ((memV ((patG (mdA L) (mdA K)).value) (names8.getD ((placeF nm 8).toNat) (dflt .str)))), vb (memB ((patG (mdA L) (mdA K)).value) (names8.getD ((placeF nm 8).toNat) (dflt .str)))]))]), (15, rg [(7, ciV 20 [aTr ((memV (mdA L) (names8.getD ((placeF nm 8).toNat) (dflt .str)))), aTr ((memV (mdA K) (names8.getD ((placeF nm 8).toNat) (dflt .str))))] (vb (sameT (memV (mdA L) (names8.getD ((placeF nm 8).toNat) (dflt .str))) (memV (mdA K) (names8.getD ((placeF nm 8).toNat) (dflt .str))))))] [2, 1003, 5, 6, 7, 1008, 1016] [10, 11, 12, 15]), (16, rg [(3, ciV 10 [] (vb true))] [3, 1004] [])] (bz 2 2) 12961743072666667317337437777096618848266188409798 [q0 false, q1 b3, q1 b3, q1 b6, q1 b6, q1 b6, q1 b6, q1 b7, q1 b7, q1 b7, q1 b7, q1 b7, q0 true, q1 (ng0 b8), q1 (ng0 b8)] .ret [(6, vb true)] [] ⟨con69 _ _ (mdA_len _), con69 _ _ (patG_len hmg), con18 _ _ (fine_memV (mdA_fine _) _) (fine_memV (mdA_fine _) _), conAwake, tv⟩ fun a w hs => ?_
 exact rK (.val (vb true)) [] hs rfl
 have b9 : (memB ((patG (mdA L) (mdA K)).value) (names8.getD ((placeF nm 8).toNat) (dflt .str))) = true := by exact (hmg.yes _ (told_diff b3 b6 b7)).1
 have b10 : (sameT (mergeR 5 (mdA L) ((patG (mdA L) (mdA K)).value)) (mdA K)) = true := by exact hmg.same
 refine wL hs hI [(13, rc [(2, ciV 24 [aTr ((mdA K)), vs (names8.getD ((placeF nm 8).toNat) (dflt .str))] (.tup [aTr ((memV (mdA K) (names8.getD ((placeF nm 8).toNat) (dflt .str)))), vb (memB (mdA K) (names8.getD ((placeF nm 8).toNat) (dflt .str)))]))]), (14, rc [(3, ciV 24 [aTr (((patG (mdA L) (mdA K)).value)), vs (names8.getD ((placeF nm 8).toNat) (dflt .str))] (.tup [aTr ((memV ((patG (mdA L) (mdA K)).value) (names8.getD ((placeF nm 8).toNat) (dflt .str)))), vb (memB ((patG (mdA L) (mdA K)).value) (names8.getD ((placeF nm 8).toNat) (dflt .str)))]))]), (15, rg [(7, ciV 20 [aTr ((memV (mdA L) (names8.getD ((placeF nm 8).toNat) (dflt .str)))), aTr ((memV (mdA K) (names8.getD ((placeF nm 8).toNat) (dflt .str))))] (vb (sameT (memV (mdA L) (names8.getD ((placeF nm 8).toNat) (dflt .str))) (memV (mdA K) (names8.getD ((placeF nm 8).toNat) (dflt .str))))))] [2, 1003, 5, 6, 7, 1008, 10, 11, 12, 15] [13, 14, 1015, 1016]), (17, rg [(13, ciV 26 [aTr ((mdA L)), aTr (((patG (mdA L) (mdA K)).value))] (aTr ((mergeR 5 (mdA L) ((patG (mdA L) (mdA K)).value))))), (15, ciV 20 [aTr ((mergeR 5 (mdA L) ((patG (mdA L) (mdA K)).value))), aTr ((mdA K))] (vb (sameT (mergeR 5 (mdA L) ((patG (mdA L) (mdA K)).value)) (mdA K)))), (18, ciV 10 [] (vb true))] [2, 3, 7, 1007, 1008, 10, 11, 12, 13, 14, 15, 1016, 18, 1019] [4, 5, 6])] (bz 2 0) 126666617243724327243272727723333327270972666666733337777437777096618848266188409798 [q0 false, q1 b3, q1 b3, q1 b6, q1 b6, q1 b6, q1 b6, q1 b7, q1 b7, q1 b7, q1 (ng1 b3), q1 (ng1 b3), q1 b7, q1 (ng1 b3), q1 b7, q0 false, q1 b9, q1 b9, q1 b6, q1 b6, q1 b6, q1 b9, q1 b6, q1 b9, q0 true, q0 true, q0 true, q0 true, q0 true, q0 true, q0 true, q1 b10, q1 b10] .ret [(6, vb true)] [] ⟨con69 _ _ (mdA_len _), con69 _ _ (patG_len hmg), con18 _ _ (fine_memV (mdA_fine _) _) (fine_memV (mdA_fine _) _), conMg_ 5 _ _ hmg.sm.depth (mdA_fine _) hmg.sm.fine (mg_few hmg), con18 _ _ (mg_fine hmg) (mdA_fine _), conAwake, tv⟩ fun a w hs => ?_
 exact rK (.val (vb true)) [] hs rfl
 have b11 : (memB ((patG (mdA L) (mdA K)).value) (names8.getD ((placeF nm 8).toNat) (dflt .str))) = true := by exact (hmg.yes _ (told_one b3 b6)).1
 have b12 : (((memV ((patG (mdA L) (mdA K)).value) (names8.getD ((placeF nm 8).toNat) (dflt .str))).kind) == 1) = true := by exact beq_iff_eq.2 ((hmg.yes _ (told_one b3 b6)).2.resolve_left (by rw [b6]; decide))
 have b13 : (sameT (mergeR 5 (mdA L) ((patG (mdA L) (mdA K)).value)) (mdA K)) = true := by exact hmg.same
 refine wL hs hI [(13, rc [(2, ciV 24 [aTr ((mdA K)), vs (names8.getD ((placeF nm 8).toNat) (dflt .str))] (.tup [aTr ((memV (mdA K) (names8.getD ((placeF nm 8).toNat) (dflt .str)))), vb (memB (mdA K) (names8.getD ((placeF nm 8).toNat) (dflt .str)))]))]), (14, rc [(3, ciV 24 [aTr (((patG (mdA L) (mdA K)).value)), vs (names8.getD ((placeF nm 8).toNat) (dflt .str))] (.tup [aTr ((memV ((patG (mdA L) (mdA K)).value) (names8.getD ((placeF nm 8).toNat) (dflt .str)))), vb (memB ((patG (mdA L) (mdA K)).value) (names8.getD ((placeF nm 8).toNat) (dflt .str)))]))]), (17, rg [(13, ciV 26 [aTr ((mdA L)), aTr (((patG (mdA L) (mdA K)).value))] (aTr ((mergeR 5 (mdA L) ((patG (mdA L) (mdA K)).value))))), (15, ciV 20 [aTr ((mergeR 5 (mdA L) ((patG (mdA L) (mdA K)).value))), aTr ((mdA K))] (vb (sameT (mergeR 5 (mdA L) ((patG (mdA L) (mdA K)).value)) (mdA K)))), (18, ciV 10 [] (vb true))] [2, 3, 4, 5, 6, 7, 1008, 10, 11, 12, 13, 14, 15, 1016, 18, 1019] [1007]), (15, rg [] [2, 1003, 10, 11, 12, 15] [5, 6, 7, 1008, 13, 14, 1015, 1016])] (bz 2 0) 1266666172437243272432727277233272727272709796666673333777733377096618848266188409798 [q0 false, q1 b3, q1 b3, q1 b6, q1 b6, q1 b6, q1 b6, q0 false, q0 false, q0 false, q1 (ng1 b3), q1 (ng1 b3), q0 false, q1 (ng1 b3), q0 false, q0 false, q1 b11, q1 b11, q1 b6, q1 b6, q1 b6, q1 b11, q1 b6, q1 b11, q1 b12, q1 b12, q1 b12, q1 b12, q1 b12, q1 b12, q1 b12, q1 b13, q1 b13] .ret [(6, vb true)] [] ⟨con69 _ _ (mdA_len _), con69 _ _ (patG_len hmg), conMg_ 5 _ _ hmg.sm.depth (mdA_fine _) hmg.sm.fine (mg_few hmg), con18 _ _ (mg_fine hmg) (mdA_fine _), conAwake, tv⟩ fun a w hs => ?_
 exact rK (.val (vb true)) [] hs rfl
 refine wL hs hI [(9, rg [(2, ciV 15 [aTr ((mdA L)), aTr ((setT (mdA K) (names8.getD ((placeF nm 8).toNat) (dflt .str)) nul)), vi 2] (vb (canF 5 (mdA L) (setT (mdA K) (names8.getD ((placeF nm 8).toNat) (dflt .str)) nul) 2)))] [8, 9, 10, 13] [4, 5, 1006, 11, 12, 1013, 1014])] (bz 1 0) 729666673333777733140 [q1 b4, q1 b4, q1 b4, q0 false, q0 false, q0 false, q0 false, q0 false, q0 false, q0 false, q0 false, q0 false] .norm [(7, .ptr 4008 0), (8, .ptr 4009 0), (9, vs (names8.getD ((placeF nm 8).toNat) (dflt .str))), (10, .ptr 6006 0), (11, vb (memB (mdA L) (names8.getD ((placeF nm 8).toNat) (dflt .str)))), (14, .ptr 9006 0), (15, vi 0)] [(4008, bTr ((mdA L))), (4009, bTr ((mdA K))), (6006, bTr ((memV (mdA L) (names8.getD ((placeF nm 8).toNat) (dflt .str))))), (9006, .var (e8 [vi ((patG (mdA L) (mdA K)).lang), .row .opn ((patG (mdA L) (mdA K)).ops)] (((patG (mdA L) (mdA K)).value)) [.row .strs ((patG (mdA L) (mdA K)).mask)]))] ⟨conCanC hx8, tv⟩ fun a w hs => ?_
 refine then_norm ?_
 rcases bt (memB (mdA K) (names8.getD ((placeF nm 8).toNat) (dflt .str))) with b14 | b14
 rcases bt (sameT (memV (mdA L) (names8.getD ((placeF nm 8).toNat) (dflt .str))) (memV (mdA K) (names8.getD ((placeF nm 8).toNat) (dflt .str)))) with b15 | b15
 have b16 : (memB ((patG (mdA L) (mdA K)).value) (names8.getD ((placeF nm 8).toNat) (dflt .str))) = false := by exact hmg.no _ (told_both b3 b14 b15)
 refine wL hs hI [(13, rc [(2, ciV 24 [aTr ((mdA K)), vs (names8.getD ((placeF nm 8).toNat) (dflt .str))] (.tup [aTr ((memV (mdA K) (names8.getD ((placeF nm 8).toNat) (dflt .str)))), vb (memB (mdA K) (names8.getD ((placeF nm 8).toNat) (dflt .str)))]))]), (14, rc [(3, ciV 24 [aTr (((patG (mdA L) (mdA K)).value)), vs (names8.getD ((placeF nm 8).toNat) (dflt .str))] (.tup [aTr ((memV ((patG (mdA L) (mdA K)).value) (names8.getD ((placeF nm 8).toNat) (dflt .str)))), vb (memB ((patG (mdA L) (mdA K)).value) (names8.getD ((placeF nm 8).toNat) (dflt .str)))]))]), (15, rg [(7, ciV 20 [aTr ((memV (mdA L) (names8.getD ((placeF nm 8).toNat) (dflt .str)))), aTr ((memV (mdA K) (names8.getD ((placeF nm 8).toNat) (dflt .str))))] (vb (sameT (memV (mdA L) (names8.getD ((placeF nm 8).toNat) (dflt .str))) (memV (mdA K) (names8.getD ((placeF nm 8).toNat) (dflt .str))))))] [2, 1003, 5, 6, 7, 1008, 1016] [10, 11, 12, 15]), (16, rg [(3, ciV 10 [] (vb true))] [3, 1004] [])] (bz 2 2) 12961743072666667317337437777096618848266188409798 [q0 false, q1 b3, q1 b3, q1 b14, q1 b14, q1 b14, q1 b14, q1 b15, q1 b15, q1 b15, q1 b15, q1 b15, q0 true, q1 (ng0 b16), q1 (ng0 b16)] .ret [(6, vb true)] [] ⟨con69 _ _ (mdA_len _), con69 _ _ (patG_len hmg), con18 _ _ (fine_memV (mdA_fine _) _) (fine_memV (mdA_fine _) _), conAwake, tv⟩ fun a w hs => ?_
 exact rK (.val (vb true)) [] hs rfl
 have b17 : (memB ((patG (mdA L) (mdA K)).value) (names8.getD ((placeF nm 8).toNat) (dflt .str))) = true := by exact (hmg.yes _ (told_diff b3 b14 b15)).1
 have b18 : (sameT (mergeR 5 (mdA L) ((patG (mdA L) (mdA K)).value)) (mdA K)) = true := by exact hmg.same
 refine wL hs hI [(13, rc [(2, ciV 24 [aTr ((mdA K)), vs (names8.getD ((placeF nm 8).toNat) (dflt .str))] (.tup [aTr ((memV (mdA K) (names8.getD ((placeF nm 8).toNat) (dflt .str)))), vb (memB (mdA K) (names8.getD ((placeF nm 8).toNat) (dflt .str)))]))]), (14, rc [(3, ciV 24 [aTr (((patG (mdA L) (mdA K)).value)), vs (names8.getD ((placeF nm 8).toNat) (dflt .str))] (.tup [aTr ((memV ((patG (mdA L) (mdA K)).value) (names8.getD ((placeF nm 8).toNat) (dflt .str)))), vb (memB ((patG (mdA L) (mdA K)).value) (names8.getD ((placeF nm 8).toNat) (dflt .str)))]))]), (15, rg [(7, ciV 20 [aTr ((memV (mdA L) (names8.getD ((placeF nm 8).toNat) (dflt .str)))), aTr ((memV (mdA K) (names8.getD ((placeF nm 8).toNat) (dflt .str))))] (vb (sameT (memV (mdA L) (names8.getD ((placeF nm 8).toNat) (dflt .str))) (memV (mdA K) (names8.getD ((placeF nm 8).toNat) (dflt .str))))))] [2, 1003, 5, 6, 7, 1008, 10, 11, 12, 15] [13, 14, 1015, 1016]), (17, rg [(13, ciV 26 [aTr ((mdA L)), aTr (((patG (mdA L) (mdA K)).value))] (aTr ((mergeR 5 (mdA L) ((patG (mdA L) (mdA K)).value))))), (15, ciV 20 [aTr ((mergeR 5 (mdA L) ((patG (mdA L) (mdA K)).value))), aTr ((mdA K))] (vb (sameT (mergeR 5 (mdA L) ((patG (mdA L) (mdA K)).value)) (mdA K)))), (18, ciV 10 [] (vb true))] [2, 3, 7, 1007, 1008, 10, 11, 12, 13, 14, 15, 1016, 18, 1019] [4, 5, 6])] (bz 2 0) 126666617243724327243272727723333327270972666666733337777437777096618848266188409798 [q0 false, q1 b3, q1 b3, q1 b14, q1 b14, q1 b14, q1 b14, q1 b15, q1 b15, q1 b15, q1 (ng1 b3), q1 (ng1 b3), q1 b15, q1 (ng1 b3), q1 b15, q0 false, q1 b17, q1 b17, q1 b14, q1 b14, q1 b14, q1 b17, q1 b14, q1 b17, q0 true, q0 true, q0 true, q0 true, q0 true, q0 true, q0 true, q1 b18, q1 b18] .ret [(6, vb true)] [] ⟨con69 _ _ (mdA_len _), con69 _ _ (patG_len hmg), con18 _ _ (fine_memV (mdA_fine _) _) (fine_memV (mdA_fine _) _), conMg_ 5 _ _ hmg.sm.depth (mdA_fine _) hmg.sm.fine (mg_few hmg), con18 _ _ (mg_fine hmg) (mdA_fine _), conAwake, tv⟩ fun a w hs => ?_
 exact rK (.val (vb true)) [] hs rfl
 have b19 : (memB ((patG (mdA L) (mdA K)).value) (names8.getD ((placeF nm 8).toNat) (dflt .str))) = true := by exact (hmg.yes _ (told_one b3 b14)).1
 have b20 : (((memV ((patG (mdA L) (mdA K)).value) (names8.getD ((placeF nm 8).toNat) (dflt .str))).kind) == 1) = true := by exact beq_iff_eq.2 ((hmg.yes _ (told_one b3 b14)).2.resolve_left (by rw [b14]; decide))
 have b21 : (sameT (mergeR 5 (mdA L) ((patG (mdA L) (mdA K)).value)) (mdA K)) = true := by exact hmg.same
 refine wL hs hI [(13, rc [(2, ciV 24 [aTr ((mdA K)), vs (names8.getD ((placeF nm 8).toNat) (dflt .str))] (.tup [aTr ((memV (mdA K) (names8.getD ((placeF nm 8).toNat) (dflt .str)))), vb (memB (mdA K) (names8.getD ((placeF nm 8).toNat) (dflt .str)))]))]), (14, rc [(3, ciV 24 [aTr (((patG (mdA L) (mdA K)).value)), vs (names8.getD ((placeF nm 8).toNat) (dflt .str))] (.tup [aTr ((memV ((patG (mdA L) (mdA K)).value) (names8.getD ((placeF nm 8).toNat) (dflt .str)))), vb (memB ((patG (mdA L) (mdA K)).value) (names8.getD ((placeF nm 8).toNat) (dflt .str)))]))]), (17, rg [(13, ciV 26 [aTr ((mdA L)), aTr (((patG (mdA L) (mdA K)).value))] (aTr ((mergeR 5 (mdA L) ((patG (mdA L) (mdA K)).value))))), (15, ciV 20 [aTr ((mergeR 5 (mdA L) ((patG (mdA L) (mdA K)).value))), aTr ((mdA K))] (vb (sameT (mergeR 5 (mdA L) ((patG (mdA L) (mdA K)).value)) (mdA K)))), (18, ciV 10 [] (vb true))] [2, 3, 4, 5, 6, 7, 1008, 10, 11, 12, 13, 14, 15, 1016, 18, 1019] [1007]), (15, rg [] [2, 1003, 10, 11, 12, 15] [5, 6, 7, 1008, 13, 14, 1015, 1016])] (bz 2 0) 1266666172437243272432727277233272727272709796666673333777733377096618848266188409798 [q0 false, q1 b3, q1 b3, q1 b14, q1 b14, q1 b14, q1 b14, q0 false, q0 false, q0 false, q1 (ng1 b3), q1 (ng1 b3), q0 false, q1 (ng1 b3), q0 false, q0 false, q1 b19, q1 b19, q1 b14, q1 b14, q1 b14, q1 b19, q1 b14, q1 b19, q1 b20, q1 b20, q1 b20, q1 b20, q1 b20, q1 b20, q1 b20, q1 b21, q1 b21] .ret [(6, vb true)] [] ⟨con69 _ _ (mdA_len _), con69 _ _ (patG_len hmg), conMg_ 5 _ _ hmg.sm.depth (mdA_fine _) hmg.sm.fine (mg_few hmg), con18 _ _ (mg_fine hmg) (mdA_fine _), conAwake, tv⟩ fun a w hs => ?_
 exact rK (.val (vb true)) [] hs rfl
 refine wL hs hI [(7, rg [] [] [2, 3, 4, 1005])] [] 173330 [q1 b3, q1 b3, q1 b3, q1 b3] .norm [(7, .ptr 4008 0), (8, .ptr 4009 0), (9, vs (names8.getD ((placeF nm 8).toNat) (dflt .str))), (10, .ptr 6006 0), (11, vb (memB (mdA L) (names8.getD ((placeF nm 8).toNat) (dflt .str)))), (12, .ptr 7004 0), (13, vb false)] [(4008, bTr ((mdA L))), (4009, bTr ((mdA K))), (6006, bTr ((memV (mdA L) (names8.getD ((placeF nm 8).toNat) (dflt .str))))), (7004, bTr ((setT (mdA K) (names8.getD ((placeF nm 8).toNat) (dflt .str)) nul)))] tv fun a w hs => ?_
 refine then_norm ?_
 refine wLs hs hI [(8, rc [(2, ciV 11 [aTr ((mdA L)), aTr ((mdA K)), vi 2, vi 0] (.tup [.agg (e8 [vi ((patG (mdA L) (mdA K)).lang), .row .opn ((patG (mdA L) (mdA K)).ops)] (((patG (mdA L) (mdA K)).value)) [.row .strs ((patG (mdA L) (mdA K)).mask)]), vi 0]))])] [] 18840 [] [(7, .ptr 4008 0), (8, .ptr 4009 0), (9, vs (names8.getD ((placeF nm 8).toNat) (dflt .str))), (10, .ptr 6006 0), (11, vb (memB (mdA L) (names8.getD ((placeF nm 8).toNat) (dflt .str)))), (12, .ptr 7004 0), (13, vb false), (14, .ptr 9006 0), (15, vi 0)] [(4008, bTr ((mdA L))), (4009, bTr ((mdA K))), (6006, bTr ((memV (mdA L) (names8.getD ((placeF nm 8).toNat) (dflt .str))))), (7004, bTr ((setT (mdA K) (names8.getD ((placeF nm 8).toNat) (dflt .str)) nul))), (9006, .var (e8 [vi ((patG (mdA L) (mdA K)).lang), .row .opn ((patG (mdA L) (mdA K)).ops)] (((patG (mdA L) (mdA K)).value)) [.row .strs ((patG (mdA L) (mdA K)).mask)]))] ⟨conDiffGy hm, tv⟩ fun a w hs => ?_
 refine wp_seq ?_
 rcases bt (canF 5 (mdA L) (setT (mdA K) (names8.getD ((placeF nm 8).toNat) (dflt .str)) nul) 2) with b22 | b22
 exact absurd ((can_nulG h2.ka (setNul_good K hx8).1.own b22).1) (by rw [b3]; decide)
 refine wL hs hI [(9, rg [(2, ciV 15 [aTr ((mdA L)), aTr ((setT (mdA K) (names8.getD ((placeF nm 8).toNat) (dflt .str)) nul)), vi 2] (vb (canF 5 (mdA L) (setT (mdA K) (names8.getD ((placeF nm 8).toNat) (dflt .str)) nul) 2)))] [8, 9, 10, 13] [4, 5, 1006, 11, 12, 1013, 1014])] (bz 1 0) 729666673333777733140 [q1 b22, q1 b22, q1 b22, q0 false, q0 false, q0 false, q0 false, q0 false, q0 false, q0 false, q0 false, q0 false] .norm [(7, .ptr 4008 0), (8, .ptr 4009 0), (9, vs (names8.getD ((placeF nm 8).toNat) (dflt .str))), (10, .ptr 6006 0), (11, vb (memB (mdA L) (names8.getD ((placeF nm 8).toNat) (dflt .str)))), (14, .ptr 9006 0), (15, vi 0)] [(4008, bTr ((mdA L))), (4009, bTr ((mdA K))), (6006, bTr ((memV (mdA L) (names8.getD ((placeF nm 8).toNat) (dflt .str))))), (9006, .var (e8 [vi ((patG (mdA L) (mdA K)).lang), .row .opn ((patG (mdA L) (mdA K)).ops)] (((patG (mdA L) (mdA K)).value)) [.row .strs ((patG (mdA L) (mdA K)).mask)]))] ⟨conCanC hx8, tv⟩ fun a w hs => ?_
 refine then_norm ?_
 rcases bt (memB (mdA K) (names8.getD ((placeF nm 8).toNat) (dflt .str))) with b23 | b23
 have b24 : (memB ((patG (mdA L) (mdA K)).value) (names8.getD ((placeF nm 8).toNat) (dflt .str))) = true := by exact (hmg.yes _ (told_two b3 b23)).1
 have b25 : (sameT (mergeR 5 (mdA L) ((patG (mdA L) (mdA K)).value)) (mdA K)) = true := by exact hmg.same
 refine wL hs hI [(13, rc [(2, ciV 24 [aTr ((mdA K)), vs (names8.getD ((placeF nm 8).toNat) (dflt .str))] (.tup [aTr ((memV (mdA K) (names8.getD ((placeF nm 8).toNat) (dflt .str)))), vb (memB (mdA K) (names8.getD ((placeF nm 8).toNat) (dflt .str)))]))]), (14, rc [(3, ciV 24 [aTr (((patG (mdA L) (mdA K)).value)), vs (names8.getD ((placeF nm 8).toNat) (dflt .str))] (.tup [aTr ((memV ((patG (mdA L) (mdA K)).value) (names8.getD ((placeF nm 8).toNat) (dflt .str)))), vb (memB ((patG (mdA L) (mdA K)).value) (names8.getD ((placeF nm 8).toNat) (dflt .str)))]))]), (17, rg [(13, ciV 26 [aTr ((mdA L)), aTr (((patG (mdA L) (mdA K)).value))] (aTr ((mergeR 5 (mdA L) ((patG (mdA L) (mdA K)).value))))), (15, ciV 20 [aTr ((mergeR 5 (mdA L) ((patG (mdA L) (mdA K)).value))), aTr ((mdA K))] (vb (sameT (mergeR 5 (mdA L) ((patG (mdA L) (mdA K)).value)) (mdA K)))), (18, ciV 10 [] (vb true))] [2, 3, 7, 1007, 1008, 10, 11, 12, 13, 14, 15, 1016, 18, 1019] [4, 5, 6]), (15, rg [] [10, 11, 12, 13, 14, 15, 1015] [2, 1003, 5, 6, 7, 1008, 1016])] (bz 2 0) 12666661724372432724327272772333332727097296666673377777733373096618848266188409798 [q0 false, q1 b3, q1 b3, q0 false, q0 false, q0 false, q0 false, q0 false, q0 false, q0 false, q1 (ng0 b3), q1 (ng0 b3), q0 false, q1 (ng0 b3), q0 false, q1 (ng1 b23), q1 b24, q1 b24, q1 b23, q1 b23, q1 b23, q1 b24, q1 b23, q1 b24, q0 true, q0 true, q0 true, q0 true, q0 true, q0 true, q0 true, q1 b25, q1 b25] .ret [(6, vb true)] [] ⟨con69 _ _ (mdA_len _), con69 _ _ (patG_len hmg), conMg_ 5 _ _ hmg.sm.depth (mdA_fine _) hmg.sm.fine (mg_few hmg), con18 _ _ (mg_fine hmg) (mdA_fine _), conAwake, tv⟩ fun a w hs => ?_
 exact rK (.val (vb true)) [] hs rfl
 have b26 : (memB ((patG (mdA L) (mdA K)).value) (names8.getD ((placeF nm 8).toNat) (dflt .str))) = false := by exact hmg.no _ (alike_none b3 b23)
 refine wL hs hI [(13, rc [(2, ciV 24 [aTr ((mdA K)), vs (names8.getD ((placeF nm 8).toNat) (dflt .str))] (.tup [aTr ((memV (mdA K) (names8.getD ((placeF nm 8).toNat) (dflt .str)))), vb (memB (mdA K) (names8.getD ((placeF nm 8).toNat) (dflt .str)))]))]), (14, rc [(3, ciV 24 [aTr (((patG (mdA L) (mdA K)).value)), vs (names8.getD ((placeF nm 8).toNat) (dflt .str))] (.tup [aTr ((memV ((patG (mdA L) (mdA K)).value) (names8.getD ((placeF nm 8).toNat) (dflt .str)))), vb (memB ((patG (mdA L) (mdA K)).value) (names8.getD ((placeF nm 8).toNat) (dflt .str)))]))]), (16, rg [(3, ciV 10 [] (vb true))] [3, 1004] []), (15, rg [] [10, 11, 12, 13, 14, 15, 1015] [2, 1003, 5, 6, 7, 1008, 1016])] (bz 2 2) 1296174307296666673377777733373096618848266188409798 [q0 false, q1 b3, q1 b3, q0 false, q0 false, q0 false, q0 false, q0 false, q0 false, q0 false, q1 (ng0 b3), q1 (ng0 b3), q0 false, q1 (ng0 b3), q0 false, q1 (ng0 b23), q1 (ng0 b26), q1 (ng0 b26)] .ret [(6, vb true)] [] ⟨con69 _ _ (mdA_len _), con69 _ _ (patG_len hmg), conAwake, tv⟩ fun a w hs => ?_
 exact rK (.val (vb true)) [] hs rfl
theorem law_DiffMerges_n (l k : List Int) (nm : Int) (L K : List Int) (hL : [45] ++ l = L) (hK : [45] ++ k = K) (h2 : Two (mdA L) (mdA K)) (hm : (mergedO 5 (mdA L) (mdA K)).isSome = false) : Con Tryz.prog I0 6 [.row (.int .i64) l, .row (.int .i64) k, vi nm] (.val (vb true)) := by
 have hpl := placeF_in nm 8 (by decide)
 have hn8 : names8.length = 8 := rfl
 have hx8 : textOk (names8.getD ((placeF nm 8).toNat) (dflt .str)) = true := names8_text (getD_mem (by omega) _)
 refine con_of Tryz.func6 rfl (Nat.le_of_ble_eq_true rfl) stab (fun w0 fz a hI hs => ?_)
 refine wNs hs hI [] 11 [] [(0, .row (.int .i64) l), (1, .row (.int .i64) k), (2, vi nm)] [] fun a w hs => ?_
 refine wp_seq ?_
 rcases bd ((l.length : Int) > 40) with ⟨b1, n1⟩ | ⟨b1, n1⟩
 refine wL hs hI [(2, rc [(0, ciV 10 [] (vb true))]), (1, rg [] [1007] [4, 5, 6])] (bz 1 1) 1904366733318 [q1 b1, q1 b1, q1 b1, q1 b1, q0 true] .ret [(6, vb true)] [] ⟨conAwake, tv⟩ fun a w hs => ?_
 refine then_ret ?_
 exact rK (.val (vb true)) [] hs rfl
 rcases bd ((k.length : Int) > 40) with ⟨b2, n2⟩ | ⟨b2, n2⟩
 refine wL hs hI [(2, rc [(0, ciV 10 [] (vb true))]), (1, rg [] [4, 5, 6] [1007])] (bz 1 1) 190432966777718 [q1 b1, q1 b1, q1 b1, q1 b1, q1 b2] .ret [(6, vb true)] [] ⟨conAwake, tv⟩ fun a w hs => ?_
 refine then_ret ?_
 exact rK (.val (vb true)) [] hs rfl
 refine wL hs hI [(1, rg [] [4, 5, 6] [1007])] (bz 1 0) 72966777718 [q1 b1, q1 b1, q1 b1, q1 b1, q1 b2] .norm [(0, .row (.int .i64) l), (1, .row (.int .i64) k), (2, vi nm)] [] tv fun a w hs => ?_
 refine then_norm ?_
 refine wLs hs hI [(3, rc [(3, ciA 21 [.row (.int .i64) (([45]) ++ l), vi 3] [] [4002] (.val (aTr ((mdA L))))), (7, ciA 21 [.row (.int .i64) (([45]) ++ k), vi 3] [] [4006] (.val (aTr ((mdA K)))))])] [] 118430430 [q7 1 l.length 8, q7 1 k.length 8] [(2, vi nm), (7, .ptr 4008 0), (8, .ptr 4009 0)] [(4008, bTr ((mdA L))), (4009, bTr ((mdA K)))] ⟨conMdA hL, conMdA hK, tv⟩ fun a w hs => ?_
 refine wLs hs hI [(4, rc [(0, ciV 23 [] (rwS names8)), (2, ciV 18 [vi nm, vi 8] (vi (placeF nm 8)))])] [] 117414 [q4 (placeF nm 8) names8.length] [(7, .ptr 4008 0), (8, .ptr 4009 0), (9, vs (names8.getD ((placeF nm 8).toNat) (dflt .str)))] [(4008, bTr ((mdA L))), (4009, bTr ((mdA K)))] ⟨con111.frz, con17 _ _ (by decide) (by decide), tv⟩ fun a w hs => ?_
 refine wLs hs hI [(5, rc [(2, ciV 24 [aTr ((mdA L)), vs (names8.getD ((placeF nm 8).toNat) (dflt .str))] (.tup [aTr ((memV (mdA L) (names8.getD ((placeF nm 8).toNat) (dflt .str)))), vb (memB (mdA L) (names8.getD ((placeF nm 8).toNat) (dflt .str)))]))])] [] 18840 [] [(7, .ptr 4008 0), (8, .ptr 4009 0), (9, vs (names8.getD ((placeF nm 8).toNat) (dflt .str))), (10, .ptr 6006 0), (11, vb (memB (mdA L) (names8.getD ((placeF nm 8).toNat) (dflt .str))))] [(4008, bTr ((mdA L))), (4009, bTr ((mdA K))), (6006, bTr ((memV (mdA L) (names8.getD ((placeF nm 8).toNat) (dflt .str)))))] ⟨con69 _ _ (mdA_len _), tv⟩ fun a w hs => ?_
 refine wLs hs hI [(6, rc [(3, ciV 25 [aTr ((mdA K)), vs (names8.getD ((placeF nm 8).toNat) (dflt .str)), aTr (nul)] (aTr ((setT (mdA K) (names8.getD ((placeF nm 8).toNat) (dflt .str)) nul))))])] [] 848 [] [(7, .ptr 4008 0), (8, .ptr 4009 0), (9, vs (names8.getD ((placeF nm 8).toNat) (dflt .str))), (10, .ptr 6006 0), (11, vb (memB (mdA L) (names8.getD ((placeF nm 8).toNat) (dflt .str)))), (12, .ptr 7004 0)] [(4008, bTr ((mdA L))), (4009, bTr ((mdA K))), (6006, bTr ((memV (mdA L) (names8.getD ((placeF nm 8).toNat) (dflt .str))))), (7004, bTr ((setT (mdA K) (names8.getD ((placeF nm 8).toNat) (dflt .str)) nul)))] ⟨con22 _ _ _ (mdA_len8 _), tv⟩ fun a w hs => ?_
 rcases bt (memB (mdA L) (names8.getD ((placeF nm 8).toNat) (dflt .str))) with b3 | b3
 rcases bt (canF 5 (mdA L) (setT (mdA K) (names8.getD ((placeF nm 8).toNat) (dflt .str)) nul) 2) with b4 | b4
 have b5 : (((memV (mdA L) (names8.getD ((placeF nm 8).toNat) (dflt .str))).kind) == 1) = true := by exact beq_iff_eq.2 (can_nulG h2.ka (setNul_good K hx8).1.own b4).2
 refine wL hs hI [(8, rc [(2, ciV 11 [aTr ((mdA L)), aTr ((mdA K)), vi 2, vi 0] (.tup [.agg [vi Pat.zero.lang, .row .opn Pat.zero.ops, vi Pat.zero.value.kind, vb Pat.zero.value.b, vb Pat.zero.value.n.neg, rwU Pat.zero.value.n.m, vi Pat.zero.value.n.e, vs Pat.zero.value.s, rwS Pat.zero.value.k, rwT Pat.zero.value.v, .row .strs Pat.zero.mask], vi 7]))]), (9, rg [(2, ciV 15 [aTr ((mdA L)), aTr ((setT (mdA K) (names8.getD ((placeF nm 8).toNat) (dflt .str)) nul)), vi 2] (vb (canF 5 (mdA L) (setT (mdA K) (names8.getD ((placeF nm 8).toNat) (dflt .str)) nul) 2)))] [4, 5, 1006, 8, 9, 10, 11, 12, 13, 1013] [1014]), (12, rg [(2, ciV 15 [aTr ((mdA L)), aTr ((mdA K)), vi 2] (vb false)), (5, ciV 10 [] (vb true))] [5, 1006] []), (7, rg [] [2, 3, 4, 1005] [])] (bz 2 2) 126617430417989729666667337777777714026618840966177770 [q1 b3, q1 b3, q1 b3, q1 b3, q1 b4, q1 b4, q1 b4, q1 (ng1 b5), q1 (ng1 b5), q1 (ng1 b5), q0 true, q0 true, q1 (ng1 b5), q0 true, q1 (ng1 b5), q0 false, q0 true, q0 true, q0 true] .ret [(6, vb true)] [] ⟨conDiffGn hm, conCanC hx8, conCanGn hm, conAwake, tv⟩ fun a w hs => ?_
 exact rK (.val (vb true)) [] hs rfl
 refine wL hs hI [(8, rc [(2, ciV 11 [aTr ((mdA L)), aTr ((mdA K)), vi 2, vi 0] (.tup [.agg [vi Pat.zero.lang, .row .opn Pat.zero.ops, vi Pat.zero.value.kind, vb Pat.zero.value.b, vb Pat.zero.value.n.neg, rwU Pat.zero.value.n.m, vi Pat.zero.value.n.e, vs Pat.zero.value.s, rwS Pat.zero.value.k, rwT Pat.zero.value.v, .row .strs Pat.zero.mask], vi 7]))]), (9, rg [(2, ciV 15 [aTr ((mdA L)), aTr ((setT (mdA K) (names8.getD ((placeF nm 8).toNat) (dflt .str)) nul)), vi 2] (vb (canF 5 (mdA L) (setT (mdA K) (names8.getD ((placeF nm 8).toNat) (dflt .str)) nul) 2)))] [8, 9, 10, 11, 12, 13, 1013] [4, 5, 1006, 1014]), (12, rg [(2, ciV 15 [aTr ((mdA L)), aTr ((mdA K)), vi 2] (vb false)), (5, ciV 10 [] (vb true))] [5, 1006] []), (7, rg [] [2, 3, 4, 1005] [])] (bz 2 2) 12661743041798972666667337777773314026618840966177770 [q1 b3, q1 b3, q1 b3, q1 b3, q1 b4, q1 b4, q1 b4, q0 false, q0 false, q0 false, q0 true, q0 true, q0 false, q0 true, q0 false, q0 false, q0 true, q0 true, q0 true] .ret [(6, vb true)] [] ⟨conDiffGn hm, conCanC hx8, conCanGn hm, conAwake, tv⟩ fun a w hs => ?_
 exact rK (.val (vb true)) [] hs rfl
 rcases bt (canF 5 (mdA L) (setT (mdA K) (names8.getD ((placeF nm 8).toNat) (dflt .str)) nul) 2) with b6 | b6
 exact absurd ((can_nulG h2.ka (setNul_good K hx8).1.own b6).1) (by rw [b3]; decide)
 refine wL hs hI [(8, rc [(2, ciV 11 [aTr ((mdA L)), aTr ((mdA K)), vi 2, vi 0] (.tup [.agg [vi Pat.zero.lang, .row .opn Pat.zero.ops, vi Pat.zero.value.kind, vb Pat.zero.value.b, vb Pat.zero.value.n.neg, rwU Pat.zero.value.n.m, vi Pat.zero.value.n.e, vs Pat.zero.value.s, rwS Pat.zero.value.k, rwT Pat.zero.value.v, .row .strs Pat.zero.mask], vi 7]))]), (9, rg [(2, ciV 15 [aTr ((mdA L)), aTr ((setT (mdA K) (names8.getD ((placeF nm 8).toNat) (dflt .str)) nul)), vi 2] (vb (canF 5 (mdA L) (setT (mdA K) (names8.getD ((placeF nm 8).toNat) (dflt .str)) nul) 2)))] [8, 9, 10, 11, 12, 13, 1013] [4, 5, 1006, 1014]), (12, rg [(2, ciV 15 [aTr ((mdA L)), aTr ((mdA K)), vi 2] (vb false)), (5, ciV 10 [] (vb true))] [5, 1006] []), (7, rg [] [] [2, 3, 4, 1005])] (bz 2 2) 12661743041798972666667337777773314026618840296173330 [q1 b3, q1 b3, q1 b3, q1 b3, q1 b6, q1 b6, q1 b6, q0 false, q0 false, q0 false, q0 true, q0 true, q0 false, q0 true, q0 false, q0 false, q0 true, q0 true, q0 true] .ret [(6, vb true)] [] ⟨conDiffGn hm, conCanC hx8, conCanGn hm, conAwake, tv⟩ fun a w hs => ?_
 exact rK (.val (vb true)) [] hs rfl
theorem law_DiffMerges (l k : List Int) (nm : Int) : Con Tryz.prog I0 6 [.row (.int .i64) l, .row (.int .i64) k, vi nm] (.val (vb true)) := by
 cases hm : (mergedO 5 (mdA ([45] ++ l)) (mdA ([45] ++ k))).isSome with
 | true => exact law_DiffMerges_y l k nm _ _ rfl rfl (mdA_two rfl rfl) hm
 | false => exact law_DiffMerges_n l k nm _ _ rfl rfl (mdA_two rfl rfl) hm
end Go.Proofs.YtfimffgfnhplkaaGreatDoor.F
namespace Go.Proofs.YtfimffgfnhplkaaGreatDoor.X
open Go.ChangeShapes Go.WideShapes Go.ChangeAt Go.RowKit
theorem rl_diffMerges {W : World} {fz : Nat → Prop} {η : Nat → Option Value} {v0 : Value} {l0 : List Int} (y0 : Go.Proofs.YtfimffgfnhplkaaGreatDoor.F.R W fz η v0 (.row (.int .i64) l0)) {v1 : Value} {l1 : List Int} (y1 : Go.Proofs.YtfimffgfnhplkaaGreatDoor.F.R W fz η v1 (.row (.int .i64) l1)) {a2 : Int} : Go.Proofs.YtfimffgfnhplkaaGreatDoor.F.RL W fz η #[v0, v1, .int .i64 a2] [.row (.int .i64) l0, .row (.int .i64) l1, .lit (.int .i64 a2)] := by
 refine ⟨rfl, fun j v a hv ha => ?_⟩
 rcases j with _ | j
 simp only [List.getElem?_toArray, List.getElem?_cons_zero, List.getElem?_cons_succ, Option.some.injEq] at hv ha
 subst hv ha
 exact y0
 rcases j with _ | j
 simp only [List.getElem?_toArray, List.getElem?_cons_zero, List.getElem?_cons_succ, Option.some.injEq] at hv ha
 subst hv ha
 exact y1
 rcases j with _ | j
 simp only [List.getElem?_toArray, List.getElem?_cons_zero, List.getElem?_cons_succ, Option.some.injEq] at hv ha
 subst hv ha
 exact .lit _
 simp at ha
theorem contractDiffMerges (H : Type) (enc : TypeId × Value → H) (W : World) (base : Nat) (args : Array Value) (ds gs : List (DataW H)) (before : List MemPlace)
  (hval : ∀ (j : Nat) t v, Tryz.f6.params[j]? = some t → args[j]? = some v → Value.okWide Tryz.prog W .any base t v)
  (hW : DataW.Whole enc Tryz.prog Tryz.f6.params.toList Rows.diffMergesSpec.vars false W args.toList ds gs before) (hL : laidMetH Tryz.prog Rows.diffMergesRow.laid W) (hS : W.ShapedOpen Tryz.prog) :
  Calls Tryz.prog 6 args W fun e W' => ∃ v, e = .returned v ∧ Rows.diffMergesSpec.post enc Tryz.prog Tryz.f6 false true false false W args v W' := by
 have hW' := hW
 obtain ⟨p, q, hA0, hV, rfl, hfz, hnd⟩ := hW
 have hA : DataW.TrodAll enc Tryz.prog W 0 (fun _ => true) true Tryz.f6.params.toList args.toList ds p := hA0
 rw [Tryz.params6] at hA hval
 obtain ⟨v0, vs0, d0, ds0, p0, q0, hargs, rfl, rfl, h0, r0⟩ := trodAll_cons hA
 obtain ⟨v1, vs1, d1, ds1, p1, q1, rfl, rfl, rfl, h1, r1⟩ := trodAll_cons r0
 obtain ⟨v2, vs2, d2, ds2, p2, q2, rfl, rfl, rfl, h2, r2⟩ := trodAll_cons r1
 obtain ⟨rfl, rfl, rfl⟩ := trodAll_nil r2
 obtain rfl : args = #[v0, v1, v2] := by cases args; simp_all
 obtain ⟨rfl, rfl⟩ := trodVars_none hV
 have k0 := h0
 have lt0 : ∀ x ∈ p0, x.block < W.heap.size := by obtain ⟨m, hm⟩ := k0; exact DataW.trod_lt m _ _ _ hm
 obtain ⟨a0, y0⟩ := open_rowI (hval 0 42 v0 rfl rfl) h0
 have k1 := h1
 have lt1 : ∀ x ∈ p1, x.block < W.heap.size := by obtain ⟨m, hm⟩ := k1; exact DataW.trod_lt m _ _ _ hm
 obtain ⟨a1, y1⟩ := open_rowI (hval 1 42 v1 rfl rfl) h1
 obtain ⟨a2, rfl, rfl, rfl, w2⟩ := open_int Tryz.underlying3 (hval 2 3 v2 rfl rfl) h2
 clear hA0
 have hv1 : Go.Proofs.YtfimffgfnhplkaaGreatDoor.F.RL W (fun k => k < W.heap.size) Go.Proofs.YtfimffgfnhplkaaGreatDoor.F.noη #[v0, v1, .int .i64 a2] [.row (.int .i64) a0, .row (.int .i64) a1, .lit (.int .i64 a2)] := rl_diffMerges y0 y1
 refine (Go.Proofs.YtfimffgfnhplkaaGreatDoor.F.law_DiffMerges a0 a1 a2 W _ _ (laid_of hL hS) (fun k h => h) hv1).mono fun e W' hp => ?_
 obtain ⟨⟨v, rfl, hR⟩, bel⟩ := hp
 obtain rfl := hR.lit_inv
 exact ⟨_, rfl, _, _, _, [], _, [], hW', trodAll_mk1 (shut_bool Tryz.underlying4 _), (trodAll_cons_mk (Below.trod laidOut (by kernel_rfl) (of_decide_eq_true (by kernel_rfl)) k0 bel lt0) (trodAll_cons_mk (Below.trod laidOut (by kernel_rfl) (of_decide_eq_true (by kernel_rfl)) k1 bel lt1) (trodAll_cons_mk (shut_int Tryz.underlying3 w2) trodAll_mk0))), rfl, bel.frame _, fun h => by cases h⟩
theorem readsDiffMerges (os : Os) {H : Type} (enc : TypeId × Value → H) : ∃ places, DataW.whole enc Tryz.prog ((laidWorld os).forCall (fun _ _ => 0) ⟨#[], #[.slice none 0 0, .slice none 0 0, .int .i64 0], []⟩).memory Tryz.f6.params.toList Rows.diffMergesSpec.vars false #[Value.slice none 0 0, Value.slice none 0 0, Value.int .i64 0].toList 8 = some ([.nil, .nil, .lit (.int .i64 0)], [], places) :=
 ⟨[], by kernel_rfl⟩
theorem metDiffMerges (os : Os) : laidMet Tryz.prog Rows.diffMergesRow.laid ((laidWorld os).forCall (fun _ _ => 0) ⟨#[], #[.slice none 0 0, .slice none 0 0, .int .i64 0], []⟩).memory :=
 laidMet_of_run' 8 (by kernel_rfl) (by kernel_rfl)
theorem liftedDiffMerges (os : Os) (started : os.Started) (H : Type) (enc : TypeId × Value → H) (F : Stop.Interp) :
  ReturnsInHanded {} Tryz.checked os 6 .any ((OpenSpec.ofChange Rows.diffMergesSpec).preRow enc Tryz.prog Tryz.f6 Rows.diffMergesRow.domain false Rows.diffMergesRow.laid) (((OpenSpec.ofChange Rows.diffMergesSpec).at F).post enc Tryz.prog Tryz.f6 false true false false) := by
 obtain ⟨places, hx⟩ := readsDiffMerges os enc
 refine returnsInHanded_of_row (C := Tryz.checked) (s := OpenSpec.ofChange Rows.diffMergesSpec) own started (by kernel_rfl) Tryz.func6
  (witness_row_at (enc := enc) (C := Tryz.checked) false (laidWorld os) #[.slice none 0 0, .slice none 0 0, .int .i64 0] rfl (by kernel_rfl) (by kernel_rfl) (by kernel_rfl)
   (OpenSpec.preRow_of_cond 8 hx (by kernel_rfl) (fun k hk => by cases hk) (by kernel_rfl) (metDiffMerges os))) ?_
 intro W base args ds gs before hval hW _ _ _ hL hS _
 exact contractDiffMerges H enc W base args ds gs before hval hW hL hS
theorem saidDiffMerges : Rows.DiffMergesSaid :=
 OpenClaim.holds_of_cond 6 Tryz.f6 rfl rfl rfl rfl rfl rfl rfl ⟨rfl, rfl, rfl, rfl, rfl⟩ rfl rfl rfl rfl rfl (by kernel_rfl) Tryz.func6 (by kernel_rfl)
  (of_decide_eq_true (by kernel_rfl)) (by unfold Func.isWrapper; first | (rw [if_pos (by decide +kernel)]; kernel_rfl) | (rw [if_neg (by decide +kernel)]; exact ⟨rfl, rfl⟩))
  (fun os started H enc _ F => by rw [OpenClaim.pre_eq_preRow]; exact liftedDiffMerges os started H enc F)
theorem plainDiffMerges (f : FuncId) (fn : Func) (hf : Tryz.pinned.checked.prog.funcNamed "erratum/erratumlaw20.DiffMerges" = some f) (hfn : Tryz.pinned.checked.prog.funcs[f]? = some fn) :
  true = Tryz.pinned.checked.prog.looks [] ∧ ∀ (j : Nat) t, fn.params[j]? = some t → Tryz.pinned.checked.prog.wantsStandIn t = false := by
 obtain rfl : f = 6 := Option.some.inj ((show Tryz.prog.funcNamed "erratum/erratumlaw20.DiffMerges" = some 6 by kernel_rfl).symm.trans hf) |>.symm
 obtain rfl : fn = Tryz.f6 := (Option.some.inj (Tryz.func6.symm.trans hfn)).symm
 refine ⟨by kernel_rfl, fun j t ht => ?_⟩
 rw [Tryz.params6] at ht
 have hm : t = 42 ∨ t = 42 ∨ t = 3 := by simpa using Array.mem_of_getElem? ht
 rcases hm with rfl | rfl | rfl
 ·exact (show Tryz.prog.wantsStandIn 42 = false by kernel_rfl)
 ·exact (show Tryz.prog.wantsStandIn 42 = false by kernel_rfl)
 ·exact (show Tryz.prog.wantsStandIn 3 = false by kernel_rfl)
theorem cardDiffMerges : Rows.DiffMergesCardSaid :=
 Claim7.holds_tied_plain_at .later [] _ _ _ _ saidDiffMerges (fun _ h => by cases h) (by kernel_rfl) (fun _ h => by cases h) diffMerges_row_tie rfl ⟨rfl, rfl⟩ (by kernel_rfl) rfl plainDiffMerges (by kernel_rfl)
end Go.Proofs.YtfimffgfnhplkaaGreatDoor.X
