/- DiffCansCardSaid -/
import Derived.Test.YtfimffgfnhplkaaGreatDoorS11
import Derived.Test.YtfimffgfnhplkaaGreatDoorS8
import Derived.Test.YtfimffgfnhplkaaGreatDoorS10
import Derived.Test.YtfimffgfnhplkaaGreatDoorS5
set_option maxRecDepth 100000
set_option linter.unusedVariables false
set_option linter.unusedSimpArgs false
namespace Go.Proofs.YtfimffgfnhplkaaGreatDoor.F
open Go Go.RowKit Go.Proofs.Tryz
theorem conPutP (x : ByteArray) (v : Tree) (ks : List ByteArray) (us : List Tree) (ms : List (El .strs)) (hk : ks.length < 4000000000) (hu : us.length < 4000000000) : ConB Tryz.prog I0 68 [.ptr 0 2, vs x, .agg (encTree v)] [(0, .var [vi 3, nilv, vi 7, vb false, vb false, nilv, vi 0, vs (ba []), .own 1, .own 2, .own 3]), (1, .sl 9 .str ks), (2, .sl 28 .tree us), (3, .sl 25 .strs ms)] (.val (.tup [])) [(0, .var [vi 3, nilv, vi 7, vb false, vb false, nilv, vi 0, vs (ba []), .own 2007, .own 3007, .own 3]), (3, .sl 25 .strs ms), (2007, .sl 9 .str (ks ++ [x])), (3007, .sl 28 .tree (us ++ [v]))] := by
 refine con_ofB Tryz.func68 rfl (Nat.le_of_ble_eq_true rfl) (by kernel_rfl) (fun w0 fz η a hI hs => ?_)
 refine wN hs hI [] 873318829668718820 [q7 ks.length 1 16, q7 us.length 1 120, ⟨0 ≤ (us.length : Int) ∧ (us.length : Int) < (us ++ ([(Tree.mk 0 false ⟨false, [], 0⟩ (ba []) ([]) ([]))])).length, (by first | omega | (simp; done) | (simp; omega))⟩, ⟨us.length < (us ++ ([(Tree.mk 0 false ⟨false, [], 0⟩ (ba []) ([]) ([]))])).length, (by first | omega | (simp; done) | (simp; omega))⟩] .norm [] [(0, .var [vi 3, nilv, vi 7, vb false, vb false, nilv, vi 0, vs (ba []), .own 2007, .own 3007, .own 3]), (3, .sl 25 .strs ms), (2007, .sl 9 .str (ks ++ ([x]))), (3007, .sl 28 .tree ((us ++ ([(Tree.mk 0 false ⟨false, [], 0⟩ (ba []) ([]) ([]))])).set us.length (Tree.et v)))] fun a w hs => ?_
 exact FnQB_cast (out := .val (.tup [])) (bo := [(0, .var [vi 3, nilv, vi 7, vb false, vb false, nilv, vi 0, vs (ba []), .own 2007, .own 3007, .own 3]), (3, .sl 25 .strs ms), (2007, .sl 9 .str (ks ++ ([x]))), (3007, .sl 28 .tree ((us ++ ([(Tree.mk 0 false ⟨false, [], 0⟩ (ba []) ([]) ([]))])).set us.length (Tree.et v)))]) (rfl) (by simp only [Tree.eta', setLast]) (norm_okB _ hs (by kernel_rfl) (by kernel_rfl))
theorem conMasked (ta tb : Tree) (hfa : fineT ta) (hfb : fineT tb) (hka : ∀ x ∈ ta.k, x.size < 4294967281) (hkb : ∀ x ∈ tb.k, x.size < 4294967281) : Con Tryz.prog I0 35 [.agg (encTree ta), .agg (encTree tb)] (.val (.tup [.agg (encP (maskG ta tb).1), vb (maskG ta tb).2])) := by
 have hfo := obT_fine hfa
 have ha1 := ((fine_eq (obT ta)).1 hfo).1.2.2.1
 have hb1 := ((fine_eq tb).1 hfb).1.2.2.1
 have hb2 := cutK_le tb
 have hnl := namesU_len (obT ta) tb
 refine con_of Tryz.func35 rfl (Nat.le_of_ble_eq_true rfl) stab (fun w0 fz a hI hs => ?_)
 refine wNs hs hI [] 118 [] [(2, .ptr 1000 0), (3, .ptr 1001 0), (4, .ptr 1002 0)] [(1000, bTr (ta)), (1001, bTr (tb)), (1002, .var [vi 0, nilv, vi 0, vb false, vb false, nilv, vi 0, vs (ba []), nilv, nilv, nilv])] fun a w hs => ?_
 refine wNs hs hI [] 118 [] [(2, .ptr 1000 0), (3, .ptr 1001 0), (4, .ptr 1002 0), (6, .ptr 2002 0)] [(1000, bTr (ta)), (1001, bTr (tb)), (1002, .var [vi 0, nilv, vi 0, vb false, vb false, nilv, vi 0, vs (ba []), nilv, nilv, nilv]), (2002, .var [vi 3, nilv, vi 7, vb false, vb false, nilv, vi 0, vs (ba []), nilv, nilv, nilv])] fun a w hs => ?_
 refine wp_seq ?_
 rcases bt (sameT ta tb) with b1 | b1
 refine wL hs hI [(2, rc [(2, ciV 55 [aTr (ta), aTr (tb)] (vb (sameT ta tb)))])] (bz 1 1) 1298729140 [q1 b1] .ret [(4, .ptr 1002 0), (5, vb true)] [(1002, .var [vi 3, nilv, vi 7, vb false, vb false, nilv, vi 0, vs (ba []), nilv, nilv, nilv])] ⟨conSame _ _ hfa hfb, tv⟩ fun a w hs => ?_
 refine then_ret ?_
 exact rK (.val (.tup [.agg [vi 3, .row .opn ([]), vi 7, vb false, vb false, rwU ([]), vi 0, vs (ba []), rwS ([]), rwT ([]), .row .strs ([])], vb true])) [] hs (by rw [maskG, if_pos b1]; rfl)
 refine wL hs hI [(2, rc [(2, ciV 55 [aTr (ta), aTr (tb)] (vb (sameT ta tb)))])] (bz 1 0) 729140 [q1 b1] .norm [(2, .ptr 1000 0), (3, .ptr 1001 0), (4, .ptr 1002 0), (6, .ptr 2002 0)] [(1000, bTr (ta)), (1001, bTr (tb)), (1002, .var [vi 0, nilv, vi 0, vb false, vb false, nilv, vi 0, vs (ba []), nilv, nilv, nilv]), (2002, .var [vi 3, nilv, vi 7, vb false, vb false, nilv, vi 0, vs (ba []), nilv, nilv, nilv])] ⟨conSame _ _ hfa hfb, tv⟩ fun a w hs => ?_
 refine then_norm ?_
 refine wNs hs hI [] 118 [] [(2, .ptr 1000 0), (3, .ptr 1001 0), (4, .ptr 1002 0), (6, .ptr 2002 0), (7, vb (ta.kind == 7))] [(1000, bTr (ta)), (1001, bTr (tb)), (1002, .var [vi 0, nilv, vi 0, vb false, vb false, nilv, vi 0, vs (ba []), nilv, nilv, nilv]), (2002, .var [vi 3, nilv, vi 7, vb false, vb false, nilv, vi 0, vs (ba []), nilv, nilv, nilv])] fun a w hs => ?_
 refine wp_seq ?_
 rcases bt (tb.kind != 7) with b2 | b2
 have n2 := bne_iff_ne.1 b2
 refine wL hs hI [(5, rg [] [1012] [4, 5, 6, 11])] (bz 1 1) 12987266673873318 [q1 b2, q1 b2, q1 b2, q1 b2, q1 b2, q0 true] .ret [(4, .ptr 1002 0), (5, vb false)] [(1002, .var [vi 0, nilv, vi 0, vb false, vb false, nilv, vi 0, vs (ba []), nilv, nilv, nilv])] tv fun a w hs => ?_
 refine then_ret ?_
 exact rK (.val (.tup [.agg [vi 0, .row .opn ([]), vi 0, vb false, vb false, rwU ([]), vi 0, vs (ba []), rwS ([]), rwT ([]), .row .strs ([])], vb false])) [] hs (by rw [maskG, if_neg (by rw [b1]; decide), if_pos (by omega)]; rfl)
 have n2 := bne_eq_false_iff_eq.1 b2
 rcases bq (ta.kind) (7) with ⟨b3, n3⟩ | ⟨b3, n3⟩
 refine wL hs hI [(5, rg [] [4, 5, 6, 11] [7, 8, 9, 10, 1011, 1012])] (bz 1 0) 726666733333377718 [q1 b2, q1 b2, q1 b2, q1 (ng1 b3), q1 (ng1 b3), q1 (ng1 b3), q1 (ng1 b3), q1 b2, q1 (ng1 b3), q1 b2, q0 false] .norm [(2, .ptr 1000 0), (3, .ptr 1001 0), (4, .ptr 1002 0), (6, .ptr 2002 0)] [(1000, bTr (ta)), (1001, bTr (tb)), (1002, .var [vi 0, nilv, vi 0, vb false, vb false, nilv, vi 0, vs (ba []), nilv, nilv, nilv]), (2002, .var [vi 3, nilv, vi 7, vb false, vb false, nilv, vi 0, vs (ba []), nilv, nilv, nilv])] tv fun a w hs => ?_
 refine then_norm ?_
 refine wLs hs hI [(7, rc [(1, ciV 65 [aTr (ta)] (aTr ((obT ta))))])] [] 1141 [] [(2, .ptr 1000 0), (3, .ptr 1001 0), (4, .ptr 1002 0), (6, .ptr 2002 0)] [(1000, bTr ((obT ta))), (1001, bTr (tb)), (1002, .var [vi 0, nilv, vi 0, vb false, vb false, nilv, vi 0, vs (ba []), nilv, nilv, nilv]), (2002, .var [vi 3, nilv, vi 7, vb false, vb false, nilv, vi 0, vs (ba []), nilv, nilv, nilv])] ⟨conObT _, tv⟩ fun a w hs => ?_
 refine wp_seq ?_
 refine wLs hs hI [(8, rc [(2, ciV 66 [aTr ((obT ta)), aTr (tb)] (rwS (namesU (obT ta) tb)))])] [] 840 [] [(2, .ptr 1000 0), (3, .ptr 1001 0), (4, .ptr 1002 0), (6, .ptr 2002 0), (41, rwS (namesU (obT ta) tb)), (42, vi ((namesU (obT ta) tb).length : Int)), (43, vi 0)] [(1000, bTr ((obT ta))), (1001, bTr (tb)), (1002, .var [vi 0, nilv, vi 0, vb false, vb false, nilv, vi 0, vs (ba []), nilv, nilv, nilv]), (2002, .var [vi 3, nilv, vi 7, vb false, vb false, nilv, vi 0, vs (ba []), nilv, nilv, nilv])] ⟨(conNames _ _ (by omega) (by omega)).frz, tv⟩ fun a w hs => ?_
 refine wp_block ?_
 refine loop_L (N := Tryz.f35.ntmps) (w0 := w0) (ow := noO fz) (α := Nat) (fun p => [(2, .ptr 1000 0), (3, .ptr 1001 0), (4, .ptr 1002 0), (6, .ptr 90000001 0), (41, rwS (namesU (obT ta) tb)), (42, vi ((namesU (obT ta) tb).length : Int)), (43, vi (p : Int))]) (fun p => [(1000, bTr ((obT ta))), (1001, bTr (tb)), (1002, .var [vi 0, nilv, vi 0, vb false, vb false, nilv, vi 0, vs (ba []), nilv, nilv, nilv]), (90000001, .var [vi 3, nilv, vi 7, vb false, vb false, nilv, vi 0, vs (ba []), .own 90000002, .own 90000003, .own 90000004]), (90000002, .sl 9 .str (vK (obT ta) tb p)), (90000003, .sl 28 .tree (vV (obT ta) tb p)), (90000004, .sl 25 .strs (maskI (obT ta) tb p))]) (fun p => p ≤ (namesU (obT ta) tb).length) (fun p => (namesU (obT ta) tb).length - p) 0 ?_ ?_ ?_
 exact Nat.zero_le _
 (have hs := (((hs.nilB 10000003 2002 8 9 .str [vi 3, nilv, vi 7, vb false, vb false, nilv, vi 0, vs (ba []), nilv, nilv, nilv] (by kernel_rfl) (by kernel_rfl) (by decide) (by decide) (by kernel_rfl) (by kernel_rfl)).nilB 10000004 2002 9 28 .tree [vi 3, nilv, vi 7, vb false, vb false, nilv, vi 0, vs (ba []), .own 10000003, nilv, nilv] (by kernel_rfl) (by kernel_rfl) (by decide) (by decide) (by kernel_rfl) (by kernel_rfl)).nilB 10000005 2002 10 25 .strs [vi 3, nilv, vi 7, vb false, vb false, nilv, vi 0, vs (ba []), .own 10000003, .own 10000004, nilv] (by kernel_rfl) (by kernel_rfl) (by decide) (by decide) (by kernel_rfl) (by kernel_rfl)).rmT [(2, .ptr 1000 0), (3, .ptr 1001 0), (4, .ptr 1002 0), (6, .ptr 2002 0), (41, rwS (namesU (obT ta) tb)), (42, vi ((namesU (obT ta) tb).length : Int)), (43, vi 0)] [(1000, bTr ((obT ta))), (1001, bTr (tb)), (1002, .var [vi 0, nilv, vi 0, vb false, vb false, nilv, vi 0, vs (ba []), nilv, nilv, nilv]), (2002, .var [vi 3, nilv, vi 7, vb false, vb false, nilv, vi 0, vs (ba []), .own 10000003, .own 10000004, .own 10000005]), (10000003, .sl 9 .str ([])), (10000004, .sl 28 .tree ([])), (10000005, .sl 25 .strs ([]))] [(1000, 1000), (1001, 1001), (1002, 1002), (2002, 2002), (10000003, 10000003), (10000004, 10000004), (10000005, 10000005)] (by kernel_rfl); exact (hs.cst [(2, .ptr 1000 0), (3, .ptr 1001 0), (4, .ptr 1002 0), (6, .ptr 2002 0), (41, rwS (namesU (obT ta) tb)), (42, vi ((namesU (obT ta) tb).length : Int)), (43, vi ((0 : Nat) : Int))] [(1000, bTr ((obT ta))), (1001, bTr (tb)), (1002, .var [vi 0, nilv, vi 0, vb false, vb false, nilv, vi 0, vs (ba []), nilv, nilv, nilv]), (2002, .var [vi 3, nilv, vi 7, vb false, vb false, nilv, vi 0, vs (ba []), .own 10000003, .own 10000004, .own 10000005]), (10000003, .sl 9 .str (vK (obT ta) tb 0)), (10000004, .sl 28 .tree (vV (obT ta) tb 0)), (10000005, .sl 25 .strs (maskI (obT ta) tb 0))] rfl).rk [(1000, 1000), (1001, 1001), (1002, 1002), (90000001, 2002), (90000002, 10000003), (90000003, 10000004), (90000004, 10000005)])
 rintro i hJ a w hs
 have hl1 := vK_len (obT ta) tb i
 have hl2 := vV_len (obT ta) tb i
 have hl3 := maskI_len (obT ta) tb i
 rcases bd ((i : Int) < ((namesU (obT ta) tb).length : Int)) with ⟨b4, n4⟩ | ⟨b4, n4⟩
 rcases bt (alike (obT ta) tb ((namesU (obT ta) tb).getD i (dflt .str))) with b5 | b5
 refine wL hs hI [(11, rc [(3, ciV 67 [aTr ((obT ta)), aTr (tb), vs ((namesU (obT ta) tb).getD i (dflt .str))] (.tup [aTr ((memV (obT ta) ((namesU (obT ta) tb).getD i (dflt .str)))), vb (alike (obT ta) tb ((namesU (obT ta) tb).getD i (dflt .str)))]))])] (bz 2 3) 1767209661884829072720 [q1 b4, q4 (i : Int) ((namesU (obT ta) tb).length), q1 b5, q3 ((i : Int) + 1)] .norm [(2, .ptr 1000 0), (3, .ptr 1001 0), (4, .ptr 1002 0), (6, .ptr 90000001 0), (41, rwS (namesU (obT ta) tb)), (42, vi ((namesU (obT ta) tb).length : Int)), (43, vi ((i : Int) + 1))] [(1000, bTr ((obT ta))), (1001, bTr (tb)), (1002, .var [vi 0, nilv, vi 0, vb false, vb false, nilv, vi 0, vs (ba []), nilv, nilv, nilv]), (90000001, .var [vi 3, nilv, vi 7, vb false, vb false, nilv, vi 0, vs (ba []), .own 90000002, .own 90000003, .own 90000004]), (90000002, .sl 9 .str (vK (obT ta) tb i)), (90000003, .sl 28 .tree (vV (obT ta) tb i)), (90000004, .sl 25 .strs (maskI (obT ta) tb i))] ⟨conAlike _ _ _ hfo hfb, tv⟩ fun a w hs => ?_
 refine then_norm ⟨i + 1, by omega, by omega, ?_⟩
 (have e0_ : ((i : Int) + 1) = ((((i + 1) : Nat) : Int)) := (by first | rfl | (omega)); have e1_ : (vK (obT ta) tb i) = (vK (obT ta) tb (i + 1)) := (by first | rfl | (rw [vK_same (by omega) b5])); have e2_ : (vV (obT ta) tb i) = (vV (obT ta) tb (i + 1)) := (by first | rfl | (rw [vV_same (by omega) b5])); have e3_ : (maskI (obT ta) tb i) = (maskI (obT ta) tb (i + 1)) := (by first | rfl | (rw [maskI_same (by omega) b5])); exact (hs.cst [(2, .ptr 1000 0), (3, .ptr 1001 0), (4, .ptr 1002 0), (6, .ptr 90000001 0), (41, rwS (namesU (obT ta) tb)), (42, vi ((namesU (obT ta) tb).length : Int)), (43, vi (((i + 1) : Nat) : Int))] [(1000, bTr ((obT ta))), (1001, bTr (tb)), (1002, .var [vi 0, nilv, vi 0, vb false, vb false, nilv, vi 0, vs (ba []), nilv, nilv, nilv]), (90000001, .var [vi 3, nilv, vi 7, vb false, vb false, nilv, vi 0, vs (ba []), .own 90000002, .own 90000003, .own 90000004]), (90000002, .sl 9 .str (vK (obT ta) tb (i + 1))), (90000003, .sl 28 .tree (vV (obT ta) tb (i + 1))), (90000004, .sl 25 .strs (maskI (obT ta) tb (i + 1)))] (by first | (rw [e0_, e1_, e2_, e3_]; done) | (simp only [e0_, e1_, e2_, e3_]; done) | rfl | (simp only [e0_, e1_, e2_, e3_]; rfl))).rk [(1000, 1000), (1001, 1001), (1002, 1002), (90000001, 90000001), (90000002, 90000002), (90000003, 90000003), (90000004, 90000004)])
 rcases bt (memB tb ((namesU (obT ta) tb).getD i (dflt .str))) with b6 | b6
 refine wL hs hI [(11, rc [(3, ciV 67 [aTr ((obT ta)), aTr (tb), vs ((namesU (obT ta) tb).getD i (dflt .str))] (.tup [aTr ((memV (obT ta) ((namesU (obT ta) tb).getD i (dflt .str)))), vb (alike (obT ta) tb ((namesU (obT ta) tb).getD i (dflt .str)))]))]), (14, rc [(2, ciV 57 [aTr (tb), vs ((namesU (obT ta) tb).getD i (dflt .str))] (.tup [aTr ((memV tb ((namesU (obT ta) tb).getD i (dflt .str)))), vb (memB tb ((namesU (obT ta) tb).getD i (dflt .str)))]))]), (16, rc [(3, ciB 68 [.ptr 0 2, vs ((namesU (obT ta) tb).getD i (dflt .str)), aTr ((memV tb ((namesU (obT ta) tb).getD i (dflt .str))))] [] (.val (.tup [])) [(0, .var [vi 3, nilv, vi 7, vb false, vb false, nilv, vi 0, vs (ba []), .own 1, .own 2, .own 3]), (1, .sl 9 .str (vK (obT ta) tb i)), (2, .sl 28 .tree (vV (obT ta) tb i)), (3, .sl 25 .strs ((maskI (obT ta) tb i) ++ ([[((namesU (obT ta) tb).getD i (dflt .str))]])))] [(0, .var [vi 3, nilv, vi 7, vb false, vb false, nilv, vi 0, vs (ba []), .own 2007, .own 3007, .own 3]), (3, .sl 25 .strs ((maskI (obT ta) tb i) ++ ([[((namesU (obT ta) tb).getD i (dflt .str))]]))), (2007, .sl 9 .str ((vK (obT ta) tb i) ++ [((namesU (obT ta) tb).getD i (dflt .str))])), (3007, .sl 28 .tree ((vV (obT ta) tb i) ++ [(memV tb ((namesU (obT ta) tb).getD i (dflt .str)))]))] [(0, 90000001), (1, 90000002), (2, 90000003), (2007, 17003), (3007, 1017003), (3, 14005)])])] (bz 3 5) 1796614072026618840660708297209661884829072720 [q1 b4, q4 (i : Int) ((namesU (obT ta) tb).length), q1 b5, ⟨(((maskI (obT ta) tb i).length + 1) * 24 : Nat) ≤ 140737488355328 ∧ (maskI (obT ta) tb i).length + 1 ≤ 140737488355328, (by first | omega | (simp only [List.length_singleton, List.length_cons, List.length_nil]; omega))⟩, q1 b6, q3 ((i : Int) + 1)] .norm [(2, .ptr 1000 0), (3, .ptr 1001 0), (4, .ptr 1002 0), (6, .ptr 90000001 0), (41, rwS (namesU (obT ta) tb)), (42, vi ((namesU (obT ta) tb).length : Int)), (43, vi ((i : Int) + 1))] [(1000, bTr ((obT ta))), (1001, bTr (tb)), (1002, .var [vi 0, nilv, vi 0, vb false, vb false, nilv, vi 0, vs (ba []), nilv, nilv, nilv]), (14005, .sl 25 .strs ((maskI (obT ta) tb i) ++ ([[((namesU (obT ta) tb).getD i (dflt .str))]]))), (17003, .sl 9 .str ((vK (obT ta) tb i) ++ [((namesU (obT ta) tb).getD i (dflt .str))])), (1017003, .sl 28 .tree ((vV (obT ta) tb i) ++ [(memV tb ((namesU (obT ta) tb).getD i (dflt .str)))])), (90000001, .var [vi 3, nilv, vi 7, vb false, vb false, nilv, vi 0, vs (ba []), .own 17003, .own 1017003, .own 14005])] ⟨conAlike _ _ _ hfo hfb, con122 _ _ (by omega), conPutP _ _ _ _ _ (by first | omega | (simp; omega)) (by first | omega | (simp; omega)), tv⟩ fun a w hs => ?_
 refine then_norm ⟨i + 1, by omega, by omega, ?_⟩
 (have e0_ : ((i : Int) + 1) = ((((i + 1) : Nat) : Int)) := (by first | rfl | (omega)); have e1_ : (((maskI (obT ta) tb i) ++ ([[((namesU (obT ta) tb).getD i (dflt .str))]]))) = (maskI (obT ta) tb (i + 1)) := (by first | rfl | (rw [maskI_on (by omega) b5])); have e2_ : ((vK (obT ta) tb i) ++ [((namesU (obT ta) tb).getD i (dflt .str))]) = (vK (obT ta) tb (i + 1)) := (by first | rfl | (rw [vK_on (by omega) b5 b6])); have e3_ : ((vV (obT ta) tb i) ++ [(memV tb ((namesU (obT ta) tb).getD i (dflt .str)))]) = (vV (obT ta) tb (i + 1)) := (by first | rfl | (rw [vV_on (by omega) b5 b6])); exact (hs.cst [(2, .ptr 1000 0), (3, .ptr 1001 0), (4, .ptr 1002 0), (6, .ptr 90000001 0), (41, rwS (namesU (obT ta) tb)), (42, vi ((namesU (obT ta) tb).length : Int)), (43, vi (((i + 1) : Nat) : Int))] [(1000, bTr ((obT ta))), (1001, bTr (tb)), (1002, .var [vi 0, nilv, vi 0, vb false, vb false, nilv, vi 0, vs (ba []), nilv, nilv, nilv]), (14005, .sl 25 .strs (maskI (obT ta) tb (i + 1))), (17003, .sl 9 .str (vK (obT ta) tb (i + 1))), (1017003, .sl 28 .tree (vV (obT ta) tb (i + 1))), (90000001, .var [vi 3, nilv, vi 7, vb false, vb false, nilv, vi 0, vs (ba []), .own 17003, .own 1017003, .own 14005])] (by first | (rw [e0_, e1_, e2_, e3_]; done) | (simp only [e0_, e1_, e2_, e3_]; done) | rfl | (simp only [e0_, e1_, e2_, e3_]; rfl))).rk [(1000, 1000), (1001, 1001), (1002, 1002), (90000001, 90000001), (90000002, 17003), (90000003, 1017003), (90000004, 14005)])
 refine wL hs hI [(11, rc [(3, ciV 67 [aTr ((obT ta)), aTr (tb), vs ((namesU (obT ta) tb).getD i (dflt .str))] (.tup [aTr ((memV (obT ta) ((namesU (obT ta) tb).getD i (dflt .str)))), vb (alike (obT ta) tb ((namesU (obT ta) tb).getD i (dflt .str)))]))]), (14, rc [(2, ciV 57 [aTr (tb), vs ((namesU (obT ta) tb).getD i (dflt .str))] (.tup [aTr ((memV tb ((namesU (obT ta) tb).getD i (dflt .str)))), vb (memB tb ((namesU (obT ta) tb).getD i (dflt .str)))]))])] (bz 3 1) 179672026618840660708297209661884829072720 [q1 b4, q4 (i : Int) ((namesU (obT ta) tb).length), q1 b5, ⟨(((maskI (obT ta) tb i).length + 1) * 24 : Nat) ≤ 140737488355328 ∧ (maskI (obT ta) tb i).length + 1 ≤ 140737488355328, (by first | omega | (simp only [List.length_singleton, List.length_cons, List.length_nil]; omega))⟩, q1 b6, q3 ((i : Int) + 1)] .norm [(2, .ptr 1000 0), (3, .ptr 1001 0), (4, .ptr 1002 0), (6, .ptr 90000001 0), (41, rwS (namesU (obT ta) tb)), (42, vi ((namesU (obT ta) tb).length : Int)), (43, vi ((i : Int) + 1))] [(1000, bTr ((obT ta))), (1001, bTr (tb)), (1002, .var [vi 0, nilv, vi 0, vb false, vb false, nilv, vi 0, vs (ba []), nilv, nilv, nilv]), (14005, .sl 25 .strs ((maskI (obT ta) tb i) ++ ([[((namesU (obT ta) tb).getD i (dflt .str))]]))), (90000001, .var [vi 3, nilv, vi 7, vb false, vb false, nilv, vi 0, vs (ba []), .own 90000002, .own 90000003, .own 14005]), (90000002, .sl 9 .str (vK (obT ta) tb i)), (90000003, .sl 28 .tree (vV (obT ta) tb i))] ⟨conAlike _ _ _ hfo hfb, con122 _ _ (by omega), tv⟩ fun a w hs => ?_
 refine then_norm ⟨i + 1, by omega, by omega, ?_⟩
 (have e0_ : ((i : Int) + 1) = ((((i + 1) : Nat) : Int)) := (by first | rfl | (omega)); have e1_ : ((maskI (obT ta) tb i) ++ ([[((namesU (obT ta) tb).getD i (dflt .str))]])) = (maskI (obT ta) tb (i + 1)) := (by first | rfl | (rw [maskI_on (by omega) b5])); have e2_ : (vK (obT ta) tb i) = (vK (obT ta) tb (i + 1)) := (by first | rfl | (rw [vK_off (by omega) b5 b6])); have e3_ : (vV (obT ta) tb i) = (vV (obT ta) tb (i + 1)) := (by first | rfl | (rw [vV_off (by omega) b5 b6])); exact (hs.cst [(2, .ptr 1000 0), (3, .ptr 1001 0), (4, .ptr 1002 0), (6, .ptr 90000001 0), (41, rwS (namesU (obT ta) tb)), (42, vi ((namesU (obT ta) tb).length : Int)), (43, vi (((i + 1) : Nat) : Int))] [(1000, bTr ((obT ta))), (1001, bTr (tb)), (1002, .var [vi 0, nilv, vi 0, vb false, vb false, nilv, vi 0, vs (ba []), nilv, nilv, nilv]), (14005, .sl 25 .strs (maskI (obT ta) tb (i + 1))), (90000001, .var [vi 3, nilv, vi 7, vb false, vb false, nilv, vi 0, vs (ba []), .own 90000002, .own 90000003, .own 14005]), (90000002, .sl 9 .str (vK (obT ta) tb (i + 1))), (90000003, .sl 28 .tree (vV (obT ta) tb (i + 1)))] (by first | (rw [e0_, e1_, e2_, e3_]; done) | (simp only [e0_, e1_, e2_, e3_]; done) | rfl | (simp only [e0_, e1_, e2_, e3_]; rfl))).rk [(1000, 1000), (1001, 1001), (1002, 1002), (90000001, 90000001), (90000002, 90000002), (90000003, 90000003), (90000004, 14005)])
 refine wN hs hI (bz 1 0) 720 [q1 b4] (.exit 0) [(4, .ptr 1002 0), (6, .ptr 90000001 0)] [(1002, .var [vi 0, nilv, vi 0, vb false, vb false, nilv, vi 0, vs (ba []), nilv, nilv, nilv]), (90000001, .var [vi 3, nilv, vi 7, vb false, vb false, nilv, vi 0, vs (ba []), .own 90000002, .own 90000003, .own 90000004]), (90000002, .sl 9 .str (vK (obT ta) tb i)), (90000003, .sl 28 .tree (vV (obT ta) tb i)), (90000004, .sl 25 .strs (maskI (obT ta) tb i))] fun a w hs => ?_
 refine then_exit ?_
 refine inb_hit ?_
 refine then_norm ?_
 refine wL hs hI [(18, rc [(3, ciA 69 [.row .strs (maskI (obT ta) tb i)] [90000004] [] (.val (vb (checkF (maskI (obT ta) tb i)))))])] [] 196848 [] .ret [(4, .ptr 1002 0), (5, vb (checkF (maskI (obT ta) tb i)))] [(1002, .var [vi 3, nilv, vi 7, vb false, vb false, nilv, vi 0, vs (ba []), .own 90000002, .own 90000003, .own 90000004]), (90000002, .sl 9 .str (vK (obT ta) tb i)), (90000003, .sl 28 .tree (vV (obT ta) tb i)), (90000004, .sl 25 .strs (maskI (obT ta) tb i))] ⟨con39 _ (maskI_small _ (obT_small hka) hkb) (by omega), tv⟩ fun a w hs => ?_
 exact rK (.val (.tup [.agg [vi 3, .row .opn ([]), vi 7, vb false, vb false, rwU ([]), vi 0, vs (ba []), rwS (vK (obT ta) tb i), rwT (vV (obT ta) tb i), .row .strs (maskI (obT ta) tb i)], vb (checkF (maskI (obT ta) tb i))])) [90000002, 90000003, 90000004] hs (by rw [maskG_fin (i := i) b1 (by omega) (by omega)]; rfl)
 rcases bq (tb.k.length : Int) (0) with ⟨b7, n7⟩ | ⟨b7, n7⟩
 refine wL hs hI [(5, rg [] [4, 5, 6, 7, 8, 9, 10, 11, 1011] [1012])] (bz 1 1) 12987266666733777777718 [q1 b2, q1 b2, q1 b2, q1 (ng0 b3), q1 (ng0 b3), q1 (ng0 b3), q1 (ng0 b3), q1 b2, q1 (ng0 b3), q1 b2, q1 b7] .ret [(4, .ptr 1002 0), (5, vb false)] [(1002, .var [vi 0, nilv, vi 0, vb false, vb false, nilv, vi 0, vs (ba []), nilv, nilv, nilv])] tv fun a w hs => ?_
 refine then_ret ?_
 exact rK (.val (.tup [.agg [vi 0, .row .opn ([]), vi 0, vb false, vb false, rwU ([]), vi 0, vs (ba []), rwS ([]), rwT ([]), .row .strs ([])], vb false])) [] hs (by rw [maskG, if_neg (by rw [b1]; decide), if_pos (by omega)]; rfl)
 refine wL hs hI [(5, rg [] [4, 5, 6, 7, 8, 9, 10, 11, 1011] [1012])] (bz 1 0) 7266666733777777718 [q1 b2, q1 b2, q1 b2, q1 (ng0 b3), q1 (ng0 b3), q1 (ng0 b3), q1 (ng0 b3), q1 b2, q1 (ng0 b3), q1 b2, q1 b7] .norm [(2, .ptr 1000 0), (3, .ptr 1001 0), (4, .ptr 1002 0), (6, .ptr 2002 0)] [(1000, bTr (ta)), (1001, bTr (tb)), (1002, .var [vi 0, nilv, vi 0, vb false, vb false, nilv, vi 0, vs (ba []), nilv, nilv, nilv]), (2002, .var [vi 3, nilv, vi 7, vb false, vb false, nilv, vi 0, vs (ba []), nilv, nilv, nilv])] tv fun a w hs => ?_
 refine then_norm ?_
 refine wLs hs hI [(7, rc [(1, ciV 65 [aTr (ta)] (aTr ((obT ta))))])] [] 1141 [] [(2, .ptr 1000 0), (3, .ptr 1001 0), (4, .ptr 1002 0), (6, .ptr 2002 0)] [(1000, bTr ((obT ta))), (1001, bTr (tb)), (1002, .var [vi 0, nilv, vi 0, vb false, vb false, nilv, vi 0, vs (ba []), nilv, nilv, nilv]), (2002, .var [vi 3, nilv, vi 7, vb false, vb false, nilv, vi 0, vs (ba []), nilv, nilv, nilv])] ⟨conObT _, tv⟩ fun a w hs => ?_
 refine wp_seq ?_
 refine wLs hs hI [(8, rc [(2, ciV 66 [aTr ((obT ta)), aTr (tb)] (rwS (namesU (obT ta) tb)))])] [] 840 [] [(2, .ptr 1000 0), (3, .ptr 1001 0), (4, .ptr 1002 0), (6, .ptr 2002 0), (41, rwS (namesU (obT ta) tb)), (42, vi ((namesU (obT ta) tb).length : Int)), (43, vi 0)] [(1000, bTr ((obT ta))), (1001, bTr (tb)), (1002, .var [vi 0, nilv, vi 0, vb false, vb false, nilv, vi 0, vs (ba []), nilv, nilv, nilv]), (2002, .var [vi 3, nilv, vi 7, vb false, vb false, nilv, vi 0, vs (ba []), nilv, nilv, nilv])] ⟨(conNames _ _ (by omega) (by omega)).frz, tv⟩ fun a w hs => ?_
 refine wp_block ?_
 refine loop_L (N := Tryz.f35.ntmps) (w0 := w0) (ow := noO fz) (α := Nat) (fun p => [(2, .ptr 1000 0), (3, .ptr 1001 0), (4, .ptr 1002 0), (6, .ptr 90000001 0), (41, rwS (namesU (obT ta) tb)), (42, vi ((namesU (obT ta) tb).length : Int)), (43, vi (p : Int))]) (fun p => [(1000, bTr ((obT ta))), (1001, bTr (tb)), (1002, .var [vi 0, nilv, vi 0, vb false, vb false, nilv, vi 0, vs (ba []), nilv, nilv, nilv]), (90000001, .var [vi 3, nilv, vi 7, vb false, vb false, nilv, vi 0, vs (ba []), .own 90000002, .own 90000003, .own 90000004]), (90000002, .sl 9 .str (vK (obT ta) tb p)), (90000003, .sl 28 .tree (vV (obT ta) tb p)), (90000004, .sl 25 .strs (maskI (obT ta) tb p))]) (fun p => p ≤ (namesU (obT ta) tb).length) (fun p => (namesU (obT ta) tb).length - p) 0 ?_ ?_ ?_
 exact Nat.zero_le _
 (have hs := (((hs.nilB 10000006 2002 8 9 .str [vi 3, nilv, vi 7, vb false, vb false, nilv, vi 0, vs (ba []), nilv, nilv, nilv] (by kernel_rfl) (by kernel_rfl) (by decide) (by decide) (by kernel_rfl) (by kernel_rfl)).nilB 10000007 2002 9 28 .tree [vi 3, nilv, vi 7, vb false, vb false, nilv, vi 0, vs (ba []), .own 10000006, nilv, nilv] (by kernel_rfl) (by kernel_rfl) (by decide) (by decide) (by kernel_rfl) (by kernel_rfl)).nilB 10000008 2002 10 25 .strs [vi 3, nilv, vi 7, vb false, vb false, nilv, vi 0, vs (ba []), .own 10000006, .own 10000007, nilv] (by kernel_rfl) (by kernel_rfl) (by decide) (by decide) (by kernel_rfl) (by kernel_rfl)).rmT [(2, .ptr 1000 0), (3, .ptr 1001 0), (4, .ptr 1002 0), (6, .ptr 2002 0), (41, rwS (namesU (obT ta) tb)), (42, vi ((namesU (obT ta) tb).length : Int)), (43, vi 0)] [(1000, bTr ((obT ta))), (1001, bTr (tb)), (1002, .var [vi 0, nilv, vi 0, vb false, vb false, nilv, vi 0, vs (ba []), nilv, nilv, nilv]), (2002, .var [vi 3, nilv, vi 7, vb false, vb false, nilv, vi 0, vs (ba []), .own 10000006, .own 10000007, .own 10000008]), (10000006, .sl 9 .str ([])), (10000007, .sl 28 .tree ([])), (10000008, .sl 25 .strs ([]))] [(1000, 1000), (1001, 1001), (1002, 1002), (2002, 2002), (10000006, 10000006), (10000007, 10000007), (10000008, 10000008)] (by kernel_rfl); exact (hs.cst [(2, .ptr 1000 0), (3, .ptr 1001 0), (4, .ptr 1002 0), (6, .ptr 2002 0), (41, rwS (namesU (obT ta) tb)), (42, vi ((namesU (obT ta) tb).length : Int)), (43, vi ((0 : Nat) : Int))] [(1000, bTr ((obT ta))), (1001, bTr (tb)), (1002, .var [vi 0, nilv, vi 0, vb false, vb false, nilv, vi 0, vs (ba []), nilv, nilv, nilv]), (2002, .var [vi 3, nilv, vi 7, vb false, vb false, nilv, vi 0, vs (ba []), .own 10000006, .own 10000007, .own 10000008]), (10000006, .sl 9 .str (vK (obT ta) tb 0)), (10000007, .sl 28 .tree (vV (obT ta) tb 0)), (10000008, .sl 25 .strs (maskI (obT ta) tb 0))] rfl).rk [(1000, 1000), (1001, 1001), (1002, 1002), (90000001, 2002), (90000002, 10000006), (90000003, 10000007), (90000004, 10000008)])
 rintro i hJ a w hs
 have hl1 := vK_len (obT ta) tb i
 have hl2 := vV_len (obT ta) tb i
 have hl3 := maskI_len (obT ta) tb i
 rcases bd ((i : Int) < ((namesU (obT ta) tb).length : Int)) with ⟨b8, n8⟩ | ⟨b8, n8⟩
 rcases bt (alike (obT ta) tb ((namesU (obT ta) tb).getD i (dflt .str))) with b9 | b9
 refine wL hs hI [(11, rc [(3, ciV 67 [aTr ((obT ta)), aTr (tb), vs ((namesU (obT ta) tb).getD i (dflt .str))] (.tup [aTr ((memV (obT ta) ((namesU (obT ta) tb).getD i (dflt .str)))), vb (alike (obT ta) tb ((namesU (obT ta) tb).getD i (dflt .str)))]))])] (bz 2 3) 1767209661884829072720 [q1 b8, q4 (i : Int) ((namesU (obT ta) tb).length), q1 b9, q3 ((i : Int) + 1)] .norm [(2, .ptr 1000 0), (3, .ptr 1001 0), (4, .ptr 1002 0), (6, .ptr 90000001 0), (41, rwS (namesU (obT ta) tb)), (42, vi ((namesU (obT ta) tb).length : Int)), (43, vi ((i : Int) + 1))] [(1000, bTr ((obT ta))), (1001, bTr (tb)), (1002, .var [vi 0, nilv, vi 0, vb false, vb false, nilv, vi 0, vs (ba []), nilv, nilv, nilv]), (90000001, .var [vi 3, nilv, vi 7, vb false, vb false, nilv, vi 0, vs (ba []), .own 90000002, .own 90000003, .own 90000004]), (90000002, .sl 9 .str (vK (obT ta) tb i)), (90000003, .sl 28 .tree (vV (obT ta) tb i)), (90000004, .sl 25 .strs (maskI (obT ta) tb i))] ⟨conAlike _ _ _ hfo hfb, tv⟩ fun a w hs => ?_
 refine then_norm ⟨i + 1, by omega, by omega, ?_⟩
 (have e0_ : ((i : Int) + 1) = ((((i + 1) : Nat) : Int)) := (by first | rfl | (omega)); have e1_ : (vK (obT ta) tb i) = (vK (obT ta) tb (i + 1)) := (by first | rfl | (rw [vK_same (by omega) b9])); have e2_ : (vV (obT ta) tb i) = (vV (obT ta) tb (i + 1)) := (by first | rfl | (rw [vV_same (by omega) b9])); have e3_ : (maskI (obT ta) tb i) = (maskI (obT ta) tb (i + 1)) := (by first | rfl | (rw [maskI_same (by omega) b9])); exact (hs.cst [(2, .ptr 1000 0), (3, .ptr 1001 0), (4, .ptr 1002 0), (6, .ptr 90000001 0), (41, rwS (namesU (obT ta) tb)), (42, vi ((namesU (obT ta) tb).length : Int)), (43, vi (((i + 1) : Nat) : Int))] [(1000, bTr ((obT ta))), (1001, bTr (tb)), (1002, .var [vi 0, nilv, vi 0, vb false, vb false, nilv, vi 0, vs (ba []), nilv, nilv, nilv]), (90000001, .var [vi 3, nilv, vi 7, vb false, vb false, nilv, vi 0, vs (ba []), .own 90000002, .own 90000003, .own 90000004]), (90000002, .sl 9 .str (vK (obT ta) tb (i + 1))), (90000003, .sl 28 .tree (vV (obT ta) tb (i + 1))), (90000004, .sl 25 .strs (maskI (obT ta) tb (i + 1)))] (by first | (rw [e0_, e1_, e2_, e3_]; done) | (simp only [e0_, e1_, e2_, e3_]; done) | rfl | (simp only [e0_, e1_, e2_, e3_]; rfl))).rk [(1000, 1000), (1001, 1001), (1002, 1002), (90000001, 90000001), (90000002, 90000002), (90000003, 90000003), (90000004, 90000004)])
 rcases bt (memB tb ((namesU (obT ta) tb).getD i (dflt .str))) with b10 | b10
 refine wL hs hI [(11, rc [(3, ciV 67 [aTr ((obT ta)), aTr (tb), vs ((namesU (obT ta) tb).getD i (dflt .str))] (.tup [aTr ((memV (obT ta) ((namesU (obT ta) tb).getD i (dflt .str)))), vb (alike (obT ta) tb ((namesU (obT ta) tb).getD i (dflt .str)))]))]), (14, rc [(2, ciV 57 [aTr (tb), vs ((namesU (obT ta) tb).getD i (dflt .str))] (.tup [aTr ((memV tb ((namesU (obT ta) tb).getD i (dflt .str)))), vb (memB tb ((namesU (obT ta) tb).getD i (dflt .str)))]))]), (16, rc [(3, ciB 68 [.ptr 0 2, vs ((namesU (obT ta) tb).getD i (dflt .str)), aTr ((memV tb ((namesU (obT ta) tb).getD i (dflt .str))))] [] (.val (.tup [])) [(0, .var [vi 3, nilv, vi 7, vb false, vb false, nilv, vi 0, vs (ba []), .own 1, .own 2, .own 3]), (1, .sl 9 .str (vK (obT ta) tb i)), (2, .sl 28 .tree (vV (obT ta) tb i)), (3, .sl 25 .strs ((maskI (obT ta) tb i) ++ ([[((namesU (obT ta) tb).getD i (dflt .str))]])))] [(0, .var [vi 3, nilv, vi 7, vb false, vb false, nilv, vi 0, vs (ba []), .own 2007, .own 3007, .own 3]), (3, .sl 25 .strs ((maskI (obT ta) tb i) ++ ([[((namesU (obT ta) tb).getD i (dflt .str))]]))), (2007, .sl 9 .str ((vK (obT ta) tb i) ++ [((namesU (obT ta) tb).getD i (dflt .str))])), (3007, .sl 28 .tree ((vV (obT ta) tb i) ++ [(memV tb ((namesU (obT ta) tb).getD i (dflt .str)))]))] [(0, 90000001), (1, 90000002), (2, 90000003), (2007, 17003), (3007, 1017003), (3, 14005)])])] (bz 3 5) 1796614072026618840660708297209661884829072720 [q1 b8, q4 (i : Int) ((namesU (obT ta) tb).length), q1 b9, ⟨(((maskI (obT ta) tb i).length + 1) * 24 : Nat) ≤ 140737488355328 ∧ (maskI (obT ta) tb i).length + 1 ≤ 140737488355328, (by first | omega | (simp only [List.length_singleton, List.length_cons, List.length_nil]; omega))⟩, q1 b10, q3 ((i : Int) + 1)] .norm [(2, .ptr 1000 0), (3, .ptr 1001 0), (4, .ptr 1002 0), (6, .ptr 90000001 0), (41, rwS (namesU (obT ta) tb)), (42, vi ((namesU (obT ta) tb).length : Int)), (43, vi ((i : Int) + 1))] [(1000, bTr ((obT ta))), (1001, bTr (tb)), (1002, .var [vi 0, nilv, vi 0, vb false, vb false, nilv, vi 0, vs (ba []), nilv, nilv, nilv]), (14005, .sl 25 .strs ((maskI (obT ta) tb i) ++ ([[((namesU (obT ta) tb).getD i (dflt .str))]]))), (17003, .sl 9 .str ((vK (obT ta) tb i) ++ [((namesU (obT ta) tb).getD i (dflt .str))])), (1017003, .sl 28 .tree ((vV (obT ta) tb i) ++ [(memV tb ((namesU (obT ta) tb).getD i (dflt .str)))])), (90000001, .var [vi 3, nilv, vi 7, vb false, vb false, nilv, vi 0, vs (ba []), .own 17003, .own 1017003, .own 14005])] ⟨conAlike _ _ _ hfo hfb, con122 _ _ (by omega), conPutP _ _ _ _ _ (by first | omega | (simp; omega)) (by first | omega | (simp; omega)), tv⟩ fun a w hs => ?_
 refine then_norm ⟨i + 1, by omega, by omega, ?_⟩
 (have e0_ : ((i : Int) + 1) = ((((i + 1) : Nat) : Int)) := (by first | rfl | (omega)); have e1_ : (((maskI (obT ta) tb i) ++ ([[((namesU (obT ta) tb).getD i (dflt .str))]]))) = (maskI (obT ta) tb (i + 1)) := (by first | rfl | (rw [maskI_on (by omega) b9])); have e2_ : ((vK (obT ta) tb i) ++ [((namesU (obT ta) tb).getD i (dflt .str))]) = (vK (obT ta) tb (i + 1)) := (by first | rfl | (rw [vK_on (by omega) b9 b10])); have e3_ : ((vV (obT ta) tb i) ++ [(memV tb ((namesU (obT ta) tb).getD i (dflt .str)))]) = (vV (obT ta) tb (i + 1)) := (by first | rfl | (rw [vV_on (by omega) b9 b10])); exact (hs.cst [(2, .ptr 1000 0), (3, .ptr 1001 0), (4, .ptr 1002 0), (6, .ptr 90000001 0), (41, rwS (namesU (obT ta) tb)), (42, vi ((namesU (obT ta) tb).length : Int)), (43, vi (((i + 1) : Nat) : Int))] [(1000, bTr ((obT ta))), (1001, bTr (tb)), (1002, .var [vi 0, nilv, vi 0, vb false, vb false, nilv, vi 0, vs (ba []), nilv, nilv, nilv]), (14005, .sl 25 .strs (maskI (obT ta) tb (i + 1))), (17003, .sl 9 .str (vK (obT ta) tb (i + 1))), (1017003, .sl 28 .tree (vV (obT ta) tb (i + 1))), (90000001, .var [vi 3, nilv, vi 7, vb false, vb false, nilv, vi 0, vs (ba []), .own 17003, .own 1017003, .own 14005])] (by first | (rw [e0_, e1_, e2_, e3_]; done) | (simp only [e0_, e1_, e2_, e3_]; done) | rfl | (simp only [e0_, e1_, e2_, e3_]; rfl))).rk [(1000, 1000), (1001, 1001), (1002, 1002), (90000001, 90000001), (90000002, 17003), (90000003, 1017003), (90000004, 14005)])
 refine wL hs hI [(11, rc [(3, ciV 67 [aTr ((obT ta)), aTr (tb), vs ((namesU (obT ta) tb).getD i (dflt .str))] (.tup [aTr ((memV (obT ta) ((namesU (obT ta) tb).getD i (dflt .str)))), vb (alike (obT ta) tb ((namesU (obT ta) tb).getD i (dflt .str)))]))]), (14, rc [(2, ciV 57 [aTr (tb), vs ((namesU (obT ta) tb).getD i (dflt .str))] (.tup [aTr ((memV tb ((namesU (obT ta) tb).getD i (dflt .str)))), vb (memB tb ((namesU (obT ta) tb).getD i (dflt .str)))]))])] (bz 3 1) 179672026618840660708297209661884829072720 [q1 b8, q4 (i : Int) ((namesU (obT ta) tb).length), q1 b9, ⟨(((maskI (obT ta) tb i).length + 1) * 24 : Nat) ≤ 140737488355328 ∧ (maskI (obT ta) tb i).length + 1 ≤ 140737488355328, (by first | omega | (simp only [List.length_singleton, List.length_cons, List.length_nil]; omega))⟩, q1 b10, q3 ((i : Int) + 1)] .norm [(2, .ptr 1000 0), (3, .ptr 1001 0), (4, .ptr 1002 0), (6, .ptr 90000001 0), (41, rwS (namesU (obT ta) tb)), (42, vi ((namesU (obT ta) tb).length : Int)), (43, vi ((i : Int) + 1))] [(1000, bTr ((obT ta))), (1001, bTr (tb)), (1002, .var [vi 0, nilv, vi 0, vb false, vb false, nilv, vi 0, vs (ba []), nilv, nilv, nilv]), (14005, .sl 25 .strs ((maskI (obT ta) tb i) ++ ([[((namesU (obT ta) tb).getD i (dflt .str))]]))), (90000001, .var [vi 3, nilv, vi 7, vb false, vb false, nilv, vi 0, vs (ba []), .own 90000002, .own 90000003, .own 14005]), (90000002, .sl 9 .str (vK (obT ta) tb i)), (90000003, .sl 28 .tree (vV (obT ta) tb i))] ⟨conAlike _ _ _ hfo hfb, con122 _ _ (by omega), tv⟩ fun a w hs => ?_
 refine then_norm ⟨i + 1, by omega, by omega, ?_⟩
 (have e0_ : ((i : Int) + 1) = ((((i + 1) : Nat) : Int)) := (by first | rfl | (omega)); have e1_ : ((maskI (obT ta) tb i) ++ ([[((namesU (obT ta) tb).getD i (dflt .str))]])) = (maskI (obT ta) tb (i + 1)) := (by first | rfl | (rw [maskI_on (by omega) b9])); have e2_ : (vK (obT ta) tb i) = (vK (obT ta) tb (i + 1)) := (by first | rfl | (rw [vK_off (by omega) b9 b10])); have e3_ : (vV (obT ta) tb i) = (vV (obT ta) tb (i + 1)) := (by first | rfl | (rw [vV_off (by omega) b9 b10])); exact (hs.cst [(2, .ptr 1000 0), (3, .ptr 1001 0), (4, .ptr 1002 0), (6, .ptr 90000001 0), (41, rwS (namesU (obT ta) tb)), (42, vi ((namesU (obT ta) tb).length : Int)), (43, vi (((i + 1) : Nat) : Int))] [(1000, bTr ((obT ta))), (1001, bTr (tb)), (1002, .var [vi 0, nilv, vi 0, vb false, vb false, nilv, vi 0, vs (ba []), nilv, nilv, nilv]), (14005, .sl 25 .strs (maskI (obT ta) tb (i + 1))), (90000001, .var [vi 3, nilv, vi 7, vb false, vb false, nilv, vi 0, vs (ba []), .own 90000002, .own 90000003, .own 14005]), (90000002, .sl 9 .str (vK (obT ta) tb (i + 1))), (90000003, .sl 28 .tree (vV (obT ta) tb (i + 1)))] (by first | (rw [e0_, e1_, e2_, e3_]; done) | (simp only [e0_, e1_, e2_, e3_]; done) | rfl | (simp only [e0_, e1_, e2_, e3_]; rfl))).rk [(1000, 1000), (1001, 1001), (1002, 1002), (90000001, 90000001), (90000002, 90000002), (90000003, 90000003), (90000004, 14005)])
 refine wN hs hI (bz 1 0) 720 [q1 b8] (.exit 0) [(4, .ptr 1002 0), (6, .ptr 90000001 0)] [(1002, .var [vi 0, nilv, vi 0, vb false, vb false, nilv, vi 0, vs (ba []), nilv, nilv, nilv]), (90000001, .var [vi 3, nilv, vi 7, vb false, vb false, nilv, vi 0, vs (ba []), .own 90000002, .own 90000003, .own 90000004]), (90000002, .sl 9 .str (vK (obT ta) tb i)), (90000003, .sl 28 .tree (vV (obT ta) tb i)), (90000004, .sl 25 .strs (maskI (obT ta) tb i))] fun a w hs => ?_
 refine then_exit ?_
 refine inb_hit ?_
 refine then_norm ?_
 refine wL hs hI [(18, rc [(3, ciA 69 [.row .strs (maskI (obT ta) tb i)] [90000004] [] (.val (vb (checkF (maskI (obT ta) tb i)))))])] [] 196848 [] .ret [(4, .ptr 1002 0), (5, vb (checkF (maskI (obT ta) tb i)))] [(1002, .var [vi 3, nilv, vi 7, vb false, vb false, nilv, vi 0, vs (ba []), .own 90000002, .own 90000003, .own 90000004]), (90000002, .sl 9 .str (vK (obT ta) tb i)), (90000003, .sl 28 .tree (vV (obT ta) tb i)), (90000004, .sl 25 .strs (maskI (obT ta) tb i))] ⟨con39 _ (maskI_small _ (obT_small hka) hkb) (by omega), tv⟩ fun a w hs => ?_
 exact rK (.val (.tup [.agg [vi 3, .row .opn ([]), vi 7, vb false, vb false, rwU ([]), vi 0, vs (ba []), rwS (vK (obT ta) tb i), rwT (vV (obT ta) tb i), .row .strs (maskI (obT ta) tb i)], vb (checkF (maskI (obT ta) tb i))])) [90000002, 90000003, 90000004] hs (by rw [maskG_fin (i := i) b1 (by omega) (by omega)]; rfl)
theorem conCan (n : Nat) (ta tb : Tree) (hd : depth tb ≤ n) (hfa : fineT ta) (hfb : fineT tb) (lang : Int) : Con Tryz.prog I0 15 [.agg (encTree ta), .agg (encTree tb), vi lang] (.val (vb (canF n ta tb lang))) := by
 refine con_of Tryz.func15 rfl (Nat.le_of_ble_eq_true rfl) stab (fun w0 fz a hI hs => ?_)
 refine wNs hs hI [] 18 [] [(2, vi lang), (3, .ptr 1000 0), (4, .ptr 1001 0)] [(1000, bTr (ta)), (1001, bTr (tb))] fun a w hs => ?_
 refine wp_seq ?_
 rcases bt (validT ta) with b1 | b1
 rcases bt (validT tb) with b2 | b2
 refine wL hs hI [(1, rg [(1, ciV 33 [aTr (ta)] (vb (validT ta))), (5, ciV 33 [aTr (tb)] (vb (validT tb)))] [4, 5, 6] [1007])] (bz 1 0) 7296677437041 [q1 (ng1 b1), q1 (ng1 b1), q1 (ng1 b1), q1 (ng1 b1), q1 (ng1 b2)] .norm [(2, vi lang), (3, .ptr 1000 0), (4, .ptr 1001 0)] [(1000, bTr (ta)), (1001, bTr (tb))] ⟨con57 _ hfa, con57 _ hfb, tv⟩ fun a w hs => ?_
 refine then_norm ?_
 rcases bq (lang) (2) with ⟨b3, n3⟩ | ⟨b3, n3⟩
 refine wL hs hI [(6, rc [(2, ciV 34 [aTr (ta), aTr (tb)] (.tup [aTr ((theM (mergedO n ta tb))), vb ((mergedO n ta tb).isSome)]))])] (bz 1 1) 1989660841798202918 [q1 b3] .ret [(6, vb ((mergedO n ta tb).isSome))] [] ⟨conMerge n ta tb hd hfa hfb, tv⟩ fun a w hs => ?_
 exact rK (.val (vb ((mergedO n ta tb).isSome))) [] hs (by simp only [canF, b1, b2]; simp only [Bool.true_and]; (repeat (first | rw [if_pos (by omega)] | rw [if_neg (by omega)])); first | done | rfl)
 rcases bq (lang) (3) with ⟨b4, n4⟩ | ⟨b4, n4⟩
 refine wL hs hI [(8, rc [(2, ciV 35 [aTr (ta), aTr (tb)] (.tup [.agg (e8 [vi ((maskG ta tb).1.lang), .row .opn ((maskG ta tb).1.ops)] (((maskG ta tb).1.value)) [.row .strs ((maskG ta tb).1.mask)]), vb ((maskG ta tb).2)]))])] (bz 2 2) 1986660841790798202918 [q1 b3, q1 b4] .ret [(6, vb ((maskG ta tb).2))] [] ⟨conMasked ta tb hfa hfb (valid_small (by assumption)) (valid_small (by assumption)), tv⟩ fun a w hs => ?_
 exact rK (.val (vb ((maskG ta tb).2))) [] hs (by simp only [canF, b1, b2]; simp only [Bool.true_and]; (repeat (first | rw [if_pos (by omega)] | rw [if_neg (by omega)])); first | done | rfl)
 refine wN hs hI (bz 2 0) 19826790798202918 [q1 b3, q1 b4] .ret [(6, vb (lang == 1))] [] fun a w hs => ?_
 exact rK (.val (vb (lang == 1))) [] hs (by simp only [canF, b1, b2]; simp only [Bool.true_and]; (repeat (first | rw [if_pos (by omega)] | rw [if_neg (by omega)])); first | done | rfl)
 refine wL hs hI [(1, rg [(1, ciV 33 [aTr (ta)] (vb (validT ta))), (5, ciV 33 [aTr (tb)] (vb (validT tb)))] [4, 5, 6] [1007])] (bz 1 1) 1217296677437041 [q1 (ng1 b1), q1 (ng1 b1), q1 (ng1 b1), q1 (ng1 b1), q1 (ng0 b2)] .ret [(6, vb false)] [] ⟨con57 _ hfa, con57 _ hfb, tv⟩ fun a w hs => ?_
 refine then_ret ?_
 exact rK (.val (vb false)) [] hs (by simp only [canF, b1, b2]; first | done | rfl)
 refine wL hs hI [(1, rg [(1, ciV 33 [aTr (ta)] (vb (validT ta)))] [1007] [4, 5, 6])] (bz 1 1) 1217667333041 [q1 (ng0 b1), q1 (ng0 b1), q1 (ng0 b1), q1 (ng0 b1), q0 true] .ret [(6, vb false)] [] ⟨con57 _ hfa, tv⟩ fun a w hs => ?_
 refine then_ret ?_
 exact rK (.val (vb false)) [] hs (by simp only [canF, b1]; first | done | rfl)
theorem conDiff (n : Nat) (ta tb : Tree) (hd : depth tb ≤ n) (hfa : fineT ta) (hfb : fineT tb) (lang cells : Int) (hl : lang = 2 ∨ lang = 3) : Con Tryz.prog I0 11 [.agg (encTree ta), .agg (encTree tb), vi lang, vi cells] (.val (.tup [.agg (encP (diffP n ta tb lang).1), vi (diffP n ta tb lang).2])) := by
 refine con_of Tryz.func11 rfl (Nat.le_of_ble_eq_true rfl) stab (fun w0 fz a hI hs => ?_)
 refine wNs hs hI [] 118 [] [(2, vi lang), (3, vi cells), (4, .ptr 1000 0), (5, .ptr 1001 0), (8, .ptr 1002 0)] [(1000, bTr (ta)), (1001, bTr (tb)), (1002, .var [vi 0, nilv, vi 0, vb false, vb false, nilv, vi 0, vs (ba []), nilv, nilv, nilv])] fun a w hs => ?_
 refine wp_seq ?_
 rcases bt (validT ta) with b1 | b1
 rcases bt (validT tb) with b2 | b2
 have b3 : (decide (lang < 1)) = false := by exact decide_eq_false (by omega)
 have b4 : (decide (lang > 3)) = false := by exact decide_eq_false (by omega)
 have b5 : (lang == 1) = false := by exact beq_eq_false_iff_ne.2 (by omega)
 rcases bt (canF n ta tb lang) with b6 | b6
 refine wL hs hI [(1, rg [(1, ciV 33 [aTr (ta)] (vb (validT ta))), (5, ciV 33 [aTr (tb)] (vb (validT tb)))] [4, 5, 6, 9, 10, 13, 14] [1007, 1011, 1015]), (5, rc [(3, ciV 15 [aTr (ta), aTr (tb), vi lang] (vb (canF n ta tb lang)))]), (3, rg [] [] [3, 4, 5, 6, 7, 1008])] (bz 3 0) 7968407966173333307666666177777777437041 [q1 (ng1 b1), q1 (ng1 b1), q1 (ng1 b1), q1 (ng1 b1), q1 (ng1 b2), q1 (ng1 b2), q1 (ng1 b2), q1 b3, q1 b3, q1 b3, q1 b4, q1 b5, q1 b5, q1 b5, q1 b5, q1 b5, q1 b5, q0 false, q1 (ng1 b6)] .norm [(2, vi lang), (4, .ptr 1000 0), (5, .ptr 1001 0), (8, .ptr 1002 0)] [(1000, bTr (ta)), (1001, bTr (tb)), (1002, .var [vi 0, nilv, vi 0, vb false, vb false, nilv, vi 0, vs (ba []), nilv, nilv, nilv])] ⟨con57 _ hfa, con57 _ hfb, conCan n ta tb hd hfa hfb lang, tv⟩ fun a w hs => ?_
 refine then_norm ?_
 rcases bq (lang) (2) with ⟨b7, n7⟩ | ⟨b7, n7⟩
 refine wL hs hI [(9, rc [(2, ciV 34 [aTr (ta), aTr (tb)] (.tup [aTr ((theM (mergedO n ta tb))), vb ((mergedO n ta tb).isSome)]))])] (bz 1 1) 126882661884179820 [q1 b7] .ret [(8, .ptr 1002 0), (9, vi 0)] [(1002, .var (e8 [vi lang, nilv] ((theM (mergedO n ta tb))) [nilv]))] ⟨conMerge n ta tb hd hfa hfb, tv⟩ fun a w hs => ?_
 exact rK (.val (.tup [.agg (e8 [vi lang, .row .opn ([])] ((theM (mergedO n ta tb))) [.row .strs ([])]), vi 0])) [] hs (by rw [diffP, if_pos (by rw [b1, b2]; rfl), if_pos b6, if_pos (by omega)]; first | rfl | (obtain rfl : lang = 2 := (by omega); rfl))
 have b8 : (lang == 3) = true := by exact beq_iff_eq.2 (by omega)
 refine wL hs hI [(12, rc [(2, ciV 35 [aTr (ta), aTr (tb)] (.tup [.agg (e8 [vi ((maskG ta tb).1.lang), .row .opn ((maskG ta tb).1.ops)] (((maskG ta tb).1.value)) [.row .strs ((maskG ta tb).1.mask)]), vb ((maskG ta tb).2)]))])] (bz 2 2) 129182661884179079820 [q1 b7, q1 b8] .ret [(8, .ptr 1002 0), (9, vi 0)] [(1002, .var (e8 [vi ((maskG ta tb).1.lang), .row .opn ((maskG ta tb).1.ops)] (((maskG ta tb).1.value)) [.row .strs ((maskG ta tb).1.mask)]))] ⟨conMasked ta tb hfa hfb (valid_small (by assumption)) (valid_small (by assumption)), tv⟩ fun a w hs => ?_
 exact rK (.val (.tup [.agg (e8 [vi ((maskG ta tb).1.lang), .row .opn ((maskG ta tb).1.ops)] (((maskG ta tb).1.value)) [.row .strs ((maskG ta tb).1.mask)]), vi 0])) [] hs (by rw [diffP, if_pos (by rw [b1, b2]; rfl), if_pos b6, if_neg (by omega)]; rfl)
 refine wL hs hI [(1, rg [(1, ciV 33 [aTr (ta)] (vb (validT ta))), (5, ciV 33 [aTr (tb)] (vb (validT tb)))] [4, 5, 6, 9, 10, 13, 14] [1007, 1011, 1015]), (5, rc [(3, ciV 15 [aTr (ta), aTr (tb), vi lang] (vb (canF n ta tb lang)))]), (3, rg [] [] [3, 4, 5, 6, 7, 1008])] (bz 3 4) 12987968407966173333307666666177777777437041 [q1 (ng1 b1), q1 (ng1 b1), q1 (ng1 b1), q1 (ng1 b1), q1 (ng1 b2), q1 (ng1 b2), q1 (ng1 b2), q1 b3, q1 b3, q1 b3, q1 b4, q1 b5, q1 b5, q1 b5, q1 b5, q1 b5, q1 b5, q0 false, q1 (ng0 b6)] .ret [(8, .ptr 1002 0), (9, vi 7)] [(1002, .var [vi 0, nilv, vi 0, vb false, vb false, nilv, vi 0, vs (ba []), nilv, nilv, nilv])] ⟨con57 _ hfa, con57 _ hfb, conCan n ta tb hd hfa hfb lang, tv⟩ fun a w hs => ?_
 refine then_ret ?_
 exact rK (.val (.tup [.agg [vi 0, .row .opn ([]), vi 0, vb false, vb false, rwU ([]), vi 0, vs (ba []), rwS ([]), rwT ([]), .row .strs ([])], vi 7])) [] hs (by rw [diffP, if_pos (by rw [b1, b2]; rfl), if_neg (by rw [b6]; decide)]; rfl)
 refine wL hs hI [(1, rg [(1, ciV 33 [aTr (ta)] (vb (validT ta))), (5, ciV 33 [aTr (tb)] (vb (validT tb)))] [4, 5, 6, 1011, 1015] [1007, 9, 10, 13, 14])] (bz 1 1) 1298766666173373377437041 [q1 (ng1 b1), q1 (ng1 b1), q1 (ng1 b1), q1 (ng1 b1), q1 (ng0 b2), q1 (ng0 b2), q1 (ng0 b2), q0 true, q0 true, q0 true, q0 true] .ret [(8, .ptr 1002 0), (9, vi 1)] [(1002, .var [vi 0, nilv, vi 0, vb false, vb false, nilv, vi 0, vs (ba []), nilv, nilv, nilv])] ⟨con57 _ hfa, con57 _ hfb, tv⟩ fun a w hs => ?_
 refine then_ret ?_
 exact rK (.val (.tup [.agg [vi 0, .row .opn ([]), vi 0, vb false, vb false, rwU ([]), vi 0, vs (ba []), rwS ([]), rwT ([]), .row .strs ([])], vi 1])) [] hs (by rw [diffP, if_neg (by rw [Bool.and_eq_true]; simp [b2])]; rfl)
 refine wL hs hI [(1, rg [(1, ciV 33 [aTr (ta)] (vb (validT ta)))] [1007, 1011, 1015] [4, 5, 6, 9, 10, 13, 14])] (bz 1 1) 129872666617337337333041 [q1 (ng0 b1), q1 (ng0 b1), q1 (ng0 b1), q1 (ng0 b1), q0 true, q0 true, q0 true, q0 true, q0 true, q0 true, q0 true] .ret [(8, .ptr 1002 0), (9, vi 1)] [(1002, .var [vi 0, nilv, vi 0, vb false, vb false, nilv, vi 0, vs (ba []), nilv, nilv, nilv])] ⟨con57 _ hfa, tv⟩ fun a w hs => ?_
 refine then_ret ?_
 exact rK (.val (.tup [.agg [vi 0, .row .opn ([]), vi 0, vb false, vb false, rwU ([]), vi 0, vs (ba []), rwS ([]), rwT ([]), .row .strs ([])], vi 1])) [] hs (by rw [diffP, if_neg (by rw [Bool.and_eq_true]; simp [b1])]; rfl)
theorem obT_not {t : Tree} (h : ¬ t.kind = 7) : obT t = objM [] := if_neg h
theorem obT_is {t : Tree} (h : t.kind = 7) : obT t = t := if_pos h
theorem depth_at1 {p : Tree} {n i : Nat} (hd : depth p ≤ n + 1) (hi : i < p.v.length) : depth (p.v.getD i (dflt .tree)) ≤ n := by
 have h1 := depth_eq p
 have h2 := depth_mem (getD_mem hi (dflt .tree))
 omega
theorem conMg_ : ∀ (n : Nat) (t pt : Tree), depth pt ≤ n → fineT t → fineT pt → nodes t + 2 * nodes pt < 100000000 → Con Tryz.prog I0 26 [.agg (encTree t), .agg (encTree pt)] (.val (.agg (encTree (mergeR n t pt)))) := by
 intro n
 induction n
 case zero => intro t pt hd; have := depth_eq pt; omega
 rename_i n ih
 intro t pt hd hft hfp hn
 obtain ⟨⟨hf1, hf2, hf3, hf4⟩, hf5⟩ := (fine_eq pt).1 hfp
 refine con_of Tryz.func26 rfl (Nat.le_of_ble_eq_true rfl) stab (fun w0 fz a hI hs => ?_)
 refine wNs hs hI [] 18 [] [(2, .ptr 1000 0), (3, .ptr 1001 0), (4, .ptr 1002 0)] [(1000, bTr (t)), (1001, bTr (pt)), (1002, .var zTr)] fun a w hs => ?_
 refine wp_seq ?_
 rcases bt (pt.kind != 7) with b1 | b1
 have n1 := bne_iff_ne.1 b1
 refine wN hs hI (bz 1 1) 19072918 [q1 b1] .ret [(4, .ptr 1002 0)] [(1002, bTr (pt))] fun a w hs => ?_
 refine then_ret ?_
 exact rK (.val (aTr (pt))) [] hs (by rw [mergeR, if_neg (by omega)]; first | done | rfl)
 have n1 := bne_eq_false_iff_eq.1 b1
 refine wN hs hI (bz 1 0) 72918 [q1 b1] .norm [(2, .ptr 1000 0), (3, .ptr 1001 0), (4, .ptr 1002 0)] [(1000, bTr (t)), (1001, bTr (pt)), (1002, .var zTr)] fun a w hs => ?_
 refine then_norm ?_
 refine wNs hs hI [] 18 [] [(2, .ptr 1000 0), (3, .ptr 1001 0), (4, .ptr 1002 0), (5, .ptr 4001 0)] [(1000, bTr (t)), (1001, bTr (pt)), (1002, .var zTr), (4001, .var [vi 7, vb false, vb false, nilv, vi 0, vs (ba []), nilv, nilv])] fun a w hs => ?_
 refine wp_cut (N := Tryz.f26.ntmps) (w0 := w0) (ow := noO fz) (T := [(3, .ptr 1001 0), (4, .ptr 1002 0), (5, .ptr 90000009 0)]) (B := [(1001, bTr (pt)), (1002, .var zTr), (90000009, bTr ((obT t)))]) (True) ?_ ?_
 rcases bq (t.kind) (7) with ⟨b2, n2⟩ | ⟨b2, n2⟩
 refine wN hs hI (bz 1 1) 1172918 [q1 b2] .norm [(3, .ptr 1001 0), (4, .ptr 1002 0), (5, .ptr 4001 0)] [(1001, bTr (pt)), (1002, .var zTr), (4001, bTr (t))] fun a w hs => ?_
 refine then_norm ⟨trivial, ?_⟩
 exact (hs.cst [(3, .ptr 1001 0), (4, .ptr 1002 0), (5, .ptr 4001 0)] [(1001, bTr (pt)), (1002, .var zTr), (4001, bTr ((obT t)))] (by rw [obT_is (t := t) (by omega)])).rk [(1001, 1001), (1002, 1002), (90000009, 4001)]
 refine wN hs hI (bz 1 0) 72918 [q1 b2] .norm [(3, .ptr 1001 0), (4, .ptr 1002 0), (5, .ptr 4001 0)] [(1001, bTr (pt)), (1002, .var zTr), (4001, .var [vi 7, vb false, vb false, nilv, vi 0, vs (ba []), nilv, nilv])] fun a w hs => ?_
 refine then_norm ⟨trivial, ?_⟩
 (have hs := (((hs.rowB 4001 3 (.int .u32) [vi 7, vb false, vb false, nilv, vi 0, vs (ba []), nilv, nilv] (by kernel_rfl) (by kernel_rfl)).rowB 4001 6 .str [vi 7, vb false, vb false, rwU ([]), vi 0, vs (ba []), nilv, nilv] (by kernel_rfl) (by kernel_rfl)).rowB 4001 7 .tree [vi 7, vb false, vb false, rwU ([]), vi 0, vs (ba []), rwS ([]), nilv] (by kernel_rfl) (by kernel_rfl)).rmT [(3, .ptr 1001 0), (4, .ptr 1002 0), (5, .ptr 4001 0)] [(1001, bTr (pt)), (1002, .var zTr), (4001, .var [vi 7, vb false, vb false, rwU ([]), vi 0, vs (ba []), rwS ([]), rwT ([])])] [(1001, 1001), (1002, 1002), (4001, 4001)] (by kernel_rfl); exact (hs.cst [(3, .ptr 1001 0), (4, .ptr 1002 0), (5, .ptr 4001 0)] [(1001, bTr (pt)), (1002, .var zTr), (4001, bTr ((obT t)))] (by rw [obT_not (t := t) (by omega)]; rfl)).rk [(1001, 1001), (1002, 1002), (90000009, 4001)])
 intro hF a w hs
 refine wp_seq ?_
 refine wNs hs hI [] 11 [] [(3, .ptr 1001 0), (4, .ptr 1002 0), (5, .ptr 90000009 0), (6, vi 0)] [(1001, bTr (pt)), (1002, .var zTr), (90000009, bTr ((obT t)))] fun a w hs => ?_
 refine wp_block ?_
 refine loop_L (N := Tryz.f26.ntmps) (w0 := w0) (ow := noO fz) (α := Nat × Tree) (fun p => [(3, .ptr 1001 0), (4, .ptr 1002 0), (5, .ptr 90000001 0), (6, vi ((p.1 : Nat) : Int))]) (fun p => [(1001, bTr (pt)), (1002, .var zTr), (90000001, bTr (p.2))]) (fun p => MgJ n t pt p.1 p.2) (fun p => (mems pt).length - p.1) (0, obT t) ?_ ?_ ?_
 exact MgJ.start (by omega) hft hn
 exact (hs.cst [(3, .ptr 1001 0), (4, .ptr 1002 0), (5, .ptr 90000009 0), (6, vi ((0 : Nat) : Int))] [(1001, bTr (pt)), (1002, .var zTr), (90000009, bTr ((obT t)))] rfl).rk [(1001, 1001), (1002, 1002), (90000001, 90000009)]
 rintro ⟨i, u⟩ hJ a w hs
 try dsimp only at hJ
 have hi := hJ.le
 have hml := mems_len (t := pt) (by omega)
 refine wp_seq ?_
 rcases bd ((i : Int) < (pt.k.length : Int)) with ⟨b3, n3⟩ | ⟨b3, n3⟩
 rcases bd ((i : Int) < (pt.v.length : Int)) with ⟨b4, n4⟩ | ⟨b4, n4⟩
 refine wL hs hI [(7, rg [] [6, 7, 8, 9, 10, 1011] [])] (bz 1 1) 72666677777788 [q1 b3, q1 b3, q1 b3, q1 b3, q1 b3, q1 b3, q1 b4] .norm [(3, .ptr 1001 0), (4, .ptr 1002 0), (5, .ptr 90000001 0), (6, vi (i : Int))] [(1001, bTr (pt)), (1002, .var zTr), (90000001, bTr (u))] tv fun a w hs => ?_
 refine then_norm ?_
 rcases bq ((pt.v.getD i (dflt .tree)).kind) (1) with ⟨b5, n5⟩ | ⟨b5, n5⟩
 refine wL hs hI [(10, rc [(6, ciV 54 [aTr (u), vs (pt.k.getD i (dflt .str))] (aTr ((unsetT u (pt.k.getD i (dflt .str))))))])] (bz 1 1) 1712916604787296878 [q4 (i : Int) pt.v.length, q1 b5, q4 (i : Int) pt.k.length, q3 ((i : Int) + 1)] .norm [(3, .ptr 1001 0), (4, .ptr 1002 0), (5, .ptr 90000001 0), (6, vi ((i : Int) + 1))] [(1001, bTr (pt)), (1002, .var zTr), (90000001, bTr ((unsetT u (pt.k.getD i (dflt .str)))))] ⟨con21 _ _ (by have h1 := nodes_eq u; have h2 := nodesL_len u.v; have h3 := hJ.few; omega), tv⟩ fun a w hs => ?_
 refine then_norm ⟨(i + 1, (unsetT u (pt.k.getD i (dflt .str)))), (by have h := hJ.on (by omega) hfp (by omega) (by omega); rw [step_unset (by omega)] at h; exact h), by omega, ?_⟩
 exact hs.rk [(1001, 1001), (1002, 1002), (90000001, 90000001)]
 rcases bt (memB u (pt.k.getD i (dflt .str))) with b6 | b6
 refine wL hs hI [(11, rc [(6, ciV 24 [aTr (u), vs (pt.k.getD i (dflt .str))] (.tup [aTr ((memV u (pt.k.getD i (dflt .str)))), vb (memB u (pt.k.getD i (dflt .str)))]))]), (14, rc [(12, ciV 26 [aTr ((memV u (pt.k.getD i (dflt .str)))), aTr ((pt.v.getD i (dflt .tree)))] (aTr ((mergeR n (memV u (pt.k.getD i (dflt .str))) (pt.v.getD i (dflt .tree)))))), (13, ciV 25 [aTr (u), vs (pt.k.getD i (dflt .str)), aTr ((mergeR n (memV u (pt.k.getD i (dflt .str))) (pt.v.getD i (dflt .tree))))] (aTr ((setT u (pt.k.getD i (dflt .str)) (mergeR n (memV u (pt.k.getD i (dflt .str))) (pt.v.getD i (dflt .tree)))))))])] (bz 2 0) 1719666604471871897982666188471897296878 [q4 (i : Int) pt.v.length, q1 b5, q4 (i : Int) pt.k.length, q1 (ng1 b6), q4 (i : Int) pt.k.length, q4 (i : Int) pt.v.length, q3 ((i : Int) + 1)] .norm [(3, .ptr 1001 0), (4, .ptr 1002 0), (5, .ptr 90000001 0), (6, vi ((i : Int) + 1))] [(1001, bTr (pt)), (1002, .var zTr), (90000001, bTr ((setT u (pt.k.getD i (dflt .str)) (mergeR n (memV u (pt.k.getD i (dflt .str))) (pt.v.getD i (dflt .tree))))))] ⟨con69 _ _ (by have h1 := nodes_eq u; have h2 := nodesL_len u.v; have h3 := hJ.few; omega), ih _ _ (depth_at1 hd (by omega)) (fine_memV hJ.fine _) (fine_at hfp (by omega) _) (by have h1 := hJ.at (by omega) (by omega) (by omega); have h2 := nodes_eq u; have h3 := memV_nodes' u (pt.k.getD i (dflt .str)); omega), con22 _ _ _ (by have h1 := nodes_eq u; have h2 := nodesL_len u.v; have h3 := hJ.few; omega), tv⟩ fun a w hs => ?_
 refine then_norm ⟨(i + 1, (setT u (pt.k.getD i (dflt .str)) (mergeR n (memV u (pt.k.getD i (dflt .str))) (pt.v.getD i (dflt .tree))))), (by have h := hJ.on (by omega) hfp (by omega) (by omega); rw [step_there (by omega) b6] at h; exact h), by omega, ?_⟩
 exact hs.rk [(1001, 1001), (1002, 1002), (90000001, 90000001)]
 refine wL hs hI [(11, rc [(6, ciV 24 [aTr (u), vs (pt.k.getD i (dflt .str))] (.tup [aTr ((memV u (pt.k.getD i (dflt .str)))), vb (memB u (pt.k.getD i (dflt .str)))]))]), (14, rc [(12, ciV 26 [aTr (nul), aTr ((pt.v.getD i (dflt .tree)))] (aTr ((mergeR n nul (pt.v.getD i (dflt .tree)))))), (13, ciV 25 [aTr (u), vs (pt.k.getD i (dflt .str)), aTr ((mergeR n nul (pt.v.getD i (dflt .tree))))] (aTr ((setT u (pt.k.getD i (dflt .str)) (mergeR n nul (pt.v.getD i (dflt .tree)))))))])] (bz 2 2) 17196666044718718607982666188471897296878 [q4 (i : Int) pt.v.length, q1 b5, q4 (i : Int) pt.k.length, q1 (ng0 b6), q4 (i : Int) pt.k.length, q4 (i : Int) pt.v.length, q3 ((i : Int) + 1)] .norm [(3, .ptr 1001 0), (4, .ptr 1002 0), (5, .ptr 90000001 0), (6, vi ((i : Int) + 1))] [(1001, bTr (pt)), (1002, .var zTr), (90000001, bTr ((setT u (pt.k.getD i (dflt .str)) (mergeR n nul (pt.v.getD i (dflt .tree))))))] ⟨con69 _ _ (by have h1 := nodes_eq u; have h2 := nodesL_len u.v; have h3 := hJ.few; omega), ih _ _ (depth_at1 hd (by omega)) nul_fineT (fine_at hfp (by omega) _) (by have h1 := hJ.at (by omega) (by omega) (by omega); have h2 := nodes_eq u; have h3 := nul_nodes; omega), con22 _ _ _ (by have h1 := nodes_eq u; have h2 := nodesL_len u.v; have h3 := hJ.few; omega), tv⟩ fun a w hs => ?_
 refine then_norm ⟨(i + 1, (setT u (pt.k.getD i (dflt .str)) (mergeR n nul (pt.v.getD i (dflt .tree))))), (by have h := hJ.on (by omega) hfp (by omega) (by omega); rw [step_new (by omega) b6] at h; exact h), by omega, ?_⟩
 exact hs.rk [(1001, 1001), (1002, 1002), (90000001, 90000001)]
 refine wL hs hI [(7, rg [] [6, 7, 8, 9, 10, 1011] [])] (bz 1 0) 72666677777788 [q1 b3, q1 b3, q1 b3, q1 b3, q1 b3, q1 b3, q1 b4] (.exit 0) [(4, .ptr 1002 0), (5, .ptr 90000001 0)] [(1002, .var zTr), (90000001, bTr (u))] tv fun a w hs => ?_
 refine then_exit ?_
 refine then_exit ?_
 refine inb_hit ?_
 refine then_norm ?_
 refine wN hs hI [] 198 [] .ret [(4, .ptr 1002 0)] [(1002, bTr (u))] fun a w hs => ?_
 exact rK (.val (aTr (u))) [] hs (by rw [hJ.fin (by omega)]; first | done | rfl)
 refine wL hs hI [(7, rg [] [] [6, 7, 8, 9, 10, 1011])] (bz 1 0) 766673333388 [q1 b3, q1 b3, q1 b3, q1 b3, q1 b3, q1 b3, q0 false] (.exit 0) [(4, .ptr 1002 0), (5, .ptr 90000001 0)] [(1002, .var zTr), (90000001, bTr (u))] tv fun a w hs => ?_
 refine then_exit ?_
 refine then_exit ?_
 refine inb_hit ?_
 refine then_norm ?_
 refine wN hs hI [] 198 [] .ret [(4, .ptr 1002 0)] [(1002, bTr (u))] fun a w hs => ?_
 exact rK (.val (aTr (u))) [] hs (by rw [hJ.fin (by omega)]; first | done | rfl)
def mdA (L : List Int) : Tree := (madeF 3 L).1
theorem conMade3 (l : List Int) : Con Tryz.prog I0 21 [.row (.int .i64) l, vi 3] (.val (.agg (encTree ((madeF 3 l).1)))) := by
 refine con_of Tryz.func21 rfl (Nat.le_of_ble_eq_true rfl) stab (fun w0 fz a hI hs => ?_)
 refine wL hs hI [(1, rc [(2, ciV 53 [.row (.int .i64) l, vi 3] (.tup [aTr (((madeF 3 l).1)), .row (.int .i64) ((madeF 3 l).2)]))])] [] 1982661884020 [] .ret [(4, .ptr 1000 0)] [(1000, bTr (((madeF 3 l).1)))] ⟨con54 3 (by decide) _, tv⟩ fun a w hs => ?_
 exact rK (.val (aTr (((madeF 3 l).1)))) [] hs rfl
def oneT (b : Bool) : Tree := .mk 7 false ⟨false, [], 0⟩ (ba []) [ba [97]] [.mk 2 b ⟨false, [], 0⟩ (ba []) [] []]
theorem oneT_fine (b : Bool) : fineT (oneT b) := (fine_eq _).2 ⟨⟨Ok.nil, by cases b <;> decide, by cases b <;> decide, by cases b <;> decide⟩, (fine_eq _).2 ⟨⟨Ok.nil, by cases b <;> decide, by cases b <;> decide, by cases b <;> decide⟩, trivial⟩, trivial⟩
theorem oneT_depth (b : Bool) : depth (oneT b) ≤ 2 := by cases b <;> decide +kernel
def patAw : Pat := ⟨2, [], oneT true, []⟩
theorem diffAw : diffP 2 (oneT false) (oneT true) 2 = (patAw, 0) := by kernel_rfl
theorem canAw : canF 2 (oneT true) (oneT true) 3 = true := by kernel_rfl
theorem conDiffAw : Con Tryz.prog I0 11 [.agg (encTree (oneT false)), .agg (encTree (oneT true)), vi 2, vi 0] (.val (.tup [.agg (encP patAw), vi 0])) := by
 have h := conDiff 2 (oneT false) (oneT true) (oneT_depth _) (oneT_fine _) (oneT_fine _) 2 0 (.inl rfl)
 rw [diffAw] at h; exact h
theorem conCanAw : Con Tryz.prog I0 15 [.agg (encTree (oneT true)), .agg (encTree (oneT true)), vi 3] (.val (vb true)) := by
 have h := conCan 2 (oneT true) (oneT true) (oneT_depth _) (oneT_fine _) (oneT_fine _) 3
 rw [canAw] at h; exact h
theorem conOneT (b : Bool) : Con Tryz.prog I0 32 [vb b] (.val (.agg (encTree (oneT b)))) := by
 refine con_of Tryz.func32 rfl (Nat.le_of_ble_eq_true rfl) stab (fun w0 fz a hI hs => ?_)
 refine wN hs hI [] 19618820 [] .ret [(2, .ptr 1000 0)] [(1000, .var [vi 7, vb false, vb false, nilv, vi 0, vs (ba []), .own 2000, .own 2003]), (2000, .sl 9 .str ([(ba [97])])), (2003, .sl 28 .tree ([(Tree.mk 2 b ⟨false, [], 0⟩ (ba []) ([]) ([]))]))] fun a w hs => ?_
 exact rK (.val (.agg [vi 7, vb false, vb false, rwU ([]), vi 0, vs (ba []), rwS ([(ba [97])]), rwT ([(Tree.mk 2 b ⟨false, [], 0⟩ (ba []) ([]) ([]))])])) [2000, 2003] hs rfl
theorem conAwake  : Con Tryz.prog I0 10 [] (.val (vb true)) := by
 have hlv : patAw.value.v.length = 1 := rfl
 refine con_of Tryz.func10 rfl (Nat.le_of_ble_eq_true rfl) stab (fun w0 fz a hI hs => ?_)
 have b1 : ((patAw.value.v.length : Int) == 1) = true := by rfl
 have b2 : ((patAw.value.v.getD 0 (dflt .tree)).b) = true := by rfl
 refine wL hs hI [(2, rc [(1, ciV 32 [vb false] (aTr ((oneT false)))), (3, ciV 32 [vb true] (aTr ((oneT true)))), (4, ciV 11 [aTr ((oneT false)), aTr ((oneT true)), vi 2, vi 0] (.tup [.agg (encP patAw), vi 0]))]), (3, rg [(19, ciV 32 [vb true] (aTr ((oneT true)))), (21, ciV 32 [vb true] (aTr ((oneT true)))), (22, ciV 15 [aTr ((oneT true)), aTr ((oneT true)), vi 3] (vb true))] [3, 4, 5, 6, 7, 1008, 10, 11, 12, 13, 14, 15, 1016, 18, 19, 20, 21, 22, 1023] [])] [] 12666666666617434374377773377777777782966188441412020 [q0 true, q0 true, q0 true, q0 true, q0 true, q0 true, q1 b1, q1 b1, q1 b1, q1 b1, q4 (0 : Int) patAw.value.v.length, q1 b1, q1 b1, q1 b1, q1 b2, q1 b2, q1 b2, q1 b2, q1 b2, q1 b2] .ret [(0, vb true)] [] ⟨conOneT _, conOneT _, conDiffAw, conOneT _, conOneT _, conCanAw, tv⟩ fun a w hs => ?_
 exact rK (.val (vb true)) [] hs rfl
theorem mdA_valid (l : List Int) : validT (mdA l) = true := good_valid (good_made 3 _) (by decide)
theorem mdA_fine (l : List Int) : fineT (mdA l) := good_fine (good_made 3 _)
theorem mdA_depth (l : List Int) : depth (mdA l) ≤ 4 := depth_goodN (goodN_T (good_made 3 _))
section
variable {a b : Tree}
end
theorem mdA_good (L : List Int) : GoodN 3 4 (mdA L) := goodN_T (good_made 3 _)
section
variable {a b : Tree}
theorem can_is (n : Nat) : canF n a b 2 = (validT a && (validT b && (mergedO n a b).isSome)) := rfl
end
def nmE (j : Int) : ByteArray := ([ba [97], ba [98], ba [99], ba [100, 100], ba [101]] : List ByteArray).getD (0 + j.toNat * 1) ⟨#[]⟩
abbrev vE (x : Int) : Int := placeF x 1048576
def qE (x : Int) : List ByteArray := if ((((vE x).tdiv 5).tmod 3) == 0) = true then [nmE ((vE x).tmod 5), nmE (((vE x).tdiv 15).tmod 5)] else [nmE ((vE x).tmod 5)]
def maskE (l : List Int) : List (List ByteArray) := (l.take 5).map qE
theorem nmE_ok {j : Int} (h : 0 ≤ j ∧ j < 5) : nameF (nmE j) = true ∧ (nmE j).size ≤ 2 ∧ ∀ c ∈ (nmE j).data.toList, c.toNat < 128 := by
 have hj : j = 0 ∨ j = 1 ∨ j = 2 ∨ j = 3 ∨ j = 4 := by omega
 rcases hj with rfl | rfl | rfl | rfl | rfl <;> exact ⟨by kernel_rfl, by decide +kernel, by decide +kernel⟩
theorem qE_in (x : Int) : (qE x).length ≤ 2 ∧ qE x ≠ [] ∧ ∀ n ∈ qE x, nameF n = true ∧ n.size ≤ 2 ∧ ∀ c ∈ n.data.toList, c.toNat < 128 := by
 have hv := placeF_in x 1048576 (by decide)
 have h5 := tm_w (n := 5) hv.1 (by decide)
 have hd := td_w (n := 15) hv.1 (by decide) hv.2
 have h15 := tm_w (n := 5) hd.1 (by decide)
 unfold qE
 split
 refine ⟨Nat.le_refl _, by simp, fun n hn => ?_⟩
 rcases List.mem_cons.1 hn with rfl | hn
 exact nmE_ok h5
 rw [List.mem_singleton.1 hn]; exact nmE_ok h15
 refine ⟨by simp, by simp, fun n hn => ?_⟩
 rw [List.mem_singleton.1 hn]; exact nmE_ok h5
theorem mask_ok (l : List Int) (h : l.length ≤ 60) : checkF (l.map qE) = true := by
 unfold checkF
 rw [decide_eq_true (by rw [List.length_map]; omega), Bool.true_and, Bool.not_eq_true', List.any_eq_false]
 intro p hp
 obtain ⟨x, _, rfl⟩ := List.mem_map.1 hp
 obtain ⟨h1, h2, h3⟩ := qE_in x
 have h4 : (qE x).length ≠ 0 := fun e => h2 (List.eq_nil_of_length_eq_zero e)
 have h5 : ((qE x).any fun n => !nameF n) = false := by
  rw [List.any_eq_false]
  intro n hn
  rw [(h3 n hn).1]; decide
 unfold badPath
 rw [h5, decide_eq_false (by omega), show (((qE x).length : Int) == 0) = false from beq_eq_false_iff_ne.2 (by omega)]; decide
theorem len_sub : ∀ {l m : List ByteArray}, l.Nodup → (∀ x ∈ l, x ∈ m) → l.length ≤ m.length
 | [], _, _, _ => Nat.zero_le _
 | x :: l, m, hn, hs => by
  rw [List.nodup_cons] at hn
  have h1 : x ∈ m := hs x (List.mem_cons_self ..)
  have h2 : (m.filter (fun y => !eqT y x)).length < m.length := by
   rcases Nat.lt_or_ge (m.filter (fun y => !eqT y x)).length m.length with h | h
   ·exact h
   ·have h3 := List.length_filter_eq_length_iff.1 (Nat.le_antisymm (List.length_filter_le _ _) h) x h1
    rw [eqT_self] at h3; cases h3
  have h3 := len_sub (l := l) (m := m.filter (fun y => !eqT y x)) hn.2 (fun y hy => by
   refine List.mem_filter.2 ⟨hs y (List.mem_cons_of_mem _ hy), ?_⟩
   rw [eqT_ne.2 (show y ≠ x from fun e => by subst e; exact hn.1 hy)]; rfl)
  rw [List.length_cons]; omega
theorem mergeR_kind {n : Nat} {t v : Tree} (h : v.kind ≠ 1) : (mergeR n t v).kind ≠ 1 := by
 cases n with
 | zero => exact h
 | succ n =>
  rw [mergeR]
  split
  have : ∀ (L : Mem) (u : Tree), u.kind = 7 → (L.foldl (stepM (mergeR n)) u).kind = 7 := by
   intro L
   induction L with
   | nil => exact fun u h => h
   | cons q L ih =>
    intro u hu
    refine ih _ ?_
    unfold stepM
    split
    unfold unsetT
    split
    rfl
    exact hu
    rfl
  have hk : (obT t).kind = 7 := by
   unfold obT
   split
   rename_i h7; exact h7
   rfl
  rw [this _ _ hk]; decide
  exact h
theorem ob_own {d : Nat} {a : Tree} (ha : AllObj d a ∨ a.kind ≠ 7) : ownO (obT a) = true ∧ ObjT (obT a) := by
 unfold obT
 split
 rename_i hk
 rcases ha with ha | ha
 cases d with
 | zero => exact absurd hk ha
 | succ d => exact ⟨(ha hk).1, (ha hk).2.1⟩
 exact absurd hk ha
 exact ⟨by kernel_rfl, objT_M List.Pairwise.nil⟩
theorem ob_mem {d : Nat} {a : Tree} (ha : AllObj (d + 1) a ∨ a.kind ≠ 7) (x : ByteArray) : AllObj d (memV (obT a) x) ∨ (memV (obT a) x).kind ≠ 7 := by
 cases hq : memB (obT a) x with
 | true =>
  have h1 := mem_cutV hq
  unfold obT at h1 ⊢
  split at h1
  rename_i hk
  rw [if_pos hk]
  rcases ha with ha | ha
  exact .inl ((ha hk).2.2 _ h1)
  exact absurd hk ha
  simp [objM, Tree.v] at h1
 | false => right; rw [memV_zero hq]; decide
theorem allObj_mono : ∀ {d e : Nat} {t : Tree}, d ≤ e → AllObj d t → AllObj e t
 | 0, 0, _, _, h => h
 | 0, e + 1, t, _, h => fun h7 => absurd h7 h
 | d + 1, 0, _, hd, _ => absurd hd (Nat.not_succ_le_zero d)
 | d + 1, e + 1, t, hd, h => fun h7 => ⟨(h h7).1, (h h7).2.1, fun u hu => allObj_mono (Nat.le_of_succ_le_succ hd) ((h h7).2.2 u hu)⟩
theorem merge_can : ∀ (m n : Nat) {a p : Tree}, (AllObj m a ∨ a.kind ≠ 7) → AllObj m p → depth (mergeR m a p) ≤ n → (mergedO n a (mergeR m a p)).isSome = true
 | _, 0, a, p, _, _, hd => by
  have := depth_eq (mergeR ‹Nat› a p); omega
 | 0, n + 1, a, p, _, hp, _ => by
  show (mergedO (n + 1) a p).isSome = true
  rw [mergedO, if_neg hp]; rfl
 | m + 1, n + 1, a, p, ha, hp, hd => by
  by_cases h7 : p.kind = 7
  ·obtain ⟨op, jp, cp⟩ := hp h7
   obtain ⟨oo, jo⟩ := ob_own ha
   have he : mergeR (m + 1) a p = (mems p).foldl (stepM (mergeR m)) (obT a) := by rw [mergeR, if_pos h7]
   have jb := objT_fold (f := mergeR m) (mems p) jo
   rw [he] at hd ⊢
   generalize hb : (mems p).foldl (stepM (mergeR m)) (obT a) = b at *
   have hlk : ∀ x, lookA x (mems b) = match lookA x (mems p) with
    | none => lookA x (mems (obT a))
    | some v => if v.kind = 1 then none else some (mergeR m (if memB (obT a) x = true then memV (obT a) x else nul) v) := fun x => by
    rw [← hb]; exact fold_look (mems p) (objT_nd jp) jo
   rw [mergedO, if_pos jb.kind, Option.isSome_map]
   cases hg : goM (mergedO n) (obT a) b (diffN (obT a) b) with
   | some L => rfl
   | none =>
    exfalso
    obtain ⟨x, hx, hst⟩ := goM_none.1 hg
    have hal := (List.mem_filter.1 hx).2
    cases hm : memB b x with
    | false => rw [hm] at hst; simp at hst
    | true =>
     rw [if_pos hm] at hst
     have hl := hlk x
     have hmb := hm
     rw [memB_look] at hmb
     obtain ⟨w, hw⟩ := Option.isSome_iff_exists.1 hmb
     have ew : memV b x = w := by rw [memV_look, hw]; rfl
     cases hq : lookA x (mems p) with
     | none =>
      rw [hq] at hl
      have hs := memV_same hl
      have : alike (obT a) b x = true := by unfold alike; rw [hs.1, hs.2, sameT_self]; simp
      rw [this] at hal; cases hal
     | some v =>
      rw [hq] at hl
      dsimp only at hl
      split at hl
      ·rw [hw] at hl; cases hl
      ·rename_i hk1
       rw [hw] at hl
       have e2 := Option.some.inj hl
       rw [ew] at hst
       have hwk : w.kind ≠ 1 := by rw [e2]; exact mergeR_kind hk1
       rw [if_neg hwk] at hst
       have hdw : depth w ≤ n := by
        have h1 := depth_mem (mem_cutV hm)
        have h2 := depth_eq b
        rw [ew] at h1; omega
       have hvp : AllObj m v := cp v (by
        have := look_mem hq
        have h2 : (x, v).2 ∈ cutV p := by rw [← mems_v]; exact List.mem_map.2 ⟨_, this, rfl⟩
        exact cutV_sub h2)
       have key : mergeR m (if memB (obT a) x = true then memV (obT a) x else nul) v = mergeR m (memV (obT a) x) v := by
        cases hq2 : memB (obT a) x with
        | true => rw [if_pos rfl]
        | false => rw [if_neg (by decide), memV_zero hq2]; exact mergeR_ob rfl
       rw [key] at e2
       have ih := merge_can m n (ob_mem ha x) hvp (by rw [← e2]; exact hdw)
       rw [← e2, hst] at ih; cases ih
  ·have he : mergeR (m + 1) a p = p := by rw [mergeR, if_neg h7]
   rw [he, mergedO, if_neg h7]; rfl
theorem step_can {f : Tree → Tree → Tree} {u : Tree} {q : ByteArray × Tree} (h : objM (mems u) = u) : objM (mems (stepM f u q)) = stepM f u q := by
 unfold stepM
 split
 unfold unsetT
 split
 rw [mems_objM]
 exact h
 unfold setT
 rw [mems_objM]
theorem fold_can {f : Tree → Tree → Tree} : ∀ (L : Mem) {u : Tree}, objM (mems u) = u → objM (mems (L.foldl (stepM f) u)) = L.foldl (stepM f) u
 | [], _, h => h
 | q :: L, _, h => fold_can L (step_can h)
theorem mergeR_good : ∀ (d n : Nat) {t p : Tree}, (GoodN 3 d t ∨ t.kind ≠ 7) → GoodN 3 d p → GoodN 6 d (mergeR n t p)
 | 0, _, _, _, _, hp => hp.elim
 | d + 1, 0, t, p, _, hp => goodN_mono (by decide) (Nat.le_refl _) hp
 | d + 1, n + 1, t, p, ht, hp => by
  by_cases h7 : p.kind = 7
  ·have jp := good_objT hp h7
   have hto : (GoodN 3 (d + 1) (obT t) ∨ obT t = objM []) ∧ ownO (obT t) = true ∧ ObjT (obT t) := by
    unfold obT
    split
    ·rename_i hk
     rcases ht with ht | ht
     ·exact ⟨.inl ht, ht.1.own, good_objT ht hk⟩
     ·exact absurd hk ht
    ·exact ⟨.inr rfl, by kernel_rfl, objT_M List.Pairwise.nil⟩
   obtain ⟨hg, ho, jo⟩ := hto
   have mo : (mems (obT t)).length ≤ 3 ∧ ∀ q ∈ mems (obT t), textOk q.1 = true ∧ GoodN 3 d q.2 := by
    rcases hg with hg | hg
    ·exact ⟨(goodN_mem hg).1, (goodN_mem hg).2.2⟩
    ·rw [hg, mems_objM]; exact ⟨Nat.zero_le _, fun q hq => by simp at hq⟩
   have mp := goodN_mem hp
   rw [mergeR, if_pos h7]
   have jb := objT_fold (f := mergeR n) (mems p) jo
   have hc := fold_can (f := mergeR n) (mems p) (own_can ho jo.kind)
   have hlk := fun x => fold_look (f := mergeR n) (y := x) (mems p) (objT_nd jp) jo
   generalize (mems p).foldl (stepM (mergeR n)) (obT t) = b at *
   rw [← hc]
   have hin : ∀ q ∈ mems b, textOk q.1 = true ∧ GoodN 6 d q.2 ∧ q.1 ∈ (mems (obT t)).map (·.1) ++ (mems p).map (·.1) := fun q hq => by
    obtain ⟨j, hj, rfl⟩ := List.mem_iff_getElem.1 hq
    have h1 := look_at hj (objT_nd jb)
    have h2 := hlk (mems b)[j].1
    rw [h1] at h2
    cases hq : lookA (mems b)[j].1 (mems p) with
    | none =>
     rw [hq] at h2
     have h3 := look_mem h2.symm
     have h4 := mo.2 _ h3
     exact ⟨h4.1, goodN_mono (by decide) (Nat.le_refl _) h4.2, List.mem_append.2 (.inl (List.mem_map.2 ⟨_, h3, rfl⟩))⟩
    | some v =>
     rw [hq] at h2
     have h3 := look_mem hq
     have h4 := mp.2.2 _ h3
     dsimp only at h2
     split at h2
     ·cases h2
     ·rw [Option.some.inj h2]
      refine ⟨h4.1, ?_, List.mem_append.2 (.inr (List.mem_map.2 ⟨_, h3, rfl⟩))⟩
      refine mergeR_good d n ?_ h4.2
      split
      ·rename_i hm
       left
       rw [memB_look] at hm
       obtain ⟨w, hw⟩ := Option.isSome_iff_exists.1 hm
       rw [memV_look, hw]
       exact (mo.2 _ (look_mem hw)).2
      ·right; decide
   refine obj_goodN (by decide) ?_ jb.sorted (fun q hq => ⟨(hin q hq).1, (hin q hq).2.1⟩)
   have h5 := len_sub (nodup_sorted jb.sorted) (m := (mems (obT t)).map (·.1) ++ (mems p).map (·.1)) (fun x hx => by
    obtain ⟨q, hq, rfl⟩ := List.mem_map.1 hx
    exact (hin q hq).2.2)
   rw [List.length_append, List.length_map, List.length_map, List.length_map] at h5
   have := mo.1
   have := mp.1
   omega
  ·rw [mergeR, if_neg h7]
   exact goodN_mono (by decide) (Nat.le_refl _) hp
theorem ob_get1 (a : Tree) (x : ByteArray) : memB (obT a) x = memB a x ∧ memV (obT a) x = memV a x := by
 unfold obT
 split
 exact ⟨rfl, rfl⟩
 rename_i hk
 have h1 : memB a x = false := by
  cases h : memB a x with
  | false => rfl
  | true => exact absurd (mem_kind h) hk
 have h2 : memB (objM []) x = false := by rw [memB_look, mems_objM]; rfl
 rw [h1, h2, memV_zero h1, memV_zero h2]; exact ⟨rfl, rfl⟩
theorem get_one (t : Tree) (x : ByteArray) : getF [x] t = (memV t x, memB t x) := by
 rw [getF_cons]
 cases h : memB t x with
 | true => rfl
 | false => rw [if_neg (by decide), memV_zero h]
theorem kind_step {v t : Tree} {p : List ByteArray} (hp : p ≠ []) (h : t.kind = 7) : (apStep v t p).kind = 7 := by
 unfold apStep
 split
 ·cases p with
  | nil => exact absurd rfl hp
  | cons x p => rfl
 ·match p with
  | [] => exact absurd rfl hp
  | [x] =>
   show (unsetT t x).kind = 7
   unfold unsetT
   split
   ·rfl
   ·exact h
  | x :: y :: p =>
   rw [unsetP]
   split
   ·rfl
   ·exact h
theorem kind_all {v : Tree} : ∀ (s : List (List ByteArray)) {t : Tree}, (∀ p ∈ s, p ≠ []) → t.kind = 7 → (apAll t s v).kind = 7
 | [], _, _, h => h
 | p :: s, t, hp, h => kind_all s (fun q hq => hp q (List.mem_cons_of_mem _ hq)) (kind_step (hp p (List.mem_cons_self ..)) h)
theorem unset_leaf {t : Tree} (h : t.kind ≠ 7) {p : List ByteArray} : unsetP p t = t := by
 have hb : ∀ x, memB t x = false := fun x => by
  cases hm : memB t x with
  | false => rfl
  | true => exact absurd (mem_kind hm) h
 match p with
 | [] => rfl
 | [x] =>
  show unsetT t x = t
  unfold unsetT
  rw [if_neg (by rw [hb x]; decide)]
 | x :: y :: p => rw [unsetP, if_neg (by rw [hb x]; decide)]
theorem none_all {v t : Tree} (h : t.kind ≠ 7) : ∀ (s : List (List ByteArray)), (∀ p ∈ s, (getF p v).2 = false) → apAll t s v = t
 | [], _ => rfl
 | p :: s, hs => by
  have h1 : apStep v t p = t := by
   unfold apStep
   rw [if_neg (by rw [hs p (List.mem_cons_self ..)]; decide)]
   exact unset_leaf h
  show apAll (apStep v t p) s v = t
  rw [h1]
  exact none_all h s (fun q hq => hs q (List.mem_cons_of_mem _ hq))
def headP (p : List ByteArray) : ByteArray := p.getD 0 (dflt .str)
theorem head_inc {p : List ByteArray} {x : ByteArray} (hp : p ≠ []) (h : headP p ≠ x) : Inc p [x] := by
 refine inc_of ?_ ?_
 cases hs : startsF p [x] with
 | false => rfl
 | true =>
  cases p with
  | nil => exact absurd rfl hp
  | cons y p => exact absurd (starts_cons.1 hs).1 h
 cases hs : startsF [x] p with
 | false => rfl
 | true =>
  cases p with
  | nil => exact absurd rfl hp
  | cons y p => exact absurd (starts_cons.1 hs).1.symm h
theorem mask_can {a v : Tree} {l : List (List ByteArray)} (ha : validT a = true) (hv : validT v = true) (hc : checkF l = true) : (maskG a (apAll a (normF l) v)).2 = true := by
 have hp : ∀ p ∈ normF l, p ≠ [] := fun p h e => by have := (check_paths hc).2 p (normF_mem h); rw [e] at this; simp at this
 generalize hb : apAll a (normF l) v = b
 unfold maskG
 split
 ·rfl
 ·rename_i hs
  have hget : ∀ p ∈ normF l, getF p b = getF p v := fun p h => by rw [← hb]; exact all_get (nd_valid hv) _ _ (nd_valid ha) (normF_inc l) hp p h
  have hkind : ¬ (b.kind ≠ 7 ∨ (a.kind ≠ 7 ∧ b.k.length = 0)) := by
   by_cases h7 : a.kind = 7
   ·have := kind_all (v := v) (normF l) hp h7
    rw [hb] at this
    rintro (h | h)
    ·exact h this
    ·exact h.1 h7
   ·by_cases hex : ∃ p ∈ normF l, (getF p v).2 = true
    ·obtain ⟨p, h1, h2⟩ := hex
     have h3 := hget p h1
     cases p with
     | nil => exact absurd rfl (hp _ h1)
     | cons x p =>
      rw [← h3, getF_cons] at h2
      cases hm : memB b x with
      | false => rw [hm] at h2; simp at h2
      | true =>
       have hk := mem_kind hm
       rintro (h | h)
       ·exact h hk
       ·have h4 := memB_iff.1 hm
        unfold cutK at h4
        rw [if_pos hk, List.eq_nil_of_length_eq_zero h.2] at h4
        simp at h4
    ·exfalso
     refine hs ?_
     have : apAll a (normF l) v = a := none_all h7 _ (fun p h => by
      cases hg : (getF p v).2 with
      | false => rfl
      | true => exact absurd ⟨p, h, hg⟩ hex)
     rw [← hb, this]; exact sameT_self a
  rw [if_neg hkind]
  have hhead : ∀ x ∈ diffN (obT a) b, ∃ p ∈ normF l, headP p = x := fun x hx => by
   by_cases hex : ∃ p ∈ normF l, headP p = x
   ·exact hex
   ·exfalso
    have h1 := all_inc (q := [x]) (v := v) (normF l) a (fun p h => head_inc (hp p h) (fun e => hex ⟨p, h, e⟩))
    rw [hb, get_one, get_one] at h1
    have h2 := Prod.mk.inj h1
    have h3 := (List.mem_filter.1 hx).2
    have h4 := ob_get1 a x
    have : alike (obT a) b x = true := by unfold alike; rw [h4.1, h4.2, h2.1, h2.2, sameT_self]; simp
    rw [this] at h3; cases h3
  have hcl := hc
  unfold checkF at hcl
  rw [Bool.and_eq_true, decide_eq_true_eq, Bool.not_eq_true', List.any_eq_false] at hcl
  have hname : ∀ x ∈ diffN (obT a) b, nameF x = true := fun x hx => by
   obtain ⟨p, h1, rfl⟩ := hhead x hx
   have h2 := hcl.2 p (normF_mem h1)
   unfold badPath at h2
   simp only [Bool.or_eq_true, not_or, Bool.not_eq_true] at h2
   have h3 := List.any_eq_false.1 h2.2.2
   cases p with
   | nil => exact absurd rfl (hp _ h1)
   | cons y p =>
    have h4 := h3 y (List.mem_cons_self ..)
    show nameF y = true
    simpa using h4
  have hlen : (diffN (obT a) b).length ≤ 60 := by
   have h1 := len_sub (nodup_sorted ((namesU_sorted (obT a) b).filter (fun x => !alike (obT a) b x))) (m := l.map headP) (fun x hx => by
    obtain ⟨p, h2, rfl⟩ := hhead x hx
    exact List.mem_map.2 ⟨p, normF_mem h2, rfl⟩)
   rw [List.length_map] at h1
   show ((namesU (obT a) b).filter _).length ≤ 60
   omega
  show checkF (maskD (obT a) b) = true
  unfold checkF maskD
  rw [decide_eq_true (by rw [List.length_map]; omega), Bool.true_and, Bool.not_eq_true', List.any_eq_false]
  intro q hq
  obtain ⟨x, hx, rfl⟩ := List.mem_map.1 hq
  unfold badPath
  rw [List.any_cons, List.any_nil, hname x hx]
  simp
theorem same_can (n : Nat) {a : Tree} (hn : 0 < n) : (mergedO n a a).isSome = true ∧ (maskG a a).2 = true := by
 refine ⟨?_, by unfold maskG; rw [if_pos (sameT_self a)]⟩
 cases n with
 | zero => omega
 | succ n =>
  rw [mergedO]
  split
  rename_i h7
  have hd : diffN (obT a) a = [] := by
   unfold diffN
   rw [List.filter_eq_nil_iff]
   intro x _
   have h := ob_get1 a x
   unfold alike
   rw [h.1, h.2, sameT_self]; simp
  rw [hd]; rfl
  rfl
theorem own_sz {t : Tree} (h : ownO t = true) : t.s.size < 4294967281 := by
 unfold ownO at h
 simp only [Bool.and_eq_true] at h
 have hk := h.2.2.2.1
 unfold textO at hk
 split at hk
 unfold textOk at hk
 rw [Bool.and_eq_true, decide_eq_true_eq] at hk
 have := hk.1; omega
 split at hk
 have := of_decide_eq_true hk; omega
 have e : t.s = ba [] := eqT_iff.1 (by unfold eqT; exact hk)
 rw [e]; decide
theorem good_fineS {n : Nat} : ∀ {d : Nat} {t : Tree}, GoodN n d t → fineS t
 | 0, _, h => h.elim
 | d + 1, t, h => by
  have h3 := h.2.2
  have ho := h.1.own
  have hl : ∀ l : List Tree, (∀ u ∈ l, fineS u) → fineSL l := by
   intro l
   induction l with
   | nil => intro _; trivial
   | cons x l ih => exact fun h => ⟨h x (by simp), ih (fun u hu => h u (by simp [hu]))⟩
  exact (fineS_eq t).2 ⟨⟨own_sz ho, own_small ho⟩, hl _ (fun u hu => good_fineS (h3 u hu))⟩
theorem mdA_fineS (L : List Int) : fineS (mdA L) := good_fineS (mdA_good L)
theorem mdA_nodes (L : List Int) : nodes (mdA L) ≤ 40 := good_nodes (good_made 3 _)
def edP (lang : Int) (k : List Int) : Pat := if placeF lang 2 = 0 then ⟨2, [], mdA k, []⟩ else ⟨3, [], mdA k, maskE k⟩
theorem edP_2 {lang : Int} (k : List Int) (h : placeF lang 2 = 0) : edP lang k = ⟨2, [], mdA k, []⟩ := if_pos h
theorem edP_3 {lang : Int} (k : List Int) (h : placeF lang 2 ≠ 0) : edP lang k = ⟨3, [], mdA k, maskE k⟩ := if_neg h
def mg16 (t p : Tree) : Tree × Int := if fitF (mergeR 5 t p) 1000000 = true then (mergeR 5 t p, 0) else (Tree.zero, 4)
def apP (l k : List Int) (lang : Int) : Tree × Int := if placeF lang 2 = 0 then mg16 (mdA l) (mdA k) else applyF (mdA l) (maskE k) (normF (maskE k)) (mdA k) 1000000
theorem maskE_ok (k : List Int) : checkF (maskE k) = true := mask_ok _ (by rw [List.length_take]; omega)
theorem maskE_len (k : List Int) : (maskE k).length ≤ 5 := by unfold maskE; rw [List.length_map, List.length_take]; omega
theorem qs_small (l : List Int) : ∀ p ∈ l.map qE, (∀ x ∈ p, x.size < 4294967281) ∧ p.length < 4294967296 := fun p hp => by
 obtain ⟨x, _, rfl⟩ := List.mem_map.1 hp
 have h := qE_in x
 exact ⟨fun n hn => by have := (h.2.2 n hn).2.1; omega, by omega⟩
theorem nmE_text {j : Int} (h : 0 ≤ j ∧ j < 5) : textOk (nmE j) = true := by
 have hj : j = 0 ∨ j = 1 ∨ j = 2 ∨ j = 3 ∨ j = 4 := by omega
 rcases hj with rfl | rfl | rfl | rfl | rfl <;> exact (show textOk _ = true by kernel_rfl)
theorem qE_text (x : Int) : ∀ n ∈ qE x, textOk n = true := by
 have hv := placeF_in x 1048576 (by decide)
 have h5 := tm_w (n := 5) hv.1 (by decide)
 have hd := td_w (n := 15) hv.1 (by decide) hv.2
 have h15 := tm_w (n := 5) hd.1 (by decide)
 intro n hn
 unfold qE at hn
 split at hn
 rcases List.mem_cons.1 hn with rfl | hn
 exact nmE_text h5
 rw [List.mem_singleton.1 hn]; exact nmE_text h15
 rw [List.mem_singleton.1 hn]; exact nmE_text h5
structure CanF (a b : Tree) (g : Int) : Prop where
 depth : depth b ≤ 6
 fine : fineT b
 c1 : canF 6 a b g = true
 c2 : canF 6 a b 1 = true
theorem canF_2 (l k : List Int) : CanF (mdA l) (mergeR 5 (mdA l) (mdA k)) 2 := by
 have hg := mergeR_good 4 5 (.inl (mdA_good l)) (mdA_good k)
 have hn : nodes (mergeR 5 (mdA l) (mdA k)) ≤ 120 := by
  have h1 := (mergeR_ok 5).nodes (mdA l) (mdA k)
  have h2 := mdA_nodes l
  have h3 := mdA_nodes k
  omega
 have hd := depth_goodN hg
 have hm := merge_can 5 6 (a := mdA l) (p := mdA k) (.inl (allObj_mono (by decide) (good_all (mdA_good l)))) (allObj_mono (by decide) (good_all (mdA_good k))) (by omega)
 generalize mergeR 5 (mdA l) (mdA k) = b at *
 have hv : validT b = true := (chk_goodN hg (by decide) (by omega)).1
 refine ⟨by omega, goodN_fine (by decide) hg, ?_, ?_⟩
 rw [can_is, mdA_valid, hv, hm]; rfl
 unfold canF; rw [mdA_valid, hv]; rfl
theorem canF_3 (l k : List Int) : CanF (mdA l) (apAll (mdA l) (normF (maskE k)) (mdA k)) 3 := by
 have hle := Nat.le_trans (normF_len (maskE k)) (maskE_len k)
 have hq : ∀ p ∈ normF (maskE k), ∃ x, p = qE x := fun p hp => by
  obtain ⟨x, _, hx⟩ := List.mem_map.1 (normF_mem hp)
  exact ⟨x, hx.symm⟩
 have hg := allN (D := 5) (E := 4) (normF (maskE k)) (n := 3) (t := mdA l) (v := mdA k) (by omega) (mdA_good k) (goodN_mono (Nat.le_refl _) (by decide) (mdA_good l)) (fun p hp => by
  obtain ⟨x, rfl⟩ := hq p hp
  have h := qE_in x
  exact ⟨qE_text x, h.2.1, by omega⟩)
 have hn : nodes (apAll (mdA l) (normF (maskE k)) (mdA k)) ≤ 255 := by
  have h := all_more measNodes (mdA k) (normF (maskE k)) (mdA l) (fun p hp => by
   obtain ⟨x, rfl⟩ := hq p hp
   have h := qE_in x
   omega)
  have h2 := mdA_nodes l
  have h3 := mdA_nodes k
  have h4 : (normF (maskE k)).length * (nodes (mdA k) + 3) ≤ 5 * (40 + 3) := Nat.mul_le_mul hle (by omega)
  omega
 have hd := depth_goodN hg
 have hm := mask_can (mdA_valid l) (mdA_valid k) (maskE_ok k)
 generalize apAll (mdA l) (normF (maskE k)) (mdA k) = b at *
 have hv : validT b = true := (chk_goodN hg (by decide) (by omega)).1
 refine ⟨by omega, goodN_fine (by omega) hg, ?_, ?_⟩
 ·unfold canF; rw [mdA_valid, hv]
  simp only [Bool.true_and]
  rw [if_neg (by decide), if_pos trivial, hm]
 ·unfold canF; rw [mdA_valid, hv]; rfl
theorem apP_can {l k : List Int} {lang : Int} (h : (apP l k lang).2 = 0) : CanF (mdA l) (apP l k lang).1 (edP lang k).lang := by
 by_cases h2 : placeF lang 2 = 0
 rw [edP_2 k h2]
 unfold apP at h ⊢
 rw [if_pos h2] at h ⊢
 unfold mg16 at h ⊢
 split at h
 rename_i hf
 rw [if_pos hf]; exact canF_2 l k
 exact absurd h (by decide)
 rw [edP_3 k h2]
 unfold apP at h ⊢
 rw [if_neg h2] at h ⊢
 cases hf : fitF (apAll (mdA l) (normF (maskE k)) (mdA k)) 1000000 with
 | true =>
  rw [apply_fit (mdA_valid l) (mdA_valid k) (maskE_ok k) hf]; exact canF_3 l k
 | false =>
  rw [apply_big (mdA_valid l) (mdA_valid k) (maskE_ok k) hf] at h
  exact absurd h (by decide)
theorem self_can (l : List Int) : canF 6 (mdA l) (mdA l) 2 = true ∧ canF 6 (mdA l) (mdA l) 3 = true := by
 have h := same_can 6 (a := mdA l) (by decide)
 refine ⟨?_, ?_⟩
 rw [can_is, mdA_valid, h.1]; rfl
 unfold canF; rw [mdA_valid]
 simp only [Bool.true_and]
 rw [if_neg (by decide), if_pos trivial, h.2]
theorem con44A (k : List Int) : Con Tryz.prog I0 39 [.agg (encTree (mdA k))] (.val (vb true)) := by
 have h := con44 (mdA k) (mdA_fine k) (mdA_fineS k)
 rw [mdA_valid] at h; exact h
theorem con40Q (L : List Int) (h : L.length ≤ 5) : Con Tryz.prog I0 92 [.row .strs (L.map qE)] (.val (vb true)) := by
 have h1 := con40 (L.map qE) (fun p hp => (qs_small L p hp).1) (by rw [List.length_map]; omega) (fun p hp => (qs_small L p hp).2)
 rw [mask_ok L (by omega)] at h1; exact h1
theorem con17_1 : Con Tryz.prog I0 18 [vi 1, vi 3] (.val (vi 1)) := con17 1 3 (by decide) (by decide)
theorem con17_2 : Con Tryz.prog I0 18 [vi 2, vi 3] (.val (vi 2)) := con17 2 3 (by decide) (by decide)
theorem conMdK (k : List Int) : Con Tryz.prog I0 21 [.row (.int .i64) k, vi 3] (.val (.agg (encTree (mdA k)))) := conMade3 k
theorem qE_yes {l : List Int} {i : Nat} (h : i < l.length) (hb : ((((vW l i).tdiv 5).tmod 3) == 0) = true) : (l.take i).map qE ++ [[nmE ((vW l i).tmod 5), nmE (((vW l i).tdiv 15).tmod 5)]] = (l.take (i + 1)).map qE := by
 rw [← take_map_succ (f := qE) h (dflt (.int .i64)), show qE (l.getD i (dflt (.int .i64))) = [nmE ((vW l i).tmod 5), nmE (((vW l i).tdiv 15).tmod 5)] from if_pos hb]
theorem qE_no {l : List Int} {i : Nat} (h : i < l.length) (hb : ((((vW l i).tdiv 5).tmod 3) == 0) = false) : (l.take i).map qE ++ [[nmE ((vW l i).tmod 5)]] = (l.take (i + 1)).map qE := by
 rw [← take_map_succ (f := qE) h (dflt (.int .i64)), show qE (l.getD i (dflt (.int .i64))) = [nmE ((vW l i).tmod 5)] from if_neg (by rw [hb]; decide)]
theorem take_end {l : List Int} {i : Nat} (hi : i ≤ l.length) (h5 : i ≤ 5) (h : ¬ (i < l.length ∧ i < 5)) : l.take i = l.take 5 := by
 by_cases h1 : i = 5
 rw [h1]
 rw [List.take_of_length_le (by omega), List.take_of_length_le (by omega)]
theorem mg_nodes (l k : List Int) : nodes (mdA l) + 2 * nodes (mdA k) < 100000000 := by
 have h1 := mdA_nodes l
 have h2 := mdA_nodes k
 omega
theorem mg_nodes2 (l k : List Int) : nodes (mergeR 5 (mdA l) (mdA k)) < 4611686018427387904 := by
 have h := (mergeR_ok 5).nodes (mdA l) (mdA k)
 have h1 := mg_nodes l k
 omega
theorem mg_weight (l k : List Int) : weight (mergeR 5 (mdA l) (mdA k)) < 4611686018427387904 := by
 have hc := canF_2 l k
 have h : validT (mergeR 5 (mdA l) (mdA k)) = true := by
  have h2 := hc.c2
  unfold canF at h2
  simp only [Bool.and_eq_true] at h2
  exact h2.2.1
 exact Nat.lt_of_le_of_lt (valid_weight h) (by decide)
theorem conCk2 (k : List Int) : Con Tryz.prog I0 48 [.agg [vi 2, .row .opn ([]), vi ((mdA k).kind), vb ((mdA k).b), vb ((mdA k).n.neg), .row (.int .u32) ((mdA k).n.m), vi ((mdA k).n.e), vs ((mdA k).s), .row .str ((mdA k).k), .row .tree ((mdA k).v), .row .strs ([])]] (.val (vb true)) := by
 refine con_of Tryz.func48 rfl (Nat.le_of_ble_eq_true rfl) stab (fun w0 fz a hI hs => ?_)
 refine wL hs hI [(5, rg [(7, ciV 39 [aTr ((mdA k))] (vb true))] [5, 6, 7, 1008, 10, 11, 12, 13, 1014] [])] (bz 2 2) 1296666617777774377187907989898 [q0 false, q0 true, q0 true, q0 true, q0 true, q0 true, q0 true, q0 true, q0 true, q0 true, q0 true] .ret [(2, vb true)] [] ⟨con44A _, tv⟩ fun a w hs => ?_
 exact rK (.val (vb true)) [] hs rfl
theorem conCk3 (k L : List Int) (hL : L.length ≤ 5) : Con Tryz.prog I0 48 [.agg [vi 3, .row .opn ([]), vi ((mdA k).kind), vb ((mdA k).b), vb ((mdA k).n.neg), .row (.int .u32) ((mdA k).n.m), vi ((mdA k).n.e), vs ((mdA k).s), .row .str ((mdA k).k), .row .tree ((mdA k).v), .row .strs (L.map qE)]] (.val (vb true)) := by
 refine con_of Tryz.func48 rfl (Nat.le_of_ble_eq_true rfl) stab (fun w0 fz a hI hs => ?_)
 refine wL hs hI [(7, rg [(7, ciV 39 [aTr ((mdA k))] (vb true)), (12, ciV 92 [.row .strs (L.map qE)] (vb true))] [5, 6, 7, 1008, 10, 11, 12, 1013] [])] (bz 3 4) 126666617437774377187907907989898 [q0 false, q0 false, q0 true, q0 true, q0 true, q0 true, q0 true, q0 true, q0 true, q0 true, q0 true] .ret [(2, vb true)] [] ⟨con44A _, con40Q _ hL, tv⟩ fun a w hs => ?_
 exact rK (.val (vb true)) [] hs rfl
theorem conEd2 (l k : List Int) : Con Tryz.prog I0 22 [.agg (encTree (mdA l)), vi 1, .row (.int .i64) k] (.val (.agg [vi 2, .row .opn ([]), vi ((mdA k).kind), vb ((mdA k).b), vb ((mdA k).n.neg), .row (.int .u32) ((mdA k).n.m), vi ((mdA k).n.e), vs ((mdA k).s), .row .str ((mdA k).k), .row .tree ((mdA k).v), .row .strs ([])])) := by
 refine con_of Tryz.func22 rfl (Nat.le_of_ble_eq_true rfl) stab (fun w0 fz a hI hs => ?_)
 refine wNs hs hI [] 8 [] [(1, vi 1), (2, .row (.int .i64) k), (3, .ptr 1000 0), (6, .ptr 1001 0)] [(1000, bTr ((mdA l))), (1001, .var [vi 0, nilv, vi 0, vb false, vb false, nilv, vi 0, vs (ba []), nilv, nilv, nilv])] fun a w hs => ?_
 refine wLs hs hI [(1, rc [(1, ciV 18 [vi 1, vi 3] (vi 1))])] [] 8741 [q3 2] [(2, .row (.int .i64) k), (3, .ptr 1000 0), (6, .ptr 1001 0), (7, .ptr 2004 0)] [(1000, bTr ((mdA l))), (1001, .var [vi 0, nilv, vi 0, vb false, vb false, nilv, vi 0, vs (ba []), nilv, nilv, nilv]), (2004, .var [vi 2, nilv, vi 0, vb false, vb false, nilv, vi 0, vs (ba []), nilv, nilv, nilv])] ⟨con17_1, tv⟩ fun a w hs => ?_
 refine wp_seq ?_
 refine wNs hs hI [] 8 [] [(2, .row (.int .i64) k), (3, .ptr 1000 0), (6, .ptr 1001 0), (7, .ptr 2004 0), (17, vi 2)] [(1000, bTr ((mdA l))), (1001, .var [vi 0, nilv, vi 0, vb false, vb false, nilv, vi 0, vs (ba []), nilv, nilv, nilv]), (2004, .var [vi 2, nilv, vi 0, vb false, vb false, nilv, vi 0, vs (ba []), nilv, nilv, nilv])] fun a w hs => ?_
 refine wp_block ?_
 refine wNs hs hI [] 8 [] [(2, .row (.int .i64) k), (3, .ptr 1000 0), (6, .ptr 1001 0), (7, .ptr 2004 0), (17, vi 2), (60, vb false)] [(1000, bTr ((mdA l))), (1001, .var [vi 0, nilv, vi 0, vb false, vb false, nilv, vi 0, vs (ba []), nilv, nilv, nilv]), (2004, .var [vi 2, nilv, vi 0, vb false, vb false, nilv, vi 0, vs (ba []), nilv, nilv, nilv])] fun a w hs => ?_
 refine cond_L (c := 60) hs (b := false) rfl (fun hb => ?_) (fun hb => ?_)
 exact absurd ((show (false) = false by rfl).symm.trans hb) (by decide)
 have b2 := hb
 clear hb
 refine wNs hs hI [] 8 [] [(2, .row (.int .i64) k), (6, .ptr 1001 0), (7, .ptr 2004 0), (66, vb true)] [(1001, .var [vi 0, nilv, vi 0, vb false, vb false, nilv, vi 0, vs (ba []), nilv, nilv, nilv]), (2004, .var [vi 2, nilv, vi 0, vb false, vb false, nilv, vi 0, vs (ba []), nilv, nilv, nilv])] fun a w hs => ?_
 refine cond_L (c := 66) hs (b := true) rfl (fun hb => ?_) (fun hb => ?_)
 have b3 := hb
 clear hb
 refine wL hs hI [(16, rc [(1, ciV 21 [.row (.int .i64) k, vi 3] (aTr ((mdA k))))])] [] 841 [] .norm [(6, .ptr 1001 0), (7, .ptr 2004 0)] [(1001, .var [vi 0, nilv, vi 0, vb false, vb false, nilv, vi 0, vs (ba []), nilv, nilv, nilv]), (2004, .var (e8 [vi 2, nilv] ((mdA k)) [nilv]))] ⟨conMdK k, tv⟩ fun a w hs => ?_
 refine inb_norm ?_
 refine then_norm ?_
 refine wL hs hI [(17, rc [(1, ciV 48 [.agg (e8 [vi 2, .row .opn ([])] ((mdA k)) [.row .strs ([])])] (vb true))])] (bz 1 0) 1989729041 [q1 b2] .ret [(6, .ptr 1001 0)] [(1001, .var (e8 [vi 2, nilv] ((mdA k)) [nilv]))] ⟨conCk2 k, tv⟩ fun a w hs => ?_
 exact rK (.val (.agg (e8 [vi 2, .row .opn ([])] ((mdA k)) [.row .strs ([])]))) [] hs rfl
 exact absurd ((show (true) = true by rfl).symm.trans hb) (by decide)
theorem conEd3 (l k : List Int) : Con Tryz.prog I0 22 [.agg (encTree (mdA l)), vi 2, .row (.int .i64) k] (.val (.agg (encP ⟨3, [], mdA k, maskE k⟩))) := by
 refine con_of Tryz.func22 rfl (Nat.le_of_ble_eq_true rfl) stab (fun w0 fz a hI hs => ?_)
 refine wNs hs hI [] 8 [] [(1, vi 2), (2, .row (.int .i64) k), (3, .ptr 1000 0), (6, .ptr 1001 0)] [(1000, bTr ((mdA l))), (1001, .var [vi 0, nilv, vi 0, vb false, vb false, nilv, vi 0, vs (ba []), nilv, nilv, nilv])] fun a w hs => ?_
 refine wLs hs hI [(1, rc [(1, ciV 18 [vi 2, vi 3] (vi 2))])] [] 8741 [q3 3] [(2, .row (.int .i64) k), (3, .ptr 1000 0), (6, .ptr 1001 0), (7, .ptr 2004 0)] [(1000, bTr ((mdA l))), (1001, .var [vi 0, nilv, vi 0, vb false, vb false, nilv, vi 0, vs (ba []), nilv, nilv, nilv]), (2004, .var [vi 3, nilv, vi 0, vb false, vb false, nilv, vi 0, vs (ba []), nilv, nilv, nilv])] ⟨con17_2, tv⟩ fun a w hs => ?_
 refine wp_seq ?_
 refine wNs hs hI [] 8 [] [(2, .row (.int .i64) k), (3, .ptr 1000 0), (6, .ptr 1001 0), (7, .ptr 2004 0), (17, vi 3)] [(1000, bTr ((mdA l))), (1001, .var [vi 0, nilv, vi 0, vb false, vb false, nilv, vi 0, vs (ba []), nilv, nilv, nilv]), (2004, .var [vi 3, nilv, vi 0, vb false, vb false, nilv, vi 0, vs (ba []), nilv, nilv, nilv])] fun a w hs => ?_
 refine wp_block ?_
 refine wNs hs hI [] 8 [] [(2, .row (.int .i64) k), (3, .ptr 1000 0), (6, .ptr 1001 0), (7, .ptr 2004 0), (17, vi 3), (60, vb false)] [(1000, bTr ((mdA l))), (1001, .var [vi 0, nilv, vi 0, vb false, vb false, nilv, vi 0, vs (ba []), nilv, nilv, nilv]), (2004, .var [vi 3, nilv, vi 0, vb false, vb false, nilv, vi 0, vs (ba []), nilv, nilv, nilv])] fun a w hs => ?_
 refine cond_L (c := 60) hs (b := false) rfl (fun hb => ?_) (fun hb => ?_)
 exact absurd ((show (false) = false by rfl).symm.trans hb) (by decide)
 have b2 := hb
 clear hb
 refine wNs hs hI [] 8 [] [(2, .row (.int .i64) k), (6, .ptr 1001 0), (7, .ptr 2004 0), (66, vb false)] [(1001, .var [vi 0, nilv, vi 0, vb false, vb false, nilv, vi 0, vs (ba []), nilv, nilv, nilv]), (2004, .var [vi 3, nilv, vi 0, vb false, vb false, nilv, vi 0, vs (ba []), nilv, nilv, nilv])] fun a w hs => ?_
 refine cond_L (c := 66) hs (b := false) rfl (fun hb => ?_) (fun hb => ?_)
 exact absurd ((show (false) = false by rfl).symm.trans hb) (by decide)
 have b4 := hb
 clear hb
 refine wLs hs hI [(3, rc [(1, ciV 21 [.row (.int .i64) k, vi 3] (aTr ((mdA k))))])] [] 841 [] [(2, .row (.int .i64) k), (6, .ptr 1001 0), (7, .ptr 2004 0)] [(1001, .var [vi 0, nilv, vi 0, vb false, vb false, nilv, vi 0, vs (ba []), nilv, nilv, nilv]), (2004, .var (e8 [vi 3, nilv] ((mdA k)) [nilv]))] ⟨conMdK k, tv⟩ fun a w hs => ?_
 refine wNs hs hI [] 18 [] [(2, .row (.int .i64) k), (6, .ptr 1001 0), (7, .ptr 2004 0), (8, .ptr 5001 0)] [(1001, .var [vi 0, nilv, vi 0, vb false, vb false, nilv, vi 0, vs (ba []), nilv, nilv, nilv]), (2004, .var (e8 [vi 3, nilv] ((mdA k)) [nilv])), (5001, .var [vs (ba [97]), vs (ba [98]), vs (ba [99]), vs (ba [100, 100]), vs (ba [101])])] fun a w hs => ?_
 refine wNs hs hI [] 11 [] [(2, .row (.int .i64) k), (6, .ptr 1001 0), (7, .ptr 2004 0), (8, .ptr 5001 0), (9, vi 0)] [(1001, .var [vi 0, nilv, vi 0, vb false, vb false, nilv, vi 0, vs (ba []), nilv, nilv, nilv]), (2004, .var (e8 [vi 3, nilv] ((mdA k)) [nilv])), (5001, .var [vs (ba [97]), vs (ba [98]), vs (ba [99]), vs (ba [100, 100]), vs (ba [101])])] fun a w hs => ?_
 refine wp_block ?_
 refine loop_L (N := Tryz.f22.ntmps) (w0 := w0) (ow := noO fz) (α := Nat) (fun p => [(2, .row (.int .i64) k), (6, .ptr 1001 0), (7, .ptr 90000001 0), (8, .ptr 5001 0), (9, vi (p : Int))]) (fun p => [(1001, .var [vi 0, nilv, vi 0, vb false, vb false, nilv, vi 0, vs (ba []), nilv, nilv, nilv]), (5001, .var [vs (ba [97]), vs (ba [98]), vs (ba [99]), vs (ba [100, 100]), vs (ba [101])]), (90000001, .var (e8 [vi 3, nilv] ((mdA k)) [.own 90000002])), (90000002, .sl 25 .strs ((k.take p).map qE))]) (fun p => p ≤ k.length ∧ p ≤ 5) (fun p => 5 - p) 0 ?_ ?_ ?_
 exact ⟨Nat.zero_le _, by decide⟩
 (have hs := (hs.nilB 10000003 2004 10 25 .strs (e8 [vi 3, nilv] ((mdA k)) [nilv]) (by kernel_rfl) (by kernel_rfl) (by decide) (by decide) (by kernel_rfl) (by kernel_rfl)).rmT [(2, .row (.int .i64) k), (6, .ptr 1001 0), (7, .ptr 2004 0), (8, .ptr 5001 0), (9, vi 0)] [(1001, .var [vi 0, nilv, vi 0, vb false, vb false, nilv, vi 0, vs (ba []), nilv, nilv, nilv]), (2004, .var (e8 [vi 3, nilv] ((mdA k)) [.own 10000003])), (5001, .var [vs (ba [97]), vs (ba [98]), vs (ba [99]), vs (ba [100, 100]), vs (ba [101])]), (10000003, .sl 25 .strs ([]))] [(1001, 1001), (2004, 2004), (5001, 5001), (10000003, 10000003)] (by kernel_rfl); exact (hs.cst [(2, .row (.int .i64) k), (6, .ptr 1001 0), (7, .ptr 2004 0), (8, .ptr 5001 0), (9, vi ((0 : Nat) : Int))] [(1001, .var [vi 0, nilv, vi 0, vb false, vb false, nilv, vi 0, vs (ba []), nilv, nilv, nilv]), (2004, .var (e8 [vi 3, nilv] ((mdA k)) [.own 10000003])), (5001, .var [vs (ba [97]), vs (ba [98]), vs (ba [99]), vs (ba [100, 100]), vs (ba [101])]), (10000003, .sl 25 .strs ((k.take 0).map qE))] rfl).rk [(1001, 1001), (5001, 5001), (90000001, 2004), (90000002, 10000003)])
 rintro i hJ a w hs
 obtain ⟨hi, hi5⟩ := hJ
 have hv := vW_in k i
 have h5_ := tm_w (n := 5) hv.1 (by decide)
 have hd5 := td_w (n := 5) hv.1 (by decide) hv.2
 have h3_ := tm_w (n := 3) hd5.1 (by decide)
 have hd15 := td_w (n := 15) hv.1 (by decide) hv.2
 have h155 := tm_w (n := 5) hd15.1 (by decide)
 have htk := take_map_len (f := qE) hi
 rcases bd ((i : Int) < (k.length : Int)) with ⟨b5, n5⟩ | ⟨b5, n5⟩
 rcases bd ((i : Int) < 5) with ⟨b6, n6⟩ | ⟨b6, n6⟩
 rcases bq (((vW k i).tdiv 5).tmod 3) (0) with ⟨b7, n7⟩ | ⟨b7, n7⟩
 refine wL hs hI [(8, rc [(4, ciV 18 [vi (k.getD i (dflt (.int .i64))), vi 1048576] (vi (vW k i)))]), (6, rg [] [5, 6, 1007] [])] (bz 2 3) 17196607182966177333176173196073319604709796677708 [q1 b5, q1 b5, q1 b5, q1 b6, q4 (i : Int) k.length, q6 5, q2 (0 ≤ (vW k i).tmod 5 ∧ (vW k i).tmod 5 < (5 : Nat)), q2 (0 + ((vW k i).tmod 5).toNat * 1 < 5), q5 5 ((vW k i).tdiv 5), q6 3, q1 b7, q5 15 ((vW k i).tdiv 15), q6 5, q2 (0 ≤ ((vW k i).tdiv 15).tmod 5 ∧ ((vW k i).tdiv 15).tmod 5 < (5 : Nat)), q2 (0 + (((vW k i).tdiv 15).tmod 5).toNat * 1 < 5), q7 1 1 16, q7 (((k.take i).map qE).length) 1 24, q3 ((i : Int) + 1)] .norm [(2, .row (.int .i64) k), (6, .ptr 1001 0), (7, .ptr 90000001 0), (8, .ptr 5001 0), (9, vi ((i : Int) + 1))] [(1001, .var [vi 0, nilv, vi 0, vb false, vb false, nilv, vi 0, vs (ba []), nilv, nilv, nilv]), (5001, .var [vs (ba [97]), vs (ba [98]), vs (ba [99]), vs (ba [100, 100]), vs (ba [101])]), (13004, .sl 25 .strs (((k.take i).map qE) ++ ([[([(ba [97]), (ba [98]), (ba [99]), (ba [100, 100]), (ba [101])] : List ByteArray).getD (0 + ((vW k i).tmod 5).toNat * 1) ⟨#[]⟩, ([(ba [97]), (ba [98]), (ba [99]), (ba [100, 100]), (ba [101])] : List ByteArray).getD (0 + (((vW k i).tdiv 15).tmod 5).toNat * 1) ⟨#[]⟩]]))), (90000001, .var (e8 [vi 3, nilv] ((mdA k)) [.own 13004]))] ⟨con17 _ _ (by decide) (by decide), tv⟩ fun a w hs => ?_
 refine then_norm ⟨i + 1, by omega, by omega, ?_⟩
 (have e0_ : ((i : Int) + 1) = ((((i + 1) : Nat) : Int)) := (by first | rfl | (omega)); have e1_ : (((k.take i).map qE) ++ ([[([(ba [97]), (ba [98]), (ba [99]), (ba [100, 100]), (ba [101])] : List ByteArray).getD (0 + ((vW k i).tmod 5).toNat * 1) ⟨#[]⟩, ([(ba [97]), (ba [98]), (ba [99]), (ba [100, 100]), (ba [101])] : List ByteArray).getD (0 + (((vW k i).tdiv 15).tmod 5).toNat * 1) ⟨#[]⟩]])) = (((k.take (i + 1)).map qE)) := (by exact qE_yes (by omega) b7); exact (hs.cst [(2, .row (.int .i64) k), (6, .ptr 1001 0), (7, .ptr 90000001 0), (8, .ptr 5001 0), (9, vi (((i + 1) : Nat) : Int))] [(1001, .var [vi 0, nilv, vi 0, vb false, vb false, nilv, vi 0, vs (ba []), nilv, nilv, nilv]), (5001, .var [vs (ba [97]), vs (ba [98]), vs (ba [99]), vs (ba [100, 100]), vs (ba [101])]), (13004, .sl 25 .strs ((k.take (i + 1)).map qE)), (90000001, .var (e8 [vi 3, nilv] ((mdA k)) [.own 13004]))] (by first | (rw [e0_, e1_]; done) | (simp only [e0_, e1_]; done) | rfl | (simp only [e0_, e1_]; rfl))).rk [(1001, 1001), (5001, 5001), (90000001, 90000001), (90000002, 13004)])
 refine wL hs hI [(8, rc [(4, ciV 18 [vi (k.getD i (dflt (.int .i64))), vi 1048576] (vi (vW k i)))]), (6, rg [] [5, 6, 1007] [])] (bz 2 1) 1719660718976173196073319604709796677708 [q1 b5, q1 b5, q1 b5, q1 b6, q4 (i : Int) k.length, q6 5, q2 (0 ≤ (vW k i).tmod 5 ∧ (vW k i).tmod 5 < (5 : Nat)), q2 (0 + ((vW k i).tmod 5).toNat * 1 < 5), q5 5 ((vW k i).tdiv 5), q6 3, q1 b7, q7 (((k.take i).map qE).length) 1 24, q3 ((i : Int) + 1)] .norm [(2, .row (.int .i64) k), (6, .ptr 1001 0), (7, .ptr 90000001 0), (8, .ptr 5001 0), (9, vi ((i : Int) + 1))] [(1001, .var [vi 0, nilv, vi 0, vb false, vb false, nilv, vi 0, vs (ba []), nilv, nilv, nilv]), (5001, .var [vs (ba [97]), vs (ba [98]), vs (ba [99]), vs (ba [100, 100]), vs (ba [101])]), (13004, .sl 25 .strs (((k.take i).map qE) ++ ([[([(ba [97]), (ba [98]), (ba [99]), (ba [100, 100]), (ba [101])] : List ByteArray).getD (0 + ((vW k i).tmod 5).toNat * 1) ⟨#[]⟩]]))), (90000001, .var (e8 [vi 3, nilv] ((mdA k)) [.own 13004]))] ⟨con17 _ _ (by decide) (by decide), tv⟩ fun a w hs => ?_
 refine then_norm ⟨i + 1, by omega, by omega, ?_⟩
 (have e0_ : ((i : Int) + 1) = ((((i + 1) : Nat) : Int)) := (by first | rfl | (omega)); have e1_ : (((k.take i).map qE) ++ ([[([(ba [97]), (ba [98]), (ba [99]), (ba [100, 100]), (ba [101])] : List ByteArray).getD (0 + ((vW k i).tmod 5).toNat * 1) ⟨#[]⟩]])) = (((k.take (i + 1)).map qE)) := (by exact qE_no (by omega) b7); exact (hs.cst [(2, .row (.int .i64) k), (6, .ptr 1001 0), (7, .ptr 90000001 0), (8, .ptr 5001 0), (9, vi (((i + 1) : Nat) : Int))] [(1001, .var [vi 0, nilv, vi 0, vb false, vb false, nilv, vi 0, vs (ba []), nilv, nilv, nilv]), (5001, .var [vs (ba [97]), vs (ba [98]), vs (ba [99]), vs (ba [100, 100]), vs (ba [101])]), (13004, .sl 25 .strs ((k.take (i + 1)).map qE)), (90000001, .var (e8 [vi 3, nilv] ((mdA k)) [.own 13004]))] (by first | (rw [e0_, e1_]; done) | (simp only [e0_, e1_]; done) | rfl | (simp only [e0_, e1_]; rfl))).rk [(1001, 1001), (5001, 5001), (90000001, 90000001), (90000002, 13004)])
 refine wL hs hI [(6, rg [] [5, 6, 1007] [])] (bz 1 0) 796677708 [q1 b5, q1 b5, q1 b5, q1 b6] (.exit 1) [(6, .ptr 1001 0), (7, .ptr 90000001 0)] [(1001, .var [vi 0, nilv, vi 0, vb false, vb false, nilv, vi 0, vs (ba []), nilv, nilv, nilv]), (90000001, .var (e8 [vi 3, nilv] ((mdA k)) [.own 90000002])), (90000002, .sl 25 .strs ((k.take i).map qE))] tv fun a w hs => ?_
 refine then_exit ?_
 refine inb_hit ?_
 refine inb_norm ?_
 refine then_norm ?_
 refine wL hs hI [(17, rc [(1, ciA 48 [.agg (e8 [vi 3, .row .opn ([])] ((mdA k)) [.row .strs ((k.take i).map qE)])] [90000002] [] (.val (vb true)))])] (bz 1 0) 1989729041 [q1 b2] .ret [(6, .ptr 1001 0)] [(1001, .var (e8 [vi 3, nilv] ((mdA k)) [.own 90000002])), (90000002, .sl 25 .strs ((k.take i).map qE))] ⟨conCk3 k (k.take i) (by rw [List.length_take]; omega), tv⟩ fun a w hs => ?_
 exact rK (.val (.agg (e8 [vi 3, .row .opn ([])] ((mdA k)) [.row .strs ((k.take i).map qE)]))) [90000002] hs (by rw [maskE, ← take_end hi hi5 (by omega)]; rfl)
 refine wL hs hI [(6, rg [] [] [5, 6, 1007])] (bz 1 0) 76673308 [q1 b5, q1 b5, q1 b5, q1 b2] (.exit 1) [(6, .ptr 1001 0), (7, .ptr 90000001 0)] [(1001, .var [vi 0, nilv, vi 0, vb false, vb false, nilv, vi 0, vs (ba []), nilv, nilv, nilv]), (90000001, .var (e8 [vi 3, nilv] ((mdA k)) [.own 90000002])), (90000002, .sl 25 .strs ((k.take i).map qE))] tv fun a w hs => ?_
 refine then_exit ?_
 refine inb_hit ?_
 refine inb_norm ?_
 refine then_norm ?_
 refine wL hs hI [(17, rc [(1, ciA 48 [.agg (e8 [vi 3, .row .opn ([])] ((mdA k)) [.row .strs ((k.take i).map qE)])] [90000002] [] (.val (vb true)))])] (bz 1 0) 1989729041 [q1 b2] .ret [(6, .ptr 1001 0)] [(1001, .var (e8 [vi 3, nilv] ((mdA k)) [.own 90000002])), (90000002, .sl 25 .strs ((k.take i).map qE))] ⟨conCk3 k (k.take i) (by rw [List.length_take]; omega), tv⟩ fun a w hs => ?_
 exact rK (.val (.agg (e8 [vi 3, .row .opn ([])] ((mdA k)) [.row .strs ((k.take i).map qE)]))) [90000002] hs (by rw [maskE, ← take_end hi hi5 (by omega)]; rfl)
theorem conAp16 (l k : List Int) : Con Tryz.prog I0 50 [.agg (encTree (mdA l)), .agg (encTree (mdA k)), vi 1000000] (.val (.tup [.agg (encTree (mg16 (mdA l) (mdA k)).1), vi (mg16 (mdA l) (mdA k)).2])) := by
 refine con_of Tryz.func50 rfl (Nat.le_of_ble_eq_true rfl) stab (fun w0 fz a hI hs => ?_)
 rcases bt (fitF (mergeR 5 (mdA l) (mdA k)) 1000000) with b1 | b1
 refine wL hs hI [(1, rg [(1, ciV 39 [aTr ((mdA l))] (vb true)), (5, ciV 39 [aTr ((mdA k))] (vb true))] [4, 5, 6] [1007]), (3, rc [(2, ciV 26 [aTr ((mdA l)), aTr ((mdA k))] (aTr ((mergeR 5 (mdA l) (mdA k)))))]), (4, rc [(2, ciV 93 [aTr ((mergeR 5 (mdA l) (mdA k))), vi 1000000] (vb (fitF (mergeR 5 (mdA l) (mdA k)) 1000000)))])] (bz 2 0) 129189760402684097296677437041608 [q0 false, q0 false, q0 false, q0 false, q0 false, q1 (ng1 b1)] .ret [(6, .ptr 1002 0), (7, vi 0)] [(1002, bTr ((mergeR 5 (mdA l) (mdA k))))] ⟨con44A _, con44A _, conMg_ 5 _ _ (Nat.le_succ_of_le (mdA_depth k)) (mdA_fine l) (mdA_fine k) (mg_nodes l k), con87 _ _ (mg_weight l k) (mg_nodes2 l k), tv⟩ fun a w hs => ?_
 exact rK (.val (.tup [aTr ((mergeR 5 (mdA l) (mdA k))), vi 0])) [] hs (by rw [mg16, if_pos b1]; first | done | rfl)
 refine wL hs hI [(1, rg [(1, ciV 39 [aTr ((mdA l))] (vb true)), (5, ciV 39 [aTr ((mdA k))] (vb true))] [4, 5, 6] [1007]), (3, rc [(2, ciV 26 [aTr ((mdA l)), aTr ((mdA k))] (aTr ((mergeR 5 (mdA l) (mdA k)))))]), (4, rc [(2, ciV 93 [aTr ((mergeR 5 (mdA l) (mdA k))), vi 1000000] (vb (fitF (mergeR 5 (mdA l) (mdA k)) 1000000)))])] (bz 2 2) 1298760402684097296677437041608 [q0 false, q0 false, q0 false, q0 false, q0 false, q1 (ng0 b1)] .ret [(6, .ptr 1002 0), (7, vi 4)] [(1002, .var zTr)] ⟨con44A _, con44A _, conMg_ 5 _ _ (Nat.le_succ_of_le (mdA_depth k)) (mdA_fine l) (mdA_fine k) (mg_nodes l k), con87 _ _ (mg_weight l k) (mg_nodes2 l k), tv⟩ fun a w hs => ?_
 exact rK (.val (.tup [.agg [vi 0, vb false, vb false, rwU ([]), vi 0, vs (ba []), rwS ([]), rwT ([])], vi 4])) [] hs (by rw [mg16, if_neg (by rw [b1]; decide)]; first | done | rfl)
theorem conAp2 (l k : List Int) : Con Tryz.prog I0 19 [.agg (encTree (mdA l)), .agg [vi 2, .row .opn ([]), vi ((mdA k).kind), vb ((mdA k).b), vb ((mdA k).n.neg), .row (.int .u32) ((mdA k).n.m), vi ((mdA k).n.e), vs ((mdA k).s), .row .str ((mdA k).k), .row .tree ((mdA k).v), .row .strs ([])], vi 1000000] (.val (.tup [.agg (encTree ((mg16 (mdA l) (mdA k)).1)), vi (-1), vi ((mg16 (mdA l) (mdA k)).2)])) := by
 refine con_of Tryz.func19 rfl (Nat.le_of_ble_eq_true rfl) stab (fun w0 fz a hI hs => ?_)
 refine wL hs hI [(1, rc [(1, ciV 48 [.agg (e8 [vi 2, .row .opn ([])] ((mdA k)) [.row .strs ([])])] (vb true))]), (7, rc [(4, ciV 50 [aTr ((mdA l)), aTr ((mdA k)), vi 1000000] (.tup [aTr (((mg16 (mdA l) (mdA k)).1)), vi ((mg16 (mdA l) (mdA k)).2)]))])] (bz 3 4) 126882966188487907989897290412688 [q0 false, q0 false, q0 true] .ret [(6, .ptr 1002 0), (7, vi (-1)), (8, vi ((mg16 (mdA l) (mdA k)).2))] [(1002, bTr (((mg16 (mdA l) (mdA k)).1)))] ⟨conCk2 k, conAp16 l k, tv⟩ fun a w hs => ?_
 exact rK (.val (.tup [aTr (((mg16 (mdA l) (mdA k)).1)), vi (-1), vi ((mg16 (mdA l) (mdA k)).2)])) [] hs rfl
theorem conAp3 (l k : List Int) : Con Tryz.prog I0 19 [.agg (encTree (mdA l)), .agg [vi 3, .row .opn ([]), vi ((mdA k).kind), vb ((mdA k).b), vb ((mdA k).n.neg), .row (.int .u32) ((mdA k).n.m), vi ((mdA k).n.e), vs ((mdA k).s), .row .str ((mdA k).k), .row .tree ((mdA k).v), .row .strs (maskE k)], vi 1000000] (.val (.tup [.agg (encTree ((applyF (mdA l) (maskE k) (normF (maskE k)) (mdA k) 1000000).1)), vi (-1), vi ((applyF (mdA l) (maskE k) (normF (maskE k)) (mdA k) 1000000).2)])) := by
 refine con_of Tryz.func19 rfl (Nat.le_of_ble_eq_true rfl) stab (fun w0 fz a hI hs => ?_)
 refine wL hs hI [(1, rc [(1, ciV 48 [.agg (e8 [vi 3, .row .opn ([])] ((mdA k)) [.row .strs (maskE k)])] (vb true))]), (9, rc [(6, ciV 51 [aTr ((mdA l)), .row .strs (maskE k), aTr ((mdA k)), vi 1000000] (.tup [aTr (((applyF (mdA l) (maskE k) (normF (maskE k)) (mdA k) 1000000).1)), vi ((applyF (mdA l) (maskE k) (normF (maskE k)) (mdA k) 1000000).2)]))])] (bz 3 0) 126882666188488267907989897290412688 [q0 false, q0 false, q0 false] .ret [(6, .ptr 1002 0), (7, vi (-1)), (8, vi ((applyF (mdA l) (maskE k) (normF (maskE k)) (mdA k) 1000000).2))] [(1002, bTr (((applyF (mdA l) (maskE k) (normF (maskE k)) (mdA k) 1000000).1)))] ⟨conCk3 k (k.take 5) (by rw [List.length_take]; omega), con34 _ _ _ _ (mdA_fine l) (mdA_fine k) (mdA_fineS l) (mdA_fineS k) (fun p hp => (qs_small _ p hp).1) (by have := maskE_len k; omega) (fun p hp => (qs_small _ p hp).2), tv⟩ fun a w hs => ?_
 exact rK (.val (.tup [aTr (((applyF (mdA l) (maskE k) (normF (maskE k)) (mdA k) 1000000).1)), vi (-1), vi ((applyF (mdA l) (maskE k) (normF (maskE k)) (mdA k) 1000000).2)])) [] hs rfl
theorem conEd (l k : List Int) (lang : Int) : Con Tryz.prog I0 22 [.agg (encTree (mdA l)), vi (1 + placeF lang 2), .row (.int .i64) k] (.val (.agg (encP (edP lang k)))) := by
 have hp := placeF_in lang 2 (by decide)
 by_cases h : placeF lang 2 = 0
 rw [edP_2 k h, h]; exact conEd2 l k
 rw [edP_3 k h, show placeF lang 2 = 1 by omega]; exact conEd3 l k
theorem conAp (l k : List Int) (lang : Int) : Con Tryz.prog I0 19 [.agg (encTree (mdA l)), .agg (encP (edP lang k)), vi 1000000] (.val (.tup [.agg (encTree (apP l k lang).1), vi (-1), vi (apP l k lang).2])) := by
 by_cases h : placeF lang 2 = 0
 unfold apP; rw [edP_2 k h, if_pos h]; exact conAp2 l k
 unfold apP; rw [edP_3 k h, if_neg h]; exact conAp3 l k
theorem conCanG {a b : Tree} {g : Int} (hd : depth b ≤ 6) (ha : fineT a) (hb : fineT b) (h : canF 6 a b g = true) : Con Tryz.prog I0 15 [.agg (encTree a), .agg (encTree b), vi g] (.val (vb true)) := by
 have h1 := conCan 6 a b hd ha hb g
 rw [h] at h1; exact h1
theorem law_DiffCans (l k : List Int) (lang : Int) : Con Tryz.prog I0 5 [.row (.int .i64) l, .row (.int .i64) k, vi lang] (.val (vb true)) := by
 have hpl := placeF_in lang 2 (by decide)
 refine con_of Tryz.func5 rfl (Nat.le_of_ble_eq_true rfl) stab (fun w0 fz a hI hs => ?_)
 refine wNs hs hI [] 11 [] [(0, .row (.int .i64) l), (1, .row (.int .i64) k), (2, vi lang)] [] fun a w hs => ?_
 refine wp_seq ?_
 rcases bd ((l.length : Int) > 40) with ⟨b1, n1⟩ | ⟨b1, n1⟩
 refine wL hs hI [(2, rc [(0, ciV 10 [] (vb true))]), (1, rg [] [1007] [4, 5, 6])] (bz 1 1) 1904366733318 [q1 b1, q1 b1, q1 b1, q1 b1, q0 true] .ret [(6, vb true)] [] ⟨conAwake, tv⟩ fun a w hs => ?_
 refine then_ret ?_
 exact rK (.val (vb true)) [] hs rfl
 rcases bd ((k.length : Int) > 60) with ⟨b2, n2⟩ | ⟨b2, n2⟩
 refine wL hs hI [(2, rc [(0, ciV 10 [] (vb true))]), (1, rg [] [4, 5, 6] [1007])] (bz 1 1) 190432966777718 [q1 b1, q1 b1, q1 b1, q1 b1, q1 b2] .ret [(6, vb true)] [] ⟨conAwake, tv⟩ fun a w hs => ?_
 refine then_ret ?_
 exact rK (.val (vb true)) [] hs rfl
 refine wL hs hI [(1, rg [] [4, 5, 6] [1007])] (bz 1 0) 72966777718 [q1 b1, q1 b1, q1 b1, q1 b1, q1 b2] .norm [(0, .row (.int .i64) l), (1, .row (.int .i64) k), (2, vi lang)] [] tv fun a w hs => ?_
 refine then_norm ?_
 refine wLs hs hI [(3, rc [(1, ciV 21 [.row (.int .i64) l, vi 3] (aTr ((mdA l))))])] [] 841 [] [(1, .row (.int .i64) k), (2, vi lang), (7, .ptr 4002 0)] [(4002, bTr ((mdA l)))] ⟨conMdK l, tv⟩ fun a w hs => ?_
 refine wLs hs hI [(4, rc [(2, ciV 18 [vi lang, vi 2] (vi (placeF lang 2))), (5, ciV 22 [aTr ((mdA l)), vi (1 + (placeF lang 2)), .row (.int .i64) k] (.agg (e8 [vi ((edP lang k).lang), .row .opn ((edP lang k).ops)] (((edP lang k).value)) [.row .strs ((edP lang k).mask)])))])] [] 84740 [q3 (1 + (placeF lang 2))] [(7, .ptr 4002 0), (8, .ptr 5006 0)] [(4002, bTr ((mdA l))), (5006, .var (e8 [vi ((edP lang k).lang), .row .opn ((edP lang k).ops)] (((edP lang k).value)) [.row .strs ((edP lang k).mask)]))] ⟨con17 _ _ (by decide) (by decide), conEd l k lang, tv⟩ fun a w hs => ?_
 refine wLs hs hI [(5, rc [(2, ciV 19 [aTr ((mdA l)), .agg (e8 [vi ((edP lang k).lang), .row .opn ((edP lang k).ops)] (((edP lang k).value)) [.row .strs ((edP lang k).mask)]), vi 1000000] (.tup [aTr (((apP l k lang).1)), vi (-1), vi ((apP l k lang).2)]))])] [] 88840 [] [(7, .ptr 4002 0), (8, .ptr 5006 0), (9, .ptr 6007 0), (11, vi ((apP l k lang).2))] [(4002, bTr ((mdA l))), (5006, .var (e8 [vi ((edP lang k).lang), .row .opn ((edP lang k).ops)] (((edP lang k).value)) [.row .strs ((edP lang k).mask)])), (6007, bTr (((apP l k lang).1)))] ⟨conAp l k lang, tv⟩ fun a w hs => ?_
 rcases bt (((apP l k lang).2) != 0) with b3 | b3
 have n3 := bne_iff_ne.1 b3
 refine wL hs hI [(7, rc [(0, ciV 10 [] (vb true))])] (bz 1 1) 1904398 [q1 b3] .ret [(6, vb true)] [] ⟨conAwake, tv⟩ fun a w hs => ?_
 exact rK (.val (vb true)) [] hs rfl
 have n3 := bne_eq_false_iff_eq.1 b3
 have hcn := apP_can (l := l) (k := k) (lang := lang) (bne_eq_false_iff_eq.1 b3)
 refine wL hs hI [(8, rg [(4, ciV 15 [aTr ((mdA l)), aTr (((apP l k lang).1)), vi ((edP lang k).lang)] (vb true)), (8, ciV 15 [aTr ((mdA l)), aTr (((apP l k lang).1)), vi 1] (vb true)), (13, ciV 15 [aTr ((mdA l)), aTr ((mdA l)), vi 2] (vb true)), (18, ciV 15 [aTr ((mdA l)), aTr ((mdA l)), vi 3] (vb true)), (21, ciV 10 [] (vb true))] [6, 7, 8, 1009, 11, 12, 13, 1014, 16, 17, 18, 1019, 21, 1022] [])] (bz 1 0) 1966666666174374377743777437714189798 [q1 b3, q0 true, q0 true, q0 true, q0 true, q0 true, q0 true, q0 true, q0 true, q0 true, q0 true, q0 true, q0 true, q0 true, q0 true] .ret [(6, vb true)] [] ⟨conCanG hcn.depth (mdA_fine l) hcn.fine hcn.c1, conCanG hcn.depth (mdA_fine l) hcn.fine hcn.c2, conCanG (Nat.le_trans (mdA_depth l) (by decide)) (mdA_fine l) (mdA_fine l) (self_can l).1, conCanG (Nat.le_trans (mdA_depth l) (by decide)) (mdA_fine l) (mdA_fine l) (self_can l).2, conAwake, tv⟩ fun a w hs => ?_
 exact rK (.val (vb true)) [] hs rfl
end Go.Proofs.YtfimffgfnhplkaaGreatDoor.F
namespace Go.Proofs.YtfimffgfnhplkaaGreatDoor.X
open Go.ChangeShapes Go.WideShapes Go.ChangeAt Go.RowKit
theorem rl_diffCans {W : World} {fz : Nat → Prop} {η : Nat → Option Value} {v0 : Value} {l0 : List Int} (y0 : Go.Proofs.YtfimffgfnhplkaaGreatDoor.F.R W fz η v0 (.row (.int .i64) l0)) {v1 : Value} {l1 : List Int} (y1 : Go.Proofs.YtfimffgfnhplkaaGreatDoor.F.R W fz η v1 (.row (.int .i64) l1)) {a2 : Int} : Go.Proofs.YtfimffgfnhplkaaGreatDoor.F.RL W fz η #[v0, v1, .int .i64 a2] [.row (.int .i64) l0, .row (.int .i64) l1, .lit (.int .i64 a2)] := by
 refine ⟨rfl, fun j v a hv ha => ?_⟩
 rcases j with _ | j
 simp only [List.getElem?_toArray, List.getElem?_cons_zero, List.getElem?_cons_succ, Option.some.injEq] at hv ha
 subst hv ha
 exact y0
 rcases j with _ | j
 simp only [List.getElem?_toArray, List.getElem?_cons_zero, List.getElem?_cons_succ, Option.some.injEq] at hv ha
 subst hv ha
 exact y1
 rcases j with _ | j
 simp only [List.getElem?_toArray, List.getElem?_cons_zero, List.getElem?_cons_succ, Option.some.injEq] at hv ha
 subst hv ha
 exact .lit _
 simp at ha
theorem contractDiffCans (H : Type) (enc : TypeId × Value → H) (W : World) (base : Nat) (args : Array Value) (ds gs : List (DataW H)) (before : List MemPlace)
  (hval : ∀ (j : Nat) t v, Tryz.f5.params[j]? = some t → args[j]? = some v → Value.okWide Tryz.prog W .any base t v)
  (hW : DataW.Whole enc Tryz.prog Tryz.f5.params.toList Rows.diffCansSpec.vars false W args.toList ds gs before) (hL : laidMetH Tryz.prog Rows.diffCansRow.laid W) (hS : W.ShapedOpen Tryz.prog) :
  Calls Tryz.prog 5 args W fun e W' => ∃ v, e = .returned v ∧ Rows.diffCansSpec.post enc Tryz.prog Tryz.f5 false true false false W args v W' := by
 have hW' := hW
 obtain ⟨p, q, hA0, hV, rfl, hfz, hnd⟩ := hW
 have hA : DataW.TrodAll enc Tryz.prog W 0 (fun _ => true) true Tryz.f5.params.toList args.toList ds p := hA0
 rw [Tryz.params5] at hA hval
 obtain ⟨v0, vs0, d0, ds0, p0, q0, hargs, rfl, rfl, h0, r0⟩ := trodAll_cons hA
 obtain ⟨v1, vs1, d1, ds1, p1, q1, rfl, rfl, rfl, h1, r1⟩ := trodAll_cons r0
 obtain ⟨v2, vs2, d2, ds2, p2, q2, rfl, rfl, rfl, h2, r2⟩ := trodAll_cons r1
 obtain ⟨rfl, rfl, rfl⟩ := trodAll_nil r2
 obtain rfl : args = #[v0, v1, v2] := by cases args; simp_all
 obtain ⟨rfl, rfl⟩ := trodVars_none hV
 have k0 := h0
 have lt0 : ∀ x ∈ p0, x.block < W.heap.size := by obtain ⟨m, hm⟩ := k0; exact DataW.trod_lt m _ _ _ hm
 obtain ⟨a0, y0⟩ := open_rowI (hval 0 42 v0 rfl rfl) h0
 have k1 := h1
 have lt1 : ∀ x ∈ p1, x.block < W.heap.size := by obtain ⟨m, hm⟩ := k1; exact DataW.trod_lt m _ _ _ hm
 obtain ⟨a1, y1⟩ := open_rowI (hval 1 42 v1 rfl rfl) h1
 obtain ⟨a2, rfl, rfl, rfl, w2⟩ := open_int Tryz.underlying3 (hval 2 3 v2 rfl rfl) h2
 clear hA0
 have hv1 : Go.Proofs.YtfimffgfnhplkaaGreatDoor.F.RL W (fun k => k < W.heap.size) Go.Proofs.YtfimffgfnhplkaaGreatDoor.F.noη #[v0, v1, .int .i64 a2] [.row (.int .i64) a0, .row (.int .i64) a1, .lit (.int .i64 a2)] := rl_diffCans y0 y1
 refine (Go.Proofs.YtfimffgfnhplkaaGreatDoor.F.law_DiffCans a0 a1 a2 W _ _ (laid_of hL hS) (fun k h => h) hv1).mono fun e W' hp => ?_
 obtain ⟨⟨v, rfl, hR⟩, bel⟩ := hp
 obtain rfl := hR.lit_inv
 exact ⟨_, rfl, _, _, _, [], _, [], hW', trodAll_mk1 (shut_bool Tryz.underlying4 _), (trodAll_cons_mk (Below.trod laidOut (by kernel_rfl) (of_decide_eq_true (by kernel_rfl)) k0 bel lt0) (trodAll_cons_mk (Below.trod laidOut (by kernel_rfl) (of_decide_eq_true (by kernel_rfl)) k1 bel lt1) (trodAll_cons_mk (shut_int Tryz.underlying3 w2) trodAll_mk0))), rfl, bel.frame _, fun h => by cases h⟩
theorem readsDiffCans (os : Os) {H : Type} (enc : TypeId × Value → H) : ∃ places, DataW.whole enc Tryz.prog ((laidWorld os).forCall (fun _ _ => 0) ⟨#[], #[.slice none 0 0, .slice none 0 0, .int .i64 0], []⟩).memory Tryz.f5.params.toList Rows.diffCansSpec.vars false #[Value.slice none 0 0, Value.slice none 0 0, Value.int .i64 0].toList 8 = some ([.nil, .nil, .lit (.int .i64 0)], [], places) :=
 ⟨[], by kernel_rfl⟩
theorem metDiffCans (os : Os) : laidMet Tryz.prog Rows.diffCansRow.laid ((laidWorld os).forCall (fun _ _ => 0) ⟨#[], #[.slice none 0 0, .slice none 0 0, .int .i64 0], []⟩).memory :=
 laidMet_of_run' 8 (by kernel_rfl) (by kernel_rfl)
theorem liftedDiffCans (os : Os) (started : os.Started) (H : Type) (enc : TypeId × Value → H) (F : Stop.Interp) :
  ReturnsInHanded {} Tryz.checked os 5 .any ((OpenSpec.ofChange Rows.diffCansSpec).preRow enc Tryz.prog Tryz.f5 Rows.diffCansRow.domain false Rows.diffCansRow.laid) (((OpenSpec.ofChange Rows.diffCansSpec).at F).post enc Tryz.prog Tryz.f5 false true false false) := by
 obtain ⟨places, hx⟩ := readsDiffCans os enc
 refine returnsInHanded_of_row (C := Tryz.checked) (s := OpenSpec.ofChange Rows.diffCansSpec) own started (by kernel_rfl) Tryz.func5
  (witness_row_at (enc := enc) (C := Tryz.checked) false (laidWorld os) #[.slice none 0 0, .slice none 0 0, .int .i64 0] rfl (by kernel_rfl) (by kernel_rfl) (by kernel_rfl)
   (OpenSpec.preRow_of_cond 8 hx (by kernel_rfl) (fun k hk => by cases hk) (by kernel_rfl) (metDiffCans os))) ?_
 intro W base args ds gs before hval hW _ _ _ hL hS _
 exact contractDiffCans H enc W base args ds gs before hval hW hL hS
theorem saidDiffCans : Rows.DiffCansSaid :=
 OpenClaim.holds_of_cond 5 Tryz.f5 rfl rfl rfl rfl rfl rfl rfl ⟨rfl, rfl, rfl, rfl, rfl⟩ rfl rfl rfl rfl rfl (by kernel_rfl) Tryz.func5 (by kernel_rfl)
  (of_decide_eq_true (by kernel_rfl)) (by unfold Func.isWrapper; first | (rw [if_pos (by decide +kernel)]; kernel_rfl) | (rw [if_neg (by decide +kernel)]; exact ⟨rfl, rfl⟩))
  (fun os started H enc _ F => by rw [OpenClaim.pre_eq_preRow]; exact liftedDiffCans os started H enc F)
theorem plainDiffCans (f : FuncId) (fn : Func) (hf : Tryz.pinned.checked.prog.funcNamed "erratum/erratumlaw20.DiffCans" = some f) (hfn : Tryz.pinned.checked.prog.funcs[f]? = some fn) :
  true = Tryz.pinned.checked.prog.looks [] ∧ ∀ (j : Nat) t, fn.params[j]? = some t → Tryz.pinned.checked.prog.wantsStandIn t = false := by
 obtain rfl : f = 5 := Option.some.inj ((show Tryz.prog.funcNamed "erratum/erratumlaw20.DiffCans" = some 5 by kernel_rfl).symm.trans hf) |>.symm
 obtain rfl : fn = Tryz.f5 := (Option.some.inj (Tryz.func5.symm.trans hfn)).symm
 refine ⟨by kernel_rfl, fun j t ht => ?_⟩
 rw [Tryz.params5] at ht
 have hm : t = 42 ∨ t = 42 ∨ t = 3 := by simpa using Array.mem_of_getElem? ht
 rcases hm with rfl | rfl | rfl
 ·exact (show Tryz.prog.wantsStandIn 42 = false by kernel_rfl)
 ·exact (show Tryz.prog.wantsStandIn 42 = false by kernel_rfl)
 ·exact (show Tryz.prog.wantsStandIn 3 = false by kernel_rfl)
theorem cardDiffCans : Rows.DiffCansCardSaid :=
 Claim7.holds_tied_plain_at .later [] _ _ _ _ saidDiffCans (fun _ h => by cases h) (by kernel_rfl) (fun _ h => by cases h) diffCans_row_tie rfl ⟨rfl, rfl⟩ (by kernel_rfl) rfl plainDiffCans (by kernel_rfl)
end Go.Proofs.YtfimffgfnhplkaaGreatDoor.X
