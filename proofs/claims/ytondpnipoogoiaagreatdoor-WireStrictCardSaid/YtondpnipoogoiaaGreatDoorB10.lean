import Derived.Test.YtondpnipoogoiaaGreatDoorB9
set_option maxRecDepth 100000
set_option linter.unusedVariables false
set_option linter.unusedSimpArgs false
namespace Go.Proofs.YtondpnipoogoiaaGreatDoor.F
open Go Go.RowKit Go.Proofs.Tryz
abbrev errN (e : Int) : Value := .iface 38 (.int .i64 e)
def outP (r : List ByteArray × Int) : COut := if (r.2 == 0) = true then .val (.row .str r.1) else .thr (errN r.2)
theorem outP_y {P : Program} {I : World → Prop} {f : FuncId} {xs : List AV} {r : List ByteArray × Int} (h : Con P I f xs (outP r)) (e : (r.2 == 0) = true) : Con P I f xs (.val (.row .str r.1)) := by
 rw [outP, if_pos e] at h; exact h
theorem outP_n {P : Program} {I : World → Prop} {f : FuncId} {xs : List AV} {r : List ByteArray × Int} (h : Con P I f xs (outP r)) (e : (r.2 == 0) = false) : Con P I f xs (.thr (errN r.2)) := by
 rw [outP, if_neg (by rw [e]; decide)] at h; exact h
def pathR (t : Tree) (x : ByteArray) : List ByteArray × Int := if memOk t x = true then pparseF (memV t x).s else ([], 2)
theorem pathR_no {t : Tree} {x : ByteArray} (h : memOk t x = false) : pathR t x = ([], 2) := if_neg (by rw [h]; decide)
theorem pathR_yes {t : Tree} {x : ByteArray} (h : memOk t x = true) : pathR t x = pparseF (memV t x).s := if_pos h
theorem con172 (t : Tree) (x : ByteArray) (hk : (cutK t).length < 1000000000) (hz : (memV t x).s.size < 4294960000) : Con Tryz.prog I0 172 [.agg (encTree t), vs x] (outP (pathR t x)) := by
 refine con_of Tryz.func172 rfl (Nat.le_of_ble_eq_true rfl) stab (fun w0 fz a hI hs => ?_)
 rcases bt (memOk t x) with b1 | b1
 ·skip
  rcases bt (((pparseF ((memV t x).s)).2) == 0) with b2 | b2
  ·skip
   have n2 := eq_of_beq b2
   refine wL hs hI [(1, ⟨[(2, ciV 121 [aTr (t), vs x] (vs ((memV t x).s))), (3, ciV 217 [vs ((memV t x).s)] (.tup [rwS ((pparseF ((memV t x).s)).1), vi ((pparseF ((memV t x).s)).2)]))], [], []⟩), (2, ⟨[(3, ciV 118 [vb (((pparseF ((memV t x).s)).2) == 0), vi ((pparseF ((memV t x).s)).2)] (.tup []))], [], []⟩)] [] 283849687524154782287599063250 [] .ret [(4, rwS ((pparseF ((memV t x).s)).1))] [] ⟨⟨⟨ent121, con121y _ _ hk (by assumption)⟩, ⟨ent217, con217 _ (by omega)⟩, tv⟩, ⟨⟨ent118, con118y _ _ (by first | rfl | assumption | (simp_all; done))⟩, tv⟩, tv⟩ tv fun a w hs => ?_
   exact rK (.val (rwS ((pparseF ((memV t x).s)).1))) [] hs (by rw [pathR_yes b1, outP, if_pos b2])
  ·skip
   have n2 := beq_eq_false_iff_ne.1 b2
   refine wL hs hI [(1, ⟨[(2, ciV 121 [aTr (t), vs x] (vs ((memV t x).s))), (3, ciV 217 [vs ((memV t x).s)] (.tup [rwS ((pparseF ((memV t x).s)).1), vi ((pparseF ((memV t x).s)).2)]))], [], []⟩), (2, ⟨[(3, ciA 118 [vb (((pparseF ((memV t x).s)).2) == 0), vi ((pparseF ((memV t x).s)).2)] [] [] (.thr (.iface 38 (.int .i64 ((pparseF ((memV t x).s)).2)))))], [], []⟩)] [] 29116883873931886172625 [] (.thr (.iface 38 (.int .i64 ((pparseF ((memV t x).s)).2)))) [] [] ⟨⟨⟨ent121, con121y _ _ hk (by assumption)⟩, ⟨ent217, con217 _ (by omega)⟩, tv⟩, ⟨⟨ent118, con118n _ _ (by first | rfl | assumption | (simp_all; done))⟩, tv⟩, tv⟩ tv fun a w hs => ?_
   exact tK (.iface 38 (.int .i64 ((pparseF ((memV t x).s)).2))) hs (by rw [pathR_yes b1, outP, if_neg (by rw [b2]; decide)])
 ·skip
  refine wL hs hI [(1, ⟨[(2, ciA 121 [aTr (t), vs x] [] [] (.thr (.iface 38 (.int .i64 2))))], [], []⟩)] [] 12344500 [] (.thr (.iface 38 (.int .i64 2))) [] [] ⟨⟨⟨ent121, con121n _ _ hk (by assumption)⟩, tv⟩, tv⟩ tv fun a w hs => ?_
  exact tK (.iface 38 (.int .i64 2)) hs (by rw [pathR_no b1]; rfl)
abbrev nOp : ByteArray := ba [111, 112]
abbrev nPath : ByteArray := ba [112, 97, 116, 104]
abbrev nFrom : ByteArray := ba [102, 114, 111, 109]
abbrev nValue : ByteArray := ba [118, 97, 108, 117, 101]
def wordI (t : Tree) : Int := idxT (memV t nOp).s wordsL + 1
def exactO (t : Tree) : Bool := if fromF (wordI t) = true then exactF t [nFrom, nOp, nPath] else if valueF (wordI t) = true then exactF t [nOp, nPath, nValue] else exactF t [nOp, nPath]
def opO (t : Tree) (p f : List ByteArray) : Opn := ⟨wordI t, p, f, if (!fromF (wordI t) && valueF (wordI t)) = true then memV t nValue else Tree.zero⟩
def opR (t : Tree) : Opn × Int :=
  if (t.kind == 7) = true then
    (if memOk t nOp = true then
      (if decide (wordI t > 0) = true then
        (if exactO t = true then
          (if ((pathR t nPath).2 == 0) = true then
            (if fromF (wordI t) = true then
              (if ((pathR t nFrom).2 == 0) = true then (opO t (pathR t nPath).1 (pathR t nFrom).1, 0) else (opO t [] [], (pathR t nFrom).2))
             else (opO t (pathR t nPath).1 [], 0))
           else (opO t [] [], (pathR t nPath).2))
         else (opO t [] [], 2))
       else (opO t [] [], 2))
     else (opO t [] [], 2))
  else (opO t [] [], 2)
def outO (r : Opn × Int) : COut := if (r.2 == 0) = true then .val (.agg (enc .opn r.1)) else .thr (errN r.2)
theorem con119 (t : Tree) (hk : (cutK t).length < 1000000000) (hk2 : t.k.length < 1000000000) (hz : ∀ x, (memV t x).s.size < 4294960000) : Con Tryz.prog I0 119 [.agg (encTree t)] (outO (opR t)) := by
 have hx1 := idxT_in (memV t (ba [111, 112])).s wordsL
 have hw6 : wordsL.length = 6 := rfl
 refine con_of Tryz.func119 rfl (Nat.le_of_ble_eq_true rfl) stab (fun w0 fz a hI hs => ?_)
 rcases bt (t.kind == 7) with b1 | b1
 ·skip
  have n1 := eq_of_beq b1
  rcases bt (memOk t (ba [111, 112])) with b2 | b2
  ·skip
   rcases bt (decide (((idxT ((memV t (ba [111, 112])).s) wordsL) + 1) > 0)) with b3 | b3
   ·skip
    have n3 := of_decide_eq_true b3
    rcases bt (fromF ((idxT ((memV t (ba [111, 112])).s) wordsL) + 1)) with b4 | b4
    ·skip
     rcases bt (exactF t ([(ba [102, 114, 111, 109]), (ba [111, 112]), (ba [112, 97, 116, 104])])) with b5 | b5
     ·skip
      rcases bt ((pathR t (ba [112, 97, 116, 104])).2 == 0) with b6 | b6
      ·skip
       have n6 := eq_of_beq b6
       rcases bt ((pathR t (ba [102, 114, 111, 109])).2 == 0) with b7 | b7
       ·skip
        have n7 := eq_of_beq b7
        refine wL hs hI [(1, ⟨[(3, ciV 118 [vb (t.kind == 7), vi 2] (.tup []))], [], []⟩), (2, ⟨[(0, ciV 115 [] (rwS wordsL)), (2, ciV 121 [aTr (t), vs (ba [111, 112])] (vs ((memV t (ba [111, 112])).s))), (3, ciV 171 [rwS wordsL, vs ((memV t (ba [111, 112])).s)] (vi (idxT ((memV t (ba [111, 112])).s) wordsL)))], [], []⟩), (3, ⟨[(3, ciV 118 [vb (decide (((idxT ((memV t (ba [111, 112])).s) wordsL) + 1) > 0)), vi 2] (.tup []))], [], []⟩), (5, ⟨[(2, ciV 113 [vi ((idxT ((memV t (ba [111, 112])).s) wordsL) + 1)] (vb (fromF ((idxT ((memV t (ba [111, 112])).s) wordsL) + 1))))], [], []⟩), (6, ⟨[(2, ciA 120 [aTr (t), rwS ([(ba [102, 114, 111, 109]), (ba [111, 112]), (ba [112, 97, 116, 104])])] [7001] [] (.val (.tup [])))], [], []⟩), (10, ⟨[(1, ciV 172 [aTr (t), vs (ba [112, 97, 116, 104])] (rwS ((pathR t (ba [112, 97, 116, 104])).1)))], [], []⟩), (11, ⟨[(2, ciV 113 [vi ((idxT ((memV t (ba [111, 112])).s) wordsL) + 1)] (vb (fromF ((idxT ((memV t (ba [111, 112])).s) wordsL) + 1))))], [], []⟩), (12, ⟨[(1, ciV 172 [aTr (t), vs (ba [102, 114, 111, 109])] (rwS ((pathR t (ba [102, 114, 111, 109])).1)))], [], []⟩)] [true, true] 9860740920090567954244459620118452609631960965926991772662068175000750 [InR .i64 ((idxT ((memV t (ba [111, 112])).s) wordsL) + 1), ty b4, ty b4] .ret [(2, .ptr 1001 0)] [(1001, .var [vi ((idxT ((memV t (ba [111, 112])).s) wordsL) + 1), rwS ((pathR t (ba [112, 97, 116, 104])).1), rwS ((pathR t (ba [102, 114, 111, 109])).1), vi 0, vb false, vb false, nilv, vi 0, vs (ba []), nilv, nilv])] ⟨⟨⟨ent118, con118y _ _ (by first | rfl | assumption | (simp_all; done))⟩, tv⟩, ⟨⟨ent115, con115⟩, ⟨ent121, con121y _ _ hk (by assumption)⟩, ⟨ent171, con171 _ _ (by decide)⟩, tv⟩, ⟨⟨ent118, con118y _ _ (by first | rfl | assumption | (simp_all; done))⟩, tv⟩, ⟨⟨ent113, con113 _⟩, tv⟩, ⟨⟨ent120, con120y _ _ hk2 (by decide) (by assumption)⟩, tv⟩, ⟨⟨ent172, outP_y (con172 _ _ hk (hz _)) (by assumption)⟩, tv⟩, ⟨⟨ent113, con113 _⟩, tv⟩, ⟨⟨ent172, outP_y (con172 _ _ hk (hz _)) (by assumption)⟩, tv⟩, tv⟩ ⟨(inR64 (by omega) (by omega)), b4, b4, tv⟩ fun a w hs => ?_
        exact rK (.val (.agg [vi ((idxT ((memV t (ba [111, 112])).s) wordsL) + 1), rwS ((pathR t (ba [112, 97, 116, 104])).1), rwS ((pathR t (ba [102, 114, 111, 109])).1), vi 0, vb false, vb false, rwU ([]), vi 0, vs (ba []), rwS ([]), rwT ([])])) [] hs (by rw [opR, if_pos (show (t.kind == 7) = true from b1), if_pos (show memOk t nOp = true from b2), if_pos (show decide (wordI t > 0) = true from b3), if_pos (show exactO t = true from (by rw [exactO, if_pos (show fromF (wordI t) = true from b4)]; exact b5)), if_pos (show ((pathR t nPath).2 == 0) = true from b6), if_pos (show fromF (wordI t) = true from b4), if_pos (show ((pathR t nFrom).2 == 0) = true from b7), show opO t (pathR t nPath).1 (pathR t nFrom).1 = ⟨wordI t, (pathR t nPath).1, (pathR t nFrom).1, Tree.zero⟩ from by rw [opO, if_neg (by rw [show (!fromF (wordI t) && valueF (wordI t)) = false from by rw [show fromF (wordI t) = true from b4]; rfl]; decide)]]; rfl)
       ·skip
        have n7 := beq_eq_false_iff_ne.1 b7
        refine wL hs hI [(1, ⟨[(3, ciV 118 [vb (t.kind == 7), vi 2] (.tup []))], [], []⟩), (2, ⟨[(0, ciV 115 [] (rwS wordsL)), (2, ciV 121 [aTr (t), vs (ba [111, 112])] (vs ((memV t (ba [111, 112])).s))), (3, ciV 171 [rwS wordsL, vs ((memV t (ba [111, 112])).s)] (vi (idxT ((memV t (ba [111, 112])).s) wordsL)))], [], []⟩), (3, ⟨[(3, ciV 118 [vb (decide (((idxT ((memV t (ba [111, 112])).s) wordsL) + 1) > 0)), vi 2] (.tup []))], [], []⟩), (5, ⟨[(2, ciV 113 [vi ((idxT ((memV t (ba [111, 112])).s) wordsL) + 1)] (vb (fromF ((idxT ((memV t (ba [111, 112])).s) wordsL) + 1))))], [], []⟩), (6, ⟨[(2, ciA 120 [aTr (t), rwS ([(ba [102, 114, 111, 109]), (ba [111, 112]), (ba [112, 97, 116, 104])])] [7001] [] (.val (.tup [])))], [], []⟩), (10, ⟨[(1, ciV 172 [aTr (t), vs (ba [112, 97, 116, 104])] (rwS ((pathR t (ba [112, 97, 116, 104])).1)))], [], []⟩), (11, ⟨[(2, ciV 113 [vi ((idxT ((memV t (ba [111, 112])).s) wordsL) + 1)] (vb (fromF ((idxT ((memV t (ba [111, 112])).s) wordsL) + 1))))], [], []⟩), (12, ⟨[(1, ciA 172 [aTr (t), vs (ba [102, 114, 111, 109])] [] [] (.thr (.iface 38 (.int .i64 ((pathR t (ba [102, 114, 111, 109])).2)))))], [], []⟩)] [true, true] 1615588351475049855169092745115451632883632552634144591016375 [InR .i64 ((idxT ((memV t (ba [111, 112])).s) wordsL) + 1), ty b4, ty b4] (.thr (.iface 38 (.int .i64 ((pathR t (ba [102, 114, 111, 109])).2)))) [] [] ⟨⟨⟨ent118, con118y _ _ (by first | rfl | assumption | (simp_all; done))⟩, tv⟩, ⟨⟨ent115, con115⟩, ⟨ent121, con121y _ _ hk (by assumption)⟩, ⟨ent171, con171 _ _ (by decide)⟩, tv⟩, ⟨⟨ent118, con118y _ _ (by first | rfl | assumption | (simp_all; done))⟩, tv⟩, ⟨⟨ent113, con113 _⟩, tv⟩, ⟨⟨ent120, con120y _ _ hk2 (by decide) (by assumption)⟩, tv⟩, ⟨⟨ent172, outP_y (con172 _ _ hk (hz _)) (by assumption)⟩, tv⟩, ⟨⟨ent113, con113 _⟩, tv⟩, ⟨⟨ent172, outP_n (con172 _ _ hk (hz _)) (by assumption)⟩, tv⟩, tv⟩ ⟨(inR64 (by omega) (by omega)), b4, b4, tv⟩ fun a w hs => ?_
        exact tK (.iface 38 (.int .i64 ((pathR t (ba [102, 114, 111, 109])).2))) hs (by rw [opR, if_pos (show (t.kind == 7) = true from b1), if_pos (show memOk t nOp = true from b2), if_pos (show decide (wordI t > 0) = true from b3), if_pos (show exactO t = true from (by rw [exactO, if_pos (show fromF (wordI t) = true from b4)]; exact b5)), if_pos (show ((pathR t nPath).2 == 0) = true from b6), if_pos (show fromF (wordI t) = true from b4), if_neg (by rw [show ((pathR t nFrom).2 == 0) = false from b7]; decide), outO, if_neg (by rw [b7]; decide)])
      ·skip
       have n6 := beq_eq_false_iff_ne.1 b6
       refine wL hs hI [(1, ⟨[(3, ciV 118 [vb (t.kind == 7), vi 2] (.tup []))], [], []⟩), (2, ⟨[(0, ciV 115 [] (rwS wordsL)), (2, ciV 121 [aTr (t), vs (ba [111, 112])] (vs ((memV t (ba [111, 112])).s))), (3, ciV 171 [rwS wordsL, vs ((memV t (ba [111, 112])).s)] (vi (idxT ((memV t (ba [111, 112])).s) wordsL)))], [], []⟩), (3, ⟨[(3, ciV 118 [vb (decide (((idxT ((memV t (ba [111, 112])).s) wordsL) + 1) > 0)), vi 2] (.tup []))], [], []⟩), (5, ⟨[(2, ciV 113 [vi ((idxT ((memV t (ba [111, 112])).s) wordsL) + 1)] (vb (fromF ((idxT ((memV t (ba [111, 112])).s) wordsL) + 1))))], [], []⟩), (6, ⟨[(2, ciA 120 [aTr (t), rwS ([(ba [102, 114, 111, 109]), (ba [111, 112]), (ba [112, 97, 116, 104])])] [7001] [] (.val (.tup [])))], [], []⟩), (10, ⟨[(1, ciA 172 [aTr (t), vs (ba [112, 97, 116, 104])] [] [] (.thr (.iface 38 (.int .i64 ((pathR t (ba [112, 97, 116, 104])).2)))))], [], []⟩)] [true] 16942220189037897855539923766624937916563672625 [InR .i64 ((idxT ((memV t (ba [111, 112])).s) wordsL) + 1), ty b4] (.thr (.iface 38 (.int .i64 ((pathR t (ba [112, 97, 116, 104])).2)))) [] [] ⟨⟨⟨ent118, con118y _ _ (by first | rfl | assumption | (simp_all; done))⟩, tv⟩, ⟨⟨ent115, con115⟩, ⟨ent121, con121y _ _ hk (by assumption)⟩, ⟨ent171, con171 _ _ (by decide)⟩, tv⟩, ⟨⟨ent118, con118y _ _ (by first | rfl | assumption | (simp_all; done))⟩, tv⟩, ⟨⟨ent113, con113 _⟩, tv⟩, ⟨⟨ent120, con120y _ _ hk2 (by decide) (by assumption)⟩, tv⟩, ⟨⟨ent172, outP_n (con172 _ _ hk (hz _)) (by assumption)⟩, tv⟩, tv⟩ ⟨(inR64 (by omega) (by omega)), b4, tv⟩ fun a w hs => ?_
       exact tK (.iface 38 (.int .i64 ((pathR t (ba [112, 97, 116, 104])).2))) hs (by rw [opR, if_pos (show (t.kind == 7) = true from b1), if_pos (show memOk t nOp = true from b2), if_pos (show decide (wordI t > 0) = true from b3), if_pos (show exactO t = true from (by rw [exactO, if_pos (show fromF (wordI t) = true from b4)]; exact b5)), if_neg (by rw [show ((pathR t nPath).2 == 0) = false from b6]; decide), outO, if_neg (by rw [b6]; decide)])
     ·skip
      refine wL hs hI [(1, ⟨[(3, ciV 118 [vb (t.kind == 7), vi 2] (.tup []))], [], []⟩), (2, ⟨[(0, ciV 115 [] (rwS wordsL)), (2, ciV 121 [aTr (t), vs (ba [111, 112])] (vs ((memV t (ba [111, 112])).s))), (3, ciV 171 [rwS wordsL, vs ((memV t (ba [111, 112])).s)] (vi (idxT ((memV t (ba [111, 112])).s) wordsL)))], [], []⟩), (3, ⟨[(3, ciV 118 [vb (decide (((idxT ((memV t (ba [111, 112])).s) wordsL) + 1) > 0)), vi 2] (.tup []))], [], []⟩), (5, ⟨[(2, ciV 113 [vi ((idxT ((memV t (ba [111, 112])).s) wordsL) + 1)] (vb (fromF ((idxT ((memV t (ba [111, 112])).s) wordsL) + 1))))], [], []⟩), (6, ⟨[(2, ciA 120 [aTr (t), rwS ([(ba [102, 114, 111, 109]), (ba [111, 112]), (ba [112, 97, 116, 104])])] [7001] [] (.thr (.iface 38 (.int .i64 2))))], [], []⟩)] [true] 1084206098227698474075878036032582091016375 [InR .i64 ((idxT ((memV t (ba [111, 112])).s) wordsL) + 1), ty b4] (.thr (.iface 38 (.int .i64 2))) [] [] ⟨⟨⟨ent118, con118y _ _ (by first | rfl | assumption | (simp_all; done))⟩, tv⟩, ⟨⟨ent115, con115⟩, ⟨ent121, con121y _ _ hk (by assumption)⟩, ⟨ent171, con171 _ _ (by decide)⟩, tv⟩, ⟨⟨ent118, con118y _ _ (by first | rfl | assumption | (simp_all; done))⟩, tv⟩, ⟨⟨ent113, con113 _⟩, tv⟩, ⟨⟨ent120, con120n _ _ hk2 (by decide) (by assumption)⟩, tv⟩, tv⟩ ⟨(inR64 (by omega) (by omega)), b4, tv⟩ fun a w hs => ?_
      exact tK (.iface 38 (.int .i64 2)) hs (by rw [opR, if_pos (show (t.kind == 7) = true from b1), if_pos (show memOk t nOp = true from b2), if_pos (show decide (wordI t > 0) = true from b3), if_neg (by rw [show exactO t = false from (by rw [exactO, if_pos (show fromF (wordI t) = true from b4)]; exact b5)]; decide)]; rfl)
    ·skip
     rcases bt (valueF ((idxT ((memV t (ba [111, 112])).s) wordsL) + 1)) with b8 | b8
     ·skip
      rcases bt (exactF t ([(ba [111, 112]), (ba [112, 97, 116, 104]), (ba [118, 97, 108, 117, 101])])) with b9 | b9
      ·skip
       rcases bt ((pathR t (ba [112, 97, 116, 104])).2 == 0) with b10 | b10
       ·skip
        have n10 := eq_of_beq b10
        refine wL hs hI [(1, ⟨[(3, ciV 118 [vb (t.kind == 7), vi 2] (.tup []))], [], []⟩), (2, ⟨[(0, ciV 115 [] (rwS wordsL)), (2, ciV 121 [aTr (t), vs (ba [111, 112])] (vs ((memV t (ba [111, 112])).s))), (3, ciV 171 [rwS wordsL, vs ((memV t (ba [111, 112])).s)] (vi (idxT ((memV t (ba [111, 112])).s) wordsL)))], [], []⟩), (3, ⟨[(3, ciV 118 [vb (decide (((idxT ((memV t (ba [111, 112])).s) wordsL) + 1) > 0)), vi 2] (.tup []))], [], []⟩), (5, ⟨[(2, ciV 113 [vi ((idxT ((memV t (ba [111, 112])).s) wordsL) + 1)] (vb (fromF ((idxT ((memV t (ba [111, 112])).s) wordsL) + 1))))], [], []⟩), (7, ⟨[(2, ciV 116 [vi ((idxT ((memV t (ba [111, 112])).s) wordsL) + 1)] (vb (valueF ((idxT ((memV t (ba [111, 112])).s) wordsL) + 1))))], [], []⟩), (8, ⟨[(2, ciA 120 [aTr (t), rwS ([(ba [111, 112]), (ba [112, 97, 116, 104]), (ba [118, 97, 108, 117, 101])])] [9001] [] (.val (.tup [])))], [], []⟩), (9, ⟨[(1, ciV 122 [aTr (t), vs (ba [118, 97, 108, 117, 101])] (.tup [aTr ((memV t (ba [118, 97, 108, 117, 101]))), vb (memB t (ba [118, 97, 108, 117, 101]))]))], [], []⟩), (10, ⟨[(1, ciV 172 [aTr (t), vs (ba [112, 97, 116, 104])] (rwS ((pathR t (ba [112, 97, 116, 104])).1)))], [], []⟩), (11, ⟨[(2, ciV 113 [vi ((idxT ((memV t (ba [111, 112])).s) wordsL) + 1)] (vb (fromF ((idxT ((memV t (ba [111, 112])).s) wordsL) + 1))))], [], []⟩)] [false, true, false] 940393535618715243922968127047940669055101471924857919022995630512011061573790235125 [InR .i64 ((idxT ((memV t (ba [111, 112])).s) wordsL) + 1), ty b4, ty b8, ty b4] .ret [(2, .ptr 1001 0)] [(1001, .var [vi ((idxT ((memV t (ba [111, 112])).s) wordsL) + 1), rwS ((pathR t (ba [112, 97, 116, 104])).1), nilv, vi ((memV t (ba [118, 97, 108, 117, 101])).kind), vb ((memV t (ba [118, 97, 108, 117, 101])).b), vb ((memV t (ba [118, 97, 108, 117, 101])).n.neg), rwU ((memV t (ba [118, 97, 108, 117, 101])).n.m), vi ((memV t (ba [118, 97, 108, 117, 101])).n.e), vs ((memV t (ba [118, 97, 108, 117, 101])).s), rwS ((memV t (ba [118, 97, 108, 117, 101])).k), rwT ((memV t (ba [118, 97, 108, 117, 101])).v)])] ⟨⟨⟨ent118, con118y _ _ (by first | rfl | assumption | (simp_all; done))⟩, tv⟩, ⟨⟨ent115, con115⟩, ⟨ent121, con121y _ _ hk (by assumption)⟩, ⟨ent171, con171 _ _ (by decide)⟩, tv⟩, ⟨⟨ent118, con118y _ _ (by first | rfl | assumption | (simp_all; done))⟩, tv⟩, ⟨⟨ent113, con113 _⟩, tv⟩, ⟨⟨ent116, con116 _⟩, tv⟩, ⟨⟨ent120, con120y _ _ hk2 (by decide) (by assumption)⟩, tv⟩, ⟨⟨ent122, con122 _ _ (by omega)⟩, tv⟩, ⟨⟨ent172, outP_y (con172 _ _ hk (hz _)) (by assumption)⟩, tv⟩, ⟨⟨ent113, con113 _⟩, tv⟩, tv⟩ ⟨(inR64 (by omega) (by omega)), b4, b8, b4, tv⟩ fun a w hs => ?_
        exact rK (.val (.agg [vi ((idxT ((memV t (ba [111, 112])).s) wordsL) + 1), rwS ((pathR t (ba [112, 97, 116, 104])).1), rwS ([]), vi ((memV t (ba [118, 97, 108, 117, 101])).kind), vb ((memV t (ba [118, 97, 108, 117, 101])).b), vb ((memV t (ba [118, 97, 108, 117, 101])).n.neg), rwU ((memV t (ba [118, 97, 108, 117, 101])).n.m), vi ((memV t (ba [118, 97, 108, 117, 101])).n.e), vs ((memV t (ba [118, 97, 108, 117, 101])).s), rwS ((memV t (ba [118, 97, 108, 117, 101])).k), rwT ((memV t (ba [118, 97, 108, 117, 101])).v)])) [] hs (by rw [opR, if_pos (show (t.kind == 7) = true from b1), if_pos (show memOk t nOp = true from b2), if_pos (show decide (wordI t > 0) = true from b3), if_pos (show exactO t = true from (by rw [exactO, if_neg (by rw [show fromF (wordI t) = false from b4]; decide), if_pos (show valueF (wordI t) = true from b8)]; exact b9)), if_pos (show ((pathR t nPath).2 == 0) = true from b10), if_neg (by rw [show fromF (wordI t) = false from b4]; decide), show opO t (pathR t nPath).1 [] = ⟨wordI t, (pathR t nPath).1, [], memV t nValue⟩ from by rw [opO, if_pos (by rw [show (!fromF (wordI t) && valueF (wordI t)) = true from by rw [show fromF (wordI t) = false from b4, show valueF (wordI t) = true from b8]; rfl])]]; rfl)
       ·skip
        have n10 := beq_eq_false_iff_ne.1 b10
        refine wL hs hI [(1, ⟨[(3, ciV 118 [vb (t.kind == 7), vi 2] (.tup []))], [], []⟩), (2, ⟨[(0, ciV 115 [] (rwS wordsL)), (2, ciV 121 [aTr (t), vs (ba [111, 112])] (vs ((memV t (ba [111, 112])).s))), (3, ciV 171 [rwS wordsL, vs ((memV t (ba [111, 112])).s)] (vi (idxT ((memV t (ba [111, 112])).s) wordsL)))], [], []⟩), (3, ⟨[(3, ciV 118 [vb (decide (((idxT ((memV t (ba [111, 112])).s) wordsL) + 1) > 0)), vi 2] (.tup []))], [], []⟩), (5, ⟨[(2, ciV 113 [vi ((idxT ((memV t (ba [111, 112])).s) wordsL) + 1)] (vb (fromF ((idxT ((memV t (ba [111, 112])).s) wordsL) + 1))))], [], []⟩), (7, ⟨[(2, ciV 116 [vi ((idxT ((memV t (ba [111, 112])).s) wordsL) + 1)] (vb (valueF ((idxT ((memV t (ba [111, 112])).s) wordsL) + 1))))], [], []⟩), (8, ⟨[(2, ciA 120 [aTr (t), rwS ([(ba [111, 112]), (ba [112, 97, 116, 104]), (ba [118, 97, 108, 117, 101])])] [9001] [] (.val (.tup [])))], [], []⟩), (9, ⟨[(1, ciV 122 [aTr (t), vs (ba [118, 97, 108, 117, 101])] (.tup [aTr ((memV t (ba [118, 97, 108, 117, 101]))), vb (memB t (ba [118, 97, 108, 117, 101]))]))], [], []⟩), (10, ⟨[(1, ciA 172 [aTr (t), vs (ba [112, 97, 116, 104])] [] [] (.thr (.iface 38 (.int .i64 ((pathR t (ba [112, 97, 116, 104])).2)))))], [], []⟩)] [false, true] 631146885313622962676181936687620493105439819628369818592833203875 [InR .i64 ((idxT ((memV t (ba [111, 112])).s) wordsL) + 1), ty b4, ty b8] (.thr (.iface 38 (.int .i64 ((pathR t (ba [112, 97, 116, 104])).2)))) [] [] ⟨⟨⟨ent118, con118y _ _ (by first | rfl | assumption | (simp_all; done))⟩, tv⟩, ⟨⟨ent115, con115⟩, ⟨ent121, con121y _ _ hk (by assumption)⟩, ⟨ent171, con171 _ _ (by decide)⟩, tv⟩, ⟨⟨ent118, con118y _ _ (by first | rfl | assumption | (simp_all; done))⟩, tv⟩, ⟨⟨ent113, con113 _⟩, tv⟩, ⟨⟨ent116, con116 _⟩, tv⟩, ⟨⟨ent120, con120y _ _ hk2 (by decide) (by assumption)⟩, tv⟩, ⟨⟨ent122, con122 _ _ (by omega)⟩, tv⟩, ⟨⟨ent172, outP_n (con172 _ _ hk (hz _)) (by assumption)⟩, tv⟩, tv⟩ ⟨(inR64 (by omega) (by omega)), b4, b8, tv⟩ fun a w hs => ?_
        exact tK (.iface 38 (.int .i64 ((pathR t (ba [112, 97, 116, 104])).2))) hs (by rw [opR, if_pos (show (t.kind == 7) = true from b1), if_pos (show memOk t nOp = true from b2), if_pos (show decide (wordI t > 0) = true from b3), if_pos (show exactO t = true from (by rw [exactO, if_neg (by rw [show fromF (wordI t) = false from b4]; decide), if_pos (show valueF (wordI t) = true from b8)]; exact b9)), if_neg (by rw [show ((pathR t nPath).2 == 0) = false from b10]; decide), outO, if_neg (by rw [b10]; decide)])
      ·skip
       refine wL hs hI [(1, ⟨[(3, ciV 118 [vb (t.kind == 7), vi 2] (.tup []))], [], []⟩), (2, ⟨[(0, ciV 115 [] (rwS wordsL)), (2, ciV 121 [aTr (t), vs (ba [111, 112])] (vs ((memV t (ba [111, 112])).s))), (3, ciV 171 [rwS wordsL, vs ((memV t (ba [111, 112])).s)] (vi (idxT ((memV t (ba [111, 112])).s) wordsL)))], [], []⟩), (3, ⟨[(3, ciV 118 [vb (decide (((idxT ((memV t (ba [111, 112])).s) wordsL) + 1) > 0)), vi 2] (.tup []))], [], []⟩), (5, ⟨[(2, ciV 113 [vi ((idxT ((memV t (ba [111, 112])).s) wordsL) + 1)] (vb (fromF ((idxT ((memV t (ba [111, 112])).s) wordsL) + 1))))], [], []⟩), (7, ⟨[(2, ciV 116 [vi ((idxT ((memV t (ba [111, 112])).s) wordsL) + 1)] (vb (valueF ((idxT ((memV t (ba [111, 112])).s) wordsL) + 1))))], [], []⟩), (8, ⟨[(2, ciA 120 [aTr (t), rwS ([(ba [111, 112]), (ba [112, 97, 116, 104]), (ba [118, 97, 108, 117, 101])])] [9001] [] (.thr (.iface 38 (.int .i64 2))))], [], []⟩)] [false, true] 264697834354294987407004098641918969164753721875750 [InR .i64 ((idxT ((memV t (ba [111, 112])).s) wordsL) + 1), ty b4, ty b8] (.thr (.iface 38 (.int .i64 2))) [] [] ⟨⟨⟨ent118, con118y _ _ (by first | rfl | assumption | (simp_all; done))⟩, tv⟩, ⟨⟨ent115, con115⟩, ⟨ent121, con121y _ _ hk (by assumption)⟩, ⟨ent171, con171 _ _ (by decide)⟩, tv⟩, ⟨⟨ent118, con118y _ _ (by first | rfl | assumption | (simp_all; done))⟩, tv⟩, ⟨⟨ent113, con113 _⟩, tv⟩, ⟨⟨ent116, con116 _⟩, tv⟩, ⟨⟨ent120, con120n _ _ hk2 (by decide) (by assumption)⟩, tv⟩, tv⟩ ⟨(inR64 (by omega) (by omega)), b4, b8, tv⟩ fun a w hs => ?_
       exact tK (.iface 38 (.int .i64 2)) hs (by rw [opR, if_pos (show (t.kind == 7) = true from b1), if_pos (show memOk t nOp = true from b2), if_pos (show decide (wordI t > 0) = true from b3), if_neg (by rw [show exactO t = false from (by rw [exactO, if_neg (by rw [show fromF (wordI t) = false from b4]; decide), if_pos (show valueF (wordI t) = true from b8)]; exact b9)]; decide)]; rfl)
     ·skip
      rcases bt (exactF t ([(ba [111, 112]), (ba [112, 97, 116, 104])])) with b11 | b11
      ·skip
       rcases bt ((pathR t (ba [112, 97, 116, 104])).2 == 0) with b12 | b12
       ·skip
        have n12 := eq_of_beq b12
        refine wL hs hI [(1, ⟨[(3, ciV 118 [vb (t.kind == 7), vi 2] (.tup []))], [], []⟩), (2, ⟨[(0, ciV 115 [] (rwS wordsL)), (2, ciV 121 [aTr (t), vs (ba [111, 112])] (vs ((memV t (ba [111, 112])).s))), (3, ciV 171 [rwS wordsL, vs ((memV t (ba [111, 112])).s)] (vi (idxT ((memV t (ba [111, 112])).s) wordsL)))], [], []⟩), (3, ⟨[(3, ciV 118 [vb (decide (((idxT ((memV t (ba [111, 112])).s) wordsL) + 1) > 0)), vi 2] (.tup []))], [], []⟩), (5, ⟨[(2, ciV 113 [vi ((idxT ((memV t (ba [111, 112])).s) wordsL) + 1)] (vb (fromF ((idxT ((memV t (ba [111, 112])).s) wordsL) + 1))))], [], []⟩), (7, ⟨[(2, ciV 116 [vi ((idxT ((memV t (ba [111, 112])).s) wordsL) + 1)] (vb (valueF ((idxT ((memV t (ba [111, 112])).s) wordsL) + 1))))], [], []⟩), (4, ⟨[(2, ciA 120 [aTr (t), rwS ([(ba [111, 112]), (ba [112, 97, 116, 104])])] [5001] [] (.val (.tup [])))], [], []⟩), (10, ⟨[(1, ciV 172 [aTr (t), vs (ba [112, 97, 116, 104])] (rwS ((pathR t (ba [112, 97, 116, 104])).1)))], [], []⟩), (11, ⟨[(2, ciV 113 [vi ((idxT ((memV t (ba [111, 112])).s) wordsL) + 1)] (vb (fromF ((idxT ((memV t (ba [111, 112])).s) wordsL) + 1))))], [], []⟩)] [false, false, false] 6162963075030812222573563917351344438917408981522313551974306965635938250 [InR .i64 ((idxT ((memV t (ba [111, 112])).s) wordsL) + 1), ty b4, ty b8, ty b4] .ret [(2, .ptr 1001 0)] [(1001, .var [vi ((idxT ((memV t (ba [111, 112])).s) wordsL) + 1), rwS ((pathR t (ba [112, 97, 116, 104])).1), nilv, vi 0, vb false, vb false, nilv, vi 0, vs (ba []), nilv, nilv])] ⟨⟨⟨ent118, con118y _ _ (by first | rfl | assumption | (simp_all; done))⟩, tv⟩, ⟨⟨ent115, con115⟩, ⟨ent121, con121y _ _ hk (by assumption)⟩, ⟨ent171, con171 _ _ (by decide)⟩, tv⟩, ⟨⟨ent118, con118y _ _ (by first | rfl | assumption | (simp_all; done))⟩, tv⟩, ⟨⟨ent113, con113 _⟩, tv⟩, ⟨⟨ent116, con116 _⟩, tv⟩, ⟨⟨ent120, con120y _ _ hk2 (by decide) (by assumption)⟩, tv⟩, ⟨⟨ent172, outP_y (con172 _ _ hk (hz _)) (by assumption)⟩, tv⟩, ⟨⟨ent113, con113 _⟩, tv⟩, tv⟩ ⟨(inR64 (by omega) (by omega)), b4, b8, b4, tv⟩ fun a w hs => ?_
        exact rK (.val (.agg [vi ((idxT ((memV t (ba [111, 112])).s) wordsL) + 1), rwS ((pathR t (ba [112, 97, 116, 104])).1), rwS ([]), vi 0, vb false, vb false, rwU ([]), vi 0, vs (ba []), rwS ([]), rwT ([])])) [] hs (by rw [opR, if_pos (show (t.kind == 7) = true from b1), if_pos (show memOk t nOp = true from b2), if_pos (show decide (wordI t > 0) = true from b3), if_pos (show exactO t = true from (by rw [exactO, if_neg (by rw [show fromF (wordI t) = false from b4]; decide), if_neg (by rw [show valueF (wordI t) = false from b8]; decide)]; exact b11)), if_pos (show ((pathR t nPath).2 == 0) = true from b12), if_neg (by rw [show fromF (wordI t) = false from b4]; decide), show opO t (pathR t nPath).1 [] = ⟨wordI t, (pathR t nPath).1, [], Tree.zero⟩ from by rw [opO, if_neg (by rw [show (!fromF (wordI t) && valueF (wordI t)) = false from by rw [show fromF (wordI t) = false from b4, show valueF (wordI t) = false from b8]; rfl]; decide)]]; rfl)
       ·skip
        have n12 := beq_eq_false_iff_ne.1 b12
        refine wL hs hI [(1, ⟨[(3, ciV 118 [vb (t.kind == 7), vi 2] (.tup []))], [], []⟩), (2, ⟨[(0, ciV 115 [] (rwS wordsL)), (2, ciV 121 [aTr (t), vs (ba [111, 112])] (vs ((memV t (ba [111, 112])).s))), (3, ciV 171 [rwS wordsL, vs ((memV t (ba [111, 112])).s)] (vi (idxT ((memV t (ba [111, 112])).s) wordsL)))], [], []⟩), (3, ⟨[(3, ciV 118 [vb (decide (((idxT ((memV t (ba [111, 112])).s) wordsL) + 1) > 0)), vi 2] (.tup []))], [], []⟩), (5, ⟨[(2, ciV 113 [vi ((idxT ((memV t (ba [111, 112])).s) wordsL) + 1)] (vb (fromF ((idxT ((memV t (ba [111, 112])).s) wordsL) + 1))))], [], []⟩), (7, ⟨[(2, ciV 116 [vi ((idxT ((memV t (ba [111, 112])).s) wordsL) + 1)] (vb (valueF ((idxT ((memV t (ba [111, 112])).s) wordsL) + 1))))], [], []⟩), (4, ⟨[(2, ciA 120 [aTr (t), rwS ([(ba [111, 112]), (ba [112, 97, 116, 104])])] [5001] [] (.val (.tup [])))], [], []⟩), (10, ⟨[(1, ciA 172 [aTr (t), vs (ba [112, 97, 116, 104])] [] [] (.thr (.iface 38 (.int .i64 ((pathR t (ba [112, 97, 116, 104])).2)))))], [], []⟩)] [false, false] 4136284227521319918392521915391554357481013203428907000 [InR .i64 ((idxT ((memV t (ba [111, 112])).s) wordsL) + 1), ty b4, ty b8] (.thr (.iface 38 (.int .i64 ((pathR t (ba [112, 97, 116, 104])).2)))) [] [] ⟨⟨⟨ent118, con118y _ _ (by first | rfl | assumption | (simp_all; done))⟩, tv⟩, ⟨⟨ent115, con115⟩, ⟨ent121, con121y _ _ hk (by assumption)⟩, ⟨ent171, con171 _ _ (by decide)⟩, tv⟩, ⟨⟨ent118, con118y _ _ (by first | rfl | assumption | (simp_all; done))⟩, tv⟩, ⟨⟨ent113, con113 _⟩, tv⟩, ⟨⟨ent116, con116 _⟩, tv⟩, ⟨⟨ent120, con120y _ _ hk2 (by decide) (by assumption)⟩, tv⟩, ⟨⟨ent172, outP_n (con172 _ _ hk (hz _)) (by assumption)⟩, tv⟩, tv⟩ ⟨(inR64 (by omega) (by omega)), b4, b8, tv⟩ fun a w hs => ?_
        exact tK (.iface 38 (.int .i64 ((pathR t (ba [112, 97, 116, 104])).2))) hs (by rw [opR, if_pos (show (t.kind == 7) = true from b1), if_pos (show memOk t nOp = true from b2), if_pos (show decide (wordI t > 0) = true from b3), if_pos (show exactO t = true from (by rw [exactO, if_neg (by rw [show fromF (wordI t) = false from b4]; decide), if_neg (by rw [show valueF (wordI t) = false from b8]; decide)]; exact b11)), if_neg (by rw [show ((pathR t nPath).2 == 0) = false from b12]; decide), outO, if_neg (by rw [b12]; decide)])
      ·skip
       refine wL hs hI [(1, ⟨[(3, ciV 118 [vb (t.kind == 7), vi 2] (.tup []))], [], []⟩), (2, ⟨[(0, ciV 115 [] (rwS wordsL)), (2, ciV 121 [aTr (t), vs (ba [111, 112])] (vs ((memV t (ba [111, 112])).s))), (3, ciV 171 [rwS wordsL, vs ((memV t (ba [111, 112])).s)] (vi (idxT ((memV t (ba [111, 112])).s) wordsL)))], [], []⟩), (3, ⟨[(3, ciV 118 [vb (decide (((idxT ((memV t (ba [111, 112])).s) wordsL) + 1) > 0)), vi 2] (.tup []))], [], []⟩), (5, ⟨[(2, ciV 113 [vi ((idxT ((memV t (ba [111, 112])).s) wordsL) + 1)] (vb (fromF ((idxT ((memV t (ba [111, 112])).s) wordsL) + 1))))], [], []⟩), (7, ⟨[(2, ciV 116 [vi ((idxT ((memV t (ba [111, 112])).s) wordsL) + 1)] (vb (valueF ((idxT ((memV t (ba [111, 112])).s) wordsL) + 1))))], [], []⟩), (4, ⟨[(2, ciA 120 [aTr (t), rwS ([(ba [111, 112]), (ba [112, 97, 116, 104])])] [5001] [] (.thr (.iface 38 (.int .i64 2))))], [], []⟩)] [false, false] 264697834354294987407004098641918969164753721875750 [InR .i64 ((idxT ((memV t (ba [111, 112])).s) wordsL) + 1), ty b4, ty b8] (.thr (.iface 38 (.int .i64 2))) [] [] ⟨⟨⟨ent118, con118y _ _ (by first | rfl | assumption | (simp_all; done))⟩, tv⟩, ⟨⟨ent115, con115⟩, ⟨ent121, con121y _ _ hk (by assumption)⟩, ⟨ent171, con171 _ _ (by decide)⟩, tv⟩, ⟨⟨ent118, con118y _ _ (by first | rfl | assumption | (simp_all; done))⟩, tv⟩, ⟨⟨ent113, con113 _⟩, tv⟩, ⟨⟨ent116, con116 _⟩, tv⟩, ⟨⟨ent120, con120n _ _ hk2 (by decide) (by assumption)⟩, tv⟩, tv⟩ ⟨(inR64 (by omega) (by omega)), b4, b8, tv⟩ fun a w hs => ?_
       exact tK (.iface 38 (.int .i64 2)) hs (by rw [opR, if_pos (show (t.kind == 7) = true from b1), if_pos (show memOk t nOp = true from b2), if_pos (show decide (wordI t > 0) = true from b3), if_neg (by rw [show exactO t = false from (by rw [exactO, if_neg (by rw [show fromF (wordI t) = false from b4]; decide), if_neg (by rw [show valueF (wordI t) = false from b8]; decide)]; exact b11)]; decide)]; rfl)
   ·skip
    have n3 := of_decide_eq_false b3
    refine wL hs hI [(1, ⟨[(3, ciV 118 [vb (t.kind == 7), vi 2] (.tup []))], [], []⟩), (2, ⟨[(0, ciV 115 [] (rwS wordsL)), (2, ciV 121 [aTr (t), vs (ba [111, 112])] (vs ((memV t (ba [111, 112])).s))), (3, ciV 171 [rwS wordsL, vs ((memV t (ba [111, 112])).s)] (vi (idxT ((memV t (ba [111, 112])).s) wordsL)))], [], []⟩), (3, ⟨[(3, ciA 118 [vb (decide (((idxT ((memV t (ba [111, 112])).s) wordsL) + 1) > 0)), vi 2] [] [] (.thr (.iface 38 (.int .i64 2))))], [], []⟩)] [] 11369703570377837086485547625 [InR .i64 ((idxT ((memV t (ba [111, 112])).s) wordsL) + 1)] (.thr (.iface 38 (.int .i64 2))) [] [] ⟨⟨⟨ent118, con118y _ _ (by first | rfl | assumption | (simp_all; done))⟩, tv⟩, ⟨⟨ent115, con115⟩, ⟨ent121, con121y _ _ hk (by assumption)⟩, ⟨ent171, con171 _ _ (by decide)⟩, tv⟩, ⟨⟨ent118, con118n _ _ (by first | rfl | assumption | (simp_all; done))⟩, tv⟩, tv⟩ ⟨(inR64 (by omega) (by omega)), tv⟩ fun a w hs => ?_
    exact tK (.iface 38 (.int .i64 2)) hs (by rw [opR, if_pos (show (t.kind == 7) = true from b1), if_pos (show memOk t nOp = true from b2), if_neg (by rw [show decide (wordI t > 0) = false from b3]; decide)]; rfl)
  ·skip
   refine wL hs hI [(1, ⟨[(3, ciV 118 [vb (t.kind == 7), vi 2] (.tup []))], [], []⟩), (2, ⟨[(0, ciV 115 [] (rwS wordsL)), (2, ciA 121 [aTr (t), vs (ba [111, 112])] [] [] (.thr (.iface 38 (.int .i64 2))))], [], [3, 4, 5, 7]⟩)] [] 74501515196485125 [] (.thr (.iface 38 (.int .i64 2))) [] [] ⟨⟨⟨ent118, con118y _ _ (by first | rfl | assumption | (simp_all; done))⟩, tv⟩, ⟨⟨ent115, con115⟩, ⟨ent121, con121n _ _ hk (by assumption)⟩, tv⟩, tv⟩ tv fun a w hs => ?_
   exact tK (.iface 38 (.int .i64 2)) hs (by rw [opR, if_pos (show (t.kind == 7) = true from b1), if_neg (by rw [show memOk t nOp = false from b2]; decide)]; rfl)
 ·skip
  have n1 := beq_eq_false_iff_ne.1 b1
  refine wL hs hI [(1, ⟨[(3, ciA 118 [vb (t.kind == 7), vi 2] [] [] (.thr (.iface 38 (.int .i64 2))))], [], []⟩)] [] 305860125 [] (.thr (.iface 38 (.int .i64 2))) [] [] ⟨⟨⟨ent118, con118n _ _ (by first | rfl | assumption | (simp_all; done))⟩, tv⟩, tv⟩ tv fun a w hs => ?_
  exact tK (.iface 38 (.int .i64 2)) hs (by rw [opR, if_neg (by rw [show (t.kind == 7) = false from b1]; decide)]; rfl)
structure Pat where
 lang : Int
 ops : List Opn
 value : Tree
 mask : List (List ByteArray)
def Pat.zero : Pat := ⟨0, [], Tree.zero, []⟩
def encP (p : Pat) : List AV := vi p.lang :: .row .opn p.ops :: encTree p.value ++ [.row .strs p.mask]
abbrev nMask : ByteArray := ba [109, 97, 115, 107]
def readOps : List Tree → List Opn × Int
 | [] => ([], 0)
 | x :: l => if ((opR x).2 == 0) = true then ((opR x).1 :: (readOps l).1, (readOps l).2) else ([], (opR x).2)
theorem readOps_all : ∀ {l : List Tree}, (∀ j, j < l.length → ((opR (l.getD j (dflt .tree))).2 == 0) = true) → readOps l = (l.map (fun x => (opR x).1), 0)
 | [], _ => rfl
 | x :: l, h => by
  have h0 : ((opR x).2 == 0) = true := h 0 (by simp)
  have ih := readOps_all (l := l) (fun j hj => h (j + 1) (by simpa using hj))
  rw [readOps, if_pos h0, ih]; rfl
theorem readOps_at : ∀ {l : List Tree} {i : Nat}, i < l.length → (∀ j, j < i → ((opR (l.getD j (dflt .tree))).2 == 0) = true) → ((opR (l.getD i (dflt .tree))).2 == 0) = false → (readOps l).2 = (opR (l.getD i (dflt .tree))).2
 | [], _, h, _, _ => by simp at h
 | x :: l, 0, _, _, h => by
  have h0 : ((opR x).2 == 0) = false := h
  rw [readOps, if_neg (by rw [h0]; decide)]; rfl
 | x :: l, i + 1, hi, ha, h => by
  have h0 : ((opR x).2 == 0) = true := ha 0 (Nat.succ_pos i)
  have ih := readOps_at (l := l) (i := i) (by simpa using hi) (fun j hj => ha (j + 1) (by omega)) h
  rw [readOps, if_pos h0]; exact ih
def readR (lang : Int) (t : Tree) : Pat × Int :=
  if (decide (lang ≥ 1) && (decide (lang ≤ 3) && validT t)) = true then
    (if (lang == 1) = true then
      (if (t.kind == 6) = true then (if decide ((t.v.length : Int) ≤ 60) = true then (⟨lang, (readOps t.v).1, Tree.zero, []⟩, (readOps t.v).2) else (Pat.zero, 4)) else (Pat.zero, 2))
     else if (lang == 3) = true then
      (if exactF t [nMask, nValue] = true then (if memOk t nMask = true then (if ((parseF (memV t nMask).s).2 == 0) = true then (⟨lang, [], memV t nValue, (parseF (memV t nMask).s).1⟩, 0) else (Pat.zero, (parseF (memV t nMask).s).2)) else (Pat.zero, 2)) else (Pat.zero, 2))
     else (⟨lang, [], t, []⟩, 0))
  else (Pat.zero, 1)
def outR (r : Pat × Int) : COut := if (r.2 == 0) = true then .val (.agg (encP r.1)) else .thr (errN r.2)
theorem outO_y {P : Program} {I : World → Prop} {f : FuncId} {xs : List AV} {r : Opn × Int} (h : Con P I f xs (outO r)) (e : (r.2 == 0) = true) : Con P I f xs (.val (.agg (enc .opn r.1))) := by
 rw [outO, if_pos e] at h; exact h
theorem outO_n {P : Program} {I : World → Prop} {f : FuncId} {xs : List AV} {r : Opn × Int} (h : Con P I f xs (outO r)) (e : (r.2 == 0) = false) : Con P I f xs (.thr (errN r.2)) := by
 rw [outO, if_neg (by rw [e]; decide)] at h; exact h
theorem own_size {t : Tree} (h : ownO t = true) : t.s.size ≤ 2000 := by
 simp only [ownO, Bool.and_eq_true] at h
 have h1 := h.2.2.2.1
 unfold textO at h1
 by_cases h4 : t.kind = 4
 ·rw [if_pos h4] at h1
  unfold textOk at h1
  rw [Bool.and_eq_true] at h1
  have := of_decide_eq_true h1.1; omega
 ·rw [if_neg h4] at h1
  by_cases h5 : t.kind = 5
  ·rw [if_pos h5] at h1
   have := of_decide_eq_true h1; omega
  ·rw [if_neg h5] at h1
   have e := eqT_iff.1 (show eqT t.s (ba []) = true from h1)
   rw [e]; decide
theorem chk_mem_own {v : List Tree} {d l : Int} {c : Tree} (h : (chkL v d l).1 = true) (hc : c ∈ v) : ownO c = true := by
 obtain ⟨l', h1⟩ := chkL_mem h hc
 exact (chk_own h1).1
theorem memV_size {t : Tree} {d l : Int} (h : (chk t d l).1 = true) (x : ByteArray) : (memV t x).s.size ≤ 2000 := by
 cases hb : memB t x with
 | true => exact own_size (chk_mem_own (chk_own h).2 (mem_cutV hb))
 | false => rw [memV_zero hb]; decide
theorem memV_size2 {t : Tree} (h : validT t = true) (x : ByteArray) : (memV t x).s.size ≤ 2000 := memV_size h x
theorem memV_item {t : Tree} (h : validT t = true) {i : Nat} (hi : i < t.v.length) (x : ByteArray) : (memV (t.v.getD i (dflt .tree)) x).s.size ≤ 2000 := by
 obtain ⟨l', h1⟩ := chkL_mem (chk_own h).2 (getD_mem hi (dflt .tree))
 exact memV_size h1 x
theorem cutK_k (t : Tree) : (cutK t).length ≤ t.k.length := by
 unfold cutK
 split
 ·rw [List.length_take]; omega
 ·exact Nat.zero_le _
theorem con59 (lang : Int) (t : Tree) (hft : fineT t) : Con Tryz.prog I0 59 [vi lang, .agg (encTree t)] (outR (readR lang t)) := by
 obtain ⟨⟨hf1, hf2, hf3, hf4⟩, hf5⟩ := (fine_eq t).1 hft
 refine con_of Tryz.func59 rfl (Nat.le_of_ble_eq_true rfl) stab (fun w0 fz a hI hs => ?_)
 refine wp_seq ?_
 refine wN hs hI [] 750 [] .norm [(0, vi lang), (3, .ptr 1000 0), (4, .ptr 1001 0)] [(1000, bTr (t)), (1001, .var [vi 0, nilv, vi 0, vb false, vb false, nilv, vi 0, vs (ba []), nilv, nilv, nilv])] tv fun a w hs => ?_
 refine then_norm ?_
 refine wp_seq ?_
 rcases bt (decide (lang ≥ 1)) with b1 | b1
 ·skip
  have n1 := of_decide_eq_true b1
  rcases bt (decide (lang ≤ 3)) with b2 | b2
  ·skip
   have n2 := of_decide_eq_true b2
   rcases bt (validT t) with b3 | b3
   ·skip
    have hvt := b3
    refine wL hs hI [(1, ⟨[(8, ciV 57 [aTr (t)] (vb (validT t))), (10, ciV 118 [vb (validT t), vi 1] (.tup []))], gg [3, 4, 1005, 7, 8, 1009] [], []⟩)] [] 1164153218252787272125 [ty b1, ty b1, ty b1, ty b2, ty b2, ty b2] .norm [(0, vi lang), (3, .ptr 1000 0), (4, .ptr 1001 0)] [(1000, bTr (t)), (1001, .var [vi 0, nilv, vi 0, vb false, vb false, nilv, vi 0, vs (ba []), nilv, nilv, nilv])] ⟨⟨⟨ent57, con57 _ hft⟩, ⟨ent118, con118y _ _ (by first | rfl | assumption | (simp_all; done))⟩, tv⟩, tv⟩ ⟨b1, b1, b1, b2, b2, b2, tv⟩ fun a w hs => ?_
    refine then_norm ?_
    refine wp_seq ?_
    refine wN hs hI [] 12203125 [] .norm [(0, vi lang), (3, .ptr 1000 0), (4, .ptr 1001 0), (5, .ptr 3003 0)] [(1000, bTr (t)), (1001, .var [vi 0, nilv, vi 0, vb false, vb false, nilv, vi 0, vs (ba []), nilv, nilv, nilv]), (3003, .var [vi lang, nilv, vi t.kind, vb t.b, vb t.n.neg, rwU t.n.m, vi t.n.e, vs t.s, rwS t.k, rwT t.v, nilv])] tv fun a w hs => ?_
    refine then_norm ?_
    refine wp_seq ?_
    refine wp_seq ?_
    refine wN hs hI [] 25 [] .norm [(3, .ptr 1000 0), (4, .ptr 1001 0), (5, .ptr 3003 0), (24, vi lang)] [(1000, bTr (t)), (1001, .var [vi 0, nilv, vi 0, vb false, vb false, nilv, vi 0, vs (ba []), nilv, nilv, nilv]), (3003, .var [vi lang, nilv, vi t.kind, vb t.b, vb t.n.neg, rwU t.n.m, vi t.n.e, vs t.s, rwS t.k, rwT t.v, nilv])] tv fun a w hs => ?_
    refine then_norm ?_
    refine wp_block ?_
    refine wp_seq ?_
    refine wN hs hI [] 750 [] .norm [(3, .ptr 1000 0), (4, .ptr 1001 0), (5, .ptr 3003 0), (24, vi lang), (25, vb (lang == 1))] [(1000, bTr (t)), (1001, .var [vi 0, nilv, vi 0, vb false, vb false, nilv, vi 0, vs (ba []), nilv, nilv, nilv]), (3003, .var [vi lang, nilv, vi t.kind, vb t.b, vb t.n.neg, rwU t.n.m, vi t.n.e, vs t.s, rwS t.k, rwT t.v, nilv])] tv fun a w hs => ?_
    refine then_norm ?_
    refine cond_L (c := 25) hs (b := lang == 1) rfl (fun hb => ?_) (fun hb => ?_)
    ·have b4 := hb
     clear hb
     have n4 := eq_of_beq b4
     refine wp_seq ?_
     refine wN hs hI [] 19375 [] .norm [(3, .ptr 1000 0), (4, .ptr 1001 0), (5, .ptr 3003 0)] [(1000, bTr (t)), (1001, .var [vi 0, nilv, vi 0, vb false, vb false, nilv, vi 0, vs (ba []), nilv, nilv, nilv]), (3003, .var [vi lang, nilv, vi 0, vb false, vb false, nilv, vi 0, vs (ba []), nilv, nilv, nilv])] tv fun a w hs => ?_
     refine then_norm ?_
     refine wp_seq ?_
     rcases bt (t.kind == 6) with b5 | b5
     ·skip
      have n5 := eq_of_beq b5
      refine wL hs hI [(6, ⟨[(3, ciV 118 [vb (t.kind == 6), vi 2] (.tup []))], [], []⟩)] [] 487875 [] .norm [(3, .ptr 1000 0), (4, .ptr 1001 0), (5, .ptr 3003 0)] [(1000, bTr (t)), (1001, .var [vi 0, nilv, vi 0, vb false, vb false, nilv, vi 0, vs (ba []), nilv, nilv, nilv]), (3003, .var [vi lang, nilv, vi 0, vb false, vb false, nilv, vi 0, vs (ba []), nilv, nilv, nilv])] ⟨⟨⟨ent118, con118y _ _ (by first | rfl | assumption | (simp_all; done))⟩, tv⟩, tv⟩ tv fun a w hs => ?_
      refine then_norm ?_
      refine wp_seq ?_
      rcases bt (decide ((t.v.length : Int) ≤ 60)) with b6 | b6
      ·skip
       have n6 := of_decide_eq_true b6
       refine wL hs hI [(7, ⟨[(4, ciV 118 [vb (decide ((t.v.length : Int) ≤ 60)), vi 4] (.tup []))], [], []⟩)] [] 12205000 [] .norm [(3, .ptr 1000 0), (4, .ptr 1001 0), (5, .ptr 3003 0)] [(1000, bTr (t)), (1001, .var [vi 0, nilv, vi 0, vb false, vb false, nilv, vi 0, vs (ba []), nilv, nilv, nilv]), (3003, .var [vi lang, nilv, vi 0, vb false, vb false, nilv, vi 0, vs (ba []), nilv, nilv, nilv])] ⟨⟨⟨ent118, con118y _ _ (by first | rfl | assumption | (simp_all; done))⟩, tv⟩, tv⟩ tv fun a w hs => ?_
       refine then_norm ?_
       refine wp_seq ?_
       refine wN hs hI [] 487500 [] .norm [(4, .ptr 1001 0), (5, .ptr 3003 0), (39, rwT t.v), (40, vi (t.v.length : Int)), (41, vi 0)] [(1001, .var [vi 0, nilv, vi 0, vb false, vb false, nilv, vi 0, vs (ba []), nilv, nilv, nilv]), (3003, .var [vi lang, nilv, vi 0, vb false, vb false, nilv, vi 0, vs (ba []), nilv, nilv, nilv])] tv fun a w hs => ?_
       refine then_norm ?_
       refine wp_block ?_
       refine loop_L (N := Tryz.f59.ntmps) (w0 := w0) (ow := noO fz) (α := Nat) (fun p => [(4, .ptr 1001 0), (5, .ptr 90000001 0), (39, rwT t.v), (40, vi (t.v.length : Int)), (41, vi (p : Int))]) (fun p => [(1001, .var [vi 0, nilv, vi 0, vb false, vb false, nilv, vi 0, vs (ba []), nilv, nilv, nilv]), (90000001, .var [vi lang, .own 90000002, vi 0, vb false, vb false, nilv, vi 0, vs (ba []), nilv, nilv, nilv]), (90000002, .sl 80 .opn ((t.v.take p).map (fun x => (opR x).1)))]) (fun p => p ≤ t.v.length ∧ ∀ j, j < p → ((opR (t.v.getD j (dflt .tree))).2 == 0) = true) (fun p => t.v.length - p) 0 ?_ ?_ ?_
       ·exact ⟨Nat.zero_le _, fun j hj => absurd hj (Nat.not_lt_zero _)⟩
       ·(have hs := (hs.nilB 10000005 3003 1 80 .opn [vi lang, nilv, vi 0, vb false, vb false, nilv, vi 0, vs (ba []), nilv, nilv, nilv] (by kernel_rfl) (by kernel_rfl) (by decide) (by decide) (by kernel_rfl) (by kernel_rfl)).rmT [(4, .ptr 1001 0), (5, .ptr 3003 0), (39, rwT t.v), (40, vi (t.v.length : Int)), (41, vi 0)] [(1001, .var [vi 0, nilv, vi 0, vb false, vb false, nilv, vi 0, vs (ba []), nilv, nilv, nilv]), (3003, .var [vi lang, .own 10000005, vi 0, vb false, vb false, nilv, vi 0, vs (ba []), nilv, nilv, nilv]), (10000005, .sl 80 .opn ([]))] [(1001, 1001), (3003, 3003), (10000005, 10000005)] (by kernel_rfl); exact (hs.cst [(4, .ptr 1001 0), (5, .ptr 3003 0), (39, rwT t.v), (40, vi (t.v.length : Int)), (41, vi ((0 : Nat) : Int))] [(1001, .var [vi 0, nilv, vi 0, vb false, vb false, nilv, vi 0, vs (ba []), nilv, nilv, nilv]), (3003, .var [vi lang, .own 10000005, vi 0, vb false, vb false, nilv, vi 0, vs (ba []), nilv, nilv, nilv]), (10000005, .sl 80 .opn ((t.v.take 0).map (fun x => (opR x).1)))] rfl).rm [(1001, 1001), (90000001, 3003), (90000002, 10000005)] (by kernel_rfl))
       rintro i hJ a w hs
       obtain ⟨hi, hall⟩ := hJ
       have htk := take_map_len (f := fun x => (opR x).1) hi
       rcases bt (decide ((i : Int) < (t.v.length : Int))) with b7 | b7
       ·skip
        have n7 := of_decide_eq_true b7
        rcases bt ((opR (t.v.getD i (dflt .tree))).2 == 0) with b8 | b8
        ·skip
         have n8 := eq_of_beq b8
         refine wL hs hI [(11, ⟨[(3, ciV 119 [aTr ((t.v.getD i (dflt .tree)))] (.agg (enc .opn ((opR (t.v.getD i (dflt .tree))).1))))], [], []⟩)] [true] 11365307727813922889697300275 [ty b7, 0 ≤ (i : Int) ∧ (i : Int) < t.v.length, ((((t.v.take i).map (fun x => (opR x).1)).length + 1) * 176 : Nat) ≤ 140737488355328 ∧ ((t.v.take i).map (fun x => (opR x).1)).length + 1 ≤ 140737488355328, InR .i64 ((i : Int) + 1)] .norm [(4, .ptr 1001 0), (5, .ptr 90000001 0), (39, rwT t.v), (40, vi (t.v.length : Int)), (41, vi ((i : Int) + 1))] [(1001, .var [vi 0, nilv, vi 0, vb false, vb false, nilv, vi 0, vs (ba []), nilv, nilv, nilv]), (12005, .sl 80 .opn (((t.v.take i).map (fun x => (opR x).1)) ++ ([(⟨((opR (t.v.getD i (dflt .tree))).1).op, ((opR (t.v.getD i (dflt .tree))).1).path, ((opR (t.v.getD i (dflt .tree))).1).frm, (Tree.et (((opR (t.v.getD i (dflt .tree))).1).value))⟩ : Opn)]))), (90000001, .var [vi lang, .own 12005, vi 0, vb false, vb false, nilv, vi 0, vs (ba []), nilv, nilv, nilv])] ⟨⟨⟨ent119, outO_y (con119 _ (by have h1 := cutK_k (t.v.getD i (dflt .tree)); have h2 := (fine_eq _).1 (fine_at hft (i := i) (by omega) (dflt .tree)); have h3 := h2.1.2.2.1; omega) (by have h2 := (fine_eq _).1 (fine_at hft (i := i) (by omega) (dflt .tree)); exact h2.1.2.2.1) (fun x => by have := memV_item hvt (i := i) (by omega) x; omega)) (by assumption)⟩, tv⟩, tv⟩ ⟨b7, (by omega), (by omega), (inR64 (by omega) (by omega)), tv⟩ fun a w hs => ?_
         refine then_norm ⟨i + 1, ⟨by omega, fun j hj => by rcases Nat.lt_succ_iff_lt_or_eq.1 hj with h | h; exact hall j h; subst h; exact b8⟩, by omega, ?_⟩
         (have e0_ : ((i : Int) + 1) = ((((i + 1) : Nat) : Int)) := (by first | rfl | (omega)); have e1_ : (((t.v.take i).map (fun x => (opR x).1)) ++ ([(⟨((opR (t.v.getD i (dflt .tree))).1).op, ((opR (t.v.getD i (dflt .tree))).1).path, ((opR (t.v.getD i (dflt .tree))).1).frm, (Tree.et (((opR (t.v.getD i (dflt .tree))).1).value))⟩ : Opn)])) = (((t.v.take (i + 1)).map (fun x => (opR x).1))) := (by rw [Tree.eta']; exact take_map_succ (f := fun x => (opR x).1) (by omega) (dflt .tree)); exact (hs.cst [(4, .ptr 1001 0), (5, .ptr 90000001 0), (39, rwT t.v), (40, vi (t.v.length : Int)), (41, vi (((i + 1) : Nat) : Int))] [(1001, .var [vi 0, nilv, vi 0, vb false, vb false, nilv, vi 0, vs (ba []), nilv, nilv, nilv]), (12005, .sl 80 .opn ((t.v.take (i + 1)).map (fun x => (opR x).1))), (90000001, .var [vi lang, .own 12005, vi 0, vb false, vb false, nilv, vi 0, vs (ba []), nilv, nilv, nilv])] (by first | (rw [e0_, e1_]; done) | (simp only [e0_, e1_]; done) | rfl | (simp only [e0_, e1_]; rfl))).rm [(1001, 1001), (90000001, 90000001), (90000002, 12005)] (by kernel_rfl))
        ·skip
         have n8 := beq_eq_false_iff_ne.1 b8
         refine wL hs hI [(11, ⟨[(3, ciA 119 [aTr ((t.v.getD i (dflt .tree)))] [] [] (.thr (.iface 38 (.int .i64 ((opR (t.v.getD i (dflt .tree))).2)))))], [], [4, 5, 6, 7]⟩)] [true] 1862632759082065900 [ty b7, 0 ≤ (i : Int) ∧ (i : Int) < t.v.length] (.thr (.iface 38 (.int .i64 ((opR (t.v.getD i (dflt .tree))).2)))) [] [] ⟨⟨⟨ent119, outO_n (con119 _ (by have h1 := cutK_k (t.v.getD i (dflt .tree)); have h2 := (fine_eq _).1 (fine_at hft (i := i) (by omega) (dflt .tree)); have h3 := h2.1.2.2.1; omega) (by have h2 := (fine_eq _).1 (fine_at hft (i := i) (by omega) (dflt .tree)); exact h2.1.2.2.1) (fun x => by have := memV_item hvt (i := i) (by omega) x; omega)) (by assumption)⟩, tv⟩, tv⟩ ⟨b7, (by omega), tv⟩ fun a w hs => ?_
         refine then_thr ?_
         refine inb_thr ?_
         refine inb_thr ?_
         refine then_thr ?_
         exact tK (.iface 38 (.int .i64 ((opR (t.v.getD i (dflt .tree))).2))) hs (by rw [readR, if_pos (by simp only [b1, b2, b3]; first | done | decide | simp), if_pos (show (lang == 1) = true from b4), if_pos (show (t.kind == 6) = true from b5), if_pos (show decide ((t.v.length : Int) ≤ 60) = true from b6), outR]; rw [if_neg (by show ¬ ((readOps t.v).2 == 0) = true; rw [readOps_at (by omega) hall b8, b8]; decide)]; show _ = COut.thr (errN (readOps t.v).2); rw [readOps_at (by omega) hall b8])
       ·skip
        have n7 := of_decide_eq_false b7
        refine wN hs hI [false] 19025 [ty b7] (.exit 1) [(4, .ptr 1001 0), (5, .ptr 90000001 0)] [(1001, .var [vi 0, nilv, vi 0, vb false, vb false, nilv, vi 0, vs (ba []), nilv, nilv, nilv]), (90000001, .var [vi lang, .own 90000002, vi 0, vb false, vb false, nilv, vi 0, vs (ba []), nilv, nilv, nilv]), (90000002, .sl 80 .opn ((t.v.take i).map (fun x => (opR x).1)))] ⟨b7, tv⟩ fun a w hs => ?_
        refine then_exit ?_
        refine inb_hit ?_
        refine inb_norm ?_
        refine then_norm ?_
        refine wN hs hI [] 16375 [] .ret [(4, .ptr 1001 0)] [(1001, .var [vi lang, .own 90000002, vi 0, vb false, vb false, nilv, vi 0, vs (ba []), nilv, nilv, nilv]), (90000002, .sl 80 .opn ((t.v.take i).map (fun x => (opR x).1)))] tv fun a w hs => ?_
        exact rK (.val (.agg [vi lang, .row .opn ((t.v.take i).map (fun x => (opR x).1)), vi 0, vb false, vb false, rwU ([]), vi 0, vs (ba []), rwS ([]), rwT ([]), .row .strs ([])])) [90000002] hs (by obtain rfl : i = t.v.length := (by omega); rw [readR, if_pos (by simp only [b1, b2, b3]; first | done | decide | simp), if_pos (show (lang == 1) = true from b4), if_pos (show (t.kind == 6) = true from b5), if_pos (show decide ((t.v.length : Int) ≤ 60) = true from b6), readOps_all hall, List.take_length]; rfl)
      ·skip
       have n6 := of_decide_eq_false b6
       refine wL hs hI [(7, ⟨[(4, ciA 118 [vb (decide ((t.v.length : Int) ≤ 60)), vi 4] [] [] (.thr (.iface 38 (.int .i64 4))))], [], []⟩)] [] 489375 [] (.thr (.iface 38 (.int .i64 4))) [] [] ⟨⟨⟨ent118, con118n _ _ (by first | rfl | assumption | (simp_all; done))⟩, tv⟩, tv⟩ tv fun a w hs => ?_
       refine then_thr ?_
       refine inb_thr ?_
       refine then_thr ?_
       exact tK (.iface 38 (.int .i64 4)) hs (by rw [readR, if_pos (by simp only [b1, b2, b3]; first | done | decide | simp), if_pos (show (lang == 1) = true from b4), if_pos (show (t.kind == 6) = true from b5), if_neg (by rw [show decide ((t.v.length : Int) ≤ 60) = false from b6]; decide)]; rfl)
     ·skip
      have n5 := beq_eq_false_iff_ne.1 b5
      refine wL hs hI [(6, ⟨[(3, ciA 118 [vb (t.kind == 6), vi 2] [] [] (.thr (.iface 38 (.int .i64 2))))], [], []⟩)] [] 19750 [] (.thr (.iface 38 (.int .i64 2))) [] [] ⟨⟨⟨ent118, con118n _ _ (by first | rfl | assumption | (simp_all; done))⟩, tv⟩, tv⟩ tv fun a w hs => ?_
      refine then_thr ?_
      refine inb_thr ?_
      refine then_thr ?_
      exact tK (.iface 38 (.int .i64 2)) hs (by rw [readR, if_pos (by simp only [b1, b2, b3]; first | done | decide | simp), if_pos (show (lang == 1) = true from b4), if_neg (by rw [show (t.kind == 6) = false from b5]; decide)]; rfl)
    ·have b9 := hb
     clear hb
     have n9 := beq_eq_false_iff_ne.1 b9
     rcases bt (lang == 3) with b10 | b10
     ·skip
      have n10 := eq_of_beq b10
      rcases bt (exactF t ([(ba [109, 97, 115, 107]), (ba [118, 97, 108, 117, 101])])) with b11 | b11
      ·skip
       rcases bt (memOk t (ba [109, 97, 115, 107])) with b12 | b12
       ·skip
        rcases bt (((parseF ((memV t (ba [109, 97, 115, 107])).s)).2) == 0) with b13 | b13
        ·skip
         have n13 := eq_of_beq b13
         refine wL hs hI [(14, ⟨[(2, ciA 120 [aTr (t), rwS ([(ba [109, 97, 115, 107]), (ba [118, 97, 108, 117, 101])])] [15001] [] (.val (.tup [])))], [], []⟩), (15, ⟨[(1, ciV 121 [aTr (t), vs (ba [109, 97, 115, 107])] (vs ((memV t (ba [109, 97, 115, 107])).s))), (2, ciV 31 [vs ((memV t (ba [109, 97, 115, 107])).s)] (.tup [.row .strs ((parseF ((memV t (ba [109, 97, 115, 107])).s)).1), vi ((parseF ((memV t (ba [109, 97, 115, 107])).s)).2)]))], [], []⟩), (16, ⟨[(3, ciV 118 [vb (((parseF ((memV t (ba [109, 97, 115, 107])).s)).2) == 0), vi ((parseF ((memV t (ba [109, 97, 115, 107])).s)).2)] (.tup []))], [], []⟩), (18, ⟨[(1, ciV 122 [aTr (t), vs (ba [118, 97, 108, 117, 101])] (.tup [aTr ((memV t (ba [118, 97, 108, 117, 101]))), vb (memB t (ba [118, 97, 108, 117, 101]))]))], [], []⟩)] [true] 16940658931210385845133336493744850268858600750 [ty b10] .norm [(4, .ptr 1001 0), (5, .ptr 3003 0)] [(1001, .var [vi 0, nilv, vi 0, vb false, vb false, nilv, vi 0, vs (ba []), nilv, nilv, nilv]), (3003, .var [vi lang, nilv, vi ((memV t (ba [118, 97, 108, 117, 101])).kind), vb ((memV t (ba [118, 97, 108, 117, 101])).b), vb ((memV t (ba [118, 97, 108, 117, 101])).n.neg), rwU ((memV t (ba [118, 97, 108, 117, 101])).n.m), vi ((memV t (ba [118, 97, 108, 117, 101])).n.e), vs ((memV t (ba [118, 97, 108, 117, 101])).s), rwS ((memV t (ba [118, 97, 108, 117, 101])).k), rwT ((memV t (ba [118, 97, 108, 117, 101])).v), .row .strs ((parseF ((memV t (ba [109, 97, 115, 107])).s)).1)])] ⟨⟨⟨ent120, con120y _ _ hf3 (by decide) (by assumption)⟩, tv⟩, ⟨⟨ent121, con121y _ _ (by have h1 := cutK_k t; omega) (by assumption)⟩, ⟨ent31, con31 _ (by have := memV_size2 hvt (ba [109, 97, 115, 107]); omega)⟩, tv⟩, ⟨⟨ent118, con118y _ _ (by first | rfl | assumption | (simp_all; done))⟩, tv⟩, ⟨⟨ent122, con122 _ _ (by have h1 := cutK_k t; omega)⟩, tv⟩, tv⟩ ⟨b10, tv⟩ fun a w hs => ?_
         refine inb_norm ?_
         refine then_norm ?_
         refine wN hs hI [] 16375 [] .ret [(4, .ptr 1001 0)] [(1001, .var [vi lang, nilv, vi ((memV t (ba [118, 97, 108, 117, 101])).kind), vb ((memV t (ba [118, 97, 108, 117, 101])).b), vb ((memV t (ba [118, 97, 108, 117, 101])).n.neg), rwU ((memV t (ba [118, 97, 108, 117, 101])).n.m), vi ((memV t (ba [118, 97, 108, 117, 101])).n.e), vs ((memV t (ba [118, 97, 108, 117, 101])).s), rwS ((memV t (ba [118, 97, 108, 117, 101])).k), rwT ((memV t (ba [118, 97, 108, 117, 101])).v), .row .strs ((parseF ((memV t (ba [109, 97, 115, 107])).s)).1)])] tv fun a w hs => ?_
         exact rK (.val (.agg [vi lang, .row .opn ([]), vi ((memV t (ba [118, 97, 108, 117, 101])).kind), vb ((memV t (ba [118, 97, 108, 117, 101])).b), vb ((memV t (ba [118, 97, 108, 117, 101])).n.neg), rwU ((memV t (ba [118, 97, 108, 117, 101])).n.m), vi ((memV t (ba [118, 97, 108, 117, 101])).n.e), vs ((memV t (ba [118, 97, 108, 117, 101])).s), rwS ((memV t (ba [118, 97, 108, 117, 101])).k), rwT ((memV t (ba [118, 97, 108, 117, 101])).v), .row .strs ((parseF ((memV t (ba [109, 97, 115, 107])).s)).1)])) [] hs (by rw [readR, if_pos (by simp only [b1, b2, b3]; first | done | decide | simp), if_neg (by rw [show (lang == 1) = false from b9]; decide), if_pos (show (lang == 3) = true from b10), if_pos (show exactF t [nMask, nValue] = true from b11), if_pos (show memOk t nMask = true from b12), if_pos (show ((parseF (memV t nMask).s).2 == 0) = true from b13)]; rfl)
        ·skip
         have n13 := beq_eq_false_iff_ne.1 b13
         refine wL hs hI [(14, ⟨[(2, ciA 120 [aTr (t), rwS ([(ba [109, 97, 115, 107]), (ba [118, 97, 108, 117, 101])])] [15001] [] (.val (.tup [])))], [], []⟩), (15, ⟨[(1, ciV 121 [aTr (t), vs (ba [109, 97, 115, 107])] (vs ((memV t (ba [109, 97, 115, 107])).s))), (2, ciV 31 [vs ((memV t (ba [109, 97, 115, 107])).s)] (.tup [.row .strs ((parseF ((memV t (ba [109, 97, 115, 107])).s)).1), vi ((parseF ((memV t (ba [109, 97, 115, 107])).s)).2)]))], [], []⟩), (16, ⟨[(3, ciA 118 [vb (((parseF ((memV t (ba [109, 97, 115, 107])).s)).2) == 0), vi ((parseF ((memV t (ba [109, 97, 115, 107])).s)).2)] [] [] (.thr (.iface 38 (.int .i64 ((parseF ((memV t (ba [109, 97, 115, 107])).s)).2)))))], [], []⟩)] [true] 11368887731804847827452350750 [ty b10] (.thr (.iface 38 (.int .i64 ((parseF ((memV t (ba [109, 97, 115, 107])).s)).2)))) [] [] ⟨⟨⟨ent120, con120y _ _ hf3 (by decide) (by assumption)⟩, tv⟩, ⟨⟨ent121, con121y _ _ (by have h1 := cutK_k t; omega) (by assumption)⟩, ⟨ent31, con31 _ (by have := memV_size2 hvt (ba [109, 97, 115, 107]); omega)⟩, tv⟩, ⟨⟨ent118, con118n _ _ (by first | rfl | assumption | (simp_all; done))⟩, tv⟩, tv⟩ ⟨b10, tv⟩ fun a w hs => ?_
         refine inb_thr ?_
         refine then_thr ?_
         exact tK (.iface 38 (.int .i64 ((parseF ((memV t (ba [109, 97, 115, 107])).s)).2))) hs (by rw [readR, if_pos (by simp only [b1, b2, b3]; first | done | decide | simp), if_neg (by rw [show (lang == 1) = false from b9]; decide), if_pos (show (lang == 3) = true from b10), if_pos (show exactF t [nMask, nValue] = true from b11), if_pos (show memOk t nMask = true from b12), if_neg (by rw [show ((parseF (memV t nMask).s).2 == 0) = false from b13]; decide), outR, if_neg (by rw [show ((parseF (memV t nMask).s).2 == 0) = false from b13]; decide)])
       ·skip
        refine wL hs hI [(14, ⟨[(2, ciA 120 [aTr (t), rwS ([(ba [109, 97, 115, 107]), (ba [118, 97, 108, 117, 101])])] [15001] [] (.val (.tup [])))], [], []⟩), (15, ⟨[(1, ciA 121 [aTr (t), vs (ba [109, 97, 115, 107])] [] [] (.thr (.iface 38 (.int .i64 2))))], [], []⟩)] [true] 4779356647625 [ty b10] (.thr (.iface 38 (.int .i64 2))) [] [] ⟨⟨⟨ent120, con120y _ _ hf3 (by decide) (by assumption)⟩, tv⟩, ⟨⟨ent121, con121n _ _ (by have h1 := cutK_k t; omega) (by assumption)⟩, tv⟩, tv⟩ ⟨b10, tv⟩ fun a w hs => ?_
        refine inb_thr ?_
        refine then_thr ?_
        exact tK (.iface 38 (.int .i64 2)) hs (by rw [readR, if_pos (by simp only [b1, b2, b3]; first | done | decide | simp), if_neg (by rw [show (lang == 1) = false from b9]; decide), if_pos (show (lang == 3) = true from b10), if_pos (show exactF t [nMask, nValue] = true from b11), if_neg (by rw [show memOk t nMask = false from b12]; decide)]; rfl)
      ·skip
       refine wL hs hI [(14, ⟨[(2, ciA 120 [aTr (t), rwS ([(ba [109, 97, 115, 107]), (ba [118, 97, 108, 117, 101])])] [15001] [] (.thr (.iface 38 (.int .i64 2))))], [], []⟩)] [true] 305866375 [ty b10] (.thr (.iface 38 (.int .i64 2))) [] [] ⟨⟨⟨ent120, con120n _ _ hf3 (by decide) (by assumption)⟩, tv⟩, tv⟩ ⟨b10, tv⟩ fun a w hs => ?_
       refine inb_thr ?_
       refine then_thr ?_
       exact tK (.iface 38 (.int .i64 2)) hs (by rw [readR, if_pos (by simp only [b1, b2, b3]; first | done | decide | simp), if_neg (by rw [show (lang == 1) = false from b9]; decide), if_pos (show (lang == 3) = true from b10), if_neg (by rw [show exactF t [nMask, nValue] = false from b11]; decide)]; rfl)
     ·skip
      have n10 := beq_eq_false_iff_ne.1 b10
      refine wN hs hI [false] 475750 [ty b10] .norm [(4, .ptr 1001 0), (5, .ptr 3003 0)] [(1001, .var [vi 0, nilv, vi 0, vb false, vb false, nilv, vi 0, vs (ba []), nilv, nilv, nilv]), (3003, .var [vi lang, nilv, vi t.kind, vb t.b, vb t.n.neg, rwU t.n.m, vi t.n.e, vs t.s, rwS t.k, rwT t.v, nilv])] ⟨b10, tv⟩ fun a w hs => ?_
      refine inb_norm ?_
      refine then_norm ?_
      refine wN hs hI [] 16375 [] .ret [(4, .ptr 1001 0)] [(1001, .var [vi lang, nilv, vi t.kind, vb t.b, vb t.n.neg, rwU t.n.m, vi t.n.e, vs t.s, rwS t.k, rwT t.v, nilv])] tv fun a w hs => ?_
      exact rK (.val (.agg [vi lang, .row .opn ([]), vi t.kind, vb t.b, vb t.n.neg, rwU t.n.m, vi t.n.e, vs t.s, rwS t.k, rwT t.v, .row .strs ([])])) [] hs (by rw [readR, if_pos (by simp only [b1, b2, b3]; first | done | decide | simp), if_neg (by rw [show (lang == 1) = false from b9]; decide), if_neg (by rw [show (lang == 3) = false from b10]; decide)]; rfl)
   ·skip
    refine wL hs hI [(1, ⟨[(8, ciV 57 [aTr (t)] (vb (validT t))), (10, ciA 118 [vb (validT t), vi 1] [] [] (.thr (.iface 38 (.int .i64 1))))], gg [3, 4, 1005, 7, 8, 1009] [], []⟩)] [] 46566128744730631500 [ty b1, ty b1, ty b1, ty b2, ty b2, ty b2] (.thr (.iface 38 (.int .i64 1))) [] [] ⟨⟨⟨ent57, con57 _ hft⟩, ⟨ent118, con118n _ _ (by first | rfl | assumption | (simp_all; done))⟩, tv⟩, tv⟩ ⟨b1, b1, b1, b2, b2, b2, tv⟩ fun a w hs => ?_
    refine then_thr ?_
    exact tK (.iface 38 (.int .i64 1)) hs (by rw [readR, if_neg (by simp only [b1, b2, b3]; first | done | decide | simp)]; rfl)
  ·skip
   have n2 := of_decide_eq_false b2
   refine wL hs hI [(1, ⟨[(10, ciA 118 [vb false, vi 1] [] [] (.thr (.iface 38 (.int .i64 1))))], gg [3, 4, 1005] [7, 8, 1009], []⟩)] [] 74505806517740875 [ty b1, ty b1, ty b1, ty b2, ty b2, ty b2] (.thr (.iface 38 (.int .i64 1))) [] [] ⟨⟨⟨ent118, con118n _ _ (by first | rfl | assumption | (simp_all; done))⟩, tv⟩, tv⟩ ⟨b1, b1, b1, b2, b2, b2, tv⟩ fun a w hs => ?_
   refine then_thr ?_
   exact tK (.iface 38 (.int .i64 1)) hs (by rw [readR, if_neg (by simp only [b1, b2]; first | done | decide | simp)]; rfl)
 ·skip
  have n1 := of_decide_eq_false b1
  refine wL hs hI [(1, ⟨[(10, ciA 118 [vb false, vi 1] [] [] (.thr (.iface 38 (.int .i64 1))))], gg [] [3, 4, 1005, 7, 8, 1009], []⟩)] [] 119209311492125 [ty b1, ty b1, ty b1, false = false, false = false, false = false] (.thr (.iface 38 (.int .i64 1))) [] [] ⟨⟨⟨ent118, con118n _ _ (by first | rfl | assumption | (simp_all; done))⟩, tv⟩, tv⟩ ⟨b1, b1, b1, rfl, rfl, rfl, tv⟩ fun a w hs => ?_
  refine then_thr ?_
  exact tK (.iface 38 (.int .i64 1)) hs (by rw [readR, if_neg (by simp only [b1]; first | done | decide | simp)]; rfl)
def digB (s : ByteArray) (i : Nat) : Bool := !decide (byteAt s (i : Int) < 48) && !decide (byteAt s (i : Int) > 57)
def numTo (s : ByteArray) : Nat → Int
 | 0 => 0
 | i + 1 => 10 * numTo s i + IntKind.wrap .u8 (byteAt s (i : Int) - 48)
def badIx (s : ByteArray) : Bool := (decide ((s.size : Int) < 1) || decide ((s.size : Int) > 4)) || (byteAt s 0 == 48 && decide ((s.size : Int) > 1))
def indexF (s : ByteArray) (m : Int) : Int × Bool :=
 if badIx s = true then (0, false) else if (List.range s.size).all (digB s) = true then (if numTo s s.size > m then (0, false) else (numTo s s.size, true)) else (0, false)
theorem wrap8_in (n : Int) : 0 ≤ IntKind.wrap .u8 n ∧ IntKind.wrap .u8 n ≤ 255 := by
 simp only [IntKind.wrap, IntKind.bits, IntKind.signed]
 simp; omega
theorem numTo_lo (s : ByteArray) : ∀ i, 0 ≤ numTo s i
 | 0 => Int.le_refl _
 | i + 1 => by
  have h := numTo_lo s i
  have h2 := wrap8_in (byteAt s (i : Int) - 48)
  simp only [numTo]; omega
theorem numTo_hi (s : ByteArray) {i : Nat} (h : i ≤ 4) : numTo s i ≤ 283305 := by
 have w0 := wrap8_in (byteAt s ((0 : Nat) : Int) - 48)
 have w1 := wrap8_in (byteAt s ((1 : Nat) : Int) - 48)
 have w2 := wrap8_in (byteAt s ((2 : Nat) : Int) - 48)
 have w3 := wrap8_in (byteAt s ((3 : Nat) : Int) - 48)
 rcases i with _ | _ | _ | _ | _ | i
 ·simp only [numTo]; omega
 ·simp only [numTo]; omega
 ·simp only [numTo]; omega
 ·simp only [numTo]; omega
 ·simp only [numTo]; omega
 ·omega
theorem index_bad {s : ByteArray} {m : Int} (h : badIx s = true) : indexF s m = (0, false) := if_pos h
theorem index_sign {s : ByteArray} {m : Int} {i : Nat} (h : badIx s = false) (hi : i < s.size) (hd : digB s i = false) : indexF s m = (0, false) := by
 unfold indexF
 rw [if_neg (by rw [h]; decide), if_neg (by rw [all_no' (i := i) hi hd]; decide)]
theorem index_more {s : ByteArray} {m : Int} (h : badIx s = false) (hd : ∀ j, j < s.size → digB s j = true) (hm : numTo s s.size > m) : indexF s m = (0, false) := by
 unfold indexF
 rw [if_neg (by rw [h]; decide), if_pos (all_yes' hd), if_pos hm]
theorem index_is {s : ByteArray} {m : Int} (h : badIx s = false) (hd : ∀ j, j < s.size → digB s j = true) (hm : ¬ numTo s s.size > m) : indexF s m = (numTo s s.size, true) := by
 unfold indexF
 rw [if_neg (by rw [h]; decide), if_pos (all_yes' hd), if_neg hm]
theorem index_in {s : ByteArray} {m : Int} (h : (indexF s m).2 = true) : 0 ≤ (indexF s m).1 ∧ (indexF s m).1 ≤ m := by
 unfold indexF at h ⊢
 split at h
 ·cases h
 ·rename_i h1
  rw [if_neg h1]
  split at h
  ·rename_i h2
   rw [if_pos h2]
   split at h
   ·cases h
   ·rename_i h3
    rw [if_neg h3]
    exact ⟨numTo_lo s _, by show numTo s s.size ≤ m; omega⟩
  ·cases h
def childF (t : Tree) (x : ByteArray) : Tree × Bool :=
 if (t.kind == 6) = true then (if (indexF x ((t.v.length : Int) - 1)).2 = true then (t.v.getD (indexF x ((t.v.length : Int) - 1)).1.toNat (dflt .tree), true) else (memV t x, memB t x)) else (memV t x, memB t x)
theorem child_nodes (t : Tree) (x : ByteArray) : nodes (childF t x).1 ≤ nodes t := by
 unfold childF
 split
 ·split
  ·rename_i h
   have h1 := index_in h
   have h2 := nodes_at (l := t.v) (i := (indexF x ((t.v.length : Int) - 1)).1.toNat) (by omega)
   have h3 := nodes_eq t
   show nodes (t.v.getD _ _) ≤ _; omega
  ·exact memV_nodes' t x
 ·exact memV_nodes' t x
def getR : List ByteArray → Tree → Tree × Bool
 | [], t => (t, true)
 | x :: p, t => if (childF t x).2 = true then getR p (childF t x).1 else (Tree.zero, false)
theorem getR_yes {p : List ByteArray} {i : Nat} {u : Tree} (h : i < p.length) (hb : (childF u (p.getD i (dflt .str))).2 = true) : getR (p.drop i) u = getR (p.drop (i + 1)) (childF u (p.getD i (dflt .str))).1 := by
 rw [List.drop_eq_getElem_cons h, getR]
 have e : p.getD i (dflt .str) = p[i] := by rw [List.getD_eq_getElem?_getD, List.getElem?_eq_getElem h]; rfl
 rw [e] at hb ⊢
 rw [if_pos hb]
theorem getR_no {p : List ByteArray} {i : Nat} {u : Tree} (h : i < p.length) (hb : (childF u (p.getD i (dflt .str))).2 = false) : getR (p.drop i) u = (Tree.zero, false) := by
 rw [List.drop_eq_getElem_cons h, getR]
 have e : p.getD i (dflt .str) = p[i] := by rw [List.getD_eq_getElem?_getD, List.getElem?_eq_getElem h]; rfl
 rw [e] at hb
 rw [if_neg (by rw [hb]; decide)]
theorem getR_nodes : ∀ (p : List ByteArray) (t : Tree), nodes (getR p t).1 ≤ nodes t
 | [], t => Nat.le_refl _
 | x :: p, t => by
  rw [getR]
  split
  ·exact Nat.le_trans (getR_nodes p _) (child_nodes t x)
  ·show nodes Tree.zero ≤ _
   have := nodes_eq t
   have h : nodes Tree.zero = 1 := by simp [Tree.zero, nodes, nodesL]
   omega
def withV (t : Tree) (l : List Tree) : Tree := .mk t.kind t.b t.n t.s t.k l
def putR : List ByteArray → Tree → Tree → Tree × Bool
  | [], _, v => (v, true)
  | x :: p, t, v =>
    if (childF t x).2 = true then
      (if (putR p (childF t x).1 v).2 = true then
        (if (t.kind == 7) = true then (setT t x (putR p (childF t x).1 v).1, true)
         else (withV t (t.v.set (indexF x ((t.v.length : Int) - 1)).1.toNat (putR p (childF t x).1 v).1), true))
       else (Tree.zero, false))
    else (Tree.zero, false)
theorem putR_at {q : List ByteArray} {t v : Tree} (h : 0 < q.length) : putR q t v =
    if (childF t (q.getD 0 (dflt .str))).2 = true then
      (if (putR (q.drop 1) (childF t (q.getD 0 (dflt .str))).1 v).2 = true then
        (if (t.kind == 7) = true then (setT t (q.getD 0 (dflt .str)) (putR (q.drop 1) (childF t (q.getD 0 (dflt .str))).1 v).1, true)
         else (withV t (t.v.set (indexF (q.getD 0 (dflt .str)) ((t.v.length : Int) - 1)).1.toNat (putR (q.drop 1) (childF t (q.getD 0 (dflt .str))).1 v).1), true))
       else (Tree.zero, false))
    else (Tree.zero, false) := by
  cases q with
  | nil => simp at h
  | cons x q => rfl
theorem child_six {t : Tree} {x : ByteArray} (h : (childF t x).2 = true) (h7 : ¬ t.kind = 7) : t.kind = 6 ∧ (indexF x ((t.v.length : Int) - 1)).2 = true := by
 have hm : memB t x = false := by
  cases hb : memB t x with
  | false => rfl
  | true => exact absurd (mem_kind hb) h7
 unfold childF at h
 split at h
 ·rename_i h6
  split at h
  ·rename_i hi; exact ⟨eq_of_beq h6, hi⟩
  ·rw [hm] at h; cases h
 ·rw [hm] at h; cases h
theorem con176 (s : ByteArray) (m : Int) : Con Tryz.prog I0 176 [vs s, vi m] (.val (.tup [vi ((indexF s m).1), vb ((indexF s m).2)])) := by
 refine con_of Tryz.func176 rfl (Nat.le_of_ble_eq_true rfl) stab (fun w0 fz a hI hs => ?_)
 refine wp_seq ?_
 refine wN hs hI [] 750 [] .norm [(0, vs s), (1, vi m)] [] tv fun a w hs => ?_
 refine then_norm ?_
 refine wp_seq ?_
 rcases bt (decide ((s.size : Int) < 1)) with b1 | b1
 ·skip
  have n1 := of_decide_eq_true b1
  refine wL hs hI [(1, ⟨[], gg [1007, 1017] [4, 5, 6, 9, 10, 11, 12, 16], []⟩)] [true] 176487610588083043691559447460625 [ty b1, ty b1, ty b1, ty b1, true = true, true = true, true = true, true = true, true = true, true = true, true = true] .ret [(4, vi 0), (5, vb false)] [] ⟨tv, tv⟩ ⟨b1, b1, b1, b1, rfl, rfl, rfl, rfl, rfl, rfl, rfl, tv⟩ fun a w hs => ?_
  refine then_ret ?_
  exact rK (.val (.tup [vi 0, vb false])) [] hs (by rw [index_bad (by simp only [badIx, b1]; first | done | rfl)])
 ·skip
  have n1 := of_decide_eq_false b1
  rcases bt (decide ((s.size : Int) > 4)) with b2 | b2
  ·skip
   have n2 := of_decide_eq_true b2
   refine wL hs hI [(1, ⟨[], gg [4, 5, 6, 1017] [1007, 9, 10, 11, 12, 16], []⟩)] [true] 2757618915438797557726135330098470000 [ty b1, ty b1, ty b1, ty b1, ty b2, ty b2, ty b2, ty b2, ty b2, ty b2, true = true] .ret [(4, vi 0), (5, vb false)] [] ⟨tv, tv⟩ ⟨b1, b1, b1, b1, b2, b2, b2, b2, b2, b2, rfl, tv⟩ fun a w hs => ?_
   refine then_ret ?_
   exact rK (.val (.tup [vi 0, vb false])) [] hs (by rw [index_bad (by simp only [badIx, b1, b2]; first | done | rfl)])
  ·skip
   have n2 := of_decide_eq_false b2
   rcases bt ((byteAt s 0) == 48) with b3 | b3
   ·skip
    have n3 := eq_of_beq b3
    rcases bt (decide ((s.size : Int) > 1)) with b4 | b4
    ·skip
     have n4 := of_decide_eq_true b4
     refine wL hs hI [(1, ⟨[], gg [4, 5, 6, 9, 10, 11, 12, 13, 14, 15, 16, 1016] [1007, 1017], []⟩)] [true] 420779253454406365619888674560313423535664876250 [ty b1, ty b1, ty b1, ty b1, ty b2, ty b2, 0 ≤ (0 : Int) ∧ (0 : Int) < s.size, ty b2, ty b2, ty b3, ty b3, ty b3, ty b2, ty b3, ty b2, ty b4] .ret [(4, vi 0), (5, vb false)] [] ⟨tv, tv⟩ ⟨b1, b1, b1, b1, b2, b2, (by omega), b2, b2, b3, b3, b3, b2, b3, b2, b4, tv⟩ fun a w hs => ?_
     refine then_ret ?_
     exact rK (.val (.tup [vi 0, vb false])) [] hs (by rw [index_bad (by simp only [badIx, b1, b2, b3, b4]; first | done | rfl)])
    ·skip
     have n4 := of_decide_eq_false b4
     refine wL hs hI [(1, ⟨[], gg [4, 5, 6, 9, 10, 11, 12, 13, 14, 15, 16, 1016] [1007, 1017], []⟩)] [false] 26411164921746888012421409909923932393391875 [ty b1, ty b1, ty b1, ty b1, ty b2, ty b2, 0 ≤ (0 : Int) ∧ (0 : Int) < s.size, ty b2, ty b2, ty b3, ty b3, ty b3, ty b2, ty b3, ty b2, ty b4] .norm [(0, vs s), (1, vi m)] [] ⟨tv, tv⟩ ⟨b1, b1, b1, b1, b2, b2, (by omega), b2, b2, b3, b3, b3, b2, b3, b2, b4, tv⟩ fun a w hs => ?_
     refine then_norm ?_
     refine wp_seq ?_
     refine wN hs hI [] 25 [] .norm [(0, vs s), (1, vi m), (6, vi 0)] [] tv fun a w hs => ?_
     refine then_norm ?_
     refine wp_seq ?_
     refine wp_seq ?_
     refine wN hs hI [] 25 [] .norm [(0, vs s), (1, vi m), (6, vi 0), (7, vi 0)] [] tv fun a w hs => ?_
     refine then_norm ?_
     refine wp_block ?_
     have hbad : badIx s = false := by simp only [badIx, b1, b2, b3, b4]; first | done | rfl
     refine loop_L (N := Tryz.f176.ntmps) (w0 := w0) (ow := noO fz) (α := Nat) (fun p => [(0, vs s), (1, vi m), (6, vi (numTo s p)), (7, vi (p : Int))]) (fun p => []) (fun p => p ≤ s.size ∧ ∀ j, j < p → digB s j = true) (fun p => s.size - p) 0 ?_ ?_ ?_
     ·exact ⟨Nat.zero_le _, fun j hj => absurd hj (Nat.not_lt_zero _)⟩
     ·exact (hs.cst [(0, vs s), (1, vi m), (6, vi (numTo s 0)), (7, vi ((0 : Nat) : Int))] [] rfl).rm [] (by kernel_rfl)
     rintro i hJ a w hs
     obtain ⟨hi, hall⟩ := hJ
     have hn0 := numTo_lo s i
     have hn1 := numTo_hi s (i := i) (by omega)
     have hw8 := wrap8_in (byteAt s (i : Int) - 48)
     rcases bt (decide ((i : Int) < (s.size : Int))) with b5 | b5
     ·skip
      have n5 := of_decide_eq_true b5
      rcases bt (decide ((byteAt s (i : Int)) < 48)) with b6 | b6
      ·skip
       have n6 := of_decide_eq_true b6
       refine wL hs hI [(7, ⟨[], gg [1009] [5, 6, 7, 8], []⟩)] [true, true] 7096242770785456893982230956250 [ty b5, 0 ≤ (i : Int) ∧ (i : Int) < s.size, ty b6, ty b6, ty b6, ty b6, ty b6, true = true] .ret [(4, vi 0), (5, vb false)] [] ⟨tv, tv⟩ ⟨b5, (by omega), b6, b6, b6, b6, b6, rfl, tv⟩ fun a w hs => ?_
       refine then_ret ?_
       refine inb_ret ?_
       refine then_ret ?_
       exact rK (.val (.tup [vi 0, vb false])) [] hs (by rw [index_sign (i := i) hbad (by omega) (by simp only [digB, b6]; first | done | rfl)])
      ·skip
       have n6 := of_decide_eq_false b6
       rcases bt (decide ((byteAt s (i : Int)) > 57)) with b7 | b7
       ·skip
        have n7 := of_decide_eq_true b7
        refine wL hs hI [(7, ⟨[], gg [5, 6, 7, 8] [1009], []⟩)] [true, true] 2771969832338072586207588257133300000 [ty b5, 0 ≤ (i : Int) ∧ (i : Int) < s.size, ty b6, ty b6, ty b6, 0 ≤ (i : Int) ∧ (i : Int) < s.size, ty b6, ty b6, ty b7] .ret [(4, vi 0), (5, vb false)] [] ⟨tv, tv⟩ ⟨b5, (by omega), b6, b6, b6, (by omega), b6, b6, b7, tv⟩ fun a w hs => ?_
        refine then_ret ?_
        refine inb_ret ?_
        refine then_ret ?_
        exact rK (.val (.tup [vi 0, vb false])) [] hs (by rw [index_sign (i := i) hbad (by omega) (by simp only [digB, b6, b7]; first | done | rfl)])
       ·skip
        have n7 := of_decide_eq_false b7
        refine wL hs hI [(7, ⟨[], gg [5, 6, 7, 8] [1009], []⟩)] [true, false] 6615466231459115233127988631167675702770294486815625 [ty b5, 0 ≤ (i : Int) ∧ (i : Int) < s.size, ty b6, ty b6, ty b6, 0 ≤ (i : Int) ∧ (i : Int) < s.size, ty b6, ty b6, ty b7, InR .i64 (10 * (numTo s i)), 0 ≤ (i : Int) ∧ (i : Int) < s.size, InR .i64 (IntKind.wrap .u8 ((byteAt s (i : Int)) - 48)), InR .i64 ((10 * (numTo s i)) + (IntKind.wrap .u8 ((byteAt s (i : Int)) - 48))), InR .i64 ((i : Int) + 1)] .norm [(0, vs s), (1, vi m), (6, vi ((10 * (numTo s i)) + (IntKind.wrap .u8 ((byteAt s (i : Int)) - 48)))), (7, vi ((i : Int) + 1))] [] ⟨tv, tv⟩ ⟨b5, (by omega), b6, b6, b6, (by omega), b6, b6, b7, (inR64 (by omega) (by omega)), (by omega), (inR64 (by omega) (by omega)), (inR64 (by omega) (by omega)), (inR64 (by omega) (by omega)), tv⟩ fun a w hs => ?_
        refine then_norm ⟨i + 1, ⟨by omega, fun j hj => by rcases Nat.lt_succ_iff_lt_or_eq.1 hj with h | h; exact hall j h; subst h; simp only [digB, b6, b7]; first | done | rfl⟩, by omega, ?_⟩
        (have e1_ : ((i : Int) + 1) = ((((i + 1) : Nat) : Int)) := (by first | rfl | (omega)); exact (hs.cst [(0, vs s), (1, vi m), (6, vi (numTo s (i + 1))), (7, vi (((i + 1) : Nat) : Int))] [] (by first | (rw [e1_]; done) | (simp only [e1_]; done) | rfl | (simp only [e1_]; rfl))).rm [] (by kernel_rfl))
     ·skip
      have n5 := of_decide_eq_false b5
      refine wN hs hI [false] 297362500 [ty b5] (.exit 0) [(1, vi m), (6, vi (numTo s i))] [] ⟨b5, tv⟩ fun a w hs => ?_
      refine then_exit ?_
      refine inb_hit ?_
      refine then_norm ?_
      rcases bt (decide ((numTo s i) > m)) with b8 | b8
      ·skip
       have n8 := of_decide_eq_true b8
       refine wN hs hI [true] 189502128750 [ty b8] .ret [(4, vi 0), (5, vb false)] [] ⟨b8, tv⟩ fun a w hs => ?_
       exact rK (.val (.tup [vi 0, vb false])) [] hs (by obtain rfl : i = s.size := (by omega); rw [index_more hbad (fun j hj => hall j hj) (of_decide_eq_true b8)])
      ·skip
       have n8 := of_decide_eq_false b8
       refine wN hs hI [false] 115386974785000 [ty b8] .ret [(4, vi (numTo s i)), (5, vb true)] [] ⟨b8, tv⟩ fun a w hs => ?_
       exact rK (.val (.tup [vi (numTo s i), vb true])) [] hs (by obtain rfl : i = s.size := (by omega); rw [index_is hbad (fun j hj => hall j hj) (of_decide_eq_false b8)])
   ·skip
    have n3 := beq_eq_false_iff_ne.1 b3
    refine wL hs hI [(1, ⟨[], gg [4, 5, 6, 9, 10, 11, 12, 16] [1007, 13, 14, 15, 1016, 1017], []⟩)] [false] 1690314554991800832793861587903340657500 [ty b1, ty b1, ty b1, ty b1, ty b2, ty b2, 0 ≤ (0 : Int) ∧ (0 : Int) < s.size, ty b2, ty b2, ty b3, ty b3, ty b3, ty b2, ty b3, ty b2, false = false] .norm [(0, vs s), (1, vi m)] [] ⟨tv, tv⟩ ⟨b1, b1, b1, b1, b2, b2, (by omega), b2, b2, b3, b3, b3, b2, b3, b2, rfl, tv⟩ fun a w hs => ?_
    refine then_norm ?_
    refine wp_seq ?_
    refine wN hs hI [] 25 [] .norm [(0, vs s), (1, vi m), (6, vi 0)] [] tv fun a w hs => ?_
    refine then_norm ?_
    refine wp_seq ?_
    refine wp_seq ?_
    refine wN hs hI [] 25 [] .norm [(0, vs s), (1, vi m), (6, vi 0), (7, vi 0)] [] tv fun a w hs => ?_
    refine then_norm ?_
    refine wp_block ?_
    have hbad : badIx s = false := by simp only [badIx, b1, b2, b3]; first | done | rfl
    refine loop_L (N := Tryz.f176.ntmps) (w0 := w0) (ow := noO fz) (α := Nat) (fun p => [(0, vs s), (1, vi m), (6, vi (numTo s p)), (7, vi (p : Int))]) (fun p => []) (fun p => p ≤ s.size ∧ ∀ j, j < p → digB s j = true) (fun p => s.size - p) 0 ?_ ?_ ?_
    ·exact ⟨Nat.zero_le _, fun j hj => absurd hj (Nat.not_lt_zero _)⟩
    ·exact (hs.cst [(0, vs s), (1, vi m), (6, vi (numTo s 0)), (7, vi ((0 : Nat) : Int))] [] rfl).rm [] (by kernel_rfl)
    rintro i hJ a w hs
    obtain ⟨hi, hall⟩ := hJ
    have hn0 := numTo_lo s i
    have hn1 := numTo_hi s (i := i) (by omega)
    have hw8 := wrap8_in (byteAt s (i : Int) - 48)
    rcases bt (decide ((i : Int) < (s.size : Int))) with b9 | b9
    ·skip
     have n9 := of_decide_eq_true b9
     rcases bt (decide ((byteAt s (i : Int)) < 48)) with b10 | b10
     ·skip
      have n10 := of_decide_eq_true b10
      refine wL hs hI [(7, ⟨[], gg [1009] [5, 6, 7, 8], []⟩)] [true, true] 7096242770785456893982230956250 [ty b9, 0 ≤ (i : Int) ∧ (i : Int) < s.size, ty b10, ty b10, ty b10, ty b10, ty b10, true = true] .ret [(4, vi 0), (5, vb false)] [] ⟨tv, tv⟩ ⟨b9, (by omega), b10, b10, b10, b10, b10, rfl, tv⟩ fun a w hs => ?_
      refine then_ret ?_
      refine inb_ret ?_
      refine then_ret ?_
      exact rK (.val (.tup [vi 0, vb false])) [] hs (by rw [index_sign (i := i) hbad (by omega) (by simp only [digB, b10]; first | done | rfl)])
     ·skip
      have n10 := of_decide_eq_false b10
      rcases bt (decide ((byteAt s (i : Int)) > 57)) with b11 | b11
      ·skip
       have n11 := of_decide_eq_true b11
       refine wL hs hI [(7, ⟨[], gg [5, 6, 7, 8] [1009], []⟩)] [true, true] 2771969832338072586207588257133300000 [ty b9, 0 ≤ (i : Int) ∧ (i : Int) < s.size, ty b10, ty b10, ty b10, 0 ≤ (i : Int) ∧ (i : Int) < s.size, ty b10, ty b10, ty b11] .ret [(4, vi 0), (5, vb false)] [] ⟨tv, tv⟩ ⟨b9, (by omega), b10, b10, b10, (by omega), b10, b10, b11, tv⟩ fun a w hs => ?_
       refine then_ret ?_
       refine inb_ret ?_
       refine then_ret ?_
       exact rK (.val (.tup [vi 0, vb false])) [] hs (by rw [index_sign (i := i) hbad (by omega) (by simp only [digB, b10, b11]; first | done | rfl)])
      ·skip
       have n11 := of_decide_eq_false b11
       refine wL hs hI [(7, ⟨[], gg [5, 6, 7, 8] [1009], []⟩)] [true, false] 6615466231459115233127988631167675702770294486815625 [ty b9, 0 ≤ (i : Int) ∧ (i : Int) < s.size, ty b10, ty b10, ty b10, 0 ≤ (i : Int) ∧ (i : Int) < s.size, ty b10, ty b10, ty b11, InR .i64 (10 * (numTo s i)), 0 ≤ (i : Int) ∧ (i : Int) < s.size, InR .i64 (IntKind.wrap .u8 ((byteAt s (i : Int)) - 48)), InR .i64 ((10 * (numTo s i)) + (IntKind.wrap .u8 ((byteAt s (i : Int)) - 48))), InR .i64 ((i : Int) + 1)] .norm [(0, vs s), (1, vi m), (6, vi ((10 * (numTo s i)) + (IntKind.wrap .u8 ((byteAt s (i : Int)) - 48)))), (7, vi ((i : Int) + 1))] [] ⟨tv, tv⟩ ⟨b9, (by omega), b10, b10, b10, (by omega), b10, b10, b11, (inR64 (by omega) (by omega)), (by omega), (inR64 (by omega) (by omega)), (inR64 (by omega) (by omega)), (inR64 (by omega) (by omega)), tv⟩ fun a w hs => ?_
       refine then_norm ⟨i + 1, ⟨by omega, fun j hj => by rcases Nat.lt_succ_iff_lt_or_eq.1 hj with h | h; exact hall j h; subst h; simp only [digB, b10, b11]; first | done | rfl⟩, by omega, ?_⟩
       (have e1_ : ((i : Int) + 1) = ((((i + 1) : Nat) : Int)) := (by first | rfl | (omega)); exact (hs.cst [(0, vs s), (1, vi m), (6, vi (numTo s (i + 1))), (7, vi (((i + 1) : Nat) : Int))] [] (by first | (rw [e1_]; done) | (simp only [e1_]; done) | rfl | (simp only [e1_]; rfl))).rm [] (by kernel_rfl))
    ·skip
     have n9 := of_decide_eq_false b9
     refine wN hs hI [false] 297362500 [ty b9] (.exit 0) [(1, vi m), (6, vi (numTo s i))] [] ⟨b9, tv⟩ fun a w hs => ?_
     refine then_exit ?_
     refine inb_hit ?_
     refine then_norm ?_
     rcases bt (decide ((numTo s i) > m)) with b12 | b12
     ·skip
      have n12 := of_decide_eq_true b12
      refine wN hs hI [true] 189502128750 [ty b12] .ret [(4, vi 0), (5, vb false)] [] ⟨b12, tv⟩ fun a w hs => ?_
      exact rK (.val (.tup [vi 0, vb false])) [] hs (by obtain rfl : i = s.size := (by omega); rw [index_more hbad (fun j hj => hall j hj) (of_decide_eq_true b12)])
     ·skip
      have n12 := of_decide_eq_false b12
      refine wN hs hI [false] 115386974785000 [ty b12] .ret [(4, vi (numTo s i)), (5, vb true)] [] ⟨b12, tv⟩ fun a w hs => ?_
      exact rK (.val (.tup [vi (numTo s i), vb true])) [] hs (by obtain rfl : i = s.size := (by omega); rw [index_is hbad (fun j hj => hall j hj) (of_decide_eq_false b12)])
theorem con125 (t : Tree) (x : ByteArray) (hv : t.v.length < 100000000) : Con Tryz.prog I0 125 [.agg (encTree t), vs x] (.val (.tup [.agg (encTree ((childF t x).1)), vb ((childF t x).2)])) := by
 refine con_of Tryz.func125 rfl (Nat.le_of_ble_eq_true rfl) stab (fun w0 fz a hI hs => ?_)
 rcases bt (t.kind == 6) with b1 | b1
 ·skip
  have n1 := eq_of_beq b1
  rcases bt ((indexF x ((t.v.length : Int) - 1)).2) with b2 | b2
  ·skip
   have hix := index_in (by assumption : (indexF x ((t.v.length : Int) - 1)).2 = true)
   refine wL hs hI [(2, ⟨[(5, ciV 176 [vs x, vi ((t.v.length : Int) - 1)] (.tup [vi ((indexF x ((t.v.length : Int) - 1)).1), vb ((indexF x ((t.v.length : Int) - 1)).2)]))], [], []⟩)] [true, true] 677619418887388847088004693389263166796894375 [ty b1, InR .i64 ((t.v.length : Int) - 1), ty b2, 0 ≤ ((indexF x ((t.v.length : Int) - 1)).1) ∧ ((indexF x ((t.v.length : Int) - 1)).1) < t.v.length] .ret [(4, .ptr 1001 0), (5, vb true)] [(1001, bTr ((t.v.getD (((indexF x ((t.v.length : Int) - 1)).1).toNat) (dflt .tree))))] ⟨⟨⟨ent176, con176 _ _⟩, tv⟩, tv⟩ ⟨b1, (inR64 (by omega) (by omega)), b2, (by omega), tv⟩ fun a w hs => ?_
   exact rK (.val (.tup [aTr ((t.v.getD (((indexF x ((t.v.length : Int) - 1)).1).toNat) (dflt .tree))), vb true])) [] hs (by rw [childF, if_pos b1, if_pos b2])
  ·skip
   refine wL hs hI [(2, ⟨[(5, ciV 176 [vs x, vi ((t.v.length : Int) - 1)] (.tup [vi ((indexF x ((t.v.length : Int) - 1)).1), vb ((indexF x ((t.v.length : Int) - 1)).2)]))], [], []⟩), (5, ⟨[(2, ciV 69 [aTr (t), vs x] (.tup [aTr ((memV t x)), vb (memB t x)]))], [], []⟩)] [true, false] 16832238381160102662852295905351963056933613125 [ty b1, InR .i64 ((t.v.length : Int) - 1), ty b2] .ret [(4, .ptr 1001 0), (5, vb (memB t x))] [(1001, bTr ((memV t x)))] ⟨⟨⟨ent176, con176 _ _⟩, tv⟩, ⟨⟨ent69, con69 _ _ (by omega)⟩, tv⟩, tv⟩ ⟨b1, (inR64 (by omega) (by omega)), b2, tv⟩ fun a w hs => ?_
   exact rK (.val (.tup [aTr ((memV t x)), vb (memB t x)])) [] hs (by rw [childF, if_pos b1, if_neg (by rw [b2]; decide)])
 ·skip
  have n1 := beq_eq_false_iff_ne.1 b1
  refine wL hs hI [(5, ⟨[(2, ciV 69 [aTr (t), vs x] (.tup [aTr ((memV t x)), vb (memB t x)]))], [], []⟩)] [false] 18073478341389631640644375 [ty b1] .ret [(4, .ptr 1001 0), (5, vb (memB t x))] [(1001, bTr ((memV t x)))] ⟨⟨⟨ent69, con69 _ _ (by omega)⟩, tv⟩, tv⟩ ⟨b1, tv⟩ fun a w hs => ?_
  exact rK (.val (.tup [aTr ((memV t x)), vb (memB t x)])) [] hs (by rw [childF, if_neg (by rw [b1]; decide)])
theorem con63 (t : Tree) (q : List ByteArray) (hn : nodes t < 100000000) (hp : q.length < 4611686018427387904) : Con Tryz.prog I0 63 [.agg (encTree t), .row .str q] (.val (.tup [.agg (encTree ((getR q t).1)), vb ((getR q t).2)])) := by
 refine con_of Tryz.func63 rfl (Nat.le_of_ble_eq_true rfl) stab (fun w0 fz a hI hs => ?_)
 refine wp_seq ?_
 refine wN hs hI [] 19375 [] .norm [(1, rwS q), (2, .ptr 1000 0), (4, .ptr 1001 0)] [(1000, bTr (t)), (1001, .var zTr)] tv fun a w hs => ?_
 refine then_norm ?_
 refine wp_seq ?_
 refine wp_seq ?_
 refine wN hs hI [] 25 [] .norm [(1, rwS q), (2, .ptr 1000 0), (4, .ptr 1001 0), (6, vi 0)] [(1000, bTr (t)), (1001, .var zTr)] tv fun a w hs => ?_
 refine then_norm ?_
 refine wp_block ?_
 refine loop_L (N := Tryz.f63.ntmps) (w0 := w0) (ow := noO fz) (α := Nat × Tree) (fun p => [(1, rwS q), (2, .ptr 90000003 0), (4, .ptr 1001 0), (6, vi ((p.1 : Nat) : Int))]) (fun p => [(1001, .var zTr), (90000003, bTr (p.2))]) (fun p => p.1 ≤ q.length ∧ getR (q.drop p.1) p.2 = getR q t ∧ nodes p.2 ≤ nodes t) (fun p => q.length - p.1) (0, t) ?_ ?_ ?_
 ·exact ⟨Nat.zero_le _, rfl, Nat.le_refl _⟩
 ·(have e0_ : (0) = (((0 : Nat) : Int)) := (by first | rfl | (rfl)); exact (hs.cst [(1, rwS q), (2, .ptr 1000 0), (4, .ptr 1001 0), (6, vi ((0 : Nat) : Int))] [(1000, bTr (t)), (1001, .var zTr)] (by first | (rw [e0_]; done) | (simp only [e0_]; done) | rfl | (simp only [e0_]; rfl))).rm [(1001, 1001), (90000003, 1000)] (by kernel_rfl))
 rintro ⟨i, u⟩ hJ a w hs
 try dsimp only at hJ
 obtain ⟨hi, hg, hu⟩ := hJ
 rcases bt (decide ((i : Int) < (q.length : Int))) with b1 | b1
 ·skip
  have n1 := of_decide_eq_true b1
  rcases bt ((childF u (q.getD i (dflt .str))).2) with b2 | b2
  ·skip
   refine wL hs hI [(4, ⟨[(5, ciV 125 [aTr (u), vs (q.getD i (dflt .str))] (.tup [aTr (((childF u (q.getD i (dflt .str))).1)), vb ((childF u (q.getD i (dflt .str))).2)]))], [], []⟩)] [true, false] 27096949662026463647634954750549621879393750 [ty b1, 0 ≤ (i : Int) ∧ (i : Int) < q.length, ty (ng1 b2), InR .i64 ((i : Int) + 1)] .norm [(1, rwS q), (2, .ptr 90000003 0), (4, .ptr 1001 0), (6, vi ((i : Int) + 1))] [(1001, .var zTr), (90000003, bTr (((childF u (q.getD i (dflt .str))).1)))] ⟨⟨⟨ent125, con125 _ _ (by have h1 := nodes_eq u; have h2 := nodesL_len u.v; omega)⟩, tv⟩, tv⟩ ⟨b1, (by omega), (ng1 b2), (inR64 (by omega) (by omega)), tv⟩ fun a w hs => ?_
   refine then_norm ⟨(i + 1, (childF u (q.getD i (dflt .str))).1), ⟨by omega, by rw [← getR_yes (by omega) b2]; exact hg, Nat.le_trans (child_nodes _ _) hu⟩, by omega, ?_⟩
   (have e0_ : ((i : Int) + 1) = ((((i + 1) : Nat) : Int)) := (by first | rfl | (omega)); exact (hs.cst [(1, rwS q), (2, .ptr 90000003 0), (4, .ptr 1001 0), (6, vi (((i + 1) : Nat) : Int))] [(1001, .var zTr), (90000003, bTr (((childF u (q.getD i (dflt .str))).1)))] (by first | (rw [e0_]; done) | (simp only [e0_]; done) | rfl | (simp only [e0_]; rfl))).rm [(1001, 1001), (90000003, 90000003)] (by kernel_rfl))
  ·skip
   refine wL hs hI [(4, ⟨[(5, ciV 125 [aTr (u), vs (q.getD i (dflt .str))] (.tup [aTr (((childF u (q.getD i (dflt .str))).1)), vb ((childF u (q.getD i (dflt .str))).2)]))], [], []⟩)] [true, true] 1734278501135213446104526531524955565625 [ty b1, 0 ≤ (i : Int) ∧ (i : Int) < q.length, ty (ng0 b2)] .ret [(4, .ptr 1001 0), (5, vb false)] [(1001, .var zTr)] ⟨⟨⟨ent125, con125 _ _ (by have h1 := nodes_eq u; have h2 := nodesL_len u.v; omega)⟩, tv⟩, tv⟩ ⟨b1, (by omega), (ng0 b2), tv⟩ fun a w hs => ?_
   refine then_ret ?_
   refine inb_ret ?_
   refine then_ret ?_
   exact rK (.val (.tup [.agg [vi 0, vb false, vb false, rwU ([]), vi 0, vs (ba []), rwS ([]), rwT ([])], vb false])) [] hs (by rw [← hg, getR_no (by omega) b2]; try rfl)
 ·skip
  have n1 := of_decide_eq_false b1
  refine wN hs hI [false] 297362500 [ty b1] (.exit 0) [(2, .ptr 90000003 0), (4, .ptr 1001 0)] [(1001, .var zTr), (90000003, bTr (u))] ⟨b1, tv⟩ fun a w hs => ?_
  refine then_exit ?_
  refine inb_hit ?_
  refine then_norm ?_
  refine wN hs hI [] 410000 [] .ret [(4, .ptr 1001 0), (5, vb true)] [(1001, bTr (u))] tv fun a w hs => ?_
  exact rK (.val (.tup [aTr (u), vb true])) [] hs (by rw [← hg, List.drop_of_length_le (by omega)]; try rfl)
theorem con128_ (v : Tree) : ∀ (n : Nat) (q : List ByteArray) (t : Tree), q.length < n → nodes t < 100000000 → Con Tryz.prog I0 128 [.agg (encTree t), .row .str q, .agg (encTree v)] (.val (.tup [.agg (encTree ((putR q t v).1)), vb ((putR q t v).2)])) := by
 intro n
 induction n
 case zero => intro q t hn ht; omega
 rename_i n ih
 intro q t hn ht
 have hvl := nodesL_len t.v
 have hne := nodes_eq t
 refine con_of Tryz.func128 rfl (Nat.le_of_ble_eq_true rfl) stab (fun w0 fz a hI hs => ?_)
 rcases bt ((q.length : Int) == 0) with b1 | b1
 ·skip
  have n1 := eq_of_beq b1
  refine wN hs hI [true] 46506405219727050000 [ty b1] .ret [(6, .ptr 1002 0), (7, vb true)] [(1002, bTr (v))] ⟨b1, tv⟩ fun a w hs => ?_
  exact rK (.val (.tup [aTr (v), vb true])) [] hs (by have h0 : q = [] := List.eq_nil_of_length_eq_zero (by omega); rw [h0]; rfl)
 ·skip
  have n1 := beq_eq_false_iff_ne.1 b1
  rcases bt ((childF t (q.getD 0 (dflt .str))).2) with b2 | b2
  ·skip
   rcases bt ((putR (q.drop 1) ((childF t (q.getD 0 (dflt .str))).1) v).2) with b3 | b3
   ·skip
    rcases bt (t.kind == 7) with b4 | b4
    ·skip
     have n4 := eq_of_beq b4
     refine wL hs hI [(3, ⟨[(4, ciV 125 [aTr (t), vs (q.getD 0 (dflt .str))] (.tup [aTr (((childF t (q.getD 0 (dflt .str))).1)), vb ((childF t (q.getD 0 (dflt .str))).2)]))], [], []⟩), (6, ⟨[(4, ciV 128 [aTr (((childF t (q.getD 0 (dflt .str))).1)), rwS (q.drop 1), aTr (v)] (.tup [aTr (((putR (q.drop 1) ((childF t (q.getD 0 (dflt .str))).1) v).1)), vb ((putR (q.drop 1) ((childF t (q.getD 0 (dflt .str))).1) v).2)]))], [], []⟩), (10, ⟨[(5, ciV 22 [aTr (t), vs (q.getD 0 (dflt .str)), aTr (((putR (q.drop 1) ((childF t (q.getD 0 (dflt .str))).1) v).1))] (aTr ((setT t (q.getD 0 (dflt .str)) ((putR (q.drop 1) ((childF t (q.getD 0 (dflt .str))).1) v).1)))))], [], []⟩)] [false, false, false, true] 1504632152754558989649452244277197597382114802585704467219323851351761207275878125 [ty b1, 0 ≤ (0 : Int) ∧ (0 : Int) < q.length, ty (ng1 b2), 0 ≤ (1 : Int) ∧ (1 : Int) ≤ (q.length : Int) ∧ (q.length : Int) ≤ (q.length : Int) ∧ (q.length : Int) ≤ (q.length : Int), ty (ng1 b3), ty b4, 0 ≤ (0 : Int) ∧ (0 : Int) < q.length] .ret [(6, .ptr 1002 0), (7, vb true)] [(1002, bTr ((setT t (q.getD 0 (dflt .str)) ((putR (q.drop 1) ((childF t (q.getD 0 (dflt .str))).1) v).1))))] ⟨⟨⟨ent125, con125 _ _ (by have h1 := nodes_eq t; have h2 := nodesL_len t.v; omega)⟩, tv⟩, ⟨⟨ent128, ih _ _ (by rw [List.length_drop]; omega) (by have := child_nodes t (q.getD 0 (dflt .str)); omega)⟩, tv⟩, ⟨⟨ent22, con22 _ _ _ (by have h1 := nodes_eq t; have h2 := nodesL_len t.v; omega)⟩, tv⟩, tv⟩ ⟨b1, (by omega), (ng1 b2), (by (repeat' apply And.intro) <;> (try split) <;> omega), (ng1 b3), b4, (by omega), tv⟩ fun a w hs => ?_
     exact rK (.val (.tup [aTr ((setT t (q.getD 0 (dflt .str)) ((putR (q.drop 1) ((childF t (q.getD 0 (dflt .str))).1) v).1))), vb true])) [] hs (by rw [putR_at (q := q) (by omega), if_pos b2, if_pos b3, if_pos b4]; first | done | rfl | (rw [Tree.eta']; rfl))
    ·skip
     have n4 := beq_eq_false_iff_ne.1 b4
     have hsx := child_six (by assumption : (childF t (q.getD 0 (dflt .str))).2 = true) (by omega)
     have hix := index_in hsx.2
     refine wL hs hI [(3, ⟨[(4, ciV 125 [aTr (t), vs (q.getD 0 (dflt .str))] (.tup [aTr (((childF t (q.getD 0 (dflt .str))).1)), vb ((childF t (q.getD 0 (dflt .str))).2)]))], [], []⟩), (6, ⟨[(4, ciV 128 [aTr (((childF t (q.getD 0 (dflt .str))).1)), rwS (q.drop 1), aTr (v)] (.tup [aTr (((putR (q.drop 1) ((childF t (q.getD 0 (dflt .str))).1) v).1)), vb ((putR (q.drop 1) ((childF t (q.getD 0 (dflt .str))).1) v).2)]))], [], []⟩), (11, ⟨[(7, ciV 176 [vs (q.getD 0 (dflt .str)), vi ((t.v.length : Int) - 1)] (.tup [vi ((indexF (q.getD 0 (dflt .str)) ((t.v.length : Int) - 1)).1), vb ((indexF (q.getD 0 (dflt .str)) ((t.v.length : Int) - 1)).2)]))], [], []⟩)] [false, false, false, false] 83523896916143501192836974853247433418066689051085646872568033441164092286904470475147519721303973347132229194336425000 [ty b1, 0 ≤ (0 : Int) ∧ (0 : Int) < q.length, ty (ng1 b2), 0 ≤ (1 : Int) ∧ (1 : Int) ≤ (q.length : Int) ∧ (q.length : Int) ≤ (q.length : Int) ∧ (q.length : Int) ≤ (q.length : Int), ty (ng1 b3), ty b4, 0 ≤ (0 : Int) ∧ (0 : Int) < q.length, InR .i64 ((t.v.length : Int) - 1), (t.v.length * 120 : Nat) ≤ 140737488355328 ∧ t.v.length ≤ 140737488355328, 0 ≤ ((indexF (q.getD 0 (dflt .str)) ((t.v.length : Int) - 1)).1) ∧ ((indexF (q.getD 0 (dflt .str)) ((t.v.length : Int) - 1)).1) < t.v.length, ((indexF (q.getD 0 (dflt .str)) ((t.v.length : Int) - 1)).1).toNat < t.v.length] .ret [(6, .ptr 1002 0), (7, vb true)] [(1002, .var [vi t.kind, vb t.b, vb t.n.neg, rwU t.n.m, vi t.n.e, vs t.s, rwS t.k, .own 14002]), (14002, .sl 29 .tree (t.v.set (((indexF (q.getD 0 (dflt .str)) ((t.v.length : Int) - 1)).1).toNat) (Tree.et ((putR (q.drop 1) ((childF t (q.getD 0 (dflt .str))).1) v).1))))] ⟨⟨⟨ent125, con125 _ _ (by have h1 := nodes_eq t; have h2 := nodesL_len t.v; omega)⟩, tv⟩, ⟨⟨ent128, ih _ _ (by rw [List.length_drop]; omega) (by have := child_nodes t (q.getD 0 (dflt .str)); omega)⟩, tv⟩, ⟨⟨ent176, con176 _ _⟩, tv⟩, tv⟩ ⟨b1, (by omega), (ng1 b2), (by (repeat' apply And.intro) <;> (try split) <;> omega), (ng1 b3), b4, (by omega), (inR64 (by omega) (by omega)), (by omega), (by omega), (by omega), tv⟩ fun a w hs => ?_
     exact rK (.val (.tup [.agg [vi t.kind, vb t.b, vb t.n.neg, rwU t.n.m, vi t.n.e, vs t.s, rwS t.k, rwT (t.v.set (((indexF (q.getD 0 (dflt .str)) ((t.v.length : Int) - 1)).1).toNat) (Tree.et ((putR (q.drop 1) ((childF t (q.getD 0 (dflt .str))).1) v).1)))], vb true])) [14002] hs (by rw [putR_at (q := q) (by omega), if_pos b2, if_pos b3, if_neg (by rw [b4]; decide)]; first | done | rfl | (rw [Tree.eta']; rfl))
   ·skip
    refine wL hs hI [(3, ⟨[(4, ciV 125 [aTr (t), vs (q.getD 0 (dflt .str))] (.tup [aTr (((childF t (q.getD 0 (dflt .str))).1)), vb ((childF t (q.getD 0 (dflt .str))).2)]))], [], []⟩), (6, ⟨[(4, ciV 128 [aTr (((childF t (q.getD 0 (dflt .str))).1)), rwS (q.drop 1), aTr (v)] (.tup [aTr (((putR (q.drop 1) ((childF t (q.getD 0 (dflt .str))).1) v).1)), vb ((putR (q.drop 1) ((childF t (q.getD 0 (dflt .str))).1) v).2)]))], [], []⟩)] [false, false, true] 631087429129574718981673425833286615045381034724597954139404784375 [ty b1, 0 ≤ (0 : Int) ∧ (0 : Int) < q.length, ty (ng1 b2), 0 ≤ (1 : Int) ∧ (1 : Int) ≤ (q.length : Int) ∧ (q.length : Int) ≤ (q.length : Int) ∧ (q.length : Int) ≤ (q.length : Int), ty (ng0 b3)] .ret [(6, .ptr 1002 0), (7, vb false)] [(1002, .var zTr)] ⟨⟨⟨ent125, con125 _ _ (by have h1 := nodes_eq t; have h2 := nodesL_len t.v; omega)⟩, tv⟩, ⟨⟨ent128, ih _ _ (by rw [List.length_drop]; omega) (by have := child_nodes t (q.getD 0 (dflt .str)); omega)⟩, tv⟩, tv⟩ ⟨b1, (by omega), (ng1 b2), (by (repeat' apply And.intro) <;> (try split) <;> omega), (ng0 b3), tv⟩ fun a w hs => ?_
    exact rK (.val (.tup [.agg [vi 0, vb false, vb false, rwU ([]), vi 0, vs (ba []), rwS ([]), rwT ([])], vb false])) [] hs (by rw [putR_at (q := q) (by omega), if_pos b2, if_neg (by rw [b3]; decide)]; first | done | rfl | (rw [Tree.eta']; rfl))
  ·skip
   refine wL hs hI [(3, ⟨[(4, ciV 125 [aTr (t), vs (q.getD 0 (dflt .str))] (.tup [aTr (((childF t (q.getD 0 (dflt .str))).1)), vb ((childF t (q.getD 0 (dflt .str))).2)]))], [], []⟩)] [false, true] 27103663765757630699221044962429389648925000 [ty b1, 0 ≤ (0 : Int) ∧ (0 : Int) < q.length, ty (ng0 b2)] .ret [(6, .ptr 1002 0), (7, vb false)] [(1002, .var zTr)] ⟨⟨⟨ent125, con125 _ _ (by have h1 := nodes_eq t; have h2 := nodesL_len t.v; omega)⟩, tv⟩, tv⟩ ⟨b1, (by omega), (ng0 b2), tv⟩ fun a w hs => ?_
   exact rK (.val (.tup [.agg [vi 0, vb false, vb false, rwU ([]), vi 0, vs (ba []), rwS ([]), rwT ([])], vb false])) [] hs (by rw [putR_at (q := q) (by omega), if_neg (by rw [b2]; decide)]; first | done | rfl | (rw [Tree.eta']; rfl))
end Go.Proofs.YtondpnipoogoiaaGreatDoor.F
