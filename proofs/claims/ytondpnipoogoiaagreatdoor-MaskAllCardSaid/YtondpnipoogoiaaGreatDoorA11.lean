import Derived.Test.YtondpnipoogoiaaGreatDoorA9
import Derived.Test.YtondpnipoogoiaaGreatDoorA10
set_option maxRecDepth 100000
set_option linter.unusedVariables false
set_option linter.unusedSimpArgs false
namespace Go.Proofs.YtondpnipoogoiaaGreatDoor.F
open Go Go.RowKit Go.Proofs.Tryz
def badT (t : Tree) : Bool := ((((t.kind != 2 && t.b) || (t.kind != 3 && !ownN t.n)) || ((t.kind != 4 && t.kind != 5) && !(t.s.toList == (ba []).toList))) || (t.kind != 7 && decide ((t.k.length : Int) > 0))) || ((t.kind != 7 && t.kind != 6) && decide ((t.v.length : Int) > 0))
def fieldsF (t : Tree) : Bool :=
 if badT t = true then false else if (t.kind == 1) = true then true else if (t.kind == 2) = true then true else if (t.kind == 3) = true then checkN t.n
 else if (t.kind == 4) = true then X.validAt t.s t.s.size 0 && decide ((t.s.size : Int) ≤ 2000) else if (t.kind == 5) = true then decide ((t.s.size : Int) ≤ 2000)
 else if (t.kind == 6) = true then decide ((t.v.length : Int) ≤ 300) else if (t.kind == 7) = true then namesOk t.k && ((t.k.length : Int) == (t.v.length : Int)) else false
theorem gt0 (n : Nat) : decide ((n : Int) > 0) = !((n : Int) == 0) := by
 rw [Bool.eq_iff_iff]; simp; omega
theorem names_300 {l : List ByteArray} (h : namesOk l = true) : (l.length : Int) ≤ 300 := by
 unfold namesOk at h; rw [Bool.and_eq_true] at h; exact of_decide_eq_true h.2
theorem fields_own (t : Tree) : fieldsF t = ownO t := by
 have e1 : ∀ (c : Bool) (x : Bool), (if c = true then false else x) = (!c && x) := fun c x => by cases c <;> rfl
 unfold fieldsF badT ownO truthO numO textO textOk keysO itemsO
 rw [e1, gt0, gt0]
 generalize ((t.k.length : Int) == 0) = K0
 generalize ((t.v.length : Int) == 0) = V0
 generalize (t.s.toList == (ba []).toList) = S0
 generalize ownN t.n = N0
 generalize t.b = B0
 by_cases h1 : t.kind = 1
 ·simp only [h1]; cases B0 <;> cases N0 <;> cases S0 <;> cases K0 <;> cases V0 <;> rfl
 by_cases h2 : t.kind = 2
 ·simp only [h2]; cases B0 <;> cases N0 <;> cases S0 <;> cases K0 <;> cases V0 <;> rfl
 by_cases h3 : t.kind = 3
 ·simp only [h3]; generalize checkN t.n = C0; cases B0 <;> cases N0 <;> cases S0 <;> cases K0 <;> cases V0 <;> cases C0 <;> rfl
 by_cases h4 : t.kind = 4
 ·simp only [h4]; generalize X.validAt t.s t.s.size 0 = C0; generalize decide ((t.s.size : Int) ≤ 2000) = D0; cases B0 <;> cases N0 <;> cases S0 <;> cases K0 <;> cases V0 <;> cases C0 <;> cases D0 <;> rfl
 by_cases h5 : t.kind = 5
 ·simp only [h5]; generalize decide ((t.s.size : Int) ≤ 2000) = D0; cases B0 <;> cases N0 <;> cases S0 <;> cases K0 <;> cases V0 <;> cases D0 <;> rfl
 by_cases h6 : t.kind = 6
 ·simp only [h6]; generalize decide ((t.v.length : Int) ≤ 300) = D0; cases B0 <;> cases N0 <;> cases S0 <;> cases K0 <;> cases V0 <;> cases D0 <;> rfl
 by_cases h7 : t.kind = 7
 ·simp only [h7]
  have h8 : (namesOk t.k && ((t.k.length : Int) == (t.v.length : Int))) = ((namesOk t.k && ((t.k.length : Int) == (t.v.length : Int))) && decide ((t.v.length : Int) ≤ 300)) := by
   rw [Bool.eq_iff_iff]
   simp only [Bool.and_eq_true, decide_eq_true_eq]
   exact ⟨fun h => ⟨h, by have := names_300 h.1; have := eq_of_beq h.2; omega⟩, fun h => h.1⟩
  revert h8
  generalize (namesOk t.k && ((t.k.length : Int) == (t.v.length : Int))) = C0
  generalize decide ((t.v.length : Int) ≤ 300) = D0
  cases B0 <;> cases N0 <;> cases S0 <;> cases K0 <;> cases V0 <;> cases C0 <;> cases D0 <;> intro h <;> first | rfl | exact absurd h (by decide)
 ·have q1 : (t.kind == 1) = false := by simpa using h1
  have q2 : (t.kind == 2) = false := by simpa using h2
  have q3 : (t.kind == 3) = false := by simpa using h3
  have q4 : (t.kind == 4) = false := by simpa using h4
  have q5 : (t.kind == 5) = false := by simpa using h5
  have q6 : (t.kind == 6) = false := by simpa using h6
  have q7 : (t.kind == 7) = false := by simpa using h7
  rw [q1, q2, q3, q4, q5, q6, q7, decide_eq_false (show ¬ (1 ≤ t.kind ∧ t.kind ≤ 7) by omega)]
  simp
theorem con150 (t : Tree) (ha : Ok t.n.m) (hl : t.n.m.length < 1000000000) (hk : t.k.length < 1000000000) (hs0 : t.s.size < 4294967281) (hks : ∀ x ∈ t.k, x.size < 4294967281) : Con Tryz.prog I0 150 [.agg (encTree t)] (.val (vb (ownO t))) := by
 refine con_of Tryz.func150 rfl (Nat.le_of_ble_eq_true rfl) stab (fun w0 fz a hI hs => ?_)
 rcases bt (t.kind != 2) with b1 | b1
 ·skip
  have n1 := bne_iff_ne.1 b1
  rcases bt (t.b) with b2 | b2
  ·skip
   refine wL hs hI [(1, ⟨[], gg [4, 5, 1006, 1017, 1032, 1043, 1059] [8, 9, 10, 11, 16, 19, 20, 21, 22, 26, 27, 31, 34, 35, 36, 37, 42, 45, 46, 47, 48, 52, 53, 58], []⟩)] [true] [2] [] ((True ∧ True ∧ True) ∧ ((tr 4 (rp 3 b1 ((ty b2) ∧ (ty b2) ∧ (ty b2) ∧ (ty b2) ∧ (tr 4 ((ty b2) ∧ (ty b2) ∧ True ∧ (true = true) ∧ (true = true) ∧ (true = true) ∧ (true = true) ∧ (tr 3 ((true = true) ∧ (true = true) ∧ (tr 3 ((true = true) ∧ (true = true) ∧ True ∧ (true = true) ∧ (true = true) ∧ (true = true) ∧ (true = true) ∧ (tr 4 ((true = true) ∧ (true = true) ∧ True ∧ (true = true) ∧ (true = true) ∧ (true = true) ∧ (true = true) ∧ (tr 3 ((true = true) ∧ (true = true) ∧ (tr 4 ((true = true) ∧ (true = true) ∧ True))))))))))))))) ∧ (true = true) ∧ (True ∧ True) ∧ True)) .ret [(2, vb false)] [] ⟨tv, tv⟩ (by kernel_rfl) ⟨⟨tv, tv, tv⟩, tr_mk (rp_mk (⟨b2, b2, b2, b2, tr_mk (⟨b2, b2, tv, rfl, rfl, rfl, rfl, tr_mk (⟨rfl, rfl, tr_mk (⟨rfl, rfl, tv, rfl, rfl, rfl, rfl, tr_mk (⟨rfl, rfl, tv, rfl, rfl, rfl, rfl, tr_mk (⟨rfl, rfl, tr_mk (⟨rfl, rfl, tv⟩) 4⟩) 3⟩) 4⟩) 3⟩) 3⟩) 4⟩) 3) 4, rfl, ⟨tv, tv⟩, tv⟩ (fun a w hs => ?_)
   exact FnQ_cast (out := .val (vb false)) (by rw [← fields_own]; simp only [fieldsF, badT, b1, b2]; first | done | rfl) (ret_ok [] hs ⟨by kernel_rfl, rfl⟩)
  ·skip
   rcases bt (t.kind != 3) with b3 | b3
   ·skip
    have n3 := bne_iff_ne.1 b3
    rcases bt (ownN t.n) with b4 | b4
    ·skip
     rcases bt (t.kind != 4) with b5 | b5
     ·skip
      have n5 := bne_iff_ne.1 b5
      rcases bt (t.kind != 5) with b6 | b6
      ·skip
       have n6 := bne_iff_ne.1 b6
       rcases bt (t.s.toList == (ba []).toList) with b7 | b7
       ·skip
        have n7 := eq_of_beq b7
        rcases bt (t.kind != 7) with b8 | b8
        ·skip
         have n8 := bne_iff_ne.1 b8
         rcases bt (decide ((t.k.length : Int) > 0)) with b9 | b9
         ·skip
          have n9 := of_decide_eq_true b9
          refine wL hs hI [(1, ⟨[(14, ciA 199 [.agg [vb t.n.neg, .row (.int .u32) t.n.m, vi t.n.e]] [] [] (.val (vb (ownN t.n))))], gg [4, 5, 1006, 8, 9, 10, 11, 12, 13, 14, 15, 16, 1016, 19, 20, 21, 22, 23, 24, 25, 26, 1026, 27, 28, 29, 30, 31, 1031, 34, 35, 36, 37, 38, 39, 40, 41, 42, 1042, 1059] [1017, 1032, 1043, 45, 46, 47, 48, 52, 53, 58], []⟩)] [true] [2] [] ((True ∧ True ∧ True) ∧ ((tr 4 (rp 3 b1 (rp 4 b2 (rp 2 b3 ((ty b3) ∧ (okArgs [.agg [vb t.n.neg, .row (.int .u32) t.n.m, vi t.n.e]]) ∧ (ty b3) ∧ True ∧ (ty b2) ∧ (ty b3) ∧ (ty b2) ∧ True ∧ (rp 4 (ng1 b4) (rp 3 b5 ((ty (ng1 b4)) ∧ (ty b5) ∧ (ty (ng1 b4)) ∧ True ∧ (rp 3 b6 ((ty (ng1 b4)) ∧ (ty b6) ∧ (ty (ng1 b4)) ∧ True ∧ (rp 4 (ng1 b7) (rp 4 b8 ((ty (ng1 b7)) ∧ (ty b8) ∧ (ty (ng1 b7)) ∧ True ∧ (ty b9) ∧ (ty b9) ∧ (ty b9) ∧ (ty b9) ∧ (tr 3 ((ty b9) ∧ (ty b9) ∧ (tr 4 ((ty b9) ∧ (ty b9) ∧ True))))))))))))))))) ∧ (true = true) ∧ (True ∧ True) ∧ True)) .ret [(2, vb false)] [] ⟨⟨⟨ent199, con199 t.n⟩, tv⟩, tv⟩ (by kernel_rfl) ⟨⟨tv, tv, tv⟩, tr_mk (rp_mk (rp_mk (rp_mk (⟨b3, rfl, b3, tv, b2, b3, b2, tv, rp_mk (rp_mk (⟨(ng1 b4), b5, (ng1 b4), tv, rp_mk (⟨(ng1 b4), b6, (ng1 b4), tv, rp_mk (rp_mk (⟨(ng1 b7), b8, (ng1 b7), tv, b9, b9, b9, b9, tr_mk (⟨b9, b9, tr_mk (⟨b9, b9, tv⟩) 4⟩) 3⟩) 4) 4⟩) 3⟩) 3) 4⟩) 2) 4) 3) 4, rfl, ⟨tv, tv⟩, tv⟩ (fun a w hs => ?_)
          exact FnQ_cast (out := .val (vb false)) (by rw [← fields_own]; simp only [fieldsF, badT, b1, b2, b3, b4, b5, b6, b7, b8, b9]; first | done | rfl) (ret_ok [] hs ⟨by kernel_rfl, rfl⟩)
         ·skip
          have n9 := of_decide_eq_false b9
          rcases bt (t.kind != 6) with b10 | b10
          ·skip
           have n10 := bne_iff_ne.1 b10
           rcases bt (decide ((t.v.length : Int) > 0)) with b11 | b11
           ·skip
            have n11 := of_decide_eq_true b11
            refine wL hs hI [(1, ⟨[(14, ciA 199 [.agg [vb t.n.neg, .row (.int .u32) t.n.m, vi t.n.e]] [] [] (.val (vb (ownN t.n))))], gg [4, 5, 1006, 8, 9, 10, 11, 12, 13, 14, 15, 16, 1016, 19, 20, 21, 22, 23, 24, 25, 26, 1026, 27, 28, 29, 30, 31, 1031, 34, 35, 36, 37, 38, 39, 40, 41, 42, 1042, 45, 46, 47, 48, 49, 50, 51, 52, 1052, 53, 54, 55, 56, 57, 58, 1058] [1017, 1032, 1043, 1059], []⟩)] [true] [2] [] ((True ∧ True ∧ True) ∧ ((tr 4 (rp 3 b1 (rp 4 b2 (rp 2 b3 ((ty b3) ∧ (okArgs [.agg [vb t.n.neg, .row (.int .u32) t.n.m, vi t.n.e]]) ∧ (ty b3) ∧ True ∧ (ty b2) ∧ (ty b3) ∧ (ty b2) ∧ True ∧ (rp 4 (ng1 b4) (rp 3 b5 ((ty (ng1 b4)) ∧ (ty b5) ∧ (ty (ng1 b4)) ∧ True ∧ (rp 3 b6 ((ty (ng1 b4)) ∧ (ty b6) ∧ (ty (ng1 b4)) ∧ True ∧ (rp 4 (ng1 b7) (rp 4 b8 ((ty (ng1 b7)) ∧ (ty b8) ∧ (ty (ng1 b7)) ∧ True ∧ (rp 4 b9 (rp 3 b8 ((ty b9) ∧ (ty b8) ∧ (ty b9) ∧ True ∧ (rp 4 b10 ((ty b9) ∧ (ty b10) ∧ (ty b9) ∧ True)))))))))))))))))) ∧ (ty b11) ∧ (True ∧ True) ∧ True)) .ret [(2, vb false)] [] ⟨⟨⟨ent199, con199 t.n⟩, tv⟩, tv⟩ (by kernel_rfl) ⟨⟨tv, tv, tv⟩, tr_mk (rp_mk (rp_mk (rp_mk (⟨b3, rfl, b3, tv, b2, b3, b2, tv, rp_mk (rp_mk (⟨(ng1 b4), b5, (ng1 b4), tv, rp_mk (⟨(ng1 b4), b6, (ng1 b4), tv, rp_mk (rp_mk (⟨(ng1 b7), b8, (ng1 b7), tv, rp_mk (rp_mk (⟨b9, b8, b9, tv, rp_mk (⟨b9, b10, b9, tv⟩) 4⟩) 3) 4⟩) 4) 4⟩) 3⟩) 3) 4⟩) 2) 4) 3) 4, b11, ⟨tv, tv⟩, tv⟩ (fun a w hs => ?_)
            exact FnQ_cast (out := .val (vb false)) (by rw [← fields_own]; simp only [fieldsF, badT, b1, b2, b3, b4, b5, b6, b7, b8, b9, b10, b11]; first | done | rfl) (ret_ok [] hs ⟨by kernel_rfl, rfl⟩)
           ·skip
            have n11 := of_decide_eq_false b11
            rcases bt (t.kind == 1) with b12 | b12
            ·skip
             have n12 := eq_of_beq b12
             refine wL hs hI [(1, ⟨[(14, ciA 199 [.agg [vb t.n.neg, .row (.int .u32) t.n.m, vi t.n.e]] [] [] (.val (vb (ownN t.n))))], gg [4, 5, 1006, 8, 9, 10, 11, 12, 13, 14, 15, 16, 1016, 19, 20, 21, 22, 23, 24, 25, 26, 1026, 27, 28, 29, 30, 31, 1031, 34, 35, 36, 37, 38, 39, 40, 41, 42, 1042, 45, 46, 47, 48, 49, 50, 51, 52, 1052, 53, 54, 55, 56, 57, 58, 1058] [1017, 1032, 1043, 1059], []⟩)] [false, true, true] [2] [] ((True ∧ True ∧ True) ∧ (((tr 4 (rp 3 b1 (rp 4 b2 (rp 2 b3 ((ty b3) ∧ (okArgs [.agg [vb t.n.neg, .row (.int .u32) t.n.m, vi t.n.e]]) ∧ (ty b3) ∧ True ∧ (ty b2) ∧ (ty b3) ∧ (ty b2) ∧ True ∧ (rp 4 (ng1 b4) (rp 3 b5 ((ty (ng1 b4)) ∧ (ty b5) ∧ (ty (ng1 b4)) ∧ True ∧ (rp 3 b6 ((ty (ng1 b4)) ∧ (ty b6) ∧ (ty (ng1 b4)) ∧ True ∧ (rp 4 (ng1 b7) (rp 4 b8 ((ty (ng1 b7)) ∧ (ty b8) ∧ (ty (ng1 b7)) ∧ True ∧ (rp 4 b9 (rp 3 b8 ((ty b9) ∧ (ty b8) ∧ (ty b9) ∧ True ∧ (rp 4 b10 ((ty b9) ∧ (ty b10) ∧ (ty b9) ∧ True)))))))))))))))))) ∧ (ty b11) ∧ True) ∧ (True ∧ True ∧ True) ∧ ((True ∧ True ∧ True) ∧ (ty b12) ∧ True) ∧ (ty b12) ∧ (True ∧ True) ∧ True)) .ret [(2, vb true)] [] ⟨⟨⟨ent199, con199 t.n⟩, tv⟩, tv⟩ (by kernel_rfl) ⟨⟨tv, tv, tv⟩, ⟨tr_mk (rp_mk (rp_mk (rp_mk (⟨b3, rfl, b3, tv, b2, b3, b2, tv, rp_mk (rp_mk (⟨(ng1 b4), b5, (ng1 b4), tv, rp_mk (⟨(ng1 b4), b6, (ng1 b4), tv, rp_mk (rp_mk (⟨(ng1 b7), b8, (ng1 b7), tv, rp_mk (rp_mk (⟨b9, b8, b9, tv, rp_mk (⟨b9, b10, b9, tv⟩) 4⟩) 3) 4⟩) 4) 4⟩) 3⟩) 3) 4⟩) 2) 4) 3) 4, b11, tv⟩, ⟨tv, tv, tv⟩, ⟨⟨tv, tv, tv⟩, b12, tv⟩, b12, ⟨tv, tv⟩, tv⟩ (fun a w hs => ?_)
             exact FnQ_cast (out := .val (vb true)) (by rw [← fields_own]; simp only [fieldsF, badT, b1, b2, b3, b4, b5, b6, b7, b8, b9, b10, b11, b12]; first | done | rfl) (ret_ok [] hs ⟨by kernel_rfl, rfl⟩)
            ·skip
             have n12 := beq_eq_false_iff_ne.1 b12
             have b13 : (t.kind == 2) = false := by simpa using b1
             have b14 : (t.kind == 3) = false := by simpa using b3
             have b15 : (t.kind == 4) = false := by simpa using b5
             have b16 : (t.kind == 5) = false := by simpa using b6
             have b17 : (t.kind == 6) = false := by simpa using b10
             have b18 : (t.kind == 7) = false := by simpa using b8
             refine wL hs hI [(1, ⟨[(14, ciA 199 [.agg [vb t.n.neg, .row (.int .u32) t.n.m, vi t.n.e]] [] [] (.val (vb (ownN t.n))))], gg [4, 5, 1006, 8, 9, 10, 11, 12, 13, 14, 15, 16, 1016, 19, 20, 21, 22, 23, 24, 25, 26, 1026, 27, 28, 29, 30, 31, 1031, 34, 35, 36, 37, 38, 39, 40, 41, 42, 1042, 45, 46, 47, 48, 49, 50, 51, 52, 1052, 53, 54, 55, 56, 57, 58, 1058] [1017, 1032, 1043, 1059], []⟩)] [false, false, false, false, false, false, false, false] [2] [] ((True ∧ True ∧ True) ∧ (((tr 4 (rp 3 b1 (rp 4 b2 (rp 2 b3 ((ty b3) ∧ (okArgs [.agg [vb t.n.neg, .row (.int .u32) t.n.m, vi t.n.e]]) ∧ (ty b3) ∧ True ∧ (ty b2) ∧ (ty b3) ∧ (ty b2) ∧ True ∧ (rp 4 (ng1 b4) (rp 3 b5 ((ty (ng1 b4)) ∧ (ty b5) ∧ (ty (ng1 b4)) ∧ True ∧ (rp 3 b6 ((ty (ng1 b4)) ∧ (ty b6) ∧ (ty (ng1 b4)) ∧ True ∧ (rp 4 (ng1 b7) (rp 4 b8 ((ty (ng1 b7)) ∧ (ty b8) ∧ (ty (ng1 b7)) ∧ True ∧ (rp 4 b9 (rp 3 b8 ((ty b9) ∧ (ty b8) ∧ (ty b9) ∧ True ∧ (rp 4 b10 ((ty b9) ∧ (ty b10) ∧ (ty b9) ∧ True)))))))))))))))))) ∧ (ty b11) ∧ True) ∧ ((True ∧ True ∧ True) ∧ ((True ∧ True ∧ True) ∧ (ty b12) ∧ True ∧ True ∧ True) ∧ (ty b13) ∧ (True ∧ True ∧ True) ∧ (ty b14) ∧ (True ∧ True ∧ True) ∧ (ty b15) ∧ (True ∧ True ∧ True) ∧ (ty b16) ∧ (True ∧ True ∧ True) ∧ (ty b17) ∧ (True ∧ True ∧ True) ∧ (ty b18) ∧ True) ∧ (True ∧ True) ∧ True)) .ret [(2, vb false)] [] ⟨⟨⟨ent199, con199 t.n⟩, tv⟩, tv⟩ (by kernel_rfl) ⟨⟨tv, tv, tv⟩, ⟨tr_mk (rp_mk (rp_mk (rp_mk (⟨b3, rfl, b3, tv, b2, b3, b2, tv, rp_mk (rp_mk (⟨(ng1 b4), b5, (ng1 b4), tv, rp_mk (⟨(ng1 b4), b6, (ng1 b4), tv, rp_mk (rp_mk (⟨(ng1 b7), b8, (ng1 b7), tv, rp_mk (rp_mk (⟨b9, b8, b9, tv, rp_mk (⟨b9, b10, b9, tv⟩) 4⟩) 3) 4⟩) 4) 4⟩) 3⟩) 3) 4⟩) 2) 4) 3) 4, b11, tv⟩, ⟨⟨tv, tv, tv⟩, ⟨⟨tv, tv, tv⟩, b12, tv, tv, tv⟩, b13, ⟨tv, tv, tv⟩, b14, ⟨tv, tv, tv⟩, b15, ⟨tv, tv, tv⟩, b16, ⟨tv, tv, tv⟩, b17, ⟨tv, tv, tv⟩, b18, tv⟩, ⟨tv, tv⟩, tv⟩ (fun a w hs => ?_)
             exact FnQ_cast (out := .val (vb false)) (by rw [← fields_own]; simp only [fieldsF, badT, b1, b2, b3, b4, b5, b6, b7, b8, b9, b10, b11, b12, b13, b14, b15, b16, b17, b18]; first | done | rfl) (ret_ok [] hs ⟨by kernel_rfl, rfl⟩)
          ·skip
           have n10 := bne_eq_false_iff_eq.1 b10
           have b19 : (t.kind == 1) = false := by rw [show t.kind = 6 from bne_eq_false_iff_eq.1 b10]; rfl
           have b20 : (t.kind == 2) = false := by rw [show t.kind = 6 from bne_eq_false_iff_eq.1 b10]; rfl
           have b21 : (t.kind == 3) = false := by rw [show t.kind = 6 from bne_eq_false_iff_eq.1 b10]; rfl
           have b22 : (t.kind == 4) = false := by rw [show t.kind = 6 from bne_eq_false_iff_eq.1 b10]; rfl
           have b23 : (t.kind == 5) = false := by rw [show t.kind = 6 from bne_eq_false_iff_eq.1 b10]; rfl
           have b24 : (t.kind == 6) = true := by rw [show t.kind = 6 from bne_eq_false_iff_eq.1 b10]; rfl
           refine wL hs hI [(1, ⟨[(14, ciA 199 [.agg [vb t.n.neg, .row (.int .u32) t.n.m, vi t.n.e]] [] [] (.val (vb (ownN t.n))))], gg [4, 5, 1006, 8, 9, 10, 11, 12, 13, 14, 15, 16, 1016, 19, 20, 21, 22, 23, 24, 25, 26, 1026, 27, 28, 29, 30, 31, 1031, 34, 35, 36, 37, 38, 39, 40, 41, 42, 1042, 45, 46, 47, 48, 49, 50, 51, 52, 1052, 53, 58] [1017, 1032, 1043, 54, 55, 56, 57, 1058, 1059], []⟩)] [false, false, false, false, false, false, true] [2] [] ((True ∧ True ∧ True) ∧ (((tr 4 (rp 3 b1 (rp 4 b2 (rp 2 b3 ((ty b3) ∧ (okArgs [.agg [vb t.n.neg, .row (.int .u32) t.n.m, vi t.n.e]]) ∧ (ty b3) ∧ True ∧ (ty b2) ∧ (ty b3) ∧ (ty b2) ∧ True ∧ (rp 4 (ng1 b4) (rp 3 b5 ((ty (ng1 b4)) ∧ (ty b5) ∧ (ty (ng1 b4)) ∧ True ∧ (rp 3 b6 ((ty (ng1 b4)) ∧ (ty b6) ∧ (ty (ng1 b4)) ∧ True ∧ (rp 4 (ng1 b7) (rp 4 b8 ((ty (ng1 b7)) ∧ (ty b8) ∧ (ty (ng1 b7)) ∧ True ∧ (rp 4 b9 (rp 3 b8 ((ty b9) ∧ (ty b8) ∧ (ty b9) ∧ True ∧ (ty b10) ∧ (ty b10) ∧ (ty b10) ∧ (ty b10) ∧ (ty b9) ∧ (ty b10) ∧ (ty b9) ∧ True)))))))))))))))) ∧ (false = false) ∧ True) ∧ (True ∧ True ∧ True) ∧ ((True ∧ True ∧ True) ∧ (ty b19) ∧ True ∧ True ∧ True) ∧ (ty b20) ∧ (True ∧ True ∧ True) ∧ (ty b21) ∧ (True ∧ True ∧ True) ∧ (ty b22) ∧ (True ∧ True ∧ True) ∧ (ty b23) ∧ (True ∧ True ∧ True) ∧ (ty b24) ∧ (tr 5 True) ∧ True)) .ret [(2, vb (decide ((t.v.length : Int) ≤ 300)))] [] ⟨⟨⟨ent199, con199 t.n⟩, tv⟩, tv⟩ (by kernel_rfl) ⟨⟨tv, tv, tv⟩, ⟨tr_mk (rp_mk (rp_mk (rp_mk (⟨b3, rfl, b3, tv, b2, b3, b2, tv, rp_mk (rp_mk (⟨(ng1 b4), b5, (ng1 b4), tv, rp_mk (⟨(ng1 b4), b6, (ng1 b4), tv, rp_mk (rp_mk (⟨(ng1 b7), b8, (ng1 b7), tv, rp_mk (rp_mk (⟨b9, b8, b9, tv, b10, b10, b10, b10, b9, b10, b9, tv⟩) 3) 4⟩) 4) 4⟩) 3⟩) 3) 4⟩) 2) 4) 3) 4, rfl, tv⟩, ⟨tv, tv, tv⟩, ⟨⟨tv, tv, tv⟩, b19, tv, tv, tv⟩, b20, ⟨tv, tv, tv⟩, b21, ⟨tv, tv, tv⟩, b22, ⟨tv, tv, tv⟩, b23, ⟨tv, tv, tv⟩, b24, tr_mk tv 5, tv⟩ (fun a w hs => ?_)
           exact FnQ_cast (out := .val (vb (decide ((t.v.length : Int) ≤ 300)))) (by rw [← fields_own]; simp only [fieldsF, badT, b1, b2, b3, b4, b5, b6, b7, b8, b9, b10, b19, b20, b21, b22, b23, b24]; first | done | rfl) (ret_ok [] hs ⟨by kernel_rfl, rfl⟩)
        ·skip
         have n8 := bne_eq_false_iff_eq.1 b8
         have b25 : (t.kind == 1) = false := by rw [show t.kind = 7 from bne_eq_false_iff_eq.1 b8]; rfl
         have b26 : (t.kind == 2) = false := by rw [show t.kind = 7 from bne_eq_false_iff_eq.1 b8]; rfl
         have b27 : (t.kind == 3) = false := by rw [show t.kind = 7 from bne_eq_false_iff_eq.1 b8]; rfl
         have b28 : (t.kind == 4) = false := by rw [show t.kind = 7 from bne_eq_false_iff_eq.1 b8]; rfl
         have b29 : (t.kind == 5) = false := by rw [show t.kind = 7 from bne_eq_false_iff_eq.1 b8]; rfl
         have b30 : (t.kind == 6) = false := by rw [show t.kind = 7 from bne_eq_false_iff_eq.1 b8]; rfl
         have b31 : (t.kind == 7) = true := by rw [show t.kind = 7 from bne_eq_false_iff_eq.1 b8]; rfl
         rcases bt (namesOk t.k) with b32 | b32
         ·skip
          refine wL hs hI [(1, ⟨[(14, ciA 199 [.agg [vb t.n.neg, .row (.int .u32) t.n.m, vi t.n.e]] [] [] (.val (vb (ownN t.n))))], gg [4, 5, 1006, 8, 9, 10, 11, 12, 13, 14, 15, 16, 1016, 19, 20, 21, 22, 23, 24, 25, 26, 1026, 27, 28, 29, 30, 31, 1031, 34, 35, 36, 37, 42, 45, 46, 47, 48, 52, 53, 58] [1017, 1032, 38, 39, 40, 41, 1042, 1043, 49, 50, 51, 1052, 54, 55, 56, 57, 1058, 1059], []⟩), (16, ⟨[(2, ciA 201 [.row .str t.k] [] [] (.val (vb (namesOk t.k))))], gg [4, 5, 6, 7, 8, 9, 10, 1011] [], []⟩)] [false, false, false, false, false, false, false, true] [2] [] ((True ∧ True ∧ True) ∧ (((tr 4 (rp 3 b1 (rp 4 b2 (rp 2 b3 ((ty b3) ∧ (okArgs [.agg [vb t.n.neg, .row (.int .u32) t.n.m, vi t.n.e]]) ∧ (ty b3) ∧ True ∧ (ty b2) ∧ (ty b3) ∧ (ty b2) ∧ True ∧ (rp 4 (ng1 b4) (rp 3 b5 ((ty (ng1 b4)) ∧ (ty b5) ∧ (ty (ng1 b4)) ∧ True ∧ (rp 3 b6 ((ty (ng1 b4)) ∧ (ty b6) ∧ (ty (ng1 b4)) ∧ True ∧ (rp 4 (ng1 b7) ((ty b8) ∧ (ty b8) ∧ (ty b8) ∧ (ty b8) ∧ (ty (ng1 b7)) ∧ (ty b8) ∧ (ty (ng1 b7)) ∧ True ∧ (false = false) ∧ True ∧ (false = false) ∧ True ∧ (false = false) ∧ True ∧ (false = false) ∧ True ∧ (ty b8) ∧ (ty b8) ∧ (ty b8) ∧ (false = false) ∧ (ty b8) ∧ (false = false) ∧ True ∧ (false = false) ∧ (false = false) ∧ (false = false) ∧ (false = false) ∧ (false = false) ∧ (false = false) ∧ (false = false) ∧ True)))))))))))) ∧ (false = false) ∧ True) ∧ (True ∧ True ∧ True) ∧ ((True ∧ True ∧ True) ∧ (ty b25) ∧ True ∧ True ∧ True) ∧ (ty b26) ∧ (True ∧ True ∧ True) ∧ (ty b27) ∧ (True ∧ True ∧ True) ∧ (ty b28) ∧ (True ∧ True ∧ True) ∧ (ty b29) ∧ (True ∧ True ∧ True) ∧ (ty b30) ∧ (True ∧ True ∧ True) ∧ (ty b31) ∧ (True ∧ True ∧ (okArgs [.row .str t.k]) ∧ True ∧ (rp 8 b32 True)) ∧ True)) .ret [(2, vb ((t.k.length : Int) == (t.v.length : Int)))] [] ⟨⟨⟨ent199, con199 t.n⟩, tv⟩, ⟨⟨⟨ent201, con201 _ hks (by omega)⟩, tv⟩, tv⟩⟩ (by kernel_rfl) ⟨⟨tv, tv, tv⟩, ⟨tr_mk (rp_mk (rp_mk (rp_mk (⟨b3, rfl, b3, tv, b2, b3, b2, tv, rp_mk (rp_mk (⟨(ng1 b4), b5, (ng1 b4), tv, rp_mk (⟨(ng1 b4), b6, (ng1 b4), tv, rp_mk (⟨b8, b8, b8, b8, (ng1 b7), b8, (ng1 b7), tv, rfl, tv, rfl, tv, rfl, tv, rfl, tv, b8, b8, b8, rfl, b8, rfl, tv, rfl, rfl, rfl, rfl, rfl, rfl, rfl, tv⟩) 4⟩) 3⟩) 3) 4⟩) 2) 4) 3) 4, rfl, tv⟩, ⟨tv, tv, tv⟩, ⟨⟨tv, tv, tv⟩, b25, tv, tv, tv⟩, b26, ⟨tv, tv, tv⟩, b27, ⟨tv, tv, tv⟩, b28, ⟨tv, tv, tv⟩, b29, ⟨tv, tv, tv⟩, b30, ⟨tv, tv, tv⟩, b31, ⟨tv, tv, rfl, tv, rp_mk (tv) 8⟩, tv⟩ (fun a w hs => ?_)
          exact FnQ_cast (out := .val (vb ((t.k.length : Int) == (t.v.length : Int)))) (by rw [← fields_own]; simp only [fieldsF, badT, b1, b2, b3, b4, b5, b6, b7, b8, b25, b26, b27, b28, b29, b30, b31, b32]; first | done | rfl) (ret_ok [] hs ⟨by kernel_rfl, rfl⟩)
         ·skip
          refine wL hs hI [(1, ⟨[(14, ciA 199 [.agg [vb t.n.neg, .row (.int .u32) t.n.m, vi t.n.e]] [] [] (.val (vb (ownN t.n))))], gg [4, 5, 1006, 8, 9, 10, 11, 12, 13, 14, 15, 16, 1016, 19, 20, 21, 22, 23, 24, 25, 26, 1026, 27, 28, 29, 30, 31, 1031, 34, 35, 36, 37, 42, 45, 46, 47, 48, 52, 53, 58] [1017, 1032, 38, 39, 40, 41, 1042, 1043, 49, 50, 51, 1052, 54, 55, 56, 57, 1058, 1059], []⟩), (16, ⟨[(2, ciA 201 [.row .str t.k] [] [] (.val (vb (namesOk t.k))))], gg [] [4, 5, 6, 7, 8, 9, 10, 1011], []⟩)] [false, false, false, false, false, false, false, true] [2] [] ((True ∧ True ∧ True) ∧ (((tr 4 (rp 3 b1 (rp 4 b2 (rp 2 b3 ((ty b3) ∧ (okArgs [.agg [vb t.n.neg, .row (.int .u32) t.n.m, vi t.n.e]]) ∧ (ty b3) ∧ True ∧ (ty b2) ∧ (ty b3) ∧ (ty b2) ∧ True ∧ (rp 4 (ng1 b4) (rp 3 b5 ((ty (ng1 b4)) ∧ (ty b5) ∧ (ty (ng1 b4)) ∧ True ∧ (rp 3 b6 ((ty (ng1 b4)) ∧ (ty b6) ∧ (ty (ng1 b4)) ∧ True ∧ (rp 4 (ng1 b7) ((ty b8) ∧ (ty b8) ∧ (ty b8) ∧ (ty b8) ∧ (ty (ng1 b7)) ∧ (ty b8) ∧ (ty (ng1 b7)) ∧ True ∧ (false = false) ∧ True ∧ (false = false) ∧ True ∧ (false = false) ∧ True ∧ (false = false) ∧ True ∧ (ty b8) ∧ (ty b8) ∧ (ty b8) ∧ (false = false) ∧ (ty b8) ∧ (false = false) ∧ True ∧ (false = false) ∧ (false = false) ∧ (false = false) ∧ (false = false) ∧ (false = false) ∧ (false = false) ∧ (false = false) ∧ True)))))))))))) ∧ (false = false) ∧ True) ∧ (True ∧ True ∧ True) ∧ ((True ∧ True ∧ True) ∧ (ty b25) ∧ True ∧ True ∧ True) ∧ (ty b26) ∧ (True ∧ True ∧ True) ∧ (ty b27) ∧ (True ∧ True ∧ True) ∧ (ty b28) ∧ (True ∧ True ∧ True) ∧ (ty b29) ∧ (True ∧ True ∧ True) ∧ (ty b30) ∧ (True ∧ True ∧ True) ∧ (ty b31) ∧ (True ∧ True ∧ (okArgs [.row .str t.k]) ∧ True ∧ (ty b32) ∧ (ty b32) ∧ (ty b32) ∧ (ty b32) ∧ (ty b32) ∧ (ty b32) ∧ (ty b32) ∧ (ty b32) ∧ True ∧ True) ∧ True)) .ret [(2, vb false)] [] ⟨⟨⟨ent199, con199 t.n⟩, tv⟩, ⟨⟨⟨ent201, con201 _ hks (by omega)⟩, tv⟩, tv⟩⟩ (by kernel_rfl) ⟨⟨tv, tv, tv⟩, ⟨tr_mk (rp_mk (rp_mk (rp_mk (⟨b3, rfl, b3, tv, b2, b3, b2, tv, rp_mk (rp_mk (⟨(ng1 b4), b5, (ng1 b4), tv, rp_mk (⟨(ng1 b4), b6, (ng1 b4), tv, rp_mk (⟨b8, b8, b8, b8, (ng1 b7), b8, (ng1 b7), tv, rfl, tv, rfl, tv, rfl, tv, rfl, tv, b8, b8, b8, rfl, b8, rfl, tv, rfl, rfl, rfl, rfl, rfl, rfl, rfl, tv⟩) 4⟩) 3⟩) 3) 4⟩) 2) 4) 3) 4, rfl, tv⟩, ⟨tv, tv, tv⟩, ⟨⟨tv, tv, tv⟩, b25, tv, tv, tv⟩, b26, ⟨tv, tv, tv⟩, b27, ⟨tv, tv, tv⟩, b28, ⟨tv, tv, tv⟩, b29, ⟨tv, tv, tv⟩, b30, ⟨tv, tv, tv⟩, b31, ⟨tv, tv, rfl, tv, b32, b32, b32, b32, b32, b32, b32, b32, tv, tv⟩, tv⟩ (fun a w hs => ?_)
          exact FnQ_cast (out := .val (vb false)) (by rw [← fields_own]; simp only [fieldsF, badT, b1, b2, b3, b4, b5, b6, b7, b8, b25, b26, b27, b28, b29, b30, b31, b32]; first | done | rfl) (ret_ok [] hs ⟨by kernel_rfl, rfl⟩)
       ·skip
        have n7 := beq_eq_false_iff_ne.1 b7
        refine wL hs hI [(1, ⟨[(14, ciA 199 [.agg [vb t.n.neg, .row (.int .u32) t.n.m, vi t.n.e]] [] [] (.val (vb (ownN t.n))))], gg [4, 5, 1006, 8, 9, 10, 11, 12, 13, 14, 15, 16, 1016, 19, 20, 21, 22, 23, 24, 25, 26, 1026, 27, 28, 29, 30, 31, 1031, 1043, 1059] [1017, 1032, 34, 35, 36, 37, 42, 45, 46, 47, 48, 52, 53, 58], []⟩)] [true] [2] [] ((True ∧ True ∧ True) ∧ ((tr 4 (rp 3 b1 (rp 4 b2 (rp 2 b3 ((ty b3) ∧ (okArgs [.agg [vb t.n.neg, .row (.int .u32) t.n.m, vi t.n.e]]) ∧ (ty b3) ∧ True ∧ (ty b2) ∧ (ty b3) ∧ (ty b2) ∧ True ∧ (rp 4 (ng1 b4) (rp 3 b5 ((ty (ng1 b4)) ∧ (ty b5) ∧ (ty (ng1 b4)) ∧ True ∧ (rp 3 b6 ((ty (ng1 b4)) ∧ (ty b6) ∧ (ty (ng1 b4)) ∧ True ∧ (ty (ng0 b7)) ∧ (ty (ng0 b7)) ∧ (ty (ng0 b7)) ∧ (ty (ng0 b7)) ∧ (tr 4 ((ty (ng0 b7)) ∧ (ty (ng0 b7)) ∧ True ∧ (true = true) ∧ (true = true) ∧ (true = true) ∧ (true = true) ∧ (tr 3 ((true = true) ∧ (true = true) ∧ (tr 4 ((true = true) ∧ (true = true) ∧ True)))))))))))))))) ∧ (true = true) ∧ (True ∧ True) ∧ True)) .ret [(2, vb false)] [] ⟨⟨⟨ent199, con199 t.n⟩, tv⟩, tv⟩ (by kernel_rfl) ⟨⟨tv, tv, tv⟩, tr_mk (rp_mk (rp_mk (rp_mk (⟨b3, rfl, b3, tv, b2, b3, b2, tv, rp_mk (rp_mk (⟨(ng1 b4), b5, (ng1 b4), tv, rp_mk (⟨(ng1 b4), b6, (ng1 b4), tv, (ng0 b7), (ng0 b7), (ng0 b7), (ng0 b7), tr_mk (⟨(ng0 b7), (ng0 b7), tv, rfl, rfl, rfl, rfl, tr_mk (⟨rfl, rfl, tr_mk (⟨rfl, rfl, tv⟩) 4⟩) 3⟩) 4⟩) 3⟩) 3) 4⟩) 2) 4) 3) 4, rfl, ⟨tv, tv⟩, tv⟩ (fun a w hs => ?_)
        exact FnQ_cast (out := .val (vb false)) (by rw [← fields_own]; simp only [fieldsF, badT, b1, b2, b3, b4, b5, b6, b7]; first | done | rfl) (ret_ok [] hs ⟨by kernel_rfl, rfl⟩)
      ·skip
       have n6 := bne_eq_false_iff_eq.1 b6
       have b33 : (t.kind != 7) = true := by rw [show t.kind = 5 from bne_eq_false_iff_eq.1 b6]; rfl
       rcases bt (decide ((t.k.length : Int) > 0)) with b34 | b34
       ·skip
        have n34 := of_decide_eq_true b34
        refine wL hs hI [(1, ⟨[(14, ciA 199 [.agg [vb t.n.neg, .row (.int .u32) t.n.m, vi t.n.e]] [] [] (.val (vb (ownN t.n))))], gg [4, 5, 1006, 8, 9, 10, 11, 12, 13, 14, 15, 16, 1016, 19, 20, 21, 22, 23, 24, 25, 26, 1026, 27, 31, 34, 35, 36, 37, 38, 39, 40, 41, 42, 1042, 1059] [1017, 28, 29, 30, 1031, 1032, 1043, 45, 46, 47, 48, 52, 53, 58], []⟩)] [true] [2] [] ((True ∧ True ∧ True) ∧ ((tr 4 (rp 3 b1 (rp 4 b2 (rp 2 b3 ((ty b3) ∧ (okArgs [.agg [vb t.n.neg, .row (.int .u32) t.n.m, vi t.n.e]]) ∧ (ty b3) ∧ True ∧ (ty b2) ∧ (ty b3) ∧ (ty b2) ∧ True ∧ (rp 4 (ng1 b4) (rp 3 b5 ((ty (ng1 b4)) ∧ (ty b5) ∧ (ty (ng1 b4)) ∧ True ∧ (ty b6) ∧ (ty b6) ∧ (ty b6) ∧ (ty (ng1 b4)) ∧ (ty b6) ∧ (ty (ng1 b4)) ∧ True ∧ (false = false) ∧ True ∧ (false = false) ∧ True ∧ (false = false) ∧ True ∧ (false = false) ∧ True ∧ (rp 4 b33 ((false = false) ∧ (ty b33) ∧ (false = false) ∧ True ∧ (ty b34) ∧ (ty b34) ∧ (ty b34) ∧ (ty b34) ∧ (tr 3 ((ty b34) ∧ (ty b34) ∧ (tr 4 ((ty b34) ∧ (ty b34) ∧ True)))))))))))))) ∧ (true = true) ∧ (True ∧ True) ∧ True)) .ret [(2, vb false)] [] ⟨⟨⟨ent199, con199 t.n⟩, tv⟩, tv⟩ (by kernel_rfl) ⟨⟨tv, tv, tv⟩, tr_mk (rp_mk (rp_mk (rp_mk (⟨b3, rfl, b3, tv, b2, b3, b2, tv, rp_mk (rp_mk (⟨(ng1 b4), b5, (ng1 b4), tv, b6, b6, b6, (ng1 b4), b6, (ng1 b4), tv, rfl, tv, rfl, tv, rfl, tv, rfl, tv, rp_mk (⟨rfl, b33, rfl, tv, b34, b34, b34, b34, tr_mk (⟨b34, b34, tr_mk (⟨b34, b34, tv⟩) 4⟩) 3⟩) 4⟩) 3) 4⟩) 2) 4) 3) 4, rfl, ⟨tv, tv⟩, tv⟩ (fun a w hs => ?_)
        exact FnQ_cast (out := .val (vb false)) (by rw [← fields_own]; simp only [fieldsF, badT, b1, b2, b3, b4, b5, b6, b33, b34]; first | done | rfl) (ret_ok [] hs ⟨by kernel_rfl, rfl⟩)
       ·skip
        have n34 := of_decide_eq_false b34
        have b35 : (t.kind != 6) = true := by rw [show t.kind = 5 from bne_eq_false_iff_eq.1 b6]; rfl
        rcases bt (decide ((t.v.length : Int) > 0)) with b36 | b36
        ·skip
         have n36 := of_decide_eq_true b36
         refine wL hs hI [(1, ⟨[(14, ciA 199 [.agg [vb t.n.neg, .row (.int .u32) t.n.m, vi t.n.e]] [] [] (.val (vb (ownN t.n))))], gg [4, 5, 1006, 8, 9, 10, 11, 12, 13, 14, 15, 16, 1016, 19, 20, 21, 22, 23, 24, 25, 26, 1026, 27, 31, 34, 35, 36, 37, 38, 39, 40, 41, 42, 1042, 45, 46, 47, 48, 49, 50, 51, 52, 1052, 53, 54, 55, 56, 57, 58, 1058] [1017, 28, 29, 30, 1031, 1032, 1043, 1059], []⟩)] [true] [2] [] ((True ∧ True ∧ True) ∧ ((tr 4 (rp 3 b1 (rp 4 b2 (rp 2 b3 ((ty b3) ∧ (okArgs [.agg [vb t.n.neg, .row (.int .u32) t.n.m, vi t.n.e]]) ∧ (ty b3) ∧ True ∧ (ty b2) ∧ (ty b3) ∧ (ty b2) ∧ True ∧ (rp 4 (ng1 b4) (rp 3 b5 ((ty (ng1 b4)) ∧ (ty b5) ∧ (ty (ng1 b4)) ∧ True ∧ (ty b6) ∧ (ty b6) ∧ (ty b6) ∧ (ty (ng1 b4)) ∧ (ty b6) ∧ (ty (ng1 b4)) ∧ True ∧ (false = false) ∧ True ∧ (false = false) ∧ True ∧ (false = false) ∧ True ∧ (false = false) ∧ True ∧ (rp 4 b33 ((false = false) ∧ (ty b33) ∧ (false = false) ∧ True ∧ (rp 4 b34 (rp 3 b33 ((ty b34) ∧ (ty b33) ∧ (ty b34) ∧ True ∧ (rp 4 b35 ((ty b34) ∧ (ty b35) ∧ (ty b34) ∧ True))))))))))))))) ∧ (ty b36) ∧ (True ∧ True) ∧ True)) .ret [(2, vb false)] [] ⟨⟨⟨ent199, con199 t.n⟩, tv⟩, tv⟩ (by kernel_rfl) ⟨⟨tv, tv, tv⟩, tr_mk (rp_mk (rp_mk (rp_mk (⟨b3, rfl, b3, tv, b2, b3, b2, tv, rp_mk (rp_mk (⟨(ng1 b4), b5, (ng1 b4), tv, b6, b6, b6, (ng1 b4), b6, (ng1 b4), tv, rfl, tv, rfl, tv, rfl, tv, rfl, tv, rp_mk (⟨rfl, b33, rfl, tv, rp_mk (rp_mk (⟨b34, b33, b34, tv, rp_mk (⟨b34, b35, b34, tv⟩) 4⟩) 3) 4⟩) 4⟩) 3) 4⟩) 2) 4) 3) 4, b36, ⟨tv, tv⟩, tv⟩ (fun a w hs => ?_)
         exact FnQ_cast (out := .val (vb false)) (by rw [← fields_own]; simp only [fieldsF, badT, b1, b2, b3, b4, b5, b6, b33, b34, b35, b36]; first | done | rfl) (ret_ok [] hs ⟨by kernel_rfl, rfl⟩)
        ·skip
         have n36 := of_decide_eq_false b36
         have b37 : (t.kind == 1) = false := by rw [show t.kind = 5 from bne_eq_false_iff_eq.1 b6]; rfl
         have b38 : (t.kind == 2) = false := by rw [show t.kind = 5 from bne_eq_false_iff_eq.1 b6]; rfl
         have b39 : (t.kind == 3) = false := by rw [show t.kind = 5 from bne_eq_false_iff_eq.1 b6]; rfl
         have b40 : (t.kind == 4) = false := by rw [show t.kind = 5 from bne_eq_false_iff_eq.1 b6]; rfl
         have b41 : (t.kind == 5) = true := by rw [show t.kind = 5 from bne_eq_false_iff_eq.1 b6]; rfl
         refine wL hs hI [(1, ⟨[(14, ciA 199 [.agg [vb t.n.neg, .row (.int .u32) t.n.m, vi t.n.e]] [] [] (.val (vb (ownN t.n))))], gg [4, 5, 1006, 8, 9, 10, 11, 12, 13, 14, 15, 16, 1016, 19, 20, 21, 22, 23, 24, 25, 26, 1026, 27, 31, 34, 35, 36, 37, 38, 39, 40, 41, 42, 1042, 45, 46, 47, 48, 49, 50, 51, 52, 1052, 53, 54, 55, 56, 57, 58, 1058] [1017, 28, 29, 30, 1031, 1032, 1043, 1059], []⟩)] [false, false, false, false, false, true] [2] [] ((True ∧ True ∧ True) ∧ (((tr 4 (rp 3 b1 (rp 4 b2 (rp 2 b3 ((ty b3) ∧ (okArgs [.agg [vb t.n.neg, .row (.int .u32) t.n.m, vi t.n.e]]) ∧ (ty b3) ∧ True ∧ (ty b2) ∧ (ty b3) ∧ (ty b2) ∧ True ∧ (rp 4 (ng1 b4) (rp 3 b5 ((ty (ng1 b4)) ∧ (ty b5) ∧ (ty (ng1 b4)) ∧ True ∧ (ty b6) ∧ (ty b6) ∧ (ty b6) ∧ (ty (ng1 b4)) ∧ (ty b6) ∧ (ty (ng1 b4)) ∧ True ∧ (false = false) ∧ True ∧ (false = false) ∧ True ∧ (false = false) ∧ True ∧ (false = false) ∧ True ∧ (rp 4 b33 ((false = false) ∧ (ty b33) ∧ (false = false) ∧ True ∧ (rp 4 b34 (rp 3 b33 ((ty b34) ∧ (ty b33) ∧ (ty b34) ∧ True ∧ (rp 4 b35 ((ty b34) ∧ (ty b35) ∧ (ty b34) ∧ True))))))))))))))) ∧ (ty b36) ∧ True) ∧ (True ∧ True ∧ True) ∧ ((True ∧ True ∧ True) ∧ (ty b37) ∧ True ∧ True ∧ True) ∧ (ty b38) ∧ (True ∧ True ∧ True) ∧ (ty b39) ∧ (True ∧ True ∧ True) ∧ (ty b40) ∧ (True ∧ True ∧ True) ∧ (ty b41) ∧ (tr 5 True) ∧ True)) .ret [(2, vb (decide ((t.s.size : Int) ≤ 2000)))] [] ⟨⟨⟨ent199, con199 t.n⟩, tv⟩, tv⟩ (by kernel_rfl) ⟨⟨tv, tv, tv⟩, ⟨tr_mk (rp_mk (rp_mk (rp_mk (⟨b3, rfl, b3, tv, b2, b3, b2, tv, rp_mk (rp_mk (⟨(ng1 b4), b5, (ng1 b4), tv, b6, b6, b6, (ng1 b4), b6, (ng1 b4), tv, rfl, tv, rfl, tv, rfl, tv, rfl, tv, rp_mk (⟨rfl, b33, rfl, tv, rp_mk (rp_mk (⟨b34, b33, b34, tv, rp_mk (⟨b34, b35, b34, tv⟩) 4⟩) 3) 4⟩) 4⟩) 3) 4⟩) 2) 4) 3) 4, b36, tv⟩, ⟨tv, tv, tv⟩, ⟨⟨tv, tv, tv⟩, b37, tv, tv, tv⟩, b38, ⟨tv, tv, tv⟩, b39, ⟨tv, tv, tv⟩, b40, ⟨tv, tv, tv⟩, b41, tr_mk tv 5, tv⟩ (fun a w hs => ?_)
         exact FnQ_cast (out := .val (vb (decide ((t.s.size : Int) ≤ 2000)))) (by rw [← fields_own]; simp only [fieldsF, badT, b1, b2, b3, b4, b5, b6, b33, b34, b35, b36, b37, b38, b39, b40, b41]; first | done | rfl) (ret_ok [] hs ⟨by kernel_rfl, rfl⟩)
     ·skip
      have n5 := bne_eq_false_iff_eq.1 b5
      have b42 : (t.kind != 7) = true := by rw [show t.kind = 4 from bne_eq_false_iff_eq.1 b5]; rfl
      rcases bt (decide ((t.k.length : Int) > 0)) with b43 | b43
      ·skip
       have n43 := of_decide_eq_true b43
       refine wL hs hI [(1, ⟨[(14, ciA 199 [.agg [vb t.n.neg, .row (.int .u32) t.n.m, vi t.n.e]] [] [] (.val (vb (ownN t.n))))], gg [4, 5, 1006, 8, 9, 10, 11, 12, 13, 14, 15, 16, 1016, 19, 20, 21, 22, 26, 27, 31, 34, 35, 36, 37, 38, 39, 40, 41, 42, 1042, 1059] [1017, 23, 24, 25, 1026, 28, 29, 30, 1031, 1032, 1043, 45, 46, 47, 48, 52, 53, 58], []⟩)] [true] [2] [] ((True ∧ True ∧ True) ∧ ((tr 4 (rp 3 b1 (rp 4 b2 (rp 2 b3 ((ty b3) ∧ (okArgs [.agg [vb t.n.neg, .row (.int .u32) t.n.m, vi t.n.e]]) ∧ (ty b3) ∧ True ∧ (ty b2) ∧ (ty b3) ∧ (ty b2) ∧ True ∧ (rp 4 (ng1 b4) ((ty b5) ∧ (ty b5) ∧ (ty b5) ∧ (ty (ng1 b4)) ∧ (ty b5) ∧ (ty (ng1 b4)) ∧ True ∧ (false = false) ∧ (false = false) ∧ (false = false) ∧ (ty (ng1 b4)) ∧ (false = false) ∧ (ty (ng1 b4)) ∧ True ∧ (false = false) ∧ True ∧ (false = false) ∧ True ∧ (false = false) ∧ True ∧ (false = false) ∧ True ∧ (rp 4 b42 ((false = false) ∧ (ty b42) ∧ (false = false) ∧ True ∧ (ty b43) ∧ (ty b43) ∧ (ty b43) ∧ (ty b43) ∧ (tr 3 ((ty b43) ∧ (ty b43) ∧ (tr 4 ((ty b43) ∧ (ty b43) ∧ True))))))))))))) ∧ (true = true) ∧ (True ∧ True) ∧ True)) .ret [(2, vb false)] [] ⟨⟨⟨ent199, con199 t.n⟩, tv⟩, tv⟩ (by kernel_rfl) ⟨⟨tv, tv, tv⟩, tr_mk (rp_mk (rp_mk (rp_mk (⟨b3, rfl, b3, tv, b2, b3, b2, tv, rp_mk (⟨b5, b5, b5, (ng1 b4), b5, (ng1 b4), tv, rfl, rfl, rfl, (ng1 b4), rfl, (ng1 b4), tv, rfl, tv, rfl, tv, rfl, tv, rfl, tv, rp_mk (⟨rfl, b42, rfl, tv, b43, b43, b43, b43, tr_mk (⟨b43, b43, tr_mk (⟨b43, b43, tv⟩) 4⟩) 3⟩) 4⟩) 4⟩) 2) 4) 3) 4, rfl, ⟨tv, tv⟩, tv⟩ (fun a w hs => ?_)
       exact FnQ_cast (out := .val (vb false)) (by rw [← fields_own]; simp only [fieldsF, badT, b1, b2, b3, b4, b5, b42, b43]; first | done | rfl) (ret_ok [] hs ⟨by kernel_rfl, rfl⟩)
      ·skip
       have n43 := of_decide_eq_false b43
       have b44 : (t.kind != 6) = true := by rw [show t.kind = 4 from bne_eq_false_iff_eq.1 b5]; rfl
       rcases bt (decide ((t.v.length : Int) > 0)) with b45 | b45
       ·skip
        have n45 := of_decide_eq_true b45
        refine wL hs hI [(1, ⟨[(14, ciA 199 [.agg [vb t.n.neg, .row (.int .u32) t.n.m, vi t.n.e]] [] [] (.val (vb (ownN t.n))))], gg [4, 5, 1006, 8, 9, 10, 11, 12, 13, 14, 15, 16, 1016, 19, 20, 21, 22, 26, 27, 31, 34, 35, 36, 37, 38, 39, 40, 41, 42, 1042, 45, 46, 47, 48, 49, 50, 51, 52, 1052, 53, 54, 55, 56, 57, 58, 1058] [1017, 23, 24, 25, 1026, 28, 29, 30, 1031, 1032, 1043, 1059], []⟩)] [true] [2] [] ((True ∧ True ∧ True) ∧ ((tr 4 (rp 3 b1 (rp 4 b2 (rp 2 b3 ((ty b3) ∧ (okArgs [.agg [vb t.n.neg, .row (.int .u32) t.n.m, vi t.n.e]]) ∧ (ty b3) ∧ True ∧ (ty b2) ∧ (ty b3) ∧ (ty b2) ∧ True ∧ (rp 4 (ng1 b4) ((ty b5) ∧ (ty b5) ∧ (ty b5) ∧ (ty (ng1 b4)) ∧ (ty b5) ∧ (ty (ng1 b4)) ∧ True ∧ (false = false) ∧ (false = false) ∧ (false = false) ∧ (ty (ng1 b4)) ∧ (false = false) ∧ (ty (ng1 b4)) ∧ True ∧ (false = false) ∧ True ∧ (false = false) ∧ True ∧ (false = false) ∧ True ∧ (false = false) ∧ True ∧ (rp 4 b42 ((false = false) ∧ (ty b42) ∧ (false = false) ∧ True ∧ (rp 4 b43 (rp 3 b42 ((ty b43) ∧ (ty b42) ∧ (ty b43) ∧ True ∧ (rp 4 b44 ((ty b43) ∧ (ty b44) ∧ (ty b43) ∧ True)))))))))))))) ∧ (ty b45) ∧ (True ∧ True) ∧ True)) .ret [(2, vb false)] [] ⟨⟨⟨ent199, con199 t.n⟩, tv⟩, tv⟩ (by kernel_rfl) ⟨⟨tv, tv, tv⟩, tr_mk (rp_mk (rp_mk (rp_mk (⟨b3, rfl, b3, tv, b2, b3, b2, tv, rp_mk (⟨b5, b5, b5, (ng1 b4), b5, (ng1 b4), tv, rfl, rfl, rfl, (ng1 b4), rfl, (ng1 b4), tv, rfl, tv, rfl, tv, rfl, tv, rfl, tv, rp_mk (⟨rfl, b42, rfl, tv, rp_mk (rp_mk (⟨b43, b42, b43, tv, rp_mk (⟨b43, b44, b43, tv⟩) 4⟩) 3) 4⟩) 4⟩) 4⟩) 2) 4) 3) 4, b45, ⟨tv, tv⟩, tv⟩ (fun a w hs => ?_)
        exact FnQ_cast (out := .val (vb false)) (by rw [← fields_own]; simp only [fieldsF, badT, b1, b2, b3, b4, b5, b42, b43, b44, b45]; first | done | rfl) (ret_ok [] hs ⟨by kernel_rfl, rfl⟩)
       ·skip
        have n45 := of_decide_eq_false b45
        have b46 : (t.kind == 1) = false := by rw [show t.kind = 4 from bne_eq_false_iff_eq.1 b5]; rfl
        have b47 : (t.kind == 2) = false := by rw [show t.kind = 4 from bne_eq_false_iff_eq.1 b5]; rfl
        have b48 : (t.kind == 3) = false := by rw [show t.kind = 4 from bne_eq_false_iff_eq.1 b5]; rfl
        have b49 : (t.kind == 4) = true := by rw [show t.kind = 4 from bne_eq_false_iff_eq.1 b5]; rfl
        rcases bt (X.validAt t.s t.s.size 0) with b50 | b50
        ·skip
         refine wL hs hI [(1, ⟨[(14, ciA 199 [.agg [vb t.n.neg, .row (.int .u32) t.n.m, vi t.n.e]] [] [] (.val (vb (ownN t.n))))], gg [4, 5, 1006, 8, 9, 10, 11, 12, 13, 14, 15, 16, 1016, 19, 20, 21, 22, 26, 27, 31, 34, 35, 36, 37, 38, 39, 40, 41, 42, 1042, 45, 46, 47, 48, 49, 50, 51, 52, 1052, 53, 54, 55, 56, 57, 58, 1058] [1017, 23, 24, 25, 1026, 28, 29, 30, 1031, 1032, 1043, 1059], []⟩), (10, ⟨[(2, ciA 200 [vs t.s] [] [] (.val (vb (X.validAt t.s t.s.size 0))))], gg [4, 5, 6, 7, 1008] [], []⟩)] [false, false, false, false, true] [2] [] ((True ∧ True ∧ True) ∧ (((tr 4 (rp 3 b1 (rp 4 b2 (rp 2 b3 ((ty b3) ∧ (okArgs [.agg [vb t.n.neg, .row (.int .u32) t.n.m, vi t.n.e]]) ∧ (ty b3) ∧ True ∧ (ty b2) ∧ (ty b3) ∧ (ty b2) ∧ True ∧ (rp 4 (ng1 b4) ((ty b5) ∧ (ty b5) ∧ (ty b5) ∧ (ty (ng1 b4)) ∧ (ty b5) ∧ (ty (ng1 b4)) ∧ True ∧ (false = false) ∧ (false = false) ∧ (false = false) ∧ (ty (ng1 b4)) ∧ (false = false) ∧ (ty (ng1 b4)) ∧ True ∧ (false = false) ∧ True ∧ (false = false) ∧ True ∧ (false = false) ∧ True ∧ (false = false) ∧ True ∧ (rp 4 b42 ((false = false) ∧ (ty b42) ∧ (false = false) ∧ True ∧ (rp 4 b43 (rp 3 b42 ((ty b43) ∧ (ty b42) ∧ (ty b43) ∧ True ∧ (rp 4 b44 ((ty b43) ∧ (ty b44) ∧ (ty b43) ∧ True)))))))))))))) ∧ (ty b45) ∧ True) ∧ (True ∧ True ∧ True) ∧ ((True ∧ True ∧ True) ∧ (ty b46) ∧ True ∧ True ∧ True) ∧ (ty b47) ∧ (True ∧ True ∧ True) ∧ (ty b48) ∧ (True ∧ True ∧ True) ∧ (ty b49) ∧ (True ∧ True ∧ (okArgs [vs t.s]) ∧ True ∧ (rp 5 b50 True)) ∧ True)) .ret [(2, vb (decide ((t.s.size : Int) ≤ 2000)))] [] ⟨⟨⟨ent199, con199 t.n⟩, tv⟩, ⟨⟨⟨ent200, con200 _ hs0⟩, tv⟩, tv⟩⟩ (by kernel_rfl) ⟨⟨tv, tv, tv⟩, ⟨tr_mk (rp_mk (rp_mk (rp_mk (⟨b3, rfl, b3, tv, b2, b3, b2, tv, rp_mk (⟨b5, b5, b5, (ng1 b4), b5, (ng1 b4), tv, rfl, rfl, rfl, (ng1 b4), rfl, (ng1 b4), tv, rfl, tv, rfl, tv, rfl, tv, rfl, tv, rp_mk (⟨rfl, b42, rfl, tv, rp_mk (rp_mk (⟨b43, b42, b43, tv, rp_mk (⟨b43, b44, b43, tv⟩) 4⟩) 3) 4⟩) 4⟩) 4⟩) 2) 4) 3) 4, b45, tv⟩, ⟨tv, tv, tv⟩, ⟨⟨tv, tv, tv⟩, b46, tv, tv, tv⟩, b47, ⟨tv, tv, tv⟩, b48, ⟨tv, tv, tv⟩, b49, ⟨tv, tv, rfl, tv, rp_mk (tv) 5⟩, tv⟩ (fun a w hs => ?_)
         exact FnQ_cast (out := .val (vb (decide ((t.s.size : Int) ≤ 2000)))) (by rw [← fields_own]; simp only [fieldsF, badT, b1, b2, b3, b4, b5, b42, b43, b44, b45, b46, b47, b48, b49, b50]; first | done | rfl) (ret_ok [] hs ⟨by kernel_rfl, rfl⟩)
        ·skip
         refine wL hs hI [(1, ⟨[(14, ciA 199 [.agg [vb t.n.neg, .row (.int .u32) t.n.m, vi t.n.e]] [] [] (.val (vb (ownN t.n))))], gg [4, 5, 1006, 8, 9, 10, 11, 12, 13, 14, 15, 16, 1016, 19, 20, 21, 22, 26, 27, 31, 34, 35, 36, 37, 38, 39, 40, 41, 42, 1042, 45, 46, 47, 48, 49, 50, 51, 52, 1052, 53, 54, 55, 56, 57, 58, 1058] [1017, 23, 24, 25, 1026, 28, 29, 30, 1031, 1032, 1043, 1059], []⟩), (10, ⟨[(2, ciA 200 [vs t.s] [] [] (.val (vb (X.validAt t.s t.s.size 0))))], gg [] [4, 5, 6, 7, 1008], []⟩)] [false, false, false, false, true] [2] [] ((True ∧ True ∧ True) ∧ (((tr 4 (rp 3 b1 (rp 4 b2 (rp 2 b3 ((ty b3) ∧ (okArgs [.agg [vb t.n.neg, .row (.int .u32) t.n.m, vi t.n.e]]) ∧ (ty b3) ∧ True ∧ (ty b2) ∧ (ty b3) ∧ (ty b2) ∧ True ∧ (rp 4 (ng1 b4) ((ty b5) ∧ (ty b5) ∧ (ty b5) ∧ (ty (ng1 b4)) ∧ (ty b5) ∧ (ty (ng1 b4)) ∧ True ∧ (false = false) ∧ (false = false) ∧ (false = false) ∧ (ty (ng1 b4)) ∧ (false = false) ∧ (ty (ng1 b4)) ∧ True ∧ (false = false) ∧ True ∧ (false = false) ∧ True ∧ (false = false) ∧ True ∧ (false = false) ∧ True ∧ (rp 4 b42 ((false = false) ∧ (ty b42) ∧ (false = false) ∧ True ∧ (rp 4 b43 (rp 3 b42 ((ty b43) ∧ (ty b42) ∧ (ty b43) ∧ True ∧ (rp 4 b44 ((ty b43) ∧ (ty b44) ∧ (ty b43) ∧ True)))))))))))))) ∧ (ty b45) ∧ True) ∧ (True ∧ True ∧ True) ∧ ((True ∧ True ∧ True) ∧ (ty b46) ∧ True ∧ True ∧ True) ∧ (ty b47) ∧ (True ∧ True ∧ True) ∧ (ty b48) ∧ (True ∧ True ∧ True) ∧ (ty b49) ∧ (True ∧ True ∧ (okArgs [vs t.s]) ∧ True ∧ (ty b50) ∧ (ty b50) ∧ (ty b50) ∧ (ty b50) ∧ (ty b50) ∧ True ∧ True) ∧ True)) .ret [(2, vb false)] [] ⟨⟨⟨ent199, con199 t.n⟩, tv⟩, ⟨⟨⟨ent200, con200 _ hs0⟩, tv⟩, tv⟩⟩ (by kernel_rfl) ⟨⟨tv, tv, tv⟩, ⟨tr_mk (rp_mk (rp_mk (rp_mk (⟨b3, rfl, b3, tv, b2, b3, b2, tv, rp_mk (⟨b5, b5, b5, (ng1 b4), b5, (ng1 b4), tv, rfl, rfl, rfl, (ng1 b4), rfl, (ng1 b4), tv, rfl, tv, rfl, tv, rfl, tv, rfl, tv, rp_mk (⟨rfl, b42, rfl, tv, rp_mk (rp_mk (⟨b43, b42, b43, tv, rp_mk (⟨b43, b44, b43, tv⟩) 4⟩) 3) 4⟩) 4⟩) 4⟩) 2) 4) 3) 4, b45, tv⟩, ⟨tv, tv, tv⟩, ⟨⟨tv, tv, tv⟩, b46, tv, tv, tv⟩, b47, ⟨tv, tv, tv⟩, b48, ⟨tv, tv, tv⟩, b49, ⟨tv, tv, rfl, tv, b50, b50, b50, b50, b50, tv, tv⟩, tv⟩ (fun a w hs => ?_)
         exact FnQ_cast (out := .val (vb false)) (by rw [← fields_own]; simp only [fieldsF, badT, b1, b2, b3, b4, b5, b42, b43, b44, b45, b46, b47, b48, b49, b50]; first | done | rfl) (ret_ok [] hs ⟨by kernel_rfl, rfl⟩)
    ·skip
     refine wL hs hI [(1, ⟨[(14, ciA 199 [.agg [vb t.n.neg, .row (.int .u32) t.n.m, vi t.n.e]] [] [] (.val (vb (ownN t.n))))], gg [4, 5, 1006, 8, 9, 10, 11, 12, 13, 14, 15, 16, 1016, 1032, 1043, 1059] [1017, 19, 20, 21, 22, 26, 27, 31, 34, 35, 36, 37, 42, 45, 46, 47, 48, 52, 53, 58], []⟩)] [true] [2] [] ((True ∧ True ∧ True) ∧ ((tr 4 (rp 3 b1 (rp 4 b2 (rp 2 b3 ((ty b3) ∧ (okArgs [.agg [vb t.n.neg, .row (.int .u32) t.n.m, vi t.n.e]]) ∧ (ty b3) ∧ True ∧ (ty b2) ∧ (ty b3) ∧ (ty b2) ∧ True ∧ (ty (ng0 b4)) ∧ (ty (ng0 b4)) ∧ (ty (ng0 b4)) ∧ (ty (ng0 b4)) ∧ (tr 3 ((ty (ng0 b4)) ∧ (ty (ng0 b4)) ∧ (tr 3 ((ty (ng0 b4)) ∧ (ty (ng0 b4)) ∧ True ∧ (true = true) ∧ (true = true) ∧ (true = true) ∧ (true = true) ∧ (tr 4 ((true = true) ∧ (true = true) ∧ True ∧ (true = true) ∧ (true = true) ∧ (true = true) ∧ (true = true) ∧ (tr 3 ((true = true) ∧ (true = true) ∧ (tr 4 ((true = true) ∧ (true = true) ∧ True))))))))))))))) ∧ (true = true) ∧ (True ∧ True) ∧ True)) .ret [(2, vb false)] [] ⟨⟨⟨ent199, con199 t.n⟩, tv⟩, tv⟩ (by kernel_rfl) ⟨⟨tv, tv, tv⟩, tr_mk (rp_mk (rp_mk (rp_mk (⟨b3, rfl, b3, tv, b2, b3, b2, tv, (ng0 b4), (ng0 b4), (ng0 b4), (ng0 b4), tr_mk (⟨(ng0 b4), (ng0 b4), tr_mk (⟨(ng0 b4), (ng0 b4), tv, rfl, rfl, rfl, rfl, tr_mk (⟨rfl, rfl, tv, rfl, rfl, rfl, rfl, tr_mk (⟨rfl, rfl, tr_mk (⟨rfl, rfl, tv⟩) 4⟩) 3⟩) 4⟩) 3⟩) 3⟩) 2) 4) 3) 4, rfl, ⟨tv, tv⟩, tv⟩ (fun a w hs => ?_)
     exact FnQ_cast (out := .val (vb false)) (by rw [← fields_own]; simp only [fieldsF, badT, b1, b2, b3, b4]; first | done | rfl) (ret_ok [] hs ⟨by kernel_rfl, rfl⟩)
   ·skip
    have n3 := bne_eq_false_iff_eq.1 b3
    have b51 : (t.kind != 4) = true := by rw [show t.kind = 3 from bne_eq_false_iff_eq.1 b3]; rfl
    have b52 : (t.kind != 5) = true := by rw [show t.kind = 3 from bne_eq_false_iff_eq.1 b3]; rfl
    rcases bt (t.s.toList == (ba []).toList) with b53 | b53
    ·skip
     have n53 := eq_of_beq b53
     have b54 : (t.kind != 7) = true := by rw [show t.kind = 3 from bne_eq_false_iff_eq.1 b3]; rfl
     rcases bt (decide ((t.k.length : Int) > 0)) with b55 | b55
     ·skip
      have n55 := of_decide_eq_true b55
      refine wL hs hI [(1, ⟨[], gg [4, 5, 1006, 8, 9, 10, 11, 16, 19, 20, 21, 22, 23, 24, 25, 26, 1026, 27, 28, 29, 30, 31, 1031, 34, 35, 36, 37, 38, 39, 40, 41, 42, 1042, 1059] [12, 13, 14, 15, 1016, 1017, 1032, 1043, 45, 46, 47, 48, 52, 53, 58], []⟩)] [true] [2] [] ((True ∧ True ∧ True) ∧ ((tr 4 (rp 3 b1 (rp 4 b2 ((ty b3) ∧ (ty b3) ∧ (ty b3) ∧ (ty b3) ∧ (ty b2) ∧ (ty b3) ∧ (ty b2) ∧ True ∧ (false = false) ∧ True ∧ (false = false) ∧ True ∧ (false = false) ∧ True ∧ (false = false) ∧ True ∧ (rp 3 b51 ((false = false) ∧ (ty b51) ∧ (false = false) ∧ True ∧ (rp 3 b52 ((false = false) ∧ (ty b52) ∧ (false = false) ∧ True ∧ (rp 4 (ng1 b53) (rp 4 b54 ((ty (ng1 b53)) ∧ (ty b54) ∧ (ty (ng1 b53)) ∧ True ∧ (ty b55) ∧ (ty b55) ∧ (ty b55) ∧ (ty b55) ∧ (tr 3 ((ty b55) ∧ (ty b55) ∧ (tr 4 ((ty b55) ∧ (ty b55) ∧ True))))))))))))))) ∧ (true = true) ∧ (True ∧ True) ∧ True)) .ret [(2, vb false)] [] ⟨tv, tv⟩ (by kernel_rfl) ⟨⟨tv, tv, tv⟩, tr_mk (rp_mk (rp_mk (⟨b3, b3, b3, b3, b2, b3, b2, tv, rfl, tv, rfl, tv, rfl, tv, rfl, tv, rp_mk (⟨rfl, b51, rfl, tv, rp_mk (⟨rfl, b52, rfl, tv, rp_mk (rp_mk (⟨(ng1 b53), b54, (ng1 b53), tv, b55, b55, b55, b55, tr_mk (⟨b55, b55, tr_mk (⟨b55, b55, tv⟩) 4⟩) 3⟩) 4) 4⟩) 3⟩) 3⟩) 4) 3) 4, rfl, ⟨tv, tv⟩, tv⟩ (fun a w hs => ?_)
      exact FnQ_cast (out := .val (vb false)) (by rw [← fields_own]; simp only [fieldsF, badT, b1, b2, b3, b51, b52, b53, b54, b55]; first | done | rfl) (ret_ok [] hs ⟨by kernel_rfl, rfl⟩)
     ·skip
      have n55 := of_decide_eq_false b55
      have b56 : (t.kind != 6) = true := by rw [show t.kind = 3 from bne_eq_false_iff_eq.1 b3]; rfl
      rcases bt (decide ((t.v.length : Int) > 0)) with b57 | b57
      ·skip
       have n57 := of_decide_eq_true b57
       refine wL hs hI [(1, ⟨[], gg [4, 5, 1006, 8, 9, 10, 11, 16, 19, 20, 21, 22, 23, 24, 25, 26, 1026, 27, 28, 29, 30, 31, 1031, 34, 35, 36, 37, 38, 39, 40, 41, 42, 1042, 45, 46, 47, 48, 49, 50, 51, 52, 1052, 53, 54, 55, 56, 57, 58, 1058] [12, 13, 14, 15, 1016, 1017, 1032, 1043, 1059], []⟩)] [true] [2] [] ((True ∧ True ∧ True) ∧ ((tr 4 (rp 3 b1 (rp 4 b2 ((ty b3) ∧ (ty b3) ∧ (ty b3) ∧ (ty b3) ∧ (ty b2) ∧ (ty b3) ∧ (ty b2) ∧ True ∧ (false = false) ∧ True ∧ (false = false) ∧ True ∧ (false = false) ∧ True ∧ (false = false) ∧ True ∧ (rp 3 b51 ((false = false) ∧ (ty b51) ∧ (false = false) ∧ True ∧ (rp 3 b52 ((false = false) ∧ (ty b52) ∧ (false = false) ∧ True ∧ (rp 4 (ng1 b53) (rp 4 b54 ((ty (ng1 b53)) ∧ (ty b54) ∧ (ty (ng1 b53)) ∧ True ∧ (rp 4 b55 (rp 3 b54 ((ty b55) ∧ (ty b54) ∧ (ty b55) ∧ True ∧ (rp 4 b56 ((ty b55) ∧ (ty b56) ∧ (ty b55) ∧ True)))))))))))))))) ∧ (ty b57) ∧ (True ∧ True) ∧ True)) .ret [(2, vb false)] [] ⟨tv, tv⟩ (by kernel_rfl) ⟨⟨tv, tv, tv⟩, tr_mk (rp_mk (rp_mk (⟨b3, b3, b3, b3, b2, b3, b2, tv, rfl, tv, rfl, tv, rfl, tv, rfl, tv, rp_mk (⟨rfl, b51, rfl, tv, rp_mk (⟨rfl, b52, rfl, tv, rp_mk (rp_mk (⟨(ng1 b53), b54, (ng1 b53), tv, rp_mk (rp_mk (⟨b55, b54, b55, tv, rp_mk (⟨b55, b56, b55, tv⟩) 4⟩) 3) 4⟩) 4) 4⟩) 3⟩) 3⟩) 4) 3) 4, b57, ⟨tv, tv⟩, tv⟩ (fun a w hs => ?_)
       exact FnQ_cast (out := .val (vb false)) (by rw [← fields_own]; simp only [fieldsF, badT, b1, b2, b3, b51, b52, b53, b54, b55, b56, b57]; first | done | rfl) (ret_ok [] hs ⟨by kernel_rfl, rfl⟩)
      ·skip
       have n57 := of_decide_eq_false b57
       have b58 : (t.kind == 1) = false := by rw [show t.kind = 3 from bne_eq_false_iff_eq.1 b3]; rfl
       have b59 : (t.kind == 2) = false := by rw [show t.kind = 3 from bne_eq_false_iff_eq.1 b3]; rfl
       have b60 : (t.kind == 3) = true := by rw [show t.kind = 3 from bne_eq_false_iff_eq.1 b3]; rfl
       refine wL hs hI [(1, ⟨[], gg [4, 5, 1006, 8, 9, 10, 11, 16, 19, 20, 21, 22, 23, 24, 25, 26, 1026, 27, 28, 29, 30, 31, 1031, 34, 35, 36, 37, 38, 39, 40, 41, 42, 1042, 45, 46, 47, 48, 49, 50, 51, 52, 1052, 53, 54, 55, 56, 57, 58, 1058] [12, 13, 14, 15, 1016, 1017, 1032, 1043, 1059], []⟩), (8, ⟨[(2, ciA 174 [.agg [vb t.n.neg, .row (.int .u32) t.n.m, vi t.n.e]] [] [] (.val (vb (checkN t.n))))], [], []⟩)] [false, false, false, true] [2] [] ((True ∧ True ∧ True) ∧ (((tr 4 (rp 3 b1 (rp 4 b2 ((ty b3) ∧ (ty b3) ∧ (ty b3) ∧ (ty b3) ∧ (ty b2) ∧ (ty b3) ∧ (ty b2) ∧ True ∧ (false = false) ∧ True ∧ (false = false) ∧ True ∧ (false = false) ∧ True ∧ (false = false) ∧ True ∧ (rp 3 b51 ((false = false) ∧ (ty b51) ∧ (false = false) ∧ True ∧ (rp 3 b52 ((false = false) ∧ (ty b52) ∧ (false = false) ∧ True ∧ (rp 4 (ng1 b53) (rp 4 b54 ((ty (ng1 b53)) ∧ (ty b54) ∧ (ty (ng1 b53)) ∧ True ∧ (rp 4 b55 (rp 3 b54 ((ty b55) ∧ (ty b54) ∧ (ty b55) ∧ True ∧ (rp 4 b56 ((ty b55) ∧ (ty b56) ∧ (ty b55) ∧ True)))))))))))))))) ∧ (ty b57) ∧ True) ∧ (True ∧ True ∧ True) ∧ ((True ∧ True ∧ True) ∧ (ty b58) ∧ True ∧ True ∧ True) ∧ (ty b59) ∧ (True ∧ True ∧ True) ∧ (ty b60) ∧ (True ∧ True ∧ (okArgs [.agg [vb t.n.neg, .row (.int .u32) t.n.m, vi t.n.e]]) ∧ True ∧ True) ∧ True)) .ret [(2, vb (checkN t.n))] [] ⟨tv, ⟨⟨⟨ent174, con174 t.n ha hl⟩, tv⟩, tv⟩⟩ (by kernel_rfl) ⟨⟨tv, tv, tv⟩, ⟨tr_mk (rp_mk (rp_mk (⟨b3, b3, b3, b3, b2, b3, b2, tv, rfl, tv, rfl, tv, rfl, tv, rfl, tv, rp_mk (⟨rfl, b51, rfl, tv, rp_mk (⟨rfl, b52, rfl, tv, rp_mk (rp_mk (⟨(ng1 b53), b54, (ng1 b53), tv, rp_mk (rp_mk (⟨b55, b54, b55, tv, rp_mk (⟨b55, b56, b55, tv⟩) 4⟩) 3) 4⟩) 4) 4⟩) 3⟩) 3⟩) 4) 3) 4, b57, tv⟩, ⟨tv, tv, tv⟩, ⟨⟨tv, tv, tv⟩, b58, tv, tv, tv⟩, b59, ⟨tv, tv, tv⟩, b60, ⟨tv, tv, rfl, tv, tv⟩, tv⟩ (fun a w hs => ?_)
       exact FnQ_cast (out := .val (vb (checkN t.n))) (by rw [← fields_own]; simp only [fieldsF, badT, b1, b2, b3, b51, b52, b53, b54, b55, b56, b57, b58, b59, b60]; first | done | rfl) (ret_ok [] hs ⟨by kernel_rfl, rfl⟩)
    ·skip
     have n53 := beq_eq_false_iff_ne.1 b53
     refine wL hs hI [(1, ⟨[], gg [4, 5, 1006, 8, 9, 10, 11, 16, 19, 20, 21, 22, 23, 24, 25, 26, 1026, 27, 28, 29, 30, 31, 1031, 1043, 1059] [12, 13, 14, 15, 1016, 1017, 1032, 34, 35, 36, 37, 42, 45, 46, 47, 48, 52, 53, 58], []⟩)] [true] [2] [] ((True ∧ True ∧ True) ∧ ((tr 4 (rp 3 b1 (rp 4 b2 ((ty b3) ∧ (ty b3) ∧ (ty b3) ∧ (ty b3) ∧ (ty b2) ∧ (ty b3) ∧ (ty b2) ∧ True ∧ (false = false) ∧ True ∧ (false = false) ∧ True ∧ (false = false) ∧ True ∧ (false = false) ∧ True ∧ (rp 3 b51 ((false = false) ∧ (ty b51) ∧ (false = false) ∧ True ∧ (rp 3 b52 ((false = false) ∧ (ty b52) ∧ (false = false) ∧ True ∧ (ty (ng0 b53)) ∧ (ty (ng0 b53)) ∧ (ty (ng0 b53)) ∧ (ty (ng0 b53)) ∧ (tr 4 ((ty (ng0 b53)) ∧ (ty (ng0 b53)) ∧ True ∧ (true = true) ∧ (true = true) ∧ (true = true) ∧ (true = true) ∧ (tr 3 ((true = true) ∧ (true = true) ∧ (tr 4 ((true = true) ∧ (true = true) ∧ True)))))))))))))) ∧ (true = true) ∧ (True ∧ True) ∧ True)) .ret [(2, vb false)] [] ⟨tv, tv⟩ (by kernel_rfl) ⟨⟨tv, tv, tv⟩, tr_mk (rp_mk (rp_mk (⟨b3, b3, b3, b3, b2, b3, b2, tv, rfl, tv, rfl, tv, rfl, tv, rfl, tv, rp_mk (⟨rfl, b51, rfl, tv, rp_mk (⟨rfl, b52, rfl, tv, (ng0 b53), (ng0 b53), (ng0 b53), (ng0 b53), tr_mk (⟨(ng0 b53), (ng0 b53), tv, rfl, rfl, rfl, rfl, tr_mk (⟨rfl, rfl, tr_mk (⟨rfl, rfl, tv⟩) 4⟩) 3⟩) 4⟩) 3⟩) 3⟩) 4) 3) 4, rfl, ⟨tv, tv⟩, tv⟩ (fun a w hs => ?_)
     exact FnQ_cast (out := .val (vb false)) (by rw [← fields_own]; simp only [fieldsF, badT, b1, b2, b3, b51, b52, b53]; first | done | rfl) (ret_ok [] hs ⟨by kernel_rfl, rfl⟩)
 ·skip
  have n1 := bne_eq_false_iff_eq.1 b1
  have b61 : (t.kind != 3) = true := by rw [show t.kind = 2 from bne_eq_false_iff_eq.1 b1]; rfl
  rcases bt (ownN t.n) with b62 | b62
  ·skip
   have b63 : (t.kind != 4) = true := by rw [show t.kind = 2 from bne_eq_false_iff_eq.1 b1]; rfl
   have b64 : (t.kind != 5) = true := by rw [show t.kind = 2 from bne_eq_false_iff_eq.1 b1]; rfl
   rcases bt (t.s.toList == (ba []).toList) with b65 | b65
   ·skip
    have n65 := eq_of_beq b65
    have b66 : (t.kind != 7) = true := by rw [show t.kind = 2 from bne_eq_false_iff_eq.1 b1]; rfl
    rcases bt (decide ((t.k.length : Int) > 0)) with b67 | b67
    ·skip
     have n67 := of_decide_eq_true b67
     refine wL hs hI [(1, ⟨[(14, ciA 199 [.agg [vb t.n.neg, .row (.int .u32) t.n.m, vi t.n.e]] [] [] (.val (vb (ownN t.n))))], gg [8, 9, 10, 11, 12, 13, 14, 15, 16, 1016, 19, 20, 21, 22, 23, 24, 25, 26, 1026, 27, 28, 29, 30, 31, 1031, 34, 35, 36, 37, 38, 39, 40, 41, 42, 1042, 1059] [4, 5, 1006, 1017, 1032, 1043, 45, 46, 47, 48, 52, 53, 58], []⟩)] [true] [2] [] ((True ∧ True ∧ True) ∧ ((tr 4 ((ty b1) ∧ (ty b1) ∧ (ty b1) ∧ True ∧ (false = false) ∧ True ∧ (false = false) ∧ True ∧ (false = false) ∧ True ∧ (false = false) ∧ True ∧ (rp 2 b61 ((ty b61) ∧ (okArgs [.agg [vb t.n.neg, .row (.int .u32) t.n.m, vi t.n.e]]) ∧ (ty b61) ∧ True ∧ (false = false) ∧ (ty b61) ∧ (false = false) ∧ True ∧ (rp 4 (ng1 b62) (rp 3 b63 ((ty (ng1 b62)) ∧ (ty b63) ∧ (ty (ng1 b62)) ∧ True ∧ (rp 3 b64 ((ty (ng1 b62)) ∧ (ty b64) ∧ (ty (ng1 b62)) ∧ True ∧ (rp 4 (ng1 b65) (rp 4 b66 ((ty (ng1 b65)) ∧ (ty b66) ∧ (ty (ng1 b65)) ∧ True ∧ (ty b67) ∧ (ty b67) ∧ (ty b67) ∧ (ty b67) ∧ (tr 3 ((ty b67) ∧ (ty b67) ∧ (tr 4 ((ty b67) ∧ (ty b67) ∧ True)))))))))))))))) ∧ (true = true) ∧ (True ∧ True) ∧ True)) .ret [(2, vb false)] [] ⟨⟨⟨ent199, con199 t.n⟩, tv⟩, tv⟩ (by kernel_rfl) ⟨⟨tv, tv, tv⟩, tr_mk (⟨b1, b1, b1, tv, rfl, tv, rfl, tv, rfl, tv, rfl, tv, rp_mk (⟨b61, rfl, b61, tv, rfl, b61, rfl, tv, rp_mk (rp_mk (⟨(ng1 b62), b63, (ng1 b62), tv, rp_mk (⟨(ng1 b62), b64, (ng1 b62), tv, rp_mk (rp_mk (⟨(ng1 b65), b66, (ng1 b65), tv, b67, b67, b67, b67, tr_mk (⟨b67, b67, tr_mk (⟨b67, b67, tv⟩) 4⟩) 3⟩) 4) 4⟩) 3⟩) 3) 4⟩) 2⟩) 4, rfl, ⟨tv, tv⟩, tv⟩ (fun a w hs => ?_)
     exact FnQ_cast (out := .val (vb false)) (by rw [← fields_own]; simp only [fieldsF, badT, b1, b61, b62, b63, b64, b65, b66, b67]; first | done | rfl) (ret_ok [] hs ⟨by kernel_rfl, rfl⟩)
    ·skip
     have n67 := of_decide_eq_false b67
     have b68 : (t.kind != 6) = true := by rw [show t.kind = 2 from bne_eq_false_iff_eq.1 b1]; rfl
     rcases bt (decide ((t.v.length : Int) > 0)) with b69 | b69
     ·skip
      have n69 := of_decide_eq_true b69
      refine wL hs hI [(1, ⟨[(14, ciA 199 [.agg [vb t.n.neg, .row (.int .u32) t.n.m, vi t.n.e]] [] [] (.val (vb (ownN t.n))))], gg [8, 9, 10, 11, 12, 13, 14, 15, 16, 1016, 19, 20, 21, 22, 23, 24, 25, 26, 1026, 27, 28, 29, 30, 31, 1031, 34, 35, 36, 37, 38, 39, 40, 41, 42, 1042, 45, 46, 47, 48, 49, 50, 51, 52, 1052, 53, 54, 55, 56, 57, 58, 1058] [4, 5, 1006, 1017, 1032, 1043, 1059], []⟩)] [true] [2] [] ((True ∧ True ∧ True) ∧ ((tr 4 ((ty b1) ∧ (ty b1) ∧ (ty b1) ∧ True ∧ (false = false) ∧ True ∧ (false = false) ∧ True ∧ (false = false) ∧ True ∧ (false = false) ∧ True ∧ (rp 2 b61 ((ty b61) ∧ (okArgs [.agg [vb t.n.neg, .row (.int .u32) t.n.m, vi t.n.e]]) ∧ (ty b61) ∧ True ∧ (false = false) ∧ (ty b61) ∧ (false = false) ∧ True ∧ (rp 4 (ng1 b62) (rp 3 b63 ((ty (ng1 b62)) ∧ (ty b63) ∧ (ty (ng1 b62)) ∧ True ∧ (rp 3 b64 ((ty (ng1 b62)) ∧ (ty b64) ∧ (ty (ng1 b62)) ∧ True ∧ (rp 4 (ng1 b65) (rp 4 b66 ((ty (ng1 b65)) ∧ (ty b66) ∧ (ty (ng1 b65)) ∧ True ∧ (rp 4 b67 (rp 3 b66 ((ty b67) ∧ (ty b66) ∧ (ty b67) ∧ True ∧ (rp 4 b68 ((ty b67) ∧ (ty b68) ∧ (ty b67) ∧ True))))))))))))))))) ∧ (ty b69) ∧ (True ∧ True) ∧ True)) .ret [(2, vb false)] [] ⟨⟨⟨ent199, con199 t.n⟩, tv⟩, tv⟩ (by kernel_rfl) ⟨⟨tv, tv, tv⟩, tr_mk (⟨b1, b1, b1, tv, rfl, tv, rfl, tv, rfl, tv, rfl, tv, rp_mk (⟨b61, rfl, b61, tv, rfl, b61, rfl, tv, rp_mk (rp_mk (⟨(ng1 b62), b63, (ng1 b62), tv, rp_mk (⟨(ng1 b62), b64, (ng1 b62), tv, rp_mk (rp_mk (⟨(ng1 b65), b66, (ng1 b65), tv, rp_mk (rp_mk (⟨b67, b66, b67, tv, rp_mk (⟨b67, b68, b67, tv⟩) 4⟩) 3) 4⟩) 4) 4⟩) 3⟩) 3) 4⟩) 2⟩) 4, b69, ⟨tv, tv⟩, tv⟩ (fun a w hs => ?_)
      exact FnQ_cast (out := .val (vb false)) (by rw [← fields_own]; simp only [fieldsF, badT, b1, b61, b62, b63, b64, b65, b66, b67, b68, b69]; first | done | rfl) (ret_ok [] hs ⟨by kernel_rfl, rfl⟩)
     ·skip
      have n69 := of_decide_eq_false b69
      have b70 : (t.kind == 1) = false := by rw [show t.kind = 2 from bne_eq_false_iff_eq.1 b1]; rfl
      have b71 : (t.kind == 2) = true := by rw [show t.kind = 2 from bne_eq_false_iff_eq.1 b1]; rfl
      refine wL hs hI [(1, ⟨[(14, ciA 199 [.agg [vb t.n.neg, .row (.int .u32) t.n.m, vi t.n.e]] [] [] (.val (vb (ownN t.n))))], gg [8, 9, 10, 11, 12, 13, 14, 15, 16, 1016, 19, 20, 21, 22, 23, 24, 25, 26, 1026, 27, 28, 29, 30, 31, 1031, 34, 35, 36, 37, 38, 39, 40, 41, 42, 1042, 45, 46, 47, 48, 49, 50, 51, 52, 1052, 53, 54, 55, 56, 57, 58, 1058] [4, 5, 1006, 1017, 1032, 1043, 1059], []⟩)] [false, false, true] [2] [] ((True ∧ True ∧ True) ∧ (((tr 4 ((ty b1) ∧ (ty b1) ∧ (ty b1) ∧ True ∧ (false = false) ∧ True ∧ (false = false) ∧ True ∧ (false = false) ∧ True ∧ (false = false) ∧ True ∧ (rp 2 b61 ((ty b61) ∧ (okArgs [.agg [vb t.n.neg, .row (.int .u32) t.n.m, vi t.n.e]]) ∧ (ty b61) ∧ True ∧ (false = false) ∧ (ty b61) ∧ (false = false) ∧ True ∧ (rp 4 (ng1 b62) (rp 3 b63 ((ty (ng1 b62)) ∧ (ty b63) ∧ (ty (ng1 b62)) ∧ True ∧ (rp 3 b64 ((ty (ng1 b62)) ∧ (ty b64) ∧ (ty (ng1 b62)) ∧ True ∧ (rp 4 (ng1 b65) (rp 4 b66 ((ty (ng1 b65)) ∧ (ty b66) ∧ (ty (ng1 b65)) ∧ True ∧ (rp 4 b67 (rp 3 b66 ((ty b67) ∧ (ty b66) ∧ (ty b67) ∧ True ∧ (rp 4 b68 ((ty b67) ∧ (ty b68) ∧ (ty b67) ∧ True))))))))))))))))) ∧ (ty b69) ∧ True) ∧ (True ∧ True ∧ True) ∧ ((True ∧ True ∧ True) ∧ (ty b70) ∧ True ∧ True ∧ True) ∧ (ty b71) ∧ (True ∧ True) ∧ True)) .ret [(2, vb true)] [] ⟨⟨⟨ent199, con199 t.n⟩, tv⟩, tv⟩ (by kernel_rfl) ⟨⟨tv, tv, tv⟩, ⟨tr_mk (⟨b1, b1, b1, tv, rfl, tv, rfl, tv, rfl, tv, rfl, tv, rp_mk (⟨b61, rfl, b61, tv, rfl, b61, rfl, tv, rp_mk (rp_mk (⟨(ng1 b62), b63, (ng1 b62), tv, rp_mk (⟨(ng1 b62), b64, (ng1 b62), tv, rp_mk (rp_mk (⟨(ng1 b65), b66, (ng1 b65), tv, rp_mk (rp_mk (⟨b67, b66, b67, tv, rp_mk (⟨b67, b68, b67, tv⟩) 4⟩) 3) 4⟩) 4) 4⟩) 3⟩) 3) 4⟩) 2⟩) 4, b69, tv⟩, ⟨tv, tv, tv⟩, ⟨⟨tv, tv, tv⟩, b70, tv, tv, tv⟩, b71, ⟨tv, tv⟩, tv⟩ (fun a w hs => ?_)
      exact FnQ_cast (out := .val (vb true)) (by rw [← fields_own]; simp only [fieldsF, badT, b1, b61, b62, b63, b64, b65, b66, b67, b68, b69, b70, b71]; first | done | rfl) (ret_ok [] hs ⟨by kernel_rfl, rfl⟩)
   ·skip
    have n65 := beq_eq_false_iff_ne.1 b65
    refine wL hs hI [(1, ⟨[(14, ciA 199 [.agg [vb t.n.neg, .row (.int .u32) t.n.m, vi t.n.e]] [] [] (.val (vb (ownN t.n))))], gg [8, 9, 10, 11, 12, 13, 14, 15, 16, 1016, 19, 20, 21, 22, 23, 24, 25, 26, 1026, 27, 28, 29, 30, 31, 1031, 1043, 1059] [4, 5, 1006, 1017, 1032, 34, 35, 36, 37, 42, 45, 46, 47, 48, 52, 53, 58], []⟩)] [true] [2] [] ((True ∧ True ∧ True) ∧ ((tr 4 ((ty b1) ∧ (ty b1) ∧ (ty b1) ∧ True ∧ (false = false) ∧ True ∧ (false = false) ∧ True ∧ (false = false) ∧ True ∧ (false = false) ∧ True ∧ (rp 2 b61 ((ty b61) ∧ (okArgs [.agg [vb t.n.neg, .row (.int .u32) t.n.m, vi t.n.e]]) ∧ (ty b61) ∧ True ∧ (false = false) ∧ (ty b61) ∧ (false = false) ∧ True ∧ (rp 4 (ng1 b62) (rp 3 b63 ((ty (ng1 b62)) ∧ (ty b63) ∧ (ty (ng1 b62)) ∧ True ∧ (rp 3 b64 ((ty (ng1 b62)) ∧ (ty b64) ∧ (ty (ng1 b62)) ∧ True ∧ (ty (ng0 b65)) ∧ (ty (ng0 b65)) ∧ (ty (ng0 b65)) ∧ (ty (ng0 b65)) ∧ (tr 4 ((ty (ng0 b65)) ∧ (ty (ng0 b65)) ∧ True ∧ (true = true) ∧ (true = true) ∧ (true = true) ∧ (true = true) ∧ (tr 3 ((true = true) ∧ (true = true) ∧ (tr 4 ((true = true) ∧ (true = true) ∧ True))))))))))))))) ∧ (true = true) ∧ (True ∧ True) ∧ True)) .ret [(2, vb false)] [] ⟨⟨⟨ent199, con199 t.n⟩, tv⟩, tv⟩ (by kernel_rfl) ⟨⟨tv, tv, tv⟩, tr_mk (⟨b1, b1, b1, tv, rfl, tv, rfl, tv, rfl, tv, rfl, tv, rp_mk (⟨b61, rfl, b61, tv, rfl, b61, rfl, tv, rp_mk (rp_mk (⟨(ng1 b62), b63, (ng1 b62), tv, rp_mk (⟨(ng1 b62), b64, (ng1 b62), tv, (ng0 b65), (ng0 b65), (ng0 b65), (ng0 b65), tr_mk (⟨(ng0 b65), (ng0 b65), tv, rfl, rfl, rfl, rfl, tr_mk (⟨rfl, rfl, tr_mk (⟨rfl, rfl, tv⟩) 4⟩) 3⟩) 4⟩) 3⟩) 3) 4⟩) 2⟩) 4, rfl, ⟨tv, tv⟩, tv⟩ (fun a w hs => ?_)
    exact FnQ_cast (out := .val (vb false)) (by rw [← fields_own]; simp only [fieldsF, badT, b1, b61, b62, b63, b64, b65]; first | done | rfl) (ret_ok [] hs ⟨by kernel_rfl, rfl⟩)
  ·skip
   refine wL hs hI [(1, ⟨[(14, ciA 199 [.agg [vb t.n.neg, .row (.int .u32) t.n.m, vi t.n.e]] [] [] (.val (vb (ownN t.n))))], gg [8, 9, 10, 11, 12, 13, 14, 15, 16, 1016, 1032, 1043, 1059] [4, 5, 1006, 1017, 19, 20, 21, 22, 26, 27, 31, 34, 35, 36, 37, 42, 45, 46, 47, 48, 52, 53, 58], []⟩)] [true] [2] [] ((True ∧ True ∧ True) ∧ ((tr 4 ((ty b1) ∧ (ty b1) ∧ (ty b1) ∧ True ∧ (false = false) ∧ True ∧ (false = false) ∧ True ∧ (false = false) ∧ True ∧ (false = false) ∧ True ∧ (rp 2 b61 ((ty b61) ∧ (okArgs [.agg [vb t.n.neg, .row (.int .u32) t.n.m, vi t.n.e]]) ∧ (ty b61) ∧ True ∧ (false = false) ∧ (ty b61) ∧ (false = false) ∧ True ∧ (ty (ng0 b62)) ∧ (ty (ng0 b62)) ∧ (ty (ng0 b62)) ∧ (ty (ng0 b62)) ∧ (tr 3 ((ty (ng0 b62)) ∧ (ty (ng0 b62)) ∧ (tr 3 ((ty (ng0 b62)) ∧ (ty (ng0 b62)) ∧ True ∧ (true = true) ∧ (true = true) ∧ (true = true) ∧ (true = true) ∧ (tr 4 ((true = true) ∧ (true = true) ∧ True ∧ (true = true) ∧ (true = true) ∧ (true = true) ∧ (true = true) ∧ (tr 3 ((true = true) ∧ (true = true) ∧ (tr 4 ((true = true) ∧ (true = true) ∧ True)))))))))))))) ∧ (true = true) ∧ (True ∧ True) ∧ True)) .ret [(2, vb false)] [] ⟨⟨⟨ent199, con199 t.n⟩, tv⟩, tv⟩ (by kernel_rfl) ⟨⟨tv, tv, tv⟩, tr_mk (⟨b1, b1, b1, tv, rfl, tv, rfl, tv, rfl, tv, rfl, tv, rp_mk (⟨b61, rfl, b61, tv, rfl, b61, rfl, tv, (ng0 b62), (ng0 b62), (ng0 b62), (ng0 b62), tr_mk (⟨(ng0 b62), (ng0 b62), tr_mk (⟨(ng0 b62), (ng0 b62), tv, rfl, rfl, rfl, rfl, tr_mk (⟨rfl, rfl, tv, rfl, rfl, rfl, rfl, tr_mk (⟨rfl, rfl, tr_mk (⟨rfl, rfl, tv⟩) 4⟩) 3⟩) 4⟩) 3⟩) 3⟩) 2⟩) 4, rfl, ⟨tv, tv⟩, tv⟩ (fun a w hs => ?_)
   exact FnQ_cast (out := .val (vb false)) (by rw [← fields_own]; simp only [fieldsF, badT, b1, b61, b62]; first | done | rfl) (ret_ok [] hs ⟨by kernel_rfl, rfl⟩)
mutual
def fineS : Tree → Prop
 | .mk _ _ _ s ks v => (s.size < 4294967281 ∧ ∀ x ∈ ks, x.size < 4294967281) ∧ fineSL v
def fineSL : List Tree → Prop
 | [] => True
 | t :: l => fineS t ∧ fineSL l
end
theorem fineS_eq (t : Tree) : fineS t ↔ (t.s.size < 4294967281 ∧ ∀ x ∈ t.k, x.size < 4294967281) ∧ fineSL t.v := by cases t; exact Iff.rfl
theorem fineS_mem : ∀ {l : List Tree} {x : Tree}, fineSL l → x ∈ l → fineS x
 | [], _, _, h => by simp at h
 | t :: l, x, hl, h => by
  rcases List.mem_cons.1 h with rfl | h
  ·exact hl.1
  ·exact fineS_mem hl.2 h
theorem fineS_at {t : Tree} (h : fineS t) {i : Nat} (hi : i < t.v.length) (d : Tree) : fineS (t.v.getD i d) := fineS_mem ((fineS_eq t).1 h).2 (getD_mem hi d)
theorem con95_ : ∀ (n : Nat) (t : Tree) (d n0 : Int), nodes t < n → fineT t → fineS t → 0 ≤ d → d ≤ 65 → 0 ≤ n0 → n0 ≤ 2000 → Con Tryz.prog I0 95 [.agg (encTree t), vi d, vi n0] (.val (vi (walkF t d n0))) := by
 intro n
 induction n
 case zero => intro t d n0 hn; omega
 rename_i n ih
 intro t d n0 hn hft hfs hd0 hd1 hn0 hn1
 obtain ⟨⟨hf1, hf2, hf3, hf4⟩, hf5⟩ := (fine_eq t).1 hft
 obtain ⟨⟨hg1, hg2⟩, hg3⟩ := (fineS_eq t).1 hfs
 refine con_of Tryz.func95 rfl (Nat.le_of_ble_eq_true rfl) stab (fun w0 fz a hI hs => ?_)
 refine wp_seq ?_
 refine wN hs hI [] [1, 2, 3] [1000] (True ∧ (True ∧ True)) .norm [(1, vi d), (2, vi n0), (3, .ptr 1000 0)] [(1000, .var (encTree t))] (by kernel_rfl) ⟨tv, tv, tv⟩ (fun a w hs => ?_)
 refine then_norm ?_
 refine wp_seq ?_
 refine wN hs hI [] [1, 2, 3] [1000] (True ∧ ((InR .i64 (n0 + 1)) ∧ True ∧ True)) .norm [(1, vi d), (2, vi (n0 + 1)), (3, .ptr 1000 0)] [(1000, .var (encTree t))] (by kernel_rfl) ⟨tv, (inR64 (by omega) (by omega)), tv, tv⟩ (fun a w hs => ?_)
 refine then_norm ?_
 refine wp_seq ?_
 rcases bt (decide ((n0 + 1) > 2000)) with b1 | b1
 ·skip
  have n1 := of_decide_eq_true b1
  refine wL hs hI [(2, ⟨[], gg [1005, 1010] [3, 4, 7, 8, 9], []⟩)] [true] [6] [] ((tr 3 ((ty b1) ∧ (ty b1) ∧ (ty b1) ∧ True ∧ (true = true) ∧ (true = true) ∧ (true = true) ∧ (true = true) ∧ True)) ∧ ((true = true) ∧ (True ∧ True) ∧ True)) .ret [(6, vi (-1))] [] ⟨tv, tv⟩ (by kernel_rfl) ⟨tr_mk (⟨b1, b1, b1, tv, rfl, rfl, rfl, rfl, tv⟩) 3, rfl, ⟨tv, tv⟩, tv⟩ (fun a w hs => ?_)
  refine then_ret ?_
  exact FnQ_cast (out := .val (vi (-1))) (by rw [walk_no (by first | exact .inl (by omega) | exact .inr (.inl (by omega)) | exact .inr (.inr rfl))]) (ret_ok [] hs ⟨by kernel_rfl, rfl⟩)
 ·skip
  have n1 := of_decide_eq_false b1
  rcases bt (decide (d > 64)) with b2 | b2
  ·skip
   have n2 := of_decide_eq_true b2
   refine wL hs hI [(2, ⟨[], gg [3, 4, 1010] [1005, 7, 8, 9], []⟩)] [true] [6] [] ((tr 3 (rp 3 b1 ((ty b2) ∧ (ty b2) ∧ (ty b2) ∧ (ty b2) ∧ True))) ∧ ((true = true) ∧ (True ∧ True) ∧ True)) .ret [(6, vi (-1))] [] ⟨tv, tv⟩ (by kernel_rfl) ⟨tr_mk (rp_mk (⟨b2, b2, b2, b2, tv⟩) 3) 3, rfl, ⟨tv, tv⟩, tv⟩ (fun a w hs => ?_)
   refine then_ret ?_
   exact FnQ_cast (out := .val (vi (-1))) (by rw [walk_no (by first | exact .inl (by omega) | exact .inr (.inl (by omega)) | exact .inr (.inr rfl))]) (ret_ok [] hs ⟨by kernel_rfl, rfl⟩)
  ·skip
   have n2 := of_decide_eq_false b2
   rcases bt (ownO t) with b3 | b3
   ·skip
    refine wL hs hI [(2, ⟨[(8, ciA 150 [.agg (encTree t)] [] [] (.val (vb (ownO t))))], gg [3, 4, 7, 8, 9] [1005, 1010], []⟩)] [false] [1, 2, 3] [1000] ((tr 3 (rp 3 b1 ((ty b2) ∧ True ∧ (ty b2) ∧ (okArgs [.agg (encTree t)]) ∧ (ty b2) ∧ True ∧ (ty b2) ∧ True))) ∧ ((ty (ng1 b3)) ∧ True)) .norm [(1, vi d), (2, vi (n0 + 1)), (3, .ptr 1000 0)] [(1000, .var (encTree t))] ⟨⟨⟨ent150, con150 t hf1 hf2 hf3 hg1 hg2⟩, tv⟩, tv⟩ (by kernel_rfl) ⟨tr_mk (rp_mk (⟨b2, tv, b2, rfl, b2, tv, b2, tv⟩) 3) 3, (ng1 b3), tv⟩ (fun a w hs => ?_)
    refine then_norm ?_
    refine wp_seq ?_
    refine wp_seq ?_
    refine wN hs hI [] [1, 2, 3, 7] [1000] (True ∧ True) .norm [(1, vi d), (2, vi (n0 + 1)), (3, .ptr 1000 0), (7, vi 0)] [(1000, .var (encTree t))] (by kernel_rfl) ⟨tv, tv⟩ (fun a w hs => ?_)
    refine then_norm ?_
    refine wp_block ?_
    refine loop_L (N := Tryz.f95.ntmps) (w0 := w0) (ow := noO fz) (α := Nat × Int) (fun p => [(1, vi d), (2, vi p.2), (3, .ptr 1000 0), (7, vi ((p.1 : Nat) : Int))]) (fun p => [(1000, .var (encTree t))]) (fun p => WalkJ t.v d (n0 + 1) p.1 p.2) (fun p => t.v.length - p.1) (0, n0 + 1) ?_ ?_ ?_
    ·exact WalkJ.start (by omega) (by omega)
    ·exact (hs.cst [(1, vi d), (2, vi (n0 + 1)), (3, .ptr 1000 0), (7, vi ((0 : Nat) : Int))] [(1000, .var (encTree t))] rfl).rm [(1000, 1000)] (by kernel_rfl)
    rintro ⟨i, x⟩ hJ a w hs
    try dsimp only at hJ
    have hJl := hJ.le
    have hJh := hJ.hi
    have hJo := hJ.lo
    rcases bt (decide ((i : Int) < (t.v.length : Int))) with b4 | b4
    ·skip
     have n4 := of_decide_eq_true b4
     rcases bt (decide (x ≥ 0)) with b5 | b5
     ·skip
      have n5 := of_decide_eq_true b5
      refine wL hs hI [(5, ⟨[], gg [6, 7, 1008] [], []⟩), (7, ⟨[(8, ciA 95 [.agg (encTree (t.v.getD i (dflt .tree))), vi (d + 1), vi x] [] [] (.val (vi (walkF (t.v.getD i (dflt .tree)) (d + 1) x))))], [], []⟩)] [true] [1, 2, 3, 7] [1000] (((tr 6 (rp 2 b4 ((ty b4) ∧ True))) ∧ (ty b5) ∧ True) ∧ ((tr 3 ((0 ≤ (i : Int) ∧ (i : Int) < t.v.length) ∧ True ∧ True ∧ (InR .i64 (d + 1)) ∧ True ∧ (okArgs [.agg (encTree (t.v.getD i (dflt .tree))), vi (d + 1), vi x]) ∧ True ∧ True)) ∧ True ∧ (InR .i64 ((i : Int) + 1)) ∧ True ∧ True)) .norm [(1, vi d), (2, vi (walkF (t.v.getD i (dflt .tree)) (d + 1) x)), (3, .ptr 1000 0), (7, vi ((i : Int) + 1))] [(1000, .var (encTree t))] ⟨tv, ⟨⟨⟨ent95, ih _ _ _ (by have h1 := nodes_eq t; have h2 := nodes_at (l := t.v) (i := i) (by omega); omega) (fine_at hft (by omega) _) (fineS_at hfs (by omega) _) (by omega) (by omega) (by omega) (by omega)⟩, tv⟩, tv⟩⟩ (by kernel_rfl) ⟨⟨tr_mk (rp_mk (⟨b4, tv⟩) 2) 6, b5, tv⟩, tr_mk (⟨(by omega), tv, tv, (inR64 (by omega) (by omega)), tv, rfl, tv, tv⟩) 3, tv, (inR64 (by omega) (by omega)), tv, tv⟩ (fun a w hs => ?_)
      refine then_norm ⟨(i + 1, walkF (t.v.getD i (dflt .tree)) (d + 1) x), hJ.on (by omega) (by omega), by omega, ?_⟩
      (have e1_ : ((i : Int) + 1) = ((((i + 1) : Nat) : Int)) := (by first | rfl | (omega)); exact (hs.cst [(1, vi d), (2, vi (walkF (t.v.getD i (dflt .tree)) (d + 1) x)), (3, .ptr 1000 0), (7, vi (((i + 1) : Nat) : Int))] [(1000, .var (encTree t))] (by first | rfl | (rw [e1_]; done) | (simp only [e1_]; done) | (simp only [e1_]; rfl))).rm [(1000, 1000)] (by kernel_rfl))
     ·skip
      have n5 := of_decide_eq_false b5
      refine wL hs hI [(5, ⟨[], gg [6, 7, 1008] [], []⟩)] [false] [2] [] ((tr 6 (rp 2 b4 ((ty b4) ∧ True))) ∧ ((ty b5) ∧ True)) (.exit 0) [(2, vi x)] [] ⟨tv, tv⟩ (by kernel_rfl) ⟨tr_mk (rp_mk (⟨b4, tv⟩) 2) 6, b5, tv⟩ (fun a w hs => ?_)
      refine then_exit ?_
      refine inb_hit ?_
      refine then_norm ?_
      refine wN hs hI [] [6] [] ((True ∧ True ∧ True) ∧ True) .ret [(6, vi x)] [] (by kernel_rfl) ⟨⟨tv, tv, tv⟩, tv⟩ (fun a w hs => ?_)
      exact FnQ_cast (out := .val (vi x)) (by rw [hJ.fin (by omega) (by omega) (by omega) b3]) (ret_ok [] hs ⟨by kernel_rfl, rfl⟩)
    ·skip
     have n4 := of_decide_eq_false b4
     refine wL hs hI [(5, ⟨[], gg [] [6, 7, 1008], []⟩)] [false] [2] [] ((tr 6 ((ty b4) ∧ (ty b4) ∧ (ty b4) ∧ True)) ∧ ((false = false) ∧ True)) (.exit 0) [(2, vi x)] [] ⟨tv, tv⟩ (by kernel_rfl) ⟨tr_mk (⟨b4, b4, b4, tv⟩) 6, rfl, tv⟩ (fun a w hs => ?_)
     refine then_exit ?_
     refine inb_hit ?_
     refine then_norm ?_
     refine wN hs hI [] [6] [] ((True ∧ True ∧ True) ∧ True) .ret [(6, vi x)] [] (by kernel_rfl) ⟨⟨tv, tv, tv⟩, tv⟩ (fun a w hs => ?_)
     exact FnQ_cast (out := .val (vi x)) (by rw [hJ.fin (by omega) (by omega) (by omega) b3]) (ret_ok [] hs ⟨by kernel_rfl, rfl⟩)
   ·skip
    refine wL hs hI [(2, ⟨[(8, ciA 150 [.agg (encTree t)] [] [] (.val (vb (ownO t))))], gg [3, 4, 7, 8, 9] [1005, 1010], []⟩)] [true] [6] [] ((tr 3 (rp 3 b1 ((ty b2) ∧ True ∧ (ty b2) ∧ (okArgs [.agg (encTree t)]) ∧ (ty b2) ∧ True ∧ (ty b2) ∧ True))) ∧ ((ty (ng0 b3)) ∧ (True ∧ True) ∧ True)) .ret [(6, vi (-1))] [] ⟨⟨⟨ent150, con150 t hf1 hf2 hf3 hg1 hg2⟩, tv⟩, tv⟩ (by kernel_rfl) ⟨tr_mk (rp_mk (⟨b2, tv, b2, rfl, b2, tv, b2, tv⟩) 3) 3, (ng0 b3), ⟨tv, tv⟩, tv⟩ (fun a w hs => ?_)
    refine then_ret ?_
    exact FnQ_cast (out := .val (vi (-1))) (by rw [walk_no (by first | exact .inl (by omega) | exact .inr (.inl (by omega)) | exact .inr (.inr b3))]) (ret_ok [] hs ⟨by kernel_rfl, rfl⟩)
theorem con44 (t : Tree) (hft : fineT t) (hfs : fineS t) : Con Tryz.prog I0 44 [.agg (encTree t)] (.val (vb (validT t))) := by
 refine con_of Tryz.func44 rfl (Nat.le_of_ble_eq_true rfl) stab (fun w0 fz a hI hs => ?_)
 refine wL hs hI [(1, ⟨[(1, ciA 95 [.agg (encTree t), vi 1, vi 0] [] [] (.val (vi (walkF t 1 0))))], [], []⟩)] [] [2] [] ((True ∧ True ∧ True) ∧ ((True ∧ (okArgs [.agg (encTree t), vi 1, vi 0]) ∧ True ∧ True ∧ True) ∧ True)) .ret [(2, vb (decide ((walkF t 1 0) ≥ 0)))] [] ⟨⟨⟨ent95, con95_ (nodes t + 1) t 1 0 (Nat.lt_succ_self _) hft hfs (by decide) (by decide) (by decide) (by decide)⟩, tv⟩, tv⟩ (by kernel_rfl) ⟨⟨tv, tv, tv⟩, ⟨tv, rfl, tv, tv, tv⟩, tv⟩ (fun a w hs => ?_)
 exact FnQ_cast (out := .val (vb (decide ((walkF t 1 0) ≥ 0)))) (by rw [walk_valid]) (ret_ok [] hs ⟨by kernel_rfl, rfl⟩)
theorem con64_ : ∀ (n : Nat) (t : Tree), nodes t < n → nodes t < 4611686018427387904 → Con Tryz.prog I0 64 [.agg (encTree t)] (.val (vi ((nodes t : Nat) : Int))) := by
 intro n
 induction n
 case zero => intro t hn; omega
 rename_i n ih
 intro t hn hw
 refine con_of Tryz.func64 rfl (Nat.le_of_ble_eq_true rfl) stab (fun w0 fz a hI hs => ?_)
 refine wp_seq ?_
 refine wN hs hI [] [1] [1000] (True ∧ (True ∧ True)) .norm [(1, .ptr 1000 0)] [(1000, .var (encTree t))] (by kernel_rfl) ⟨tv, tv, tv⟩ (fun a w hs => ?_)
 refine then_norm ?_
 refine wp_seq ?_
 refine wN hs hI [] [1, 3] [1000] (True ∧ True) .norm [(1, .ptr 1000 0), (3, vi 1)] [(1000, .var (encTree t))] (by kernel_rfl) ⟨tv, tv⟩ (fun a w hs => ?_)
 refine then_norm ?_
 refine wp_seq ?_
 refine wp_seq ?_
 refine wN hs hI [] [1, 3, 4] [1000] (True ∧ True) .norm [(1, .ptr 1000 0), (3, vi 1), (4, vi 0)] [(1000, .var (encTree t))] (by kernel_rfl) ⟨tv, tv⟩ (fun a w hs => ?_)
 refine then_norm ?_
 refine wp_block ?_
 refine loop_L (N := Tryz.f64.ntmps) (w0 := w0) (ow := noO fz) (α := Nat) (fun p => [(1, .ptr 1000 0), (3, vi ((1 + nodesL (t.v.take p) : Nat) : Int)), (4, vi (p : Int))]) (fun p => [(1000, .var (encTree t))]) (fun p => p ≤ t.v.length) (fun p => t.v.length - p) 0 ?_ ?_ ?_
 ·exact Nat.zero_le _
 ·(have e0_ : (1) = (((1 + nodesL (t.v.take 0) : Nat) : Int)) := (by first | rfl | (simp only [List.take_zero, nodesL]; omega)); have e1_ : (0) = (((0 : Nat) : Int)) := (by first | rfl | (simp only [List.take_zero, nodesL]; omega)); exact (hs.cst [(1, .ptr 1000 0), (3, vi ((1 + nodesL (t.v.take 0) : Nat) : Int)), (4, vi ((0 : Nat) : Int))] [(1000, .var (encTree t))] (by first | rfl | (rw [e0_, e1_]; done) | (simp only [e0_, e1_]; done) | (simp only [e0_, e1_]; rfl))).rm [(1000, 1000)] (by kernel_rfl))
 rintro i hJ a w hs
 have hwt := nodes_eq t
 have hle := nodesL_le t.v i
 have hlen := nodesL_len t.v
 rcases bt (decide ((i : Int) < (t.v.length : Int))) with b1 | b1
 ·skip
  have n1 := of_decide_eq_true b1
  have ht1 := nodesL_take t.v i (by omega)
  have hle1 := nodesL_le t.v (i + 1)
  refine wL hs hI [(5, ⟨[(6, ciA 64 [.agg (encTree (t.v.getD i (dflt .tree)))] [] [] (.val (vi ((nodes (t.v.getD i (dflt .tree)) : Nat) : Int))))], [], []⟩)] [true] [1, 3, 4] [1000] (((tr 5 True) ∧ (ty b1) ∧ True) ∧ ((tr 4 ((0 ≤ (i : Int) ∧ (i : Int) < t.v.length) ∧ True ∧ (okArgs [.agg (encTree (t.v.getD i (dflt .tree)))]) ∧ (InR .i64 (((1 + nodesL (t.v.take i) : Nat) : Int) + ((nodes (t.v.getD i (dflt .tree)) : Nat) : Int))) ∧ True ∧ True)) ∧ True ∧ (InR .i64 ((i : Int) + 1)) ∧ True ∧ True)) .norm [(1, .ptr 1000 0), (3, vi (((1 + nodesL (t.v.take i) : Nat) : Int) + ((nodes (t.v.getD i (dflt .tree)) : Nat) : Int))), (4, vi ((i : Int) + 1))] [(1000, .var (encTree t))] ⟨⟨⟨ent64, ih _ (by have h1 := nodes_eq t; have h2 := nodes_at (l := t.v) (i := i) (by omega); omega) (by have := weightL_take t.v i (by omega); have := weightL_le t.v (i + 1); have := nodesL_take t.v i (by omega); have := nodesL_le t.v (i + 1); have := weight_eq t; have := nodes_eq t; omega)⟩, tv⟩, tv⟩ (by kernel_rfl) ⟨⟨tr_mk tv 5, b1, tv⟩, tr_mk (⟨(by omega), tv, rfl, (inR64 (by omega) (by omega)), tv, tv⟩) 4, tv, (inR64 (by omega) (by omega)), tv, tv⟩ (fun a w hs => ?_)
  refine then_norm ⟨i + 1, by omega, by omega, ?_⟩
  (have e0_ : (((1 + nodesL (t.v.take i) : Nat) : Int) + ((nodes (t.v.getD i (dflt .tree)) : Nat) : Int)) = (((1 + nodesL (t.v.take (i + 1)) : Nat) : Int)) := (by first | rfl | (omega)); have e1_ : ((i : Int) + 1) = ((((i + 1) : Nat) : Int)) := (by first | rfl | (omega)); exact (hs.cst [(1, .ptr 1000 0), (3, vi ((1 + nodesL (t.v.take (i + 1)) : Nat) : Int)), (4, vi (((i + 1) : Nat) : Int))] [(1000, .var (encTree t))] (by first | rfl | (rw [e0_, e1_]; done) | (simp only [e0_, e1_]; done) | (simp only [e0_, e1_]; rfl))).rm [(1000, 1000)] (by kernel_rfl))
 ·skip
  have n1 := of_decide_eq_false b1
  refine wN hs hI [false] [3] [] ((tr 5 True) ∧ ((ty b1) ∧ True)) (.exit 0) [(3, vi ((1 + nodesL (t.v.take i) : Nat) : Int))] [] (by kernel_rfl) ⟨tr_mk tv 5, b1, tv⟩ (fun a w hs => ?_)
  refine then_exit ?_
  refine inb_hit ?_
  refine then_norm ?_
  refine wN hs hI [] [2] [] ((True ∧ True ∧ True) ∧ True) .ret [(2, vi ((1 + nodesL (t.v.take i) : Nat) : Int))] [] (by kernel_rfl) ⟨⟨tv, tv, tv⟩, tv⟩ (fun a w hs => ?_)
  exact FnQ_cast (out := .val (vi ((1 + nodesL (t.v.take i) : Nat) : Int))) (by have h1 := nodes_eq t; have h2 : t.v.take i = t.v := List.take_of_length_le (by omega); rw [h2, ← h1]) (ret_ok [] hs ⟨by kernel_rfl, rfl⟩)
theorem con64 (t : Tree) (h : nodes t < 4611686018427387904) : Con Tryz.prog I0 64 [.agg (encTree t)] (.val (vi ((nodes t : Nat) : Int))) := con64_ (nodes t + 1) t (Nat.lt_succ_self _) h
theorem con66_ : ∀ (n : Nat) (t : Tree), nodes t < n → nodes t < 4611686018427387904 → Con Tryz.prog I0 66 [.agg (encTree t)] (.val (vi ((depth t : Nat) : Int))) := by
 intro n
 induction n
 case zero => intro t hn; omega
 rename_i n ih
 intro t hn hw
 refine con_of Tryz.func66 rfl (Nat.le_of_ble_eq_true rfl) stab (fun w0 fz a hI hs => ?_)
 refine wp_seq ?_
 refine wN hs hI [] [1] [1000] (True ∧ (True ∧ True)) .norm [(1, .ptr 1000 0)] [(1000, .var (encTree t))] (by kernel_rfl) ⟨tv, tv, tv⟩ (fun a w hs => ?_)
 refine then_norm ?_
 refine wp_seq ?_
 refine wN hs hI [] [1, 3] [1000] (True ∧ True) .norm [(1, .ptr 1000 0), (3, vi 0)] [(1000, .var (encTree t))] (by kernel_rfl) ⟨tv, tv⟩ (fun a w hs => ?_)
 refine then_norm ?_
 refine wp_seq ?_
 refine wp_seq ?_
 refine wN hs hI [] [1, 3, 4] [1000] (True ∧ True) .norm [(1, .ptr 1000 0), (3, vi 0), (4, vi 0)] [(1000, .var (encTree t))] (by kernel_rfl) ⟨tv, tv⟩ (fun a w hs => ?_)
 refine then_norm ?_
 refine wp_block ?_
 refine loop_L (N := Tryz.f66.ntmps) (w0 := w0) (ow := noO fz) (α := Nat) (fun p => [(1, .ptr 1000 0), (3, vi ((depthL (t.v.take p) : Nat) : Int)), (4, vi (p : Int))]) (fun p => [(1000, .var (encTree t))]) (fun p => p ≤ t.v.length) (fun p => t.v.length - p) 0 ?_ ?_ ?_
 ·exact Nat.zero_le _
 ·exact (hs.cst [(1, .ptr 1000 0), (3, vi ((depthL (t.v.take 0) : Nat) : Int)), (4, vi ((0 : Nat) : Int))] [(1000, .var (encTree t))] rfl).rm [(1000, 1000)] (by kernel_rfl)
 rintro i hJ a w hs
 have hwt := nodes_eq t
 have hlen := nodesL_len t.v
 have hdl := depthL_le (t.v.take i)
 have hle := nodesL_le t.v i
 rcases bt (decide ((i : Int) < (t.v.length : Int))) with b1 | b1
 ·skip
  have n1 := of_decide_eq_true b1
  have ht1 := depthL_take t.v i (by omega)
  refine wL hs hI [(5, ⟨[(6, ciA 66 [.agg (encTree (t.v.getD i (dflt .tree)))] [] [] (.val (vi ((depth (t.v.getD i (dflt .tree)) : Nat) : Int))))], [], []⟩)] [true] [1, 3, 4] [1000] (((tr 5 True) ∧ (ty b1) ∧ True) ∧ ((tr 4 ((0 ≤ (i : Int) ∧ (i : Int) < t.v.length) ∧ True ∧ (okArgs [.agg (encTree (t.v.getD i (dflt .tree)))]) ∧ True ∧ True ∧ True)) ∧ True ∧ (InR .i64 ((i : Int) + 1)) ∧ True ∧ True)) .norm [(1, .ptr 1000 0), (3, vi (max ((depthL (t.v.take i) : Nat) : Int) ((depth (t.v.getD i (dflt .tree)) : Nat) : Int))), (4, vi ((i : Int) + 1))] [(1000, .var (encTree t))] ⟨⟨⟨ent66, ih _ (by have h1 := nodes_eq t; have h2 := nodes_at (l := t.v) (i := i) (by omega); omega) (by have := weightL_take t.v i (by omega); have := weightL_le t.v (i + 1); have := nodesL_take t.v i (by omega); have := nodesL_le t.v (i + 1); have := weight_eq t; have := nodes_eq t; omega)⟩, tv⟩, tv⟩ (by kernel_rfl) ⟨⟨tr_mk tv 5, b1, tv⟩, tr_mk (⟨(by omega), tv, rfl, tv, tv, tv⟩) 4, tv, (inR64 (by omega) (by omega)), tv, tv⟩ (fun a w hs => ?_)
  refine then_norm ⟨i + 1, by omega, by omega, ?_⟩
  (have e0_ : (max ((depthL (t.v.take i) : Nat) : Int) ((depth (t.v.getD i (dflt .tree)) : Nat) : Int)) = (((depthL (t.v.take (i + 1)) : Nat) : Int)) := (by first | rfl | (omega)); have e1_ : ((i : Int) + 1) = ((((i + 1) : Nat) : Int)) := (by first | rfl | (omega)); exact (hs.cst [(1, .ptr 1000 0), (3, vi ((depthL (t.v.take (i + 1)) : Nat) : Int)), (4, vi (((i + 1) : Nat) : Int))] [(1000, .var (encTree t))] (by first | rfl | (rw [e0_, e1_]; done) | (simp only [e0_, e1_]; done) | (simp only [e0_, e1_]; rfl))).rm [(1000, 1000)] (by kernel_rfl))
 ·skip
  have n1 := of_decide_eq_false b1
  refine wN hs hI [false] [3] [] ((tr 5 True) ∧ ((ty b1) ∧ True)) (.exit 0) [(3, vi ((depthL (t.v.take i) : Nat) : Int))] [] (by kernel_rfl) ⟨tr_mk tv 5, b1, tv⟩ (fun a w hs => ?_)
  refine then_exit ?_
  refine inb_hit ?_
  refine then_norm ?_
  refine wN hs hI [] [2] [] ((True ∧ (InR .i64 (((depthL (t.v.take i) : Nat) : Int) + 1)) ∧ True ∧ True) ∧ True) .ret [(2, vi (((depthL (t.v.take i) : Nat) : Int) + 1))] [] (by kernel_rfl) ⟨⟨tv, (inR64 (by omega) (by omega)), tv, tv⟩, tv⟩ (fun a w hs => ?_)
  exact FnQ_cast (out := .val (vi (((depthL (t.v.take i) : Nat) : Int) + 1))) (by have h1 := depth_eq t; have h2 : t.v.take i = t.v := List.take_of_length_le (by omega); rw [h2, show (((depthL t.v : Nat) : Int) + 1) = ((depth t : Nat) : Int) by omega]) (ret_ok [] hs ⟨by kernel_rfl, rfl⟩)
theorem con66 (t : Tree) (h : nodes t < 4611686018427387904) : Con Tryz.prog I0 66 [.agg (encTree t)] (.val (vi ((depth t : Nat) : Int))) := con66_ (nodes t + 1) t (Nat.lt_succ_self _) h
theorem con143_ : ∀ (n : Nat) (t : Tree), nodes t < n → weight t < 4611686018427387904 → Con Tryz.prog I0 143 [.agg (encTree t)] (.val (vi ((weight t : Nat) : Int))) := by
 intro n
 induction n
 case zero => intro t hn; omega
 rename_i n ih
 intro t hn hw
 have hb : weight t = bulk t + weightL t.v := weight_eq t
 refine con_of Tryz.func143 rfl (Nat.le_of_ble_eq_true rfl) stab (fun w0 fz a hI hs => ?_)
 refine wp_seq ?_
 refine wN hs hI [] [1] [1000] (True ∧ (True ∧ True)) .norm [(1, .ptr 1000 0)] [(1000, .var (encTree t))] (by kernel_rfl) ⟨tv, tv, tv⟩ (fun a w hs => ?_)
 refine then_norm ?_
 refine wp_seq ?_
 refine wN hs hI [] [1, 3] [1000] (True ∧ True) .norm [(1, .ptr 1000 0), (3, vi 1)] [(1000, .var (encTree t))] (by kernel_rfl) ⟨tv, tv⟩ (fun a w hs => ?_)
 refine then_norm ?_
 refine wp_seq ?_
 rcases bt (t.kind == 3) with b1 | b1
 ·skip
  have n1 := eq_of_beq b1
  have hq := bulk_3 (t := t) (by assumption)
  refine wN hs hI [true] [1, 3] [1000] ((True ∧ True ∧ True) ∧ ((True ∧ True ∧ True) ∧ (ty b1) ∧ (tr 5 ((InR .i64 (1 + (t.n.m.length : Int))) ∧ True ∧ True)))) .norm [(1, .ptr 1000 0), (3, vi (1 + (t.n.m.length : Int)))] [(1000, .var (encTree t))] (by kernel_rfl) ⟨⟨tv, tv, tv⟩, ⟨tv, tv, tv⟩, b1, tr_mk (⟨(inR64 (by omega) (by omega)), tv, tv⟩) 5⟩ (fun a w hs => ?_)
  refine then_norm ?_
  refine wp_seq ?_
  refine wp_seq ?_
  refine wN hs hI [] [1, 3, 4] [1000] (True ∧ True) .norm [(1, .ptr 1000 0), (3, vi (1 + (t.n.m.length : Int))), (4, vi 0)] [(1000, .var (encTree t))] (by kernel_rfl) ⟨tv, tv⟩ (fun a w hs => ?_)
  refine then_norm ?_
  refine wp_block ?_
  refine loop_L (N := Tryz.f143.ntmps) (w0 := w0) (ow := noO fz) (α := Nat) (fun p => [(1, .ptr 1000 0), (3, vi ((bulk t + weightL (t.v.take p) : Nat) : Int)), (4, vi (p : Int))]) (fun p => [(1000, .var (encTree t))]) (fun p => p ≤ t.v.length) (fun p => t.v.length - p) 0 ?_ ?_ ?_
  ·exact Nat.zero_le _
  ·(have e0_ : (1 + (t.n.m.length : Int)) = (((bulk t + weightL (t.v.take 0) : Nat) : Int)) := (by first | rfl | (simp only [List.take_zero, weightL]; first | omega | (rw [bulk_0 (by assumption) (by assumption) (by assumption)]; rfl))); have e1_ : (0) = (((0 : Nat) : Int)) := (by first | rfl | (simp only [List.take_zero, weightL]; first | omega | (rw [bulk_0 (by assumption) (by assumption) (by assumption)]; rfl))); exact (hs.cst [(1, .ptr 1000 0), (3, vi ((bulk t + weightL (t.v.take 0) : Nat) : Int)), (4, vi ((0 : Nat) : Int))] [(1000, .var (encTree t))] (by first | rfl | (rw [e0_, e1_]; done) | (simp only [e0_, e1_]; done) | (simp only [e0_, e1_]; rfl))).rm [(1000, 1000)] (by kernel_rfl))
  rintro i hJ a w hs
  have hwt := weight_eq t
  have hle := weightL_le t.v i
  have hlen := weightL_len t.v
  rcases bt (decide ((i : Int) < (t.v.length : Int))) with b2 | b2
  ·skip
   have n2 := of_decide_eq_true b2
   have ht1 := weightL_take t.v i (by omega)
   have hle1 := weightL_le t.v (i + 1)
   refine wL hs hI [(11, ⟨[(6, ciA 143 [.agg (encTree (t.v.getD i (dflt .tree)))] [] [] (.val (vi ((weight (t.v.getD i (dflt .tree)) : Nat) : Int))))], [], []⟩)] [true] [1, 3, 4] [1000] (((tr 5 True) ∧ (ty b2) ∧ True) ∧ ((tr 4 ((0 ≤ (i : Int) ∧ (i : Int) < t.v.length) ∧ True ∧ (okArgs [.agg (encTree (t.v.getD i (dflt .tree)))]) ∧ (InR .i64 (((bulk t + weightL (t.v.take i) : Nat) : Int) + ((weight (t.v.getD i (dflt .tree)) : Nat) : Int))) ∧ True ∧ True)) ∧ True ∧ (InR .i64 ((i : Int) + 1)) ∧ True ∧ True)) .norm [(1, .ptr 1000 0), (3, vi (((bulk t + weightL (t.v.take i) : Nat) : Int) + ((weight (t.v.getD i (dflt .tree)) : Nat) : Int))), (4, vi ((i : Int) + 1))] [(1000, .var (encTree t))] ⟨⟨⟨ent143, ih _ (by have h1 := nodes_eq t; have h2 := nodes_at (l := t.v) (i := i) (by omega); omega) (by have := weightL_take t.v i (by omega); have := weightL_le t.v (i + 1); have := nodesL_take t.v i (by omega); have := nodesL_le t.v (i + 1); have := weight_eq t; have := nodes_eq t; omega)⟩, tv⟩, tv⟩ (by kernel_rfl) ⟨⟨tr_mk tv 5, b2, tv⟩, tr_mk (⟨(by omega), tv, rfl, (inR64 (by omega) (by omega)), tv, tv⟩) 4, tv, (inR64 (by omega) (by omega)), tv, tv⟩ (fun a w hs => ?_)
   refine then_norm ⟨i + 1, by omega, by omega, ?_⟩
   (have e0_ : (((bulk t + weightL (t.v.take i) : Nat) : Int) + ((weight (t.v.getD i (dflt .tree)) : Nat) : Int)) = (((bulk t + weightL (t.v.take (i + 1)) : Nat) : Int)) := (by first | rfl | (omega)); have e1_ : ((i : Int) + 1) = ((((i + 1) : Nat) : Int)) := (by first | rfl | (omega)); exact (hs.cst [(1, .ptr 1000 0), (3, vi ((bulk t + weightL (t.v.take (i + 1)) : Nat) : Int)), (4, vi (((i + 1) : Nat) : Int))] [(1000, .var (encTree t))] (by first | rfl | (rw [e0_, e1_]; done) | (simp only [e0_, e1_]; done) | (simp only [e0_, e1_]; rfl))).rm [(1000, 1000)] (by kernel_rfl))
  ·skip
   have n2 := of_decide_eq_false b2
   refine wN hs hI [false] [3] [] ((tr 5 True) ∧ ((ty b2) ∧ True)) (.exit 1) [(3, vi ((bulk t + weightL (t.v.take i) : Nat) : Int))] [] (by kernel_rfl) ⟨tr_mk tv 5, b2, tv⟩ (fun a w hs => ?_)
   refine then_exit ?_
   refine inb_hit ?_
   refine then_norm ?_
   refine wN hs hI [] [2] [] ((True ∧ True ∧ True) ∧ True) .ret [(2, vi ((bulk t + weightL (t.v.take i) : Nat) : Int))] [] (by kernel_rfl) ⟨⟨tv, tv, tv⟩, tv⟩ (fun a w hs => ?_)
   exact FnQ_cast (out := .val (vi ((bulk t + weightL (t.v.take i) : Nat) : Int))) (by have h1 := weight_eq t; have h2 : t.v.take i = t.v := List.take_of_length_le (by omega); rw [h2, ← h1]) (ret_ok [] hs ⟨by kernel_rfl, rfl⟩)
 ·skip
  have n1 := beq_eq_false_iff_ne.1 b1
  rcases bt (t.kind == 4) with b3 | b3
  ·skip
   have n3 := eq_of_beq b3
   have hq := bulk_4 (t := t) (by assumption)
   refine wN hs hI [false, true, true] [1, 3] [1000] ((True ∧ True ∧ True) ∧ ((True ∧ True ∧ True) ∧ (ty b1) ∧ ((True ∧ True ∧ True) ∧ (ty b3) ∧ True) ∧ (ty b3) ∧ (tr 4 ((InR .i64 (1 + (t.s.size : Int))) ∧ True ∧ True)))) .norm [(1, .ptr 1000 0), (3, vi (1 + (t.s.size : Int)))] [(1000, .var (encTree t))] (by kernel_rfl) ⟨⟨tv, tv, tv⟩, ⟨tv, tv, tv⟩, b1, ⟨⟨tv, tv, tv⟩, b3, tv⟩, b3, tr_mk (⟨(inR64 (by omega) (by omega)), tv, tv⟩) 4⟩ (fun a w hs => ?_)
   refine then_norm ?_
   refine wp_seq ?_
   refine wp_seq ?_
   refine wN hs hI [] [1, 3, 4] [1000] (True ∧ True) .norm [(1, .ptr 1000 0), (3, vi (1 + (t.s.size : Int))), (4, vi 0)] [(1000, .var (encTree t))] (by kernel_rfl) ⟨tv, tv⟩ (fun a w hs => ?_)
   refine then_norm ?_
   refine wp_block ?_
   refine loop_L (N := Tryz.f143.ntmps) (w0 := w0) (ow := noO fz) (α := Nat) (fun p => [(1, .ptr 1000 0), (3, vi ((bulk t + weightL (t.v.take p) : Nat) : Int)), (4, vi (p : Int))]) (fun p => [(1000, .var (encTree t))]) (fun p => p ≤ t.v.length) (fun p => t.v.length - p) 0 ?_ ?_ ?_
   ·exact Nat.zero_le _
   ·(have e0_ : (1 + (t.s.size : Int)) = (((bulk t + weightL (t.v.take 0) : Nat) : Int)) := (by first | rfl | (simp only [List.take_zero, weightL]; first | omega | (rw [bulk_0 (by assumption) (by assumption) (by assumption)]; rfl))); have e1_ : (0) = (((0 : Nat) : Int)) := (by first | rfl | (simp only [List.take_zero, weightL]; first | omega | (rw [bulk_0 (by assumption) (by assumption) (by assumption)]; rfl))); exact (hs.cst [(1, .ptr 1000 0), (3, vi ((bulk t + weightL (t.v.take 0) : Nat) : Int)), (4, vi ((0 : Nat) : Int))] [(1000, .var (encTree t))] (by first | rfl | (rw [e0_, e1_]; done) | (simp only [e0_, e1_]; done) | (simp only [e0_, e1_]; rfl))).rm [(1000, 1000)] (by kernel_rfl))
   rintro i hJ a w hs
   have hwt := weight_eq t
   have hle := weightL_le t.v i
   have hlen := weightL_len t.v
   rcases bt (decide ((i : Int) < (t.v.length : Int))) with b4 | b4
   ·skip
    have n4 := of_decide_eq_true b4
    have ht1 := weightL_take t.v i (by omega)
    have hle1 := weightL_le t.v (i + 1)
    refine wL hs hI [(11, ⟨[(6, ciA 143 [.agg (encTree (t.v.getD i (dflt .tree)))] [] [] (.val (vi ((weight (t.v.getD i (dflt .tree)) : Nat) : Int))))], [], []⟩)] [true] [1, 3, 4] [1000] (((tr 5 True) ∧ (ty b4) ∧ True) ∧ ((tr 4 ((0 ≤ (i : Int) ∧ (i : Int) < t.v.length) ∧ True ∧ (okArgs [.agg (encTree (t.v.getD i (dflt .tree)))]) ∧ (InR .i64 (((bulk t + weightL (t.v.take i) : Nat) : Int) + ((weight (t.v.getD i (dflt .tree)) : Nat) : Int))) ∧ True ∧ True)) ∧ True ∧ (InR .i64 ((i : Int) + 1)) ∧ True ∧ True)) .norm [(1, .ptr 1000 0), (3, vi (((bulk t + weightL (t.v.take i) : Nat) : Int) + ((weight (t.v.getD i (dflt .tree)) : Nat) : Int))), (4, vi ((i : Int) + 1))] [(1000, .var (encTree t))] ⟨⟨⟨ent143, ih _ (by have h1 := nodes_eq t; have h2 := nodes_at (l := t.v) (i := i) (by omega); omega) (by have := weightL_take t.v i (by omega); have := weightL_le t.v (i + 1); have := nodesL_take t.v i (by omega); have := nodesL_le t.v (i + 1); have := weight_eq t; have := nodes_eq t; omega)⟩, tv⟩, tv⟩ (by kernel_rfl) ⟨⟨tr_mk tv 5, b4, tv⟩, tr_mk (⟨(by omega), tv, rfl, (inR64 (by omega) (by omega)), tv, tv⟩) 4, tv, (inR64 (by omega) (by omega)), tv, tv⟩ (fun a w hs => ?_)
    refine then_norm ⟨i + 1, by omega, by omega, ?_⟩
    (have e0_ : (((bulk t + weightL (t.v.take i) : Nat) : Int) + ((weight (t.v.getD i (dflt .tree)) : Nat) : Int)) = (((bulk t + weightL (t.v.take (i + 1)) : Nat) : Int)) := (by first | rfl | (omega)); have e1_ : ((i : Int) + 1) = ((((i + 1) : Nat) : Int)) := (by first | rfl | (omega)); exact (hs.cst [(1, .ptr 1000 0), (3, vi ((bulk t + weightL (t.v.take (i + 1)) : Nat) : Int)), (4, vi (((i + 1) : Nat) : Int))] [(1000, .var (encTree t))] (by first | rfl | (rw [e0_, e1_]; done) | (simp only [e0_, e1_]; done) | (simp only [e0_, e1_]; rfl))).rm [(1000, 1000)] (by kernel_rfl))
   ·skip
    have n4 := of_decide_eq_false b4
    refine wN hs hI [false] [3] [] ((tr 5 True) ∧ ((ty b4) ∧ True)) (.exit 1) [(3, vi ((bulk t + weightL (t.v.take i) : Nat) : Int))] [] (by kernel_rfl) ⟨tr_mk tv 5, b4, tv⟩ (fun a w hs => ?_)
    refine then_exit ?_
    refine inb_hit ?_
    refine then_norm ?_
    refine wN hs hI [] [2] [] ((True ∧ True ∧ True) ∧ True) .ret [(2, vi ((bulk t + weightL (t.v.take i) : Nat) : Int))] [] (by kernel_rfl) ⟨⟨tv, tv, tv⟩, tv⟩ (fun a w hs => ?_)
    exact FnQ_cast (out := .val (vi ((bulk t + weightL (t.v.take i) : Nat) : Int))) (by have h1 := weight_eq t; have h2 : t.v.take i = t.v := List.take_of_length_le (by omega); rw [h2, ← h1]) (ret_ok [] hs ⟨by kernel_rfl, rfl⟩)
  ·skip
   have n3 := beq_eq_false_iff_ne.1 b3
   rcases bt (t.kind == 5) with b5 | b5
   ·skip
    have n5 := eq_of_beq b5
    have hq := bulk_5 (t := t) (by assumption)
    refine wN hs hI [false, false, true] [1, 3] [1000] ((True ∧ True ∧ True) ∧ ((True ∧ True ∧ True) ∧ (ty b1) ∧ ((True ∧ True ∧ True) ∧ (ty b3) ∧ True ∧ True ∧ True) ∧ (ty b5) ∧ (tr 4 ((InR .i64 (1 + (t.s.size : Int))) ∧ True ∧ True)))) .norm [(1, .ptr 1000 0), (3, vi (1 + (t.s.size : Int)))] [(1000, .var (encTree t))] (by kernel_rfl) ⟨⟨tv, tv, tv⟩, ⟨tv, tv, tv⟩, b1, ⟨⟨tv, tv, tv⟩, b3, tv, tv, tv⟩, b5, tr_mk (⟨(inR64 (by omega) (by omega)), tv, tv⟩) 4⟩ (fun a w hs => ?_)
    refine then_norm ?_
    refine wp_seq ?_
    refine wp_seq ?_
    refine wN hs hI [] [1, 3, 4] [1000] (True ∧ True) .norm [(1, .ptr 1000 0), (3, vi (1 + (t.s.size : Int))), (4, vi 0)] [(1000, .var (encTree t))] (by kernel_rfl) ⟨tv, tv⟩ (fun a w hs => ?_)
    refine then_norm ?_
    refine wp_block ?_
    refine loop_L (N := Tryz.f143.ntmps) (w0 := w0) (ow := noO fz) (α := Nat) (fun p => [(1, .ptr 1000 0), (3, vi ((bulk t + weightL (t.v.take p) : Nat) : Int)), (4, vi (p : Int))]) (fun p => [(1000, .var (encTree t))]) (fun p => p ≤ t.v.length) (fun p => t.v.length - p) 0 ?_ ?_ ?_
    ·exact Nat.zero_le _
    ·(have e0_ : (1 + (t.s.size : Int)) = (((bulk t + weightL (t.v.take 0) : Nat) : Int)) := (by first | rfl | (simp only [List.take_zero, weightL]; first | omega | (rw [bulk_0 (by assumption) (by assumption) (by assumption)]; rfl))); have e1_ : (0) = (((0 : Nat) : Int)) := (by first | rfl | (simp only [List.take_zero, weightL]; first | omega | (rw [bulk_0 (by assumption) (by assumption) (by assumption)]; rfl))); exact (hs.cst [(1, .ptr 1000 0), (3, vi ((bulk t + weightL (t.v.take 0) : Nat) : Int)), (4, vi ((0 : Nat) : Int))] [(1000, .var (encTree t))] (by first | rfl | (rw [e0_, e1_]; done) | (simp only [e0_, e1_]; done) | (simp only [e0_, e1_]; rfl))).rm [(1000, 1000)] (by kernel_rfl))
    rintro i hJ a w hs
    have hwt := weight_eq t
    have hle := weightL_le t.v i
    have hlen := weightL_len t.v
    rcases bt (decide ((i : Int) < (t.v.length : Int))) with b6 | b6
    ·skip
     have n6 := of_decide_eq_true b6
     have ht1 := weightL_take t.v i (by omega)
     have hle1 := weightL_le t.v (i + 1)
     refine wL hs hI [(11, ⟨[(6, ciA 143 [.agg (encTree (t.v.getD i (dflt .tree)))] [] [] (.val (vi ((weight (t.v.getD i (dflt .tree)) : Nat) : Int))))], [], []⟩)] [true] [1, 3, 4] [1000] (((tr 5 True) ∧ (ty b6) ∧ True) ∧ ((tr 4 ((0 ≤ (i : Int) ∧ (i : Int) < t.v.length) ∧ True ∧ (okArgs [.agg (encTree (t.v.getD i (dflt .tree)))]) ∧ (InR .i64 (((bulk t + weightL (t.v.take i) : Nat) : Int) + ((weight (t.v.getD i (dflt .tree)) : Nat) : Int))) ∧ True ∧ True)) ∧ True ∧ (InR .i64 ((i : Int) + 1)) ∧ True ∧ True)) .norm [(1, .ptr 1000 0), (3, vi (((bulk t + weightL (t.v.take i) : Nat) : Int) + ((weight (t.v.getD i (dflt .tree)) : Nat) : Int))), (4, vi ((i : Int) + 1))] [(1000, .var (encTree t))] ⟨⟨⟨ent143, ih _ (by have h1 := nodes_eq t; have h2 := nodes_at (l := t.v) (i := i) (by omega); omega) (by have := weightL_take t.v i (by omega); have := weightL_le t.v (i + 1); have := nodesL_take t.v i (by omega); have := nodesL_le t.v (i + 1); have := weight_eq t; have := nodes_eq t; omega)⟩, tv⟩, tv⟩ (by kernel_rfl) ⟨⟨tr_mk tv 5, b6, tv⟩, tr_mk (⟨(by omega), tv, rfl, (inR64 (by omega) (by omega)), tv, tv⟩) 4, tv, (inR64 (by omega) (by omega)), tv, tv⟩ (fun a w hs => ?_)
     refine then_norm ⟨i + 1, by omega, by omega, ?_⟩
     (have e0_ : (((bulk t + weightL (t.v.take i) : Nat) : Int) + ((weight (t.v.getD i (dflt .tree)) : Nat) : Int)) = (((bulk t + weightL (t.v.take (i + 1)) : Nat) : Int)) := (by first | rfl | (omega)); have e1_ : ((i : Int) + 1) = ((((i + 1) : Nat) : Int)) := (by first | rfl | (omega)); exact (hs.cst [(1, .ptr 1000 0), (3, vi ((bulk t + weightL (t.v.take (i + 1)) : Nat) : Int)), (4, vi (((i + 1) : Nat) : Int))] [(1000, .var (encTree t))] (by first | rfl | (rw [e0_, e1_]; done) | (simp only [e0_, e1_]; done) | (simp only [e0_, e1_]; rfl))).rm [(1000, 1000)] (by kernel_rfl))
    ·skip
     have n6 := of_decide_eq_false b6
     refine wN hs hI [false] [3] [] ((tr 5 True) ∧ ((ty b6) ∧ True)) (.exit 1) [(3, vi ((bulk t + weightL (t.v.take i) : Nat) : Int))] [] (by kernel_rfl) ⟨tr_mk tv 5, b6, tv⟩ (fun a w hs => ?_)
     refine then_exit ?_
     refine inb_hit ?_
     refine then_norm ?_
     refine wN hs hI [] [2] [] ((True ∧ True ∧ True) ∧ True) .ret [(2, vi ((bulk t + weightL (t.v.take i) : Nat) : Int))] [] (by kernel_rfl) ⟨⟨tv, tv, tv⟩, tv⟩ (fun a w hs => ?_)
     exact FnQ_cast (out := .val (vi ((bulk t + weightL (t.v.take i) : Nat) : Int))) (by have h1 := weight_eq t; have h2 : t.v.take i = t.v := List.take_of_length_le (by omega); rw [h2, ← h1]) (ret_ok [] hs ⟨by kernel_rfl, rfl⟩)
   ·skip
    have n5 := beq_eq_false_iff_ne.1 b5
    refine wN hs hI [false, false, false] [1, 3] [1000] ((True ∧ True ∧ True) ∧ ((True ∧ True ∧ True) ∧ (ty b1) ∧ ((True ∧ True ∧ True) ∧ (ty b3) ∧ True ∧ True ∧ True) ∧ (ty b5) ∧ True)) .norm [(1, .ptr 1000 0), (3, vi 1)] [(1000, .var (encTree t))] (by kernel_rfl) ⟨⟨tv, tv, tv⟩, ⟨tv, tv, tv⟩, b1, ⟨⟨tv, tv, tv⟩, b3, tv, tv, tv⟩, b5, tv⟩ (fun a w hs => ?_)
    refine then_norm ?_
    refine wp_seq ?_
    refine wp_seq ?_
    refine wN hs hI [] [1, 3, 4] [1000] (True ∧ True) .norm [(1, .ptr 1000 0), (3, vi 1), (4, vi 0)] [(1000, .var (encTree t))] (by kernel_rfl) ⟨tv, tv⟩ (fun a w hs => ?_)
    refine then_norm ?_
    refine wp_block ?_
    refine loop_L (N := Tryz.f143.ntmps) (w0 := w0) (ow := noO fz) (α := Nat) (fun p => [(1, .ptr 1000 0), (3, vi ((bulk t + weightL (t.v.take p) : Nat) : Int)), (4, vi (p : Int))]) (fun p => [(1000, .var (encTree t))]) (fun p => p ≤ t.v.length) (fun p => t.v.length - p) 0 ?_ ?_ ?_
    ·exact Nat.zero_le _
    ·(have e0_ : (1) = (((bulk t + weightL (t.v.take 0) : Nat) : Int)) := (by first | rfl | (simp only [List.take_zero, weightL]; first | omega | (rw [bulk_0 (by assumption) (by assumption) (by assumption)]; rfl))); have e1_ : (0) = (((0 : Nat) : Int)) := (by first | rfl | (simp only [List.take_zero, weightL]; first | omega | (rw [bulk_0 (by assumption) (by assumption) (by assumption)]; rfl))); exact (hs.cst [(1, .ptr 1000 0), (3, vi ((bulk t + weightL (t.v.take 0) : Nat) : Int)), (4, vi ((0 : Nat) : Int))] [(1000, .var (encTree t))] (by first | rfl | (rw [e0_, e1_]; done) | (simp only [e0_, e1_]; done) | (simp only [e0_, e1_]; rfl))).rm [(1000, 1000)] (by kernel_rfl))
    rintro i hJ a w hs
    have hwt := weight_eq t
    have hle := weightL_le t.v i
    have hlen := weightL_len t.v
    rcases bt (decide ((i : Int) < (t.v.length : Int))) with b7 | b7
    ·skip
     have n7 := of_decide_eq_true b7
     have ht1 := weightL_take t.v i (by omega)
     have hle1 := weightL_le t.v (i + 1)
     refine wL hs hI [(11, ⟨[(6, ciA 143 [.agg (encTree (t.v.getD i (dflt .tree)))] [] [] (.val (vi ((weight (t.v.getD i (dflt .tree)) : Nat) : Int))))], [], []⟩)] [true] [1, 3, 4] [1000] (((tr 5 True) ∧ (ty b7) ∧ True) ∧ ((tr 4 ((0 ≤ (i : Int) ∧ (i : Int) < t.v.length) ∧ True ∧ (okArgs [.agg (encTree (t.v.getD i (dflt .tree)))]) ∧ (InR .i64 (((bulk t + weightL (t.v.take i) : Nat) : Int) + ((weight (t.v.getD i (dflt .tree)) : Nat) : Int))) ∧ True ∧ True)) ∧ True ∧ (InR .i64 ((i : Int) + 1)) ∧ True ∧ True)) .norm [(1, .ptr 1000 0), (3, vi (((bulk t + weightL (t.v.take i) : Nat) : Int) + ((weight (t.v.getD i (dflt .tree)) : Nat) : Int))), (4, vi ((i : Int) + 1))] [(1000, .var (encTree t))] ⟨⟨⟨ent143, ih _ (by have h1 := nodes_eq t; have h2 := nodes_at (l := t.v) (i := i) (by omega); omega) (by have := weightL_take t.v i (by omega); have := weightL_le t.v (i + 1); have := nodesL_take t.v i (by omega); have := nodesL_le t.v (i + 1); have := weight_eq t; have := nodes_eq t; omega)⟩, tv⟩, tv⟩ (by kernel_rfl) ⟨⟨tr_mk tv 5, b7, tv⟩, tr_mk (⟨(by omega), tv, rfl, (inR64 (by omega) (by omega)), tv, tv⟩) 4, tv, (inR64 (by omega) (by omega)), tv, tv⟩ (fun a w hs => ?_)
     refine then_norm ⟨i + 1, by omega, by omega, ?_⟩
     (have e0_ : (((bulk t + weightL (t.v.take i) : Nat) : Int) + ((weight (t.v.getD i (dflt .tree)) : Nat) : Int)) = (((bulk t + weightL (t.v.take (i + 1)) : Nat) : Int)) := (by first | rfl | (omega)); have e1_ : ((i : Int) + 1) = ((((i + 1) : Nat) : Int)) := (by first | rfl | (omega)); exact (hs.cst [(1, .ptr 1000 0), (3, vi ((bulk t + weightL (t.v.take (i + 1)) : Nat) : Int)), (4, vi (((i + 1) : Nat) : Int))] [(1000, .var (encTree t))] (by first | rfl | (rw [e0_, e1_]; done) | (simp only [e0_, e1_]; done) | (simp only [e0_, e1_]; rfl))).rm [(1000, 1000)] (by kernel_rfl))
    ·skip
     have n7 := of_decide_eq_false b7
     refine wN hs hI [false] [3] [] ((tr 5 True) ∧ ((ty b7) ∧ True)) (.exit 1) [(3, vi ((bulk t + weightL (t.v.take i) : Nat) : Int))] [] (by kernel_rfl) ⟨tr_mk tv 5, b7, tv⟩ (fun a w hs => ?_)
     refine then_exit ?_
     refine inb_hit ?_
     refine then_norm ?_
     refine wN hs hI [] [2] [] ((True ∧ True ∧ True) ∧ True) .ret [(2, vi ((bulk t + weightL (t.v.take i) : Nat) : Int))] [] (by kernel_rfl) ⟨⟨tv, tv, tv⟩, tv⟩ (fun a w hs => ?_)
     exact FnQ_cast (out := .val (vi ((bulk t + weightL (t.v.take i) : Nat) : Int))) (by have h1 := weight_eq t; have h2 : t.v.take i = t.v := List.take_of_length_le (by omega); rw [h2, ← h1]) (ret_ok [] hs ⟨by kernel_rfl, rfl⟩)
theorem con143 (t : Tree) (h : weight t < 4611686018427387904) : Con Tryz.prog I0 143 [.agg (encTree t)] (.val (vi ((weight t : Nat) : Int))) := con143_ (nodes t + 1) t (Nat.lt_succ_self _) h
theorem few_no {t : Tree} {i : Nat} (hi : i < t.v.length) (h : fewT (t.v.getD i (dflt .tree)) = false) : fewT t = false := by
 rw [fewT_eq, fewL_any, List.any_eq_true.2 ⟨_, getD_mem hi (dflt .tree), by rw [h]; rfl⟩]; simp
theorem few_yes {t : Tree} (h : ∀ j, j < t.v.length → fewT (t.v.getD j (dflt .tree)) = true) : decide ((t.v.length : Int) > 300) = !fewT t := by
 have h2 : (t.v.any fun t => !fewT t) = false := by
  rw [List.any_eq_false]
  intro x hx
  obtain ⟨j, hj, rfl⟩ := List.mem_iff_getElem.1 hx
  have := h j hj
  rw [List.getD_eq_getElem?_getD, List.getElem?_eq_getElem hj] at this
  simpa using this
 rw [fewT_eq, fewL_any, h2, Bool.eq_iff_iff]; simp
def fitF (t : Tree) (w : Int) : Bool := decide (((weight t : Nat) : Int) ≤ w) && (decide (((nodes t : Nat) : Int) ≤ 2000) && (decide (((depth t : Nat) : Int) ≤ 64) && fewT t))
theorem con144_ : ∀ (n : Nat) (t : Tree), nodes t < n → nodes t < 4611686018427387904 → Con Tryz.prog I0 144 [.agg (encTree t)] (.val (vb (!fewT t))) := by
 intro n
 induction n
 case zero => intro t hn; omega
 rename_i n ih
 intro t hn hw
 have hnl := nodesL_len t.v
 have hne := nodes_eq t
 refine con_of Tryz.func144 rfl (Nat.le_of_ble_eq_true rfl) stab (fun w0 fz a hI hs => ?_)
 refine wp_seq ?_
 refine wN hs hI [] [1] [1000] (True ∧ (True ∧ True)) .norm [(1, .ptr 1000 0)] [(1000, .var (encTree t))] (by kernel_rfl) ⟨tv, tv, tv⟩ (fun a w hs => ?_)
 refine then_norm ?_
 refine wp_seq ?_
 refine wp_seq ?_
 refine wN hs hI [] [1, 3] [1000] (True ∧ True) .norm [(1, .ptr 1000 0), (3, vi 0)] [(1000, .var (encTree t))] (by kernel_rfl) ⟨tv, tv⟩ (fun a w hs => ?_)
 refine then_norm ?_
 refine wp_block ?_
 refine loop_L (N := Tryz.f144.ntmps) (w0 := w0) (ow := noO fz) (α := Nat) (fun p => [(1, .ptr 1000 0), (3, vi (p : Int))]) (fun p => [(1000, .var (encTree t))]) (fun p => p ≤ t.v.length ∧ ∀ j, j < p → fewT (t.v.getD j (dflt .tree)) = true) (fun p => t.v.length - p) 0 ?_ ?_ ?_
 ·exact ⟨Nat.zero_le _, fun j hj => absurd hj (Nat.not_lt_zero _)⟩
 ·exact (hs.cst [(1, .ptr 1000 0), (3, vi ((0 : Nat) : Int))] [(1000, .var (encTree t))] rfl).rm [(1000, 1000)] (by kernel_rfl)
 rintro i hJ a w hs
 obtain ⟨hi, hall⟩ := hJ
 rcases bt (decide ((i : Int) < (t.v.length : Int))) with b1 | b1
 ·skip
  have n1 := of_decide_eq_true b1
  rcases bt (!fewT (t.v.getD i (dflt .tree))) with b2 | b2
  ·skip
   refine wL hs hI [(4, ⟨[(5, ciA 144 [.agg (encTree (t.v.getD i (dflt .tree)))] [] [] (.val (vb (!fewT (t.v.getD i (dflt .tree))))))], [], []⟩)] [true, true] [2] [] (((tr 5 True) ∧ (ty b1) ∧ True) ∧ ((tr 3 ((0 ≤ (i : Int) ∧ (i : Int) < t.v.length) ∧ True ∧ (okArgs [.agg (encTree (t.v.getD i (dflt .tree)))]) ∧ True)) ∧ (ty b2) ∧ (True ∧ True) ∧ True)) .ret [(2, vb true)] [] ⟨⟨⟨ent144, ih _ (by have h1 := nodes_eq t; have h2 := nodes_at (l := t.v) (i := i) (by omega); omega) (by have h1 := nodes_eq t; have h2 := nodes_at (l := t.v) (i := i) (by omega); omega)⟩, tv⟩, tv⟩ (by kernel_rfl) ⟨⟨tr_mk tv 5, b1, tv⟩, tr_mk (⟨(by omega), tv, rfl, tv⟩) 3, b2, ⟨tv, tv⟩, tv⟩ (fun a w hs => ?_)
   refine then_ret ?_
   refine inb_ret ?_
   refine then_ret ?_
   exact FnQ_cast (out := .val (vb true)) (by rw [few_no (i := i) (by omega) (by simpa using b2)]; rfl) (ret_ok [] hs ⟨by kernel_rfl, rfl⟩)
  ·skip
   refine wL hs hI [(4, ⟨[(5, ciA 144 [.agg (encTree (t.v.getD i (dflt .tree)))] [] [] (.val (vb (!fewT (t.v.getD i (dflt .tree))))))], [], []⟩)] [true, false] [1, 3] [1000] (((tr 5 True) ∧ (ty b1) ∧ True) ∧ (((tr 3 ((0 ≤ (i : Int) ∧ (i : Int) < t.v.length) ∧ True ∧ (okArgs [.agg (encTree (t.v.getD i (dflt .tree)))]) ∧ True)) ∧ (ty b2) ∧ True) ∧ True ∧ (InR .i64 ((i : Int) + 1)) ∧ True ∧ True)) .norm [(1, .ptr 1000 0), (3, vi ((i : Int) + 1))] [(1000, .var (encTree t))] ⟨⟨⟨ent144, ih _ (by have h1 := nodes_eq t; have h2 := nodes_at (l := t.v) (i := i) (by omega); omega) (by have h1 := nodes_eq t; have h2 := nodes_at (l := t.v) (i := i) (by omega); omega)⟩, tv⟩, tv⟩ (by kernel_rfl) ⟨⟨tr_mk tv 5, b1, tv⟩, ⟨tr_mk (⟨(by omega), tv, rfl, tv⟩) 3, b2, tv⟩, tv, (inR64 (by omega) (by omega)), tv, tv⟩ (fun a w hs => ?_)
   refine then_norm ⟨i + 1, ⟨by omega, fun j hj => by rcases Nat.lt_succ_iff_lt_or_eq.1 hj with h | h; exact hall j h; subst h; simpa using b2⟩, by omega, ?_⟩
   (have e0_ : ((i : Int) + 1) = ((((i + 1) : Nat) : Int)) := (by first | rfl | (omega)); exact (hs.cst [(1, .ptr 1000 0), (3, vi (((i + 1) : Nat) : Int))] [(1000, .var (encTree t))] (by first | rfl | (rw [e0_]; done) | (simp only [e0_]; done) | (simp only [e0_]; rfl))).rm [(1000, 1000)] (by kernel_rfl))
 ·skip
  have n1 := of_decide_eq_false b1
  refine wN hs hI [false] [1] [1000] ((tr 5 True) ∧ ((ty b1) ∧ True)) (.exit 0) [(1, .ptr 1000 0)] [(1000, .var (encTree t))] (by kernel_rfl) ⟨tr_mk tv 5, b1, tv⟩ (fun a w hs => ?_)
  refine then_exit ?_
  refine inb_hit ?_
  refine then_norm ?_
  refine wN hs hI [] [2] [] ((tr 5 True) ∧ True) .ret [(2, vb (decide ((t.v.length : Int) > 300)))] [] (by kernel_rfl) ⟨tr_mk tv 5, tv⟩ (fun a w hs => ?_)
  exact FnQ_cast (out := .val (vb (decide ((t.v.length : Int) > 300)))) (by rw [few_yes (fun j hj => hall j (by omega))]) (ret_ok [] hs ⟨by kernel_rfl, rfl⟩)
theorem con87 (t : Tree) (w_ : Int) (hw : weight t < 4611686018427387904) (hn : nodes t < 4611686018427387904) : Con Tryz.prog I0 87 [.agg (encTree t), vi w_] (.val (vb (fitF t w_))) := by
 refine con_of Tryz.func87 rfl (Nat.le_of_ble_eq_true rfl) stab (fun w0 fz a hI hs => ?_)
 rcases bt (decide (((weight t : Nat) : Int) ≤ w_)) with b1 | b1
 ·skip
  have n1 := of_decide_eq_true b1
  rcases bt (decide (((nodes t : Nat) : Int) ≤ 2000)) with b2 | b2
  ·skip
   have n2 := of_decide_eq_true b2
   rcases bt (decide (((depth t : Nat) : Int) ≤ 64)) with b3 | b3
   ·skip
    have n3 := of_decide_eq_true b3
    refine wL hs hI [(1, ⟨[(1, ciA 143 [.agg (encTree t)] [] [] (.val (vi ((weight t : Nat) : Int)))), (6, ciA 64 [.agg (encTree t)] [] [] (.val (vi ((nodes t : Nat) : Int)))), (11, ciA 66 [.agg (encTree t)] [] [] (.val (vi ((depth t : Nat) : Int)))), (16, ciA 144 [.agg (encTree t)] [] [] (.val (vb (!fewT t))))], gg [5, 6, 7, 1008, 10, 11, 12, 1013, 15, 16, 17, 1018] [], []⟩)] [] [4] [] ((True ∧ True ∧ True) ∧ ((True ∧ (okArgs [.agg (encTree t)]) ∧ (tr 3 ((ty b1) ∧ True ∧ (ty b1) ∧ (okArgs [.agg (encTree t)]) ∧ (rp 2 b1 ((ty b2) ∧ True ∧ (ty b2) ∧ (okArgs [.agg (encTree t)]) ∧ (rp 2 b2 ((ty b3) ∧ True ∧ (ty b3) ∧ (okArgs [.agg (encTree t)]) ∧ (rp 2 b3 True)))))))) ∧ True)) .ret [(4, vb (!(!fewT t)))] [] ⟨⟨⟨ent143, con143 t (by omega)⟩, ⟨⟨ent64, con64 t (by omega)⟩, ⟨⟨ent66, con66 t (by omega)⟩, ⟨⟨ent144, con144_ (nodes t + 1) t (Nat.lt_succ_self _) (by omega)⟩, tv⟩⟩⟩⟩, tv⟩ (by kernel_rfl) ⟨⟨tv, tv, tv⟩, ⟨tv, rfl, tr_mk (⟨b1, tv, b1, rfl, rp_mk (⟨b2, tv, b2, rfl, rp_mk (⟨b3, tv, b3, rfl, rp_mk (tv) 2⟩) 2⟩) 2⟩) 3⟩, tv⟩ (fun a w hs => ?_)
    exact FnQ_cast (out := .val (vb (!(!fewT t)))) (by simp only [fitF, b1, b2, b3, Bool.true_and, Bool.false_and, Bool.not_true, Bool.not_false, Bool.and_false, Bool.and_true, Bool.not_not]) (ret_ok [] hs ⟨by kernel_rfl, rfl⟩)
   ·skip
    have n3 := of_decide_eq_false b3
    refine wL hs hI [(1, ⟨[(1, ciA 143 [.agg (encTree t)] [] [] (.val (vi ((weight t : Nat) : Int)))), (6, ciA 64 [.agg (encTree t)] [] [] (.val (vi ((nodes t : Nat) : Int)))), (11, ciA 66 [.agg (encTree t)] [] [] (.val (vi ((depth t : Nat) : Int))))], gg [5, 6, 7, 1008, 10, 11, 12, 1013] [15, 16, 17, 1018], []⟩)] [] [4] [] ((True ∧ True ∧ True) ∧ ((True ∧ (okArgs [.agg (encTree t)]) ∧ (tr 3 ((ty b1) ∧ True ∧ (ty b1) ∧ (okArgs [.agg (encTree t)]) ∧ (rp 2 b1 ((ty b2) ∧ True ∧ (ty b2) ∧ (okArgs [.agg (encTree t)]) ∧ (rp 2 b2 ((ty b3) ∧ (ty b3) ∧ (ty b3) ∧ (ty b3) ∧ True ∧ True))))))) ∧ True)) .ret [(4, vb false)] [] ⟨⟨⟨ent143, con143 t (by omega)⟩, ⟨⟨ent64, con64 t (by omega)⟩, ⟨⟨ent66, con66 t (by omega)⟩, tv⟩⟩⟩, tv⟩ (by kernel_rfl) ⟨⟨tv, tv, tv⟩, ⟨tv, rfl, tr_mk (⟨b1, tv, b1, rfl, rp_mk (⟨b2, tv, b2, rfl, rp_mk (⟨b3, b3, b3, b3, tv, tv⟩) 2⟩) 2⟩) 3⟩, tv⟩ (fun a w hs => ?_)
    exact FnQ_cast (out := .val (vb false)) (by simp only [fitF, b1, b2, b3, Bool.true_and, Bool.false_and, Bool.not_true, Bool.not_false, Bool.and_false, Bool.and_true, Bool.not_not]) (ret_ok [] hs ⟨by kernel_rfl, rfl⟩)
  ·skip
   have n2 := of_decide_eq_false b2
   refine wL hs hI [(1, ⟨[(1, ciA 143 [.agg (encTree t)] [] [] (.val (vi ((weight t : Nat) : Int)))), (6, ciA 64 [.agg (encTree t)] [] [] (.val (vi ((nodes t : Nat) : Int))))], gg [5, 6, 7, 1008] [10, 11, 12, 1013, 15, 16, 17, 1018], []⟩)] [] [4] [] ((True ∧ True ∧ True) ∧ ((True ∧ (okArgs [.agg (encTree t)]) ∧ (tr 3 ((ty b1) ∧ True ∧ (ty b1) ∧ (okArgs [.agg (encTree t)]) ∧ (rp 2 b1 ((ty b2) ∧ (ty b2) ∧ (ty b2) ∧ (ty b2) ∧ True ∧ (false = false) ∧ (false = false) ∧ (false = false) ∧ (false = false) ∧ True ∧ True))))) ∧ True)) .ret [(4, vb false)] [] ⟨⟨⟨ent143, con143 t (by omega)⟩, ⟨⟨ent64, con64 t (by omega)⟩, tv⟩⟩, tv⟩ (by kernel_rfl) ⟨⟨tv, tv, tv⟩, ⟨tv, rfl, tr_mk (⟨b1, tv, b1, rfl, rp_mk (⟨b2, b2, b2, b2, tv, rfl, rfl, rfl, rfl, tv, tv⟩) 2⟩) 3⟩, tv⟩ (fun a w hs => ?_)
   exact FnQ_cast (out := .val (vb false)) (by simp only [fitF, b1, b2, Bool.true_and, Bool.false_and, Bool.not_true, Bool.not_false, Bool.and_false, Bool.and_true, Bool.not_not]) (ret_ok [] hs ⟨by kernel_rfl, rfl⟩)
 ·skip
  have n1 := of_decide_eq_false b1
  refine wL hs hI [(1, ⟨[(1, ciA 143 [.agg (encTree t)] [] [] (.val (vi ((weight t : Nat) : Int))))], gg [] [5, 6, 7, 1008, 10, 11, 12, 1013, 15, 16, 17, 1018], []⟩)] [] [4] [] ((True ∧ True ∧ True) ∧ ((True ∧ (okArgs [.agg (encTree t)]) ∧ (tr 3 ((ty b1) ∧ (ty b1) ∧ (ty b1) ∧ (ty b1) ∧ True ∧ (false = false) ∧ (false = false) ∧ (false = false) ∧ (false = false) ∧ True ∧ (false = false) ∧ (false = false) ∧ (false = false) ∧ (false = false) ∧ True ∧ True))) ∧ True)) .ret [(4, vb false)] [] ⟨⟨⟨ent143, con143 t (by omega)⟩, tv⟩, tv⟩ (by kernel_rfl) ⟨⟨tv, tv, tv⟩, ⟨tv, rfl, tr_mk (⟨b1, b1, b1, b1, tv, rfl, rfl, rfl, rfl, tv, rfl, rfl, rfl, rfl, tv, tv⟩) 3⟩, tv⟩ (fun a w hs => ?_)
  exact FnQ_cast (out := .val (vb false)) (by simp only [fitF, b1, Bool.true_and, Bool.false_and, Bool.not_true, Bool.not_false, Bool.and_false, Bool.and_true, Bool.not_not]) (ret_ok [] hs ⟨by kernel_rfl, rfl⟩)
theorem con86 (t v : Tree) (l : List (List ByteArray)) (ht1 : validT t = true) (ht2 : validT v = true) (ht3 : checkF l = true) : Con Tryz.prog I0 86 [.agg (encTree t), .row .strs l, .agg (encTree v)] (.val (.agg (encTree (apAll t (normF l) v)))) := by
 have hcp := check_paths ht3
 have hnl := normF_len l
 have hvv := valid_nodes ht2
 refine con_of Tryz.func86 rfl (Nat.le_of_ble_eq_true rfl) stab (fun w0 fz a hI hs => ?_)
 refine wp_seq ?_
 refine wN hs hI [] [1, 3, 5, 6] [1000, 1001, 1002] (tr 3 True) .norm [(1, .row .strs l), (3, .ptr 1000 0), (5, .ptr 1001 0), (6, .ptr 1002 0)] [(1000, .var (encTree t)), (1001, .var (encTree v)), (1002, .var [vi 0, vb false, vb false, nilv, vi 0, vs (ba []), nilv, nilv])] (by kernel_rfl) (tr_mk tv 3) (fun a w hs => ?_)
 refine then_norm ?_
 refine wp_seq ?_
 refine wL hs hI [(1, ⟨[(1, ciA 43 [.row .strs l] [] [] (.val (.row .strs (normF l))))], [], []⟩)] [] [3, 5, 6, 7] [1000, 1001, 1002] (True ∧ ((okArgs [.row .strs l]) ∧ True ∧ True)) .norm [(3, .ptr 1000 0), (5, .ptr 1001 0), (6, .ptr 1002 0), (7, .row .strs (normF l))] [(1000, .var (encTree t)), (1001, .var (encTree v)), (1002, .var [vi 0, vb false, vb false, nilv, vi 0, vs (ba []), nilv, nilv])] ⟨⟨⟨ent43, con43 l (by omega) (fun p hp => by have := (hcp.2 p hp).2; omega)⟩, tv⟩, tv⟩ (by kernel_rfl) ⟨tv, rfl, tv, tv⟩ (fun a w hs => ?_)
 refine then_norm ?_
 refine wp_seq ?_
 refine wp_seq ?_
 refine wN hs hI [] [3, 5, 6, 7, 8] [1000, 1001, 1002] (True ∧ True) .norm [(3, .ptr 1000 0), (5, .ptr 1001 0), (6, .ptr 1002 0), (7, .row .strs (normF l)), (8, vi 0)] [(1000, .var (encTree t)), (1001, .var (encTree v)), (1002, .var [vi 0, vb false, vb false, nilv, vi 0, vs (ba []), nilv, nilv])] (by kernel_rfl) ⟨tv, tv⟩ (fun a w hs => ?_)
 refine then_norm ?_
 refine wp_block ?_
 refine loop_L (N := Tryz.f86.ntmps) (w0 := w0) (ow := noO fz) (α := Nat) (fun p => [(3, .ptr 90000001 0), (5, .ptr 1001 0), (6, .ptr 1002 0), (7, .row .strs (normF l)), (8, vi (p : Int))]) (fun p => [(1001, .var (encTree v)), (1002, .var [vi 0, vb false, vb false, nilv, vi 0, vs (ba []), nilv, nilv]), (90000001, .var (encTree (apTo v t (normF l) p)))]) (fun p => p ≤ (normF l).length) (fun p => (normF l).length - p) 0 ?_ ?_ ?_
 ·exact Nat.zero_le _
 ·exact (hs.cst [(3, .ptr 1000 0), (5, .ptr 1001 0), (6, .ptr 1002 0), (7, .row .strs (normF l)), (8, vi ((0 : Nat) : Int))] [(1000, .var (encTree (apTo v t (normF l) 0))), (1001, .var (encTree v)), (1002, .var [vi 0, vb false, vb false, nilv, vi 0, vs (ba []), nilv, nilv])] rfl).rm [(1001, 1001), (1002, 1002), (90000001, 1000)] (by kernel_rfl)
 rintro i hJ a w hs
 have hnn := to_nodes ht1 ht2 ht3 i hJ
 have hpi : i < (normF l).length → 0 < ((normF l).getD i (dflt .strs)).length ∧ ((normF l).getD i (dflt .strs)).length ≤ 63 := fun h => hcp.2 _ (normF_mem (getD_mem h _))
 rcases bt (decide ((i : Int) < ((normF l).length : Int))) with b1 | b1
 ·skip
  have n1 := of_decide_eq_true b1
  rcases bt ((getF ((normF l).getD i (dflt .strs)) v).2) with b2 | b2
  ·skip
   refine wL hs hI [(5, ⟨[(5, ciA 27 [.agg (encTree v), .row .str ((normF l).getD i (dflt .strs))] [] [] (.val (.tup [.agg (encTree ((getF ((normF l).getD i (dflt .strs)) v).1)), vb ((getF ((normF l).getD i (dflt .strs)) v).2)])))], [], []⟩), (7, ⟨[(6, ciA 141 [.agg (encTree (apTo v t (normF l) i)), .row .str ((normF l).getD i (dflt .strs)), .agg (encTree ((getF ((normF l).getD i (dflt .strs)) v).1))] [] [] (.val (.agg (encTree (setP ((normF l).getD i (dflt .strs)) (apTo v t (normF l) i) ((getF ((normF l).getD i (dflt .strs)) v).1))))))], [], []⟩)] [true, true] [3, 5, 6, 7, 8] [1001, 1002, 90000001] (((tr 4 True) ∧ (ty b1) ∧ True) ∧ (((tr 3 ((0 ≤ (i : Int) ∧ (i : Int) < (normF l).length) ∧ True ∧ (okArgs [.agg (encTree v), .row .str ((normF l).getD i (dflt .strs))]) ∧ (tr 6 True))) ∧ (True ∧ True) ∧ (ty b2) ∧ (tr 3 ((0 ≤ (i : Int) ∧ (i : Int) < (normF l).length) ∧ True ∧ True ∧ (okArgs [.agg (encTree (apTo v t (normF l) i)), .row .str ((normF l).getD i (dflt .strs)), .agg (encTree ((getF ((normF l).getD i (dflt .strs)) v).1))]) ∧ True ∧ True)) ∧ True) ∧ True ∧ (InR .i64 ((i : Int) + 1)) ∧ True ∧ True)) .norm [(3, .ptr 90000001 0), (5, .ptr 1001 0), (6, .ptr 1002 0), (7, .row .strs (normF l)), (8, vi ((i : Int) + 1))] [(1001, .var (encTree v)), (1002, .var [vi 0, vb false, vb false, nilv, vi 0, vs (ba []), nilv, nilv]), (90000001, .var (encTree (setP ((normF l).getD i (dflt .strs)) (apTo v t (normF l) i) ((getF ((normF l).getD i (dflt .strs)) v).1))))] ⟨⟨⟨ent27, con27 _ _ (by omega) (by omega)⟩, tv⟩, ⟨⟨⟨ent141, con141_ _ _ _ _ (Nat.lt_succ_self _) (by omega)⟩, tv⟩, tv⟩⟩ (by kernel_rfl) ⟨⟨tr_mk tv 4, b1, tv⟩, ⟨tr_mk (⟨(by omega), tv, rfl, tr_mk tv 6⟩) 3, ⟨tv, tv⟩, b2, tr_mk (⟨(by omega), tv, tv, rfl, tv, tv⟩) 3, tv⟩, tv, (inR64 (by omega) (by omega)), tv, tv⟩ (fun a w hs => ?_)
   refine then_norm ⟨i + 1, by omega, by omega, ?_⟩
   (have e0_ : ((i : Int) + 1) = ((((i + 1) : Nat) : Int)) := (by first | rfl | (omega)); have e1_ : ((setP ((normF l).getD i (dflt .strs)) (apTo v t (normF l) i) ((getF ((normF l).getD i (dflt .strs)) v).1))) = ((apTo v t (normF l) (i + 1))) := (by first | rfl | (rw [do_set (i := i) (by omega) b2])); exact (hs.cst [(3, .ptr 90000001 0), (5, .ptr 1001 0), (6, .ptr 1002 0), (7, .row .strs (normF l)), (8, vi (((i + 1) : Nat) : Int))] [(1001, .var (encTree v)), (1002, .var [vi 0, vb false, vb false, nilv, vi 0, vs (ba []), nilv, nilv]), (90000001, .var (encTree (apTo v t (normF l) (i + 1))))] (by first | rfl | (rw [e0_, e1_]; done) | (simp only [e0_, e1_]; done) | (simp only [e0_, e1_]; rfl))).rm [(1001, 1001), (1002, 1002), (90000001, 90000001)] (by kernel_rfl))
  ·skip
   rcases bt ((getF ((normF l).getD i (dflt .strs)) (apTo v t (normF l) i)).2) with b3 | b3
   ·skip
    refine wL hs hI [(5, ⟨[(5, ciA 27 [.agg (encTree v), .row .str ((normF l).getD i (dflt .strs))] [] [] (.val (.tup [.agg (encTree ((getF ((normF l).getD i (dflt .strs)) v).1)), vb ((getF ((normF l).getD i (dflt .strs)) v).2)])))], [], []⟩), (8, ⟨[(5, ciA 27 [.agg (encTree (apTo v t (normF l) i)), .row .str ((normF l).getD i (dflt .strs))] [] [] (.val (.tup [.agg (encTree ((getF ((normF l).getD i (dflt .strs)) (apTo v t (normF l) i)).1)), vb ((getF ((normF l).getD i (dflt .strs)) (apTo v t (normF l) i)).2)])))], [], []⟩), (10, ⟨[(5, ciA 142 [.agg (encTree (apTo v t (normF l) i)), .row .str ((normF l).getD i (dflt .strs))] [] [] (.val (.agg (encTree (unsetP ((normF l).getD i (dflt .strs)) (apTo v t (normF l) i))))))], [], []⟩)] [true, false, true] [3, 5, 6, 7, 8] [1001, 1002, 90000001] (((tr 4 True) ∧ (ty b1) ∧ True) ∧ ((((tr 3 ((0 ≤ (i : Int) ∧ (i : Int) < (normF l).length) ∧ True ∧ (okArgs [.agg (encTree v), .row .str ((normF l).getD i (dflt .strs))]) ∧ (tr 6 True))) ∧ (True ∧ True) ∧ (ty b2) ∧ True) ∧ (tr 3 ((0 ≤ (i : Int) ∧ (i : Int) < (normF l).length) ∧ True ∧ (okArgs [.agg (encTree (apTo v t (normF l) i)), .row .str ((normF l).getD i (dflt .strs))]) ∧ (tr 6 True))) ∧ (True ∧ True) ∧ (ty b3) ∧ (tr 3 ((0 ≤ (i : Int) ∧ (i : Int) < (normF l).length) ∧ True ∧ (okArgs [.agg (encTree (apTo v t (normF l) i)), .row .str ((normF l).getD i (dflt .strs))]) ∧ True ∧ True))) ∧ True ∧ (InR .i64 ((i : Int) + 1)) ∧ True ∧ True)) .norm [(3, .ptr 90000001 0), (5, .ptr 1001 0), (6, .ptr 1002 0), (7, .row .strs (normF l)), (8, vi ((i : Int) + 1))] [(1001, .var (encTree v)), (1002, .var [vi 0, vb false, vb false, nilv, vi 0, vs (ba []), nilv, nilv]), (90000001, .var (encTree (unsetP ((normF l).getD i (dflt .strs)) (apTo v t (normF l) i))))] ⟨⟨⟨ent27, con27 _ _ (by omega) (by omega)⟩, tv⟩, ⟨⟨⟨ent27, con27 _ _ (by omega) (by omega)⟩, tv⟩, ⟨⟨⟨ent142, con142_ _ _ _ (Nat.lt_succ_self _) (by omega) (by omega)⟩, tv⟩, tv⟩⟩⟩ (by kernel_rfl) ⟨⟨tr_mk tv 4, b1, tv⟩, ⟨⟨tr_mk (⟨(by omega), tv, rfl, tr_mk tv 6⟩) 3, ⟨tv, tv⟩, b2, tv⟩, tr_mk (⟨(by omega), tv, rfl, tr_mk tv 6⟩) 3, ⟨tv, tv⟩, b3, tr_mk (⟨(by omega), tv, rfl, tv, tv⟩) 3⟩, tv, (inR64 (by omega) (by omega)), tv, tv⟩ (fun a w hs => ?_)
    refine then_norm ⟨i + 1, by omega, by omega, ?_⟩
    (have e0_ : ((i : Int) + 1) = ((((i + 1) : Nat) : Int)) := (by first | rfl | (omega)); have e1_ : ((unsetP ((normF l).getD i (dflt .strs)) (apTo v t (normF l) i))) = ((apTo v t (normF l) (i + 1))) := (by first | rfl | (rw [do_clear (i := i) (by omega) b2])); exact (hs.cst [(3, .ptr 90000001 0), (5, .ptr 1001 0), (6, .ptr 1002 0), (7, .row .strs (normF l)), (8, vi (((i + 1) : Nat) : Int))] [(1001, .var (encTree v)), (1002, .var [vi 0, vb false, vb false, nilv, vi 0, vs (ba []), nilv, nilv]), (90000001, .var (encTree (apTo v t (normF l) (i + 1))))] (by first | rfl | (rw [e0_, e1_]; done) | (simp only [e0_, e1_]; done) | (simp only [e0_, e1_]; rfl))).rm [(1001, 1001), (1002, 1002), (90000001, 90000001)] (by kernel_rfl))
   ·skip
    refine wL hs hI [(5, ⟨[(5, ciA 27 [.agg (encTree v), .row .str ((normF l).getD i (dflt .strs))] [] [] (.val (.tup [.agg (encTree ((getF ((normF l).getD i (dflt .strs)) v).1)), vb ((getF ((normF l).getD i (dflt .strs)) v).2)])))], [], []⟩), (8, ⟨[(5, ciA 27 [.agg (encTree (apTo v t (normF l) i)), .row .str ((normF l).getD i (dflt .strs))] [] [] (.val (.tup [.agg (encTree ((getF ((normF l).getD i (dflt .strs)) (apTo v t (normF l) i)).1)), vb ((getF ((normF l).getD i (dflt .strs)) (apTo v t (normF l) i)).2)])))], [], []⟩)] [true, false, false] [3, 5, 6, 7, 8] [1001, 1002, 90000001] (((tr 4 True) ∧ (ty b1) ∧ True) ∧ ((((tr 3 ((0 ≤ (i : Int) ∧ (i : Int) < (normF l).length) ∧ True ∧ (okArgs [.agg (encTree v), .row .str ((normF l).getD i (dflt .strs))]) ∧ (tr 6 True))) ∧ (True ∧ True) ∧ (ty b2) ∧ True) ∧ (tr 3 ((0 ≤ (i : Int) ∧ (i : Int) < (normF l).length) ∧ True ∧ (okArgs [.agg (encTree (apTo v t (normF l) i)), .row .str ((normF l).getD i (dflt .strs))]) ∧ (tr 6 True))) ∧ (True ∧ True) ∧ (ty b3) ∧ True) ∧ True ∧ (InR .i64 ((i : Int) + 1)) ∧ True ∧ True)) .norm [(3, .ptr 90000001 0), (5, .ptr 1001 0), (6, .ptr 1002 0), (7, .row .strs (normF l)), (8, vi ((i : Int) + 1))] [(1001, .var (encTree v)), (1002, .var [vi 0, vb false, vb false, nilv, vi 0, vs (ba []), nilv, nilv]), (90000001, .var (encTree (apTo v t (normF l) i)))] ⟨⟨⟨ent27, con27 _ _ (by omega) (by omega)⟩, tv⟩, ⟨⟨⟨ent27, con27 _ _ (by omega) (by omega)⟩, tv⟩, tv⟩⟩ (by kernel_rfl) ⟨⟨tr_mk tv 4, b1, tv⟩, ⟨⟨tr_mk (⟨(by omega), tv, rfl, tr_mk tv 6⟩) 3, ⟨tv, tv⟩, b2, tv⟩, tr_mk (⟨(by omega), tv, rfl, tr_mk tv 6⟩) 3, ⟨tv, tv⟩, b3, tv⟩, tv, (inR64 (by omega) (by omega)), tv, tv⟩ (fun a w hs => ?_)
    refine then_norm ⟨i + 1, by omega, by omega, ?_⟩
    (have e0_ : ((i : Int) + 1) = ((((i + 1) : Nat) : Int)) := (by first | rfl | (omega)); have e1_ : ((apTo v t (normF l) i)) = ((apTo v t (normF l) (i + 1))) := (by first | rfl | (rw [do_stay (i := i) (by omega) ht1 ht2 (List.length_pos_iff.1 (hpi (by omega)).1) b2 b3])); exact (hs.cst [(3, .ptr 90000001 0), (5, .ptr 1001 0), (6, .ptr 1002 0), (7, .row .strs (normF l)), (8, vi (((i + 1) : Nat) : Int))] [(1001, .var (encTree v)), (1002, .var [vi 0, vb false, vb false, nilv, vi 0, vs (ba []), nilv, nilv]), (90000001, .var (encTree (apTo v t (normF l) (i + 1))))] (by first | rfl | (rw [e0_, e1_]; done) | (simp only [e0_, e1_]; done) | (simp only [e0_, e1_]; rfl))).rm [(1001, 1001), (1002, 1002), (90000001, 90000001)] (by kernel_rfl))
 ·skip
  have n1 := of_decide_eq_false b1
  refine wN hs hI [false] [3, 6] [1002, 90000001] ((tr 4 True) ∧ ((ty b1) ∧ True)) (.exit 0) [(3, .ptr 90000001 0), (6, .ptr 1002 0)] [(1002, .var [vi 0, vb false, vb false, nilv, vi 0, vs (ba []), nilv, nilv]), (90000001, .var (encTree (apTo v t (normF l) i)))] (by kernel_rfl) ⟨tr_mk tv 4, b1, tv⟩ (fun a w hs => ?_)
  refine then_exit ?_
  refine inb_hit ?_
  refine then_norm ?_
  refine wN hs hI [] [6] [1002] ((True ∧ True ∧ True) ∧ True) .ret [(6, .ptr 1002 0)] [(1002, .var (encTree (apTo v t (normF l) i)))] (by kernel_rfl) ⟨⟨tv, tv, tv⟩, tv⟩ (fun a w hs => ?_)
  exact FnQ_cast (out := .val (.agg (encTree (apTo v t (normF l) i)))) (by obtain rfl : i = (normF l).length := (by omega); rw [apTo_all]) (ret_ok [] hs ⟨by kernel_rfl, rfl⟩)
theorem all_weight {t v : Tree} {l : List (List ByteArray)} (ht : validT t = true) (hv : validT v = true) (hc : checkF l = true) : weight (apAll t (normF l) v) ≤ 1000000000 := by
 have h := to_weight ht hv hc (normF l).length (Nat.le_refl _)
 rwa [apTo_all] at h
theorem all_nodes {t v : Tree} {l : List (List ByteArray)} (ht : validT t = true) (hv : validT v = true) (hc : checkF l = true) : nodes (apAll t (normF l) v) ≤ 200000 := by
 have h := to_nodes ht hv hc (normF l).length (Nat.le_refl _)
 rwa [apTo_all] at h
theorem apply_arg {t v : Tree} {l : List (List ByteArray)} {w : Int} (h : validT t = false ∨ validT v = false ∨ checkF l = false) : applyF t l (normF l) v w = (Tree.zero, 1) := if_pos h
theorem apply_fit {t v : Tree} {l : List (List ByteArray)} {w : Int} (ht : validT t = true) (hv : validT v = true) (hc : checkF l = true) (h : fitF (apAll t (normF l) v) w = true) : applyF t l (normF l) v w = (apAll t (normF l) v, 0) := by
 unfold fitF at h
 simp only [Bool.and_eq_true, decide_eq_true_eq] at h
 unfold applyF
 rw [if_neg (by rw [ht, hv, hc]; simp), if_neg (by
  rintro (a | a | a | a)
  ·omega
  ·omega
  ·omega
  ·rw [h.2.2.2] at a; cases a)]
theorem apply_big {t v : Tree} {l : List (List ByteArray)} {w : Int} (ht : validT t = true) (hv : validT v = true) (hc : checkF l = true) (h : fitF (apAll t (normF l) v) w = false) : applyF t l (normF l) v w = (Tree.zero, 4) := by
 unfold applyF
 rw [if_neg (by rw [ht, hv, hc]; simp), if_pos]
 unfold fitF at h
 simp only [Bool.and_eq_false_iff, decide_eq_false_iff_not] at h
 rcases h with h | h | h | h
 ·exact .inl (by omega)
 ·exact .inr (.inl (by omega))
 ·exact .inr (.inr (.inl (by omega)))
 ·exact .inr (.inr (.inr h))
theorem con34 (t v : Tree) (l : List (List ByteArray)) (wt : Int) (hft : fineT t) (hfv : fineT v) (hst : fineS t) (hsv : fineS v) (hsm : ∀ p ∈ l, ∀ x ∈ p, x.size < 4294967281) (hll : l.length < 4294967296) (hlp : ∀ p ∈ l, p.length < 4294967296) : Con Tryz.prog I0 34 [.agg (encTree t), .row .strs l, .agg (encTree v), vi wt] (.val (.tup [.agg (encTree ((applyF t l (normF l) v wt).1)), vi ((applyF t l (normF l) v wt).2)])) := by
 refine con_of Tryz.func34 rfl (Nat.le_of_ble_eq_true rfl) stab (fun w0 fz a hI hs => ?_)
 rcases bt (validT t) with b1 | b1
 ·skip
  rcases bt (validT v) with b2 | b2
  ·skip
   rcases bt (checkF l) with b3 | b3
   ·skip
    rcases bt (fitF (apAll t (normF l) v) wt) with b4 | b4
    ·skip
     refine wL hs hI [(1, ⟨[(1, ciA 44 [.agg (encTree t)] [] [] (.val (vb (validT t)))), (5, ciA 44 [.agg (encTree v)] [] [] (.val (vb (validT v)))), (10, ciA 40 [.row .strs l] [] [] (.val (vb (checkF l))))], gg [4, 5, 6, 9, 10, 11] [1007, 1012], []⟩), (3, ⟨[(3, ciA 86 [.agg (encTree t), .row .strs l, .agg (encTree v)] [] [] (.val (.agg (encTree (apAll t (normF l) v)))))], [], []⟩), (4, ⟨[(2, ciA 87 [.agg (encTree (apAll t (normF l) v)), vi wt] [] [] (.val (vb (fitF (apAll t (normF l) v) wt))))], [], []⟩)] [false, false] [8, 9] [1002] ((tr 4 True) ∧ (((True ∧ (okArgs [.agg (encTree t)]) ∧ True ∧ True ∧ (ty (ng1 b1)) ∧ True ∧ (ty (ng1 b1)) ∧ (okArgs [.agg (encTree v)]) ∧ (rp 2 (ng1 b1) ((ty (ng1 b2)) ∧ True ∧ (ty (ng1 b2)) ∧ (okArgs [.row .strs l]) ∧ (ty (ng1 b2)) ∧ True ∧ (ty (ng1 b2)) ∧ True))) ∧ (ty (ng1 b3)) ∧ True) ∧ (tr 3 ((okArgs [.agg (encTree t), .row .strs l, .agg (encTree v)]) ∧ True ∧ True ∧ True)) ∧ ((True ∧ True ∧ (okArgs [.agg (encTree (apAll t (normF l) v)), vi wt]) ∧ True ∧ True) ∧ (ty (ng1 b4)) ∧ True) ∧ (tr 3 True) ∧ True)) .ret [(8, .ptr 1002 0), (9, vi 0)] [(1002, .var (encTree (apAll t (normF l) v)))] ⟨⟨⟨ent44, con44 _ (by assumption) (by assumption)⟩, ⟨⟨ent44, con44 _ (by assumption) (by assumption)⟩, ⟨⟨ent40, con40 _ hsm hll hlp⟩, tv⟩⟩⟩, ⟨⟨⟨ent86, con86 t v l (by assumption) (by assumption) (by assumption)⟩, tv⟩, ⟨⟨⟨ent87, con87 _ _ (Nat.lt_of_le_of_lt (all_weight (by assumption) (by assumption) (by assumption)) (by decide)) (Nat.lt_of_le_of_lt (all_nodes (by assumption) (by assumption) (by assumption)) (by decide))⟩, tv⟩, tv⟩⟩⟩ (by kernel_rfl) ⟨tr_mk tv 4, ⟨⟨tv, rfl, tv, tv, (ng1 b1), tv, (ng1 b1), rfl, rp_mk (⟨(ng1 b2), tv, (ng1 b2), rfl, (ng1 b2), tv, (ng1 b2), tv⟩) 2⟩, (ng1 b3), tv⟩, tr_mk (⟨rfl, tv, tv, tv⟩) 3, ⟨⟨tv, tv, rfl, tv, tv⟩, (ng1 b4), tv⟩, tr_mk tv 3, tv⟩ (fun a w hs => ?_)
     exact FnQ_cast (out := .val (.tup [.agg (encTree (apAll t (normF l) v)), vi 0])) (by rw [apply_fit b1 b2 b3 b4]) (ret_ok [] hs ⟨by kernel_rfl, rfl⟩)
    ·skip
     refine wL hs hI [(1, ⟨[(1, ciA 44 [.agg (encTree t)] [] [] (.val (vb (validT t)))), (5, ciA 44 [.agg (encTree v)] [] [] (.val (vb (validT v)))), (10, ciA 40 [.row .strs l] [] [] (.val (vb (checkF l))))], gg [4, 5, 6, 9, 10, 11] [1007, 1012], []⟩), (3, ⟨[(3, ciA 86 [.agg (encTree t), .row .strs l, .agg (encTree v)] [] [] (.val (.agg (encTree (apAll t (normF l) v)))))], [], []⟩), (4, ⟨[(2, ciA 87 [.agg (encTree (apAll t (normF l) v)), vi wt] [] [] (.val (vb (fitF (apAll t (normF l) v) wt))))], [], []⟩)] [false, true] [8, 9] [1002] ((tr 4 True) ∧ (((True ∧ (okArgs [.agg (encTree t)]) ∧ True ∧ True ∧ (ty (ng1 b1)) ∧ True ∧ (ty (ng1 b1)) ∧ (okArgs [.agg (encTree v)]) ∧ (rp 2 (ng1 b1) ((ty (ng1 b2)) ∧ True ∧ (ty (ng1 b2)) ∧ (okArgs [.row .strs l]) ∧ (ty (ng1 b2)) ∧ True ∧ (ty (ng1 b2)) ∧ True))) ∧ (ty (ng1 b3)) ∧ True) ∧ (tr 3 ((okArgs [.agg (encTree t), .row .strs l, .agg (encTree v)]) ∧ True ∧ True ∧ True)) ∧ (True ∧ True ∧ (okArgs [.agg (encTree (apAll t (normF l) v)), vi wt]) ∧ True ∧ True) ∧ (ty (ng0 b4)) ∧ (tr 3 True) ∧ True)) .ret [(8, .ptr 1002 0), (9, vi 4)] [(1002, .var [vi 0, vb false, vb false, nilv, vi 0, vs (ba []), nilv, nilv])] ⟨⟨⟨ent44, con44 _ (by assumption) (by assumption)⟩, ⟨⟨ent44, con44 _ (by assumption) (by assumption)⟩, ⟨⟨ent40, con40 _ hsm hll hlp⟩, tv⟩⟩⟩, ⟨⟨⟨ent86, con86 t v l (by assumption) (by assumption) (by assumption)⟩, tv⟩, ⟨⟨⟨ent87, con87 _ _ (Nat.lt_of_le_of_lt (all_weight (by assumption) (by assumption) (by assumption)) (by decide)) (Nat.lt_of_le_of_lt (all_nodes (by assumption) (by assumption) (by assumption)) (by decide))⟩, tv⟩, tv⟩⟩⟩ (by kernel_rfl) ⟨tr_mk tv 4, ⟨⟨tv, rfl, tv, tv, (ng1 b1), tv, (ng1 b1), rfl, rp_mk (⟨(ng1 b2), tv, (ng1 b2), rfl, (ng1 b2), tv, (ng1 b2), tv⟩) 2⟩, (ng1 b3), tv⟩, tr_mk (⟨rfl, tv, tv, tv⟩) 3, ⟨tv, tv, rfl, tv, tv⟩, (ng0 b4), tr_mk tv 3, tv⟩ (fun a w hs => ?_)
     exact FnQ_cast (out := .val (.tup [.agg [vi 0, vb false, vb false, .row (.int .u32) ([]), vi 0, vs (ba []), .row .str ([]), .row .tree ([])], vi 4])) (by rw [apply_big b1 b2 b3 b4]; rfl) (ret_ok [] hs ⟨by kernel_rfl, rfl⟩)
   ·skip
    refine wL hs hI [(1, ⟨[(1, ciA 44 [.agg (encTree t)] [] [] (.val (vb (validT t)))), (5, ciA 44 [.agg (encTree v)] [] [] (.val (vb (validT v)))), (10, ciA 40 [.row .strs l] [] [] (.val (vb (checkF l))))], gg [4, 5, 6, 9, 10, 11] [1007, 1012], []⟩)] [true] [8, 9] [1002] ((tr 4 True) ∧ ((True ∧ (okArgs [.agg (encTree t)]) ∧ True ∧ True ∧ (ty (ng1 b1)) ∧ True ∧ (ty (ng1 b1)) ∧ (okArgs [.agg (encTree v)]) ∧ (rp 2 (ng1 b1) ((ty (ng1 b2)) ∧ True ∧ (ty (ng1 b2)) ∧ (okArgs [.row .strs l]) ∧ (ty (ng1 b2)) ∧ True ∧ (ty (ng1 b2)) ∧ True))) ∧ (ty (ng0 b3)) ∧ (tr 3 True) ∧ True)) .ret [(8, .ptr 1002 0), (9, vi 1)] [(1002, .var [vi 0, vb false, vb false, nilv, vi 0, vs (ba []), nilv, nilv])] ⟨⟨⟨ent44, con44 _ (by assumption) (by assumption)⟩, ⟨⟨ent44, con44 _ (by assumption) (by assumption)⟩, ⟨⟨ent40, con40 _ hsm hll hlp⟩, tv⟩⟩⟩, tv⟩ (by kernel_rfl) ⟨tr_mk tv 4, ⟨tv, rfl, tv, tv, (ng1 b1), tv, (ng1 b1), rfl, rp_mk (⟨(ng1 b2), tv, (ng1 b2), rfl, (ng1 b2), tv, (ng1 b2), tv⟩) 2⟩, (ng0 b3), tr_mk tv 3, tv⟩ (fun a w hs => ?_)
    exact FnQ_cast (out := .val (.tup [.agg [vi 0, vb false, vb false, .row (.int .u32) ([]), vi 0, vs (ba []), .row .str ([]), .row .tree ([])], vi 1])) (by rw [apply_arg (by first | exact .inl b3 | exact .inr (.inl b3) | exact .inr (.inr b3))]; rfl) (ret_ok [] hs ⟨by kernel_rfl, rfl⟩)
  ·skip
   refine wL hs hI [(1, ⟨[(1, ciA 44 [.agg (encTree t)] [] [] (.val (vb (validT t)))), (5, ciA 44 [.agg (encTree v)] [] [] (.val (vb (validT v))))], gg [4, 5, 6, 1012] [1007, 9, 10, 11], []⟩)] [true] [8, 9] [1002] ((tr 4 True) ∧ ((True ∧ (okArgs [.agg (encTree t)]) ∧ True ∧ True ∧ (ty (ng1 b1)) ∧ True ∧ (ty (ng1 b1)) ∧ (okArgs [.agg (encTree v)]) ∧ (rp 2 (ng1 b1) ((ty (ng0 b2)) ∧ (ty (ng0 b2)) ∧ (ty (ng0 b2)) ∧ (ty (ng0 b2)) ∧ True))) ∧ (true = true) ∧ (tr 3 True) ∧ True)) .ret [(8, .ptr 1002 0), (9, vi 1)] [(1002, .var [vi 0, vb false, vb false, nilv, vi 0, vs (ba []), nilv, nilv])] ⟨⟨⟨ent44, con44 _ (by assumption) (by assumption)⟩, ⟨⟨ent44, con44 _ (by assumption) (by assumption)⟩, tv⟩⟩, tv⟩ (by kernel_rfl) ⟨tr_mk tv 4, ⟨tv, rfl, tv, tv, (ng1 b1), tv, (ng1 b1), rfl, rp_mk (⟨(ng0 b2), (ng0 b2), (ng0 b2), (ng0 b2), tv⟩) 2⟩, rfl, tr_mk tv 3, tv⟩ (fun a w hs => ?_)
   exact FnQ_cast (out := .val (.tup [.agg [vi 0, vb false, vb false, .row (.int .u32) ([]), vi 0, vs (ba []), .row .str ([]), .row .tree ([])], vi 1])) (by rw [apply_arg (by first | exact .inl b2 | exact .inr (.inl b2) | exact .inr (.inr b2))]; rfl) (ret_ok [] hs ⟨by kernel_rfl, rfl⟩)
 ·skip
  refine wL hs hI [(1, ⟨[(1, ciA 44 [.agg (encTree t)] [] [] (.val (vb (validT t))))], gg [1007, 1012] [4, 5, 6, 9, 10, 11], []⟩)] [true] [8, 9] [1002] ((tr 4 True) ∧ ((True ∧ (okArgs [.agg (encTree t)]) ∧ True ∧ True ∧ (ty (ng0 b1)) ∧ (ty (ng0 b1)) ∧ (ty (ng0 b1)) ∧ (ty (ng0 b1)) ∧ True ∧ (true = true) ∧ (true = true) ∧ (true = true) ∧ (true = true) ∧ True) ∧ (true = true) ∧ (tr 3 True) ∧ True)) .ret [(8, .ptr 1002 0), (9, vi 1)] [(1002, .var [vi 0, vb false, vb false, nilv, vi 0, vs (ba []), nilv, nilv])] ⟨⟨⟨ent44, con44 _ (by assumption) (by assumption)⟩, tv⟩, tv⟩ (by kernel_rfl) ⟨tr_mk tv 4, ⟨tv, rfl, tv, tv, (ng0 b1), (ng0 b1), (ng0 b1), (ng0 b1), tv, rfl, rfl, rfl, rfl, tv⟩, rfl, tr_mk tv 3, tv⟩ (fun a w hs => ?_)
  exact FnQ_cast (out := .val (.tup [.agg [vi 0, vb false, vb false, .row (.int .u32) ([]), vi 0, vs (ba []), .row .str ([]), .row .tree ([])], vi 1])) (by rw [apply_arg (by first | exact .inl b1 | exact .inr (.inl b1) | exact .inr (.inr b1))]; rfl) (ret_ok [] hs ⟨by kernel_rfl, rfl⟩)
end Go.Proofs.YtondpnipoogoiaaGreatDoor.F
