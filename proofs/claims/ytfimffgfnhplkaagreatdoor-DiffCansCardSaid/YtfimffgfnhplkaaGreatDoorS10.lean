import Derived.Test.YtfimffgfnhplkaaGreatDoorS8
import Derived.Test.YtfimffgfnhplkaaGreatDoorS9
import Derived.Test.YtfimffgfnhplkaaGreatDoorS1
import Derived.Test.YtfimffgfnhplkaaGreatDoorS7
set_option maxRecDepth 100000
set_option linter.unusedVariables false
set_option linter.unusedSimpArgs false
namespace Go.Proofs.YtfimffgfnhplkaaGreatDoor.F
open Go Go.RowKit Go.Proofs.Tryz
def badT (t : Tree) : Bool := ((((t.kind != 2 && t.b) || (t.kind != 3 && !ownN t.n)) || ((t.kind != 4 && t.kind != 5) && !(t.s.toList == (ba []).toList))) || (t.kind != 7 && decide ((t.k.length : Int) > 0))) || ((t.kind != 7 && t.kind != 6) && decide ((t.v.length : Int) > 0))
def fieldsF (t : Tree) : Bool :=
 if badT t = true then false else if (t.kind == 1) = true then true else if (t.kind == 2) = true then true else if (t.kind == 3) = true then checkN t.n
 else if (t.kind == 4) = true then X.validAt t.s t.s.size 0 && decide ((t.s.size : Int) ≤ 2000) else if (t.kind == 5) = true then decide ((t.s.size : Int) ≤ 2000)
 else if (t.kind == 6) = true then decide ((t.v.length : Int) ≤ 300) else if (t.kind == 7) = true then namesOk t.k && ((t.k.length : Int) == (t.v.length : Int)) else false
theorem gt0 (n : Nat) : decide ((n : Int) > 0) = !((n : Int) == 0) := by
 rw [Bool.eq_iff_iff]; simp; omega
theorem names_300 {l : List ByteArray} (h : namesOk l = true) : (l.length : Int) ≤ 300 := by
 unfold namesOk at h; rw [Bool.and_eq_true] at h; exact of_decide_eq_true h.2
theorem fields_own (t : Tree) : fieldsF t = ownO t := by
 have e1 : ∀ (c : Bool) (x : Bool), (if c = true then false else x) = (!c && x) := fun c x => by cases c <;> rfl
 unfold fieldsF badT ownO truthO numO textO textOk keysO itemsO
 rw [e1, gt0, gt0]
 generalize ((t.k.length : Int) == 0) = K0
 generalize ((t.v.length : Int) == 0) = V0
 generalize (t.s.toList == (ba []).toList) = S0
 generalize ownN t.n = N0
 generalize t.b = B0
 by_cases h1 : t.kind = 1
 simp only [h1]; cases B0 <;> cases N0 <;> cases S0 <;> cases K0 <;> cases V0 <;> rfl
 by_cases h2 : t.kind = 2
 simp only [h2]; cases B0 <;> cases N0 <;> cases S0 <;> cases K0 <;> cases V0 <;> rfl
 by_cases h3 : t.kind = 3
 simp only [h3]; generalize checkN t.n = C0; cases B0 <;> cases N0 <;> cases S0 <;> cases K0 <;> cases V0 <;> cases C0 <;> rfl
 by_cases h4 : t.kind = 4
 simp only [h4]; generalize X.validAt t.s t.s.size 0 = C0; generalize decide ((t.s.size : Int) ≤ 2000) = D0; cases B0 <;> cases N0 <;> cases S0 <;> cases K0 <;> cases V0 <;> cases C0 <;> cases D0 <;> rfl
 by_cases h5 : t.kind = 5
 simp only [h5]; generalize decide ((t.s.size : Int) ≤ 2000) = D0; cases B0 <;> cases N0 <;> cases S0 <;> cases K0 <;> cases V0 <;> cases D0 <;> rfl
 by_cases h6 : t.kind = 6
 simp only [h6]; generalize decide ((t.v.length : Int) ≤ 300) = D0; cases B0 <;> cases N0 <;> cases S0 <;> cases K0 <;> cases V0 <;> cases D0 <;> rfl
 by_cases h7 : t.kind = 7
 simp only [h7]
 have h8 : (namesOk t.k && ((t.k.length : Int) == (t.v.length : Int))) = ((namesOk t.k && ((t.k.length : Int) == (t.v.length : Int))) && decide ((t.v.length : Int) ≤ 300)) := by
  rw [Bool.eq_iff_iff]
  simp only [Bool.and_eq_true, decide_eq_true_eq]
  exact ⟨fun h => ⟨h, by have := names_300 h.1; have := eq_of_beq h.2; omega⟩, fun h => h.1⟩
 revert h8
 generalize (namesOk t.k && ((t.k.length : Int) == (t.v.length : Int))) = C0
 generalize decide ((t.v.length : Int) ≤ 300) = D0
 cases B0 <;> cases N0 <;> cases S0 <;> cases K0 <;> cases V0 <;> cases C0 <;> cases D0 <;> intro h <;> first | rfl | exact absurd h (by decide)
 have q1 : (t.kind == 1) = false := by simpa using h1
 have q2 : (t.kind == 2) = false := by simpa using h2
 have q3 : (t.kind == 3) = false := by simpa using h3
 have q4 : (t.kind == 4) = false := by simpa using h4
 have q5 : (t.kind == 5) = false := by simpa using h5
 have q6 : (t.kind == 6) = false := by simpa using h6
 have q7 : (t.kind == 7) = false := by simpa using h7
 rw [q1, q2, q3, q4, q5, q6, q7, decide_eq_false (show ¬ (1 ≤ t.kind ∧ t.kind ≤ 7) by omega)]
 simp
theorem con150 (t : Tree) (ha : Ok t.n.m) (hl : t.n.m.length < 1000000000) (hk : t.k.length < 1000000000) (hs0 : t.s.size < 4294967281) (hks : ∀ x ∈ t.k, x.size < 4294967281) : Con Tryz.prog I0 116 [.agg (encTree t)] (.val (vb (ownO t))) := by
 refine con_of Tryz.func116 rfl (Nat.le_of_ble_eq_true rfl) stab (fun w0 fz a hI hs => ?_)
 refine wNs hs hI [] 8 [] [(1, .ptr 1000 0)] [(1000, bTr (t))] fun a w hs => ?_
 refine wp_seq ?_
 rcases bt (t.kind != 2) with b1 | b1
 have n1 := bne_iff_ne.1 b1
 rcases bt (t.b) with b2 | b2
 refine wL hs hI [(1, rg [] [4, 5, 1006, 1017, 1032, 1043, 1059] [8, 9, 10, 11, 16, 19, 20, 21, 22, 26, 27, 31, 34, 35, 36, 37, 42, 45, 46, 47, 48, 52, 53, 58])] (bz 1 1) 12179666666666666666738730733373873337307307333738733377718 [q1 b1, q1 b1, q1 b1, q1 b2, q1 b2, q1 b2, q1 b2, q1 b2, q1 b2, q0 true, q0 true, q0 true, q0 true, q0 true, q0 true, q0 true, q0 true, q0 true, q0 true, q0 true, q0 true, q0 true, q0 true, q0 true, q0 true, q0 true, q0 true, q0 true, q0 true, q0 true, q0 true, q0 true] .ret [(2, vb false)] [] tv fun a w hs => ?_
 refine then_ret ?_
 exact rK (.val (vb false)) [] hs (by rw [← fields_own]; simp only [fieldsF, badT, b1, b2]; first | done | rfl)
 rcases bt (t.kind != 3) with b3 | b3
 have n3 := bne_iff_ne.1 b3
 rcases bt (ownN t.n) with b4 | b4
 rcases bt (t.kind != 4) with b5 | b5
 have n5 := bne_iff_ne.1 b5
 rcases bt (t.kind != 5) with b6 | b6
 have n6 := bne_iff_ne.1 b6
 rcases bq (t.s.toList) ((ba []).toList) with ⟨b7, n7⟩ | ⟨b7, n7⟩
 rcases bt (t.kind != 7) with b8 | b8
 have n8 := bne_iff_ne.1 b8
 rcases bd ((t.k.length : Int) > 0) with ⟨b9, n9⟩ | ⟨b9, n9⟩
 refine wL hs hI [(1, rg [(14, ciV 147 [.agg [vb t.n.neg, rwU t.n.m, vi t.n.e]] (vb (ownN t.n)))] [4, 5, 1006, 8, 9, 10, 11, 12, 13, 14, 15, 16, 1016, 19, 20, 21, 22, 23, 24, 25, 26, 1026, 27, 28, 29, 30, 31, 1031, 34, 35, 36, 37, 38, 39, 40, 41, 42, 1042, 1059] [1017, 1032, 1043, 45, 46, 47, 48, 52, 53, 58])] (bz 1 1) 1217266666666666666666666666738730733373377777777733777733777777773374377777777718 [q1 b1, q1 b1, q1 b1, q1 b2, q1 b2, q1 b2, q1 b2, q1 b3, q1 b3, q1 b3, q1 b3, q1 b2, q1 b3, q1 b2, q1 (ng1 b4), q1 (ng1 b4), q1 (ng1 b4), q1 (ng1 b4), q1 b5, q1 b5, q1 b5, q1 (ng1 b4), q1 b5, q1 (ng1 b4), q1 b6, q1 b6, q1 b6, q1 (ng1 b4), q1 b6, q1 (ng1 b4), q1 (ng1 b7), q1 (ng1 b7), q1 (ng1 b7), q1 (ng1 b7), q1 b8, q1 b8, q1 b8, q1 b8, q1 (ng1 b7), q1 b8, q1 (ng1 b7), q1 b9, q1 b9, q1 b9, q1 b9, q1 b9, q1 b9, q1 b9, q1 b9, q0 true] .ret [(2, vb false)] [] ⟨con199 t.n, tv⟩ fun a w hs => ?_
 refine then_ret ?_
 exact rK (.val (vb false)) [] hs (by rw [← fields_own]; simp only [fieldsF, badT, b1, b2, b3, b4, b5, b6, b7, b8, b9]; first | done | rfl)
 rcases bt (t.kind != 6) with b10 | b10
 have n10 := bne_iff_ne.1 b10
 rcases bd ((t.v.length : Int) > 0) with ⟨b11, n11⟩ | ⟨b11, n11⟩
 refine wL hs hI [(1, rg [(14, ciV 147 [.agg [vb t.n.neg, rwU t.n.m, vi t.n.e]] (vb (ownN t.n)))] [4, 5, 1006, 8, 9, 10, 11, 12, 13, 14, 15, 16, 1016, 19, 20, 21, 22, 23, 24, 25, 26, 1026, 27, 28, 29, 30, 31, 1031, 34, 35, 36, 37, 38, 39, 40, 41, 42, 1042, 45, 46, 47, 48, 49, 50, 51, 52, 1052, 53, 54, 55, 56, 57, 58, 1058] [1017, 1032, 1043, 1059])] (bz 1 1) 121729666666666666666666666666667337777733777777773377777777733777733777777773374377777777718 [q1 b1, q1 b1, q1 b1, q1 b2, q1 b2, q1 b2, q1 b2, q1 b3, q1 b3, q1 b3, q1 b3, q1 b2, q1 b3, q1 b2, q1 (ng1 b4), q1 (ng1 b4), q1 (ng1 b4), q1 (ng1 b4), q1 b5, q1 b5, q1 b5, q1 (ng1 b4), q1 b5, q1 (ng1 b4), q1 b6, q1 b6, q1 b6, q1 (ng1 b4), q1 b6, q1 (ng1 b4), q1 (ng1 b7), q1 (ng1 b7), q1 (ng1 b7), q1 (ng1 b7), q1 b8, q1 b8, q1 b8, q1 b8, q1 (ng1 b7), q1 b8, q1 (ng1 b7), q1 b9, q1 b9, q1 b9, q1 b9, q1 b8, q1 b8, q1 b8, q1 b9, q1 b8, q1 b9, q1 b10, q1 b10, q1 b10, q1 b10, q1 b9, q1 b10, q1 b9, q1 b11] .ret [(2, vb false)] [] ⟨con199 t.n, tv⟩ fun a w hs => ?_
 refine then_ret ?_
 exact rK (.val (vb false)) [] hs (by rw [← fields_own]; simp only [fieldsF, badT, b1, b2, b3, b4, b5, b6, b7, b8, b9, b10, b11]; first | done | rfl)
 refine wL hs hI [(1, rg [(14, ciV 147 [.agg [vb t.n.neg, rwU t.n.m, vi t.n.e]] (vb (ownN t.n)))] [4, 5, 1006, 8, 9, 10, 11, 12, 13, 14, 15, 16, 1016, 19, 20, 21, 22, 23, 24, 25, 26, 1026, 27, 28, 29, 30, 31, 1031, 34, 35, 36, 37, 38, 39, 40, 41, 42, 1042, 45, 46, 47, 48, 49, 50, 51, 52, 1052, 53, 54, 55, 56, 57, 58, 1058] [1017, 1032, 1043, 1059])] (bz 1 0) 729666666666666666666666666667337777733777777773377777777733777733777777773374377777777718 [q1 b1, q1 b1, q1 b1, q1 b2, q1 b2, q1 b2, q1 b2, q1 b3, q1 b3, q1 b3, q1 b3, q1 b2, q1 b3, q1 b2, q1 (ng1 b4), q1 (ng1 b4), q1 (ng1 b4), q1 (ng1 b4), q1 b5, q1 b5, q1 b5, q1 (ng1 b4), q1 b5, q1 (ng1 b4), q1 b6, q1 b6, q1 b6, q1 (ng1 b4), q1 b6, q1 (ng1 b4), q1 (ng1 b7), q1 (ng1 b7), q1 (ng1 b7), q1 (ng1 b7), q1 b8, q1 b8, q1 b8, q1 b8, q1 (ng1 b7), q1 b8, q1 (ng1 b7), q1 b9, q1 b9, q1 b9, q1 b9, q1 b8, q1 b8, q1 b8, q1 b9, q1 b8, q1 b9, q1 b10, q1 b10, q1 b10, q1 b10, q1 b9, q1 b10, q1 b9, q1 b11] .norm [(1, .ptr 1000 0)] [(1000, bTr (t))] ⟨con199 t.n, tv⟩ fun a w hs => ?_
 refine then_norm ?_
 rcases bq (t.kind) (1) with ⟨b12, n12⟩ | ⟨b12, n12⟩
 refine wN hs hI (bz 2 3) 1217979898 [q1 b12, q1 b12] .ret [(2, vb true)] [] fun a w hs => ?_
 exact rK (.val (vb true)) [] hs (by rw [← fields_own]; simp only [fieldsF, badT, b1, b2, b3, b4, b5, b6, b7, b8, b9, b10, b11, b12]; first | done | rfl)
 have b13 : (t.kind == 2) = false := by simpa using b1
 have b14 : (t.kind == 3) = false := by simpa using b3
 have b15 : (t.kind == 4) = false := by simpa using b5
 have b16 : (t.kind == 5) = false := by simpa using b6
 have b17 : (t.kind == 6) = false := by simpa using b10
 have b18 : (t.kind == 7) = false := by simpa using b8
 refine wN hs hI (bz 7 0) 120266679079079079079076079898 [q1 b12, q1 b13, q1 b14, q1 b15, q1 b16, q1 b17, q1 b18] .ret [(2, vb false)] [] fun a w hs => ?_
 exact rK (.val (vb false)) [] hs (by rw [← fields_own]; simp only [fieldsF, badT, b1, b2, b3, b4, b5, b6, b7, b8, b9, b10, b11, b12, b13, b14, b15, b16, b17, b18]; first | done | rfl)
 have n10 := bne_eq_false_iff_eq.1 b10
 refine wL hs hI [(1, rg [(14, ciV 147 [.agg [vb t.n.neg, rwU t.n.m, vi t.n.e]] (vb (ownN t.n)))] [4, 5, 1006, 8, 9, 10, 11, 12, 13, 14, 15, 16, 1016, 19, 20, 21, 22, 23, 24, 25, 26, 1026, 27, 28, 29, 30, 31, 1031, 34, 35, 36, 37, 38, 39, 40, 41, 42, 1042, 45, 46, 47, 48, 49, 50, 51, 52, 1052, 53, 58] [1017, 1032, 1043, 54, 55, 56, 57, 1058, 1059])] (bz 1 0) 72966666666666666666666666667333333733777777773377777777733777733777777773374377777777718 [q1 b1, q1 b1, q1 b1, q1 b2, q1 b2, q1 b2, q1 b2, q1 b3, q1 b3, q1 b3, q1 b3, q1 b2, q1 b3, q1 b2, q1 (ng1 b4), q1 (ng1 b4), q1 (ng1 b4), q1 (ng1 b4), q1 b5, q1 b5, q1 b5, q1 (ng1 b4), q1 b5, q1 (ng1 b4), q1 b6, q1 b6, q1 b6, q1 (ng1 b4), q1 b6, q1 (ng1 b4), q1 (ng1 b7), q1 (ng1 b7), q1 (ng1 b7), q1 (ng1 b7), q1 b8, q1 b8, q1 b8, q1 b8, q1 (ng1 b7), q1 b8, q1 (ng1 b7), q1 b9, q1 b9, q1 b9, q1 b9, q1 b8, q1 b8, q1 b8, q1 b9, q1 b8, q1 b9, q1 b10, q1 b10, q1 b10, q1 b10, q1 b9, q1 b10, q1 b9, q0 false] .norm [(1, .ptr 1000 0)] [(1000, bTr (t))] ⟨con199 t.n, tv⟩ fun a w hs => ?_
 refine then_norm ?_
 have b19 : (t.kind == 1) = false := by rw [show t.kind = 6 from bne_eq_false_iff_eq.1 b10]; rfl
 have b20 : (t.kind == 2) = false := by rw [show t.kind = 6 from bne_eq_false_iff_eq.1 b10]; rfl
 have b21 : (t.kind == 3) = false := by rw [show t.kind = 6 from bne_eq_false_iff_eq.1 b10]; rfl
 have b22 : (t.kind == 4) = false := by rw [show t.kind = 6 from bne_eq_false_iff_eq.1 b10]; rfl
 have b23 : (t.kind == 5) = false := by rw [show t.kind = 6 from bne_eq_false_iff_eq.1 b10]; rfl
 have b24 : (t.kind == 6) = true := by rw [show t.kind = 6 from bne_eq_false_iff_eq.1 b10]; rfl
 refine wN hs hI (bz 6 32) 1260879079079079076079898 [q1 b19, q1 b20, q1 b21, q1 b22, q1 b23, q1 b24] .ret [(2, vb (decide ((t.v.length : Int) ≤ 300)))] [] fun a w hs => ?_
 exact rK (.val (vb (decide ((t.v.length : Int) ≤ 300)))) [] hs (by rw [← fields_own]; simp only [fieldsF, badT, b1, b2, b3, b4, b5, b6, b7, b8, b9, b10, b19, b20, b21, b22, b23, b24]; first | done | rfl)
 have n8 := bne_eq_false_iff_eq.1 b8
 refine wL hs hI [(1, rg [(14, ciV 147 [.agg [vb t.n.neg, rwU t.n.m, vi t.n.e]] (vb (ownN t.n)))] [4, 5, 1006, 8, 9, 10, 11, 12, 13, 14, 15, 16, 1016, 19, 20, 21, 22, 23, 24, 25, 26, 1026, 27, 28, 29, 30, 31, 1031, 34, 35, 36, 37, 42, 45, 46, 47, 48, 52, 53, 58] [1017, 1032, 38, 39, 40, 41, 1042, 1043, 49, 50, 51, 1052, 54, 55, 56, 57, 1058, 1059])] (bz 1 0) 76666666666666666666666667333333733333777773333337777733777733777777773374377777777718 [q1 b1, q1 b1, q1 b1, q1 b2, q1 b2, q1 b2, q1 b2, q1 b3, q1 b3, q1 b3, q1 b3, q1 b2, q1 b3, q1 b2, q1 (ng1 b4), q1 (ng1 b4), q1 (ng1 b4), q1 (ng1 b4), q1 b5, q1 b5, q1 b5, q1 (ng1 b4), q1 b5, q1 (ng1 b4), q1 b6, q1 b6, q1 b6, q1 (ng1 b4), q1 b6, q1 (ng1 b4), q1 (ng1 b7), q1 (ng1 b7), q1 (ng1 b7), q1 (ng1 b7), q1 b8, q1 b8, q1 b8, q1 b8, q1 (ng1 b7), q1 b8, q1 (ng1 b7), q0 false, q0 false, q0 false, q0 false, q1 b8, q1 b8, q1 b8, q0 false, q1 b8, q0 false, q0 false, q0 false, q0 false, q0 false, q0 false, q0 false, q0 false, q0 false] .norm [(1, .ptr 1000 0)] [(1000, bTr (t))] ⟨con199 t.n, tv⟩ fun a w hs => ?_
 refine then_norm ?_
 have b25 : (t.kind == 1) = false := by rw [show t.kind = 7 from bne_eq_false_iff_eq.1 b8]; rfl
 have b26 : (t.kind == 2) = false := by rw [show t.kind = 7 from bne_eq_false_iff_eq.1 b8]; rfl
 have b27 : (t.kind == 3) = false := by rw [show t.kind = 7 from bne_eq_false_iff_eq.1 b8]; rfl
 have b28 : (t.kind == 4) = false := by rw [show t.kind = 7 from bne_eq_false_iff_eq.1 b8]; rfl
 have b29 : (t.kind == 5) = false := by rw [show t.kind = 7 from bne_eq_false_iff_eq.1 b8]; rfl
 have b30 : (t.kind == 6) = false := by rw [show t.kind = 7 from bne_eq_false_iff_eq.1 b8]; rfl
 have b31 : (t.kind == 7) = true := by rw [show t.kind = 7 from bne_eq_false_iff_eq.1 b8]; rfl
 rcases bt (namesOk t.k) with b32 | b32
 refine wL hs hI [(16, rg [(2, ciV 149 [rwS t.k] (vb (namesOk t.k)))] [4, 5, 6, 7, 8, 9, 10, 1011] [])] (bz 7 64) 16666617777777714179079079079079076079898 [q1 b25, q1 b26, q1 b27, q1 b28, q1 b29, q1 b30, q1 b31, q1 b32, q1 b32, q1 b32, q1 b32, q1 b32, q1 b32, q1 b32, q1 b32] .ret [(2, vb ((t.k.length : Int) == (t.v.length : Int)))] [] ⟨con201 _ hks (by omega), tv⟩ fun a w hs => ?_
 exact rK (.val (vb ((t.k.length : Int) == (t.v.length : Int)))) [] hs (by rw [← fields_own]; simp only [fieldsF, badT, b1, b2, b3, b4, b5, b6, b7, b8, b25, b26, b27, b28, b29, b30, b31, b32]; first | done | rfl)
 refine wL hs hI [(16, rg [(2, ciV 149 [rwS t.k] (vb (namesOk t.k)))] [] [4, 5, 6, 7, 8, 9, 10, 1011])] (bz 7 64) 1266617333333314179079079079079076079898 [q1 b25, q1 b26, q1 b27, q1 b28, q1 b29, q1 b30, q1 b31, q1 b32, q1 b32, q1 b32, q1 b32, q1 b32, q1 b32, q1 b32, q1 b32] .ret [(2, vb false)] [] ⟨con201 _ hks (by omega), tv⟩ fun a w hs => ?_
 exact rK (.val (vb false)) [] hs (by rw [← fields_own]; simp only [fieldsF, badT, b1, b2, b3, b4, b5, b6, b7, b8, b25, b26, b27, b28, b29, b30, b31, b32]; first | done | rfl)
 refine wL hs hI [(1, rg [(14, ciV 147 [.agg [vb t.n.neg, rwU t.n.m, vi t.n.e]] (vb (ownN t.n)))] [4, 5, 1006, 8, 9, 10, 11, 12, 13, 14, 15, 16, 1016, 19, 20, 21, 22, 23, 24, 25, 26, 1026, 27, 28, 29, 30, 31, 1031, 1043, 1059] [1017, 1032, 34, 35, 36, 37, 42, 45, 46, 47, 48, 52, 53, 58])] (bz 1 1) 121766666666666666666666673873073337387333733777733777777773374377777777718 [q1 b1, q1 b1, q1 b1, q1 b2, q1 b2, q1 b2, q1 b2, q1 b3, q1 b3, q1 b3, q1 b3, q1 b2, q1 b3, q1 b2, q1 (ng1 b4), q1 (ng1 b4), q1 (ng1 b4), q1 (ng1 b4), q1 b5, q1 b5, q1 b5, q1 (ng1 b4), q1 b5, q1 (ng1 b4), q1 b6, q1 b6, q1 b6, q1 (ng1 b4), q1 b6, q1 (ng1 b4), q1 (ng0 b7), q1 (ng0 b7), q1 (ng0 b7), q1 (ng0 b7), q1 (ng0 b7), q1 (ng0 b7), q0 true, q0 true, q0 true, q0 true, q0 true, q0 true, q0 true, q0 true, q0 true] .ret [(2, vb false)] [] ⟨con199 t.n, tv⟩ fun a w hs => ?_
 refine then_ret ?_
 exact rK (.val (vb false)) [] hs (by rw [← fields_own]; simp only [fieldsF, badT, b1, b2, b3, b4, b5, b6, b7]; first | done | rfl)
 have n6 := bne_eq_false_iff_eq.1 b6
 have b33 : (t.kind != 7) = true := by rw [show t.kind = 5 from bne_eq_false_iff_eq.1 b6]; rfl
 rcases bd ((t.k.length : Int) > 0) with ⟨b34, n34⟩ | ⟨b34, n34⟩
 refine wL hs hI [(1, rg [(14, ciV 147 [.agg [vb t.n.neg, rwU t.n.m, vi t.n.e]] (vb (ownN t.n)))] [4, 5, 1006, 8, 9, 10, 11, 12, 13, 14, 15, 16, 1016, 19, 20, 21, 22, 23, 24, 25, 26, 1026, 27, 31, 34, 35, 36, 37, 38, 39, 40, 41, 42, 1042, 1059] [1017, 28, 29, 30, 1031, 1032, 1043, 45, 46, 47, 48, 52, 53, 58])] (bz 1 1) 121796666666666666666666666738730733373377777777733333733777777773374377777777718 [q1 b1, q1 b1, q1 b1, q1 b2, q1 b2, q1 b2, q1 b2, q1 b3, q1 b3, q1 b3, q1 b3, q1 b2, q1 b3, q1 b2, q1 (ng1 b4), q1 (ng1 b4), q1 (ng1 b4), q1 (ng1 b4), q1 b5, q1 b5, q1 b5, q1 (ng1 b4), q1 b5, q1 (ng1 b4), q1 b6, q1 b6, q1 b6, q1 (ng1 b4), q1 b6, q1 (ng1 b4), q0 false, q0 false, q0 false, q0 false, q1 b33, q1 b33, q1 b33, q1 b33, q0 false, q1 b33, q0 false, q1 b34, q1 b34, q1 b34, q1 b34, q1 b34, q1 b34, q1 b34, q1 b34, q0 true] .ret [(2, vb false)] [] ⟨con199 t.n, tv⟩ fun a w hs => ?_
 refine then_ret ?_
 exact rK (.val (vb false)) [] hs (by rw [← fields_own]; simp only [fieldsF, badT, b1, b2, b3, b4, b5, b6, b33, b34]; first | done | rfl)
 have b35 : (t.kind != 6) = true := by rw [show t.kind = 5 from bne_eq_false_iff_eq.1 b6]; rfl
 rcases bd ((t.v.length : Int) > 0) with ⟨b36, n36⟩ | ⟨b36, n36⟩
 refine wL hs hI [(1, rg [(14, ciV 147 [.agg [vb t.n.neg, rwU t.n.m, vi t.n.e]] (vb (ownN t.n)))] [4, 5, 1006, 8, 9, 10, 11, 12, 13, 14, 15, 16, 1016, 19, 20, 21, 22, 23, 24, 25, 26, 1026, 27, 31, 34, 35, 36, 37, 38, 39, 40, 41, 42, 1042, 45, 46, 47, 48, 49, 50, 51, 52, 1052, 53, 54, 55, 56, 57, 58, 1058] [1017, 28, 29, 30, 1031, 1032, 1043, 1059])] (bz 1 1) 1217666666666666666666666666667337777733777777773377777777733333733777777773374377777777718 [q1 b1, q1 b1, q1 b1, q1 b2, q1 b2, q1 b2, q1 b2, q1 b3, q1 b3, q1 b3, q1 b3, q1 b2, q1 b3, q1 b2, q1 (ng1 b4), q1 (ng1 b4), q1 (ng1 b4), q1 (ng1 b4), q1 b5, q1 b5, q1 b5, q1 (ng1 b4), q1 b5, q1 (ng1 b4), q1 b6, q1 b6, q1 b6, q1 (ng1 b4), q1 b6, q1 (ng1 b4), q0 false, q0 false, q0 false, q0 false, q1 b33, q1 b33, q1 b33, q1 b33, q0 false, q1 b33, q0 false, q1 b34, q1 b34, q1 b34, q1 b34, q1 b33, q1 b33, q1 b33, q1 b34, q1 b33, q1 b34, q1 b35, q1 b35, q1 b35, q1 b35, q1 b34, q1 b35, q1 b34, q1 b36] .ret [(2, vb false)] [] ⟨con199 t.n, tv⟩ fun a w hs => ?_
 refine then_ret ?_
 exact rK (.val (vb false)) [] hs (by rw [← fields_own]; simp only [fieldsF, badT, b1, b2, b3, b4, b5, b6, b33, b34, b35, b36]; first | done | rfl)
 refine wL hs hI [(1, rg [(14, ciV 147 [.agg [vb t.n.neg, rwU t.n.m, vi t.n.e]] (vb (ownN t.n)))] [4, 5, 1006, 8, 9, 10, 11, 12, 13, 14, 15, 16, 1016, 19, 20, 21, 22, 23, 24, 25, 26, 1026, 27, 31, 34, 35, 36, 37, 38, 39, 40, 41, 42, 1042, 45, 46, 47, 48, 49, 50, 51, 52, 1052, 53, 54, 55, 56, 57, 58, 1058] [1017, 28, 29, 30, 1031, 1032, 1043, 1059])] (bz 1 0) 7666666666666666666666666667337777733777777773377777777733333733777777773374377777777718 [q1 b1, q1 b1, q1 b1, q1 b2, q1 b2, q1 b2, q1 b2, q1 b3, q1 b3, q1 b3, q1 b3, q1 b2, q1 b3, q1 b2, q1 (ng1 b4), q1 (ng1 b4), q1 (ng1 b4), q1 (ng1 b4), q1 b5, q1 b5, q1 b5, q1 (ng1 b4), q1 b5, q1 (ng1 b4), q1 b6, q1 b6, q1 b6, q1 (ng1 b4), q1 b6, q1 (ng1 b4), q0 false, q0 false, q0 false, q0 false, q1 b33, q1 b33, q1 b33, q1 b33, q0 false, q1 b33, q0 false, q1 b34, q1 b34, q1 b34, q1 b34, q1 b33, q1 b33, q1 b33, q1 b34, q1 b33, q1 b34, q1 b35, q1 b35, q1 b35, q1 b35, q1 b34, q1 b35, q1 b34, q1 b36] .norm [(1, .ptr 1000 0)] [(1000, bTr (t))] ⟨con199 t.n, tv⟩ fun a w hs => ?_
 refine then_norm ?_
 have b37 : (t.kind == 1) = false := by rw [show t.kind = 5 from bne_eq_false_iff_eq.1 b6]; rfl
 have b38 : (t.kind == 2) = false := by rw [show t.kind = 5 from bne_eq_false_iff_eq.1 b6]; rfl
 have b39 : (t.kind == 3) = false := by rw [show t.kind = 5 from bne_eq_false_iff_eq.1 b6]; rfl
 have b40 : (t.kind == 4) = false := by rw [show t.kind = 5 from bne_eq_false_iff_eq.1 b6]; rfl
 have b41 : (t.kind == 5) = true := by rw [show t.kind = 5 from bne_eq_false_iff_eq.1 b6]; rfl
 refine wN hs hI (bz 5 16) 1260879079079076079898 [q1 b37, q1 b38, q1 b39, q1 b40, q1 b41] .ret [(2, vb (decide ((t.s.size : Int) ≤ 2000)))] [] fun a w hs => ?_
 exact rK (.val (vb (decide ((t.s.size : Int) ≤ 2000)))) [] hs (by rw [← fields_own]; simp only [fieldsF, badT, b1, b2, b3, b4, b5, b6, b33, b34, b35, b36, b37, b38, b39, b40, b41]; first | done | rfl)
 have n5 := bne_eq_false_iff_eq.1 b5
 have b42 : (t.kind != 7) = true := by rw [show t.kind = 4 from bne_eq_false_iff_eq.1 b5]; rfl
 rcases bd ((t.k.length : Int) > 0) with ⟨b43, n43⟩ | ⟨b43, n43⟩
 refine wL hs hI [(1, rg [(14, ciV 147 [.agg [vb t.n.neg, rwU t.n.m, vi t.n.e]] (vb (ownN t.n)))] [4, 5, 1006, 8, 9, 10, 11, 12, 13, 14, 15, 16, 1016, 19, 20, 21, 22, 26, 27, 31, 34, 35, 36, 37, 38, 39, 40, 41, 42, 1042, 1059] [1017, 23, 24, 25, 1026, 28, 29, 30, 1031, 1032, 1043, 45, 46, 47, 48, 52, 53, 58])] (bz 1 1) 121729666666666666666666666738730733373377777777733333733333777773374377777777718 [q1 b1, q1 b1, q1 b1, q1 b2, q1 b2, q1 b2, q1 b2, q1 b3, q1 b3, q1 b3, q1 b3, q1 b2, q1 b3, q1 b2, q1 (ng1 b4), q1 (ng1 b4), q1 (ng1 b4), q1 (ng1 b4), q1 b5, q1 b5, q1 b5, q1 (ng1 b4), q1 b5, q1 (ng1 b4), q0 false, q0 false, q0 false, q1 (ng1 b4), q0 false, q1 (ng1 b4), q0 false, q0 false, q0 false, q0 false, q1 b42, q1 b42, q1 b42, q1 b42, q0 false, q1 b42, q0 false, q1 b43, q1 b43, q1 b43, q1 b43, q1 b43, q1 b43, q1 b43, q1 b43, q0 true] .ret [(2, vb false)] [] ⟨con199 t.n, tv⟩ fun a w hs => ?_
 refine then_ret ?_
 exact rK (.val (vb false)) [] hs (by rw [← fields_own]; simp only [fieldsF, badT, b1, b2, b3, b4, b5, b42, b43]; first | done | rfl)
 have b44 : (t.kind != 6) = true := by rw [show t.kind = 4 from bne_eq_false_iff_eq.1 b5]; rfl
 rcases bd ((t.v.length : Int) > 0) with ⟨b45, n45⟩ | ⟨b45, n45⟩
 refine wL hs hI [(1, rg [(14, ciV 147 [.agg [vb t.n.neg, rwU t.n.m, vi t.n.e]] (vb (ownN t.n)))] [4, 5, 1006, 8, 9, 10, 11, 12, 13, 14, 15, 16, 1016, 19, 20, 21, 22, 26, 27, 31, 34, 35, 36, 37, 38, 39, 40, 41, 42, 1042, 45, 46, 47, 48, 49, 50, 51, 52, 1052, 53, 54, 55, 56, 57, 58, 1058] [1017, 23, 24, 25, 1026, 28, 29, 30, 1031, 1032, 1043, 1059])] (bz 1 1) 1217266666666666666666666666667337777733777777773377777777733333733333777773374377777777718 [q1 b1, q1 b1, q1 b1, q1 b2, q1 b2, q1 b2, q1 b2, q1 b3, q1 b3, q1 b3, q1 b3, q1 b2, q1 b3, q1 b2, q1 (ng1 b4), q1 (ng1 b4), q1 (ng1 b4), q1 (ng1 b4), q1 b5, q1 b5, q1 b5, q1 (ng1 b4), q1 b5, q1 (ng1 b4), q0 false, q0 false, q0 false, q1 (ng1 b4), q0 false, q1 (ng1 b4), q0 false, q0 false, q0 false, q0 false, q1 b42, q1 b42, q1 b42, q1 b42, q0 false, q1 b42, q0 false, q1 b43, q1 b43, q1 b43, q1 b43, q1 b42, q1 b42, q1 b42, q1 b43, q1 b42, q1 b43, q1 b44, q1 b44, q1 b44, q1 b44, q1 b43, q1 b44, q1 b43, q1 b45] .ret [(2, vb false)] [] ⟨con199 t.n, tv⟩ fun a w hs => ?_
 refine then_ret ?_
 exact rK (.val (vb false)) [] hs (by rw [← fields_own]; simp only [fieldsF, badT, b1, b2, b3, b4, b5, b42, b43, b44, b45]; first | done | rfl)
 refine wL hs hI [(1, rg [(14, ciV 147 [.agg [vb t.n.neg, rwU t.n.m, vi t.n.e]] (vb (ownN t.n)))] [4, 5, 1006, 8, 9, 10, 11, 12, 13, 14, 15, 16, 1016, 19, 20, 21, 22, 26, 27, 31, 34, 35, 36, 37, 38, 39, 40, 41, 42, 1042, 45, 46, 47, 48, 49, 50, 51, 52, 1052, 53, 54, 55, 56, 57, 58, 1058] [1017, 23, 24, 25, 1026, 28, 29, 30, 1031, 1032, 1043, 1059])] (bz 1 0) 7266666666666666666666666667337777733777777773377777777733333733333777773374377777777718 [q1 b1, q1 b1, q1 b1, q1 b2, q1 b2, q1 b2, q1 b2, q1 b3, q1 b3, q1 b3, q1 b3, q1 b2, q1 b3, q1 b2, q1 (ng1 b4), q1 (ng1 b4), q1 (ng1 b4), q1 (ng1 b4), q1 b5, q1 b5, q1 b5, q1 (ng1 b4), q1 b5, q1 (ng1 b4), q0 false, q0 false, q0 false, q1 (ng1 b4), q0 false, q1 (ng1 b4), q0 false, q0 false, q0 false, q0 false, q1 b42, q1 b42, q1 b42, q1 b42, q0 false, q1 b42, q0 false, q1 b43, q1 b43, q1 b43, q1 b43, q1 b42, q1 b42, q1 b42, q1 b43, q1 b42, q1 b43, q1 b44, q1 b44, q1 b44, q1 b44, q1 b43, q1 b44, q1 b43, q1 b45] .norm [(1, .ptr 1000 0)] [(1000, bTr (t))] ⟨con199 t.n, tv⟩ fun a w hs => ?_
 refine then_norm ?_
 have b46 : (t.kind == 1) = false := by rw [show t.kind = 4 from bne_eq_false_iff_eq.1 b5]; rfl
 have b47 : (t.kind == 2) = false := by rw [show t.kind = 4 from bne_eq_false_iff_eq.1 b5]; rfl
 have b48 : (t.kind == 3) = false := by rw [show t.kind = 4 from bne_eq_false_iff_eq.1 b5]; rfl
 have b49 : (t.kind == 4) = true := by rw [show t.kind = 4 from bne_eq_false_iff_eq.1 b5]; rfl
 rcases bt (X.validAt t.s t.s.size 0) with b50 | b50
 refine wL hs hI [(10, rg [(2, ciV 148 [vs t.s] (vb (X.validAt t.s t.s.size 0)))] [4, 5, 6, 7, 1008] [])] (bz 4 8) 1966617777714179079076079898 [q1 b46, q1 b47, q1 b48, q1 b49, q1 b50, q1 b50, q1 b50, q1 b50, q1 b50] .ret [(2, vb (decide ((t.s.size : Int) ≤ 2000)))] [] ⟨con200 _ hs0, tv⟩ fun a w hs => ?_
 exact rK (.val (vb (decide ((t.s.size : Int) ≤ 2000)))) [] hs (by rw [← fields_own]; simp only [fieldsF, badT, b1, b2, b3, b4, b5, b42, b43, b44, b45, b46, b47, b48, b49, b50]; first | done | rfl)
 refine wL hs hI [(10, rg [(2, ciV 148 [vs t.s] (vb (X.validAt t.s t.s.size 0)))] [] [4, 5, 6, 7, 1008])] (bz 4 8) 196617333314179079076079898 [q1 b46, q1 b47, q1 b48, q1 b49, q1 b50, q1 b50, q1 b50, q1 b50, q1 b50] .ret [(2, vb false)] [] ⟨con200 _ hs0, tv⟩ fun a w hs => ?_
 exact rK (.val (vb false)) [] hs (by rw [← fields_own]; simp only [fieldsF, badT, b1, b2, b3, b4, b5, b42, b43, b44, b45, b46, b47, b48, b49, b50]; first | done | rfl)
 refine wL hs hI [(1, rg [(14, ciV 147 [.agg [vb t.n.neg, rwU t.n.m, vi t.n.e]] (vb (ownN t.n)))] [4, 5, 1006, 8, 9, 10, 11, 12, 13, 14, 15, 16, 1016, 1032, 1043, 1059] [1017, 19, 20, 21, 22, 26, 27, 31, 34, 35, 36, 37, 42, 45, 46, 47, 48, 52, 53, 58])] (bz 1 1) 1217296666666666666666673873073337387333730730733373374377777777718 [q1 b1, q1 b1, q1 b1, q1 b2, q1 b2, q1 b2, q1 b2, q1 b3, q1 b3, q1 b3, q1 b3, q1 b2, q1 b3, q1 b2, q1 (ng0 b4), q1 (ng0 b4), q1 (ng0 b4), q1 (ng0 b4), q1 (ng0 b4), q1 (ng0 b4), q1 (ng0 b4), q1 (ng0 b4), q0 true, q0 true, q0 true, q0 true, q0 true, q0 true, q0 true, q0 true, q0 true, q0 true, q0 true, q0 true, q0 true, q0 true, q0 true] .ret [(2, vb false)] [] ⟨con199 t.n, tv⟩ fun a w hs => ?_
 refine then_ret ?_
 exact rK (.val (vb false)) [] hs (by rw [← fields_own]; simp only [fieldsF, badT, b1, b2, b3, b4]; first | done | rfl)
 have n3 := bne_eq_false_iff_eq.1 b3
 have b51 : (t.kind != 4) = true := by rw [show t.kind = 3 from bne_eq_false_iff_eq.1 b3]; rfl
 have b52 : (t.kind != 5) = true := by rw [show t.kind = 3 from bne_eq_false_iff_eq.1 b3]; rfl
 rcases bq (t.s.toList) ((ba []).toList) with ⟨b53, n53⟩ | ⟨b53, n53⟩
 have b54 : (t.kind != 7) = true := by rw [show t.kind = 3 from bne_eq_false_iff_eq.1 b3]; rfl
 rcases bd ((t.k.length : Int) > 0) with ⟨b55, n55⟩ | ⟨b55, n55⟩
 refine wL hs hI [(1, rg [] [4, 5, 1006, 8, 9, 10, 11, 16, 19, 20, 21, 22, 23, 24, 25, 26, 1026, 27, 28, 29, 30, 31, 1031, 34, 35, 36, 37, 38, 39, 40, 41, 42, 1042, 1059] [12, 13, 14, 15, 1016, 1017, 1032, 1043, 45, 46, 47, 48, 52, 53, 58])] (bz 1 1) 12172666666666666666666666673873073337337777777773377773377777777333333777777718 [q1 b1, q1 b1, q1 b1, q1 b2, q1 b2, q1 b2, q1 b2, q1 b3, q1 b3, q1 b3, q1 b3, q1 b2, q1 b3, q1 b2, q0 false, q0 false, q0 false, q0 false, q1 b51, q1 b51, q1 b51, q0 false, q1 b51, q0 false, q1 b52, q1 b52, q1 b52, q0 false, q1 b52, q0 false, q1 (ng1 b53), q1 (ng1 b53), q1 (ng1 b53), q1 (ng1 b53), q1 b54, q1 b54, q1 b54, q1 b54, q1 (ng1 b53), q1 b54, q1 (ng1 b53), q1 b55, q1 b55, q1 b55, q1 b55, q1 b55, q1 b55, q1 b55, q1 b55, q0 true] .ret [(2, vb false)] [] tv fun a w hs => ?_
 refine then_ret ?_
 exact rK (.val (vb false)) [] hs (by rw [← fields_own]; simp only [fieldsF, badT, b1, b2, b3, b51, b52, b53, b54, b55]; first | done | rfl)
 have b56 : (t.kind != 6) = true := by rw [show t.kind = 3 from bne_eq_false_iff_eq.1 b3]; rfl
 rcases bd ((t.v.length : Int) > 0) with ⟨b57, n57⟩ | ⟨b57, n57⟩
 refine wL hs hI [(1, rg [] [4, 5, 1006, 8, 9, 10, 11, 16, 19, 20, 21, 22, 23, 24, 25, 26, 1026, 27, 28, 29, 30, 31, 1031, 34, 35, 36, 37, 38, 39, 40, 41, 42, 1042, 45, 46, 47, 48, 49, 50, 51, 52, 1052, 53, 54, 55, 56, 57, 58, 1058] [12, 13, 14, 15, 1016, 1017, 1032, 1043, 1059])] (bz 1 1) 1217296666666666666666666666666733777773377777777337777777773377773377777777333333777777718 [q1 b1, q1 b1, q1 b1, q1 b2, q1 b2, q1 b2, q1 b2, q1 b3, q1 b3, q1 b3, q1 b3, q1 b2, q1 b3, q1 b2, q0 false, q0 false, q0 false, q0 false, q1 b51, q1 b51, q1 b51, q0 false, q1 b51, q0 false, q1 b52, q1 b52, q1 b52, q0 false, q1 b52, q0 false, q1 (ng1 b53), q1 (ng1 b53), q1 (ng1 b53), q1 (ng1 b53), q1 b54, q1 b54, q1 b54, q1 b54, q1 (ng1 b53), q1 b54, q1 (ng1 b53), q1 b55, q1 b55, q1 b55, q1 b55, q1 b54, q1 b54, q1 b54, q1 b55, q1 b54, q1 b55, q1 b56, q1 b56, q1 b56, q1 b56, q1 b55, q1 b56, q1 b55, q1 b57] .ret [(2, vb false)] [] tv fun a w hs => ?_
 refine then_ret ?_
 exact rK (.val (vb false)) [] hs (by rw [← fields_own]; simp only [fieldsF, badT, b1, b2, b3, b51, b52, b53, b54, b55, b56, b57]; first | done | rfl)
 refine wL hs hI [(1, rg [] [4, 5, 1006, 8, 9, 10, 11, 16, 19, 20, 21, 22, 23, 24, 25, 26, 1026, 27, 28, 29, 30, 31, 1031, 34, 35, 36, 37, 38, 39, 40, 41, 42, 1042, 45, 46, 47, 48, 49, 50, 51, 52, 1052, 53, 54, 55, 56, 57, 58, 1058] [12, 13, 14, 15, 1016, 1017, 1032, 1043, 1059])] (bz 1 0) 7296666666666666666666666666733777773377777777337777777773377773377777777333333777777718 [q1 b1, q1 b1, q1 b1, q1 b2, q1 b2, q1 b2, q1 b2, q1 b3, q1 b3, q1 b3, q1 b3, q1 b2, q1 b3, q1 b2, q0 false, q0 false, q0 false, q0 false, q1 b51, q1 b51, q1 b51, q0 false, q1 b51, q0 false, q1 b52, q1 b52, q1 b52, q0 false, q1 b52, q0 false, q1 (ng1 b53), q1 (ng1 b53), q1 (ng1 b53), q1 (ng1 b53), q1 b54, q1 b54, q1 b54, q1 b54, q1 (ng1 b53), q1 b54, q1 (ng1 b53), q1 b55, q1 b55, q1 b55, q1 b55, q1 b54, q1 b54, q1 b54, q1 b55, q1 b54, q1 b55, q1 b56, q1 b56, q1 b56, q1 b56, q1 b55, q1 b56, q1 b55, q1 b57] .norm [(1, .ptr 1000 0)] [(1000, bTr (t))] tv fun a w hs => ?_
 refine then_norm ?_
 have b58 : (t.kind == 1) = false := by rw [show t.kind = 3 from bne_eq_false_iff_eq.1 b3]; rfl
 have b59 : (t.kind == 2) = false := by rw [show t.kind = 3 from bne_eq_false_iff_eq.1 b3]; rfl
 have b60 : (t.kind == 3) = true := by rw [show t.kind = 3 from bne_eq_false_iff_eq.1 b3]; rfl
 refine wL hs hI [(8, rc [(2, ciV 132 [.agg [vb t.n.neg, rwU t.n.m, vi t.n.e]] (vb (checkN t.n)))])] (bz 3 4) 1604179076079898 [q1 b58, q1 b59, q1 b60] .ret [(2, vb (checkN t.n))] [] ⟨con174 t.n ha hl, tv⟩ fun a w hs => ?_
 exact rK (.val (vb (checkN t.n))) [] hs (by rw [← fields_own]; simp only [fieldsF, badT, b1, b2, b3, b51, b52, b53, b54, b55, b56, b57, b58, b59, b60]; first | done | rfl)
 refine wL hs hI [(1, rg [] [4, 5, 1006, 8, 9, 10, 11, 16, 19, 20, 21, 22, 23, 24, 25, 26, 1026, 27, 28, 29, 30, 31, 1031, 1043, 1059] [12, 13, 14, 15, 1016, 1017, 1032, 34, 35, 36, 37, 42, 45, 46, 47, 48, 52, 53, 58])] (bz 1 1) 1217666666666666666666667387307333738733373377773377777777333333777777718 [q1 b1, q1 b1, q1 b1, q1 b2, q1 b2, q1 b2, q1 b2, q1 b3, q1 b3, q1 b3, q1 b3, q1 b2, q1 b3, q1 b2, q0 false, q0 false, q0 false, q0 false, q1 b51, q1 b51, q1 b51, q0 false, q1 b51, q0 false, q1 b52, q1 b52, q1 b52, q0 false, q1 b52, q0 false, q1 (ng0 b53), q1 (ng0 b53), q1 (ng0 b53), q1 (ng0 b53), q1 (ng0 b53), q1 (ng0 b53), q0 true, q0 true, q0 true, q0 true, q0 true, q0 true, q0 true, q0 true, q0 true] .ret [(2, vb false)] [] tv fun a w hs => ?_
 refine then_ret ?_
 exact rK (.val (vb false)) [] hs (by rw [← fields_own]; simp only [fieldsF, badT, b1, b2, b3, b51, b52, b53]; first | done | rfl)
 have n1 := bne_eq_false_iff_eq.1 b1
 have b61 : (t.kind != 3) = true := by rw [show t.kind = 2 from bne_eq_false_iff_eq.1 b1]; rfl
 rcases bt (ownN t.n) with b62 | b62
 have b63 : (t.kind != 4) = true := by rw [show t.kind = 2 from bne_eq_false_iff_eq.1 b1]; rfl
 have b64 : (t.kind != 5) = true := by rw [show t.kind = 2 from bne_eq_false_iff_eq.1 b1]; rfl
 rcases bq (t.s.toList) ((ba []).toList) with ⟨b65, n65⟩ | ⟨b65, n65⟩
 have b66 : (t.kind != 7) = true := by rw [show t.kind = 2 from bne_eq_false_iff_eq.1 b1]; rfl
 rcases bd ((t.k.length : Int) > 0) with ⟨b67, n67⟩ | ⟨b67, n67⟩
 refine wL hs hI [(1, rg [(14, ciV 147 [.agg [vb t.n.neg, rwU t.n.m, vi t.n.e]] (vb (ownN t.n)))] [8, 9, 10, 11, 12, 13, 14, 15, 16, 1016, 19, 20, 21, 22, 23, 24, 25, 26, 1026, 27, 28, 29, 30, 31, 1031, 34, 35, 36, 37, 38, 39, 40, 41, 42, 1042, 1059] [4, 5, 1006, 1017, 1032, 1043, 45, 46, 47, 48, 52, 53, 58])] (bz 1 1) 1217296666666666666666666666738730733373377777777733777733777777773374377777773318 [q1 b1, q1 b1, q1 b1, q0 false, q0 false, q0 false, q0 false, q1 b61, q1 b61, q1 b61, q1 b61, q0 false, q1 b61, q0 false, q1 (ng1 b62), q1 (ng1 b62), q1 (ng1 b62), q1 (ng1 b62), q1 b63, q1 b63, q1 b63, q1 (ng1 b62), q1 b63, q1 (ng1 b62), q1 b64, q1 b64, q1 b64, q1 (ng1 b62), q1 b64, q1 (ng1 b62), q1 (ng1 b65), q1 (ng1 b65), q1 (ng1 b65), q1 (ng1 b65), q1 b66, q1 b66, q1 b66, q1 b66, q1 (ng1 b65), q1 b66, q1 (ng1 b65), q1 b67, q1 b67, q1 b67, q1 b67, q1 b67, q1 b67, q1 b67, q1 b67, q0 true] .ret [(2, vb false)] [] ⟨con199 t.n, tv⟩ fun a w hs => ?_
 refine then_ret ?_
 exact rK (.val (vb false)) [] hs (by rw [← fields_own]; simp only [fieldsF, badT, b1, b61, b62, b63, b64, b65, b66, b67]; first | done | rfl)
 have b68 : (t.kind != 6) = true := by rw [show t.kind = 2 from bne_eq_false_iff_eq.1 b1]; rfl
 rcases bd ((t.v.length : Int) > 0) with ⟨b69, n69⟩ | ⟨b69, n69⟩
 refine wL hs hI [(1, rg [(14, ciV 147 [.agg [vb t.n.neg, rwU t.n.m, vi t.n.e]] (vb (ownN t.n)))] [8, 9, 10, 11, 12, 13, 14, 15, 16, 1016, 19, 20, 21, 22, 23, 24, 25, 26, 1026, 27, 28, 29, 30, 31, 1031, 34, 35, 36, 37, 38, 39, 40, 41, 42, 1042, 45, 46, 47, 48, 49, 50, 51, 52, 1052, 53, 54, 55, 56, 57, 58, 1058] [4, 5, 1006, 1017, 1032, 1043, 1059])] (bz 1 1) 12172666666666666666666666666667337777733777777773377777777733777733777777773374377777773318 [q1 b1, q1 b1, q1 b1, q0 false, q0 false, q0 false, q0 false, q1 b61, q1 b61, q1 b61, q1 b61, q0 false, q1 b61, q0 false, q1 (ng1 b62), q1 (ng1 b62), q1 (ng1 b62), q1 (ng1 b62), q1 b63, q1 b63, q1 b63, q1 (ng1 b62), q1 b63, q1 (ng1 b62), q1 b64, q1 b64, q1 b64, q1 (ng1 b62), q1 b64, q1 (ng1 b62), q1 (ng1 b65), q1 (ng1 b65), q1 (ng1 b65), q1 (ng1 b65), q1 b66, q1 b66, q1 b66, q1 b66, q1 (ng1 b65), q1 b66, q1 (ng1 b65), q1 b67, q1 b67, q1 b67, q1 b67, q1 b66, q1 b66, q1 b66, q1 b67, q1 b66, q1 b67, q1 b68, q1 b68, q1 b68, q1 b68, q1 b67, q1 b68, q1 b67, q1 b69] .ret [(2, vb false)] [] ⟨con199 t.n, tv⟩ fun a w hs => ?_
 refine then_ret ?_
 exact rK (.val (vb false)) [] hs (by rw [← fields_own]; simp only [fieldsF, badT, b1, b61, b62, b63, b64, b65, b66, b67, b68, b69]; first | done | rfl)
 refine wL hs hI [(1, rg [(14, ciV 147 [.agg [vb t.n.neg, rwU t.n.m, vi t.n.e]] (vb (ownN t.n)))] [8, 9, 10, 11, 12, 13, 14, 15, 16, 1016, 19, 20, 21, 22, 23, 24, 25, 26, 1026, 27, 28, 29, 30, 31, 1031, 34, 35, 36, 37, 38, 39, 40, 41, 42, 1042, 45, 46, 47, 48, 49, 50, 51, 52, 1052, 53, 54, 55, 56, 57, 58, 1058] [4, 5, 1006, 1017, 1032, 1043, 1059])] (bz 1 0) 72666666666666666666666666667337777733777777773377777777733777733777777773374377777773318 [q1 b1, q1 b1, q1 b1, q0 false, q0 false, q0 false, q0 false, q1 b61, q1 b61, q1 b61, q1 b61, q0 false, q1 b61, q0 false, q1 (ng1 b62), q1 (ng1 b62), q1 (ng1 b62), q1 (ng1 b62), q1 b63, q1 b63, q1 b63, q1 (ng1 b62), q1 b63, q1 (ng1 b62), q1 b64, q1 b64, q1 b64, q1 (ng1 b62), q1 b64, q1 (ng1 b62), q1 (ng1 b65), q1 (ng1 b65), q1 (ng1 b65), q1 (ng1 b65), q1 b66, q1 b66, q1 b66, q1 b66, q1 (ng1 b65), q1 b66, q1 (ng1 b65), q1 b67, q1 b67, q1 b67, q1 b67, q1 b66, q1 b66, q1 b66, q1 b67, q1 b66, q1 b67, q1 b68, q1 b68, q1 b68, q1 b68, q1 b67, q1 b68, q1 b67, q1 b69] .norm [(1, .ptr 1000 0)] [(1000, bTr (t))] ⟨con199 t.n, tv⟩ fun a w hs => ?_
 refine then_norm ?_
 have b70 : (t.kind == 1) = false := by rw [show t.kind = 2 from bne_eq_false_iff_eq.1 b1]; rfl
 have b71 : (t.kind == 2) = true := by rw [show t.kind = 2 from bne_eq_false_iff_eq.1 b1]; rfl
 refine wN hs hI (bz 2 2) 12176079898 [q1 b70, q1 b71] .ret [(2, vb true)] [] fun a w hs => ?_
 exact rK (.val (vb true)) [] hs (by rw [← fields_own]; simp only [fieldsF, badT, b1, b61, b62, b63, b64, b65, b66, b67, b68, b69, b70, b71]; first | done | rfl)
 refine wL hs hI [(1, rg [(14, ciV 147 [.agg [vb t.n.neg, rwU t.n.m, vi t.n.e]] (vb (ownN t.n)))] [8, 9, 10, 11, 12, 13, 14, 15, 16, 1016, 19, 20, 21, 22, 23, 24, 25, 26, 1026, 27, 28, 29, 30, 31, 1031, 1043, 1059] [4, 5, 1006, 1017, 1032, 34, 35, 36, 37, 42, 45, 46, 47, 48, 52, 53, 58])] (bz 1 1) 121796666666666666666666673873073337387333733777733777777773374377777773318 [q1 b1, q1 b1, q1 b1, q0 false, q0 false, q0 false, q0 false, q1 b61, q1 b61, q1 b61, q1 b61, q0 false, q1 b61, q0 false, q1 (ng1 b62), q1 (ng1 b62), q1 (ng1 b62), q1 (ng1 b62), q1 b63, q1 b63, q1 b63, q1 (ng1 b62), q1 b63, q1 (ng1 b62), q1 b64, q1 b64, q1 b64, q1 (ng1 b62), q1 b64, q1 (ng1 b62), q1 (ng0 b65), q1 (ng0 b65), q1 (ng0 b65), q1 (ng0 b65), q1 (ng0 b65), q1 (ng0 b65), q0 true, q0 true, q0 true, q0 true, q0 true, q0 true, q0 true, q0 true, q0 true] .ret [(2, vb false)] [] ⟨con199 t.n, tv⟩ fun a w hs => ?_
 refine then_ret ?_
 exact rK (.val (vb false)) [] hs (by rw [← fields_own]; simp only [fieldsF, badT, b1, b61, b62, b63, b64, b65]; first | done | rfl)
 refine wL hs hI [(1, rg [(14, ciV 147 [.agg [vb t.n.neg, rwU t.n.m, vi t.n.e]] (vb (ownN t.n)))] [8, 9, 10, 11, 12, 13, 14, 15, 16, 1016, 1032, 1043, 1059] [4, 5, 1006, 1017, 19, 20, 21, 22, 26, 27, 31, 34, 35, 36, 37, 42, 45, 46, 47, 48, 52, 53, 58])] (bz 1 1) 121726666666666666666673873073337387333730730733373374377777773318 [q1 b1, q1 b1, q1 b1, q0 false, q0 false, q0 false, q0 false, q1 b61, q1 b61, q1 b61, q1 b61, q0 false, q1 b61, q0 false, q1 (ng0 b62), q1 (ng0 b62), q1 (ng0 b62), q1 (ng0 b62), q1 (ng0 b62), q1 (ng0 b62), q1 (ng0 b62), q1 (ng0 b62), q0 true, q0 true, q0 true, q0 true, q0 true, q0 true, q0 true, q0 true, q0 true, q0 true, q0 true, q0 true, q0 true, q0 true, q0 true] .ret [(2, vb false)] [] ⟨con199 t.n, tv⟩ fun a w hs => ?_
 refine then_ret ?_
 exact rK (.val (vb false)) [] hs (by rw [← fields_own]; simp only [fieldsF, badT, b1, b61, b62]; first | done | rfl)
mutual
def fineS : Tree → Prop
 | .mk _ _ _ s ks v => (s.size < 4294967281 ∧ ∀ x ∈ ks, x.size < 4294967281) ∧ fineSL v
def fineSL : List Tree → Prop
 | [] => True
 | t :: l => fineS t ∧ fineSL l
end
theorem fineS_eq (t : Tree) : fineS t ↔ (t.s.size < 4294967281 ∧ ∀ x ∈ t.k, x.size < 4294967281) ∧ fineSL t.v := by cases t; exact Iff.rfl
theorem fineS_mem : ∀ {l : List Tree} {x : Tree}, fineSL l → x ∈ l → fineS x
 | [], _, _, h => by simp at h
 | t :: l, x, hl, h => by
  rcases List.mem_cons.1 h with rfl | h
  exact hl.1
  exact fineS_mem hl.2 h
theorem fineS_at {t : Tree} (h : fineS t) {i : Nat} (hi : i < t.v.length) (d : Tree) : fineS (t.v.getD i d) := fineS_mem ((fineS_eq t).1 h).2 (getD_mem hi d)
theorem con95_ : ∀ (n : Nat) (t : Tree) (d n0 : Int), nodes t < n → fineT t → fineS t → 0 ≤ d → d ≤ 65 → 0 ≤ n0 → n0 ≤ 2000 → Con Tryz.prog I0 74 [.agg (encTree t), vi d, vi n0] (.val (vi (walkF t d n0))) := by
 intro n
 induction n
 case zero => intro t d n0 hn; omega
 rename_i n ih
 intro t d n0 hn hft hfs hd0 hd1 hn0 hn1
 obtain ⟨⟨hf1, hf2, hf3, hf4⟩, hf5⟩ := (fine_eq t).1 hft
 obtain ⟨⟨hg1, hg2⟩, hg3⟩ := (fineS_eq t).1 hfs
 refine con_of Tryz.func74 rfl (Nat.le_of_ble_eq_true rfl) stab (fun w0 fz a hI hs => ?_)
 refine wNs hs hI [] 8 [] [(1, vi d), (2, vi n0), (3, .ptr 1000 0)] [(1000, bTr (t))] fun a w hs => ?_
 refine wNs hs hI [] 171 [q3 (n0 + 1)] [(1, vi d), (2, vi (n0 + 1)), (3, .ptr 1000 0)] [(1000, bTr (t))] fun a w hs => ?_
 refine wp_seq ?_
 rcases bd ((n0 + 1) > 2000) with ⟨b1, n1⟩ | ⟨b1, n1⟩
 refine wL hs hI [(2, rg [] [1005, 1010] [3, 4, 7, 8, 9])] (bz 1 1) 1217296673337338 [q1 b1, q1 b1, q1 b1, q0 true, q0 true, q0 true, q0 true, q0 true] .ret [(6, vi (-1))] [] tv fun a w hs => ?_
 refine then_ret ?_
 exact rK (.val (vi (-1))) [] hs (by rw [walk_no (by first | exact .inl (by omega) | exact .inr (.inl (by omega)) | exact .inr (.inr rfl))])
 rcases bd (d > 64) with ⟨b2, n2⟩ | ⟨b2, n2⟩
 refine wL hs hI [(2, rg [] [3, 4, 1010] [1005, 7, 8, 9])] (bz 1 1) 1217266673337778 [q1 b1, q1 b1, q1 b1, q1 b2, q1 b2, q1 b2, q1 b2, q0 true] .ret [(6, vi (-1))] [] tv fun a w hs => ?_
 refine then_ret ?_
 exact rK (.val (vi (-1))) [] hs (by rw [walk_no (by first | exact .inl (by omega) | exact .inr (.inl (by omega)) | exact .inr (.inr rfl))])
 rcases bt (ownO t) with b3 | b3
 refine wL hs hI [(2, rg [(8, ciV 116 [aTr (t)] (vb (ownO t)))] [3, 4, 7, 8, 9] [1005, 1010])] (bz 1 0) 76666774377778 [q1 b1, q1 b1, q1 b1, q1 b2, q1 b2, q1 b2, q1 b2, q1 (ng1 b3)] .norm [(1, vi d), (2, vi (n0 + 1)), (3, .ptr 1000 0)] [(1000, bTr (t))] ⟨con150 t hf1 hf2 hf3 hg1 hg2, tv⟩ fun a w hs => ?_
 refine then_norm ?_
 refine wp_seq ?_
 refine wNs hs hI [] 11 [] [(1, vi d), (2, vi (n0 + 1)), (3, .ptr 1000 0), (7, vi 0)] [(1000, bTr (t))] fun a w hs => ?_
 refine wp_block ?_
 refine loop_L (N := Tryz.f74.ntmps) (w0 := w0) (ow := noO fz) (α := Nat × Int) (fun p => [(1, vi d), (2, vi p.2), (3, .ptr 1000 0), (7, vi ((p.1 : Nat) : Int))]) (fun p => [(1000, bTr (t))]) (fun p => WalkJ t.v d (n0 + 1) p.1 p.2) (fun p => t.v.length - p.1) (0, n0 + 1) ?_ ?_ ?_
 exact WalkJ.start (by omega) (by omega)
 exact (hs.cst [(1, vi d), (2, vi (n0 + 1)), (3, .ptr 1000 0), (7, vi ((0 : Nat) : Int))] [(1000, bTr (t))] rfl).rk [(1000, 1000)]
 rintro ⟨i, x⟩ hJ a w hs
 try dsimp only at hJ
 have hJl := hJ.le
 have hJh := hJ.hi
 have hJo := hJ.lo
 rcases bd ((i : Int) < (t.v.length : Int)) with ⟨b4, n4⟩ | ⟨b4, n4⟩
 rcases bd (x ≥ 0) with ⟨b5, n5⟩ | ⟨b5, n5⟩
 refine wL hs hI [(7, rc [(8, ciV 74 [aTr ((t.v.getD i (dflt .tree))), vi (d + 1), vi x] (vi (walkF (t.v.getD i (dflt .tree)) (d + 1) x)))]), (5, rg [] [6, 7, 1008] [])] (bz 1 1) 17196604717897296677788 [q1 b4, q1 b4, q1 b4, q1 b5, q4 (i : Int) t.v.length, q3 (d + 1), q3 ((i : Int) + 1)] .norm [(1, vi d), (2, vi (walkF (t.v.getD i (dflt .tree)) (d + 1) x)), (3, .ptr 1000 0), (7, vi ((i : Int) + 1))] [(1000, bTr (t))] ⟨ih _ _ _ (by have h1 := nodes_eq t; have h2 := nodes_at (l := t.v) (i := i) (by omega); omega) (fine_at hft (by omega) _) (fineS_at hfs (by omega) _) (by omega) (by omega) (by omega) (by omega), tv⟩ fun a w hs => ?_
 refine then_norm ⟨(i + 1, walkF (t.v.getD i (dflt .tree)) (d + 1) x), hJ.on (by omega) (by omega), by omega, ?_⟩
 (have e1_ : ((i : Int) + 1) = ((((i + 1) : Nat) : Int)) := (by first | rfl | (omega)); exact (hs.cst [(1, vi d), (2, vi (walkF (t.v.getD i (dflt .tree)) (d + 1) x)), (3, .ptr 1000 0), (7, vi (((i + 1) : Nat) : Int))] [(1000, bTr (t))] (by first | (rw [e1_]; done) | (simp only [e1_]; done) | rfl | (simp only [e1_]; rfl))).rk [(1000, 1000)])
 refine wL hs hI [(5, rg [] [6, 7, 1008] [])] (bz 1 0) 7296677788 [q1 b4, q1 b4, q1 b4, q1 b5] (.exit 0) [(2, vi x)] [] tv fun a w hs => ?_
 refine then_exit ?_
 refine inb_hit ?_
 refine then_norm ?_
 refine wN hs hI [] 198 [] .ret [(6, vi x)] [] fun a w hs => ?_
 exact rK (.val (vi x)) [] hs (by rw [hJ.fin (by omega) (by omega) (by omega) b3])
 refine wL hs hI [(5, rg [] [] [6, 7, 1008])] (bz 1 0) 726673388 [q1 b4, q1 b4, q1 b4, q0 false] (.exit 0) [(2, vi x)] [] tv fun a w hs => ?_
 refine then_exit ?_
 refine inb_hit ?_
 refine then_norm ?_
 refine wN hs hI [] 198 [] .ret [(6, vi x)] [] fun a w hs => ?_
 exact rK (.val (vi x)) [] hs (by rw [hJ.fin (by omega) (by omega) (by omega) b3])
 refine wL hs hI [(2, rg [(8, ciV 116 [aTr (t)] (vb (ownO t)))] [3, 4, 7, 8, 9] [1005, 1010])] (bz 1 1) 12176666774377778 [q1 b1, q1 b1, q1 b1, q1 b2, q1 b2, q1 b2, q1 b2, q1 (ng0 b3)] .ret [(6, vi (-1))] [] ⟨con150 t hf1 hf2 hf3 hg1 hg2, tv⟩ fun a w hs => ?_
 refine then_ret ?_
 exact rK (.val (vi (-1))) [] hs (by rw [walk_no (by first | exact .inl (by omega) | exact .inr (.inl (by omega)) | exact .inr (.inr b3))])
theorem con44 (t : Tree) (hft : fineT t) (hfs : fineS t) : Con Tryz.prog I0 39 [.agg (encTree t)] (.val (vb (validT t))) := by
 refine con_of Tryz.func39 rfl (Nat.le_of_ble_eq_true rfl) stab (fun w0 fz a hI hs => ?_)
 refine wL hs hI [(1, rc [(1, ciV 74 [aTr (t), vi 1, vi 0] (vi (walkF t 1 0)))])] [] 1684198 [] .ret [(2, vb (decide ((walkF t 1 0) ≥ 0)))] [] ⟨con95_ (nodes t + 1) t 1 0 (Nat.lt_succ_self _) hft hfs (by decide) (by decide) (by decide) (by decide), tv⟩ fun a w hs => ?_
 exact rK (.val (vb (decide ((walkF t 1 0) ≥ 0)))) [] hs (by rw [walk_valid])
theorem con64_ : ∀ (n : Nat) (t : Tree), nodes t < n → nodes t < 4611686018427387904 → Con Tryz.prog I0 84 [.agg (encTree t)] (.val (vi ((nodes t : Nat) : Int))) := by
 intro n
 induction n
 case zero => intro t hn; omega
 rename_i n ih
 intro t hn hw
 refine con_of Tryz.func84 rfl (Nat.le_of_ble_eq_true rfl) stab (fun w0 fz a hI hs => ?_)
 refine wNs hs hI [] 8 [] [(1, .ptr 1000 0)] [(1000, bTr (t))] fun a w hs => ?_
 refine wNs hs hI [] 11 [] [(1, .ptr 1000 0), (3, vi 1)] [(1000, bTr (t))] fun a w hs => ?_
 refine wp_seq ?_
 refine wNs hs hI [] 11 [] [(1, .ptr 1000 0), (3, vi 1), (4, vi 0)] [(1000, bTr (t))] fun a w hs => ?_
 refine wp_block ?_
 refine loop_L (N := Tryz.f84.ntmps) (w0 := w0) (ow := noO fz) (α := Nat) (fun p => [(1, .ptr 1000 0), (3, vi ((1 + nodesL (t.v.take p) : Nat) : Int)), (4, vi (p : Int))]) (fun p => [(1000, bTr (t))]) (fun p => p ≤ t.v.length) (fun p => t.v.length - p) 0 ?_ ?_ ?_
 exact Nat.zero_le _
 (have e0_ : (1) = (((1 + nodesL (t.v.take 0) : Nat) : Int)) := (by first | rfl | (simp only [List.take_zero, nodesL]; omega)); have e1_ : (0) = (((0 : Nat) : Int)) := (by first | rfl | (simp only [List.take_zero, nodesL]; omega)); exact (hs.cst [(1, .ptr 1000 0), (3, vi ((1 + nodesL (t.v.take 0) : Nat) : Int)), (4, vi ((0 : Nat) : Int))] [(1000, bTr (t))] (by first | (rw [e0_, e1_]; done) | (simp only [e0_, e1_]; done) | rfl | (simp only [e0_, e1_]; rfl))).rk [(1000, 1000)])
 rintro i hJ a w hs
 have hwt := nodes_eq t
 have hle := nodesL_le t.v i
 have hlen := nodesL_len t.v
 rcases bd ((i : Int) < (t.v.length : Int)) with ⟨b1, n1⟩ | ⟨b1, n1⟩
 have ht1 := nodesL_take t.v i (by omega)
 have hle1 := nodesL_le t.v (i + 1)
 refine wL hs hI [(5, rc [(6, ciV 84 [aTr ((t.v.getD i (dflt .tree)))] (vi ((nodes (t.v.getD i (dflt .tree)) : Nat) : Int)))])] (bz 1 1) 171266174718972688 [q1 b1, q4 (i : Int) t.v.length, q3 (((1 + nodesL (t.v.take i) : Nat) : Int) + ((nodes (t.v.getD i (dflt .tree)) : Nat) : Int)), q3 ((i : Int) + 1)] .norm [(1, .ptr 1000 0), (3, vi (((1 + nodesL (t.v.take i) : Nat) : Int) + ((nodes (t.v.getD i (dflt .tree)) : Nat) : Int))), (4, vi ((i : Int) + 1))] [(1000, bTr (t))] ⟨ih _ (by have h1 := nodes_eq t; have h2 := nodes_at (l := t.v) (i := i) (by omega); omega) (by have := weightL_take t.v i (by omega); have := weightL_le t.v (i + 1); have := nodesL_take t.v i (by omega); have := nodesL_le t.v (i + 1); have := weight_eq t; have := nodes_eq t; omega), tv⟩ fun a w hs => ?_
 refine then_norm ⟨i + 1, by omega, by omega, ?_⟩
 (have e0_ : (((1 + nodesL (t.v.take i) : Nat) : Int) + ((nodes (t.v.getD i (dflt .tree)) : Nat) : Int)) = (((1 + nodesL (t.v.take (i + 1)) : Nat) : Int)) := (by first | rfl | (omega)); have e1_ : ((i : Int) + 1) = ((((i + 1) : Nat) : Int)) := (by first | rfl | (omega)); exact (hs.cst [(1, .ptr 1000 0), (3, vi ((1 + nodesL (t.v.take (i + 1)) : Nat) : Int)), (4, vi (((i + 1) : Nat) : Int))] [(1000, bTr (t))] (by first | (rw [e0_, e1_]; done) | (simp only [e0_, e1_]; done) | rfl | (simp only [e0_, e1_]; rfl))).rk [(1000, 1000)])
 refine wN hs hI (bz 1 0) 72688 [q1 b1] (.exit 0) [(3, vi ((1 + nodesL (t.v.take i) : Nat) : Int))] [] fun a w hs => ?_
 refine then_exit ?_
 refine inb_hit ?_
 refine then_norm ?_
 refine wN hs hI [] 198 [] .ret [(2, vi ((1 + nodesL (t.v.take i) : Nat) : Int))] [] fun a w hs => ?_
 exact rK (.val (vi ((1 + nodesL (t.v.take i) : Nat) : Int))) [] hs (by have h1 := nodes_eq t; have h2 : t.v.take i = t.v := List.take_of_length_le (by omega); rw [h2, ← h1])
theorem con64 (t : Tree) (h : nodes t < 4611686018427387904) : Con Tryz.prog I0 84 [.agg (encTree t)] (.val (vi ((nodes t : Nat) : Int))) := con64_ (nodes t + 1) t (Nat.lt_succ_self _) h
theorem con66_ : ∀ (n : Nat) (t : Tree), nodes t < n → nodes t < 4611686018427387904 → Con Tryz.prog I0 85 [.agg (encTree t)] (.val (vi ((depth t : Nat) : Int))) := by
 intro n
 induction n
 case zero => intro t hn; omega
 rename_i n ih
 intro t hn hw
 refine con_of Tryz.func85 rfl (Nat.le_of_ble_eq_true rfl) stab (fun w0 fz a hI hs => ?_)
 refine wNs hs hI [] 8 [] [(1, .ptr 1000 0)] [(1000, bTr (t))] fun a w hs => ?_
 refine wNs hs hI [] 11 [] [(1, .ptr 1000 0), (3, vi 0)] [(1000, bTr (t))] fun a w hs => ?_
 refine wp_seq ?_
 refine wNs hs hI [] 11 [] [(1, .ptr 1000 0), (3, vi 0), (4, vi 0)] [(1000, bTr (t))] fun a w hs => ?_
 refine wp_block ?_
 refine loop_L (N := Tryz.f85.ntmps) (w0 := w0) (ow := noO fz) (α := Nat) (fun p => [(1, .ptr 1000 0), (3, vi ((depthL (t.v.take p) : Nat) : Int)), (4, vi (p : Int))]) (fun p => [(1000, bTr (t))]) (fun p => p ≤ t.v.length) (fun p => t.v.length - p) 0 ?_ ?_ ?_
 exact Nat.zero_le _
 exact (hs.cst [(1, .ptr 1000 0), (3, vi ((depthL (t.v.take 0) : Nat) : Int)), (4, vi ((0 : Nat) : Int))] [(1000, bTr (t))] rfl).rk [(1000, 1000)]
 rintro i hJ a w hs
 have hwt := nodes_eq t
 have hlen := nodesL_len t.v
 have hdl := depthL_le (t.v.take i)
 have hle := nodesL_le t.v i
 rcases bd ((i : Int) < (t.v.length : Int)) with ⟨b1, n1⟩ | ⟨b1, n1⟩
 have ht1 := depthL_take t.v i (by omega)
 refine wL hs hI [(5, rc [(6, ciV 85 [aTr ((t.v.getD i (dflt .tree)))] (vi ((depth (t.v.getD i (dflt .tree)) : Nat) : Int)))])] (bz 1 1) 17126684718972688 [q1 b1, q4 (i : Int) t.v.length, q3 ((i : Int) + 1)] .norm [(1, .ptr 1000 0), (3, vi (max ((depthL (t.v.take i) : Nat) : Int) ((depth (t.v.getD i (dflt .tree)) : Nat) : Int))), (4, vi ((i : Int) + 1))] [(1000, bTr (t))] ⟨ih _ (by have h1 := nodes_eq t; have h2 := nodes_at (l := t.v) (i := i) (by omega); omega) (by have := weightL_take t.v i (by omega); have := weightL_le t.v (i + 1); have := nodesL_take t.v i (by omega); have := nodesL_le t.v (i + 1); have := weight_eq t; have := nodes_eq t; omega), tv⟩ fun a w hs => ?_
 refine then_norm ⟨i + 1, by omega, by omega, ?_⟩
 (have e0_ : (max ((depthL (t.v.take i) : Nat) : Int) ((depth (t.v.getD i (dflt .tree)) : Nat) : Int)) = (((depthL (t.v.take (i + 1)) : Nat) : Int)) := (by first | rfl | (omega)); have e1_ : ((i : Int) + 1) = ((((i + 1) : Nat) : Int)) := (by first | rfl | (omega)); exact (hs.cst [(1, .ptr 1000 0), (3, vi ((depthL (t.v.take (i + 1)) : Nat) : Int)), (4, vi (((i + 1) : Nat) : Int))] [(1000, bTr (t))] (by first | (rw [e0_, e1_]; done) | (simp only [e0_, e1_]; done) | rfl | (simp only [e0_, e1_]; rfl))).rk [(1000, 1000)])
 refine wN hs hI (bz 1 0) 72688 [q1 b1] (.exit 0) [(3, vi ((depthL (t.v.take i) : Nat) : Int))] [] fun a w hs => ?_
 refine then_exit ?_
 refine inb_hit ?_
 refine then_norm ?_
 refine wN hs hI [] 129171 [q3 (((depthL (t.v.take i) : Nat) : Int) + 1)] .ret [(2, vi (((depthL (t.v.take i) : Nat) : Int) + 1))] [] fun a w hs => ?_
 exact rK (.val (vi (((depthL (t.v.take i) : Nat) : Int) + 1))) [] hs (by have h1 := depth_eq t; have h2 : t.v.take i = t.v := List.take_of_length_le (by omega); rw [h2, show (((depthL t.v : Nat) : Int) + 1) = ((depth t : Nat) : Int) by omega])
theorem con66 (t : Tree) (h : nodes t < 4611686018427387904) : Con Tryz.prog I0 85 [.agg (encTree t)] (.val (vi ((depth t : Nat) : Int))) := con66_ (nodes t + 1) t (Nat.lt_succ_self _) h
theorem con143_ : ∀ (n : Nat) (t : Tree), nodes t < n → weight t < 4611686018427387904 → Con Tryz.prog I0 78 [.agg (encTree t)] (.val (vi ((weight t : Nat) : Int))) := by
 intro n
 induction n
 case zero => intro t hn; omega
 rename_i n ih
 intro t hn hw
 have hb : weight t = bulk t + weightL t.v := weight_eq t
 refine con_of Tryz.func78 rfl (Nat.le_of_ble_eq_true rfl) stab (fun w0 fz a hI hs => ?_)
 refine wNs hs hI [] 8 [] [(1, .ptr 1000 0)] [(1000, bTr (t))] fun a w hs => ?_
 refine wNs hs hI [] 11 [] [(1, .ptr 1000 0), (3, vi 1)] [(1000, bTr (t))] fun a w hs => ?_
 refine wp_seq ?_
 rcases bq (t.kind) (3) with ⟨b1, n1⟩ | ⟨b1, n1⟩
 have hq := bulk_3 (t := t) (by assumption)
 refine wN hs hI (bz 1 1) 171879898 [q1 b1, q3 (1 + (t.n.m.length : Int))] .norm [(1, .ptr 1000 0), (3, vi (1 + (t.n.m.length : Int)))] [(1000, bTr (t))] fun a w hs => ?_
 refine then_norm ?_
 refine wp_seq ?_
 refine wNs hs hI [] 11 [] [(1, .ptr 1000 0), (3, vi (1 + (t.n.m.length : Int))), (4, vi 0)] [(1000, bTr (t))] fun a w hs => ?_
 refine wp_block ?_
 refine loop_L (N := Tryz.f78.ntmps) (w0 := w0) (ow := noO fz) (α := Nat) (fun p => [(1, .ptr 1000 0), (3, vi ((bulk t + weightL (t.v.take p) : Nat) : Int)), (4, vi (p : Int))]) (fun p => [(1000, bTr (t))]) (fun p => p ≤ t.v.length) (fun p => t.v.length - p) 0 ?_ ?_ ?_
 exact Nat.zero_le _
 (have e0_ : (1 + (t.n.m.length : Int)) = (((bulk t + weightL (t.v.take 0) : Nat) : Int)) := (by first | rfl | (simp only [List.take_zero, weightL]; first | omega | (rw [bulk_0 (by assumption) (by assumption) (by assumption)]; rfl))); have e1_ : (0) = (((0 : Nat) : Int)) := (by first | rfl | (simp only [List.take_zero, weightL]; first | omega | (rw [bulk_0 (by assumption) (by assumption) (by assumption)]; rfl))); exact (hs.cst [(1, .ptr 1000 0), (3, vi ((bulk t + weightL (t.v.take 0) : Nat) : Int)), (4, vi ((0 : Nat) : Int))] [(1000, bTr (t))] (by first | (rw [e0_, e1_]; done) | (simp only [e0_, e1_]; done) | rfl | (simp only [e0_, e1_]; rfl))).rk [(1000, 1000)])
 rintro i hJ a w hs
 have hwt := weight_eq t
 have hle := weightL_le t.v i
 have hlen := weightL_len t.v
 rcases bd ((i : Int) < (t.v.length : Int)) with ⟨b2, n2⟩ | ⟨b2, n2⟩
 have ht1 := weightL_take t.v i (by omega)
 have hle1 := weightL_le t.v (i + 1)
 refine wL hs hI [(11, rc [(6, ciV 78 [aTr ((t.v.getD i (dflt .tree)))] (vi ((weight (t.v.getD i (dflt .tree)) : Nat) : Int)))])] (bz 1 1) 171266174718972688 [q1 b2, q4 (i : Int) t.v.length, q3 (((bulk t + weightL (t.v.take i) : Nat) : Int) + ((weight (t.v.getD i (dflt .tree)) : Nat) : Int)), q3 ((i : Int) + 1)] .norm [(1, .ptr 1000 0), (3, vi (((bulk t + weightL (t.v.take i) : Nat) : Int) + ((weight (t.v.getD i (dflt .tree)) : Nat) : Int))), (4, vi ((i : Int) + 1))] [(1000, bTr (t))] ⟨ih _ (by have h1 := nodes_eq t; have h2 := nodes_at (l := t.v) (i := i) (by omega); omega) (by have := weightL_take t.v i (by omega); have := weightL_le t.v (i + 1); have := nodesL_take t.v i (by omega); have := nodesL_le t.v (i + 1); have := weight_eq t; have := nodes_eq t; omega), tv⟩ fun a w hs => ?_
 refine then_norm ⟨i + 1, by omega, by omega, ?_⟩
 (have e0_ : (((bulk t + weightL (t.v.take i) : Nat) : Int) + ((weight (t.v.getD i (dflt .tree)) : Nat) : Int)) = (((bulk t + weightL (t.v.take (i + 1)) : Nat) : Int)) := (by first | rfl | (omega)); have e1_ : ((i : Int) + 1) = ((((i + 1) : Nat) : Int)) := (by first | rfl | (omega)); exact (hs.cst [(1, .ptr 1000 0), (3, vi ((bulk t + weightL (t.v.take (i + 1)) : Nat) : Int)), (4, vi (((i + 1) : Nat) : Int))] [(1000, bTr (t))] (by first | (rw [e0_, e1_]; done) | (simp only [e0_, e1_]; done) | rfl | (simp only [e0_, e1_]; rfl))).rk [(1000, 1000)])
 refine wN hs hI (bz 1 0) 72688 [q1 b2] (.exit 1) [(3, vi ((bulk t + weightL (t.v.take i) : Nat) : Int))] [] fun a w hs => ?_
 refine then_exit ?_
 refine inb_hit ?_
 refine then_norm ?_
 refine wN hs hI [] 198 [] .ret [(2, vi ((bulk t + weightL (t.v.take i) : Nat) : Int))] [] fun a w hs => ?_
 exact rK (.val (vi ((bulk t + weightL (t.v.take i) : Nat) : Int))) [] hs (by have h1 := weight_eq t; have h2 : t.v.take i = t.v := List.take_of_length_le (by omega); rw [h2, ← h1])
 rcases bq (t.kind) (4) with ⟨b3, n3⟩ | ⟨b3, n3⟩
 have hq := bulk_4 (t := t) (by assumption)
 refine wN hs hI (bz 3 6) 1787979079898 [q1 b1, q1 b3, q1 b3, q3 (1 + (t.s.size : Int))] .norm [(1, .ptr 1000 0), (3, vi (1 + (t.s.size : Int)))] [(1000, bTr (t))] fun a w hs => ?_
 refine then_norm ?_
 refine wp_seq ?_
 refine wNs hs hI [] 11 [] [(1, .ptr 1000 0), (3, vi (1 + (t.s.size : Int))), (4, vi 0)] [(1000, bTr (t))] fun a w hs => ?_
 refine wp_block ?_
 refine loop_L (N := Tryz.f78.ntmps) (w0 := w0) (ow := noO fz) (α := Nat) (fun p => [(1, .ptr 1000 0), (3, vi ((bulk t + weightL (t.v.take p) : Nat) : Int)), (4, vi (p : Int))]) (fun p => [(1000, bTr (t))]) (fun p => p ≤ t.v.length) (fun p => t.v.length - p) 0 ?_ ?_ ?_
 exact Nat.zero_le _
 (have e0_ : (1 + (t.s.size : Int)) = (((bulk t + weightL (t.v.take 0) : Nat) : Int)) := (by first | rfl | (simp only [List.take_zero, weightL]; first | omega | (rw [bulk_0 (by assumption) (by assumption) (by assumption)]; rfl))); have e1_ : (0) = (((0 : Nat) : Int)) := (by first | rfl | (simp only [List.take_zero, weightL]; first | omega | (rw [bulk_0 (by assumption) (by assumption) (by assumption)]; rfl))); exact (hs.cst [(1, .ptr 1000 0), (3, vi ((bulk t + weightL (t.v.take 0) : Nat) : Int)), (4, vi ((0 : Nat) : Int))] [(1000, bTr (t))] (by first | (rw [e0_, e1_]; done) | (simp only [e0_, e1_]; done) | rfl | (simp only [e0_, e1_]; rfl))).rk [(1000, 1000)])
 rintro i hJ a w hs
 have hwt := weight_eq t
 have hle := weightL_le t.v i
 have hlen := weightL_len t.v
 rcases bd ((i : Int) < (t.v.length : Int)) with ⟨b4, n4⟩ | ⟨b4, n4⟩
 have ht1 := weightL_take t.v i (by omega)
 have hle1 := weightL_le t.v (i + 1)
 refine wL hs hI [(11, rc [(6, ciV 78 [aTr ((t.v.getD i (dflt .tree)))] (vi ((weight (t.v.getD i (dflt .tree)) : Nat) : Int)))])] (bz 1 1) 171266174718972688 [q1 b4, q4 (i : Int) t.v.length, q3 (((bulk t + weightL (t.v.take i) : Nat) : Int) + ((weight (t.v.getD i (dflt .tree)) : Nat) : Int)), q3 ((i : Int) + 1)] .norm [(1, .ptr 1000 0), (3, vi (((bulk t + weightL (t.v.take i) : Nat) : Int) + ((weight (t.v.getD i (dflt .tree)) : Nat) : Int))), (4, vi ((i : Int) + 1))] [(1000, bTr (t))] ⟨ih _ (by have h1 := nodes_eq t; have h2 := nodes_at (l := t.v) (i := i) (by omega); omega) (by have := weightL_take t.v i (by omega); have := weightL_le t.v (i + 1); have := nodesL_take t.v i (by omega); have := nodesL_le t.v (i + 1); have := weight_eq t; have := nodes_eq t; omega), tv⟩ fun a w hs => ?_
 refine then_norm ⟨i + 1, by omega, by omega, ?_⟩
 (have e0_ : (((bulk t + weightL (t.v.take i) : Nat) : Int) + ((weight (t.v.getD i (dflt .tree)) : Nat) : Int)) = (((bulk t + weightL (t.v.take (i + 1)) : Nat) : Int)) := (by first | rfl | (omega)); have e1_ : ((i : Int) + 1) = ((((i + 1) : Nat) : Int)) := (by first | rfl | (omega)); exact (hs.cst [(1, .ptr 1000 0), (3, vi ((bulk t + weightL (t.v.take (i + 1)) : Nat) : Int)), (4, vi (((i + 1) : Nat) : Int))] [(1000, bTr (t))] (by first | (rw [e0_, e1_]; done) | (simp only [e0_, e1_]; done) | rfl | (simp only [e0_, e1_]; rfl))).rk [(1000, 1000)])
 refine wN hs hI (bz 1 0) 72688 [q1 b4] (.exit 1) [(3, vi ((bulk t + weightL (t.v.take i) : Nat) : Int))] [] fun a w hs => ?_
 refine then_exit ?_
 refine inb_hit ?_
 refine then_norm ?_
 refine wN hs hI [] 198 [] .ret [(2, vi ((bulk t + weightL (t.v.take i) : Nat) : Int))] [] fun a w hs => ?_
 exact rK (.val (vi ((bulk t + weightL (t.v.take i) : Nat) : Int))) [] hs (by have h1 := weight_eq t; have h2 : t.v.take i = t.v := List.take_of_length_le (by omega); rw [h2, ← h1])
 rcases bq (t.kind) (5) with ⟨b5, n5⟩ | ⟨b5, n5⟩
 have hq := bulk_5 (t := t) (by assumption)
 refine wN hs hI (bz 3 4) 17876079079898 [q1 b1, q1 b3, q1 b5, q3 (1 + (t.s.size : Int))] .norm [(1, .ptr 1000 0), (3, vi (1 + (t.s.size : Int)))] [(1000, bTr (t))] fun a w hs => ?_
 refine then_norm ?_
 refine wp_seq ?_
 refine wNs hs hI [] 11 [] [(1, .ptr 1000 0), (3, vi (1 + (t.s.size : Int))), (4, vi 0)] [(1000, bTr (t))] fun a w hs => ?_
 refine wp_block ?_
 refine loop_L (N := Tryz.f78.ntmps) (w0 := w0) (ow := noO fz) (α := Nat) (fun p => [(1, .ptr 1000 0), (3, vi ((bulk t + weightL (t.v.take p) : Nat) : Int)), (4, vi (p : Int))]) (fun p => [(1000, bTr (t))]) (fun p => p ≤ t.v.length) (fun p => t.v.length - p) 0 ?_ ?_ ?_
 exact Nat.zero_le _
 (have e0_ : (1 + (t.s.size : Int)) = (((bulk t + weightL (t.v.take 0) : Nat) : Int)) := (by first | rfl | (simp only [List.take_zero, weightL]; first | omega | (rw [bulk_0 (by assumption) (by assumption) (by assumption)]; rfl))); have e1_ : (0) = (((0 : Nat) : Int)) := (by first | rfl | (simp only [List.take_zero, weightL]; first | omega | (rw [bulk_0 (by assumption) (by assumption) (by assumption)]; rfl))); exact (hs.cst [(1, .ptr 1000 0), (3, vi ((bulk t + weightL (t.v.take 0) : Nat) : Int)), (4, vi ((0 : Nat) : Int))] [(1000, bTr (t))] (by first | (rw [e0_, e1_]; done) | (simp only [e0_, e1_]; done) | rfl | (simp only [e0_, e1_]; rfl))).rk [(1000, 1000)])
 rintro i hJ a w hs
 have hwt := weight_eq t
 have hle := weightL_le t.v i
 have hlen := weightL_len t.v
 rcases bd ((i : Int) < (t.v.length : Int)) with ⟨b6, n6⟩ | ⟨b6, n6⟩
 have ht1 := weightL_take t.v i (by omega)
 have hle1 := weightL_le t.v (i + 1)
 refine wL hs hI [(11, rc [(6, ciV 78 [aTr ((t.v.getD i (dflt .tree)))] (vi ((weight (t.v.getD i (dflt .tree)) : Nat) : Int)))])] (bz 1 1) 171266174718972688 [q1 b6, q4 (i : Int) t.v.length, q3 (((bulk t + weightL (t.v.take i) : Nat) : Int) + ((weight (t.v.getD i (dflt .tree)) : Nat) : Int)), q3 ((i : Int) + 1)] .norm [(1, .ptr 1000 0), (3, vi (((bulk t + weightL (t.v.take i) : Nat) : Int) + ((weight (t.v.getD i (dflt .tree)) : Nat) : Int))), (4, vi ((i : Int) + 1))] [(1000, bTr (t))] ⟨ih _ (by have h1 := nodes_eq t; have h2 := nodes_at (l := t.v) (i := i) (by omega); omega) (by have := weightL_take t.v i (by omega); have := weightL_le t.v (i + 1); have := nodesL_take t.v i (by omega); have := nodesL_le t.v (i + 1); have := weight_eq t; have := nodes_eq t; omega), tv⟩ fun a w hs => ?_
 refine then_norm ⟨i + 1, by omega, by omega, ?_⟩
 (have e0_ : (((bulk t + weightL (t.v.take i) : Nat) : Int) + ((weight (t.v.getD i (dflt .tree)) : Nat) : Int)) = (((bulk t + weightL (t.v.take (i + 1)) : Nat) : Int)) := (by first | rfl | (omega)); have e1_ : ((i : Int) + 1) = ((((i + 1) : Nat) : Int)) := (by first | rfl | (omega)); exact (hs.cst [(1, .ptr 1000 0), (3, vi ((bulk t + weightL (t.v.take (i + 1)) : Nat) : Int)), (4, vi (((i + 1) : Nat) : Int))] [(1000, bTr (t))] (by first | (rw [e0_, e1_]; done) | (simp only [e0_, e1_]; done) | rfl | (simp only [e0_, e1_]; rfl))).rk [(1000, 1000)])
 refine wN hs hI (bz 1 0) 72688 [q1 b6] (.exit 1) [(3, vi ((bulk t + weightL (t.v.take i) : Nat) : Int))] [] fun a w hs => ?_
 refine then_exit ?_
 refine inb_hit ?_
 refine then_norm ?_
 refine wN hs hI [] 198 [] .ret [(2, vi ((bulk t + weightL (t.v.take i) : Nat) : Int))] [] fun a w hs => ?_
 exact rK (.val (vi ((bulk t + weightL (t.v.take i) : Nat) : Int))) [] hs (by have h1 := weight_eq t; have h2 : t.v.take i = t.v := List.take_of_length_le (by omega); rw [h2, ← h1])
 refine wN hs hI (bz 3 0) 76079079898 [q1 b1, q1 b3, q1 b5] .norm [(1, .ptr 1000 0), (3, vi 1)] [(1000, bTr (t))] fun a w hs => ?_
 refine then_norm ?_
 refine wp_seq ?_
 refine wNs hs hI [] 11 [] [(1, .ptr 1000 0), (3, vi 1), (4, vi 0)] [(1000, bTr (t))] fun a w hs => ?_
 refine wp_block ?_
 refine loop_L (N := Tryz.f78.ntmps) (w0 := w0) (ow := noO fz) (α := Nat) (fun p => [(1, .ptr 1000 0), (3, vi ((bulk t + weightL (t.v.take p) : Nat) : Int)), (4, vi (p : Int))]) (fun p => [(1000, bTr (t))]) (fun p => p ≤ t.v.length) (fun p => t.v.length - p) 0 ?_ ?_ ?_
 exact Nat.zero_le _
 (have e0_ : (1) = (((bulk t + weightL (t.v.take 0) : Nat) : Int)) := (by first | rfl | (simp only [List.take_zero, weightL]; first | omega | (rw [bulk_0 (by assumption) (by assumption) (by assumption)]; rfl))); have e1_ : (0) = (((0 : Nat) : Int)) := (by first | rfl | (simp only [List.take_zero, weightL]; first | omega | (rw [bulk_0 (by assumption) (by assumption) (by assumption)]; rfl))); exact (hs.cst [(1, .ptr 1000 0), (3, vi ((bulk t + weightL (t.v.take 0) : Nat) : Int)), (4, vi ((0 : Nat) : Int))] [(1000, bTr (t))] (by first | (rw [e0_, e1_]; done) | (simp only [e0_, e1_]; done) | rfl | (simp only [e0_, e1_]; rfl))).rk [(1000, 1000)])
 rintro i hJ a w hs
 have hwt := weight_eq t
 have hle := weightL_le t.v i
 have hlen := weightL_len t.v
 rcases bd ((i : Int) < (t.v.length : Int)) with ⟨b7, n7⟩ | ⟨b7, n7⟩
 have ht1 := weightL_take t.v i (by omega)
 have hle1 := weightL_le t.v (i + 1)
 refine wL hs hI [(11, rc [(6, ciV 78 [aTr ((t.v.getD i (dflt .tree)))] (vi ((weight (t.v.getD i (dflt .tree)) : Nat) : Int)))])] (bz 1 1) 171266174718972688 [q1 b7, q4 (i : Int) t.v.length, q3 (((bulk t + weightL (t.v.take i) : Nat) : Int) + ((weight (t.v.getD i (dflt .tree)) : Nat) : Int)), q3 ((i : Int) + 1)] .norm [(1, .ptr 1000 0), (3, vi (((bulk t + weightL (t.v.take i) : Nat) : Int) + ((weight (t.v.getD i (dflt .tree)) : Nat) : Int))), (4, vi ((i : Int) + 1))] [(1000, bTr (t))] ⟨ih _ (by have h1 := nodes_eq t; have h2 := nodes_at (l := t.v) (i := i) (by omega); omega) (by have := weightL_take t.v i (by omega); have := weightL_le t.v (i + 1); have := nodesL_take t.v i (by omega); have := nodesL_le t.v (i + 1); have := weight_eq t; have := nodes_eq t; omega), tv⟩ fun a w hs => ?_
 refine then_norm ⟨i + 1, by omega, by omega, ?_⟩
 (have e0_ : (((bulk t + weightL (t.v.take i) : Nat) : Int) + ((weight (t.v.getD i (dflt .tree)) : Nat) : Int)) = (((bulk t + weightL (t.v.take (i + 1)) : Nat) : Int)) := (by first | rfl | (omega)); have e1_ : ((i : Int) + 1) = ((((i + 1) : Nat) : Int)) := (by first | rfl | (omega)); exact (hs.cst [(1, .ptr 1000 0), (3, vi ((bulk t + weightL (t.v.take (i + 1)) : Nat) : Int)), (4, vi (((i + 1) : Nat) : Int))] [(1000, bTr (t))] (by first | (rw [e0_, e1_]; done) | (simp only [e0_, e1_]; done) | rfl | (simp only [e0_, e1_]; rfl))).rk [(1000, 1000)])
 refine wN hs hI (bz 1 0) 72688 [q1 b7] (.exit 1) [(3, vi ((bulk t + weightL (t.v.take i) : Nat) : Int))] [] fun a w hs => ?_
 refine then_exit ?_
 refine inb_hit ?_
 refine then_norm ?_
 refine wN hs hI [] 198 [] .ret [(2, vi ((bulk t + weightL (t.v.take i) : Nat) : Int))] [] fun a w hs => ?_
 exact rK (.val (vi ((bulk t + weightL (t.v.take i) : Nat) : Int))) [] hs (by have h1 := weight_eq t; have h2 : t.v.take i = t.v := List.take_of_length_le (by omega); rw [h2, ← h1])
theorem con143 (t : Tree) (h : weight t < 4611686018427387904) : Con Tryz.prog I0 78 [.agg (encTree t)] (.val (vi ((weight t : Nat) : Int))) := con143_ (nodes t + 1) t (Nat.lt_succ_self _) h
theorem few_no {t : Tree} {i : Nat} (hi : i < t.v.length) (h : fewT (t.v.getD i (dflt .tree)) = false) : fewT t = false := by
 rw [fewT_eq, fewL_any, List.any_eq_true.2 ⟨_, getD_mem hi (dflt .tree), by rw [h]; rfl⟩]; simp
theorem few_yes {t : Tree} (h : ∀ j, j < t.v.length → fewT (t.v.getD j (dflt .tree)) = true) : decide ((t.v.length : Int) > 300) = !fewT t := by
 have h2 : (t.v.any fun t => !fewT t) = false := by
  rw [List.any_eq_false]
  intro x hx
  obtain ⟨j, hj, rfl⟩ := List.mem_iff_getElem.1 hx
  have := h j hj
  rw [List.getD_eq_getElem?_getD, List.getElem?_eq_getElem hj] at this
  simpa using this
 rw [fewT_eq, fewL_any, h2, Bool.eq_iff_iff]; simp
def fitF (t : Tree) (w : Int) : Bool := decide (((weight t : Nat) : Int) ≤ w) && (decide (((nodes t : Nat) : Int) ≤ 2000) && (decide (((depth t : Nat) : Int) ≤ 64) && fewT t))
theorem con144_ : ∀ (n : Nat) (t : Tree), nodes t < n → nodes t < 4611686018427387904 → Con Tryz.prog I0 127 [.agg (encTree t)] (.val (vb (!fewT t))) := by
 intro n
 induction n
 case zero => intro t hn; omega
 rename_i n ih
 intro t hn hw
 have hnl := nodesL_len t.v
 have hne := nodes_eq t
 refine con_of Tryz.func127 rfl (Nat.le_of_ble_eq_true rfl) stab (fun w0 fz a hI hs => ?_)
 refine wNs hs hI [] 8 [] [(1, .ptr 1000 0)] [(1000, bTr (t))] fun a w hs => ?_
 refine wp_seq ?_
 refine wNs hs hI [] 11 [] [(1, .ptr 1000 0), (3, vi 0)] [(1000, bTr (t))] fun a w hs => ?_
 refine wp_block ?_
 refine loop_L (N := Tryz.f127.ntmps) (w0 := w0) (ow := noO fz) (α := Nat) (fun p => [(1, .ptr 1000 0), (3, vi (p : Int))]) (fun p => [(1000, bTr (t))]) (fun p => p ≤ t.v.length ∧ ∀ j, j < p → fewT (t.v.getD j (dflt .tree)) = true) (fun p => t.v.length - p) 0 ?_ ?_ ?_
 exact ⟨Nat.zero_le _, fun j hj => absurd hj (Nat.not_lt_zero _)⟩
 exact (hs.cst [(1, .ptr 1000 0), (3, vi ((0 : Nat) : Int))] [(1000, bTr (t))] rfl).rk [(1000, 1000)]
 rintro i hJ a w hs
 obtain ⟨hi, hall⟩ := hJ
 rcases bd ((i : Int) < (t.v.length : Int)) with ⟨b1, n1⟩ | ⟨b1, n1⟩
 rcases bt (!fewT (t.v.getD i (dflt .tree))) with b2 | b2
 refine wL hs hI [(4, rc [(5, ciV 127 [aTr ((t.v.getD i (dflt .tree)))] (vb (!fewT (t.v.getD i (dflt .tree)))))])] (bz 2 3) 1217961478972688 [q1 b1, q4 (i : Int) t.v.length, q1 b2] .ret [(2, vb true)] [] ⟨ih _ (by have h1 := nodes_eq t; have h2 := nodes_at (l := t.v) (i := i) (by omega); omega) (by have h1 := nodes_eq t; have h2 := nodes_at (l := t.v) (i := i) (by omega); omega), tv⟩ fun a w hs => ?_
 refine then_ret ?_
 refine inb_ret ?_
 refine then_ret ?_
 exact rK (.val (vb true)) [] hs (by rw [few_no (i := i) (by omega) (by simpa using b2)]; rfl)
 refine wL hs hI [(4, rc [(5, ciV 127 [aTr ((t.v.getD i (dflt .tree)))] (vb (!fewT (t.v.getD i (dflt .tree)))))])] (bz 2 1) 17197961478972688 [q1 b1, q4 (i : Int) t.v.length, q1 b2, q3 ((i : Int) + 1)] .norm [(1, .ptr 1000 0), (3, vi ((i : Int) + 1))] [(1000, bTr (t))] ⟨ih _ (by have h1 := nodes_eq t; have h2 := nodes_at (l := t.v) (i := i) (by omega); omega) (by have h1 := nodes_eq t; have h2 := nodes_at (l := t.v) (i := i) (by omega); omega), tv⟩ fun a w hs => ?_
 refine then_norm ⟨i + 1, ⟨by omega, fun j hj => by rcases Nat.lt_succ_iff_lt_or_eq.1 hj with h | h; exact hall j h; subst h; simpa using b2⟩, by omega, ?_⟩
 exact hs.rk [(1000, 1000)]
 refine wN hs hI (bz 1 0) 72688 [q1 b1] (.exit 0) [(1, .ptr 1000 0)] [(1000, bTr (t))] fun a w hs => ?_
 refine then_exit ?_
 refine inb_hit ?_
 refine then_norm ?_
 refine wN hs hI [] 12688 [] .ret [(2, vb (decide ((t.v.length : Int) > 300)))] [] fun a w hs => ?_
 exact rK (.val (vb (decide ((t.v.length : Int) > 300)))) [] hs (by rw [few_yes (fun j hj => hall j (by omega))])
theorem con87 (t : Tree) (w_ : Int) (hw : weight t < 4611686018427387904) (hn : nodes t < 4611686018427387904) : Con Tryz.prog I0 93 [.agg (encTree t), vi w_] (.val (vb (fitF t w_))) := by
 refine con_of Tryz.func93 rfl (Nat.le_of_ble_eq_true rfl) stab (fun w0 fz a hI hs => ?_)
 rcases bd (((weight t : Nat) : Int) ≤ w_) with ⟨b1, n1⟩ | ⟨b1, n1⟩
 rcases bd (((nodes t : Nat) : Int) ≤ 2000) with ⟨b2, n2⟩ | ⟨b2, n2⟩
 rcases bd (((depth t : Nat) : Int) ≤ 64) with ⟨b3, n3⟩ | ⟨b3, n3⟩
 refine wL hs hI [(1, rg [(1, ciV 78 [aTr (t)] (vi ((weight t : Nat) : Int))), (6, ciV 84 [aTr (t)] (vi ((nodes t : Nat) : Int))), (11, ciV 85 [aTr (t)] (vi ((depth t : Nat) : Int))), (16, ciV 127 [aTr (t)] (vb (!fewT t)))] [5, 6, 7, 1008, 10, 11, 12, 1013, 15, 16, 17, 1018] [])] [] 126666666177437774377743784198 [q1 b1, q1 b1, q1 b1, q1 b1, q1 b2, q1 b2, q1 b2, q1 b2, q1 b3, q1 b3, q1 b3, q1 b3] .ret [(4, vb (!(!fewT t)))] [] ⟨con143 t (by omega), con64 t (by omega), con66 t (by omega), con144_ (nodes t + 1) t (Nat.lt_succ_self _) (by omega), tv⟩ fun a w hs => ?_
 exact rK (.val (vb (!(!fewT t)))) [] hs (by simp only [fitF, b1, b2, b3, Bool.true_and, Bool.false_and, Bool.not_true, Bool.not_false, Bool.and_false, Bool.and_true, Bool.not_not])
 refine wL hs hI [(1, rg [(1, ciV 78 [aTr (t)] (vi ((weight t : Nat) : Int))), (6, ciV 84 [aTr (t)] (vi ((nodes t : Nat) : Int))), (11, ciV 85 [aTr (t)] (vi ((depth t : Nat) : Int)))] [5, 6, 7, 1008, 10, 11, 12, 1013] [15, 16, 17, 1018])] [] 1966666617333774377743784198 [q1 b1, q1 b1, q1 b1, q1 b1, q1 b2, q1 b2, q1 b2, q1 b2, q1 b3, q1 b3, q1 b3, q1 b3] .ret [(4, vb false)] [] ⟨con143 t (by omega), con64 t (by omega), con66 t (by omega), tv⟩ fun a w hs => ?_
 exact rK (.val (vb false)) [] hs (by simp only [fitF, b1, b2, b3, Bool.true_and, Bool.false_and, Bool.not_true, Bool.not_false, Bool.and_false, Bool.and_true, Bool.not_not])
 refine wL hs hI [(1, rg [(1, ciV 78 [aTr (t)] (vi ((weight t : Nat) : Int))), (6, ciV 84 [aTr (t)] (vi ((nodes t : Nat) : Int)))] [5, 6, 7, 1008] [10, 11, 12, 1013, 15, 16, 17, 1018])] [] 129666661733373337743784198 [q1 b1, q1 b1, q1 b1, q1 b1, q1 b2, q1 b2, q1 b2, q1 b2, q0 false, q0 false, q0 false, q0 false] .ret [(4, vb false)] [] ⟨con143 t (by omega), con64 t (by omega), tv⟩ fun a w hs => ?_
 exact rK (.val (vb false)) [] hs (by simp only [fitF, b1, b2, Bool.true_and, Bool.false_and, Bool.not_true, Bool.not_false, Bool.and_false, Bool.and_true, Bool.not_not])
 refine wL hs hI [(1, rg [(1, ciV 78 [aTr (t)] (vi ((weight t : Nat) : Int)))] [] [5, 6, 7, 1008, 10, 11, 12, 1013, 15, 16, 17, 1018])] [] 166666173337333733384198 [q1 b1, q1 b1, q1 b1, q1 b1, q0 false, q0 false, q0 false, q0 false, q0 false, q0 false, q0 false, q0 false] .ret [(4, vb false)] [] ⟨con143 t (by omega), tv⟩ fun a w hs => ?_
 exact rK (.val (vb false)) [] hs (by simp only [fitF, b1, Bool.true_and, Bool.false_and, Bool.not_true, Bool.not_false, Bool.and_false, Bool.and_true, Bool.not_not])
theorem con86 (t v : Tree) (l : List (List ByteArray)) (ht1 : validT t = true) (ht2 : validT v = true) (ht3 : checkF l = true) : Con Tryz.prog I0 94 [.agg (encTree t), .row .strs l, .agg (encTree v)] (.val (.agg (encTree (apAll t (normF l) v)))) := by
 have hcp := check_paths ht3
 have hnl := normF_len l
 have hvv := valid_nodes ht2
 refine con_of Tryz.func94 rfl (Nat.le_of_ble_eq_true rfl) stab (fun w0 fz a hI hs => ?_)
 refine wNs hs hI [] 18 [] [(1, .row .strs l), (3, .ptr 1000 0), (5, .ptr 1001 0), (6, .ptr 1002 0)] [(1000, bTr (t)), (1001, bTr (v)), (1002, .var zTr)] fun a w hs => ?_
 refine wLs hs hI [(1, rc [(1, ciV 128 [.row .strs l] (.row .strs (normF l)))])] [] 1141 [] [(3, .ptr 1000 0), (5, .ptr 1001 0), (6, .ptr 1002 0), (7, .row .strs (normF l))] [(1000, bTr (t)), (1001, bTr (v)), (1002, .var zTr)] ⟨con43 l (by omega) (fun p hp => by have := (hcp.2 p hp).2; omega), tv⟩ fun a w hs => ?_
 refine wp_seq ?_
 refine wNs hs hI [] 11 [] [(3, .ptr 1000 0), (5, .ptr 1001 0), (6, .ptr 1002 0), (7, .row .strs (normF l)), (8, vi 0)] [(1000, bTr (t)), (1001, bTr (v)), (1002, .var zTr)] fun a w hs => ?_
 refine wp_block ?_
 refine loop_L (N := Tryz.f94.ntmps) (w0 := w0) (ow := noO fz) (α := Nat) (fun p => [(3, .ptr 90000001 0), (5, .ptr 1001 0), (6, .ptr 1002 0), (7, .row .strs (normF l)), (8, vi (p : Int))]) (fun p => [(1001, bTr (v)), (1002, .var zTr), (90000001, bTr ((apTo v t (normF l) p)))]) (fun p => p ≤ (normF l).length) (fun p => (normF l).length - p) 0 ?_ ?_ ?_
 exact Nat.zero_le _
 exact (hs.cst [(3, .ptr 1000 0), (5, .ptr 1001 0), (6, .ptr 1002 0), (7, .row .strs (normF l)), (8, vi ((0 : Nat) : Int))] [(1000, bTr ((apTo v t (normF l) 0))), (1001, bTr (v)), (1002, .var zTr)] rfl).rk [(1001, 1001), (1002, 1002), (90000001, 1000)]
 rintro i hJ a w hs
 have hnn := to_nodes ht1 ht2 ht3 i hJ
 have hpi : i < (normF l).length → 0 < ((normF l).getD i (dflt .strs)).length ∧ ((normF l).getD i (dflt .strs)).length ≤ 63 := fun h => hcp.2 _ (normF_mem (getD_mem h _))
 rcases bd ((i : Int) < ((normF l).length : Int)) with ⟨b1, n1⟩ | ⟨b1, n1⟩
 rcases bt ((getF ((normF l).getD i (dflt .strs)) v).2) with b2 | b2
 refine wL hs hI [(5, rc [(5, ciV 129 [aTr (v), rwS ((normF l).getD i (dflt .strs))] (.tup [aTr (((getF ((normF l).getD i (dflt .strs)) v).1)), vb ((getF ((normF l).getD i (dflt .strs)) v).2)]))]), (7, rc [(6, ciV 130 [aTr ((apTo v t (normF l) i)), rwS ((normF l).getD i (dflt .strs)), aTr (((getF ((normF l).getD i (dflt .strs)) v).1))] (aTr ((setP ((normF l).getD i (dflt .strs)) (apTo v t (normF l) i) ((getF ((normF l).getD i (dflt .strs)) v).1)))))])] (bz 2 3) 17161660417072066618847897608 [q1 b1, q4 (i : Int) ((normF l).length), q1 b2, q4 (i : Int) ((normF l).length), q3 ((i : Int) + 1)] .norm [(3, .ptr 90000001 0), (5, .ptr 1001 0), (6, .ptr 1002 0), (7, .row .strs (normF l)), (8, vi ((i : Int) + 1))] [(1001, bTr (v)), (1002, .var zTr), (90000001, bTr ((setP ((normF l).getD i (dflt .strs)) (apTo v t (normF l) i) ((getF ((normF l).getD i (dflt .strs)) v).1))))] ⟨con27 _ _ (by omega) (by omega), con141_ _ _ _ _ (Nat.lt_succ_self _) (by omega), tv⟩ fun a w hs => ?_
 refine then_norm ⟨i + 1, by omega, by omega, ?_⟩
 (have e0_ : ((i : Int) + 1) = ((((i + 1) : Nat) : Int)) := (by first | rfl | (omega)); have e1_ : ((setP ((normF l).getD i (dflt .strs)) (apTo v t (normF l) i) ((getF ((normF l).getD i (dflt .strs)) v).1))) = ((apTo v t (normF l) (i + 1))) := (by first | rfl | (rw [do_set (i := i) (by omega) b2])); exact (hs.cst [(3, .ptr 90000001 0), (5, .ptr 1001 0), (6, .ptr 1002 0), (7, .row .strs (normF l)), (8, vi (((i + 1) : Nat) : Int))] [(1001, bTr (v)), (1002, .var zTr), (90000001, bTr ((apTo v t (normF l) (i + 1))))] (by first | (rw [e0_, e1_]; done) | (simp only [e0_, e1_]; done) | rfl | (simp only [e0_, e1_]; rfl))).rk [(1001, 1001), (1002, 1002), (90000001, 90000001)])
 rcases bt ((getF ((normF l).getD i (dflt .strs)) (apTo v t (normF l) i)).2) with b3 | b3
 refine wL hs hI [(5, rc [(5, ciV 129 [aTr (v), rwS ((normF l).getD i (dflt .strs))] (.tup [aTr (((getF ((normF l).getD i (dflt .strs)) v).1)), vb ((getF ((normF l).getD i (dflt .strs)) v).2)]))]), (8, rc [(5, ciV 129 [aTr ((apTo v t (normF l) i)), rwS ((normF l).getD i (dflt .strs))] (.tup [aTr (((getF ((normF l).getD i (dflt .strs)) (apTo v t (normF l) i)).1)), vb ((getF ((normF l).getD i (dflt .strs)) (apTo v t (normF l) i)).2)]))]), (10, rc [(5, ciV 131 [aTr ((apTo v t (normF l) i)), rwS ((normF l).getD i (dflt .strs))] (aTr ((unsetP ((normF l).getD i (dflt .strs)) (apTo v t (normF l) i)))))])] (bz 3 5) 171296604707206661884782972066618847897608 [q1 b1, q4 (i : Int) ((normF l).length), q1 b2, q4 (i : Int) ((normF l).length), q1 b3, q4 (i : Int) ((normF l).length), q3 ((i : Int) + 1)] .norm [(3, .ptr 90000001 0), (5, .ptr 1001 0), (6, .ptr 1002 0), (7, .row .strs (normF l)), (8, vi ((i : Int) + 1))] [(1001, bTr (v)), (1002, .var zTr), (90000001, bTr ((unsetP ((normF l).getD i (dflt .strs)) (apTo v t (normF l) i))))] ⟨con27 _ _ (by omega) (by omega), con27 _ _ (by omega) (by omega), con142_ _ _ _ (Nat.lt_succ_self _) (by omega) (by omega), tv⟩ fun a w hs => ?_
 refine then_norm ⟨i + 1, by omega, by omega, ?_⟩
 (have e0_ : ((i : Int) + 1) = ((((i + 1) : Nat) : Int)) := (by first | rfl | (omega)); have e1_ : ((unsetP ((normF l).getD i (dflt .strs)) (apTo v t (normF l) i))) = ((apTo v t (normF l) (i + 1))) := (by first | rfl | (rw [do_clear (i := i) (by omega) b2])); exact (hs.cst [(3, .ptr 90000001 0), (5, .ptr 1001 0), (6, .ptr 1002 0), (7, .row .strs (normF l)), (8, vi (((i + 1) : Nat) : Int))] [(1001, bTr (v)), (1002, .var zTr), (90000001, bTr ((apTo v t (normF l) (i + 1))))] (by first | (rw [e0_, e1_]; done) | (simp only [e0_, e1_]; done) | rfl | (simp only [e0_, e1_]; rfl))).rk [(1001, 1001), (1002, 1002), (90000001, 90000001)])
 refine wL hs hI [(5, rc [(5, ciV 129 [aTr (v), rwS ((normF l).getD i (dflt .strs))] (.tup [aTr (((getF ((normF l).getD i (dflt .strs)) v).1)), vb ((getF ((normF l).getD i (dflt .strs)) v).2)]))]), (8, rc [(5, ciV 129 [aTr ((apTo v t (normF l) i)), rwS ((normF l).getD i (dflt .strs))] (.tup [aTr (((getF ((normF l).getD i (dflt .strs)) (apTo v t (normF l) i)).1)), vb ((getF ((normF l).getD i (dflt .strs)) (apTo v t (normF l) i)).2)]))])] (bz 3 1) 17167206661884782972066618847897608 [q1 b1, q4 (i : Int) ((normF l).length), q1 b2, q4 (i : Int) ((normF l).length), q1 b3, q3 ((i : Int) + 1)] .norm [(3, .ptr 90000001 0), (5, .ptr 1001 0), (6, .ptr 1002 0), (7, .row .strs (normF l)), (8, vi ((i : Int) + 1))] [(1001, bTr (v)), (1002, .var zTr), (90000001, bTr ((apTo v t (normF l) i)))] ⟨con27 _ _ (by omega) (by omega), con27 _ _ (by omega) (by omega), tv⟩ fun a w hs => ?_
 refine then_norm ⟨i + 1, by omega, by omega, ?_⟩
 (have e0_ : ((i : Int) + 1) = ((((i + 1) : Nat) : Int)) := (by first | rfl | (omega)); have e1_ : ((apTo v t (normF l) i)) = ((apTo v t (normF l) (i + 1))) := (by first | rfl | (rw [do_stay (i := i) (by omega) ht1 ht2 (List.length_pos_iff.1 (hpi (by omega)).1) b2 b3])); exact (hs.cst [(3, .ptr 90000001 0), (5, .ptr 1001 0), (6, .ptr 1002 0), (7, .row .strs (normF l)), (8, vi (((i + 1) : Nat) : Int))] [(1001, bTr (v)), (1002, .var zTr), (90000001, bTr ((apTo v t (normF l) (i + 1))))] (by first | (rw [e0_, e1_]; done) | (simp only [e0_, e1_]; done) | rfl | (simp only [e0_, e1_]; rfl))).rk [(1001, 1001), (1002, 1002), (90000001, 90000001)])
 refine wN hs hI (bz 1 0) 7608 [q1 b1] (.exit 0) [(3, .ptr 90000001 0), (6, .ptr 1002 0)] [(1002, .var zTr), (90000001, bTr ((apTo v t (normF l) i)))] fun a w hs => ?_
 refine then_exit ?_
 refine inb_hit ?_
 refine then_norm ?_
 refine wN hs hI [] 198 [] .ret [(6, .ptr 1002 0)] [(1002, bTr ((apTo v t (normF l) i)))] fun a w hs => ?_
 exact rK (.val (aTr ((apTo v t (normF l) i)))) [] hs (by obtain rfl : i = (normF l).length := (by omega); rw [apTo_all])
theorem all_weight {t v : Tree} {l : List (List ByteArray)} (ht : validT t = true) (hv : validT v = true) (hc : checkF l = true) : weight (apAll t (normF l) v) ≤ 1000000000 := by
 have h := to_weight ht hv hc (normF l).length (Nat.le_refl _)
 rwa [apTo_all] at h
theorem all_nodes {t v : Tree} {l : List (List ByteArray)} (ht : validT t = true) (hv : validT v = true) (hc : checkF l = true) : nodes (apAll t (normF l) v) ≤ 200000 := by
 have h := to_nodes ht hv hc (normF l).length (Nat.le_refl _)
 rwa [apTo_all] at h
theorem apply_arg {t v : Tree} {l : List (List ByteArray)} {w : Int} (h : validT t = false ∨ validT v = false ∨ checkF l = false) : applyF t l (normF l) v w = (Tree.zero, 1) := if_pos h
theorem apply_fit {t v : Tree} {l : List (List ByteArray)} {w : Int} (ht : validT t = true) (hv : validT v = true) (hc : checkF l = true) (h : fitF (apAll t (normF l) v) w = true) : applyF t l (normF l) v w = (apAll t (normF l) v, 0) := by
 unfold fitF at h
 simp only [Bool.and_eq_true, decide_eq_true_eq] at h
 unfold applyF
 rw [if_neg (by rw [ht, hv, hc]; simp), if_neg (by
  rintro (a | a | a | a)
  ·omega
  ·omega
  ·omega
  ·rw [h.2.2.2] at a; cases a)]
theorem apply_big {t v : Tree} {l : List (List ByteArray)} {w : Int} (ht : validT t = true) (hv : validT v = true) (hc : checkF l = true) (h : fitF (apAll t (normF l) v) w = false) : applyF t l (normF l) v w = (Tree.zero, 4) := by
 unfold applyF
 rw [if_neg (by rw [ht, hv, hc]; simp), if_pos]
 unfold fitF at h
 simp only [Bool.and_eq_false_iff, decide_eq_false_iff_not] at h
 rcases h with h | h | h | h
 exact .inl (by omega)
 exact .inr (.inl (by omega))
 exact .inr (.inr (.inl (by omega)))
 exact .inr (.inr (.inr h))
theorem con34 (t v : Tree) (l : List (List ByteArray)) (wt : Int) (hft : fineT t) (hfv : fineT v) (hst : fineS t) (hsv : fineS v) (hsm : ∀ p ∈ l, ∀ x ∈ p, x.size < 4294967281) (hll : l.length < 4294967296) (hlp : ∀ p ∈ l, p.length < 4294967296) : Con Tryz.prog I0 51 [.agg (encTree t), .row .strs l, .agg (encTree v), vi wt] (.val (.tup [.agg (encTree ((applyF t l (normF l) v wt).1)), vi ((applyF t l (normF l) v wt).2)])) := by
 refine con_of Tryz.func51 rfl (Nat.le_of_ble_eq_true rfl) stab (fun w0 fz a hI hs => ?_)
 refine wNs hs hI [] 118 [] [(1, .row .strs l), (3, vi wt), (4, .ptr 1000 0), (6, .ptr 1001 0), (8, .ptr 1002 0)] [(1000, bTr (t)), (1001, bTr (v)), (1002, .var zTr)] fun a w hs => ?_
 refine wp_seq ?_
 rcases bt (validT t) with b1 | b1
 rcases bt (validT v) with b2 | b2
 rcases bt (checkF l) with b3 | b3
 refine wL hs hI [(1, rg [(1, ciV 39 [aTr (t)] (vb (validT t))), (5, ciV 39 [aTr (v)] (vb (validT v))), (10, ciV 92 [.row .strs l] (vb (checkF l)))] [4, 5, 6, 9, 10, 11] [1007, 1012])] (bz 1 0) 72966667743777437041 [q1 (ng1 b1), q1 (ng1 b1), q1 (ng1 b1), q1 (ng1 b1), q1 (ng1 b2), q1 (ng1 b2), q1 (ng1 b2), q1 (ng1 b2), q1 (ng1 b3)] .norm [(1, .row .strs l), (3, vi wt), (4, .ptr 1000 0), (6, .ptr 1001 0), (8, .ptr 1002 0)] [(1000, bTr (t)), (1001, bTr (v)), (1002, .var zTr)] ⟨con44 _ (by assumption) (by assumption), con44 _ (by assumption) (by assumption), con40 _ hsm hll hlp, tv⟩ fun a w hs => ?_
 refine then_norm ?_
 refine wLs hs hI [(3, rc [(3, ciV 94 [aTr (t), .row .strs l, aTr (v)] (aTr ((apAll t (normF l) v))))])] [] 848 [] [(3, vi wt), (8, .ptr 1002 0), (10, .ptr 4004 0)] [(1002, .var zTr), (4004, bTr ((apAll t (normF l) v)))] ⟨con86 t v l (by assumption) (by assumption) (by assumption), tv⟩ fun a w hs => ?_
 rcases bt (fitF (apAll t (normF l) v) wt) with b4 | b4
 refine wL hs hI [(4, rc [(2, ciV 93 [aTr ((apAll t (normF l) v)), vi wt] (vb (fitF (apAll t (normF l) v) wt)))])] (bz 1 0) 12918976040 [q1 (ng1 b4)] .ret [(8, .ptr 1002 0), (9, vi 0)] [(1002, bTr ((apAll t (normF l) v)))] ⟨con87 _ _ (Nat.lt_of_le_of_lt (all_weight (by assumption) (by assumption) (by assumption)) (by decide)) (Nat.lt_of_le_of_lt (all_nodes (by assumption) (by assumption) (by assumption)) (by decide)), tv⟩ fun a w hs => ?_
 exact rK (.val (.tup [aTr ((apAll t (normF l) v)), vi 0])) [] hs (by rw [apply_fit b1 b2 b3 b4])
 refine wL hs hI [(4, rc [(2, ciV 93 [aTr ((apAll t (normF l) v)), vi wt] (vb (fitF (apAll t (normF l) v) wt)))])] (bz 1 1) 129876040 [q1 (ng0 b4)] .ret [(8, .ptr 1002 0), (9, vi 4)] [(1002, .var zTr)] ⟨con87 _ _ (Nat.lt_of_le_of_lt (all_weight (by assumption) (by assumption) (by assumption)) (by decide)) (Nat.lt_of_le_of_lt (all_nodes (by assumption) (by assumption) (by assumption)) (by decide)), tv⟩ fun a w hs => ?_
 exact rK (.val (.tup [.agg [vi 0, vb false, vb false, rwU ([]), vi 0, vs (ba []), rwS ([]), rwT ([])], vi 4])) [] hs (by rw [apply_big b1 b2 b3 b4]; rfl)
 refine wL hs hI [(1, rg [(1, ciV 39 [aTr (t)] (vb (validT t))), (5, ciV 39 [aTr (v)] (vb (validT v))), (10, ciV 92 [.row .strs l] (vb (checkF l)))] [4, 5, 6, 9, 10, 11] [1007, 1012])] (bz 1 1) 129872966667743777437041 [q1 (ng1 b1), q1 (ng1 b1), q1 (ng1 b1), q1 (ng1 b1), q1 (ng1 b2), q1 (ng1 b2), q1 (ng1 b2), q1 (ng1 b2), q1 (ng0 b3)] .ret [(8, .ptr 1002 0), (9, vi 1)] [(1002, .var zTr)] ⟨con44 _ (by assumption) (by assumption), con44 _ (by assumption) (by assumption), con40 _ hsm hll hlp, tv⟩ fun a w hs => ?_
 refine then_ret ?_
 exact rK (.val (.tup [.agg [vi 0, vb false, vb false, rwU ([]), vi 0, vs (ba []), rwS ([]), rwT ([])], vi 1])) [] hs (by rw [apply_arg (by first | exact .inl b3 | exact .inr (.inl b3) | exact .inr (.inr b3))]; rfl)
 refine wL hs hI [(1, rg [(1, ciV 39 [aTr (t)] (vb (validT t))), (5, ciV 39 [aTr (v)] (vb (validT v)))] [4, 5, 6, 1012] [1007, 9, 10, 11])] (bz 1 1) 129876666733377437041 [q1 (ng1 b1), q1 (ng1 b1), q1 (ng1 b1), q1 (ng1 b1), q1 (ng0 b2), q1 (ng0 b2), q1 (ng0 b2), q1 (ng0 b2), q0 true] .ret [(8, .ptr 1002 0), (9, vi 1)] [(1002, .var zTr)] ⟨con44 _ (by assumption) (by assumption), con44 _ (by assumption) (by assumption), tv⟩ fun a w hs => ?_
 refine then_ret ?_
 exact rK (.val (.tup [.agg [vi 0, vb false, vb false, rwU ([]), vi 0, vs (ba []), rwS ([]), rwT ([])], vi 1])) [] hs (by rw [apply_arg (by first | exact .inl b2 | exact .inr (.inl b2) | exact .inr (.inr b2))]; rfl)
 refine wL hs hI [(1, rg [(1, ciV 39 [aTr (t)] (vb (validT t)))] [1007, 1012] [4, 5, 6, 9, 10, 11])] (bz 1 1) 12987266673337333041 [q1 (ng0 b1), q1 (ng0 b1), q1 (ng0 b1), q1 (ng0 b1), q0 true, q0 true, q0 true, q0 true, q0 true] .ret [(8, .ptr 1002 0), (9, vi 1)] [(1002, .var zTr)] ⟨con44 _ (by assumption) (by assumption), tv⟩ fun a w hs => ?_
 refine then_ret ?_
 exact rK (.val (.tup [.agg [vi 0, vb false, vb false, rwU ([]), vi 0, vs (ba []), rwS ([]), rwT ([])], vi 1])) [] hs (by rw [apply_arg (by first | exact .inl b1 | exact .inr (.inl b1) | exact .inr (.inr b1))]; rfl)
def digB (s : ByteArray) (i : Nat) : Bool := !decide (byteAt s (i : Int) < 48) && !decide (byteAt s (i : Int) > 57)
def numTo (s : ByteArray) : Nat → Int
 | 0 => 0
 | i + 1 => 10 * numTo s i + IntKind.wrap .u8 (byteAt s (i : Int) - 48)
def badIx (s : ByteArray) : Bool := (decide ((s.size : Int) < 1) || decide ((s.size : Int) > 4)) || (byteAt s 0 == 48 && decide ((s.size : Int) > 1))
def indexF (s : ByteArray) (m : Int) : Int × Bool :=
 if badIx s = true then (0, false) else if (List.range s.size).all (digB s) = true then (if numTo s s.size > m then (0, false) else (numTo s s.size, true)) else (0, false)
theorem wrap8_in (n : Int) : 0 ≤ IntKind.wrap .u8 n ∧ IntKind.wrap .u8 n ≤ 255 := by
 simp only [IntKind.wrap, IntKind.bits, IntKind.signed]
 simp; omega
theorem numTo_lo (s : ByteArray) : ∀ i, 0 ≤ numTo s i
 | 0 => Int.le_refl _
 | i + 1 => by
  have h := numTo_lo s i
  have h2 := wrap8_in (byteAt s (i : Int) - 48)
  simp only [numTo]; omega
theorem index_in {s : ByteArray} {m : Int} (h : (indexF s m).2 = true) : 0 ≤ (indexF s m).1 ∧ (indexF s m).1 ≤ m := by
 unfold indexF at h ⊢
 split at h
 cases h
 rename_i h1
 rw [if_neg h1]
 split at h
 rename_i h2
 rw [if_pos h2]
 split at h
 cases h
 rename_i h3
 rw [if_neg h3]
 exact ⟨numTo_lo s _, by show numTo s s.size ≤ m; omega⟩
 cases h
def childF (t : Tree) (x : ByteArray) : Tree × Bool :=
 if (t.kind == 6) = true then (if (indexF x ((t.v.length : Int) - 1)).2 = true then (t.v.getD (indexF x ((t.v.length : Int) - 1)).1.toNat (dflt .tree), true) else (memV t x, memB t x)) else (memV t x, memB t x)
def getR : List ByteArray → Tree → Tree × Bool
 | [], t => (t, true)
 | x :: p, t => if (childF t x).2 = true then getR p (childF t x).1 else (Tree.zero, false)
def withV (t : Tree) (l : List Tree) : Tree := .mk t.kind t.b t.n t.s t.k l
def putR : List ByteArray → Tree → Tree → Tree × Bool
  | [], _, v => (v, true)
  | x :: p, t, v =>
    if (childF t x).2 = true then
      (if (putR p (childF t x).1 v).2 = true then
        (if (t.kind == 7) = true then (setT t x (putR p (childF t x).1 v).1, true)
         else (withV t (t.v.set (indexF x ((t.v.length : Int) - 1)).1.toNat (putR p (childF t x).1 v).1), true))
       else (Tree.zero, false))
    else (Tree.zero, false)
theorem child_six {t : Tree} {x : ByteArray} (h : (childF t x).2 = true) (h7 : ¬ t.kind = 7) : t.kind = 6 ∧ (indexF x ((t.v.length : Int) - 1)).2 = true := by
 have hm : memB t x = false := by
  cases hb : memB t x with
  | false => rfl
  | true => exact absurd (mem_kind hb) h7
 unfold childF at h
 split at h
 rename_i h6
 split at h
 rename_i hi; exact ⟨eq_of_beq h6, hi⟩
 rw [hm] at h; cases h
 rw [hm] at h; cases h
def itemsT (l : List Tree) : Tree := .mk 6 false ⟨false, [], 0⟩ (ba []) [] l
abbrev upF (p : List ByteArray) : List ByteArray := p.take ((p.length : Int) - 1).toNat
abbrev lastF (p : List ByteArray) : ByteArray := p.getD ((p.length : Int) - 1).toNat (dflt .str)
def insV (l : List Tree) (n : Nat) (v : Tree) : List Tree := (l.take n ++ [v]) ++ l.drop n
def delV (l : List Tree) (i : Int) : List Tree := l.take i.toNat ++ l.drop (i + 1).toNat
def addR (t : Tree) (p : List ByteArray) (v : Tree) : Tree × Bool :=
  if ((p.length : Int) == 0) = true then (v, true)
  else if (getR (upF p) t).2 = true then
    (if ((getR (upF p) t).1.kind == 7) = true then putR (upF p) t (setT (getR (upF p) t).1 (lastF p) v)
     else if ((getR (upF p) t).1.kind == 6) = true then
       (if ((lastF p).toList == (ba [45]).toList) = true then putR (upF p) t (itemsT (insV (getR (upF p) t).1.v (getR (upF p) t).1.v.length v))
        else if (indexF (lastF p) ((getR (upF p) t).1.v.length : Int)).2 = true then putR (upF p) t (itemsT (insV (getR (upF p) t).1.v (indexF (lastF p) ((getR (upF p) t).1.v.length : Int)).1.toNat v))
        else (Tree.zero, false))
     else (Tree.zero, false))
  else (Tree.zero, false)
def removeR (t : Tree) (p : List ByteArray) : Tree × Bool :=
  if ((p.length : Int) == 0) = true then (Tree.zero, false)
  else if (getR p t).2 = true then
    (if ((getR (upF p) t).1.kind == 7) = true then putR (upF p) t (unsetT (getR (upF p) t).1 (lastF p))
     else putR (upF p) t (itemsT (delV (getR (upF p) t).1.v (indexF (lastF p) (((getR (upF p) t).1.v.length : Int) - 1)).1)))
  else (Tree.zero, false)
def moveR (t : Tree) (a b : List ByteArray) : Tree × Bool :=
  if (getR a t).2 = true then
    (if (startsF a b && decide ((a.length : Int) < (b.length : Int))) = true then (Tree.zero, false)
     else if ((a.length : Int) == (b.length : Int) && startsF a b) = true then (t, true)
     else if (removeR t a).2 = true then addR (removeR t a).1 b (getR a t).1 else (Tree.zero, false))
  else (Tree.zero, false)
def oneR (t : Tree) (k : Int) (p f : List ByteArray) (v : Tree) : Tree × Bool :=
 if (k == 1) = true then addR t p v else if (k == 2) = true then removeR t p else if (k == 3) = true then putR p t v else if (k == 4) = true then moveR t f p
 else if (k == 5) = true then (if (getR f t).2 = true then addR t p (getR f t).1 else (Tree.zero, false))
 else if (k == 6 && ((getR p t).2 && sameT (getR p t).1 v)) = true then (t, true) else (Tree.zero, false)
theorem getR_up : ∀ {p : List ByteArray} {t : Tree}, 0 < p.length → (getR p t).2 = true → (getR (upF p) t).2 = true ∧ childF (getR (upF p) t).1 (lastF p) = getR p t
 | [], t, h, _ => by simp at h
 | [x], t, _, h => by
  show (getR [] t).2 = true ∧ childF (getR [] t).1 x = getR [x] t
  rw [getR] at h
  split at h
  ·rename_i hc
   refine ⟨rfl, ?_⟩
   show childF t x = _
   rw [getR, if_pos hc, getR]
   exact Prod.ext rfl hc
  ·cases h
 | x :: y :: p, t, _, h => by
  have e1 : upF (x :: y :: p) = x :: upF (y :: p) := by
   unfold upF
   rw [show (((x :: y :: p).length : Int) - 1).toNat = (((y :: p).length : Int) - 1).toNat + 1 by simp only [List.length_cons]; omega, List.take_succ_cons]
  have e2 : lastF (x :: y :: p) = lastF (y :: p) := by
   unfold lastF
   rw [show (((x :: y :: p).length : Int) - 1).toNat = (((y :: p).length : Int) - 1).toNat + 1 by simp only [List.length_cons]; omega, List.getD_cons_succ]
  rw [getR] at h
  split at h
  ·rename_i hc
   have ih := getR_up (p := y :: p) (t := (childF t x).1) (by simp) h
   rw [e1, e2, getR, if_pos hc]
   refine ⟨ih.1, ?_⟩
   rw [ih.2]
   conv => rhs; rw [getR, if_pos hc]
  ·cases h
theorem nodesL_app : ∀ (a b : List Tree), nodesL (a ++ b) = nodesL a + nodesL b
 | [], b => by simp [nodesL]
 | x :: a, b => by simp only [List.cons_append, nodesL, nodesL_app a b]; omega
theorem nodesL_cut (l : List Tree) (n : Nat) : nodesL (l.take n) + nodesL (l.drop n) = nodesL l := by rw [← nodesL_app, List.take_append_drop]
theorem remove_ix {t : Tree} {p : List ByteArray} (hp : 0 < p.length) (h : (getR p t).2 = true) (h7 : ¬ (getR (upF p) t).1.kind = 7) : 0 ≤ (indexF (lastF p) (((getR (upF p) t).1.v.length : Int) - 1)).1 ∧ (indexF (lastF p) (((getR (upF p) t).1.v.length : Int) - 1)).1 < ((getR (upF p) t).1.v.length : Int) := by
 obtain ⟨h1, h2⟩ := getR_up hp h
 have h3 := child_six (t := (getR (upF p) t).1) (x := lastF p) (by rw [h2]; exact h) h7
 have h4 := index_in h3.2
 omega
def tokW (v : Int) : ByteArray := ([ba [97], ba [48], ba [45], ba [110, 101, 119], ba [50]] : List ByteArray).getD (((v.tdiv 15).tmod 5).toNat * 1) ⟨#[]⟩
def digW (k : Int) : ByteArray := ([ba [48], ba [49], ba [50], ba [51], ba [52], ba [53], ba [54], ba [55], ba [56], ba [57]] : List ByteArray).getD ((k.tmod 10).toNat * 1) ⟨#[]⟩
def kW (t : Tree) (v : Int) : Int := (v.tdiv 5).tmod (t.v.length : Int)
def stopW (t : Tree) (v : Int) : Bool := ((v.tmod 5 == 0) || ((t.v.length : Int) == 0)) || (t.kind != 7 && t.kind != 6)
def nameW (t : Tree) (v : Int) : ByteArray := if (t.kind == 7) = true then t.k.getD (kW t v).toNat (dflt .str) else digW (kW t v)
def wayG : Nat → Tree → List Int → List ByteArray
 | 0, _, _ => []
 | _ + 1, _, [] => []
 | n + 1, t, x :: l =>
  if stopW t (placeF x 1048576) = true then (if ((placeF x 1048576).tmod 3 == 0) = true then [tokW (placeF x 1048576)] else [])
  else nameW t (placeF x 1048576) :: wayG n (t.v.getD (kW t (placeF x 1048576)).toNat (dflt .tree)) l
def wayF (t : Tree) (l : List Int) : List ByteArray := wayG 4 t l
theorem wayG_at {n i : Nat} {t : Tree} {l : List Int} (h : i < l.length) : wayG (n + 1) t (l.drop i) = if stopW t (placeF (l.getD i (dflt (.int .i64))) 1048576) = true then (if ((placeF (l.getD i (dflt (.int .i64))) 1048576).tmod 3 == 0) = true then [tokW (placeF (l.getD i (dflt (.int .i64))) 1048576)] else []) else nameW t (placeF (l.getD i (dflt (.int .i64))) 1048576) :: wayG n (t.v.getD (kW t (placeF (l.getD i (dflt (.int .i64))) 1048576)).toNat (dflt .tree)) (l.drop (i + 1)) := by
 rw [List.drop_eq_getElem_cons h, wayG]
 have e : l.getD i (dflt (.int .i64)) = l[i] := by rw [List.getD_eq_getElem?_getD, List.getElem?_eq_getElem h]; rfl
 rw [e]
theorem kW_in {t : Tree} {v : Int} (h0 : 0 ≤ v) (h : ((t.v.length : Int) == 0) = false) : 0 ≤ kW t v ∧ kW t v < (t.v.length : Int) := by
 have h1 : (t.v.length : Int) ≠ 0 := beq_eq_false_iff_ne.1 h
 have h2 : 0 ≤ v.tdiv 5 := Int.tdiv_nonneg h0 (by decide)
 unfold kW
 exact ⟨Int.tmod_nonneg _ h2, Int.tmod_lt_of_pos _ (by omega)⟩
theorem own_keys {t : Tree} (h : ownO t = true) (h7 : t.kind = 7) : t.k.length = t.v.length := by
 simp only [ownO, Bool.and_eq_true] at h
 have h1 := h.2.2.2.2.1
 unfold keysO at h1
 rw [if_pos h7, Bool.and_eq_true] at h1
 have := eq_of_beq h1.2; omega
structure WayJ (t : Tree) (l : List Int) (i : Nat) (u : Tree) (acc : List ByteArray) : Prop where
 le : i ≤ l.length
 le4 : i ≤ 4
 eq : acc ++ wayG (4 - i) u (l.drop i) = wayG 4 t l
 own : ∃ d n, (chk u d n).1 = true
 len : acc.length ≤ i
theorem WayJ.start {t : Tree} (l : List Int) (h : ∃ d n, (chk t d n).1 = true) : WayJ t l 0 t [] := ⟨Nat.zero_le _, Nat.zero_le _, rfl, h, Nat.le_refl _⟩
abbrev vW (l : List Int) (i : Nat) : Int := placeF (l.getD i (dflt (.int .i64))) 1048576
theorem vW_in (l : List Int) (i : Nat) : 0 ≤ vW l i ∧ vW l i < 1048576 := placeF_in _ _ (by decide)
theorem WayJ.on {t u : Tree} {l : List Int} {i : Nat} {acc : List ByteArray} (h : WayJ t l i u acc) (hi : i < l.length) (h4 : i < 4) (hs : stopW u (vW l i) = false) : WayJ t l (i + 1) (u.v.getD (kW u (vW l i)).toNat (dflt .tree)) (acc ++ [nameW u (vW l i)]) := by
 obtain ⟨d, n, ho⟩ := h.own
 have h5 : ((u.v.length : Int) == 0) = false := by
  unfold stopW at hs
  simp only [Bool.or_eq_false_iff] at hs
  exact hs.1.2
 have hk := kW_in (t := u) (vW_in l i).1 h5
 have he := h.eq
 obtain ⟨m, hm⟩ : ∃ m, 4 - i = m + 1 := ⟨3 - i, by omega⟩
 rw [hm, wayG_at hi, if_neg (by rw [hs]; decide)] at he
 refine ⟨by omega, by omega, ?_, ?_, by have := h.len; simp; omega⟩
 rw [show 4 - (i + 1) = m by omega, List.append_assoc]; exact he
 obtain ⟨l', h6⟩ := chkL_mem (chk_own ho).2 (getD_mem (l := u.v) (i := (kW u (vW l i)).toNat) (by omega) (dflt .tree))
 exact ⟨_, l', h6⟩
theorem WayJ.stop {t u : Tree} {l : List Int} {i : Nat} {acc : List ByteArray} (h : WayJ t l i u acc) (hi : i < l.length) (h4 : i < 4) (hs : stopW u (vW l i) = true) : wayF t l = acc ++ (if ((vW l i).tmod 3 == 0) = true then [tokW (vW l i)] else []) := by
 have he := h.eq
 obtain ⟨m, hm⟩ : ∃ m, 4 - i = m + 1 := ⟨3 - i, by omega⟩
 rw [hm, wayG_at hi, if_pos hs] at he
 exact he.symm
theorem WayJ.fin {t u : Tree} {l : List Int} {i : Nat} {acc : List ByteArray} (h : WayJ t l i u acc) (hi : ¬ (i < l.length ∧ i < 4)) : wayF t l = acc := by
 have he := h.eq
 have h1 : wayG (4 - i) u (l.drop i) = [] := by
  by_cases h4 : i < 4
  rw [List.drop_of_length_le (by omega)]
  obtain ⟨m, hm⟩ : ∃ m, 4 - i = m + 1 := ⟨3 - i, by omega⟩
  rw [hm]; rfl
  rw [show 4 - i = 0 by omega]; rfl
 rw [h1, List.append_nil] at he
 exact he.symm
theorem tm_w {v n : Int} (h0 : 0 ≤ v) (hn : 0 < n) : 0 ≤ v.tmod n ∧ v.tmod n < n := ⟨Int.tmod_nonneg _ h0, Int.tmod_lt_of_pos _ hn⟩
theorem td_w {v n : Int} (h0 : 0 ≤ v) (hn : 0 < n) (h1 : v < 1048576) : 0 ≤ v.tdiv n ∧ v.tdiv n < 1048576 := by
 have h2 := Int.tdiv_nonneg h0 (Int.le_of_lt hn)
 have h3 := Int.tdiv_le_self n h0
 omega
theorem own_k_le {t : Tree} (h : ownO t = true) : t.k.length ≤ t.v.length := by
 by_cases h7 : t.kind = 7
 have := own_keys h h7; omega
 simp only [ownO, Bool.and_eq_true] at h
 have h1 := h.2.2.2.2.1
 unfold keysO at h1
 rw [if_neg h7] at h1
 have := eq_of_beq h1; omega
theorem goodN_len {n m : Nat} : ∀ {d : Nat} {t : Tree}, GoodN n d t → nodes t ≤ m + 1 → GoodN m d t
 | 0, _, h, _ => h.elim
 | d + 1, t, ⟨h1, h2, h3⟩, hm => by
  have e1 := nodes_eq t
  have e2 := nodesL_len t.v
  have e3 := own_k_le h1.own
  refine ⟨⟨h1.own, h1.ok, h1.len, by omega, h1.sorted, h1.texts⟩, by omega, fun u hu => goodN_len (h3 u hu) ?_⟩
  obtain ⟨i, hi, e⟩ := List.mem_iff_getElem.1 hu
  have := nodes_at hi
  rw [List.getD_eq_getElem?_getD, List.getElem?_eq_getElem hi, Option.getD_some, e] at this
  omega
theorem depth_mem : ∀ {l : List Tree} {u : Tree}, u ∈ l → depth u ≤ depthL l
 | [], _, h => by simp at h
 | x :: l, u, h => by
  simp only [depthL]
  rcases List.mem_cons.1 h with rfl | h
  exact Nat.le_max_left _ _
  exact Nat.le_trans (depth_mem h) (Nat.le_max_right _ _)
theorem goodN_depth {n : Nat} : ∀ {d e : Nat} {t : Tree}, GoodN n d t → depth t ≤ e → GoodN n e t
 | 0, _, _, h, _ => h.elim
 | d + 1, 0, t, _, h => by rw [depth_eq] at h; omega
 | d + 1, e + 1, t, ⟨h1, h2, h3⟩, h => by
  rw [depth_eq] at h
  exact ⟨h1, h2, fun u hu => goodN_depth (h3 u hu) (by have := depth_mem hu; omega)⟩
theorem depth_goodN {n : Nat} : ∀ {d : Nat} {t : Tree}, GoodN n d t → depth t ≤ d
 | 0, _, h => h.elim
 | d + 1, t, ⟨_, _, h3⟩ => by
  rw [depth_eq]
  have : ∀ l : List Tree, (∀ u ∈ l, depth u ≤ d) → depthL l ≤ d := by
   intro l
   induction l with
   | nil => intro _; exact Nat.zero_le _
   | cons x l ih => exact fun h => Nat.max_le.2 ⟨h x (by simp), ih (fun u hu => h u (by simp [hu]))⟩
  have := this t.v (fun u hu => depth_goodN (h3 u hu))
  omega
theorem good_setT {n D E : Nat} {t u : Tree} {x : ByteArray} (hn : n + 1 ≤ 300) (ht : GoodN n D t) (hx : textOk x = true) (hu : GoodN (n + 1) E u) : GoodN (n + 1) (D + E) (setT t x u) := by
 cases D with
 | zero => exact ht.elim
 | succ D =>
  have h1 : GoodN n (D + E + 1) t := goodN_mono (Nat.le_refl _) (by omega) ht
  have := setN hn hx (goodN_mem h1) (goodN_mono (Nat.le_refl _) (Nat.le_add_left E D) hu)
  rw [show D + 1 + E = D + E + 1 by omega]; exact this
theorem good_child {n d : Nat} {t : Tree} {x : ByteArray} (h : GoodN n (d + 1) t) (hb : (childF t x).2 = true) : GoodN n d (childF t x).1 := by
 unfold childF at hb ⊢
 have mem : memB t x = true → GoodN n d (memV t x) := fun hm => h.2.2 _ (mem_cutV hm)
 split
 rename_i h6
 rw [if_pos h6] at hb
 split
 rename_i hi
 have h1 := index_in hi
 exact h.2.2 _ (getD_mem (by omega) _)
 rename_i hi
 rw [if_neg hi] at hb; exact mem hb
 rename_i h6
 rw [if_neg h6] at hb; exact mem hb
theorem good_getR {n : Nat} : ∀ (p : List ByteArray) {d : Nat} {t : Tree}, GoodN n d t → (getR p t).2 = true → GoodN n d (getR p t).1
 | [], d, t, h, _ => h
 | x :: p, 0, t, h, _ => h.elim
 | x :: p, d + 1, t, h, hb => by
  rw [getR] at hb ⊢
  split
  rename_i hc
  rw [if_pos hc] at hb
  exact goodN_mono (Nat.le_refl _) (Nat.le_succ _) (good_getR p (good_child h hc) hb)
  rename_i hc
  rw [if_neg hc] at hb; cases hb
theorem good_items {n d : Nat} {l : List Tree} (hn : n ≤ 300) (hl : l.length ≤ n) (h : ∀ u ∈ l, GoodN n d u) : GoodN n (d + 1) (itemsT l) := by
 have hm : mems (itemsT l) = [] := mems_none (by show ¬ (6 : Int) = 7; decide)
 refine ⟨⟨?_, Ok.nil, Nat.zero_le _, Nat.zero_le _, by rw [hm]; exact List.Pairwise.nil, by rw [hm]; intro p hp; simp at hp⟩, hl, h⟩
 simp [ownO, truthO, numO, ownN, textO, keysO, itemsO, itemsT, Tree.kind, Tree.b, Tree.n, Tree.s, Tree.k, Tree.v]; exact decide_eq_true (by omega)
theorem good_withV {n d e : Nat} {t : Tree} {l : List Tree} (ht : GoodN n (d + 1) t) (hl : l.length = t.v.length) (h6 : t.kind = 6) (h : ∀ u ∈ l, GoodN n e u) : GoodN n (e + 1) (withV t l) := by
 obtain ⟨h1, h2, h3⟩ := ht
 have hm : mems (withV t l) = [] := mems_none (by show ¬ t.kind = 7; omega)
 refine ⟨⟨?_, h1.ok, h1.len, h1.k, by rw [hm]; exact List.Pairwise.nil, by rw [hm]; intro p hp; simp at hp⟩, by show l.length ≤ n; omega, h⟩
 have h4 := h1.own
 unfold ownO keysO itemsO at h4 ⊢
 show (decide (1 ≤ t.kind ∧ t.kind ≤ 7) && (truthO t && (numO t && (textO t && ((if t.kind = 7 then namesOk t.k && (t.k.length : Int) == (l.length : Int) else (t.k.length : Int) == 0) && (if t.kind = 7 ∨ t.kind = 6 then decide ((l.length : Int) ≤ 300) else (l.length : Int) == 0)))))) = true
 rw [hl]; exact h4
theorem good_putR {n E : Nat} {v : Tree} (hn : n + 1 ≤ 300) (hv : GoodN (n + 1) E v) : ∀ (p : List ByteArray) {D : Nat} {t : Tree}, (∀ x ∈ p, textOk x = true) → GoodN n D t → (putR p t v).2 = true → GoodN (n + 1) (D + E) (putR p t v).1
 | [], D, t, _, _, _ => goodN_mono (Nat.le_refl _) (Nat.le_add_left _ _) hv
 | x :: p, 0, t, _, h, _ => h.elim
 | x :: p, D + 1, t, hx, h, hb => by
  rw [putR] at hb ⊢
  split
  rename_i hc
  rw [if_pos hc] at hb
  split
  rename_i hi
  rw [if_pos hi] at hb
  have ih := good_putR hn hv p (fun y hy => hx y (List.mem_cons_of_mem _ hy)) (good_child h hc) hi
  split
  have hm := goodN_mono (Nat.le_refl n) (show D + 1 ≤ D + E + 1 by omega) h
  have := setN hn (hx x (List.mem_cons_self ..)) (goodN_mem hm) ih
  rw [show D + 1 + E = D + E + 1 by omega]; exact this
  rename_i h7
  have h6 := child_six hc (fun e => h7 (by rw [e]; rfl))
  have h7' := index_in h6.2
  rw [show D + 1 + E = D + E + 1 by omega]
  refine good_withV (goodN_mono (Nat.le_succ n) (Nat.le_refl _) h) (List.length_set ..) h6.1 (fun u hu => ?_)
  rcases List.mem_or_eq_of_mem_set hu with hu | rfl
  exact goodN_mono (Nat.le_succ n) (Nat.le_add_right _ _) (h.2.2 u hu)
  exact ih
  rename_i hi
  rw [if_neg hi] at hb; cases hb
  rename_i hc
  rw [if_neg hc] at hb; cases hb
theorem up_mem {p : List ByteArray} {x : ByteArray} (h : x ∈ upF p) : x ∈ p := List.mem_of_mem_take h
theorem last_mem {p : List ByteArray} (h : ¬ ((p.length : Int) == 0) = true) : lastF p ∈ p := by
 have : p.length ≠ 0 := fun e => h (by rw [e]; rfl)
 exact getD_mem (by omega) _
theorem good_addR {n D E : Nat} {t v : Tree} {p : List ByteArray} (hn : n + 1 ≤ 300) (hp : ∀ x ∈ p, textOk x = true) (ht : GoodN n D t) (hv : GoodN n E v) (h : (addR t p v).2 = true) : ∃ D', GoodN (n + 1) D' (addR t p v).1 := by
 unfold addR at h ⊢
 split
 ·exact ⟨E, goodN_mono (Nat.le_succ n) (Nat.le_refl _) hv⟩
 ·rename_i h0
  rw [if_neg h0] at h
  have hv' := goodN_mono (Nat.le_succ n) (Nat.le_refl E) hv
  have items : ∀ l : List Tree, l.length ≤ n + 1 → (∀ u ∈ l, u = v ∨ u ∈ (getR (upF p) t).1.v) → (getR (upF p) t).2 = true → GoodN (n + 1) (D + E + 1) (itemsT l) := fun l hl hu hg => by
   have hx := good_getR (upF p) ht hg
   refine good_items hn hl (fun u hm => ?_)
   rcases hu u hm with rfl | hm
   ·exact goodN_mono (Nat.le_refl _) (Nat.le_add_left _ _) hv'
   ·cases D with
    | zero => exact hx.elim
    | succ D => exact goodN_mono (Nat.le_succ n) (by omega) (hx.2.2 u hm)
  have ins : ∀ i, (getR (upF p) t).2 = true → GoodN (n + 1) (D + E + 1) (itemsT (insV (getR (upF p) t).1.v i v)) := fun i hg => by
   have hx := good_getR (upF p) ht hg
   have hl : (getR (upF p) t).1.v.length ≤ n := by cases D with
    | zero => exact hx.elim
    | succ D => exact hx.2.1
   refine items _ ?_ (fun u hu => ?_) hg
   ·unfold insV
    simp only [List.length_append, List.length_take, List.length_drop, List.length_cons, List.length_nil]; omega
   ·unfold insV at hu
    rcases List.mem_append.1 hu with hu | hu
    ·rcases List.mem_append.1 hu with hu | hu
     ·exact .inr (List.mem_of_mem_take hu)
     ·exact .inl (by simpa using hu)
    ·exact .inr (List.mem_of_mem_drop hu)
  have put : ∀ {u : Tree} {F : Nat}, GoodN (n + 1) F u → (putR (upF p) t u).2 = true → ∃ D', GoodN (n + 1) D' (putR (upF p) t u).1 := fun hu hb => ⟨_, good_putR hn hu (upF p) (fun x hx => hp x (up_mem hx)) ht hb⟩
  split
  ·rename_i hg
   rw [if_pos hg] at h
   split
   ·rename_i h7
    rw [if_pos h7] at h
    exact put (good_setT hn (good_getR (upF p) ht hg) (hp _ (last_mem h0)) hv') h
   ·rename_i h7
    rw [if_neg h7] at h
    split
    ·rename_i h6
     rw [if_pos h6] at h
     split
     ·rename_i hd
      rw [if_pos hd] at h
      exact put (ins _ hg) h
     ·rename_i hd
      rw [if_neg hd] at h
      split
      ·rename_i hi
       rw [if_pos hi] at h
       exact put (ins _ hg) h
      ·rename_i hi
       rw [if_neg hi] at h; cases h
    ·rename_i h6
     rw [if_neg h6] at h; cases h
  ·rename_i hg
   rw [if_neg hg] at h; cases h
theorem good_removeR {n D : Nat} {t : Tree} {p : List ByteArray} (hn : n + 1 ≤ 300) (hp : ∀ x ∈ p, textOk x = true) (ht : GoodN n D t) (h : (removeR t p).2 = true) : ∃ D', GoodN (n + 1) D' (removeR t p).1 := by
 unfold removeR at h ⊢
 split
 rename_i h0
 rw [if_pos h0] at h; cases h
 rename_i h0
 rw [if_neg h0] at h
 have put : ∀ {u : Tree} {F : Nat}, GoodN (n + 1) F u → (putR (upF p) t u).2 = true → ∃ D', GoodN (n + 1) D' (putR (upF p) t u).1 := fun hu hb => ⟨_, good_putR hn hu (upF p) (fun x hx => hp x (up_mem hx)) ht hb⟩
 split
 rename_i hg
 rw [if_pos hg] at h
 have hx := good_getR (upF p) ht (getR_up (p := p) (t := t) (by have : p.length ≠ 0 := fun e => h0 (by rw [e]; rfl); omega) hg).1
 split
 rename_i h7
 rw [if_pos h7] at h
 exact put (goodN_mono (Nat.le_succ n) (Nat.le_refl _) (unsetN (by omega) hx)) h
 rename_i h7
 rw [if_neg h7] at h
 refine put (F := D) ?_ h
 cases D with
 | zero => exact hx.elim
 | succ D =>
  refine good_items hn ?_ (fun u hu => ?_)
  have := hx.2.1
  have h8 := remove_ix (by have : p.length ≠ 0 := fun e => h0 (by rw [e]; rfl); omega) hg (fun e => h7 (by rw [e]; rfl))
  unfold delV
  simp only [List.length_append, List.length_take, List.length_drop]; omega
  unfold delV at hu
  rcases List.mem_append.1 hu with hu | hu
  exact goodN_mono (Nat.le_succ n) (Nat.le_refl _) (hx.2.2 u (List.mem_of_mem_take hu))
  exact goodN_mono (Nat.le_succ n) (Nat.le_refl _) (hx.2.2 u (List.mem_of_mem_drop hu))
 rename_i hg
 rw [if_neg hg] at h; cases h
theorem good_moveR {n D : Nat} {t : Tree} {a b : List ByteArray} (hn : n + 2 ≤ 300) (ha : ∀ x ∈ a, textOk x = true) (hb : ∀ x ∈ b, textOk x = true) (ht : GoodN n D t) (h : (moveR t a b).2 = true) : ∃ D', GoodN (n + 2) D' (moveR t a b).1 := by
 unfold moveR at h ⊢
 split
 rename_i hg
 rw [if_pos hg] at h
 split
 rename_i hs
 rw [if_pos hs] at h; cases h
 rename_i hs
 rw [if_neg hs] at h
 split
 exact ⟨D, goodN_mono (by omega) (Nat.le_refl _) ht⟩
 rename_i he
 rw [if_neg he] at h
 split
 rename_i hr
 rw [if_pos hr] at h
 obtain ⟨D1, h1⟩ := good_removeR (by omega) ha ht hr
 exact good_addR (n := n + 1) hn hb h1 (goodN_mono (Nat.le_succ n) (Nat.le_refl _) (good_getR a ht hg)) h
 rename_i hr
 rw [if_neg hr] at h; cases h
 rename_i hg
 rw [if_neg hg] at h; cases h
theorem good_oneR {n D E : Nat} {t v : Tree} {k : Int} {p f : List ByteArray} (hn : n + 2 ≤ 300) (hp : ∀ x ∈ p, textOk x = true) (hf : ∀ x ∈ f, textOk x = true) (ht : GoodN n D t) (hv : (k = 1 ∨ k = 3) → GoodN n E v) (h : (oneR t k p f v).2 = true) : ∃ D', GoodN (n + 2) D' (oneR t k p f v).1 := by
 have up : ∀ {u : Tree}, (∃ D', GoodN (n + 1) D' u) → ∃ D', GoodN (n + 2) D' u := fun ⟨D', h⟩ => ⟨D', goodN_mono (by omega) (Nat.le_refl _) h⟩
 unfold oneR at h ⊢
 split
 rename_i h1
 rw [if_pos h1] at h
 exact up (good_addR (by omega) hp ht (hv (.inl (eq_of_beq h1))) h)
 rename_i h1
 rw [if_neg h1] at h
 split
 rename_i h2
 rw [if_pos h2] at h
 exact up (good_removeR (by omega) hp ht h)
 rename_i h2
 rw [if_neg h2] at h
 split
 rename_i h3
 rw [if_pos h3] at h
 exact up ⟨_, good_putR (by omega) (goodN_mono (Nat.le_succ n) (Nat.le_refl _) (hv (.inr (eq_of_beq h3)))) p hp ht h⟩
 rename_i h3
 rw [if_neg h3] at h
 split
 rename_i h4
 rw [if_pos h4] at h
 exact good_moveR hn hf hp ht h
 rename_i h4
 rw [if_neg h4] at h
 split
 rename_i h5
 rw [if_pos h5] at h
 split
 rename_i hg
 rw [if_pos hg] at h
 exact up (good_addR (by omega) hp ht (good_getR f ht hg) h)
 rename_i hg
 rw [if_neg hg] at h; cases h
 rename_i h5
 rw [if_neg h5] at h
 split
 exact ⟨D, goodN_mono (by omega) (Nat.le_refl _) ht⟩
 rename_i h6
 rw [if_neg h6] at h; cases h
theorem tokW_ok (v : Int) : textOk (tokW v) = true := by
 unfold tokW
 generalize ((v.tdiv 15).tmod 5).toNat * 1 = i
 rcases i with _ | _ | _ | _ | _ | i
 kernel_rfl
 kernel_rfl
 kernel_rfl
 kernel_rfl
 kernel_rfl
 rw [List.getD_eq_getElem?_getD, List.getElem?_eq_none (by simp)]; kernel_rfl
theorem digW_ok (k : Int) : textOk (digW k) = true := by
 unfold digW
 generalize (k.tmod 10).toNat * 1 = i
 rcases i with _ | _ | _ | _ | _ | _ | _ | _ | _ | _ | i
 kernel_rfl
 kernel_rfl
 kernel_rfl
 kernel_rfl
 kernel_rfl
 kernel_rfl
 kernel_rfl
 kernel_rfl
 kernel_rfl
 kernel_rfl
 rw [List.getD_eq_getElem?_getD, List.getElem?_eq_none (by simp)]; kernel_rfl
theorem key_ok {n d : Nat} {t : Tree} (h : GoodN n d t) (h7 : t.kind = 7) {x : ByteArray} (hx : x ∈ t.k) : textOk x = true := by
 cases d with
 | zero => exact h.elim
 | succ d =>
  have h1 := own_keys h.1.own h7
  have h2 : (mems t).map (·.1) = t.k := by
   rw [mems_k]; unfold cutK; rw [if_pos h7, List.take_of_length_le (by omega)]
  rw [← h2] at hx
  obtain ⟨p, hp, rfl⟩ := List.mem_map.1 hx
  exact h.1.texts p hp
theorem way_text {n : Nat} : ∀ (f : Nat) (l : List Int) {d : Nat} {t : Tree}, GoodN n d t → ∀ x ∈ wayG f t l, textOk x = true
 | 0, _, _, _, _, x, hx => by simp [wayG] at hx
 | f + 1, [], _, _, _, x, hx => by simp [wayG] at hx
 | f + 1, y :: l, d, t, h, x, hx => by
  rw [wayG] at hx
  split at hx
  split at hx
  simp only [List.mem_singleton] at hx; subst hx; exact tokW_ok _
  simp at hx
  rename_i hs
  have hs' : stopW t (placeF y 1048576) = false := by simpa using hs
  have h5 : ((t.v.length : Int) == 0) = false := by
   unfold stopW at hs'
   simp only [Bool.or_eq_false_iff] at hs'
   exact hs'.1.2
  have hk := kW_in (t := t) (placeF_in y 1048576 (by decide)).1 h5
  cases d with
  | zero => exact h.elim
  | succ d =>
   rcases List.mem_cons.1 hx with rfl | hx
   unfold nameW
   split
   rename_i h7
   have h8 := own_keys h.1.own (eq_of_beq h7)
   exact key_ok h (eq_of_beq h7) (getD_mem (by omega) _)
   exact digW_ok _
   exact way_text f l (h.2.2 _ (getD_mem (by omega) _)) x hx
abbrev kE (l : List Int) (i : Nat) : Int := 1 + (vW l i).tmod 6
def pathE (t : Tree) (l : List Int) (i : Nat) : List ByteArray := wayF t ((l.take ((i : Int) + 4).toNat).drop ((i : Int) + 1).toNat)
def frmE (t : Tree) (l : List Int) (i : Nat) : List ByteArray := if (kE l i == 4) = true then wayF t [l.getD ((i : Int) + 4).toNat (dflt (.int .i64)), l.getD ((i : Int) + 3).toNat (dflt (.int .i64))] else if (kE l i == 5) = true then wayF t [l.getD ((i : Int) + 4).toNat (dflt (.int .i64)), l.getD ((i : Int) + 3).toNat (dflt (.int .i64))] else []
def keepE (t : Tree) (l : List Int) (i : Nat) : Bool := (getR (pathE t l i) t).2 && (decide ((vW l i).tmod 7 > 0) && decide ((nodes (getR (pathE t l i) t).1 : Int) ≤ 20))
def valE (t : Tree) (l : List Int) (i : Nat) : Tree := if (kE l i == 1) = true then (madeF 2 [l.getD ((i : Int) + 4).toNat (dflt (.int .i64)), l.getD ((i : Int) + 3).toNat (dflt (.int .i64)), l.getD ((i : Int) + 2).toNat (dflt (.int .i64))]).1 else if (kE l i == 3) = true then (madeF 2 [l.getD ((i : Int) + 4).toNat (dflt (.int .i64)), l.getD ((i : Int) + 3).toNat (dflt (.int .i64)), l.getD ((i : Int) + 2).toNat (dflt (.int .i64))]).1
 else if (kE l i == 6) = true then (if keepE t l i = true then (getR (pathE t l i) t).1 else (madeF 1 [l.getD ((i : Int) + 4).toNat (dflt (.int .i64))]).1) else Tree.zero
def eOp (t : Tree) (l : List Int) (i : Nat) : Opn := ⟨kE l i, pathE t l i, frmE t l i, valE t l i⟩
abbrev eOne (t : Tree) (l : List Int) (i : Nat) : Tree × Bool := oneR t (eOp t l i).op (eOp t l i).path (eOp t l i).frm (eOp t l i).value
def skipE (t : Tree) (l : List Int) (i : Nat) : Bool := if (eOne t l i).2 = true then decide ((nodes (eOne t l i).1 : Int) > 200) || decide ((depth (eOne t l i).1 : Int) > 20) else decide ((vW l i).tmod 11 > 0)
def nextE (t : Tree) (l : List Int) (i : Nat) : Tree := if (eOne t l i).2 = true then (eOne t l i).1 else t
def edG : Nat → Nat → Tree → List Int → List Opn
 | 0, _, _, _ => []
 | n + 1, i, t, l => if i + 4 < l.length ∧ i < 60 then (if skipE t l i = true then edG n (i + 5) t l else eOp t l i :: edG n (i + 5) (nextE t l i) l) else []
def editsF (t : Tree) (l : List Int) : List Opn := edG 13 0 t l
structure GoodE (t : Tree) : Prop where
 good : GoodN 200 20 t
 few : nodes t ≤ 200
theorem GoodE.fine {t : Tree} (h : GoodE t) : fineT t := goodN_fine (by decide) h.good
theorem GoodE.chk {t : Tree} (h : GoodE t) : ∃ d n, (chk t d n).1 = true := ⟨1, 2000, (chk_goodN h.good (by decide) (by have := h.few; omega)).1⟩
theorem path_good {t : Tree} (h : GoodE t) (l : List Int) : ∀ x ∈ wayF t l, textOk x = true := way_text 4 l h.good
theorem pathE_good {t : Tree} (h : GoodE t) (l : List Int) (i : Nat) : ∀ x ∈ pathE t l i, textOk x = true := path_good h _
theorem frm_good {t : Tree} (h : GoodE t) (l : List Int) (i : Nat) : ∀ x ∈ frmE t l i, textOk x = true := by
 unfold frmE
 split
 exact path_good h _
 split
 exact path_good h _
 intro x hx; simp at hx
theorem val_good {t : Tree} (h : GoodE t) (l : List Int) (i : Nat) : valE t l i = Tree.zero ∨ GoodN 200 20 (valE t l i) := by
 unfold valE
 split
 exact .inr (goodN_mono (by decide) (by decide) (goodN_T (good_made 2 _)))
 split
 exact .inr (goodN_mono (by decide) (by decide) (goodN_T (good_made 2 _)))
 split
 split
 rename_i hk
 unfold keepE at hk
 rw [Bool.and_eq_true] at hk
 exact .inr (good_getR _ h.good hk.1)
 exact .inr (goodN_mono (by decide) (by decide) (goodN_T (good_made 1 _)))
 exact .inl rfl
theorem next_good {t : Tree} (h : GoodE t) {l : List Int} {i : Nat} (hs : skipE t l i = false) : GoodE (nextE t l i) := by
 unfold nextE
 split
 ·rename_i hb
  unfold skipE at hs
  rw [if_pos hb, Bool.or_eq_false_iff, decide_eq_false_iff_not, decide_eq_false_iff_not] at hs
  obtain ⟨D', hg⟩ := good_oneR (n := 200) (E := 20) (p := (eOp t l i).path) (f := (eOp t l i).frm) (k := (eOp t l i).op) (v := (eOp t l i).value) (by decide) (pathE_good h l i) (frm_good h l i) h.good (fun hk => by
   rcases val_good h l i with e | e
   ·exfalso
    have hk' : kE l i = 1 ∨ kE l i = 3 := hk
    have h3 : GoodN 3 3 (valE t l i) := by
     unfold valE
     rcases hk' with hk | hk
     ·rw [if_pos (by rw [hk]; rfl)]; exact goodN_T (good_made 2 _)
     ·split
      ·exact goodN_T (good_made 2 _)
      ·rw [if_pos (by rw [hk]; rfl)]; exact goodN_T (good_made 2 _)
    rw [e] at h3
    have h4 := h3.1.own
    exact absurd h4 (by decide +kernel)
   ·exact e) hb
  exact ⟨goodN_depth (goodN_len hg (by omega)) (by omega), by omega⟩
 ·exact h
structure EdJ (t0 : Tree) (l : List Int) (i : Nat) (t : Tree) (m : List Opn) : Prop where
 ex : ∃ j n, i = 5 * j ∧ j + n = 13 ∧ m ++ edG n i t l = editsF t0 l ∧ m.length ≤ j
 good : GoodE t
theorem EdJ.start {t : Tree} (l : List Int) (h : GoodE t) : EdJ t l 0 t [] := ⟨⟨0, 13, rfl, rfl, rfl, Nat.le_refl _⟩, h⟩
theorem EdJ.le {t0 t : Tree} {l : List Int} {i : Nat} {m : List Opn} (h : EdJ t0 l i t m) : i ≤ 65 ∧ m.length ≤ 13 := by
 obtain ⟨j, n, h1, h2, _, h3⟩ := h.ex; omega
theorem EdJ.pass {t0 t : Tree} {l : List Int} {i : Nat} {m : List Opn} (h : EdJ t0 l i t m) (h1 : i + 4 < l.length) (h2 : i < 60) (hs : skipE t l i = true) : EdJ t0 l (i + 5) t m := by
 obtain ⟨j, n, e1, e2, e3, e4⟩ := h.ex
 obtain ⟨n, rfl⟩ : ∃ n', n = n' + 1 := ⟨n - 1, by omega⟩
 rw [edG, if_pos ⟨h1, h2⟩, if_pos hs] at e3
 exact ⟨⟨j + 1, n, by omega, by omega, e3, by omega⟩, h.good⟩
theorem EdJ.take {t0 t : Tree} {l : List Int} {i : Nat} {m : List Opn} (h : EdJ t0 l i t m) (h1 : i + 4 < l.length) (h2 : i < 60) (hs : skipE t l i = false) : EdJ t0 l (i + 5) (nextE t l i) (m ++ [eOp t l i]) := by
 obtain ⟨j, n, e1, e2, e3, e4⟩ := h.ex
 obtain ⟨n, rfl⟩ : ∃ n', n = n' + 1 := ⟨n - 1, by omega⟩
 rw [edG, if_pos ⟨h1, h2⟩, if_neg (by rw [hs]; decide)] at e3
 exact ⟨⟨j + 1, n, by omega, by omega, by rw [List.append_assoc]; exact e3, by simp; omega⟩, next_good h.good hs⟩
theorem EdJ.fin {t0 t : Tree} {l : List Int} {i : Nat} {m : List Opn} (h : EdJ t0 l i t m) (h1 : ¬ (i + 4 < l.length ∧ i < 60)) : m = editsF t0 l := by
 obtain ⟨j, n, e1, e2, e3, e4⟩ := h.ex
 have : edG n i t l = [] := by
  cases n with
  | zero => rfl
  | succ n => rw [edG, if_neg h1]
 rw [this, List.append_nil] at e3
 exact e3
def insS (x : ByteArray) : List ByteArray → List ByteArray
 | [] => [x]
 | y :: l => if eqT x y = true then y :: l else if gtB y x = true then x :: y :: l else y :: insS x l
def namesU (a b : Tree) : List ByteArray := (a.k ++ b.k).foldr insS []
theorem insS_mem {x y : ByteArray} : ∀ {l : List ByteArray}, y ∈ insS x l ↔ y = x ∨ y ∈ l
 | [] => by simp [insS]
 | z :: l => by
  unfold insS
  split
  rename_i h
  have e := eqT_iff.1 h
  subst e
  simp
  split
  simp
  rw [List.mem_cons, insS_mem (l := l), List.mem_cons]
  constructor
  rintro (h | h | h)
  exact .inr (.inl h)
  exact .inl h
  exact .inr (.inr h)
  rintro (h | h | h)
  exact .inr (.inl h)
  exact .inl h
  exact .inr (.inr h)
theorem insS_sorted {x : ByteArray} : ∀ {l : List ByteArray}, l.Pairwise ltB → (insS x l).Pairwise ltB
 | [], _ => by simp [insS]
 | z :: l, h => by
  have h' := List.pairwise_cons.1 h
  unfold insS
  split
  exact h
  rename_i hne
  split
  rename_i hg
  rw [gtB_iff] at hg
  refine List.pairwise_cons.2 ⟨fun y hy => ?_, h⟩
  rcases List.mem_cons.1 hy with rfl | hy
  exact hg
  exact ltB_trans hg (h'.1 y hy)
  rename_i hg
  refine List.pairwise_cons.2 ⟨fun y hy => ?_, insS_sorted h'.2⟩
  rcases insS_mem.1 hy with rfl | hy
  rcases ltB_tri z y with h3 | h3 | h3
  exact h3
  exact absurd (eqT_iff.2 h3.symm) hne
  exact absurd (gtB_iff.2 h3) hg
  exact h'.1 y hy
theorem namesU_mem {a b : Tree} {x : ByteArray} : x ∈ namesU a b ↔ x ∈ a.k ∨ x ∈ b.k := by
 have : ∀ l : List ByteArray, x ∈ l.foldr insS [] ↔ x ∈ l := by
  intro l
  induction l with
  | nil => simp
  | cons y l ih => rw [List.foldr_cons, insS_mem, ih, List.mem_cons]
 unfold namesU
 rw [this, List.mem_append]
theorem namesU_sorted (a b : Tree) : (namesU a b).Pairwise ltB := by
 have : ∀ l : List ByteArray, (l.foldr insS []).Pairwise ltB := by
  intro l
  induction l with
  | nil => exact List.Pairwise.nil
  | cons y l ih => exact insS_sorted ih
 exact this _
theorem sorted_ext : ∀ {l m : List ByteArray}, l.Pairwise ltB → m.Pairwise ltB → (∀ x, x ∈ l ↔ x ∈ m) → l = m
 | [], [], _, _, _ => rfl
 | [], y :: m, _, _, h => absurd ((h y).2 (List.mem_cons_self ..)) (by simp)
 | x :: l, [], _, _, h => absurd ((h x).1 (List.mem_cons_self ..)) (by simp)
 | x :: l, y :: m, hl, hm, h => by
  have hl' := List.pairwise_cons.1 hl
  have hm' := List.pairwise_cons.1 hm
  have e : x = y := by
   rcases List.mem_cons.1 ((h x).1 (List.mem_cons_self ..)) with e | h1
   ·exact e
   ·rcases List.mem_cons.1 ((h y).2 (List.mem_cons_self ..)) with e | h2
    ·exact e.symm
    ·exact absurd (ltB_trans (hl'.1 y h2) (hm'.1 x h1)) (ltB_irrefl _)
  subst e
  rw [sorted_ext hl'.2 hm'.2 (fun z => ⟨fun hz => by
   rcases List.mem_cons.1 ((h z).1 (List.mem_cons_of_mem _ hz)) with rfl | h1
   ·exact absurd (hl'.1 _ hz) (ltB_irrefl _)
   ·exact h1, fun hz => by
   rcases List.mem_cons.1 ((h z).2 (List.mem_cons_of_mem _ hz)) with rfl | h1
   ·exact absurd (hm'.1 _ hz) (ltB_irrefl _)
   ·exact h1⟩)]
theorem idxT_mem {x : ByteArray} : ∀ {l : List ByteArray}, idxT x l ≥ 0 ↔ x ∈ l
 | [] => by simp [idxT]
 | y :: l => by
  have ih := idxT_mem (x := x) (l := l)
  simp only [idxT]
  split
  rename_i h
  simp [eqT_iff.1 h]
  rename_i h
  have hne : x ≠ y := fun e => h (eqT_iff.2 e)
  rw [List.mem_cons]
  split
  rename_i h0
  constructor
  intro h1; omega
  rintro (e | h1)
  exact absurd e hne
  have := ih.2 h1; omega
  rename_i h0
  constructor
  intro _; exact .inr (ih.1 (by omega))
  intro _; omega
theorem memB_iff {t : Tree} {x : ByteArray} : memB t x = true ↔ x ∈ cutK t := by
 unfold memB memI
 rw [decide_eq_true_eq]
 exact idxT_mem
theorem memB_obj {t : Tree} (ho : ownO t = true) (h7 : t.kind = 7) {x : ByteArray} : memB t x = true ↔ x ∈ t.k := by
 rw [memB_iff]
 unfold cutK
 rw [if_pos h7, List.take_of_length_le (by have := own_keys ho h7; omega)]
def alike (a b : Tree) (x : ByteArray) : Bool := (memB a x == memB b x) && sameT (memV a x) (memV b x)
theorem alike_none {a b : Tree} {x : ByteArray} (h1 : memB a x = false) (h2 : memB b x = false) : alike a b x = true := by
 unfold alike
 rw [h1, h2, memV_zero h1, memV_zero h2, sameT_self]; rfl
def diffN (a b : Tree) : List ByteArray := (namesU a b).filter (fun x => !alike a b x)
def sort8 : List ByteArray := [ba [], ba [97], ba [98], ba [99], ba [100, 100], ba [101], ba [120, 47, 121], ba [122, 126]]
theorem sort8_sorted : sort8.Pairwise ltB := by
 have h : sort8.Pairwise (fun a b => Op.bytesLess a.toList b.toList = true) := by decide +kernel
 exact h.imp (fun h => ltB_less.1 h)
theorem diff8 {a b : Tree} (ha : ownO a = true) (hb : ownO b = true) (ka : a.kind = 7) (kb : b.kind = 7) (h1 : ∀ x ∈ a.k, x ∈ sort8) (h2 : ∀ x ∈ b.k, x ∈ sort8) : diffN a b = sort8.filter (fun x => !alike a b x) := by
 refine sorted_ext ((namesU_sorted a b).filter _) (sort8_sorted.filter _) (fun x => ?_)
 unfold diffN
 rw [List.mem_filter, List.mem_filter, namesU_mem]
 constructor
 rintro ⟨h | h, h3⟩
 exact ⟨h1 x h, h3⟩
 exact ⟨h2 x h, h3⟩
 rintro ⟨_, h3⟩
 refine ⟨?_, h3⟩
 cases ea : memB a x with
 | true => exact .inl ((memB_obj ha ka).1 ea)
 | false =>
  cases eb : memB b x with
  | true => exact .inr ((memB_obj hb kb).1 eb)
  | false => rw [alike_none ea eb] at h3; cases h3
def valsM (a b : Tree) : Mem := ((diffN a b).filter (fun x => memB b x)).map (fun x => (x, memV b x))
def badN (x : ByteArray) : Bool := eqT x (ba []) || (eqT x (ba [120, 47, 121]) || eqT x (ba [122, 126]))
theorem name8 {x : ByteArray} (h : x ∈ sort8) : nameF x = !badN x := by
 simp only [sort8, List.mem_cons, List.not_mem_nil, or_false] at h
 rcases h with rfl | rfl | rfl | rfl | rfl | rfl | rfl | rfl <;> kernel_rfl
def maskD (a b : Tree) : List (List ByteArray) := (diffN a b).map fun x => [x]
structure Two (a b : Tree) : Prop where
 oa : ownO a = true
 ob : ownO b = true
 ka : a.kind = 7
 kb : b.kind = 7
 na : ∀ x ∈ a.k, x ∈ sort8
 nb : ∀ x ∈ b.k, x ∈ sort8
theorem Two.diff {a b : Tree} (h : Two a b) : diffN a b = sort8.filter (fun x => !alike a b x) := diff8 h.oa h.ob h.ka h.kb h.na h.nb
theorem Two.len {a b : Tree} (h : Two a b) : (diffN a b).length ≤ 8 := by
 rw [h.diff]; exact List.length_filter_le _ sort8
theorem Two.check {a b : Tree} (h : Two a b) : checkF (maskD a b) = !((diffN a b).any badN) := by
 have hl := h.len
 unfold checkF maskD
 rw [decide_eq_true (by rw [List.length_map]; omega), Bool.true_and, List.any_map]
 congr 1
 rw [Bool.eq_iff_iff, List.any_eq_true, List.any_eq_true]
 have one : ∀ x ∈ diffN a b, badPath [x] = badN x := fun x hx => by
  have h8 : x ∈ sort8 := by rw [h.diff] at hx; exact (List.mem_filter.1 hx).1
  unfold badPath
  rw [List.any_cons, List.any_nil, name8 h8, Bool.not_not, Bool.or_false]
  show (false || (false || badN x)) = badN x
  rw [Bool.false_or, Bool.false_or]
 constructor
 rintro ⟨x, hx, hb⟩
 exact ⟨x, hx, (one x hx).symm.trans hb⟩
 rintro ⟨x, hx, hb⟩
 exact ⟨x, hx, (one x hx).trans hb⟩
end Go.Proofs.YtfimffgfnhplkaaGreatDoor.F
