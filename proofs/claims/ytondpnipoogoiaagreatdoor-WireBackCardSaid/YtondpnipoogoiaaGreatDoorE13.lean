/- For all lists of numbers, any language and any value: a patch by numbers that is written is read as it was; what is read is written as it was. -/
import Derived.Test.YtondpnipoogoiaaGreatDoorE12
import Derived.Test.YtondpnipoogoiaaGreatDoorE8
import Derived.Test.YtondpnipoogoiaaGreatDoorE4
set_option maxRecDepth 100000
set_option linter.unusedVariables false
set_option linter.unusedSimpArgs false
namespace Go.Proofs.YtondpnipoogoiaaGreatDoor.F
open Go Go.RowKit Go.Proofs.Tryz
theorem con200T (s : ByteArray) (h : kS s = true) : Con Tryz.prog I0 200 [vs s] (.val (vb true)) := by
 have h1 := con200 s (by have := (kS_in h).1; omega)
 rw [valid_asc (kS_in h).2] at h1
 exact h1
theorem txt_in {s : ByteArray} (h : textOk s = true) : s.size ≤ 2000 ∧ X.validAt s s.size 0 = true := by
 unfold textOk at h
 rw [Bool.and_eq_true, decide_eq_true_eq] at h
 exact ⟨by omega, h.2⟩
theorem con200V (s : ByteArray) (h : textOk s = true) : Con Tryz.prog I0 200 [vs s] (.val (vb true)) := by
 have h1 := con200 s (by have := (txt_in h).1; omega)
 rw [(txt_in h).2] at h1
 exact h1
theorem nm_in {l : List ByteArray} (h : namesOk l = true) : ∀ x ∈ l, textOk x = true := fun x hx => by
 unfold namesOk at h
 rw [Bool.and_eq_true, List.all_eq_true] at h
 obtain ⟨i, hi, rfl⟩ := List.mem_iff_getElem.1 hx
 have h1 := h.1 i (by simpa using hi)
 unfold nmOk at h1
 rw [Bool.and_eq_true, List.getD_eq_getElem?_getD, List.getElem?_eq_getElem hi] at h1
 exact h1.1
theorem con201T (l : List ByteArray) (h : namesOk l = true) (hl : l.length < 4611686018427387904) : Con Tryz.prog I0 201 [.row .str l] (.val (vb true)) := by
 have h1 := con201 l (fun x hx => by have := (txt_in (nm_in h x hx)).1; omega) hl
 rw [h] at h1
 exact h1
theorem con174T (n : Num) (ha : Ok n.m) (hl : n.m.length < 1000000000) (h : checkN n = true) : Con Tryz.prog I0 174 [.agg (enc .num n)] (.val (vb true)) := by
 have h1 := con174 n ha hl
 rw [h] at h1
 exact h1
theorem own_kind {t : Tree} (h : ownO t = true) : 1 ≤ t.kind ∧ t.kind ≤ 7 := by
 simp only [ownO, Bool.and_eq_true] at h
 exact of_decide_eq_true h.1
theorem own_num {t : Tree} (h : ownO t = true) (h3 : t.kind = 3) : checkN t.n = true := by
 have h1 := (own_parts h).2.1
 unfold numO at h1
 rw [if_pos h3] at h1; exact h1
theorem own_txt {t : Tree} (h : ownO t = true) (h4 : t.kind = 4) : textOk t.s = true := by
 have h1 := (own_parts h).2.2.1
 unfold textO at h1
 rw [if_pos h4] at h1; exact h1
theorem own_nms {t : Tree} (h : ownO t = true) (h7 : t.kind = 7) : namesOk t.k = true := by
 have h1 := (own_parts h).2.2.2.1
 unfold keysO at h1
 rw [if_pos h7, Bool.and_eq_true] at h1; exact h1.1
theorem own_its {t : Tree} (h : ownO t = true) (h7 : t.kind = 7 ∨ t.kind = 6) : (t.v.length : Int) ≤ 300 := by
 have h1 := (own_parts h).2.2.2.2
 unfold itemsO at h1
 rw [if_pos h7] at h1; exact of_decide_eq_true h1
theorem con150T (t : Tree) (ho : ownO t = true) (ha : Ok t.n.m) (hl : t.n.m.length < 1000000000) (hk : t.k.length < 1000000000) : Con Tryz.prog I0 150 [.agg (encTree t)] (.val (vb true)) := by
 have hkd := own_kind ho
 refine con_of Tryz.func150 rfl (Nat.le_of_ble_eq_true rfl) stab (fun w0 fz a hI hs => ?_)
 rcases bt (t.kind != 2) with b1 | b1
 have n1 := bne_iff_ne.1 b1
 have b2 : (t.b) = false := by exact own_b ho (by omega)
 rcases bt (t.kind != 3) with b3 | b3
 have n3 := bne_iff_ne.1 b3
 have b4 : (ownN t.n) = true := by rw [own_n ho (by omega)]; rfl
 rcases bt (t.kind != 4) with b5 | b5
 have n5 := bne_iff_ne.1 b5
 rcases bt (t.kind != 5) with b6 | b6
 have n6 := bne_iff_ne.1 b6
 have b7 : (t.s.toList == (ba []).toList) = true := by show eqT t.s (ba []) = true; rw [own_s ho (by omega) (by omega)]; exact eqT_self _
 rcases bt (t.kind != 7) with b8 | b8
 have n8 := bne_iff_ne.1 b8
 have b9 : (decide ((t.k.length : Int) > 0)) = false := by rw [own_k0 ho (by omega)]; rfl
 rcases bt (t.kind != 6) with b10 | b10
 have n10 := bne_iff_ne.1 b10
 have b11 : (decide ((t.v.length : Int) > 0)) = false := by rw [own_v0 ho (by omega) (by omega)]; rfl
 have b12 : (t.kind == 1) = true := by simp only [beq_iff_eq]; omega
 refine wL hs hI [(1, rg [(14, ciV 199 [.agg [vb t.n.neg, rwU t.n.m, vi t.n.e]] (vb (ownN t.n)))] [4, 5, 1006, 8, 9, 10, 11, 12, 13, 14, 15, 16, 1016, 19, 20, 21, 22, 23, 24, 25, 26, 1026, 27, 28, 29, 30, 31, 1031, 34, 35, 36, 37, 38, 39, 40, 41, 42, 1042, 45, 46, 47, 48, 49, 50, 51, 52, 1052, 53, 54, 55, 56, 57, 58, 1058] [1017, 1032, 1043, 1059])] (bz 3 6) 1217979898972966666666666666666666666666733777773377777777337777777773377773377777777337437777777771898 [q1 b1, q1 b1, q1 b1, q1 b2, q1 b2, q1 b2, q1 b2, q1 b3, q1 b3, q1 b3, q1 b3, q1 b2, q1 b3, q1 b2, q1 (ng1 b4), q1 (ng1 b4), q1 (ng1 b4), q1 (ng1 b4), q1 b5, q1 b5, q1 b5, q1 (ng1 b4), q1 b5, q1 (ng1 b4), q1 b6, q1 b6, q1 b6, q1 (ng1 b4), q1 b6, q1 (ng1 b4), q1 (ng1 b7), q1 (ng1 b7), q1 (ng1 b7), q1 (ng1 b7), q1 b8, q1 b8, q1 b8, q1 b8, q1 (ng1 b7), q1 b8, q1 (ng1 b7), q1 b9, q1 b9, q1 b9, q1 b9, q1 b8, q1 b8, q1 b8, q1 b9, q1 b8, q1 b9, q1 b10, q1 b10, q1 b10, q1 b10, q1 b9, q1 b10, q1 b9, q1 b11, q1 b12, q1 b12] .ret [(2, vb true)] [] ⟨con199 t.n, tv⟩ fun a w hs => ?_
 exact rK (.val (vb true)) [] hs (by first | rfl | rw [decide_eq_true (by have := own_size ho; omega)] | rw [decide_eq_true (own_its ho (by omega))] | (rw [own_keys ho (by omega)]; simp))
 have n10 := bne_eq_false_iff_eq.1 b10
 have b13 : (t.kind == 1) = false := by rw [show t.kind = 6 from bne_eq_false_iff_eq.1 b10]; rfl
 have b14 : (t.kind == 2) = false := by rw [show t.kind = 6 from bne_eq_false_iff_eq.1 b10]; rfl
 have b15 : (t.kind == 3) = false := by rw [show t.kind = 6 from bne_eq_false_iff_eq.1 b10]; rfl
 have b16 : (t.kind == 4) = false := by rw [show t.kind = 6 from bne_eq_false_iff_eq.1 b10]; rfl
 have b17 : (t.kind == 5) = false := by rw [show t.kind = 6 from bne_eq_false_iff_eq.1 b10]; rfl
 have b18 : (t.kind == 6) = true := by rw [show t.kind = 6 from bne_eq_false_iff_eq.1 b10]; rfl
 refine wL hs hI [(1, rg [(14, ciV 199 [.agg [vb t.n.neg, rwU t.n.m, vi t.n.e]] (vb (ownN t.n)))] [4, 5, 1006, 8, 9, 10, 11, 12, 13, 14, 15, 16, 1016, 19, 20, 21, 22, 23, 24, 25, 26, 1026, 27, 28, 29, 30, 31, 1031, 34, 35, 36, 37, 38, 39, 40, 41, 42, 1042, 45, 46, 47, 48, 49, 50, 51, 52, 1052, 53, 58] [1017, 1032, 1043, 54, 55, 56, 57, 1058, 1059])] (bz 7 64) 126087907907907907607989897296666666666666666666666666733333373377777777337777777773377773377777777337437777777771898 [q1 b1, q1 b1, q1 b1, q1 b2, q1 b2, q1 b2, q1 b2, q1 b3, q1 b3, q1 b3, q1 b3, q1 b2, q1 b3, q1 b2, q1 (ng1 b4), q1 (ng1 b4), q1 (ng1 b4), q1 (ng1 b4), q1 b5, q1 b5, q1 b5, q1 (ng1 b4), q1 b5, q1 (ng1 b4), q1 b6, q1 b6, q1 b6, q1 (ng1 b4), q1 b6, q1 (ng1 b4), q1 (ng1 b7), q1 (ng1 b7), q1 (ng1 b7), q1 (ng1 b7), q1 b8, q1 b8, q1 b8, q1 b8, q1 (ng1 b7), q1 b8, q1 (ng1 b7), q1 b9, q1 b9, q1 b9, q1 b9, q1 b8, q1 b8, q1 b8, q1 b9, q1 b8, q1 b9, q1 b10, q1 b10, q1 b10, q1 b10, q1 b9, q1 b10, q1 b9, q0 false, q1 b13, q1 b14, q1 b15, q1 b16, q1 b17, q1 b18] .ret [(2, vb (decide ((t.v.length : Int) ≤ 300)))] [] ⟨con199 t.n, tv⟩ fun a w hs => ?_
 exact rK (.val (vb (decide ((t.v.length : Int) ≤ 300)))) [] hs (by first | rfl | rw [decide_eq_true (by have := own_size ho; omega)] | rw [decide_eq_true (own_its ho (by omega))] | (rw [own_keys ho (by omega)]; simp))
 have n8 := bne_eq_false_iff_eq.1 b8
 have b19 : (t.kind == 1) = false := by rw [show t.kind = 7 from bne_eq_false_iff_eq.1 b8]; rfl
 have b20 : (t.kind == 2) = false := by rw [show t.kind = 7 from bne_eq_false_iff_eq.1 b8]; rfl
 have b21 : (t.kind == 3) = false := by rw [show t.kind = 7 from bne_eq_false_iff_eq.1 b8]; rfl
 have b22 : (t.kind == 4) = false := by rw [show t.kind = 7 from bne_eq_false_iff_eq.1 b8]; rfl
 have b23 : (t.kind == 5) = false := by rw [show t.kind = 7 from bne_eq_false_iff_eq.1 b8]; rfl
 have b24 : (t.kind == 6) = false := by rw [show t.kind = 7 from bne_eq_false_iff_eq.1 b8]; rfl
 have b25 : (t.kind == 7) = true := by rw [show t.kind = 7 from bne_eq_false_iff_eq.1 b8]; rfl
 refine wL hs hI [(1, rg [(14, ciV 199 [.agg [vb t.n.neg, rwU t.n.m, vi t.n.e]] (vb (ownN t.n)))] [4, 5, 1006, 8, 9, 10, 11, 12, 13, 14, 15, 16, 1016, 19, 20, 21, 22, 23, 24, 25, 26, 1026, 27, 28, 29, 30, 31, 1031, 34, 35, 36, 37, 42, 45, 46, 47, 48, 52, 53, 58] [1017, 1032, 38, 39, 40, 41, 1042, 1043, 49, 50, 51, 1052, 54, 55, 56, 57, 1058, 1059]), (16, rg [(2, ciV 201 [rwS t.k] (vb true))] [4, 5, 6, 7, 8, 9, 10, 1011] [])] (bz 8 128) 1666661777777771417907907907907907607989897666666666666666666666666733333373333377777333333777773377773377777777337437777777771898 [q1 b1, q1 b1, q1 b1, q1 b2, q1 b2, q1 b2, q1 b2, q1 b3, q1 b3, q1 b3, q1 b3, q1 b2, q1 b3, q1 b2, q1 (ng1 b4), q1 (ng1 b4), q1 (ng1 b4), q1 (ng1 b4), q1 b5, q1 b5, q1 b5, q1 (ng1 b4), q1 b5, q1 (ng1 b4), q1 b6, q1 b6, q1 b6, q1 (ng1 b4), q1 b6, q1 (ng1 b4), q1 (ng1 b7), q1 (ng1 b7), q1 (ng1 b7), q1 (ng1 b7), q1 b8, q1 b8, q1 b8, q1 b8, q1 (ng1 b7), q1 b8, q1 (ng1 b7), q0 false, q0 false, q0 false, q0 false, q1 b8, q1 b8, q1 b8, q0 false, q1 b8, q0 false, q0 false, q0 false, q0 false, q0 false, q0 false, q0 false, q0 false, q0 false, q1 b19, q1 b20, q1 b21, q1 b22, q1 b23, q1 b24, q1 b25, q0 true, q0 true, q0 true, q0 true, q0 true, q0 true, q0 true, q0 true] .ret [(2, vb ((t.k.length : Int) == (t.v.length : Int)))] [] ⟨con199 t.n, con201T _ (own_nms ho (by omega)) (by omega), tv⟩ fun a w hs => ?_
 exact rK (.val (vb ((t.k.length : Int) == (t.v.length : Int)))) [] hs (by first | rfl | rw [decide_eq_true (by have := own_size ho; omega)] | rw [decide_eq_true (own_its ho (by omega))] | (rw [own_keys ho (by omega)]; simp))
 have n6 := bne_eq_false_iff_eq.1 b6
 have b26 : (t.kind != 7) = true := by rw [show t.kind = 5 from bne_eq_false_iff_eq.1 b6]; rfl
 have b27 : (decide ((t.k.length : Int) > 0)) = false := by rw [own_k0 ho (by omega)]; rfl
 have b28 : (t.kind != 6) = true := by rw [show t.kind = 5 from bne_eq_false_iff_eq.1 b6]; rfl
 have b29 : (decide ((t.v.length : Int) > 0)) = false := by rw [own_v0 ho (by omega) (by omega)]; rfl
 have b30 : (t.kind == 1) = false := by rw [show t.kind = 5 from bne_eq_false_iff_eq.1 b6]; rfl
 have b31 : (t.kind == 2) = false := by rw [show t.kind = 5 from bne_eq_false_iff_eq.1 b6]; rfl
 have b32 : (t.kind == 3) = false := by rw [show t.kind = 5 from bne_eq_false_iff_eq.1 b6]; rfl
 have b33 : (t.kind == 4) = false := by rw [show t.kind = 5 from bne_eq_false_iff_eq.1 b6]; rfl
 have b34 : (t.kind == 5) = true := by rw [show t.kind = 5 from bne_eq_false_iff_eq.1 b6]; rfl
 refine wL hs hI [(1, rg [(14, ciV 199 [.agg [vb t.n.neg, rwU t.n.m, vi t.n.e]] (vb (ownN t.n)))] [4, 5, 1006, 8, 9, 10, 11, 12, 13, 14, 15, 16, 1016, 19, 20, 21, 22, 23, 24, 25, 26, 1026, 27, 31, 34, 35, 36, 37, 38, 39, 40, 41, 42, 1042, 45, 46, 47, 48, 49, 50, 51, 52, 1052, 53, 54, 55, 56, 57, 58, 1058] [1017, 28, 29, 30, 1031, 1032, 1043, 1059])] (bz 6 32) 12608790790790760798989766666666666666666666666666733777773377777777337777777773333373377777777337437777777771898 [q1 b1, q1 b1, q1 b1, q1 b2, q1 b2, q1 b2, q1 b2, q1 b3, q1 b3, q1 b3, q1 b3, q1 b2, q1 b3, q1 b2, q1 (ng1 b4), q1 (ng1 b4), q1 (ng1 b4), q1 (ng1 b4), q1 b5, q1 b5, q1 b5, q1 (ng1 b4), q1 b5, q1 (ng1 b4), q1 b6, q1 b6, q1 b6, q1 (ng1 b4), q1 b6, q1 (ng1 b4), q0 false, q0 false, q0 false, q0 false, q1 b26, q1 b26, q1 b26, q1 b26, q0 false, q1 b26, q0 false, q1 b27, q1 b27, q1 b27, q1 b27, q1 b26, q1 b26, q1 b26, q1 b27, q1 b26, q1 b27, q1 b28, q1 b28, q1 b28, q1 b28, q1 b27, q1 b28, q1 b27, q1 b29, q1 b30, q1 b31, q1 b32, q1 b33, q1 b34] .ret [(2, vb (decide ((t.s.size : Int) ≤ 2000)))] [] ⟨con199 t.n, tv⟩ fun a w hs => ?_
 exact rK (.val (vb (decide ((t.s.size : Int) ≤ 2000)))) [] hs (by first | rfl | rw [decide_eq_true (by have := own_size ho; omega)] | rw [decide_eq_true (own_its ho (by omega))] | (rw [own_keys ho (by omega)]; simp))
 have n5 := bne_eq_false_iff_eq.1 b5
 have b35 : (t.kind != 7) = true := by rw [show t.kind = 4 from bne_eq_false_iff_eq.1 b5]; rfl
 have b36 : (decide ((t.k.length : Int) > 0)) = false := by rw [own_k0 ho (by omega)]; rfl
 have b37 : (t.kind != 6) = true := by rw [show t.kind = 4 from bne_eq_false_iff_eq.1 b5]; rfl
 have b38 : (decide ((t.v.length : Int) > 0)) = false := by rw [own_v0 ho (by omega) (by omega)]; rfl
 have b39 : (t.kind == 1) = false := by rw [show t.kind = 4 from bne_eq_false_iff_eq.1 b5]; rfl
 have b40 : (t.kind == 2) = false := by rw [show t.kind = 4 from bne_eq_false_iff_eq.1 b5]; rfl
 have b41 : (t.kind == 3) = false := by rw [show t.kind = 4 from bne_eq_false_iff_eq.1 b5]; rfl
 have b42 : (t.kind == 4) = true := by rw [show t.kind = 4 from bne_eq_false_iff_eq.1 b5]; rfl
 refine wL hs hI [(1, rg [(14, ciV 199 [.agg [vb t.n.neg, rwU t.n.m, vi t.n.e]] (vb (ownN t.n)))] [4, 5, 1006, 8, 9, 10, 11, 12, 13, 14, 15, 16, 1016, 19, 20, 21, 22, 26, 27, 31, 34, 35, 36, 37, 38, 39, 40, 41, 42, 1042, 45, 46, 47, 48, 49, 50, 51, 52, 1052, 53, 54, 55, 56, 57, 58, 1058] [1017, 23, 24, 25, 1026, 28, 29, 30, 1031, 1032, 1043, 1059]), (10, rg [(2, ciV 200 [vs t.s] (vb true))] [4, 5, 6, 7, 1008] [])] (bz 5 16) 19666177777141790790760798989726666666666666666666666666733777773377777777337777777773333373333377777337437777777771898 [q1 b1, q1 b1, q1 b1, q1 b2, q1 b2, q1 b2, q1 b2, q1 b3, q1 b3, q1 b3, q1 b3, q1 b2, q1 b3, q1 b2, q1 (ng1 b4), q1 (ng1 b4), q1 (ng1 b4), q1 (ng1 b4), q1 b5, q1 b5, q1 b5, q1 (ng1 b4), q1 b5, q1 (ng1 b4), q0 false, q0 false, q0 false, q1 (ng1 b4), q0 false, q1 (ng1 b4), q0 false, q0 false, q0 false, q0 false, q1 b35, q1 b35, q1 b35, q1 b35, q0 false, q1 b35, q0 false, q1 b36, q1 b36, q1 b36, q1 b36, q1 b35, q1 b35, q1 b35, q1 b36, q1 b35, q1 b36, q1 b37, q1 b37, q1 b37, q1 b37, q1 b36, q1 b37, q1 b36, q1 b38, q1 b39, q1 b40, q1 b41, q1 b42, q0 true, q0 true, q0 true, q0 true, q0 true] .ret [(2, vb (decide ((t.s.size : Int) ≤ 2000)))] [] ⟨con199 t.n, con200V _ (own_txt ho (by omega)), tv⟩ fun a w hs => ?_
 exact rK (.val (vb (decide ((t.s.size : Int) ≤ 2000)))) [] hs (by first | rfl | rw [decide_eq_true (by have := own_size ho; omega)] | rw [decide_eq_true (own_its ho (by omega))] | (rw [own_keys ho (by omega)]; simp))
 have n3 := bne_eq_false_iff_eq.1 b3
 have b43 : (t.kind != 4) = true := by rw [show t.kind = 3 from bne_eq_false_iff_eq.1 b3]; rfl
 have b44 : (t.kind != 5) = true := by rw [show t.kind = 3 from bne_eq_false_iff_eq.1 b3]; rfl
 have b45 : (t.s.toList == (ba []).toList) = true := by show eqT t.s (ba []) = true; rw [own_s ho (by omega) (by omega)]; exact eqT_self _
 have b46 : (t.kind != 7) = true := by rw [show t.kind = 3 from bne_eq_false_iff_eq.1 b3]; rfl
 have b47 : (decide ((t.k.length : Int) > 0)) = false := by rw [own_k0 ho (by omega)]; rfl
 have b48 : (t.kind != 6) = true := by rw [show t.kind = 3 from bne_eq_false_iff_eq.1 b3]; rfl
 have b49 : (decide ((t.v.length : Int) > 0)) = false := by rw [own_v0 ho (by omega) (by omega)]; rfl
 have b50 : (t.kind == 1) = false := by rw [show t.kind = 3 from bne_eq_false_iff_eq.1 b3]; rfl
 have b51 : (t.kind == 2) = false := by rw [show t.kind = 3 from bne_eq_false_iff_eq.1 b3]; rfl
 have b52 : (t.kind == 3) = true := by rw [show t.kind = 3 from bne_eq_false_iff_eq.1 b3]; rfl
 refine wL hs hI [(8, rc [(2, ciV 174 [.agg [vb t.n.neg, rwU t.n.m, vi t.n.e]] (vb true))]), (1, rg [] [4, 5, 1006, 8, 9, 10, 11, 16, 19, 20, 21, 22, 23, 24, 25, 26, 1026, 27, 28, 29, 30, 31, 1031, 34, 35, 36, 37, 38, 39, 40, 41, 42, 1042, 45, 46, 47, 48, 49, 50, 51, 52, 1052, 53, 54, 55, 56, 57, 58, 1058] [12, 13, 14, 15, 1016, 1017, 1032, 1043, 1059])] (bz 4 8) 16041790760798989729666666666666666666666666673377777337777777733777777777337777337777777733333377777771898 [q1 b1, q1 b1, q1 b1, q1 b2, q1 b2, q1 b2, q1 b2, q1 b3, q1 b3, q1 b3, q1 b3, q1 b2, q1 b3, q1 b2, q0 false, q0 false, q0 false, q0 false, q1 b43, q1 b43, q1 b43, q0 false, q1 b43, q0 false, q1 b44, q1 b44, q1 b44, q0 false, q1 b44, q0 false, q1 (ng1 b45), q1 (ng1 b45), q1 (ng1 b45), q1 (ng1 b45), q1 b46, q1 b46, q1 b46, q1 b46, q1 (ng1 b45), q1 b46, q1 (ng1 b45), q1 b47, q1 b47, q1 b47, q1 b47, q1 b46, q1 b46, q1 b46, q1 b47, q1 b46, q1 b47, q1 b48, q1 b48, q1 b48, q1 b48, q1 b47, q1 b48, q1 b47, q1 b49, q1 b50, q1 b51, q1 b52] .ret [(2, vb true)] [] ⟨con174T t.n ha hl (own_num ho (by omega)), tv⟩ fun a w hs => ?_
 exact rK (.val (vb true)) [] hs (by first | rfl | rw [decide_eq_true (by have := own_size ho; omega)] | rw [decide_eq_true (own_its ho (by omega))] | (rw [own_keys ho (by omega)]; simp))
 have n1 := bne_eq_false_iff_eq.1 b1
 have b53 : (t.kind != 3) = true := by rw [show t.kind = 2 from bne_eq_false_iff_eq.1 b1]; rfl
 have b54 : (ownN t.n) = true := by rw [own_n ho (by omega)]; rfl
 have b55 : (t.kind != 4) = true := by rw [show t.kind = 2 from bne_eq_false_iff_eq.1 b1]; rfl
 have b56 : (t.kind != 5) = true := by rw [show t.kind = 2 from bne_eq_false_iff_eq.1 b1]; rfl
 have b57 : (t.s.toList == (ba []).toList) = true := by show eqT t.s (ba []) = true; rw [own_s ho (by omega) (by omega)]; exact eqT_self _
 have b58 : (t.kind != 7) = true := by rw [show t.kind = 2 from bne_eq_false_iff_eq.1 b1]; rfl
 have b59 : (decide ((t.k.length : Int) > 0)) = false := by rw [own_k0 ho (by omega)]; rfl
 have b60 : (t.kind != 6) = true := by rw [show t.kind = 2 from bne_eq_false_iff_eq.1 b1]; rfl
 have b61 : (decide ((t.v.length : Int) > 0)) = false := by rw [own_v0 ho (by omega) (by omega)]; rfl
 have b62 : (t.kind == 1) = false := by rw [show t.kind = 2 from bne_eq_false_iff_eq.1 b1]; rfl
 have b63 : (t.kind == 2) = true := by rw [show t.kind = 2 from bne_eq_false_iff_eq.1 b1]; rfl
 refine wL hs hI [(1, rg [(14, ciV 199 [.agg [vb t.n.neg, rwU t.n.m, vi t.n.e]] (vb (ownN t.n)))] [8, 9, 10, 11, 12, 13, 14, 15, 16, 1016, 19, 20, 21, 22, 23, 24, 25, 26, 1026, 27, 28, 29, 30, 31, 1031, 34, 35, 36, 37, 38, 39, 40, 41, 42, 1042, 45, 46, 47, 48, 49, 50, 51, 52, 1052, 53, 54, 55, 56, 57, 58, 1058] [4, 5, 1006, 1017, 1032, 1043, 1059])] (bz 3 4) 1217607989897266666666666666666666666666733777773377777777337777777773377773377777777337437777777331898 [q1 b1, q1 b1, q1 b1, q0 false, q0 false, q0 false, q0 false, q1 b53, q1 b53, q1 b53, q1 b53, q0 false, q1 b53, q0 false, q1 (ng1 b54), q1 (ng1 b54), q1 (ng1 b54), q1 (ng1 b54), q1 b55, q1 b55, q1 b55, q1 (ng1 b54), q1 b55, q1 (ng1 b54), q1 b56, q1 b56, q1 b56, q1 (ng1 b54), q1 b56, q1 (ng1 b54), q1 (ng1 b57), q1 (ng1 b57), q1 (ng1 b57), q1 (ng1 b57), q1 b58, q1 b58, q1 b58, q1 b58, q1 (ng1 b57), q1 b58, q1 (ng1 b57), q1 b59, q1 b59, q1 b59, q1 b59, q1 b58, q1 b58, q1 b58, q1 b59, q1 b58, q1 b59, q1 b60, q1 b60, q1 b60, q1 b60, q1 b59, q1 b60, q1 b59, q1 b61, q1 b62, q1 b63] .ret [(2, vb true)] [] ⟨con199 t.n, tv⟩ fun a w hs => ?_
 exact rK (.val (vb true)) [] hs (by first | rfl | rw [decide_eq_true (by have := own_size ho; omega)] | rw [decide_eq_true (own_its ho (by omega))] | (rw [own_keys ho (by omega)]; simp))
theorem con95T : ∀ (d : Nat) (t : Tree) (dp n0 : Int), GoodN 200 d t → 0 ≤ dp → dp + d ≤ 65 → 0 ≤ n0 → n0 + ((nodes t : Nat) : Int) ≤ 2000 → Con Tryz.prog I0 95 [.agg (encTree t), vi dp, vi n0] (.val (vi (n0 + ((nodes t : Nat) : Int)))) := by
 intro d
 induction d
 case zero => intro t dp n0 hg; exact hg.elim
 rename_i d ih
 intro t dp n0 hg h0 h1 h2 h3
 have hne := nodes_eq t
 have hvl := hg.2.1
 refine con_of Tryz.func95 rfl (Nat.le_of_ble_eq_true rfl) stab (fun w0 fz a hI hs => ?_)
 refine wNs hs hI [] 8 [] [(1, vi dp), (2, vi n0), (3, .ptr 1000 0)] [(1000, bTr (t))] fun a w hs => ?_
 refine wNs hs hI [] 171 [q3 (n0 + 1)] [(1, vi dp), (2, vi (n0 + 1)), (3, .ptr 1000 0)] [(1000, bTr (t))] fun a w hs => ?_
 refine wp_seq ?_
 have b1 : (decide ((n0 + 1) > 2000)) = false := by exact decide_eq_false (by omega)
 have b2 : (decide (dp > 64)) = false := by exact decide_eq_false (by omega)
 refine wL hs hI [(2, rg [(8, ciV 150 [aTr (t)] (vb true))] [3, 4, 7, 8, 9] [1005, 1010])] (bz 1 0) 76666774377778 [q1 b1, q1 b1, q1 b1, q1 b2, q1 b2, q1 b2, q1 b2, q0 false] .norm [(1, vi dp), (2, vi (n0 + 1)), (3, .ptr 1000 0)] [(1000, bTr (t))] ⟨con150T t hg.1.own hg.1.ok (by have := hg.1.len; omega) (by have := hg.1.k; omega), tv⟩ fun a w hs => ?_
 refine then_norm ?_
 refine wp_seq ?_
 refine wNs hs hI [] 11 [] [(1, vi dp), (2, vi (n0 + 1)), (3, .ptr 1000 0), (7, vi 0)] [(1000, bTr (t))] fun a w hs => ?_
 refine wp_block ?_
 refine loop_L (N := Tryz.f95.ntmps) (w0 := w0) (ow := noO fz) (α := Nat) (fun p => [(1, vi dp), (2, vi (n0 + 1 + ((nodesL (t.v.take p) : Nat) : Int))), (3, .ptr 1000 0), (7, vi (p : Int))]) (fun p => [(1000, bTr (t))]) (fun p => p ≤ t.v.length) (fun p => t.v.length - p) 0 ?_ ?_ ?_
 exact Nat.zero_le _
 exact (hs.cst [(1, vi dp), (2, vi (n0 + 1 + ((nodesL (t.v.take 0) : Nat) : Int))), (3, .ptr 1000 0), (7, vi ((0 : Nat) : Int))] [(1000, bTr (t))] (by rw [show n0 + 1 + ((nodesL (t.v.take 0) : Nat) : Int) = n0 + 1 by rw [List.take_zero]; simp only [nodesL]; omega]; rfl)).rk [(1000, 1000)]
 rintro i hJ a w hs
 have hle := nodesL_le t.v i
 rcases bd ((i : Int) < (t.v.length : Int)) with ⟨b3, n3⟩ | ⟨b3, n3⟩
 have ht1 := nodesL_take t.v i (by omega)
 have hle1 := nodesL_le t.v (i + 1)
 have b4 : (decide ((n0 + 1 + ((nodesL (t.v.take i) : Nat) : Int)) ≥ 0)) = true := by exact decide_eq_true (by omega)
 refine wL hs hI [(7, rc [(8, ciV 95 [aTr ((t.v.getD i (dflt .tree))), vi (dp + 1), vi (n0 + 1 + ((nodesL (t.v.take i) : Nat) : Int))] (vi ((n0 + 1 + ((nodesL (t.v.take i) : Nat) : Int)) + ((nodes (t.v.getD i (dflt .tree)) : Nat) : Int))))]), (5, rg [] [6, 7, 1008] [])] (bz 1 1) 17196604717897296677788 [q1 b3, q1 b3, q1 b3, q1 b4, q4 (i : Int) t.v.length, q3 (dp + 1), q3 ((i : Int) + 1)] .norm [(1, vi dp), (2, vi ((n0 + 1 + ((nodesL (t.v.take i) : Nat) : Int)) + ((nodes (t.v.getD i (dflt .tree)) : Nat) : Int))), (3, .ptr 1000 0), (7, vi ((i : Int) + 1))] [(1000, bTr (t))] ⟨ih _ _ _ (hg.2.2 _ (getD_mem (by omega) _)) (by omega) (by omega) (by omega) (by omega), tv⟩ fun a w hs => ?_
 refine then_norm ⟨i + 1, by omega, by omega, ?_⟩
 (have e0_ : ((n0 + 1 + ((nodesL (t.v.take i) : Nat) : Int)) + ((nodes (t.v.getD i (dflt .tree)) : Nat) : Int)) = (n0 + 1 + ((nodesL (t.v.take (i + 1)) : Nat) : Int)) := (by first | rfl | (omega)); have e1_ : ((i : Int) + 1) = ((((i + 1) : Nat) : Int)) := (by first | rfl | (omega)); exact (hs.cst [(1, vi dp), (2, vi (n0 + 1 + ((nodesL (t.v.take (i + 1)) : Nat) : Int))), (3, .ptr 1000 0), (7, vi (((i + 1) : Nat) : Int))] [(1000, bTr (t))] (by first | (rw [e0_, e1_]; done) | (simp only [e0_, e1_]; done) | rfl | (simp only [e0_, e1_]; rfl))).rk [(1000, 1000)])
 refine wL hs hI [(5, rg [] [] [6, 7, 1008])] (bz 1 0) 726673388 [q1 b3, q1 b3, q1 b3, q0 false] (.exit 0) [(2, vi (n0 + 1 + ((nodesL (t.v.take i) : Nat) : Int)))] [] tv fun a w hs => ?_
 refine then_exit ?_
 refine inb_hit ?_
 refine then_norm ?_
 refine wN hs hI [] 198 [] .ret [(6, vi (n0 + 1 + ((nodesL (t.v.take i) : Nat) : Int)))] [] fun a w hs => ?_
 exact rK (.val (vi (n0 + 1 + ((nodesL (t.v.take i) : Nat) : Int)))) [] hs (by have h8 : t.v.take i = t.v := List.take_of_length_le (by omega); rw [h8, show n0 + 1 + ((nodesL t.v : Nat) : Int) = n0 + ((nodes t : Nat) : Int) by omega])
theorem con44T (t : Tree) (hg : GoodN 200 20 t) (hn : nodes t ≤ 200) : Con Tryz.prog I0 44 [.agg (encTree t)] (.val (vb true)) := by
 refine con_of Tryz.func44 rfl (Nat.le_of_ble_eq_true rfl) stab (fun w0 fz a hI hs => ?_)
 refine wL hs hI [(1, rc [(1, ciV 95 [aTr (t), vi 1, vi 0] (vi (0 + ((nodes t : Nat) : Int))))])] [] 1684198 [] .ret [(2, vb (decide ((0 + ((nodes t : Nat) : Int)) ≥ 0)))] [] ⟨con95T 20 t 1 0 hg (by decide) (by decide) (by decide) (by omega), tv⟩ fun a w hs => ?_
 exact rK (.val (vb (decide ((0 + ((nodes t : Nat) : Int)) ≥ 0)))) [] hs (by first | rfl | rw [decide_eq_true (by omega)])
theorem con164T (ps : List ByteArray) (h : ∀ x ∈ ps, kS x = true) (hl : ps.length ≤ 4) : Con Tryz.prog I0 164 [.row .str ps] (.val (vb true)) := by
 refine con_of Tryz.func164 rfl (Nat.le_of_ble_eq_true rfl) stab (fun w0 fz a hI hs => ?_)
 refine wNs hs hI [] 11 [] [(0, rwS ps)] [] fun a w hs => ?_
 refine wp_seq ?_
 refine wNs hs hI [] 11 [] [(0, rwS ps), (3, vi 0)] [] fun a w hs => ?_
 refine wp_block ?_
 refine loop_L (N := Tryz.f164.ntmps) (w0 := w0) (ow := noO fz) (α := Nat) (fun p => [(0, rwS ps), (3, vi (p : Int))]) (fun p => []) (fun p => p ≤ ps.length) (fun p => ps.length - p) 0 ?_ ?_ ?_
 exact Nat.zero_le _
 exact (hs.cst [(0, rwS ps), (3, vi ((0 : Nat) : Int))] [] rfl).rk []
 rintro i hJ a w hs
 rcases bd ((i : Int) < (ps.length : Int)) with ⟨b1, n1⟩ | ⟨b1, n1⟩
 have b2 : (decide (((ps.getD i (dflt .str)).size : Int) > 2000)) = false := by exact decide_eq_false (by have := (kS_in (h _ (getD_mem (l := ps) (i := i) (by omega) (dflt .str)))).1; omega)
 refine wL hs hI [(4, rg [(4, ciV 200 [vs (ps.getD i (dflt .str))] (vb true))] [7, 8, 9, 10, 11, 12] [1013])] (bz 2 1) 171976666677773377047097608 [q1 b1, q4 (i : Int) ps.length, q0 false, q0 false, q0 false, q4 (i : Int) ps.length, q0 false, q0 false, q0 false, q0 false, q1 b2, q3 ((i : Int) + 1)] .norm [(0, rwS ps), (3, vi ((i : Int) + 1))] [] ⟨con200T _ (h _ (getD_mem (by omega) _)), tv⟩ fun a w hs => ?_
 refine then_norm ⟨i + 1, by omega, by omega, ?_⟩
 exact hs.rk []
 refine wN hs hI (bz 1 0) 7608 [q1 b1] (.exit 0) [(0, rwS ps)] [] fun a w hs => ?_
 refine then_exit ?_
 refine inb_hit ?_
 refine then_norm ?_
 refine wN hs hI [] 1608 [] .ret [(2, vb (decide ((ps.length : Int) ≤ 63)))] [] fun a w hs => ?_
 exact rK (.val (vb (decide ((ps.length : Int) ≤ 63)))) [] hs (by rw [decide_eq_true (by omega)])
theorem con165  : Con Tryz.prog I0 165 [.agg [vi 0, vb false, vb false, .row (.int .u32) ([]), vi 0, vs (ba []), .row .str ([]), .row .tree ([])]] (.val (vb true)) := by
 refine con_of Tryz.func165 rfl (Nat.le_of_ble_eq_true rfl) stab (fun w0 fz a hI hs => ?_)
 refine wL hs hI [(1, rg [] [4, 5, 6, 1007, 9, 10, 11, 12, 1013, 15, 16, 17, 18, 19, 1020, 22, 23, 24, 25, 1026, 28, 29, 30, 1031, 33, 34, 35, 36, 1037, 39, 40, 41, 42, 1043] [])] [] 1666666666666666666177777777777777777777777777777777771898 [q0 true, q0 true, q0 true, q0 true, q0 true, q0 true, q0 true, q0 true, q0 true, q0 true, q0 true, q0 true, q0 true, q0 true, q0 true, q0 true, q0 true, q0 true, q0 true, q0 true, q0 true, q0 true, q0 true, q0 true, q0 true, q0 true, q0 true, q0 true, q0 true, q0 true, q0 true, q0 true, q0 true, q0 true] .ret [(2, vb true)] [] tv fun a w hs => ?_
 exact rK (.val (vb true)) [] hs rfl
theorem con109T  : Con Tryz.prog I0 109 [.agg [vi 0, vb false, vb false, .row (.int .u32) ([]), vi 0, vs (ba []), .row .str ([]), .row .tree ([])]] (.val (vb true)) := by
 refine con_of Tryz.func109 rfl (Nat.le_of_ble_eq_true rfl) stab (fun w0 fz a hI hs => ?_)
 refine wL hs hI [(1, rc [(1, ciV 165 [.agg [vi 0, vb false, vb false, rwU ([]), vi 0, vs (ba []), rwS ([]), rwT ([])]] (vb true))])] [] 12904198 [] .ret [(2, vb true)] [] ⟨con165, tv⟩ fun a w hs => ?_
 exact rK (.val (vb true)) [] hs rfl
theorem con165T (t : Tree) (h : t = Tree.zero) : Con Tryz.prog I0 165 [.agg (encTree t)] (.val (vb true)) := by
 rw [h]
 exact con165
theorem fromF_no {k : Int} (h : fromF k = false) : k ≠ 4 ∧ k ≠ 5 := by
 simp only [fromF, Bool.or_eq_false_iff, beq_eq_false_iff_ne] at h
 exact h
theorem valueF_no {k : Int} (h : valueF k = false) : k ≠ 1 ∧ k ≠ 3 ∧ k ≠ 6 := by
 simp only [valueF, Bool.or_eq_false_iff, beq_eq_false_iff_ne] at h
 exact ⟨h.1.1, h.1.2, h.2⟩
theorem con108T (l : List Opn) (h : ∀ o ∈ l, OpE o) (hl : l.length ≤ 13) : Con Tryz.prog I0 108 [.row .opn l] (.val (vb true)) := by
 refine con_of Tryz.func108 rfl (Nat.le_of_ble_eq_true rfl) stab (fun w0 fz a hI hs => ?_)
 refine wNs hs hI [] 11 [] [(0, .row .opn l)] [] fun a w hs => ?_
 refine wp_seq ?_
 refine wNs hs hI [] 11 [] [(0, .row .opn l), (3, vi 0)] [] fun a w hs => ?_
 refine wp_block ?_
 refine loop_L (N := Tryz.f108.ntmps) (w0 := w0) (ow := noO fz) (α := Nat) (fun p => [(0, .row .opn l), (3, vi (p : Int))]) (fun p => []) (fun p => p ≤ l.length) (fun p => l.length - p) 0 ?_ ?_ ?_
 exact Nat.zero_le _
 exact (hs.cst [(0, .row .opn l), (3, vi ((0 : Nat) : Int))] [] rfl).rk []
 rintro i hJ a w hs
 refine wp_seq ?_
 rcases bd ((i : Int) < (l.length : Int)) with ⟨b1, n1⟩ | ⟨b1, n1⟩
 have hO := h _ (getD_mem (l := l) (i := i) (by omega) (dflt .opn))
 have hop := hO.op
 refine wN hs hI (bz 1 1) 7608 [q1 b1] .norm [(0, .row .opn l), (3, vi (i : Int))] [] fun a w hs => ?_
 refine then_norm ?_
 refine wp_seq ?_
 refine wp_block ?_
 refine wNs hs hI [] 870 [q4 (i : Int) l.length] [(0, .row .opn l), (3, vi (i : Int)), (4, .ptr 5004 0)] [(5004, .var (enc .opn ((l.getD i (dflt .opn)))))] fun a w hs => ?_
 refine wp_cut (N := Tryz.f108.ntmps) (w0 := w0) (ow := noO fz) (T := [(0, .row .opn l), (3, vi (i : Int)), (4, .ptr 5004 0), (5, vb (fromF (l.getD i (dflt .opn)).op))]) (B := [(5004, .var (enc .opn ((l.getD i (dflt .opn)))))]) (True) ?_ ?_
 rcases bq ((l.getD i (dflt .opn)).op) (4) with ⟨b2, n2⟩ | ⟨b2, n2⟩
 refine wL hs hI [(5, rg [] [1007] [4, 5, 6])] [] 1733318 [q1 b2, q1 b2, q1 b2, q1 b2] .norm [(0, .row .opn l), (3, vi (i : Int)), (4, .ptr 5004 0), (5, vb true)] [(5004, .var (enc .opn ((l.getD i (dflt .opn)))))] tv fun a w hs => ?_
 refine then_norm ⟨trivial, ?_⟩
 (have e0_ : (true) = (fromF (l.getD i (dflt .opn)).op) := (by first | rfl | (simp only [fromF, b2, Bool.true_or, Bool.or_true, Bool.false_or, Bool.or_false])); exact (hs.cst [(0, .row .opn l), (3, vi (i : Int)), (4, .ptr 5004 0), (5, vb (fromF (l.getD i (dflt .opn)).op))] [(5004, .var (enc .opn ((l.getD i (dflt .opn)))))] (by first | (rw [e0_]; done) | (simp only [e0_]; done) | rfl | (simp only [e0_]; rfl))).rk [(5004, 5004)])
 refine wL hs hI [(5, rg [] [4, 5, 6] [1007])] [] 1777718 [q1 b2, q1 b2, q1 b2, q1 b2] .norm [(0, .row .opn l), (3, vi (i : Int)), (4, .ptr 5004 0), (5, vb (((l.getD i (dflt .opn)).op) == 5))] [(5004, .var (enc .opn ((l.getD i (dflt .opn)))))] tv fun a w hs => ?_
 refine then_norm ⟨trivial, ?_⟩
 (have e0_ : (((l.getD i (dflt .opn)).op) == 5) = (fromF (l.getD i (dflt .opn)).op) := (by first | rfl | (simp only [fromF, b2, Bool.true_or, Bool.or_true, Bool.false_or, Bool.or_false])); exact (hs.cst [(0, .row .opn l), (3, vi (i : Int)), (4, .ptr 5004 0), (5, vb (fromF (l.getD i (dflt .opn)).op))] [(5004, .var (enc .opn ((l.getD i (dflt .opn)))))] (by first | (rw [e0_]; done) | (simp only [e0_]; done) | rfl | (simp only [e0_]; rfl))).rk [(5004, 5004)])
 intro hF a w hs
 refine wp_cut (N := Tryz.f108.ntmps) (w0 := w0) (ow := noO fz) (T := [(0, .row .opn l), (3, vi (i : Int)), (4, .ptr 5004 0), (5, vb (fromF (l.getD i (dflt .opn)).op)), (6, vb (valueF (l.getD i (dflt .opn)).op))]) (B := [(5004, .var (enc .opn ((l.getD i (dflt .opn)))))]) (True) ?_ ?_
 rcases bq ((l.getD i (dflt .opn)).op) (1) with ⟨b3, n3⟩ | ⟨b3, n3⟩
 refine wL hs hI [(6, rg [] [1007, 1012] [4, 5, 6, 9, 10, 11])] [] 17333733318 [q1 b3, q1 b3, q1 b3, q1 b3, q0 true, q0 true, q0 true, q0 true] .norm [(0, .row .opn l), (3, vi (i : Int)), (4, .ptr 5004 0), (5, vb (fromF (l.getD i (dflt .opn)).op)), (6, vb true)] [(5004, .var (enc .opn ((l.getD i (dflt .opn)))))] tv fun a w hs => ?_
 refine then_norm ⟨trivial, ?_⟩
 (have e0_ : (true) = (valueF (l.getD i (dflt .opn)).op) := (by first | rfl | (simp only [valueF, b3, Bool.true_or, Bool.or_true, Bool.false_or, Bool.or_false])); exact (hs.cst [(0, .row .opn l), (3, vi (i : Int)), (4, .ptr 5004 0), (5, vb (fromF (l.getD i (dflt .opn)).op)), (6, vb (valueF (l.getD i (dflt .opn)).op))] [(5004, .var (enc .opn ((l.getD i (dflt .opn)))))] (by first | (rw [e0_]; done) | (simp only [e0_]; done) | rfl | (simp only [e0_]; rfl))).rk [(5004, 5004)])
 rcases bq ((l.getD i (dflt .opn)).op) (3) with ⟨b4, n4⟩ | ⟨b4, n4⟩
 refine wL hs hI [(6, rg [] [4, 5, 6, 1012] [1007, 9, 10, 11])] [] 17333777718 [q1 b3, q1 b3, q1 b3, q1 b3, q1 b4, q1 b4, q1 b4, q1 b4] .norm [(0, .row .opn l), (3, vi (i : Int)), (4, .ptr 5004 0), (5, vb (fromF (l.getD i (dflt .opn)).op)), (6, vb true)] [(5004, .var (enc .opn ((l.getD i (dflt .opn)))))] tv fun a w hs => ?_
 refine then_norm ⟨trivial, ?_⟩
 (have e0_ : (true) = (valueF (l.getD i (dflt .opn)).op) := (by first | rfl | (simp only [valueF, b3, b4, Bool.true_or, Bool.or_true, Bool.false_or, Bool.or_false])); exact (hs.cst [(0, .row .opn l), (3, vi (i : Int)), (4, .ptr 5004 0), (5, vb (fromF (l.getD i (dflt .opn)).op)), (6, vb (valueF (l.getD i (dflt .opn)).op))] [(5004, .var (enc .opn ((l.getD i (dflt .opn)))))] (by first | (rw [e0_]; done) | (simp only [e0_]; done) | rfl | (simp only [e0_]; rfl))).rk [(5004, 5004)])
 refine wL hs hI [(6, rg [] [4, 5, 6, 9, 10, 11] [1007, 1012])] [] 17777777718 [q1 b3, q1 b3, q1 b3, q1 b3, q1 b4, q1 b4, q1 b4, q1 b4] .norm [(0, .row .opn l), (3, vi (i : Int)), (4, .ptr 5004 0), (5, vb (fromF (l.getD i (dflt .opn)).op)), (6, vb (((l.getD i (dflt .opn)).op) == 6))] [(5004, .var (enc .opn ((l.getD i (dflt .opn)))))] tv fun a w hs => ?_
 refine then_norm ⟨trivial, ?_⟩
 (have e0_ : (((l.getD i (dflt .opn)).op) == 6) = (valueF (l.getD i (dflt .opn)).op) := (by first | rfl | (simp only [valueF, b3, b4, Bool.true_or, Bool.or_true, Bool.false_or, Bool.or_false])); exact (hs.cst [(0, .row .opn l), (3, vi (i : Int)), (4, .ptr 5004 0), (5, vb (fromF (l.getD i (dflt .opn)).op)), (6, vb (valueF (l.getD i (dflt .opn)).op))] [(5004, .var (enc .opn ((l.getD i (dflt .opn)))))] (by first | (rw [e0_]; done) | (simp only [e0_]; done) | rfl | (simp only [e0_]; rfl))).rk [(5004, 5004)])
 intro hF a w hs
 have b5 : (decide (((l.getD i (dflt .opn)).op) < 1)) = false := by exact decide_eq_false (by omega)
 have b6 : (decide (((l.getD i (dflt .opn)).op) > 6)) = false := by exact decide_eq_false (by omega)
 rcases bt (fromF (l.getD i (dflt .opn)).op) with b7 | b7
 rcases bt (valueF (l.getD i (dflt .opn)).op) with b8 | b8
 refine wL hs hI [(7, rg [(11, ciV 164 [rwS ((l.getD i (dflt .opn)).path)] (vb true)), (17, ciV 164 [rwS ((l.getD i (dflt .opn)).frm)] (vb true)), (35, ciV 44 [aTr (((l.getD i (dflt .opn)).value))] (vb true))] [4, 5, 6, 9, 10, 11, 12, 15, 16, 17, 18, 21, 22, 23, 28, 31, 32, 33, 34, 35, 36, 37, 1037, 40, 41, 42, 47] [1007, 1013, 1019, 24, 25, 26, 27, 1028, 1029, 1038, 43, 44, 45, 46, 1047, 1048])] (bz 1 0) 729666666666666666666733333377773374377777333333777774377774377777718 [q1 b5, q1 b5, q1 b5, q1 b5, q1 b6, q1 b6, q1 b6, q1 b6, q1 b6, q0 false, q0 false, q0 false, q0 false, q0 false, q0 false, q0 false, q0 false, q1 (ng1 b7), q1 (ng1 b7), q1 (ng1 b7), q1 (ng1 b7), q0 false, q1 (ng1 b7), q0 false, q0 false, q0 false, q1 b8, q1 b8, q1 b8, q1 b8, q0 false, q1 b8, q0 false, q0 false, q0 false, q0 false, q1 (ng1 b8), q1 (ng1 b8), q1 (ng1 b8), q1 (ng1 b8), q0 false, q1 (ng1 b8), q0 false, q0 false] .norm [(0, .row .opn l), (3, vi (i : Int))] [] ⟨con164T _ hO.path.2 hO.path.1, con164T _ hO.frm.2 hO.frm.1, con44T _ (hO.val (value_op (by assumption))).1 (by have := (hO.val (value_op (by assumption))).2; omega), tv⟩ fun a w hs => ?_
 refine inb_norm ?_
 refine then_norm ?_
 refine wN hs hI [] 171 [q3 ((i : Int) + 1)] .norm [(0, .row .opn l), (3, vi ((i : Int) + 1))] [] fun a w hs => ?_
 refine then_norm ⟨i + 1, by omega, by omega, ?_⟩
 exact hs.rk []
 refine wL hs hI [(7, rg [(11, ciV 164 [rwS ((l.getD i (dflt .opn)).path)] (vb true)), (17, ciV 164 [rwS ((l.getD i (dflt .opn)).frm)] (vb true)), (45, ciV 165 [aTr (((l.getD i (dflt .opn)).value))] (vb true))] [4, 5, 6, 9, 10, 11, 12, 15, 16, 17, 18, 21, 22, 23, 28, 31, 32, 37, 40, 41, 42, 43, 44, 45, 46, 47, 1047] [1007, 1013, 1019, 24, 25, 26, 27, 1028, 1029, 33, 34, 35, 36, 1037, 1038, 1048])] (bz 1 0) 729666666666666666666733743777777333333777333333777774377774377777718 [q1 b5, q1 b5, q1 b5, q1 b5, q1 b6, q1 b6, q1 b6, q1 b6, q1 b6, q0 false, q0 false, q0 false, q0 false, q0 false, q0 false, q0 false, q0 false, q1 (ng1 b7), q1 (ng1 b7), q1 (ng1 b7), q1 (ng1 b7), q0 false, q1 (ng1 b7), q0 false, q0 false, q0 false, q1 b8, q1 b8, q1 b8, q1 b8, q0 false, q1 b8, q0 false, q0 false, q0 false, q0 false, q1 (ng0 b8), q1 (ng0 b8), q1 (ng0 b8), q1 (ng0 b8), q0 false, q1 (ng0 b8), q0 false, q0 false] .norm [(0, .row .opn l), (3, vi (i : Int))] [] ⟨con164T _ hO.path.2 hO.path.1, con164T _ hO.frm.2 hO.frm.1, con165T _ (hO.noval (valueF_no (by assumption)).1 (valueF_no (by assumption)).2.1 (valueF_no (by assumption)).2.2), tv⟩ fun a w hs => ?_
 refine inb_norm ?_
 refine then_norm ?_
 refine wN hs hI [] 171 [q3 ((i : Int) + 1)] .norm [(0, .row .opn l), (3, vi ((i : Int) + 1))] [] fun a w hs => ?_
 refine then_norm ⟨i + 1, by omega, by omega, ?_⟩
 exact hs.rk []
 have b9 : (decide ((((l.getD i (dflt .opn)).frm).length : Int) > 0)) = false := by rw [hO.nofrm (fromF_no (by assumption)).1 (fromF_no (by assumption)).2]; rfl
 rcases bt (valueF (l.getD i (dflt .opn)).op) with b10 | b10
 refine wL hs hI [(7, rg [(11, ciV 164 [rwS ((l.getD i (dflt .opn)).path)] (vb true)), (17, ciV 164 [rwS ((l.getD i (dflt .opn)).frm)] (vb true)), (35, ciV 44 [aTr (((l.getD i (dflt .opn)).value))] (vb true))] [4, 5, 6, 9, 10, 11, 12, 15, 16, 17, 18, 21, 22, 23, 24, 25, 26, 27, 28, 1028, 31, 32, 33, 34, 35, 36, 37, 1037, 40, 41, 42, 47] [1007, 1013, 1019, 1029, 1038, 43, 44, 45, 46, 1047, 1048])] (bz 1 0) 7296666666666666666666733333377773374377777337777777774377774377777718 [q1 b5, q1 b5, q1 b5, q1 b5, q1 b6, q1 b6, q1 b6, q1 b6, q1 b6, q0 false, q0 false, q0 false, q0 false, q0 false, q0 false, q0 false, q0 false, q1 (ng0 b7), q1 (ng0 b7), q1 (ng0 b7), q1 (ng0 b7), q0 false, q1 (ng0 b7), q0 false, q1 b9, q1 b9, q1 b10, q1 b10, q1 b10, q1 b10, q1 b9, q1 b10, q1 b9, q0 false, q0 false, q0 false, q1 (ng1 b10), q1 (ng1 b10), q1 (ng1 b10), q1 (ng1 b10), q0 false, q1 (ng1 b10), q0 false, q0 false] .norm [(0, .row .opn l), (3, vi (i : Int))] [] ⟨con164T _ hO.path.2 hO.path.1, con164T _ hO.frm.2 hO.frm.1, con44T _ (hO.val (value_op (by assumption))).1 (by have := (hO.val (value_op (by assumption))).2; omega), tv⟩ fun a w hs => ?_
 refine inb_norm ?_
 refine then_norm ?_
 refine wN hs hI [] 171 [q3 ((i : Int) + 1)] .norm [(0, .row .opn l), (3, vi ((i : Int) + 1))] [] fun a w hs => ?_
 refine then_norm ⟨i + 1, by omega, by omega, ?_⟩
 exact hs.rk []
 refine wL hs hI [(7, rg [(11, ciV 164 [rwS ((l.getD i (dflt .opn)).path)] (vb true)), (17, ciV 164 [rwS ((l.getD i (dflt .opn)).frm)] (vb true)), (45, ciV 165 [aTr (((l.getD i (dflt .opn)).value))] (vb true))] [4, 5, 6, 9, 10, 11, 12, 15, 16, 17, 18, 21, 22, 23, 24, 25, 26, 27, 28, 1028, 31, 32, 37, 40, 41, 42, 43, 44, 45, 46, 47, 1047] [1007, 1013, 1019, 1029, 33, 34, 35, 36, 1037, 1038, 1048])] (bz 1 0) 7296666666666666666666733743777777333333777337777777774377774377777718 [q1 b5, q1 b5, q1 b5, q1 b5, q1 b6, q1 b6, q1 b6, q1 b6, q1 b6, q0 false, q0 false, q0 false, q0 false, q0 false, q0 false, q0 false, q0 false, q1 (ng0 b7), q1 (ng0 b7), q1 (ng0 b7), q1 (ng0 b7), q0 false, q1 (ng0 b7), q0 false, q1 b9, q1 b9, q1 b10, q1 b10, q1 b10, q1 b10, q1 b9, q1 b10, q1 b9, q0 false, q0 false, q0 false, q1 (ng0 b10), q1 (ng0 b10), q1 (ng0 b10), q1 (ng0 b10), q0 false, q1 (ng0 b10), q0 false, q0 false] .norm [(0, .row .opn l), (3, vi (i : Int))] [] ⟨con164T _ hO.path.2 hO.path.1, con164T _ hO.frm.2 hO.frm.1, con165T _ (hO.noval (valueF_no (by assumption)).1 (valueF_no (by assumption)).2.1 (valueF_no (by assumption)).2.2), tv⟩ fun a w hs => ?_
 refine inb_norm ?_
 refine then_norm ?_
 refine wN hs hI [] 171 [q3 ((i : Int) + 1)] .norm [(0, .row .opn l), (3, vi ((i : Int) + 1))] [] fun a w hs => ?_
 refine then_norm ⟨i + 1, by omega, by omega, ?_⟩
 exact hs.rk []
 refine wN hs hI (bz 1 0) 7608 [q1 b1] (.exit 0) [(0, .row .opn l)] [] fun a w hs => ?_
 refine then_exit ?_
 refine then_exit ?_
 refine inb_hit ?_
 refine then_norm ?_
 refine wN hs hI [] 1608 [] .ret [(2, vb (decide ((l.length : Int) ≤ 60)))] [] fun a w hs => ?_
 exact rK (.val (vb (decide ((l.length : Int) ≤ 60)))) [] hs (by rw [decide_eq_true (by omega)])
def LowB (s : ByteArray) : Prop := (∀ i, i < s.size → 97 ≤ byteAt s (i : Int) ∧ byteAt s (i : Int) ≤ 122) ∧ 1 ≤ s.size ∧ s.size ≤ 2000
def LowM (m : List (List ByteArray)) : Prop := m.length ≤ 60 ∧ ∀ q ∈ m, 1 ≤ q.length ∧ q.length ≤ 63 ∧ ∀ n ∈ q, LowB n
theorem nmE_low {j : Int} (h : 0 ≤ j ∧ j < 5) : LowB (nmE j) := by
 have hj : j = 0 ∨ j = 1 ∨ j = 2 ∨ j = 3 ∨ j = 4 := by omega
 rcases hj with rfl | rfl | rfl | rfl | rfl <;> exact ⟨by decide +kernel, by decide +kernel, by decide +kernel⟩
theorem qE_low (l : List Int) (h : l.length ≤ 60) : LowM (l.map qE) := by
 refine ⟨by rw [List.length_map]; exact h, fun q hq => ?_⟩
 obtain ⟨x, _, rfl⟩ := List.mem_map.1 hq
 have hi := qE_in x
 have h4 : (qE x).length ≠ 0 := fun e => hi.2.1 (List.eq_nil_of_length_eq_zero e)
 refine ⟨by omega, by omega, fun n hn => ?_⟩
 have hv := placeF_in x 1048576 (by decide)
 have h5 := tm_w (n := 5) hv.1 (by decide)
 have hd := td_w (n := 15) hv.1 (by decide) hv.2
 have h15 := tm_w (n := 5) hd.1 (by decide)
 unfold qE at hn
 split at hn
 rcases List.mem_cons.1 hn with rfl | hn
 exact nmE_low h5
 rw [List.mem_singleton.1 hn]; exact nmE_low h15
 rw [List.mem_singleton.1 hn]; exact nmE_low h5
theorem con38L (s : ByteArray) (h : LowB s) : Con Tryz.prog I0 38 [vs s] (.val (vb true)) := by
 obtain ⟨h1, h2, h3⟩ := h
 refine con_of Tryz.func38 rfl (Nat.le_of_ble_eq_true rfl) stab (fun w0 fz a hI hs => ?_)
 refine wNs hs hI [] 11 [] [(0, vs s)] [] fun a w hs => ?_
 refine wp_seq ?_
 refine wNs hs hI [] 11 [] [(0, vs s), (3, vi 0)] [] fun a w hs => ?_
 refine wp_block ?_
 refine loop_L (N := Tryz.f38.ntmps) (w0 := w0) (ow := noO fz) (α := Nat) (fun p => [(0, vs s), (3, vi (p : Int))]) (fun p => []) (fun p => p ≤ s.size) (fun p => s.size - p) 0 ?_ ?_ ?_
 exact Nat.zero_le _
 exact (hs.cst [(0, vs s), (3, vi ((0 : Nat) : Int))] [] rfl).rk []
 rintro i hJ a w hs
 rcases bd ((i : Int) < (s.size : Int)) with ⟨b1, n1⟩ | ⟨b1, n1⟩
 have b2 : (decide ((byteAt s (i : Int)) ≥ 97)) = true := by exact decide_eq_true (by have := h1 i (by omega); omega)
 have b3 : (decide ((byteAt s (i : Int)) ≤ 122)) = true := by exact decide_eq_true (by have := h1 i (by omega); omega)
 refine wL hs hI [(5, rg [] [3, 4, 1005, 1013, 1017] [7, 8, 9, 12, 15, 16]), (6, rg [] [] [3, 4, 5, 8, 9, 12, 1013])] (bz 2 1) 171679666731731733826666617337317337778617097608 [q1 b1, q4 (i : Int) s.size, q1 b2, q1 b2, q1 b2, q1 b3, q1 b3, q1 b3, q1 b3, q1 b3, q0 true, q0 true, q0 true, q0 false, q0 false, q0 false, q0 false, q0 false, q0 false, q0 false, q0 false, q3 ((i : Int) + 1)] .norm [(0, vs s), (3, vi ((i : Int) + 1))] [] tv fun a w hs => ?_
 refine then_norm ⟨i + 1, by omega, by omega, ?_⟩
 exact hs.rk []
 refine wN hs hI (bz 1 0) 7608 [q1 b1] (.exit 0) [(0, vs s)] [] fun a w hs => ?_
 refine then_exit ?_
 refine inb_hit ?_
 refine then_norm ?_
 have b4 : (decide ((s.size : Int) ≥ 1)) = true := by exact decide_eq_true (by omega)
 refine wL hs hI [(8, rg [] [4, 5, 6, 1007] [])] [] 16661777718 [q1 b4, q1 b4, q1 b4, q1 b4] .ret [(2, vb (decide ((s.size : Int) ≤ 2000)))] [] tv fun a w hs => ?_
 exact rK (.val (vb (decide ((s.size : Int) ≤ 2000)))) [] hs (by first | rfl | rw [decide_eq_true (by omega)])
theorem con40T (m : List (List ByteArray)) (h : LowM m) : Con Tryz.prog I0 40 [.row .strs m] (.val (vb true)) := by
 obtain ⟨h1, h2⟩ := h
 refine con_of Tryz.func40 rfl (Nat.le_of_ble_eq_true rfl) stab (fun w0 fz a hI hs => ?_)
 refine wNs hs hI [] 11 [] [(0, .row .strs m)] [] fun a w hs => ?_
 refine wp_seq ?_
 refine wNs hs hI [] 11 [] [(0, .row .strs m), (3, vi 0)] [] fun a w hs => ?_
 refine wp_block ?_
 refine loop_L (N := Tryz.f40.ntmps) (w0 := w0) (ow := noO fz) (α := Nat) (fun p => [(0, .row .strs m), (3, vi (p : Int))]) (fun p => []) (fun p => p ≤ m.length) (fun p => m.length - p) 0 ?_ ?_ ?_
 exact Nat.zero_le _
 exact (hs.cst [(0, .row .strs m), (3, vi ((0 : Nat) : Int))] [] rfl).rk []
 rintro i hJ a w hs
 refine wp_seq ?_
 rcases bd ((i : Int) < (m.length : Int)) with ⟨b1, n1⟩ | ⟨b1, n1⟩
 have hq := h2 _ (getD_mem (l := m) (i := i) (by omega) (dflt .strs))
 refine wN hs hI (bz 1 1) 7608 [q1 b1] .norm [(0, .row .strs m), (3, vi (i : Int))] [] fun a w hs => ?_
 refine then_norm ?_
 refine wp_seq ?_
 refine wp_block ?_
 refine wp_seq ?_
 have b2 : (decide (((m.getD i (dflt .strs)).length : Int) < 1)) = false := by exact decide_eq_false (by have := h2 _ (getD_mem (l := m) (i := i) (by omega) (dflt .strs)); omega)
 have b3 : (decide (((m.getD i (dflt .strs)).length : Int) > 63)) = false := by exact decide_eq_false (by have := h2 _ (getD_mem (l := m) (i := i) (by omega) (dflt .strs)); omega)
 refine wL hs hI [(4, rg [] [7, 8, 9, 10, 11, 12] [1013])] (bz 1 0) 76666677773377870 [q4 (i : Int) m.length, q1 b2, q1 b2, q1 b2, q4 (i : Int) m.length, q1 b2, q1 b2, q1 b2, q1 b2, q1 b3] .norm [(0, .row .strs m), (3, vi (i : Int))] [] tv fun a w hs => ?_
 refine then_norm ?_
 refine wNs hs hI [] 11 [] [(0, .row .strs m), (3, vi (i : Int)), (4, vi 0)] [] fun a w hs => ?_
 refine wp_block ?_
 refine loop_L (N := Tryz.f40.ntmps) (w0 := w0) (ow := noO fz) (α := Nat) (fun p => [(0, .row .strs m), (3, vi (i : Int)), (4, vi (p : Int))]) (fun p => []) (fun p => p ≤ (m.getD i (dflt .strs)).length) (fun p => (m.getD i (dflt .strs)).length - p) 0 ?_ ?_ ?_
 exact Nat.zero_le _
 exact (hs.cst [(0, .row .strs m), (3, vi (i : Int)), (4, vi ((0 : Nat) : Int))] [] rfl).rk []
 rintro k hJ a w hs
 rcases bd ((k : Int) < ((m.getD i (dflt .strs)).length : Int)) with ⟨b4, n4⟩ | ⟨b4, n4⟩
 refine wL hs hI [(9, rc [(7, ciV 38 [vs ((m.getD i (dflt .strs)).getD k (dflt .str))] (vb true))])] (bz 2 1) 1719726604717097296878 [q4 (i : Int) m.length, q1 b4, q4 (i : Int) m.length, q4 (k : Int) ((m.getD i (dflt .strs)).length), q0 false, q3 ((k : Int) + 1)] .norm [(0, .row .strs m), (3, vi (i : Int)), (4, vi ((k : Int) + 1))] [] ⟨con38L _ (hq.2.2 _ (getD_mem (by omega) _)), tv⟩ fun a w hs => ?_
 refine then_norm ⟨k + 1, by omega, by omega, ?_⟩
 exact hs.rk []
 refine wN hs hI (bz 1 0) 7296878 [q4 (i : Int) m.length, q1 b4] (.exit 2) [(0, .row .strs m), (3, vi (i : Int))] [] fun a w hs => ?_
 refine then_exit ?_
 refine inb_hit ?_
 refine inb_norm ?_
 refine then_norm ?_
 refine wN hs hI [] 171 [q3 ((i : Int) + 1)] .norm [(0, .row .strs m), (3, vi ((i : Int) + 1))] [] fun a w hs => ?_
 refine then_norm ⟨i + 1, by omega, by omega, ?_⟩
 exact hs.rk []
 refine wN hs hI (bz 1 0) 7608 [q1 b1] (.exit 0) [(0, .row .strs m)] [] fun a w hs => ?_
 refine then_exit ?_
 refine then_exit ?_
 refine inb_hit ?_
 refine then_norm ?_
 refine wN hs hI [] 1608 [] .ret [(2, vb (decide ((m.length : Int) ≤ 60)))] [] fun a w hs => ?_
 exact rK (.val (vb (decide ((m.length : Int) ≤ 60)))) [] hs (by first | rfl | rw [decide_eq_true (by omega)])
theorem con52A (g : Int) (ops : List Opn) (hL : g = 1) (h : ∀ o ∈ ops, OpE o) (hl : ops.length ≤ 13) : Con Tryz.prog I0 52 [.agg [vi g, .row .opn ops, vi 0, vb false, vb false, .row (.int .u32) ([]), vi 0, vs (ba []), .row .str ([]), .row .tree ([]), .row .strs ([])]] (.val (vb true)) := by
 refine con_of Tryz.func52 rfl (Nat.le_of_ble_eq_true rfl) stab (fun w0 fz a hI hs => ?_)
 have b1 : (g == 1) = true := by rw [hL]; rfl
 refine wL hs hI [(3, rg [(2, ciV 108 [.row .opn ops] (vb true)), (6, ciV 109 [.agg [vi 0, vb false, vb false, rwU ([]), vi 0, vs (ba []), rwS ([]), rwT ([])]] (vb true))] [4, 5, 6, 1007, 9, 10, 11, 12, 1013] [])] (bz 1 1) 1966666177777743771417989898 [q1 b1, q0 true, q0 true, q0 true, q0 true, q0 true, q0 true, q0 true, q0 true, q0 true] .ret [(2, vb true)] [] ⟨con108T _ h hl, con109T, tv⟩ fun a w hs => ?_
 exact rK (.val (vb true)) [] hs rfl
theorem con52B (g : Int) (t : Tree) (hL : g = 2) (hg : GoodN 200 20 t) (hn : nodes t ≤ 200) : Con Tryz.prog I0 52 [.agg [vi g, .row .opn ([]), vi t.kind, vb t.b, vb t.n.neg, .row (.int .u32) t.n.m, vi t.n.e, vs t.s, .row .str t.k, .row .tree t.v, .row .strs ([])]] (.val (vb true)) := by
 refine con_of Tryz.func52 rfl (Nat.le_of_ble_eq_true rfl) stab (fun w0 fz a hI hs => ?_)
 have b1 : (g == 1) = false := by rw [hL]; rfl
 have b2 : (g == 2) = true := by rw [hL]; rfl
 refine wL hs hI [(5, rg [(7, ciV 44 [aTr (t)] (vb true))] [5, 6, 7, 1008, 10, 11, 12, 13, 1014] [])] (bz 2 2) 1296666617777774377187907989898 [q1 b1, q1 b2, q0 true, q0 true, q0 true, q0 true, q0 true, q0 true, q0 true, q0 true, q0 true] .ret [(2, vb true)] [] ⟨con44T _ hg hn, tv⟩ fun a w hs => ?_
 exact rK (.val (vb true)) [] hs rfl
theorem con52C (g : Int) (t : Tree) (m : List (List ByteArray)) (hL : g = 3) (hg : GoodN 200 20 t) (hn : nodes t ≤ 200) (hm : LowM m) : Con Tryz.prog I0 52 [.agg [vi g, .row .opn ([]), vi t.kind, vb t.b, vb t.n.neg, .row (.int .u32) t.n.m, vi t.n.e, vs t.s, .row .str t.k, .row .tree t.v, .row .strs m]] (.val (vb true)) := by
 refine con_of Tryz.func52 rfl (Nat.le_of_ble_eq_true rfl) stab (fun w0 fz a hI hs => ?_)
 have b1 : (g == 1) = false := by rw [hL]; rfl
 have b2 : (g == 2) = false := by rw [hL]; rfl
 have b3 : (g == 3) = true := by rw [hL]; rfl
 refine wL hs hI [(7, rg [(7, ciV 44 [aTr (t)] (vb true)), (12, ciV 40 [.row .strs m] (vb true))] [5, 6, 7, 1008, 10, 11, 12, 1013] [])] (bz 3 4) 126666617437774377187907907989898 [q1 b1, q1 b2, q1 b3, q0 true, q0 true, q0 true, q0 true, q0 true, q0 true, q0 true, q0 true] .ret [(2, vb true)] [] ⟨con44T _ hg hn, con40T _ hm, tv⟩ fun a w hs => ?_
 exact rK (.val (vb true)) [] hs rfl
theorem qE_yes {l : List Int} {i : Nat} (h : i < l.length) (hb : ((((vW l i).tdiv 5).tmod 3) == 0) = true) : (l.take i).map qE ++ [[nmE ((vW l i).tmod 5), nmE (((vW l i).tdiv 15).tmod 5)]] = (l.take (i + 1)).map qE := by
 rw [← take_map_succ (f := qE) h (dflt (.int .i64)), show qE (l.getD i (dflt (.int .i64))) = [nmE ((vW l i).tmod 5), nmE (((vW l i).tdiv 15).tmod 5)] from if_pos hb]
theorem qE_no {l : List Int} {i : Nat} (h : i < l.length) (hb : ((((vW l i).tdiv 5).tmod 3) == 0) = false) : (l.take i).map qE ++ [[nmE ((vW l i).tmod 5)]] = (l.take (i + 1)).map qE := by
 rw [← take_map_succ (f := qE) h (dflt (.int .i64)), show qE (l.getD i (dflt (.int .i64))) = [nmE ((vW l i).tmod 5)] from if_neg (by rw [hb]; decide)]
theorem take_end {l : List Int} {i : Nat} (hi : i ≤ l.length) (h5 : i ≤ 5) (h : ¬ (i < l.length ∧ i < 5)) : l.take i = l.take 5 := by
 by_cases h1 : i = 5
 rw [h1]
 rw [List.take_of_length_le (by omega), List.take_of_length_le (by omega)]
theorem con12 (l0 : List Int) (lang : Int) (l : List Int) (hl : l.length ≤ 100) : Con Tryz.prog I0 12 [.agg (encTree ((madeF 4 l0).1)), vi lang, .row (.int .i64) l] (.val (.agg (encP (editP l0 lang l)))) := by
 have hpl := placeF_in lang 3 (by decide)
 refine con_of Tryz.func12 rfl (Nat.le_of_ble_eq_true rfl) stab (fun w0 fz a hI hs => ?_)
 refine wNs hs hI [] 8 [] [(1, vi lang), (2, .row (.int .i64) l), (3, .ptr 1000 0), (6, .ptr 1001 0)] [(1000, bTr (((madeF 4 l0).1))), (1001, .var [vi 0, nilv, vi 0, vb false, vb false, nilv, vi 0, vs (ba []), nilv, nilv, nilv])] fun a w hs => ?_
 refine wLs hs hI [(1, rc [(1, ciV 17 [vi lang, vi 3] (vi (placeF lang 3)))])] [] 8741 [q3 (1 + (placeF lang 3))] [(2, .row (.int .i64) l), (3, .ptr 1000 0), (6, .ptr 1001 0), (7, .ptr 2004 0)] [(1000, bTr (((madeF 4 l0).1))), (1001, .var [vi 0, nilv, vi 0, vb false, vb false, nilv, vi 0, vs (ba []), nilv, nilv, nilv]), (2004, .var [vi (1 + (placeF lang 3)), nilv, vi 0, vb false, vb false, nilv, vi 0, vs (ba []), nilv, nilv, nilv])] ⟨con17 _ _ (by decide) (by decide), tv⟩ fun a w hs => ?_
 refine wp_seq ?_
 refine wNs hs hI [] 8 [] [(2, .row (.int .i64) l), (3, .ptr 1000 0), (6, .ptr 1001 0), (7, .ptr 2004 0), (17, vi (1 + (placeF lang 3)))] [(1000, bTr (((madeF 4 l0).1))), (1001, .var [vi 0, nilv, vi 0, vb false, vb false, nilv, vi 0, vs (ba []), nilv, nilv, nilv]), (2004, .var [vi (1 + (placeF lang 3)), nilv, vi 0, vb false, vb false, nilv, vi 0, vs (ba []), nilv, nilv, nilv])] fun a w hs => ?_
 refine wp_block ?_
 refine wNs hs hI [] 8 [] [(2, .row (.int .i64) l), (3, .ptr 1000 0), (6, .ptr 1001 0), (7, .ptr 2004 0), (17, vi (1 + (placeF lang 3))), (60, vb ((1 + (placeF lang 3)) == 1))] [(1000, bTr (((madeF 4 l0).1))), (1001, .var [vi 0, nilv, vi 0, vb false, vb false, nilv, vi 0, vs (ba []), nilv, nilv, nilv]), (2004, .var [vi (1 + (placeF lang 3)), nilv, vi 0, vb false, vb false, nilv, vi 0, vs (ba []), nilv, nilv, nilv])] fun a w hs => ?_
 refine cond_L (c := 60) hs (b := (1 + (placeF lang 3)) == 1) rfl (fun hb => ?_) (fun hb => ?_)
 have b1 := hb
 clear hb
 have n1 := eq_of_beq b1
 refine wL hs hI [(14, rc [(2, ciV 19 [aTr (((madeF 4 l0).1)), .row (.int .i64) l] (.row .opn (eL l0 l)))])] [] 840 [] .norm [(6, .ptr 1001 0), (7, .ptr 2004 0)] [(1001, .var [vi 0, nilv, vi 0, vb false, vb false, nilv, vi 0, vs (ba []), nilv, nilv, nilv]), (2004, .var [vi (1 + (placeF lang 3)), .row .opn (eL l0 l), vi 0, vb false, vb false, nilv, vi 0, vs (ba []), nilv, nilv, nilv])] ⟨con19L l0 l hl, tv⟩ fun a w hs => ?_
 refine inb_norm ?_
 refine then_norm ?_
 refine wL hs hI [(17, rc [(1, ciV 52 [.agg [vi (1 + (placeF lang 3)), .row .opn (eL l0 l), vi 0, vb false, vb false, nilv, vi 0, vs (ba []), nilv, nilv, nilv]] (vb true))])] (bz 1 0) 1989729041 [q0 false] .ret [(6, .ptr 1001 0)] [(1001, .var [vi (1 + (placeF lang 3)), .row .opn (eL l0 l), vi 0, vb false, vb false, nilv, vi 0, vs (ba []), nilv, nilv, nilv])] ⟨Con.told (con52A _ _ (eq_of_beq (by assumption)) (edits_E l0 l) (eL_len l0 l)) ⟨.inr (.inr ⟨_, rfl, _, rfl, .inl rfl, .inl rfl, .inl rfl, .inl rfl, .inl rfl, .inr ⟨rfl, _, rfl⟩, .inl rfl, .inl rfl, .inr ⟨rfl, _, rfl⟩, .inr ⟨rfl, _, rfl⟩, .inr ⟨rfl, _, rfl⟩, trivial⟩), trivial⟩, tv⟩ fun a w hs => ?_
 exact rK (.val (.agg [vi (1 + (placeF lang 3)), .row .opn (eL l0 l), vi 0, vb false, vb false, rwU ([]), vi 0, vs (ba []), rwS ([]), rwT ([]), .row .strs ([])])) [] hs (by rw [editP, if_pos b1]; rfl)
 have b2 := hb
 clear hb
 have n2 := nB b2
 refine wNs hs hI [] 8 [] [(2, .row (.int .i64) l), (6, .ptr 1001 0), (7, .ptr 2004 0), (66, vb ((1 + (placeF lang 3)) == 2))] [(1001, .var [vi 0, nilv, vi 0, vb false, vb false, nilv, vi 0, vs (ba []), nilv, nilv, nilv]), (2004, .var [vi (1 + (placeF lang 3)), nilv, vi 0, vb false, vb false, nilv, vi 0, vs (ba []), nilv, nilv, nilv])] fun a w hs => ?_
 refine cond_L (c := 66) hs (b := (1 + (placeF lang 3)) == 2) rfl (fun hb => ?_) (fun hb => ?_)
 have b3 := hb
 clear hb
 have n3 := eq_of_beq b3
 refine wL hs hI [(16, rc [(1, ciV 13 [.row (.int .i64) l, vi 3] (aTr (((madeF 3 l).1))))])] [] 841 [] .norm [(6, .ptr 1001 0), (7, .ptr 2004 0)] [(1001, .var [vi 0, nilv, vi 0, vb false, vb false, nilv, vi 0, vs (ba []), nilv, nilv, nilv]), (2004, .var (e8 [vi (1 + (placeF lang 3)), nilv] (((madeF 3 l).1)) [nilv]))] ⟨con13d 3 (by decide) l, tv⟩ fun a w hs => ?_
 refine inb_norm ?_
 refine then_norm ?_
 refine wL hs hI [(17, rc [(1, ciV 52 [.agg (e8 [vi (1 + (placeF lang 3)), nilv] (((madeF 3 l).1)) [nilv])] (vb true))])] (bz 1 0) 1989729041 [q0 false] .ret [(6, .ptr 1001 0)] [(1001, .var (e8 [vi (1 + (placeF lang 3)), nilv] (((madeF 3 l).1)) [nilv]))] ⟨Con.told (con52B _ _ (eq_of_beq (by assumption)) (made_3 l).1 (made_3 l).2) ⟨.inr (.inr ⟨_, rfl, _, rfl, .inl rfl, .inr ⟨rfl, _, rfl⟩, .inl rfl, .inl rfl, .inl rfl, .inl rfl, .inl rfl, .inl rfl, .inl rfl, .inl rfl, .inr ⟨rfl, _, rfl⟩, trivial⟩), trivial⟩, tv⟩ fun a w hs => ?_
 exact rK (.val (.agg (e8 [vi (1 + (placeF lang 3)), .row .opn ([])] (((madeF 3 l).1)) [.row .strs ([])]))) [] hs (by rw [editP, if_neg (by rw [b2]; decide), if_pos b3]; rfl)
 have b4 := hb
 clear hb
 have n4 := nB b4
 refine wLs hs hI [(3, rc [(1, ciV 13 [.row (.int .i64) l, vi 3] (aTr (((madeF 3 l).1))))])] [] 841 [] [(2, .row (.int .i64) l), (6, .ptr 1001 0), (7, .ptr 2004 0)] [(1001, .var [vi 0, nilv, vi 0, vb false, vb false, nilv, vi 0, vs (ba []), nilv, nilv, nilv]), (2004, .var (e8 [vi (1 + (placeF lang 3)), nilv] (((madeF 3 l).1)) [nilv]))] ⟨con13d 3 (by decide) l, tv⟩ fun a w hs => ?_
 refine wNs hs hI [] 18 [] [(2, .row (.int .i64) l), (6, .ptr 1001 0), (7, .ptr 2004 0), (8, .ptr 5001 0)] [(1001, .var [vi 0, nilv, vi 0, vb false, vb false, nilv, vi 0, vs (ba []), nilv, nilv, nilv]), (2004, .var (e8 [vi (1 + (placeF lang 3)), nilv] (((madeF 3 l).1)) [nilv])), (5001, .var [vs (ba [97]), vs (ba [98]), vs (ba [99]), vs (ba [100, 100]), vs (ba [101])])] fun a w hs => ?_
 refine wNs hs hI [] 11 [] [(2, .row (.int .i64) l), (6, .ptr 1001 0), (7, .ptr 2004 0), (8, .ptr 5001 0), (9, vi 0)] [(1001, .var [vi 0, nilv, vi 0, vb false, vb false, nilv, vi 0, vs (ba []), nilv, nilv, nilv]), (2004, .var (e8 [vi (1 + (placeF lang 3)), nilv] (((madeF 3 l).1)) [nilv])), (5001, .var [vs (ba [97]), vs (ba [98]), vs (ba [99]), vs (ba [100, 100]), vs (ba [101])])] fun a w hs => ?_
 refine wp_block ?_
 refine loop_L (N := Tryz.f12.ntmps) (w0 := w0) (ow := noO fz) (α := Nat) (fun p => [(2, .row (.int .i64) l), (6, .ptr 1001 0), (7, .ptr 90000001 0), (8, .ptr 5001 0), (9, vi (p : Int))]) (fun p => [(1001, .var [vi 0, nilv, vi 0, vb false, vb false, nilv, vi 0, vs (ba []), nilv, nilv, nilv]), (5001, .var [vs (ba [97]), vs (ba [98]), vs (ba [99]), vs (ba [100, 100]), vs (ba [101])]), (90000001, .var (e8 [vi (1 + (placeF lang 3)), nilv] (((madeF 3 l).1)) [.own 90000002])), (90000002, .sl 26 .strs ((l.take p).map qE))]) (fun p => p ≤ l.length ∧ p ≤ 5) (fun p => 5 - p) 0 ?_ ?_ ?_
 exact ⟨Nat.zero_le _, by decide⟩
 (have hs := (hs.nilB 10000005 2004 10 26 .strs (e8 [vi (1 + (placeF lang 3)), nilv] (((madeF 3 l).1)) [nilv]) (by kernel_rfl) (by kernel_rfl) (by decide) (by decide) (by kernel_rfl) (by kernel_rfl)).rmT [(2, .row (.int .i64) l), (6, .ptr 1001 0), (7, .ptr 2004 0), (8, .ptr 5001 0), (9, vi 0)] [(1001, .var [vi 0, nilv, vi 0, vb false, vb false, nilv, vi 0, vs (ba []), nilv, nilv, nilv]), (2004, .var (e8 [vi (1 + (placeF lang 3)), nilv] (((madeF 3 l).1)) [.own 10000005])), (5001, .var [vs (ba [97]), vs (ba [98]), vs (ba [99]), vs (ba [100, 100]), vs (ba [101])]), (10000005, .sl 26 .strs ([]))] [(1001, 1001), (2004, 2004), (5001, 5001), (10000005, 10000005)] (by kernel_rfl); exact (hs.cst [(2, .row (.int .i64) l), (6, .ptr 1001 0), (7, .ptr 2004 0), (8, .ptr 5001 0), (9, vi ((0 : Nat) : Int))] [(1001, .var [vi 0, nilv, vi 0, vb false, vb false, nilv, vi 0, vs (ba []), nilv, nilv, nilv]), (2004, .var (e8 [vi (1 + (placeF lang 3)), nilv] (((madeF 3 l).1)) [.own 10000005])), (5001, .var [vs (ba [97]), vs (ba [98]), vs (ba [99]), vs (ba [100, 100]), vs (ba [101])]), (10000005, .sl 26 .strs ((l.take 0).map qE))] rfl).rk [(1001, 1001), (5001, 5001), (90000001, 2004), (90000002, 10000005)])
 rintro i hJ a w hs
 obtain ⟨hi, hi5⟩ := hJ
 have hv := vW_in l i
 have h5_ := tm_w (n := 5) hv.1 (by decide)
 have hd5 := td_w (n := 5) hv.1 (by decide) hv.2
 have h3_ := tm_w (n := 3) hd5.1 (by decide)
 have hd15 := td_w (n := 15) hv.1 (by decide) hv.2
 have h155 := tm_w (n := 5) hd15.1 (by decide)
 have htk := take_map_len (f := qE) hi
 rcases bd ((i : Int) < (l.length : Int)) with ⟨b5, n5⟩ | ⟨b5, n5⟩
 rcases bd ((i : Int) < 5) with ⟨b6, n6⟩ | ⟨b6, n6⟩
 rcases bq (((vW l i).tdiv 5).tmod 3) (0) with ⟨b7, n7⟩ | ⟨b7, n7⟩
 refine wL hs hI [(8, rc [(4, ciV 17 [vi (l.getD i (dflt (.int .i64))), vi 1048576] (vi (vW l i)))]), (6, rg [] [5, 6, 1007] [])] (bz 2 3) 17196607182966177333176173196073319604709796677708 [q1 b5, q1 b5, q1 b5, q1 b6, q4 (i : Int) l.length, q6 5, q2 (0 ≤ (vW l i).tmod 5 ∧ (vW l i).tmod 5 < (5 : Nat)), q2 (0 + ((vW l i).tmod 5).toNat * 1 < 5), q5 5 ((vW l i).tdiv 5), q6 3, q1 b7, q5 15 ((vW l i).tdiv 15), q6 5, q2 (0 ≤ ((vW l i).tdiv 15).tmod 5 ∧ ((vW l i).tdiv 15).tmod 5 < (5 : Nat)), q2 (0 + (((vW l i).tdiv 15).tmod 5).toNat * 1 < 5), q7 1 1 16, q7 (((l.take i).map qE).length) 1 24, q3 ((i : Int) + 1)] .norm [(2, .row (.int .i64) l), (6, .ptr 1001 0), (7, .ptr 90000001 0), (8, .ptr 5001 0), (9, vi ((i : Int) + 1))] [(1001, .var [vi 0, nilv, vi 0, vb false, vb false, nilv, vi 0, vs (ba []), nilv, nilv, nilv]), (5001, .var [vs (ba [97]), vs (ba [98]), vs (ba [99]), vs (ba [100, 100]), vs (ba [101])]), (13004, .sl 26 .strs (((l.take i).map qE) ++ ([[([(ba [97]), (ba [98]), (ba [99]), (ba [100, 100]), (ba [101])] : List ByteArray).getD (0 + ((vW l i).tmod 5).toNat * 1) ⟨#[]⟩, ([(ba [97]), (ba [98]), (ba [99]), (ba [100, 100]), (ba [101])] : List ByteArray).getD (0 + (((vW l i).tdiv 15).tmod 5).toNat * 1) ⟨#[]⟩]]))), (90000001, .var (e8 [vi (1 + (placeF lang 3)), nilv] (((madeF 3 l).1)) [.own 13004]))] ⟨con17 _ _ (by decide) (by decide), tv⟩ fun a w hs => ?_
 refine then_norm ⟨i + 1, by omega, by omega, ?_⟩
 (have e0_ : ((i : Int) + 1) = ((((i + 1) : Nat) : Int)) := (by first | rfl | (omega)); have e1_ : (((l.take i).map qE) ++ ([[([(ba [97]), (ba [98]), (ba [99]), (ba [100, 100]), (ba [101])] : List ByteArray).getD (0 + ((vW l i).tmod 5).toNat * 1) ⟨#[]⟩, ([(ba [97]), (ba [98]), (ba [99]), (ba [100, 100]), (ba [101])] : List ByteArray).getD (0 + (((vW l i).tdiv 15).tmod 5).toNat * 1) ⟨#[]⟩]])) = (((l.take (i + 1)).map qE)) := (by exact qE_yes (by omega) b7); exact (hs.cst [(2, .row (.int .i64) l), (6, .ptr 1001 0), (7, .ptr 90000001 0), (8, .ptr 5001 0), (9, vi (((i + 1) : Nat) : Int))] [(1001, .var [vi 0, nilv, vi 0, vb false, vb false, nilv, vi 0, vs (ba []), nilv, nilv, nilv]), (5001, .var [vs (ba [97]), vs (ba [98]), vs (ba [99]), vs (ba [100, 100]), vs (ba [101])]), (13004, .sl 26 .strs ((l.take (i + 1)).map qE)), (90000001, .var (e8 [vi (1 + (placeF lang 3)), nilv] (((madeF 3 l).1)) [.own 13004]))] (by first | (rw [e0_, e1_]; done) | (simp only [e0_, e1_]; done) | rfl | (simp only [e0_, e1_]; rfl))).rk [(1001, 1001), (5001, 5001), (90000001, 90000001), (90000002, 13004)])
 refine wL hs hI [(8, rc [(4, ciV 17 [vi (l.getD i (dflt (.int .i64))), vi 1048576] (vi (vW l i)))]), (6, rg [] [5, 6, 1007] [])] (bz 2 1) 1719660718976173196073319604709796677708 [q1 b5, q1 b5, q1 b5, q1 b6, q4 (i : Int) l.length, q6 5, q2 (0 ≤ (vW l i).tmod 5 ∧ (vW l i).tmod 5 < (5 : Nat)), q2 (0 + ((vW l i).tmod 5).toNat * 1 < 5), q5 5 ((vW l i).tdiv 5), q6 3, q1 b7, q7 (((l.take i).map qE).length) 1 24, q3 ((i : Int) + 1)] .norm [(2, .row (.int .i64) l), (6, .ptr 1001 0), (7, .ptr 90000001 0), (8, .ptr 5001 0), (9, vi ((i : Int) + 1))] [(1001, .var [vi 0, nilv, vi 0, vb false, vb false, nilv, vi 0, vs (ba []), nilv, nilv, nilv]), (5001, .var [vs (ba [97]), vs (ba [98]), vs (ba [99]), vs (ba [100, 100]), vs (ba [101])]), (13004, .sl 26 .strs (((l.take i).map qE) ++ ([[([(ba [97]), (ba [98]), (ba [99]), (ba [100, 100]), (ba [101])] : List ByteArray).getD (0 + ((vW l i).tmod 5).toNat * 1) ⟨#[]⟩]]))), (90000001, .var (e8 [vi (1 + (placeF lang 3)), nilv] (((madeF 3 l).1)) [.own 13004]))] ⟨con17 _ _ (by decide) (by decide), tv⟩ fun a w hs => ?_
 refine then_norm ⟨i + 1, by omega, by omega, ?_⟩
 (have e0_ : ((i : Int) + 1) = ((((i + 1) : Nat) : Int)) := (by first | rfl | (omega)); have e1_ : (((l.take i).map qE) ++ ([[([(ba [97]), (ba [98]), (ba [99]), (ba [100, 100]), (ba [101])] : List ByteArray).getD (0 + ((vW l i).tmod 5).toNat * 1) ⟨#[]⟩]])) = (((l.take (i + 1)).map qE)) := (by exact qE_no (by omega) b7); exact (hs.cst [(2, .row (.int .i64) l), (6, .ptr 1001 0), (7, .ptr 90000001 0), (8, .ptr 5001 0), (9, vi (((i + 1) : Nat) : Int))] [(1001, .var [vi 0, nilv, vi 0, vb false, vb false, nilv, vi 0, vs (ba []), nilv, nilv, nilv]), (5001, .var [vs (ba [97]), vs (ba [98]), vs (ba [99]), vs (ba [100, 100]), vs (ba [101])]), (13004, .sl 26 .strs ((l.take (i + 1)).map qE)), (90000001, .var (e8 [vi (1 + (placeF lang 3)), nilv] (((madeF 3 l).1)) [.own 13004]))] (by first | (rw [e0_, e1_]; done) | (simp only [e0_, e1_]; done) | rfl | (simp only [e0_, e1_]; rfl))).rk [(1001, 1001), (5001, 5001), (90000001, 90000001), (90000002, 13004)])
 refine wL hs hI [(6, rg [] [5, 6, 1007] [])] (bz 1 0) 796677708 [q1 b5, q1 b5, q1 b5, q1 b6] (.exit 1) [(6, .ptr 1001 0), (7, .ptr 90000001 0)] [(1001, .var [vi 0, nilv, vi 0, vb false, vb false, nilv, vi 0, vs (ba []), nilv, nilv, nilv]), (90000001, .var (e8 [vi (1 + (placeF lang 3)), nilv] (((madeF 3 l).1)) [.own 90000002])), (90000002, .sl 26 .strs ((l.take i).map qE))] tv fun a w hs => ?_
 refine then_exit ?_
 refine inb_hit ?_
 refine inb_norm ?_
 refine then_norm ?_
 refine wL hs hI [(17, rc [(1, ciA 52 [.agg (e8 [vi (1 + (placeF lang 3)), nilv] (((madeF 3 l).1)) [.row .strs ((l.take i).map qE)])] [90000002] [] (.val (vb true)))])] (bz 1 0) 1989729041 [q0 false] .ret [(6, .ptr 1001 0)] [(1001, .var (e8 [vi (1 + (placeF lang 3)), nilv] (((madeF 3 l).1)) [.own 90000002])), (90000002, .sl 26 .strs ((l.take i).map qE))] ⟨Con.told (con52C _ _ _ (by omega) (made_3 l).1 (made_3 l).2 (qE_low _ (by rw [List.length_take]; omega))) ⟨.inr (.inr ⟨_, rfl, _, rfl, .inl rfl, .inr ⟨rfl, _, rfl⟩, .inl rfl, .inl rfl, .inl rfl, .inl rfl, .inl rfl, .inl rfl, .inl rfl, .inl rfl, .inl rfl, trivial⟩), trivial⟩, tv⟩ fun a w hs => ?_
 exact rK (.val (.agg (e8 [vi (1 + (placeF lang 3)), .row .opn ([])] (((madeF 3 l).1)) [.row .strs ((l.take i).map qE)]))) [90000002] hs (by rw [editP, if_neg (by rw [b2]; decide), if_neg (by rw [b4]; decide), maskE, ← take_end hi hi5 (by omega)]; rfl)
 refine wL hs hI [(6, rg [] [] [5, 6, 1007])] (bz 1 0) 76673308 [q1 b5, q1 b5, q1 b5, q0 false] (.exit 1) [(6, .ptr 1001 0), (7, .ptr 90000001 0)] [(1001, .var [vi 0, nilv, vi 0, vb false, vb false, nilv, vi 0, vs (ba []), nilv, nilv, nilv]), (90000001, .var (e8 [vi (1 + (placeF lang 3)), nilv] (((madeF 3 l).1)) [.own 90000002])), (90000002, .sl 26 .strs ((l.take i).map qE))] tv fun a w hs => ?_
 refine then_exit ?_
 refine inb_hit ?_
 refine inb_norm ?_
 refine then_norm ?_
 refine wL hs hI [(17, rc [(1, ciA 52 [.agg (e8 [vi (1 + (placeF lang 3)), nilv] (((madeF 3 l).1)) [.row .strs ((l.take i).map qE)])] [90000002] [] (.val (vb true)))])] (bz 1 0) 1989729041 [q0 false] .ret [(6, .ptr 1001 0)] [(1001, .var (e8 [vi (1 + (placeF lang 3)), nilv] (((madeF 3 l).1)) [.own 90000002])), (90000002, .sl 26 .strs ((l.take i).map qE))] ⟨Con.told (con52C _ _ _ (by omega) (made_3 l).1 (made_3 l).2 (qE_low _ (by rw [List.length_take]; omega))) ⟨.inr (.inr ⟨_, rfl, _, rfl, .inl rfl, .inr ⟨rfl, _, rfl⟩, .inl rfl, .inl rfl, .inl rfl, .inl rfl, .inl rfl, .inl rfl, .inl rfl, .inl rfl, .inl rfl, trivial⟩), trivial⟩, tv⟩ fun a w hs => ?_
 exact rK (.val (.agg (e8 [vi (1 + (placeF lang 3)), .row .opn ([])] (((madeF 3 l).1)) [.row .strs ((l.take i).map qE)]))) [90000002] hs (by rw [editP, if_neg (by rw [b2]; decide), if_neg (by rw [b4]; decide), maskE, ← take_end hi hi5 (by omega)]; rfl)
def rB (lang : Int) (t : Tree) : Pat × Int := ReadR (1 + (placeF lang 3)) t
theorem con14E (l0 : List Int) (lang : Int) (l : List Int) : Con Tryz.prog I0 14 [.agg [vi ((editP l0 lang l).lang), .row .opn ((editP l0 lang l).ops), vi (((editP l0 lang l).value).kind), vb (((editP l0 lang l).value).b), vb (((editP l0 lang l).value).n.neg), .row (.int .u32) (((editP l0 lang l).value).n.m), vi (((editP l0 lang l).value).n.e), vs (((editP l0 lang l).value).s), .row .str (((editP l0 lang l).value).k), .row .tree (((editP l0 lang l).value).v), .row .strs ((editP l0 lang l).mask)]] (.val (.tup [.agg (encTree (WriteR (editP l0 lang l)).1), vi 0])) := by
 have hk := edit_ok l0 lang l
 have h := con14 (editP l0 lang l) hk.fine.1 hk.smalls hk.fine.2.1 hk.fine.2.2.2.1 hk.fine.2.2.2.2 hk.wr
 exact h
theorem con15E (l0 : List Int) (lang : Int) (l : List Int) : Con Tryz.prog I0 15 [vi (editP l0 lang l).lang, .agg (encTree (WriteR (editP l0 lang l)).1)] (.val (.tup [.agg [vi ((editP l0 lang l).lang), .row .opn ((editP l0 lang l).ops), vi (((editP l0 lang l).value).kind), vb (((editP l0 lang l).value).b), vb (((editP l0 lang l).value).n.neg), .row (.int .u32) (((editP l0 lang l).value).n.m), vi (((editP l0 lang l).value).n.e), vs (((editP l0 lang l).value).s), .row .str (((editP l0 lang l).value).k), .row .tree (((editP l0 lang l).value).v), .row .strs ((editP l0 lang l).mask)], vi 0])) := by
 have hk := edit_ok l0 lang l
 have h := con15 (editP l0 lang l).lang (WriteR (editP l0 lang l)).1 hk.fx
 rw [hk.rd] at h
 exact h
theorem con15R (lang : Int) (t : Tree) (hft : fineT t) : Con Tryz.prog I0 15 [vi (1 + (placeF lang 3)), .agg (encTree t)] (.val (.tup [.agg [vi ((rB lang t).1.lang), .row .opn ((rB lang t).1.ops), vi (((rB lang t).1.value).kind), vb (((rB lang t).1.value).b), vb (((rB lang t).1.value).n.neg), .row (.int .u32) (((rB lang t).1.value).n.m), vi (((rB lang t).1.value).n.e), vs (((rB lang t).1.value).s), .row .str (((rB lang t).1.value).k), .row .tree (((rB lang t).1.value).v), .row .strs ((rB lang t).1.mask)], vi (rB lang t).2])) := con15 _ t hft
theorem con16R (lang : Int) (t : Tree) (h : ((rB lang t).2 != 0) = true) : Con Tryz.prog I0 16 [.agg [vi ((rB lang t).1.lang), .row .opn ((rB lang t).1.ops), vi (((rB lang t).1.value).kind), vb (((rB lang t).1.value).b), vb (((rB lang t).1.value).n.neg), .row (.int .u32) (((rB lang t).1.value).n.m), vi (((rB lang t).1.value).n.e), vs (((rB lang t).1.value).s), .row .str (((rB lang t).1.value).k), .row .tree (((rB lang t).1.value).v), .row .strs ((rB lang t).1.mask)], .agg [vi 0, .row .opn [], vi 0, vb false, vb false, .row (.int .u32) [], vi 0, vs (ba []), .row .str [], .row .tree [], .row .strs []]] (.val (vb true)) := by
 have e : (rB lang t).1 = Pat.zero := by
  unfold rB ReadR at h ⊢
  split at h
  exact absurd (show ((0 : Int) != 0) = true from h) (by decide)
  rename_i h1
  rw [if_neg h1]
 rw [e]
 exact con16Z
theorem con14R (lang : Int) (t : Tree) (hft : fineT t) (h : ((rB lang t).2 != 0) = false) : Con Tryz.prog I0 14 [.agg [vi ((rB lang t).1.lang), .row .opn ((rB lang t).1.ops), vi (((rB lang t).1.value).kind), vb (((rB lang t).1.value).b), vb (((rB lang t).1.value).n.neg), .row (.int .u32) (((rB lang t).1.value).n.m), vi (((rB lang t).1.value).n.e), vs (((rB lang t).1.value).s), .row .str (((rB lang t).1.value).k), .row .tree (((rB lang t).1.value).v), .row .strs ((rB lang t).1.mask)]] (.val (.tup [.agg (encTree t), vi 0])) := by
 have h0 : (rB lang t).2 = 0 := by simpa using h
 have hf := fine_read hft h0
 have hw := (read_write h0).1
 have h := con14 (rB lang t).1 hf.1.1 hf.2 hf.1.2.1 hf.1.2.2.2.1 hf.1.2.2.2.2 (by rw [show WriteR (rB lang t).1 = (t, 0) from hw])
 rw [show WriteR (rB lang t).1 = (t, 0) from hw] at h
 exact h
theorem con18S (t : Tree) (hft : fineT t) : Con Tryz.prog I0 18 [.agg (encTree t), .agg (encTree t)] (.val (vb true)) := by
 have h := con18 t t hft hft
 rw [sameT_self] at h
 exact h
theorem con3 (l0 : List Int) (lang : Int) (l : List Int) (t : Tree) (hot : okT t) : Con Tryz.prog I0 3 [.row (.int .i64) l0, vi lang, .row (.int .i64) l, .agg (encTree t)] (.val (vb true)) := by
 have hpl := placeF_in lang 3 (by decide)
 refine con_of Tryz.func3 rfl (Nat.le_of_ble_eq_true rfl) stab (fun w0 fz a hI hs => ?_)
 refine wNs hs hI [] 8 [] [(0, .row (.int .i64) l0), (1, vi lang), (2, .row (.int .i64) l), (7, .ptr 1000 0)] [(1000, bTr (t))] fun a w hs => ?_
 refine wp_seq ?_
 rcases bd ((l0.length : Int) > 60) with ⟨b1, n1⟩ | ⟨b1, n1⟩
 refine wL hs hI [(2, rc [(0, ciV 11 [] (vb true))]), (1, rg [] [1007, 1012] [4, 5, 6, 9, 10, 11])] (bz 1 1) 1904326667333733318 [q1 b1, q1 b1, q1 b1, q1 b1, q0 true, q0 true, q0 true, q0 true, q0 true] .ret [(8, vb true)] [] ⟨con11, tv⟩ fun a w hs => ?_
 refine then_ret ?_
 exact rK (.val (vb true)) [] hs rfl
 rcases bd ((l.length : Int) > 100) with ⟨b2, n2⟩ | ⟨b2, n2⟩
 refine wL hs hI [(2, rc [(0, ciV 11 [] (vb true))]), (1, rg [] [4, 5, 6, 1012] [1007, 9, 10, 11])] (bz 1 1) 1904366667333777718 [q1 b1, q1 b1, q1 b1, q1 b1, q1 b2, q1 b2, q1 b2, q1 b2, q0 true] .ret [(8, vb true)] [] ⟨con11, tv⟩ fun a w hs => ?_
 refine then_ret ?_
 exact rK (.val (vb true)) [] hs rfl
 rcases bd (lightF t 150 ≥ 0) with ⟨b3, n3⟩ | ⟨b3, n3⟩
 have hft := (light_fine t 150 hot (of_decide_eq_true b3)).1
 refine wL hs hI [(1, rg [(10, ciV 10 [aTr (t), vi 150] (vb (decide (lightF t 150 ≥ 0))))] [4, 5, 6, 9, 10, 11] [1007, 1012])] (bz 1 0) 729666677437777718 [q1 b1, q1 b1, q1 b1, q1 b1, q1 b2, q1 b2, q1 b2, q1 b2, q1 (ng1 b3)] .norm [(0, .row (.int .i64) l0), (1, vi lang), (2, .row (.int .i64) l), (7, .ptr 1000 0)] [(1000, bTr (t))] ⟨con10 _ 150 (by decide) (by decide), tv⟩ fun a w hs => ?_
 refine then_norm ?_
 refine wLs hs hI [(3, rc [(1, ciV 13 [.row (.int .i64) l0, vi 4] (aTr (((madeF 4 l0).1)))), (4, ciV 12 [aTr (((madeF 4 l0).1)), vi lang, .row (.int .i64) l] (.agg (e8 [vi ((editP l0 lang l).lang), .row .opn ((editP l0 lang l).ops)] (((editP l0 lang l).value)) [.row .strs ((editP l0 lang l).mask)])))])] [] 84041 [] [(1, vi lang), (7, .ptr 1000 0), (9, .ptr 4005 0)] [(1000, bTr (t)), (4005, .var (e8 [vi ((editP l0 lang l).lang), .row .opn ((editP l0 lang l).ops)] (((editP l0 lang l).value)) [.row .strs ((editP l0 lang l).mask)]))] ⟨con13d 4 (by decide) l0, con12 l0 lang l (by omega), tv⟩ fun a w hs => ?_
 refine wLs hs hI [(4, rc [(1, ciV 14 [.agg (e8 [vi ((editP l0 lang l).lang), .row .opn ((editP l0 lang l).ops)] (((editP l0 lang l).value)) [.row .strs ((editP l0 lang l).mask)])] (.tup [aTr (((WriteR (editP l0 lang l)).1)), vi 0]))])] [] 18841 [] [(1, vi lang), (7, .ptr 1000 0), (9, .ptr 4005 0), (10, .ptr 5005 0), (11, vi 0)] [(1000, bTr (t)), (4005, .var (e8 [vi ((editP l0 lang l).lang), .row .opn ((editP l0 lang l).ops)] (((editP l0 lang l).value)) [.row .strs ((editP l0 lang l).mask)])), (5005, bTr (((WriteR (editP l0 lang l)).1)))] ⟨con14E l0 lang l, tv⟩ fun a w hs => ?_
 refine wLs hs hI [(5, rc [(3, ciV 15 [vi ((editP l0 lang l).lang), aTr (((WriteR (editP l0 lang l)).1))] (.tup [.agg (e8 [vi ((editP l0 lang l).lang), .row .opn ((editP l0 lang l).ops)] (((editP l0 lang l).value)) [.row .strs ((editP l0 lang l).mask)]), vi 0]))])] [] 18848 [] [(1, vi lang), (7, .ptr 1000 0), (9, .ptr 4005 0), (11, vi 0), (12, .ptr 6007 0), (13, vi 0)] [(1000, bTr (t)), (4005, .var (e8 [vi ((editP l0 lang l).lang), .row .opn ((editP l0 lang l).ops)] (((editP l0 lang l).value)) [.row .strs ((editP l0 lang l).mask)])), (6007, .var (e8 [vi ((editP l0 lang l).lang), .row .opn ((editP l0 lang l).ops)] (((editP l0 lang l).value)) [.row .strs ((editP l0 lang l).mask)]))] ⟨con15E l0 lang l, tv⟩ fun a w hs => ?_
 refine wLs hs hI [(6, rg [(9, ciV 16 [.agg (e8 [vi ((editP l0 lang l).lang), .row .opn ((editP l0 lang l).ops)] (((editP l0 lang l).value)) [.row .strs ((editP l0 lang l).mask)]), .agg (e8 [vi ((editP l0 lang l).lang), .row .opn ((editP l0 lang l).ops)] (((editP l0 lang l).value)) [.row .strs ((editP l0 lang l).mask)])] (vb true))] [3, 4, 7, 8, 9, 10] [1005, 1011])] (bz 1 0) 7966667743777778 [q0 false, q0 false, q0 false, q0 false, q0 false, q0 false, q0 false, q0 false, q0 false] [(1, vi lang), (7, .ptr 1000 0)] [(1000, bTr (t))] ⟨con16S _ (edit_ok l0 lang l).fine, tv⟩ fun a w hs => ?_
 refine wLs hs hI [(8, rc [(1, ciV 17 [vi lang, vi 3] (vi (placeF lang 3)))])] [] 1741 [q3 (1 + (placeF lang 3))] [(7, .ptr 1000 0), (14, vi (1 + (placeF lang 3)))] [(1000, bTr (t))] ⟨con17 _ _ (by decide) (by decide), tv⟩ fun a w hs => ?_
 refine wLs hs hI [(9, rc [(2, ciV 15 [vi (1 + (placeF lang 3)), aTr (t)] (.tup [.agg (e8 [vi ((rB lang t).1.lang), .row .opn ((rB lang t).1.ops)] (((rB lang t).1.value)) [.row .strs ((rB lang t).1.mask)]), vi ((rB lang t).2)]))])] [] 18840 [] [(7, .ptr 1000 0), (15, .ptr 10006 0), (16, vi ((rB lang t).2))] [(1000, bTr (t)), (10006, .var (e8 [vi ((rB lang t).1.lang), .row .opn ((rB lang t).1.ops)] (((rB lang t).1.value)) [.row .strs ((rB lang t).1.mask)]))] ⟨con15R lang t hft, tv⟩ fun a w hs => ?_
 rcases bt (((rB lang t).2) != 0) with b4 | b4
 have n4 := bne_iff_ne.1 b4
 refine wL hs hI [(11, rg [(2, ciV 16 [.agg (e8 [vi ((rB lang t).1.lang), .row .opn ((rB lang t).1.ops)] (((rB lang t).1.value)) [.row .strs ((rB lang t).1.mask)]), .agg [vi 0, nilv, vi 0, vb false, vb false, nilv, vi 0, vs (ba []), nilv, nilv, nilv]] (vb true)), (4, ciV 11 [] (vb true))] [4, 1005] [])] (bz 1 1) 1661743141798 [q1 b4, q0 true, q0 true] .ret [(8, vb true)] [] ⟨Con.told (con16R lang t (by assumption)) ⟨.inl rfl, .inr (.inr ⟨_, rfl, _, rfl, .inl rfl, .inr ⟨rfl, _, rfl⟩, .inl rfl, .inl rfl, .inl rfl, .inr ⟨rfl, _, rfl⟩, .inl rfl, .inl rfl, .inr ⟨rfl, _, rfl⟩, .inr ⟨rfl, _, rfl⟩, .inr ⟨rfl, _, rfl⟩, trivial⟩), trivial⟩, con11, tv⟩ fun a w hs => ?_
 exact rK (.val (vb true)) [] hs rfl
 have n4 := bne_eq_false_iff_eq.1 b4
 refine wL hs hI [(12, rc [(1, ciV 14 [.agg (e8 [vi ((rB lang t).1.lang), .row .opn ((rB lang t).1.ops)] (((rB lang t).1.value)) [.row .strs ((rB lang t).1.mask)])] (.tup [aTr (t), vi 0]))]), (13, rg [(5, ciV 18 [aTr (t), aTr (t)] (vb true)), (8, ciV 11 [] (vb true))] [3, 4, 5, 1006, 8, 1009] [])] (bz 1 0) 129666174374377866188419798 [q1 b4, q0 true, q0 true, q0 true, q0 true, q0 true, q0 true] .ret [(8, vb true)] [] ⟨con14R lang t hft (by assumption), con18S t hft, con11, tv⟩ fun a w hs => ?_
 exact rK (.val (vb true)) [] hs rfl
 refine wL hs hI [(1, rg [(10, ciV 10 [aTr (t), vi 150] (vb (decide (lightF t 150 ≥ 0))))] [4, 5, 6, 9, 10, 11] [1007, 1012]), (2, rc [(0, ciV 11 [] (vb true))])] (bz 1 1) 1904329666677437777718 [q1 b1, q1 b1, q1 b1, q1 b1, q1 b2, q1 b2, q1 b2, q1 b2, q1 (ng0 b3)] .ret [(8, vb true)] [] ⟨con10 _ 150 (by decide) (by decide), con11, tv⟩ fun a w hs => ?_
 refine then_ret ?_
 exact rK (.val (vb true)) [] hs rfl
theorem law_WireBack (l0 : List Int) (lang : Int) (l : List Int) (t : Tree) (hot : okT t) : Con Tryz.prog I0 3 [.row (.int .i64) l0, vi lang, .row (.int .i64) l, .agg (encTree t)] (.val (vb true)) := con3 l0 lang l t hot
end Go.Proofs.YtondpnipoogoiaaGreatDoor.F
namespace Go.Proofs.YtondpnipoogoiaaGreatDoor.X
open Go.ChangeShapes Go.WideShapes Go.ChangeAt Go.RowKit
mutual
theorem okT_of : ∀ {t : Go.Proofs.YtondpnipoogoiaaGreatDoor.F.Tree}, WfT t → Go.Proofs.YtondpnipoogoiaaGreatDoor.F.okT t
 | .mk k b n s ks v, h => ⟨h.1.2.1.1, okL_of h.2⟩
theorem okL_of : ∀ {l : List Go.Proofs.YtondpnipoogoiaaGreatDoor.F.Tree}, WfL l → Go.Proofs.YtondpnipoogoiaaGreatDoor.F.okL l
 | [], _ => trivial
 | t :: l, h => ⟨okT_of h.1, okL_of h.2⟩
end
theorem rl_wireBack {W : World} {fz : Nat → Prop} {η : Nat → Option Value} {v0 : Value} {l0 : List Int} (y0 : Go.Proofs.YtondpnipoogoiaaGreatDoor.F.R W fz η v0 (.row (.int .i64) l0)) {a1 : Int} {v2 : Value} {l2 : List Int} (y2 : Go.Proofs.YtondpnipoogoiaaGreatDoor.F.R W fz η v2 (.row (.int .i64) l2)) {v3 : Value} {l3 : Go.Proofs.YtondpnipoogoiaaGreatDoor.F.Tree} (y3 : Go.Proofs.YtondpnipoogoiaaGreatDoor.F.R W fz η v3 (.agg (Go.Proofs.YtondpnipoogoiaaGreatDoor.F.encTree l3))) : Go.Proofs.YtondpnipoogoiaaGreatDoor.F.RL W fz η #[v0, .int .i64 a1, v2, v3] [.row (.int .i64) l0, .lit (.int .i64 a1), .row (.int .i64) l2, .agg (Go.Proofs.YtondpnipoogoiaaGreatDoor.F.encTree l3)] := by
 refine ⟨rfl, fun j v a hv ha => ?_⟩
 rcases j with _ | j
 simp only [List.getElem?_toArray, List.getElem?_cons_zero, List.getElem?_cons_succ, Option.some.injEq] at hv ha
 subst hv ha
 exact y0
 rcases j with _ | j
 simp only [List.getElem?_toArray, List.getElem?_cons_zero, List.getElem?_cons_succ, Option.some.injEq] at hv ha
 subst hv ha
 exact .lit _
 rcases j with _ | j
 simp only [List.getElem?_toArray, List.getElem?_cons_zero, List.getElem?_cons_succ, Option.some.injEq] at hv ha
 subst hv ha
 exact y2
 rcases j with _ | j
 simp only [List.getElem?_toArray, List.getElem?_cons_zero, List.getElem?_cons_succ, Option.some.injEq] at hv ha
 subst hv ha
 exact y3
 simp at ha
theorem contractWireBack (H : Type) (enc : TypeId × Value → H) (W : World) (base : Nat) (args : Array Value) (ds gs : List (DataW H)) (before : List MemPlace)
  (hval : ∀ (j : Nat) t v, Tryz.f3.params[j]? = some t → args[j]? = some v → Value.okWide Tryz.prog W .any base t v)
  (hW : DataW.Whole enc Tryz.prog Tryz.f3.params.toList Rows.wireBackSpec.vars false W args.toList ds gs before) (hL : laidMetH Tryz.prog Rows.wireBackRow.laid W) (hS : W.ShapedOpen Tryz.prog) :
  Calls Tryz.prog 3 args W fun e W' => ∃ v, e = .returned v ∧ Rows.wireBackSpec.post enc Tryz.prog Tryz.f3 false true false false W args v W' := by
 have hW' := hW
 obtain ⟨p, q, hA0, hV, rfl, hfz, hnd⟩ := hW
 have hA : DataW.TrodAll enc Tryz.prog W 0 (fun _ => true) true Tryz.f3.params.toList args.toList ds p := hA0
 rw [Tryz.params3] at hA hval
 obtain ⟨v0, vs0, d0, ds0, p0, q0, hargs, rfl, rfl, h0, r0⟩ := trodAll_cons hA
 obtain ⟨v1, vs1, d1, ds1, p1, q1, rfl, rfl, rfl, h1, r1⟩ := trodAll_cons r0
 obtain ⟨v2, vs2, d2, ds2, p2, q2, rfl, rfl, rfl, h2, r2⟩ := trodAll_cons r1
 obtain ⟨v3, vs3, d3, ds3, p3, q3, rfl, rfl, rfl, h3, r3⟩ := trodAll_cons r2
 obtain ⟨rfl, rfl, rfl⟩ := trodAll_nil r3
 obtain rfl : args = #[v0, v1, v2, v3] := by cases args; simp_all
 obtain ⟨rfl, rfl⟩ := trodVars_none hV
 have k0 := h0
 have lt0 : ∀ x ∈ p0, x.block < W.heap.size := by obtain ⟨m, hm⟩ := k0; exact DataW.trod_lt m _ _ _ hm
 obtain ⟨a0, y0⟩ := open_rowI (hval 0 22 v0 rfl rfl) h0
 obtain ⟨a1, rfl, rfl, rfl, w1⟩ := open_int Tryz.underlying3 (hval 1 3 v1 rfl rfl) h1
 have k2 := h2
 have lt2 : ∀ x ∈ p2, x.block < W.heap.size := by obtain ⟨m, hm⟩ := k2; exact DataW.trod_lt m _ _ _ hm
 obtain ⟨a2, y2⟩ := open_rowI (hval 2 22 v2 rfl rfl) h2
 have k3 := h3
 have lt3 : ∀ x ∈ p3, x.block < W.heap.size := by obtain ⟨m, hm⟩ := k3; exact DataW.trod_lt m _ _ _ hm
 obtain ⟨a3, y3, w3⟩ := open_tree (hval 3 29 v3 rfl rfl) h3
 clear hA0
 have hv1 : Go.Proofs.YtondpnipoogoiaaGreatDoor.F.RL W (fun k => k < W.heap.size) Go.Proofs.YtondpnipoogoiaaGreatDoor.F.noη #[v0, .int .i64 a1, v2, v3] [.row (.int .i64) a0, .lit (.int .i64 a1), .row (.int .i64) a2, .agg (Go.Proofs.YtondpnipoogoiaaGreatDoor.F.encTree a3)] := rl_wireBack y0 y2 y3
 refine (Go.Proofs.YtondpnipoogoiaaGreatDoor.F.law_WireBack a0 a1 a2 a3 (okT_of w3) W _ _ (laid_of hL hS) (fun k h => h) hv1).mono fun e W' hp => ?_
 obtain ⟨⟨v, rfl, hR⟩, bel⟩ := hp
 obtain rfl := hR.lit_inv
 exact ⟨_, rfl, _, _, _, [], _, [], hW', trodAll_mk1 (shut_bool Tryz.underlying4 _), (trodAll_cons_mk (Below.trod laidOut (by kernel_rfl) (of_decide_eq_true (by kernel_rfl)) k0 bel lt0) (trodAll_cons_mk (shut_int Tryz.underlying3 w1) (trodAll_cons_mk (Below.trod laidOut (by kernel_rfl) (of_decide_eq_true (by kernel_rfl)) k2 bel lt2) (trodAll_cons_mk (Below.trod laidOut (by kernel_rfl) (of_decide_eq_true (by kernel_rfl)) k3 bel lt3) trodAll_mk0)))), rfl, bel.frame _, fun h => by cases h⟩
theorem readsWireBack (os : Os) {H : Type} (enc : TypeId × Value → H) : ∃ places, DataW.whole enc Tryz.prog ((laidWorld os).forCall (fun _ _ => 0) ⟨#[], #[.slice none 0 0, .int .i64 0, .slice none 0 0, .agg #[.int .i64 0, .bool false, .bool false, .slice none 0 0, .int .i64 0, .string ⟨#[]⟩, .slice none 0 0, .slice none 0 0]], []⟩).memory Tryz.f3.params.toList Rows.wireBackSpec.vars false #[Value.slice none 0 0, Value.int .i64 0, Value.slice none 0 0, Value.agg #[.int .i64 0, .bool false, .bool false, .slice none 0 0, .int .i64 0, .string ⟨#[]⟩, .slice none 0 0, .slice none 0 0]].toList 8 = some ([.nil, .lit (.int .i64 0), .nil, .agg [.lit (.int .i64 0), .lit (.bool false), .agg [.lit (.bool false), .nil, .lit (.int .i64 0)], .lit (.string []), .nil, .nil]], [], places) :=
 ⟨[], by kernel_rfl⟩
theorem metWireBack (os : Os) : laidMet Tryz.prog Rows.wireBackRow.laid ((laidWorld os).forCall (fun _ _ => 0) ⟨#[], #[.slice none 0 0, .int .i64 0, .slice none 0 0, .agg #[.int .i64 0, .bool false, .bool false, .slice none 0 0, .int .i64 0, .string ⟨#[]⟩, .slice none 0 0, .slice none 0 0]], []⟩).memory :=
 laidMet_of_run' 8 (by kernel_rfl) (by kernel_rfl)
theorem liftedWireBack (os : Os) (started : os.Started) (H : Type) (enc : TypeId × Value → H) (F : Stop.Interp) :
  ReturnsInHanded {} Tryz.checked os 3 .any ((OpenSpec.ofChange Rows.wireBackSpec).preRow enc Tryz.prog Tryz.f3 Rows.wireBackRow.domain false Rows.wireBackRow.laid) (((OpenSpec.ofChange Rows.wireBackSpec).at F).post enc Tryz.prog Tryz.f3 false true false false) := by
 obtain ⟨places, hx⟩ := readsWireBack os enc
 refine returnsInHanded_of_row (C := Tryz.checked) (s := OpenSpec.ofChange Rows.wireBackSpec) own started (by kernel_rfl) Tryz.func3
  (witness_row_at (enc := enc) (C := Tryz.checked) false (laidWorld os) #[.slice none 0 0, .int .i64 0, .slice none 0 0, .agg #[.int .i64 0, .bool false, .bool false, .slice none 0 0, .int .i64 0, .string ⟨#[]⟩, .slice none 0 0, .slice none 0 0]] rfl (by kernel_rfl) (by kernel_rfl) (by kernel_rfl)
   (OpenSpec.preRow_of_cond 8 hx (by kernel_rfl) (fun k hk => by cases hk) (by kernel_rfl) (metWireBack os))) ?_
 intro W base args ds gs before hval hW _ _ _ hL hS _
 exact contractWireBack H enc W base args ds gs before hval hW hL hS
theorem saidWireBack : Rows.WireBackSaid :=
 OpenClaim.holds_of_cond 3 Tryz.f3 rfl rfl rfl rfl rfl rfl rfl ⟨rfl, rfl, rfl, rfl, rfl⟩ rfl rfl rfl rfl rfl (by kernel_rfl) Tryz.func3 (by kernel_rfl)
  (of_decide_eq_true (by kernel_rfl)) (by unfold Func.isWrapper; first | (rw [if_pos (by decide +kernel)]; kernel_rfl) | (rw [if_neg (by decide +kernel)]; exact ⟨rfl, rfl⟩))
  (fun os started H enc _ F => by rw [OpenClaim.pre_eq_preRow]; exact liftedWireBack os started H enc F)
theorem plainWireBack (f : FuncId) (fn : Func) (hf : Tryz.pinned.checked.prog.funcNamed "erratum/erratumlaw18.WireBack" = some f) (hfn : Tryz.pinned.checked.prog.funcs[f]? = some fn) :
  true = Tryz.pinned.checked.prog.looks [] ∧ ∀ (j : Nat) t, fn.params[j]? = some t → Tryz.pinned.checked.prog.wantsStandIn t = false := by
 obtain rfl : f = 3 := Option.some.inj ((show Tryz.prog.funcNamed "erratum/erratumlaw18.WireBack" = some 3 by kernel_rfl).symm.trans hf) |>.symm
 obtain rfl : fn = Tryz.f3 := (Option.some.inj (Tryz.func3.symm.trans hfn)).symm
 refine ⟨by kernel_rfl, fun j t ht => ?_⟩
 rw [Tryz.params3] at ht
 have hm : t = 22 ∨ t = 3 ∨ t = 22 ∨ t = 29 := by simpa using Array.mem_of_getElem? ht
 rcases hm with rfl | rfl | rfl | rfl
 ·exact (show Tryz.prog.wantsStandIn 22 = false by kernel_rfl)
 ·exact (show Tryz.prog.wantsStandIn 3 = false by kernel_rfl)
 ·exact (show Tryz.prog.wantsStandIn 22 = false by kernel_rfl)
 ·exact (show Tryz.prog.wantsStandIn 29 = false by kernel_rfl)
theorem cardWireBack : Rows.WireBackCardSaid :=
 Claim7.holds_tied_plain_at .later [] _ _ _ _ saidWireBack (fun _ h => by cases h) (by kernel_rfl) (fun _ h => by cases h) wireBack_row_tie rfl ⟨rfl, rfl⟩ (by kernel_rfl) rfl plainWireBack (by kernel_rfl)
end Go.Proofs.YtondpnipoogoiaaGreatDoor.X
