/- The statement MaskTexts of layer 17 holds of the given program for every input: a text of paths that is none is refused, by the sort of wrong or by the limit; a text of paths is read as the paths; under no condition but the row's own -/
import Derived.Test.YtondpnipoogoiaaGreatDoorQ6
import Derived.Test.YtondpnipoogoiaaGreatDoorQ7
import Derived.Test.YtondpnipoogoiaaGreatDoorQ4
namespace Go.Proofs.YtondpnipoogoiaaGreatDoor.F
open Go Go.RowKit Go.Proofs.Tryz
set_option linter.unusedVariables false
set_option linter.unusedSimpArgs false

def manyF (s : ByteArray) : Nat → ByteArray
  | 0 => s
  | i + 1 => manyF s i ++ ba [44, 97]
theorem manyF_size (s : ByteArray) : ∀ i, (manyF s i).size = s.size + 2 * i
  | 0 => rfl
  | i + 1 => by
    have h : (manyF s i ++ ba [44, 97]).size = (manyF s i).size + 2 := ByteArray.size_append
    rw [manyF, h, manyF_size s i]; omega
def wrongs (s : ByteArray) : List ByteArray := [ba [44] ++ s, s ++ ba [44], s ++ ba [46], ba [46] ++ s, s ++ ba [44, 49, 97], s ++ ba [32], manyF s 60]
theorem wr_at (s : ByteArray) (i : Nat) (hi : i = 60) : [ba [44] ++ s, s ++ ba [44], s ++ ba [46], ba [46] ++ s, s ++ ba [44, 49, 97], s ++ ba [32], manyF s i] = wrongs s := by subst hi; rfl
/-- What the law asks of its paths. -/
structure Fine (p : List (List ByteArray)) (n : Int) : Prop where
  smalls : (∀ x ∈ p, smalls x) ∧ p.length < 4294967281 ∧ ∀ x ∈ p, x.length < 4294967296
  size : (textF p).size ≤ 7563840
  some : ((textF p).toList == (ba []).toList) = false
  back : parseF (textF p) = (p, 0)
  none1 : ((parseF ((wrongs (textF p)).getD (n.toNat * 1) ⟨#[]⟩)).1.length : Int) = 0
  none2 : (parseF ((wrongs (textF p)).getD (n.toNat * 1) ⟨#[]⟩)).2 = if n = 6 then 4 else 2
theorem wrongs_size {s : ByteArray} (h : s.size ≤ 7563840) (n : Nat) (hn : n < 7) : ((wrongs s).getD n ⟨#[]⟩).size < 4294960000 := by
  have e : ∀ a b : ByteArray, (a ++ b).size = a.size + b.size := fun a b => ByteArray.size_append
  have h1 : (ba [44]).size = 1 := rfl
  have h2 : (ba [46]).size = 1 := rfl
  have h3 : (ba [44, 49, 97]).size = 3 := rfl
  have h4 : (ba [32]).size = 1 := rfl
  have hm := manyF_size s 60
  match n, hn with
  | 0, _ => show (ba [44] ++ s).size < _; rw [e]; omega
  | 1, _ => show (s ++ ba [44]).size < _; rw [e]; omega
  | 2, _ => show (s ++ ba [46]).size < _; rw [e]; omega
  | 3, _ => show (ba [46] ++ s).size < _; rw [e]; omega
  | 4, _ => show (s ++ ba [44, 49, 97]).size < _; rw [e]; omega
  | 5, _ => show (s ++ ba [32]).size < _; rw [e]; omega
  | 6, _ => show (manyF s 60).size < _; omega

set_option maxRecDepth 100000 in
theorem con8 (l : List Int) (how : Int) (hF : Fine (if (pathsF l).length = 0 then [[ba [97]]] else pathsF l) (placeF how 7)) : Con Tryz.prog I0 8 [.row (.int .i64) l, vi how] (.val (vb true)) := by
  have hpl := placeF_in how 7 (by decide)
  refine con_of Tryz.func8 rfl (Nat.le_of_ble_eq_true rfl) stab (fun w0 fz a hI hs => ?_)
  refine wp_seq ?_
  refine way_L (tt := tt) (rs := []) (bs := []) (tk := [0, 1]) (bk := []) (C := (True) ∧ (True)) (lv := .norm) (T' := [(0, .row (.int .i64) l), (1, vi how)]) (B' := []) mix hI hs ?_ ?_ ?_ ?_
  · exact trivial
  · kernel_rfl
  · exact ⟨trivial, trivial⟩
  intro a w hs
  refine then_norm ?_
  refine wp_seq ?_
  refine way_L (tt := tt) (rs := [(1, ⟨[(1, ciA 25 [.row (.int .i64) l] [] [] (.own 26 .strs (pathsF l)))], [], []⟩)]) (bs := []) (tk := [1, 5]) (bk := [2001]) (C := (True) ∧ ((okArgs [.row (.int .i64) l]) ∧ ((True) ∧ (True)))) (lv := .norm) (T' := [(1, vi how), (5, .own 2001)]) (B' := [(2001, .sl 26 .strs (pathsF l))]) mix hI hs ?_ ?_ ?_ ?_
  · exact ⟨⟨⟨ent25, con25 _⟩, trivial⟩, trivial⟩
  · kernel_rfl
  · exact ⟨trivial, ⟨rfl, ⟨trivial, trivial⟩⟩⟩
  intro a w hs
  refine then_norm ?_
  refine wp_seq ?_
  rcases Bool.eq_false_or_eq_true (((pathsF l).length : Int) == 0) with b1 | b1
  · skip
    have n1 := eq_of_beq b1
    have hF : Fine [[ba [97]]] (placeF how 7) := by rw [if_pos (by omega)] at hF; exact hF
    refine way_L (tt := tt) (rs := []) (bs := [true]) (tk := [1, 5]) (bk := [4001]) (C := (tr 3 (True)) ∧ (((((pathsF l).length : Int) == 0) = true) ∧ (tr 3 (True)))) (lv := .norm) (T' := [(1, vi how), (5, .own 4001)]) (B' := [(4001, .sl 26 .strs ([[(ba [97])]]))]) mix hI hs ?_ ?_ ?_ ?_
    · exact trivial
    · kernel_rfl
    · exact ⟨tr_mk (trivial) 3, ⟨b1, tr_mk (trivial) 3⟩⟩
    intro a w hs
    refine then_norm ?_
    refine wp_seq ?_
    refine way_L (tt := tt) (rs := [(4, ⟨[(1, ciA 41 [.row .strs ([[(ba [97])]])] [4001] [] (.val (vs (textF ([[(ba [97])]])))))], [], []⟩)]) (bs := []) (tk := [1, 5, 6]) (bk := [4001]) (C := (True) ∧ ((okArgs [.row .strs ([[(ba [97])]])]) ∧ ((True) ∧ (True)))) (lv := .norm) (T' := [(1, vi how), (5, .own 4001), (6, vs (textF ([[(ba [97])]])))]) (B' := [(4001, .sl 26 .strs ([[(ba [97])]]))]) mix hI hs ?_ ?_ ?_ ?_
    · exact ⟨⟨⟨ent41, con41 _ hF.smalls.1 hF.smalls.2.1⟩, trivial⟩, trivial⟩
    · kernel_rfl
    · exact ⟨trivial, ⟨rfl, ⟨trivial, trivial⟩⟩⟩
    intro a w hs
    refine then_norm ?_
    refine wp_seq ?_
    refine way_L (tt := tt) (rs := []) (bs := []) (tk := [1, 5, 6, 7]) (bk := [4001]) (C := (True) ∧ ((True) ∧ (True))) (lv := .norm) (T' := [(1, vi how), (5, .own 4001), (6, vs (textF ([[(ba [97])]]))), (7, vs (textF ([[(ba [97])]])))]) (B' := [(4001, .sl 26 .strs ([[(ba [97])]]))]) mix hI hs ?_ ?_ ?_ ?_
    · exact trivial
    · kernel_rfl
    · exact ⟨trivial, ⟨trivial, trivial⟩⟩
    intro a w hs
    refine then_norm ?_
    refine wp_seq ?_
    refine wp_seq ?_
    refine way_L (tt := tt) (rs := []) (bs := []) (tk := [1, 5, 6, 7, 8]) (bk := [4001]) (C := (True) ∧ (True)) (lv := .norm) (T' := [(1, vi how), (5, .own 4001), (6, vs (textF ([[(ba [97])]]))), (7, vs (textF ([[(ba [97])]]))), (8, vi 0)]) (B' := [(4001, .sl 26 .strs ([[(ba [97])]]))]) mix hI hs ?_ ?_ ?_ ?_
    · exact trivial
    · kernel_rfl
    · exact ⟨trivial, trivial⟩
    intro a w hs
    refine then_norm ?_
    refine wp_block ?_
    refine loop_L (N := Tryz.f8.ntmps) (w0 := w0) (ow := noO fz) (α := Nat) (fun p => [(1, vi how), (5, .own 4001), (6, vs (textF ([[(ba [97])]]))), (7, vs (manyF (textF ([[(ba [97])]])) p)), (8, vi ((p : Nat) : Int))]) (fun p => [(4001, .sl 26 .strs ([[(ba [97])]]))]) (fun p => p ≤ 60) (fun p => 60 - p) 0 ?_ ?_ ?_
    · exact Nat.zero_le _
    · exact (SimL.cast hs (T' := [(1, vi how), (5, .own 4001), (6, vs (textF ([[(ba [97])]]))), (7, vs (manyF (textF ([[(ba [97])]])) 0)), (8, vi ((0 : Nat) : Int))]) (B' := [(4001, .sl 26 .strs ([[(ba [97])]]))]) (by rfl) rfl).ren [(4001, 4001)] (by kernel_rfl) (by kernel_rfl) (by kernel_rfl)
    rintro i hJ a w hs
    have hms := manyF_size (textF ([[(ba [97])]])) i
    have hsz := hF.size
    rcases Bool.eq_false_or_eq_true (decide (((i : Nat) : Int) < 60)) with b2 | b2
    · skip
      have n2 := of_decide_eq_true b2
      refine way_L (tt := tt) (rs := []) (bs := [true]) (tk := [1, 5, 6, 7, 8]) (bk := [4001]) (C := (((True) ∧ ((True) ∧ (True))) ∧ (((decide (((i : Nat) : Int) < 60)) = true) ∧ (True))) ∧ (((True) ∧ (((((manyF (textF ([[(ba [97])]])) i).size + 2 : Nat) : Int) ≤ IntKind.i64.max) ∧ ((True) ∧ (True)))) ∧ ((True) ∧ ((InR .i64 (((i : Nat) : Int) + 1)) ∧ ((True) ∧ (True)))))) (lv := .norm) (T' := [(1, vi how), (5, .own 4001), (6, vs (textF ([[(ba [97])]]))), (7, vs ((manyF (textF ([[(ba [97])]])) i) ++ (ba [44, 97]))), (8, vi (((i : Nat) : Int) + 1))]) (B' := [(4001, .sl 26 .strs ([[(ba [97])]]))]) mix hI hs ?_ ?_ ?_ ?_
      · exact trivial
      · kernel_rfl
      · exact ⟨⟨⟨trivial, ⟨trivial, trivial⟩⟩, ⟨b2, trivial⟩⟩, ⟨⟨trivial, ⟨(by show _ ≤ (9223372036854775807 : Int); have hsz := hF.size; have hla : (ba [44, 97]).size = 2 := rfl; omega), ⟨trivial, trivial⟩⟩⟩, ⟨trivial, ⟨(inR64 (by omega) (by omega)), ⟨trivial, trivial⟩⟩⟩⟩⟩
      intro a w hs
      refine then_norm ⟨i + 1, by omega, by omega, ?_⟩
      (have e1_ : (((i : Nat) : Int) + 1) = ((((i + 1) : Nat) : Int)) := (by first | rfl | (omega)); exact (SimL.cast hs (T' := [(1, vi how), (5, .own 4001), (6, vs (textF ([[(ba [97])]]))), (7, vs (manyF (textF ([[(ba [97])]])) (i + 1))), (8, vi (((i + 1) : Nat) : Int))]) (B' := [(4001, .sl 26 .strs ([[(ba [97])]]))]) (by first | rfl | (rw [e1_]; done) | (simp only [e1_]; done) | (simp only [e1_]; rfl)) (by first | rfl | (rw [e1_]; done) | (simp only [e1_]; done) | (simp only [e1_]; rfl))).ren [(4001, 4001)] (by kernel_rfl) (by kernel_rfl) (by kernel_rfl))
    · skip
      have n2 := of_decide_eq_false b2
      have hi60 : i = 60 := by omega
      refine way_L (tt := tt) (rs := []) (bs := [false]) (tk := [1, 5, 6, 7]) (bk := [4001]) (C := ((True) ∧ ((True) ∧ (True))) ∧ (((decide (((i : Nat) : Int) < 60)) = false) ∧ (True))) (lv := .exit 0) (T' := [(1, vi how), (5, .own 4001), (6, vs (textF ([[(ba [97])]]))), (7, vs (manyF (textF ([[(ba [97])]])) i))]) (B' := [(4001, .sl 26 .strs ([[(ba [97])]]))]) mix hI hs ?_ ?_ ?_ ?_
      · exact trivial
      · kernel_rfl
      · exact ⟨⟨trivial, ⟨trivial, trivial⟩⟩, ⟨b2, trivial⟩⟩
      intro a w hs
      refine then_exit ?_
      refine inb_hit ?_
      refine then_norm ?_
      rcases Bool.eq_false_or_eq_true ((placeF how 7) == 6) with b3 | b3
      · skip
        have n3 := eq_of_beq b3
        have b4 : ((textF ([[(ba [97])]])).toList == (ba []).toList) = false := by exact hF.some
        have b5 : (((parseF (([(ba [44]) ++ (textF ([[(ba [97])]])), (textF ([[(ba [97])]])) ++ (ba [44]), (textF ([[(ba [97])]])) ++ (ba [46]), (ba [46]) ++ (textF ([[(ba [97])]])), (textF ([[(ba [97])]])) ++ (ba [44, 49, 97]), (textF ([[(ba [97])]])) ++ (ba [32]), manyF (textF ([[(ba [97])]])) i] : List ByteArray).getD ((placeF how 7).toNat * 1) ⟨#[]⟩)).2) == 4) = true := by rw [wr_at _ _ hi60]; have h := hF.none2; rw [if_pos (by assumption)] at h; exact beq_iff_eq.2 h
        have b6 : ((((parseF (([(ba [44]) ++ (textF ([[(ba [97])]])), (textF ([[(ba [97])]])) ++ (ba [44]), (textF ([[(ba [97])]])) ++ (ba [46]), (ba [46]) ++ (textF ([[(ba [97])]])), (textF ([[(ba [97])]])) ++ (ba [44, 49, 97]), (textF ([[(ba [97])]])) ++ (ba [32]), manyF (textF ([[(ba [97])]])) i] : List ByteArray).getD ((placeF how 7).toNat * 1) ⟨#[]⟩)).1).length : Int) == 0) = true := by rw [wr_at _ _ hi60]; exact beq_iff_eq.2 hF.none1
        have b7 : (((parseF (textF ([[(ba [97])]]))).2) == 0) = true := by rw [hF.back]; rfl
        have b8 : (sameP ((parseF (textF ([[(ba [97])]]))).1) ([[(ba [97])]])) = true := by rw [hF.back]; exact sameP_self _
        refine way_L (tt := tt) (rs := [(10, ⟨[(15, ciA 17 [vi how, vi 7] [] [] (.val (vi (placeF how 7))))], [], []⟩), (12, ⟨[(1, ciA 17 [vi how, vi 7] [] [] (.val (vi (placeF how 7))))], [], []⟩), (14, ⟨[(1, ciA 31 [vs (([(ba [44]) ++ (textF ([[(ba [97])]])), (textF ([[(ba [97])]])) ++ (ba [44]), (textF ([[(ba [97])]])) ++ (ba [46]), (ba [46]) ++ (textF ([[(ba [97])]])), (textF ([[(ba [97])]])) ++ (ba [44, 49, 97]), (textF ([[(ba [97])]])) ++ (ba [32]), manyF (textF ([[(ba [97])]])) i] : List ByteArray).getD ((placeF how 7).toNat * 1) ⟨#[]⟩)] [] [] (.val (.tup [.row .strs ((parseF (([(ba [44]) ++ (textF ([[(ba [97])]])), (textF ([[(ba [97])]])) ++ (ba [44]), (textF ([[(ba [97])]])) ++ (ba [46]), (ba [46]) ++ (textF ([[(ba [97])]])), (textF ([[(ba [97])]])) ++ (ba [44, 49, 97]), (textF ([[(ba [97])]])) ++ (ba [32]), manyF (textF ([[(ba [97])]])) i] : List ByteArray).getD ((placeF how 7).toNat * 1) ⟨#[]⟩)).1), vi ((parseF (([(ba [44]) ++ (textF ([[(ba [97])]])), (textF ([[(ba [97])]])) ++ (ba [44]), (textF ([[(ba [97])]])) ++ (ba [46]), (ba [46]) ++ (textF ([[(ba [97])]])), (textF ([[(ba [97])]])) ++ (ba [44, 49, 97]), (textF ([[(ba [97])]])) ++ (ba [32]), manyF (textF ([[(ba [97])]])) i] : List ByteArray).getD ((placeF how 7).toNat * 1) ⟨#[]⟩)).2)])))], [], []⟩), (15, ⟨[(1, ciA 31 [vs (textF ([[(ba [97])]]))] [] [] (.val (.tup [.row .strs ((parseF (textF ([[(ba [97])]]))).1), vi ((parseF (textF ([[(ba [97])]]))).2)])))], [], []⟩), (16, ⟨[(19, ciA 35 [.row .strs ((parseF (textF ([[(ba [97])]]))).1), .row .strs ([[(ba [97])]])] [4001] [] (.val (vb (sameP ((parseF (textF ([[(ba [97])]]))).1) ([[(ba [97])]]))))), (23, ciA 44 [.agg [vi 1, vb false, vb false, nilv, vi 0, vs (ba []), nilv, nilv]] [] [] (.val (vb true))), (26, ciA 23 [] [] [] (.val (vb true)))], [(3, true), (4, true), (5, true), (1006, true), (8, true), (9, true), (10, true), (1011, true), (13, true), (14, true), (1015, true), (17, true), (18, true), (19, true), (1020, true), (22, true), (23, true), (1024, true), (26, true), (1027, true)], []⟩)]) (bs := [true]) (tk := [4]) (bk := []) (C := ((True) ∧ ((((1 + (textF ([[(ba [97])]])).size : Nat) : Int) ≤ IntKind.i64.max) ∧ ((True) ∧ (((((textF ([[(ba [97])]])).size + 1 : Nat) : Int) ≤ IntKind.i64.max) ∧ ((True) ∧ (((((textF ([[(ba [97])]])).size + 1 : Nat) : Int) ≤ IntKind.i64.max) ∧ ((True) ∧ ((((1 + (textF ([[(ba [97])]])).size : Nat) : Int) ≤ IntKind.i64.max) ∧ ((True) ∧ (((((textF ([[(ba [97])]])).size + 3 : Nat) : Int) ≤ IntKind.i64.max) ∧ ((True) ∧ (((((textF ([[(ba [97])]])).size + 1 : Nat) : Int) ≤ IntKind.i64.max) ∧ (tr 3 ((okArgs [vi how, vi 7]) ∧ (((0 ≤ (placeF how 7) ∧ (placeF how 7) < (7 : Nat)) ∧ (placeF how 7).toNat * 1 < 7) ∧ ((True) ∧ (True))))))))))))))))) ∧ (((True) ∧ (True)) ∧ ((((True) ∧ ((okArgs [vi how, vi 7]) ∧ ((True) ∧ (True)))) ∧ ((((placeF how 7) == 6) = true) ∧ ((True) ∧ (True)))) ∧ (((True) ∧ ((okArgs [vs (([(ba [44]) ++ (textF ([[(ba [97])]])), (textF ([[(ba [97])]])) ++ (ba [44]), (textF ([[(ba [97])]])) ++ (ba [46]), (ba [46]) ++ (textF ([[(ba [97])]])), (textF ([[(ba [97])]])) ++ (ba [44, 49, 97]), (textF ([[(ba [97])]])) ++ (ba [32]), manyF (textF ([[(ba [97])]])) i] : List ByteArray).getD ((placeF how 7).toNat * 1) ⟨#[]⟩)]) ∧ (tr 5 (True)))) ∧ (((True) ∧ ((okArgs [vs (textF ([[(ba [97])]]))]) ∧ (tr 5 (True)))) ∧ ((tr 3 (((!((textF ([[(ba [97])]])).toList == (ba []).toList)) = true) ∧ ((True) ∧ (((!((textF ([[(ba [97])]])).toList == (ba []).toList)) = true) ∧ ((True) ∧ (((!((textF ([[(ba [97])]])).toList == (ba []).toList)) = true) ∧ ((True) ∧ (((!((textF ([[(ba [97])]])).toList == (ba []).toList)) = true) ∧ ((True) ∧ (((((parseF (([(ba [44]) ++ (textF ([[(ba [97])]])), (textF ([[(ba [97])]])) ++ (ba [44]), (textF ([[(ba [97])]])) ++ (ba [46]), (ba [46]) ++ (textF ([[(ba [97])]])), (textF ([[(ba [97])]])) ++ (ba [44, 49, 97]), (textF ([[(ba [97])]])) ++ (ba [32]), manyF (textF ([[(ba [97])]])) i] : List ByteArray).getD ((placeF how 7).toNat * 1) ⟨#[]⟩)).2) == 4) = true) ∧ ((True) ∧ (((((parseF (([(ba [44]) ++ (textF ([[(ba [97])]])), (textF ([[(ba [97])]])) ++ (ba [44]), (textF ([[(ba [97])]])) ++ (ba [46]), (ba [46]) ++ (textF ([[(ba [97])]])), (textF ([[(ba [97])]])) ++ (ba [44, 49, 97]), (textF ([[(ba [97])]])) ++ (ba [32]), manyF (textF ([[(ba [97])]])) i] : List ByteArray).getD ((placeF how 7).toNat * 1) ⟨#[]⟩)).2) == 4) = true) ∧ ((True) ∧ (((((parseF (([(ba [44]) ++ (textF ([[(ba [97])]])), (textF ([[(ba [97])]])) ++ (ba [44]), (textF ([[(ba [97])]])) ++ (ba [46]), (ba [46]) ++ (textF ([[(ba [97])]])), (textF ([[(ba [97])]])) ++ (ba [44, 49, 97]), (textF ([[(ba [97])]])) ++ (ba [32]), manyF (textF ([[(ba [97])]])) i] : List ByteArray).getD ((placeF how 7).toNat * 1) ⟨#[]⟩)).2) == 4) = true) ∧ ((True) ∧ (((((parseF (([(ba [44]) ++ (textF ([[(ba [97])]])), (textF ([[(ba [97])]])) ++ (ba [44]), (textF ([[(ba [97])]])) ++ (ba [46]), (ba [46]) ++ (textF ([[(ba [97])]])), (textF ([[(ba [97])]])) ++ (ba [44, 49, 97]), (textF ([[(ba [97])]])) ++ (ba [32]), manyF (textF ([[(ba [97])]])) i] : List ByteArray).getD ((placeF how 7).toNat * 1) ⟨#[]⟩)).2) == 4) = true) ∧ ((True) ∧ ((((((parseF (([(ba [44]) ++ (textF ([[(ba [97])]])), (textF ([[(ba [97])]])) ++ (ba [44]), (textF ([[(ba [97])]])) ++ (ba [46]), (ba [46]) ++ (textF ([[(ba [97])]])), (textF ([[(ba [97])]])) ++ (ba [44, 49, 97]), (textF ([[(ba [97])]])) ++ (ba [32]), manyF (textF ([[(ba [97])]])) i] : List ByteArray).getD ((placeF how 7).toNat * 1) ⟨#[]⟩)).1).length : Int) == 0) = true) ∧ ((True) ∧ ((((((parseF (([(ba [44]) ++ (textF ([[(ba [97])]])), (textF ([[(ba [97])]])) ++ (ba [44]), (textF ([[(ba [97])]])) ++ (ba [46]), (ba [46]) ++ (textF ([[(ba [97])]])), (textF ([[(ba [97])]])) ++ (ba [44, 49, 97]), (textF ([[(ba [97])]])) ++ (ba [32]), manyF (textF ([[(ba [97])]])) i] : List ByteArray).getD ((placeF how 7).toNat * 1) ⟨#[]⟩)).1).length : Int) == 0) = true) ∧ ((True) ∧ ((((((parseF (([(ba [44]) ++ (textF ([[(ba [97])]])), (textF ([[(ba [97])]])) ++ (ba [44]), (textF ([[(ba [97])]])) ++ (ba [46]), (ba [46]) ++ (textF ([[(ba [97])]])), (textF ([[(ba [97])]])) ++ (ba [44, 49, 97]), (textF ([[(ba [97])]])) ++ (ba [32]), manyF (textF ([[(ba [97])]])) i] : List ByteArray).getD ((placeF how 7).toNat * 1) ⟨#[]⟩)).1).length : Int) == 0) = true) ∧ ((True) ∧ (((((parseF (textF ([[(ba [97])]]))).2) == 0) = true) ∧ ((True) ∧ (((((parseF (textF ([[(ba [97])]]))).2) == 0) = true) ∧ ((True) ∧ (((((parseF (textF ([[(ba [97])]]))).2) == 0) = true) ∧ ((okArgs [.row .strs ((parseF (textF ([[(ba [97])]]))).1), .row .strs ([[(ba [97])]])]) ∧ (((((parseF (textF ([[(ba [97])]]))).2) == 0) = true) ∧ ((True) ∧ (((sameP ((parseF (textF ([[(ba [97])]]))).1) ([[(ba [97])]])) = true) ∧ ((True) ∧ (((sameP ((parseF (textF ([[(ba [97])]]))).1) ([[(ba [97])]])) = true) ∧ ((okArgs [.agg [vi 1, vb false, vb false, nilv, vi 0, vs (ba []), nilv, nilv]]) ∧ (((sameP ((parseF (textF ([[(ba [97])]]))).1) ([[(ba [97])]])) = true) ∧ ((True) ∧ ((true = true) ∧ ((okArgs []) ∧ ((true = true) ∧ ((True) ∧ (True)))))))))))))))))))))))))))))))))))))))))) ∧ (True))))))) (lv := .ret) (T' := [(4, vb true)]) (B' := []) mix hI hs ?_ ?_ ?_ ?_
        · exact ⟨⟨⟨ent17, con17 _ _ (by decide) (by decide)⟩, trivial⟩, ⟨⟨⟨ent17, con17 _ _ (by decide) (by decide)⟩, trivial⟩, ⟨⟨⟨ent31, con31 _ (by rw [wr_at _ _ hi60]; exact wrongs_size hF.size _ (by have := placeF_in how 7 (by decide); omega))⟩, trivial⟩, ⟨⟨⟨ent31, con31 _ (by have := hF.size; omega)⟩, trivial⟩, ⟨⟨⟨ent35, con35 _ _ (by rw [hF.back]; exact Nat.lt_trans hF.smalls.2.1 (by decide)) (by rw [hF.back]; exact hF.smalls.2.2)⟩, ⟨⟨ent44, c44_0⟩, ⟨⟨ent23, c23_0⟩, trivial⟩⟩⟩, trivial⟩⟩⟩⟩⟩
        · kernel_rfl
        · exact ⟨⟨trivial, ⟨(by show _ ≤ (9223372036854775807 : Int); have hsz := hF.size; have hla : (ba [44, 97]).size = 2 := rfl; omega), ⟨trivial, ⟨(by show _ ≤ (9223372036854775807 : Int); have hsz := hF.size; have hla : (ba [44, 97]).size = 2 := rfl; omega), ⟨trivial, ⟨(by show _ ≤ (9223372036854775807 : Int); have hsz := hF.size; have hla : (ba [44, 97]).size = 2 := rfl; omega), ⟨trivial, ⟨(by show _ ≤ (9223372036854775807 : Int); have hsz := hF.size; have hla : (ba [44, 97]).size = 2 := rfl; omega), ⟨trivial, ⟨(by show _ ≤ (9223372036854775807 : Int); have hsz := hF.size; have hla : (ba [44, 97]).size = 2 := rfl; omega), ⟨trivial, ⟨(by show _ ≤ (9223372036854775807 : Int); have hsz := hF.size; have hla : (ba [44, 97]).size = 2 := rfl; omega), tr_mk (⟨rfl, ⟨⟨⟨by omega, by omega⟩, by omega⟩, ⟨trivial, trivial⟩⟩⟩) 3⟩⟩⟩⟩⟩⟩⟩⟩⟩⟩⟩⟩, ⟨⟨trivial, trivial⟩, ⟨⟨⟨trivial, ⟨rfl, ⟨trivial, trivial⟩⟩⟩, ⟨b3, ⟨trivial, trivial⟩⟩⟩, ⟨⟨trivial, ⟨rfl, tr_mk (trivial) 5⟩⟩, ⟨⟨trivial, ⟨rfl, tr_mk (trivial) 5⟩⟩, ⟨tr_mk (⟨(by rw [b4]; rfl), ⟨trivial, ⟨(by rw [b4]; rfl), ⟨trivial, ⟨(by rw [b4]; rfl), ⟨trivial, ⟨(by rw [b4]; rfl), ⟨trivial, ⟨b5, ⟨trivial, ⟨b5, ⟨trivial, ⟨b5, ⟨trivial, ⟨b5, ⟨trivial, ⟨b6, ⟨trivial, ⟨b6, ⟨trivial, ⟨b6, ⟨trivial, ⟨b7, ⟨trivial, ⟨b7, ⟨trivial, ⟨b7, ⟨rfl, ⟨b7, ⟨trivial, ⟨b8, ⟨trivial, ⟨b8, ⟨rfl, ⟨b8, ⟨trivial, ⟨rfl, ⟨rfl, ⟨rfl, ⟨trivial, trivial⟩⟩⟩⟩⟩⟩⟩⟩⟩⟩⟩⟩⟩⟩⟩⟩⟩⟩⟩⟩⟩⟩⟩⟩⟩⟩⟩⟩⟩⟩⟩⟩⟩⟩⟩⟩⟩⟩⟩⟩) 3, trivial⟩⟩⟩⟩⟩⟩
        intro a w hs
        exact FnQ_cast (out := .val (vb true)) (rfl) (ret_ok [] hs ⟨by kernel_rfl, rfl⟩)
      · skip
        have n3 := beq_eq_false_iff_ne.1 b3
        have b9 : ((textF ([[(ba [97])]])).toList == (ba []).toList) = false := by exact hF.some
        have b10 : (((parseF (([(ba [44]) ++ (textF ([[(ba [97])]])), (textF ([[(ba [97])]])) ++ (ba [44]), (textF ([[(ba [97])]])) ++ (ba [46]), (ba [46]) ++ (textF ([[(ba [97])]])), (textF ([[(ba [97])]])) ++ (ba [44, 49, 97]), (textF ([[(ba [97])]])) ++ (ba [32]), manyF (textF ([[(ba [97])]])) i] : List ByteArray).getD ((placeF how 7).toNat * 1) ⟨#[]⟩)).2) == 2) = true := by rw [wr_at _ _ hi60]; have h := hF.none2; rw [if_neg (by assumption)] at h; exact beq_iff_eq.2 h
        have b11 : ((((parseF (([(ba [44]) ++ (textF ([[(ba [97])]])), (textF ([[(ba [97])]])) ++ (ba [44]), (textF ([[(ba [97])]])) ++ (ba [46]), (ba [46]) ++ (textF ([[(ba [97])]])), (textF ([[(ba [97])]])) ++ (ba [44, 49, 97]), (textF ([[(ba [97])]])) ++ (ba [32]), manyF (textF ([[(ba [97])]])) i] : List ByteArray).getD ((placeF how 7).toNat * 1) ⟨#[]⟩)).1).length : Int) == 0) = true := by rw [wr_at _ _ hi60]; exact beq_iff_eq.2 hF.none1
        have b12 : (((parseF (textF ([[(ba [97])]]))).2) == 0) = true := by rw [hF.back]; rfl
        have b13 : (sameP ((parseF (textF ([[(ba [97])]]))).1) ([[(ba [97])]])) = true := by rw [hF.back]; exact sameP_self _
        refine way_L (tt := tt) (rs := [(10, ⟨[(15, ciA 17 [vi how, vi 7] [] [] (.val (vi (placeF how 7))))], [], []⟩), (12, ⟨[(1, ciA 17 [vi how, vi 7] [] [] (.val (vi (placeF how 7))))], [], []⟩), (14, ⟨[(1, ciA 31 [vs (([(ba [44]) ++ (textF ([[(ba [97])]])), (textF ([[(ba [97])]])) ++ (ba [44]), (textF ([[(ba [97])]])) ++ (ba [46]), (ba [46]) ++ (textF ([[(ba [97])]])), (textF ([[(ba [97])]])) ++ (ba [44, 49, 97]), (textF ([[(ba [97])]])) ++ (ba [32]), manyF (textF ([[(ba [97])]])) i] : List ByteArray).getD ((placeF how 7).toNat * 1) ⟨#[]⟩)] [] [] (.val (.tup [.row .strs ((parseF (([(ba [44]) ++ (textF ([[(ba [97])]])), (textF ([[(ba [97])]])) ++ (ba [44]), (textF ([[(ba [97])]])) ++ (ba [46]), (ba [46]) ++ (textF ([[(ba [97])]])), (textF ([[(ba [97])]])) ++ (ba [44, 49, 97]), (textF ([[(ba [97])]])) ++ (ba [32]), manyF (textF ([[(ba [97])]])) i] : List ByteArray).getD ((placeF how 7).toNat * 1) ⟨#[]⟩)).1), vi ((parseF (([(ba [44]) ++ (textF ([[(ba [97])]])), (textF ([[(ba [97])]])) ++ (ba [44]), (textF ([[(ba [97])]])) ++ (ba [46]), (ba [46]) ++ (textF ([[(ba [97])]])), (textF ([[(ba [97])]])) ++ (ba [44, 49, 97]), (textF ([[(ba [97])]])) ++ (ba [32]), manyF (textF ([[(ba [97])]])) i] : List ByteArray).getD ((placeF how 7).toNat * 1) ⟨#[]⟩)).2)])))], [], []⟩), (15, ⟨[(1, ciA 31 [vs (textF ([[(ba [97])]]))] [] [] (.val (.tup [.row .strs ((parseF (textF ([[(ba [97])]]))).1), vi ((parseF (textF ([[(ba [97])]]))).2)])))], [], []⟩), (16, ⟨[(19, ciA 35 [.row .strs ((parseF (textF ([[(ba [97])]]))).1), .row .strs ([[(ba [97])]])] [4001] [] (.val (vb (sameP ((parseF (textF ([[(ba [97])]]))).1) ([[(ba [97])]]))))), (23, ciA 44 [.agg [vi 1, vb false, vb false, nilv, vi 0, vs (ba []), nilv, nilv]] [] [] (.val (vb true))), (26, ciA 23 [] [] [] (.val (vb true)))], [(3, true), (4, true), (5, true), (1006, true), (8, true), (9, true), (10, true), (1011, true), (13, true), (14, true), (1015, true), (17, true), (18, true), (19, true), (1020, true), (22, true), (23, true), (1024, true), (26, true), (1027, true)], []⟩)]) (bs := [false]) (tk := [4]) (bk := []) (C := ((True) ∧ ((((1 + (textF ([[(ba [97])]])).size : Nat) : Int) ≤ IntKind.i64.max) ∧ ((True) ∧ (((((textF ([[(ba [97])]])).size + 1 : Nat) : Int) ≤ IntKind.i64.max) ∧ ((True) ∧ (((((textF ([[(ba [97])]])).size + 1 : Nat) : Int) ≤ IntKind.i64.max) ∧ ((True) ∧ ((((1 + (textF ([[(ba [97])]])).size : Nat) : Int) ≤ IntKind.i64.max) ∧ ((True) ∧ (((((textF ([[(ba [97])]])).size + 3 : Nat) : Int) ≤ IntKind.i64.max) ∧ ((True) ∧ (((((textF ([[(ba [97])]])).size + 1 : Nat) : Int) ≤ IntKind.i64.max) ∧ (tr 3 ((okArgs [vi how, vi 7]) ∧ (((0 ≤ (placeF how 7) ∧ (placeF how 7) < (7 : Nat)) ∧ (placeF how 7).toNat * 1 < 7) ∧ ((True) ∧ (True))))))))))))))))) ∧ (((True) ∧ (True)) ∧ ((((True) ∧ ((okArgs [vi how, vi 7]) ∧ ((True) ∧ (True)))) ∧ ((((placeF how 7) == 6) = false) ∧ (True))) ∧ (((True) ∧ ((okArgs [vs (([(ba [44]) ++ (textF ([[(ba [97])]])), (textF ([[(ba [97])]])) ++ (ba [44]), (textF ([[(ba [97])]])) ++ (ba [46]), (ba [46]) ++ (textF ([[(ba [97])]])), (textF ([[(ba [97])]])) ++ (ba [44, 49, 97]), (textF ([[(ba [97])]])) ++ (ba [32]), manyF (textF ([[(ba [97])]])) i] : List ByteArray).getD ((placeF how 7).toNat * 1) ⟨#[]⟩)]) ∧ (tr 5 (True)))) ∧ (((True) ∧ ((okArgs [vs (textF ([[(ba [97])]]))]) ∧ (tr 5 (True)))) ∧ ((tr 3 (((!((textF ([[(ba [97])]])).toList == (ba []).toList)) = true) ∧ ((True) ∧ (((!((textF ([[(ba [97])]])).toList == (ba []).toList)) = true) ∧ ((True) ∧ (((!((textF ([[(ba [97])]])).toList == (ba []).toList)) = true) ∧ ((True) ∧ (((!((textF ([[(ba [97])]])).toList == (ba []).toList)) = true) ∧ ((True) ∧ (((((parseF (([(ba [44]) ++ (textF ([[(ba [97])]])), (textF ([[(ba [97])]])) ++ (ba [44]), (textF ([[(ba [97])]])) ++ (ba [46]), (ba [46]) ++ (textF ([[(ba [97])]])), (textF ([[(ba [97])]])) ++ (ba [44, 49, 97]), (textF ([[(ba [97])]])) ++ (ba [32]), manyF (textF ([[(ba [97])]])) i] : List ByteArray).getD ((placeF how 7).toNat * 1) ⟨#[]⟩)).2) == 2) = true) ∧ ((True) ∧ (((((parseF (([(ba [44]) ++ (textF ([[(ba [97])]])), (textF ([[(ba [97])]])) ++ (ba [44]), (textF ([[(ba [97])]])) ++ (ba [46]), (ba [46]) ++ (textF ([[(ba [97])]])), (textF ([[(ba [97])]])) ++ (ba [44, 49, 97]), (textF ([[(ba [97])]])) ++ (ba [32]), manyF (textF ([[(ba [97])]])) i] : List ByteArray).getD ((placeF how 7).toNat * 1) ⟨#[]⟩)).2) == 2) = true) ∧ ((True) ∧ (((((parseF (([(ba [44]) ++ (textF ([[(ba [97])]])), (textF ([[(ba [97])]])) ++ (ba [44]), (textF ([[(ba [97])]])) ++ (ba [46]), (ba [46]) ++ (textF ([[(ba [97])]])), (textF ([[(ba [97])]])) ++ (ba [44, 49, 97]), (textF ([[(ba [97])]])) ++ (ba [32]), manyF (textF ([[(ba [97])]])) i] : List ByteArray).getD ((placeF how 7).toNat * 1) ⟨#[]⟩)).2) == 2) = true) ∧ ((True) ∧ (((((parseF (([(ba [44]) ++ (textF ([[(ba [97])]])), (textF ([[(ba [97])]])) ++ (ba [44]), (textF ([[(ba [97])]])) ++ (ba [46]), (ba [46]) ++ (textF ([[(ba [97])]])), (textF ([[(ba [97])]])) ++ (ba [44, 49, 97]), (textF ([[(ba [97])]])) ++ (ba [32]), manyF (textF ([[(ba [97])]])) i] : List ByteArray).getD ((placeF how 7).toNat * 1) ⟨#[]⟩)).2) == 2) = true) ∧ ((True) ∧ ((((((parseF (([(ba [44]) ++ (textF ([[(ba [97])]])), (textF ([[(ba [97])]])) ++ (ba [44]), (textF ([[(ba [97])]])) ++ (ba [46]), (ba [46]) ++ (textF ([[(ba [97])]])), (textF ([[(ba [97])]])) ++ (ba [44, 49, 97]), (textF ([[(ba [97])]])) ++ (ba [32]), manyF (textF ([[(ba [97])]])) i] : List ByteArray).getD ((placeF how 7).toNat * 1) ⟨#[]⟩)).1).length : Int) == 0) = true) ∧ ((True) ∧ ((((((parseF (([(ba [44]) ++ (textF ([[(ba [97])]])), (textF ([[(ba [97])]])) ++ (ba [44]), (textF ([[(ba [97])]])) ++ (ba [46]), (ba [46]) ++ (textF ([[(ba [97])]])), (textF ([[(ba [97])]])) ++ (ba [44, 49, 97]), (textF ([[(ba [97])]])) ++ (ba [32]), manyF (textF ([[(ba [97])]])) i] : List ByteArray).getD ((placeF how 7).toNat * 1) ⟨#[]⟩)).1).length : Int) == 0) = true) ∧ ((True) ∧ ((((((parseF (([(ba [44]) ++ (textF ([[(ba [97])]])), (textF ([[(ba [97])]])) ++ (ba [44]), (textF ([[(ba [97])]])) ++ (ba [46]), (ba [46]) ++ (textF ([[(ba [97])]])), (textF ([[(ba [97])]])) ++ (ba [44, 49, 97]), (textF ([[(ba [97])]])) ++ (ba [32]), manyF (textF ([[(ba [97])]])) i] : List ByteArray).getD ((placeF how 7).toNat * 1) ⟨#[]⟩)).1).length : Int) == 0) = true) ∧ ((True) ∧ (((((parseF (textF ([[(ba [97])]]))).2) == 0) = true) ∧ ((True) ∧ (((((parseF (textF ([[(ba [97])]]))).2) == 0) = true) ∧ ((True) ∧ (((((parseF (textF ([[(ba [97])]]))).2) == 0) = true) ∧ ((okArgs [.row .strs ((parseF (textF ([[(ba [97])]]))).1), .row .strs ([[(ba [97])]])]) ∧ (((((parseF (textF ([[(ba [97])]]))).2) == 0) = true) ∧ ((True) ∧ (((sameP ((parseF (textF ([[(ba [97])]]))).1) ([[(ba [97])]])) = true) ∧ ((True) ∧ (((sameP ((parseF (textF ([[(ba [97])]]))).1) ([[(ba [97])]])) = true) ∧ ((okArgs [.agg [vi 1, vb false, vb false, nilv, vi 0, vs (ba []), nilv, nilv]]) ∧ (((sameP ((parseF (textF ([[(ba [97])]]))).1) ([[(ba [97])]])) = true) ∧ ((True) ∧ ((true = true) ∧ ((okArgs []) ∧ ((true = true) ∧ ((True) ∧ (True)))))))))))))))))))))))))))))))))))))))))) ∧ (True))))))) (lv := .ret) (T' := [(4, vb true)]) (B' := []) mix hI hs ?_ ?_ ?_ ?_
        · exact ⟨⟨⟨ent17, con17 _ _ (by decide) (by decide)⟩, trivial⟩, ⟨⟨⟨ent17, con17 _ _ (by decide) (by decide)⟩, trivial⟩, ⟨⟨⟨ent31, con31 _ (by rw [wr_at _ _ hi60]; exact wrongs_size hF.size _ (by have := placeF_in how 7 (by decide); omega))⟩, trivial⟩, ⟨⟨⟨ent31, con31 _ (by have := hF.size; omega)⟩, trivial⟩, ⟨⟨⟨ent35, con35 _ _ (by rw [hF.back]; exact Nat.lt_trans hF.smalls.2.1 (by decide)) (by rw [hF.back]; exact hF.smalls.2.2)⟩, ⟨⟨ent44, c44_0⟩, ⟨⟨ent23, c23_0⟩, trivial⟩⟩⟩, trivial⟩⟩⟩⟩⟩
        · kernel_rfl
        · exact ⟨⟨trivial, ⟨(by show _ ≤ (9223372036854775807 : Int); have hsz := hF.size; have hla : (ba [44, 97]).size = 2 := rfl; omega), ⟨trivial, ⟨(by show _ ≤ (9223372036854775807 : Int); have hsz := hF.size; have hla : (ba [44, 97]).size = 2 := rfl; omega), ⟨trivial, ⟨(by show _ ≤ (9223372036854775807 : Int); have hsz := hF.size; have hla : (ba [44, 97]).size = 2 := rfl; omega), ⟨trivial, ⟨(by show _ ≤ (9223372036854775807 : Int); have hsz := hF.size; have hla : (ba [44, 97]).size = 2 := rfl; omega), ⟨trivial, ⟨(by show _ ≤ (9223372036854775807 : Int); have hsz := hF.size; have hla : (ba [44, 97]).size = 2 := rfl; omega), ⟨trivial, ⟨(by show _ ≤ (9223372036854775807 : Int); have hsz := hF.size; have hla : (ba [44, 97]).size = 2 := rfl; omega), tr_mk (⟨rfl, ⟨⟨⟨by omega, by omega⟩, by omega⟩, ⟨trivial, trivial⟩⟩⟩) 3⟩⟩⟩⟩⟩⟩⟩⟩⟩⟩⟩⟩, ⟨⟨trivial, trivial⟩, ⟨⟨⟨trivial, ⟨rfl, ⟨trivial, trivial⟩⟩⟩, ⟨b3, trivial⟩⟩, ⟨⟨trivial, ⟨rfl, tr_mk (trivial) 5⟩⟩, ⟨⟨trivial, ⟨rfl, tr_mk (trivial) 5⟩⟩, ⟨tr_mk (⟨(by rw [b9]; rfl), ⟨trivial, ⟨(by rw [b9]; rfl), ⟨trivial, ⟨(by rw [b9]; rfl), ⟨trivial, ⟨(by rw [b9]; rfl), ⟨trivial, ⟨b10, ⟨trivial, ⟨b10, ⟨trivial, ⟨b10, ⟨trivial, ⟨b10, ⟨trivial, ⟨b11, ⟨trivial, ⟨b11, ⟨trivial, ⟨b11, ⟨trivial, ⟨b12, ⟨trivial, ⟨b12, ⟨trivial, ⟨b12, ⟨rfl, ⟨b12, ⟨trivial, ⟨b13, ⟨trivial, ⟨b13, ⟨rfl, ⟨b13, ⟨trivial, ⟨rfl, ⟨rfl, ⟨rfl, ⟨trivial, trivial⟩⟩⟩⟩⟩⟩⟩⟩⟩⟩⟩⟩⟩⟩⟩⟩⟩⟩⟩⟩⟩⟩⟩⟩⟩⟩⟩⟩⟩⟩⟩⟩⟩⟩⟩⟩⟩⟩⟩⟩) 3, trivial⟩⟩⟩⟩⟩⟩
        intro a w hs
        exact FnQ_cast (out := .val (vb true)) (rfl) (ret_ok [] hs ⟨by kernel_rfl, rfl⟩)
  · skip
    have n1 := beq_eq_false_iff_ne.1 b1
    have hF : Fine (pathsF l) (placeF how 7) := by rw [if_neg (by omega)] at hF; exact hF
    refine way_L (tt := tt) (rs := []) (bs := [false]) (tk := [1, 5]) (bk := [2001]) (C := (tr 3 (True)) ∧ (((((pathsF l).length : Int) == 0) = false) ∧ (True))) (lv := .norm) (T' := [(1, vi how), (5, .own 2001)]) (B' := [(2001, .sl 26 .strs (pathsF l))]) mix hI hs ?_ ?_ ?_ ?_
    · exact trivial
    · kernel_rfl
    · exact ⟨tr_mk (trivial) 3, ⟨b1, trivial⟩⟩
    intro a w hs
    refine then_norm ?_
    refine wp_seq ?_
    refine way_L (tt := tt) (rs := [(4, ⟨[(1, ciA 41 [.row .strs (pathsF l)] [2001] [] (.val (vs (textF (pathsF l)))))], [], []⟩)]) (bs := []) (tk := [1, 5, 6]) (bk := [2001]) (C := (True) ∧ ((okArgs [.row .strs (pathsF l)]) ∧ ((True) ∧ (True)))) (lv := .norm) (T' := [(1, vi how), (5, .own 2001), (6, vs (textF (pathsF l)))]) (B' := [(2001, .sl 26 .strs (pathsF l))]) mix hI hs ?_ ?_ ?_ ?_
    · exact ⟨⟨⟨ent41, con41 _ hF.smalls.1 hF.smalls.2.1⟩, trivial⟩, trivial⟩
    · kernel_rfl
    · exact ⟨trivial, ⟨rfl, ⟨trivial, trivial⟩⟩⟩
    intro a w hs
    refine then_norm ?_
    refine wp_seq ?_
    refine way_L (tt := tt) (rs := []) (bs := []) (tk := [1, 5, 6, 7]) (bk := [2001]) (C := (True) ∧ ((True) ∧ (True))) (lv := .norm) (T' := [(1, vi how), (5, .own 2001), (6, vs (textF (pathsF l))), (7, vs (textF (pathsF l)))]) (B' := [(2001, .sl 26 .strs (pathsF l))]) mix hI hs ?_ ?_ ?_ ?_
    · exact trivial
    · kernel_rfl
    · exact ⟨trivial, ⟨trivial, trivial⟩⟩
    intro a w hs
    refine then_norm ?_
    refine wp_seq ?_
    refine wp_seq ?_
    refine way_L (tt := tt) (rs := []) (bs := []) (tk := [1, 5, 6, 7, 8]) (bk := [2001]) (C := (True) ∧ (True)) (lv := .norm) (T' := [(1, vi how), (5, .own 2001), (6, vs (textF (pathsF l))), (7, vs (textF (pathsF l))), (8, vi 0)]) (B' := [(2001, .sl 26 .strs (pathsF l))]) mix hI hs ?_ ?_ ?_ ?_
    · exact trivial
    · kernel_rfl
    · exact ⟨trivial, trivial⟩
    intro a w hs
    refine then_norm ?_
    refine wp_block ?_
    refine loop_L (N := Tryz.f8.ntmps) (w0 := w0) (ow := noO fz) (α := Nat) (fun p => [(1, vi how), (5, .own 2001), (6, vs (textF (pathsF l))), (7, vs (manyF (textF (pathsF l)) p)), (8, vi ((p : Nat) : Int))]) (fun p => [(2001, .sl 26 .strs (pathsF l))]) (fun p => p ≤ 60) (fun p => 60 - p) 0 ?_ ?_ ?_
    · exact Nat.zero_le _
    · exact (SimL.cast hs (T' := [(1, vi how), (5, .own 2001), (6, vs (textF (pathsF l))), (7, vs (manyF (textF (pathsF l)) 0)), (8, vi ((0 : Nat) : Int))]) (B' := [(2001, .sl 26 .strs (pathsF l))]) (by rfl) rfl).ren [(2001, 2001)] (by kernel_rfl) (by kernel_rfl) (by kernel_rfl)
    rintro i hJ a w hs
    have hms := manyF_size (textF (pathsF l)) i
    have hsz := hF.size
    rcases Bool.eq_false_or_eq_true (decide (((i : Nat) : Int) < 60)) with b14 | b14
    · skip
      have n14 := of_decide_eq_true b14
      refine way_L (tt := tt) (rs := []) (bs := [true]) (tk := [1, 5, 6, 7, 8]) (bk := [2001]) (C := (((True) ∧ ((True) ∧ (True))) ∧ (((decide (((i : Nat) : Int) < 60)) = true) ∧ (True))) ∧ (((True) ∧ (((((manyF (textF (pathsF l)) i).size + 2 : Nat) : Int) ≤ IntKind.i64.max) ∧ ((True) ∧ (True)))) ∧ ((True) ∧ ((InR .i64 (((i : Nat) : Int) + 1)) ∧ ((True) ∧ (True)))))) (lv := .norm) (T' := [(1, vi how), (5, .own 2001), (6, vs (textF (pathsF l))), (7, vs ((manyF (textF (pathsF l)) i) ++ (ba [44, 97]))), (8, vi (((i : Nat) : Int) + 1))]) (B' := [(2001, .sl 26 .strs (pathsF l))]) mix hI hs ?_ ?_ ?_ ?_
      · exact trivial
      · kernel_rfl
      · exact ⟨⟨⟨trivial, ⟨trivial, trivial⟩⟩, ⟨b14, trivial⟩⟩, ⟨⟨trivial, ⟨(by show _ ≤ (9223372036854775807 : Int); have hsz := hF.size; have hla : (ba [44, 97]).size = 2 := rfl; omega), ⟨trivial, trivial⟩⟩⟩, ⟨trivial, ⟨(inR64 (by omega) (by omega)), ⟨trivial, trivial⟩⟩⟩⟩⟩
      intro a w hs
      refine then_norm ⟨i + 1, by omega, by omega, ?_⟩
      (have e1_ : (((i : Nat) : Int) + 1) = ((((i + 1) : Nat) : Int)) := (by first | rfl | (omega)); exact (SimL.cast hs (T' := [(1, vi how), (5, .own 2001), (6, vs (textF (pathsF l))), (7, vs (manyF (textF (pathsF l)) (i + 1))), (8, vi (((i + 1) : Nat) : Int))]) (B' := [(2001, .sl 26 .strs (pathsF l))]) (by first | rfl | (rw [e1_]; done) | (simp only [e1_]; done) | (simp only [e1_]; rfl)) (by first | rfl | (rw [e1_]; done) | (simp only [e1_]; done) | (simp only [e1_]; rfl))).ren [(2001, 2001)] (by kernel_rfl) (by kernel_rfl) (by kernel_rfl))
    · skip
      have n14 := of_decide_eq_false b14
      have hi60 : i = 60 := by omega
      refine way_L (tt := tt) (rs := []) (bs := [false]) (tk := [1, 5, 6, 7]) (bk := [2001]) (C := ((True) ∧ ((True) ∧ (True))) ∧ (((decide (((i : Nat) : Int) < 60)) = false) ∧ (True))) (lv := .exit 0) (T' := [(1, vi how), (5, .own 2001), (6, vs (textF (pathsF l))), (7, vs (manyF (textF (pathsF l)) i))]) (B' := [(2001, .sl 26 .strs (pathsF l))]) mix hI hs ?_ ?_ ?_ ?_
      · exact trivial
      · kernel_rfl
      · exact ⟨⟨trivial, ⟨trivial, trivial⟩⟩, ⟨b14, trivial⟩⟩
      intro a w hs
      refine then_exit ?_
      refine inb_hit ?_
      refine then_norm ?_
      rcases Bool.eq_false_or_eq_true ((placeF how 7) == 6) with b15 | b15
      · skip
        have n15 := eq_of_beq b15
        have b16 : ((textF (pathsF l)).toList == (ba []).toList) = false := by exact hF.some
        have b17 : (((parseF (([(ba [44]) ++ (textF (pathsF l)), (textF (pathsF l)) ++ (ba [44]), (textF (pathsF l)) ++ (ba [46]), (ba [46]) ++ (textF (pathsF l)), (textF (pathsF l)) ++ (ba [44, 49, 97]), (textF (pathsF l)) ++ (ba [32]), manyF (textF (pathsF l)) i] : List ByteArray).getD ((placeF how 7).toNat * 1) ⟨#[]⟩)).2) == 4) = true := by rw [wr_at _ _ hi60]; have h := hF.none2; rw [if_pos (by assumption)] at h; exact beq_iff_eq.2 h
        have b18 : ((((parseF (([(ba [44]) ++ (textF (pathsF l)), (textF (pathsF l)) ++ (ba [44]), (textF (pathsF l)) ++ (ba [46]), (ba [46]) ++ (textF (pathsF l)), (textF (pathsF l)) ++ (ba [44, 49, 97]), (textF (pathsF l)) ++ (ba [32]), manyF (textF (pathsF l)) i] : List ByteArray).getD ((placeF how 7).toNat * 1) ⟨#[]⟩)).1).length : Int) == 0) = true := by rw [wr_at _ _ hi60]; exact beq_iff_eq.2 hF.none1
        have b19 : (((parseF (textF (pathsF l))).2) == 0) = true := by rw [hF.back]; rfl
        have b20 : (sameP ((parseF (textF (pathsF l))).1) (pathsF l)) = true := by rw [hF.back]; exact sameP_self _
        refine way_L (tt := tt) (rs := [(10, ⟨[(15, ciA 17 [vi how, vi 7] [] [] (.val (vi (placeF how 7))))], [], []⟩), (12, ⟨[(1, ciA 17 [vi how, vi 7] [] [] (.val (vi (placeF how 7))))], [], []⟩), (14, ⟨[(1, ciA 31 [vs (([(ba [44]) ++ (textF (pathsF l)), (textF (pathsF l)) ++ (ba [44]), (textF (pathsF l)) ++ (ba [46]), (ba [46]) ++ (textF (pathsF l)), (textF (pathsF l)) ++ (ba [44, 49, 97]), (textF (pathsF l)) ++ (ba [32]), manyF (textF (pathsF l)) i] : List ByteArray).getD ((placeF how 7).toNat * 1) ⟨#[]⟩)] [] [] (.val (.tup [.row .strs ((parseF (([(ba [44]) ++ (textF (pathsF l)), (textF (pathsF l)) ++ (ba [44]), (textF (pathsF l)) ++ (ba [46]), (ba [46]) ++ (textF (pathsF l)), (textF (pathsF l)) ++ (ba [44, 49, 97]), (textF (pathsF l)) ++ (ba [32]), manyF (textF (pathsF l)) i] : List ByteArray).getD ((placeF how 7).toNat * 1) ⟨#[]⟩)).1), vi ((parseF (([(ba [44]) ++ (textF (pathsF l)), (textF (pathsF l)) ++ (ba [44]), (textF (pathsF l)) ++ (ba [46]), (ba [46]) ++ (textF (pathsF l)), (textF (pathsF l)) ++ (ba [44, 49, 97]), (textF (pathsF l)) ++ (ba [32]), manyF (textF (pathsF l)) i] : List ByteArray).getD ((placeF how 7).toNat * 1) ⟨#[]⟩)).2)])))], [], []⟩), (15, ⟨[(1, ciA 31 [vs (textF (pathsF l))] [] [] (.val (.tup [.row .strs ((parseF (textF (pathsF l))).1), vi ((parseF (textF (pathsF l))).2)])))], [], []⟩), (16, ⟨[(19, ciA 35 [.row .strs ((parseF (textF (pathsF l))).1), .row .strs (pathsF l)] [2001] [] (.val (vb (sameP ((parseF (textF (pathsF l))).1) (pathsF l))))), (23, ciA 44 [.agg [vi 1, vb false, vb false, nilv, vi 0, vs (ba []), nilv, nilv]] [] [] (.val (vb true))), (26, ciA 23 [] [] [] (.val (vb true)))], [(3, true), (4, true), (5, true), (1006, true), (8, true), (9, true), (10, true), (1011, true), (13, true), (14, true), (1015, true), (17, true), (18, true), (19, true), (1020, true), (22, true), (23, true), (1024, true), (26, true), (1027, true)], []⟩)]) (bs := [true]) (tk := [4]) (bk := []) (C := ((True) ∧ ((((1 + (textF (pathsF l)).size : Nat) : Int) ≤ IntKind.i64.max) ∧ ((True) ∧ (((((textF (pathsF l)).size + 1 : Nat) : Int) ≤ IntKind.i64.max) ∧ ((True) ∧ (((((textF (pathsF l)).size + 1 : Nat) : Int) ≤ IntKind.i64.max) ∧ ((True) ∧ ((((1 + (textF (pathsF l)).size : Nat) : Int) ≤ IntKind.i64.max) ∧ ((True) ∧ (((((textF (pathsF l)).size + 3 : Nat) : Int) ≤ IntKind.i64.max) ∧ ((True) ∧ (((((textF (pathsF l)).size + 1 : Nat) : Int) ≤ IntKind.i64.max) ∧ (tr 3 ((okArgs [vi how, vi 7]) ∧ (((0 ≤ (placeF how 7) ∧ (placeF how 7) < (7 : Nat)) ∧ (placeF how 7).toNat * 1 < 7) ∧ ((True) ∧ (True))))))))))))))))) ∧ (((True) ∧ (True)) ∧ ((((True) ∧ ((okArgs [vi how, vi 7]) ∧ ((True) ∧ (True)))) ∧ ((((placeF how 7) == 6) = true) ∧ ((True) ∧ (True)))) ∧ (((True) ∧ ((okArgs [vs (([(ba [44]) ++ (textF (pathsF l)), (textF (pathsF l)) ++ (ba [44]), (textF (pathsF l)) ++ (ba [46]), (ba [46]) ++ (textF (pathsF l)), (textF (pathsF l)) ++ (ba [44, 49, 97]), (textF (pathsF l)) ++ (ba [32]), manyF (textF (pathsF l)) i] : List ByteArray).getD ((placeF how 7).toNat * 1) ⟨#[]⟩)]) ∧ (tr 5 (True)))) ∧ (((True) ∧ ((okArgs [vs (textF (pathsF l))]) ∧ (tr 5 (True)))) ∧ ((tr 3 (((!((textF (pathsF l)).toList == (ba []).toList)) = true) ∧ ((True) ∧ (((!((textF (pathsF l)).toList == (ba []).toList)) = true) ∧ ((True) ∧ (((!((textF (pathsF l)).toList == (ba []).toList)) = true) ∧ ((True) ∧ (((!((textF (pathsF l)).toList == (ba []).toList)) = true) ∧ ((True) ∧ (((((parseF (([(ba [44]) ++ (textF (pathsF l)), (textF (pathsF l)) ++ (ba [44]), (textF (pathsF l)) ++ (ba [46]), (ba [46]) ++ (textF (pathsF l)), (textF (pathsF l)) ++ (ba [44, 49, 97]), (textF (pathsF l)) ++ (ba [32]), manyF (textF (pathsF l)) i] : List ByteArray).getD ((placeF how 7).toNat * 1) ⟨#[]⟩)).2) == 4) = true) ∧ ((True) ∧ (((((parseF (([(ba [44]) ++ (textF (pathsF l)), (textF (pathsF l)) ++ (ba [44]), (textF (pathsF l)) ++ (ba [46]), (ba [46]) ++ (textF (pathsF l)), (textF (pathsF l)) ++ (ba [44, 49, 97]), (textF (pathsF l)) ++ (ba [32]), manyF (textF (pathsF l)) i] : List ByteArray).getD ((placeF how 7).toNat * 1) ⟨#[]⟩)).2) == 4) = true) ∧ ((True) ∧ (((((parseF (([(ba [44]) ++ (textF (pathsF l)), (textF (pathsF l)) ++ (ba [44]), (textF (pathsF l)) ++ (ba [46]), (ba [46]) ++ (textF (pathsF l)), (textF (pathsF l)) ++ (ba [44, 49, 97]), (textF (pathsF l)) ++ (ba [32]), manyF (textF (pathsF l)) i] : List ByteArray).getD ((placeF how 7).toNat * 1) ⟨#[]⟩)).2) == 4) = true) ∧ ((True) ∧ (((((parseF (([(ba [44]) ++ (textF (pathsF l)), (textF (pathsF l)) ++ (ba [44]), (textF (pathsF l)) ++ (ba [46]), (ba [46]) ++ (textF (pathsF l)), (textF (pathsF l)) ++ (ba [44, 49, 97]), (textF (pathsF l)) ++ (ba [32]), manyF (textF (pathsF l)) i] : List ByteArray).getD ((placeF how 7).toNat * 1) ⟨#[]⟩)).2) == 4) = true) ∧ ((True) ∧ ((((((parseF (([(ba [44]) ++ (textF (pathsF l)), (textF (pathsF l)) ++ (ba [44]), (textF (pathsF l)) ++ (ba [46]), (ba [46]) ++ (textF (pathsF l)), (textF (pathsF l)) ++ (ba [44, 49, 97]), (textF (pathsF l)) ++ (ba [32]), manyF (textF (pathsF l)) i] : List ByteArray).getD ((placeF how 7).toNat * 1) ⟨#[]⟩)).1).length : Int) == 0) = true) ∧ ((True) ∧ ((((((parseF (([(ba [44]) ++ (textF (pathsF l)), (textF (pathsF l)) ++ (ba [44]), (textF (pathsF l)) ++ (ba [46]), (ba [46]) ++ (textF (pathsF l)), (textF (pathsF l)) ++ (ba [44, 49, 97]), (textF (pathsF l)) ++ (ba [32]), manyF (textF (pathsF l)) i] : List ByteArray).getD ((placeF how 7).toNat * 1) ⟨#[]⟩)).1).length : Int) == 0) = true) ∧ ((True) ∧ ((((((parseF (([(ba [44]) ++ (textF (pathsF l)), (textF (pathsF l)) ++ (ba [44]), (textF (pathsF l)) ++ (ba [46]), (ba [46]) ++ (textF (pathsF l)), (textF (pathsF l)) ++ (ba [44, 49, 97]), (textF (pathsF l)) ++ (ba [32]), manyF (textF (pathsF l)) i] : List ByteArray).getD ((placeF how 7).toNat * 1) ⟨#[]⟩)).1).length : Int) == 0) = true) ∧ ((True) ∧ (((((parseF (textF (pathsF l))).2) == 0) = true) ∧ ((True) ∧ (((((parseF (textF (pathsF l))).2) == 0) = true) ∧ ((True) ∧ (((((parseF (textF (pathsF l))).2) == 0) = true) ∧ ((okArgs [.row .strs ((parseF (textF (pathsF l))).1), .row .strs (pathsF l)]) ∧ (((((parseF (textF (pathsF l))).2) == 0) = true) ∧ ((True) ∧ (((sameP ((parseF (textF (pathsF l))).1) (pathsF l)) = true) ∧ ((True) ∧ (((sameP ((parseF (textF (pathsF l))).1) (pathsF l)) = true) ∧ ((okArgs [.agg [vi 1, vb false, vb false, nilv, vi 0, vs (ba []), nilv, nilv]]) ∧ (((sameP ((parseF (textF (pathsF l))).1) (pathsF l)) = true) ∧ ((True) ∧ ((true = true) ∧ ((okArgs []) ∧ ((true = true) ∧ ((True) ∧ (True)))))))))))))))))))))))))))))))))))))))))) ∧ (True))))))) (lv := .ret) (T' := [(4, vb true)]) (B' := []) mix hI hs ?_ ?_ ?_ ?_
        · exact ⟨⟨⟨ent17, con17 _ _ (by decide) (by decide)⟩, trivial⟩, ⟨⟨⟨ent17, con17 _ _ (by decide) (by decide)⟩, trivial⟩, ⟨⟨⟨ent31, con31 _ (by rw [wr_at _ _ hi60]; exact wrongs_size hF.size _ (by have := placeF_in how 7 (by decide); omega))⟩, trivial⟩, ⟨⟨⟨ent31, con31 _ (by have := hF.size; omega)⟩, trivial⟩, ⟨⟨⟨ent35, con35 _ _ (by rw [hF.back]; exact Nat.lt_trans hF.smalls.2.1 (by decide)) (by rw [hF.back]; exact hF.smalls.2.2)⟩, ⟨⟨ent44, c44_0⟩, ⟨⟨ent23, c23_0⟩, trivial⟩⟩⟩, trivial⟩⟩⟩⟩⟩
        · kernel_rfl
        · exact ⟨⟨trivial, ⟨(by show _ ≤ (9223372036854775807 : Int); have hsz := hF.size; have hla : (ba [44, 97]).size = 2 := rfl; omega), ⟨trivial, ⟨(by show _ ≤ (9223372036854775807 : Int); have hsz := hF.size; have hla : (ba [44, 97]).size = 2 := rfl; omega), ⟨trivial, ⟨(by show _ ≤ (9223372036854775807 : Int); have hsz := hF.size; have hla : (ba [44, 97]).size = 2 := rfl; omega), ⟨trivial, ⟨(by show _ ≤ (9223372036854775807 : Int); have hsz := hF.size; have hla : (ba [44, 97]).size = 2 := rfl; omega), ⟨trivial, ⟨(by show _ ≤ (9223372036854775807 : Int); have hsz := hF.size; have hla : (ba [44, 97]).size = 2 := rfl; omega), ⟨trivial, ⟨(by show _ ≤ (9223372036854775807 : Int); have hsz := hF.size; have hla : (ba [44, 97]).size = 2 := rfl; omega), tr_mk (⟨rfl, ⟨⟨⟨by omega, by omega⟩, by omega⟩, ⟨trivial, trivial⟩⟩⟩) 3⟩⟩⟩⟩⟩⟩⟩⟩⟩⟩⟩⟩, ⟨⟨trivial, trivial⟩, ⟨⟨⟨trivial, ⟨rfl, ⟨trivial, trivial⟩⟩⟩, ⟨b15, ⟨trivial, trivial⟩⟩⟩, ⟨⟨trivial, ⟨rfl, tr_mk (trivial) 5⟩⟩, ⟨⟨trivial, ⟨rfl, tr_mk (trivial) 5⟩⟩, ⟨tr_mk (⟨(by rw [b16]; rfl), ⟨trivial, ⟨(by rw [b16]; rfl), ⟨trivial, ⟨(by rw [b16]; rfl), ⟨trivial, ⟨(by rw [b16]; rfl), ⟨trivial, ⟨b17, ⟨trivial, ⟨b17, ⟨trivial, ⟨b17, ⟨trivial, ⟨b17, ⟨trivial, ⟨b18, ⟨trivial, ⟨b18, ⟨trivial, ⟨b18, ⟨trivial, ⟨b19, ⟨trivial, ⟨b19, ⟨trivial, ⟨b19, ⟨rfl, ⟨b19, ⟨trivial, ⟨b20, ⟨trivial, ⟨b20, ⟨rfl, ⟨b20, ⟨trivial, ⟨rfl, ⟨rfl, ⟨rfl, ⟨trivial, trivial⟩⟩⟩⟩⟩⟩⟩⟩⟩⟩⟩⟩⟩⟩⟩⟩⟩⟩⟩⟩⟩⟩⟩⟩⟩⟩⟩⟩⟩⟩⟩⟩⟩⟩⟩⟩⟩⟩⟩⟩) 3, trivial⟩⟩⟩⟩⟩⟩
        intro a w hs
        exact FnQ_cast (out := .val (vb true)) (rfl) (ret_ok [] hs ⟨by kernel_rfl, rfl⟩)
      · skip
        have n15 := beq_eq_false_iff_ne.1 b15
        have b21 : ((textF (pathsF l)).toList == (ba []).toList) = false := by exact hF.some
        have b22 : (((parseF (([(ba [44]) ++ (textF (pathsF l)), (textF (pathsF l)) ++ (ba [44]), (textF (pathsF l)) ++ (ba [46]), (ba [46]) ++ (textF (pathsF l)), (textF (pathsF l)) ++ (ba [44, 49, 97]), (textF (pathsF l)) ++ (ba [32]), manyF (textF (pathsF l)) i] : List ByteArray).getD ((placeF how 7).toNat * 1) ⟨#[]⟩)).2) == 2) = true := by rw [wr_at _ _ hi60]; have h := hF.none2; rw [if_neg (by assumption)] at h; exact beq_iff_eq.2 h
        have b23 : ((((parseF (([(ba [44]) ++ (textF (pathsF l)), (textF (pathsF l)) ++ (ba [44]), (textF (pathsF l)) ++ (ba [46]), (ba [46]) ++ (textF (pathsF l)), (textF (pathsF l)) ++ (ba [44, 49, 97]), (textF (pathsF l)) ++ (ba [32]), manyF (textF (pathsF l)) i] : List ByteArray).getD ((placeF how 7).toNat * 1) ⟨#[]⟩)).1).length : Int) == 0) = true := by rw [wr_at _ _ hi60]; exact beq_iff_eq.2 hF.none1
        have b24 : (((parseF (textF (pathsF l))).2) == 0) = true := by rw [hF.back]; rfl
        have b25 : (sameP ((parseF (textF (pathsF l))).1) (pathsF l)) = true := by rw [hF.back]; exact sameP_self _
        refine way_L (tt := tt) (rs := [(10, ⟨[(15, ciA 17 [vi how, vi 7] [] [] (.val (vi (placeF how 7))))], [], []⟩), (12, ⟨[(1, ciA 17 [vi how, vi 7] [] [] (.val (vi (placeF how 7))))], [], []⟩), (14, ⟨[(1, ciA 31 [vs (([(ba [44]) ++ (textF (pathsF l)), (textF (pathsF l)) ++ (ba [44]), (textF (pathsF l)) ++ (ba [46]), (ba [46]) ++ (textF (pathsF l)), (textF (pathsF l)) ++ (ba [44, 49, 97]), (textF (pathsF l)) ++ (ba [32]), manyF (textF (pathsF l)) i] : List ByteArray).getD ((placeF how 7).toNat * 1) ⟨#[]⟩)] [] [] (.val (.tup [.row .strs ((parseF (([(ba [44]) ++ (textF (pathsF l)), (textF (pathsF l)) ++ (ba [44]), (textF (pathsF l)) ++ (ba [46]), (ba [46]) ++ (textF (pathsF l)), (textF (pathsF l)) ++ (ba [44, 49, 97]), (textF (pathsF l)) ++ (ba [32]), manyF (textF (pathsF l)) i] : List ByteArray).getD ((placeF how 7).toNat * 1) ⟨#[]⟩)).1), vi ((parseF (([(ba [44]) ++ (textF (pathsF l)), (textF (pathsF l)) ++ (ba [44]), (textF (pathsF l)) ++ (ba [46]), (ba [46]) ++ (textF (pathsF l)), (textF (pathsF l)) ++ (ba [44, 49, 97]), (textF (pathsF l)) ++ (ba [32]), manyF (textF (pathsF l)) i] : List ByteArray).getD ((placeF how 7).toNat * 1) ⟨#[]⟩)).2)])))], [], []⟩), (15, ⟨[(1, ciA 31 [vs (textF (pathsF l))] [] [] (.val (.tup [.row .strs ((parseF (textF (pathsF l))).1), vi ((parseF (textF (pathsF l))).2)])))], [], []⟩), (16, ⟨[(19, ciA 35 [.row .strs ((parseF (textF (pathsF l))).1), .row .strs (pathsF l)] [2001] [] (.val (vb (sameP ((parseF (textF (pathsF l))).1) (pathsF l))))), (23, ciA 44 [.agg [vi 1, vb false, vb false, nilv, vi 0, vs (ba []), nilv, nilv]] [] [] (.val (vb true))), (26, ciA 23 [] [] [] (.val (vb true)))], [(3, true), (4, true), (5, true), (1006, true), (8, true), (9, true), (10, true), (1011, true), (13, true), (14, true), (1015, true), (17, true), (18, true), (19, true), (1020, true), (22, true), (23, true), (1024, true), (26, true), (1027, true)], []⟩)]) (bs := [false]) (tk := [4]) (bk := []) (C := ((True) ∧ ((((1 + (textF (pathsF l)).size : Nat) : Int) ≤ IntKind.i64.max) ∧ ((True) ∧ (((((textF (pathsF l)).size + 1 : Nat) : Int) ≤ IntKind.i64.max) ∧ ((True) ∧ (((((textF (pathsF l)).size + 1 : Nat) : Int) ≤ IntKind.i64.max) ∧ ((True) ∧ ((((1 + (textF (pathsF l)).size : Nat) : Int) ≤ IntKind.i64.max) ∧ ((True) ∧ (((((textF (pathsF l)).size + 3 : Nat) : Int) ≤ IntKind.i64.max) ∧ ((True) ∧ (((((textF (pathsF l)).size + 1 : Nat) : Int) ≤ IntKind.i64.max) ∧ (tr 3 ((okArgs [vi how, vi 7]) ∧ (((0 ≤ (placeF how 7) ∧ (placeF how 7) < (7 : Nat)) ∧ (placeF how 7).toNat * 1 < 7) ∧ ((True) ∧ (True))))))))))))))))) ∧ (((True) ∧ (True)) ∧ ((((True) ∧ ((okArgs [vi how, vi 7]) ∧ ((True) ∧ (True)))) ∧ ((((placeF how 7) == 6) = false) ∧ (True))) ∧ (((True) ∧ ((okArgs [vs (([(ba [44]) ++ (textF (pathsF l)), (textF (pathsF l)) ++ (ba [44]), (textF (pathsF l)) ++ (ba [46]), (ba [46]) ++ (textF (pathsF l)), (textF (pathsF l)) ++ (ba [44, 49, 97]), (textF (pathsF l)) ++ (ba [32]), manyF (textF (pathsF l)) i] : List ByteArray).getD ((placeF how 7).toNat * 1) ⟨#[]⟩)]) ∧ (tr 5 (True)))) ∧ (((True) ∧ ((okArgs [vs (textF (pathsF l))]) ∧ (tr 5 (True)))) ∧ ((tr 3 (((!((textF (pathsF l)).toList == (ba []).toList)) = true) ∧ ((True) ∧ (((!((textF (pathsF l)).toList == (ba []).toList)) = true) ∧ ((True) ∧ (((!((textF (pathsF l)).toList == (ba []).toList)) = true) ∧ ((True) ∧ (((!((textF (pathsF l)).toList == (ba []).toList)) = true) ∧ ((True) ∧ (((((parseF (([(ba [44]) ++ (textF (pathsF l)), (textF (pathsF l)) ++ (ba [44]), (textF (pathsF l)) ++ (ba [46]), (ba [46]) ++ (textF (pathsF l)), (textF (pathsF l)) ++ (ba [44, 49, 97]), (textF (pathsF l)) ++ (ba [32]), manyF (textF (pathsF l)) i] : List ByteArray).getD ((placeF how 7).toNat * 1) ⟨#[]⟩)).2) == 2) = true) ∧ ((True) ∧ (((((parseF (([(ba [44]) ++ (textF (pathsF l)), (textF (pathsF l)) ++ (ba [44]), (textF (pathsF l)) ++ (ba [46]), (ba [46]) ++ (textF (pathsF l)), (textF (pathsF l)) ++ (ba [44, 49, 97]), (textF (pathsF l)) ++ (ba [32]), manyF (textF (pathsF l)) i] : List ByteArray).getD ((placeF how 7).toNat * 1) ⟨#[]⟩)).2) == 2) = true) ∧ ((True) ∧ (((((parseF (([(ba [44]) ++ (textF (pathsF l)), (textF (pathsF l)) ++ (ba [44]), (textF (pathsF l)) ++ (ba [46]), (ba [46]) ++ (textF (pathsF l)), (textF (pathsF l)) ++ (ba [44, 49, 97]), (textF (pathsF l)) ++ (ba [32]), manyF (textF (pathsF l)) i] : List ByteArray).getD ((placeF how 7).toNat * 1) ⟨#[]⟩)).2) == 2) = true) ∧ ((True) ∧ (((((parseF (([(ba [44]) ++ (textF (pathsF l)), (textF (pathsF l)) ++ (ba [44]), (textF (pathsF l)) ++ (ba [46]), (ba [46]) ++ (textF (pathsF l)), (textF (pathsF l)) ++ (ba [44, 49, 97]), (textF (pathsF l)) ++ (ba [32]), manyF (textF (pathsF l)) i] : List ByteArray).getD ((placeF how 7).toNat * 1) ⟨#[]⟩)).2) == 2) = true) ∧ ((True) ∧ ((((((parseF (([(ba [44]) ++ (textF (pathsF l)), (textF (pathsF l)) ++ (ba [44]), (textF (pathsF l)) ++ (ba [46]), (ba [46]) ++ (textF (pathsF l)), (textF (pathsF l)) ++ (ba [44, 49, 97]), (textF (pathsF l)) ++ (ba [32]), manyF (textF (pathsF l)) i] : List ByteArray).getD ((placeF how 7).toNat * 1) ⟨#[]⟩)).1).length : Int) == 0) = true) ∧ ((True) ∧ ((((((parseF (([(ba [44]) ++ (textF (pathsF l)), (textF (pathsF l)) ++ (ba [44]), (textF (pathsF l)) ++ (ba [46]), (ba [46]) ++ (textF (pathsF l)), (textF (pathsF l)) ++ (ba [44, 49, 97]), (textF (pathsF l)) ++ (ba [32]), manyF (textF (pathsF l)) i] : List ByteArray).getD ((placeF how 7).toNat * 1) ⟨#[]⟩)).1).length : Int) == 0) = true) ∧ ((True) ∧ ((((((parseF (([(ba [44]) ++ (textF (pathsF l)), (textF (pathsF l)) ++ (ba [44]), (textF (pathsF l)) ++ (ba [46]), (ba [46]) ++ (textF (pathsF l)), (textF (pathsF l)) ++ (ba [44, 49, 97]), (textF (pathsF l)) ++ (ba [32]), manyF (textF (pathsF l)) i] : List ByteArray).getD ((placeF how 7).toNat * 1) ⟨#[]⟩)).1).length : Int) == 0) = true) ∧ ((True) ∧ (((((parseF (textF (pathsF l))).2) == 0) = true) ∧ ((True) ∧ (((((parseF (textF (pathsF l))).2) == 0) = true) ∧ ((True) ∧ (((((parseF (textF (pathsF l))).2) == 0) = true) ∧ ((okArgs [.row .strs ((parseF (textF (pathsF l))).1), .row .strs (pathsF l)]) ∧ (((((parseF (textF (pathsF l))).2) == 0) = true) ∧ ((True) ∧ (((sameP ((parseF (textF (pathsF l))).1) (pathsF l)) = true) ∧ ((True) ∧ (((sameP ((parseF (textF (pathsF l))).1) (pathsF l)) = true) ∧ ((okArgs [.agg [vi 1, vb false, vb false, nilv, vi 0, vs (ba []), nilv, nilv]]) ∧ (((sameP ((parseF (textF (pathsF l))).1) (pathsF l)) = true) ∧ ((True) ∧ ((true = true) ∧ ((okArgs []) ∧ ((true = true) ∧ ((True) ∧ (True)))))))))))))))))))))))))))))))))))))))))) ∧ (True))))))) (lv := .ret) (T' := [(4, vb true)]) (B' := []) mix hI hs ?_ ?_ ?_ ?_
        · exact ⟨⟨⟨ent17, con17 _ _ (by decide) (by decide)⟩, trivial⟩, ⟨⟨⟨ent17, con17 _ _ (by decide) (by decide)⟩, trivial⟩, ⟨⟨⟨ent31, con31 _ (by rw [wr_at _ _ hi60]; exact wrongs_size hF.size _ (by have := placeF_in how 7 (by decide); omega))⟩, trivial⟩, ⟨⟨⟨ent31, con31 _ (by have := hF.size; omega)⟩, trivial⟩, ⟨⟨⟨ent35, con35 _ _ (by rw [hF.back]; exact Nat.lt_trans hF.smalls.2.1 (by decide)) (by rw [hF.back]; exact hF.smalls.2.2)⟩, ⟨⟨ent44, c44_0⟩, ⟨⟨ent23, c23_0⟩, trivial⟩⟩⟩, trivial⟩⟩⟩⟩⟩
        · kernel_rfl
        · exact ⟨⟨trivial, ⟨(by show _ ≤ (9223372036854775807 : Int); have hsz := hF.size; have hla : (ba [44, 97]).size = 2 := rfl; omega), ⟨trivial, ⟨(by show _ ≤ (9223372036854775807 : Int); have hsz := hF.size; have hla : (ba [44, 97]).size = 2 := rfl; omega), ⟨trivial, ⟨(by show _ ≤ (9223372036854775807 : Int); have hsz := hF.size; have hla : (ba [44, 97]).size = 2 := rfl; omega), ⟨trivial, ⟨(by show _ ≤ (9223372036854775807 : Int); have hsz := hF.size; have hla : (ba [44, 97]).size = 2 := rfl; omega), ⟨trivial, ⟨(by show _ ≤ (9223372036854775807 : Int); have hsz := hF.size; have hla : (ba [44, 97]).size = 2 := rfl; omega), ⟨trivial, ⟨(by show _ ≤ (9223372036854775807 : Int); have hsz := hF.size; have hla : (ba [44, 97]).size = 2 := rfl; omega), tr_mk (⟨rfl, ⟨⟨⟨by omega, by omega⟩, by omega⟩, ⟨trivial, trivial⟩⟩⟩) 3⟩⟩⟩⟩⟩⟩⟩⟩⟩⟩⟩⟩, ⟨⟨trivial, trivial⟩, ⟨⟨⟨trivial, ⟨rfl, ⟨trivial, trivial⟩⟩⟩, ⟨b15, trivial⟩⟩, ⟨⟨trivial, ⟨rfl, tr_mk (trivial) 5⟩⟩, ⟨⟨trivial, ⟨rfl, tr_mk (trivial) 5⟩⟩, ⟨tr_mk (⟨(by rw [b21]; rfl), ⟨trivial, ⟨(by rw [b21]; rfl), ⟨trivial, ⟨(by rw [b21]; rfl), ⟨trivial, ⟨(by rw [b21]; rfl), ⟨trivial, ⟨b22, ⟨trivial, ⟨b22, ⟨trivial, ⟨b22, ⟨trivial, ⟨b22, ⟨trivial, ⟨b23, ⟨trivial, ⟨b23, ⟨trivial, ⟨b23, ⟨trivial, ⟨b24, ⟨trivial, ⟨b24, ⟨trivial, ⟨b24, ⟨rfl, ⟨b24, ⟨trivial, ⟨b25, ⟨trivial, ⟨b25, ⟨rfl, ⟨b25, ⟨trivial, ⟨rfl, ⟨rfl, ⟨rfl, ⟨trivial, trivial⟩⟩⟩⟩⟩⟩⟩⟩⟩⟩⟩⟩⟩⟩⟩⟩⟩⟩⟩⟩⟩⟩⟩⟩⟩⟩⟩⟩⟩⟩⟩⟩⟩⟩⟩⟩⟩⟩⟩⟩) 3, trivial⟩⟩⟩⟩⟩⟩
        intro a w hs
        exact FnQ_cast (out := .val (vb true)) (rfl) (ret_ok [] hs ⟨by kernel_rfl, rfl⟩)

end Go.Proofs.YtondpnipoogoiaaGreatDoor.F
/- Texts of paths: the plain law. -/
namespace Go.Proofs.YtondpnipoogoiaaGreatDoor.F
open Go Go.RowKit
set_option linter.unusedVariables false
set_option linter.unusedSimpArgs false
def spl (c : UInt8) : List UInt8 → List (List UInt8)
  | [] => [[]]
  | b :: l => if b = c then [] :: spl c l else match spl c l with
    | [] => [[b]]
    | h :: t => (b :: h) :: t
theorem spl_ne (c : UInt8) : ∀ l, spl c l ≠ []
  | [] => by simp [spl]
  | b :: l => by
    unfold spl
    split
    · simp
    · split <;> simp
theorem spl_eq (c : UInt8) : ∀ (x y : List UInt8), spl c (x ++ c :: y) = spl c x ++ spl c y
  | [], y => by simp [spl]
  | b :: x, y => by
    have ih := spl_eq c x y
    simp only [List.cons_append, spl]
    by_cases h : b = c
    · rw [if_pos h, if_pos h, ih]; rfl
    · rw [if_neg h, if_neg h, ih]
      cases hs : spl c x with
      | nil => exact absurd hs (spl_ne c x)
      | cons p q => rfl
theorem spl_free {c : UInt8} : ∀ {x : List UInt8}, c ∉ x → spl c x = [x]
  | [], _ => rfl
  | b :: x, h => by
    simp only [List.mem_cons, not_or] at h
    simp only [spl]
    rw [if_neg (fun e => h.1 e.symm), spl_free h.2]
/-- What stands at the end stands at the last piece's end. -/
theorem spl_end {c : UInt8} {y : List UInt8} (hy : c ∉ y) : ∀ X : List UInt8, ∃ z, z ++ y ∈ spl c (X ++ y)
  | [] => ⟨[], by simp [spl_free hy]⟩
  | b :: X => by
    obtain ⟨z, hz⟩ := spl_end hy X
    simp only [List.cons_append, spl]
    by_cases h : b = c
    · rw [if_pos h]; exact ⟨z, List.mem_cons_of_mem _ hz⟩
    · rw [if_neg h]
      cases hs : spl c (X ++ y) with
      | nil => exact absurd hs (spl_ne _ _)
      | cons p q =>
        rw [hs] at hz
        rcases List.mem_cons.1 hz with e | hz
        · exact ⟨b :: z, by rw [← e]; simp⟩
        · exact ⟨z, List.mem_cons_of_mem _ hz⟩
theorem spl_begin {c b : UInt8} (h : b ≠ c) (X : List UInt8) : ∃ z, b :: z ∈ spl c (b :: X) := by
  simp only [spl]
  rw [if_neg h]
  cases hs : spl c X with
  | nil => exact absurd hs (spl_ne _ _)
  | cons p q => exact ⟨p, List.mem_cons_self ..⟩
def jt (c : UInt8) (r : List (List UInt8)) : List UInt8 := (r.map (c :: ·)).flatten
def jn (c : UInt8) : List (List UInt8) → List UInt8
  | [] => []
  | x :: r => x ++ jt c r
theorem jt_cons (c : UInt8) (y : List UInt8) (r : List (List UInt8)) : jt c (y :: r) = c :: (y ++ jt c r) := by simp [jt]
theorem spl_jt {c : UInt8} : ∀ (r : List (List UInt8)) (x : List UInt8), c ∉ x → (∀ y ∈ r, c ∉ y) → spl c (x ++ jt c r) = x :: r
  | [], x, hx, _ => by simp [jt, spl_free hx]
  | y :: r, x, hx, hr => by
    rw [jt_cons, spl_eq, spl_free hx, spl_jt r y (hr y (List.mem_cons_self ..)) (fun z hz => hr z (List.mem_cons_of_mem _ hz))]; rfl
theorem spl_jn {c : UInt8} {xs : List (List UInt8)} (h0 : xs ≠ []) (h : ∀ x ∈ xs, c ∉ x) : spl c (jn c xs) = xs := by
  cases xs with
  | nil => exact absurd rfl h0
  | cons x r => exact spl_jt r x (h x (List.mem_cons_self ..)) (fun y hy => h y (List.mem_cons_of_mem _ hy))
theorem jn_free {c d : UInt8} (hd : d ≠ c) {xs : List (List UInt8)} (h : ∀ x ∈ xs, d ∉ x) : d ∉ jn c xs := by
  have ht : ∀ r : List (List UInt8), (∀ y ∈ r, d ∉ y) → d ∉ jt c r := fun r hr hm => by
    simp only [jt, List.mem_flatten, List.mem_map] at hm
    obtain ⟨l, ⟨y, hy, rfl⟩, hl⟩ := hm
    rcases List.mem_cons.1 hl with e | hl
    · exact hd e
    · exact hr y hy hl
  cases xs with
  | nil => simp [jn]
  | cons x r =>
    simp only [jn, List.mem_append, not_or]
    exact ⟨h x (List.mem_cons_self ..), ht r (fun y hy => h y (List.mem_cons_of_mem _ hy))⟩
/-! ### the program's words -/
theorem ba_data (l : List UInt8) : (ba l).data.toList = l := by simp [ba]
theorem ba_of (s : ByteArray) : ba s.data.toList = s := by simp [ba]
theorem ba_size (l : List UInt8) : (ba l).size = l.length := by rw [Lib.size_eq, ba_data]
theorem idx_hit (c : UInt8) (l : List UInt8) : Lib.index (c :: l) [c] = 0 := by rw [Lib.index]; simp [List.isPrefixOf]
theorem idx_ne (b c : UInt8) (l : List UInt8) (h : b ≠ c) : Lib.index (b :: l) [c] = if Lib.index l [c] == -1 then -1 else Lib.index l [c] + 1 := by
  have hp : ([c] : List UInt8).isPrefixOf (b :: l) = false := by simp [List.isPrefixOf, Ne.symm h]
  rw [Lib.index, hp]; simp
theorem splitK_spl (c : UInt8) : ∀ l : List UInt8, Lib.splitK [c] 0 (Lib.count l [c]) l = spl c l
  | [] => by rw [Lib.count_one]; rfl
  | b :: l => by
    have ih := splitK_spl c l
    by_cases h : b = c
    · subst h
      rw [Lib.count_cons_eq, Nat.add_comm, Lib.splitK, idx_hit, if_neg (by decide)]
      simp only [spl, if_pos]
      rw [← ih]; simp
    · rw [Lib.count_cons_ne b c l h]
      simp only [spl]
      rw [if_neg h, ← ih]
      cases hk : Lib.count l [c] with
      | zero => rfl
      | succ k =>
        rw [Lib.splitK, Lib.splitK, idx_ne b c l h]
        have hge := Lib.index_ge l [c]
        by_cases hm : Lib.index l [c] = -1
        · rw [hm]; rfl
        · have hb : (Lib.index l [c] == -1) = false := by simpa using hm
          have hb2 : (Lib.index l [c] + 1 == -1) = false := by simp; omega
          simp only [hb, hb2, Bool.false_eq_true, if_false]
          have e1 : (Lib.index l [c] + 1).toNat = (Lib.index l [c]).toNat + 1 := by omega
          rw [e1]; simp [Nat.add_right_comm]
theorem splitF_spl (c : UInt8) (l : List UInt8) : splitF (ba l) c = (spl c l).map ba := by
  have h1 := Lib.splitB_data (ba [c]) 0 (Lib.countB (ba l) (ba [c])) (ba l)
  have h2 : Lib.countB (ba l) (ba [c]) = Lib.count l [c] := by
    unfold Lib.countB; rw [ba_data, ba_data]
  rw [ba_data, ba_data, h2, splitK_spl] at h1
  rw [← h1, List.map_map]
  unfold splitF
  rw [h2]
  exact (List.map_id _).symm.trans (List.map_congr_left (fun s _ => (ba_of s).symm))
theorem joinF_jn (c : UInt8) (xs : List (List UInt8)) : joinF (xs.map ba) (ba [c]) = ba (jn c xs) := by
  unfold joinF
  rw [List.map_map, ba_data]
  have e : xs.map ((fun s : ByteArray => s.data.toList) ∘ ba) = xs := (List.map_congr_left (fun l _ => ba_data l)).trans (List.map_id _)
  rw [e]
  cases xs with
  | nil => rfl
  | cons x r => rw [Lib.join_cons]; rfl
end Go.Proofs.YtondpnipoogoiaaGreatDoor.F
/- What the law of texts asks. -/
namespace Go.Proofs.YtondpnipoogoiaaGreatDoor.F
open Go Go.RowKit
set_option linter.unusedVariables false
set_option linter.unusedSimpArgs false
theorem byteAt_ba {l : List UInt8} {i : Nat} {b : UInt8} (h : l[i]? = some b) : byteAt (ba l) (i : Int) = (b.toNat : Int) := by
  have e : (ba l).data[i]? = some b := by simp [ba, h]
  simp only [byteAt, Int.toNat_natCast, e, Option.getD_some]
theorem nameF_bad {l : List UInt8} {i : Nat} {b : UInt8} (h : l[i]? = some b) (hb : b = 32 ∨ b = 44 ∨ b = 46) : nameF (ba l) = false := by
  have hi : i < l.length := (List.getElem?_eq_some_iff.1 h).1
  refine nameF_no (i := i) (by rw [ba_size]; exact hi) ?_
  simp only [nameOk, byteAt_ba h]
  rcases hb with rfl | rfl | rfl
  · have e : (decide (bitsOr .u8 ((32 : UInt8).toNat : Int) 32 ≥ 97) && decide (bitsOr .u8 ((32 : UInt8).toNat : Int) 32 ≤ 122) || ((32 : UInt8).toNat : Int) == 95) = false := by kernel_rfl
    have e2 : (!decide (((32 : UInt8).toNat : Int) < 48) && !decide (((32 : UInt8).toNat : Int) > 57)) = false := by kernel_rfl
    rw [e, e2]; simp
  · have e : (decide (bitsOr .u8 ((44 : UInt8).toNat : Int) 32 ≥ 97) && decide (bitsOr .u8 ((44 : UInt8).toNat : Int) 32 ≤ 122) || ((44 : UInt8).toNat : Int) == 95) = false := by kernel_rfl
    have e2 : (!decide (((44 : UInt8).toNat : Int) < 48) && !decide (((44 : UInt8).toNat : Int) > 57)) = false := by kernel_rfl
    rw [e, e2]; simp
  · have e : (decide (bitsOr .u8 ((46 : UInt8).toNat : Int) 32 ≥ 97) && decide (bitsOr .u8 ((46 : UInt8).toNat : Int) 32 ≤ 122) || ((46 : UInt8).toNat : Int) == 95) = false := by kernel_rfl
    have e2 : (!decide (((46 : UInt8).toNat : Int) < 48) && !decide (((46 : UInt8).toNat : Int) > 57)) = false := by kernel_rfl
    rw [e, e2]; simp
theorem name_free {l : List UInt8} (h : nameF (ba l) = true) {c : UInt8} (hc : c = 44 ∨ c = 46) : c ∉ l := fun hm => by
  obtain ⟨i, hi, he⟩ := List.getElem_of_mem hm
  have := nameF_bad (i := i) (b := c) (by rw [List.getElem?_eq_getElem hi, he]) (.inr hc)
  rw [h] at this; cases this
theorem name_nil : nameF (ba []) = false := by kernel_rfl
/-- Bytes of a path's piece. -/
def badL (l : List UInt8) : Bool := (spl 46 l).any fun n => !nameF (ba n)
theorem badPiece_ba (l : List UInt8) : badPiece (ba l) = badL l := by
  unfold badPiece badL
  rw [splitF_spl, List.any_map]; rfl
theorem any_pieces (l : List UInt8) : (splitF (ba l) 44).any badPiece = (spl 44 l).any badL := by
  rw [splitF_spl, List.any_map]
  exact congrArg (fun q => (spl 44 l).any q) (funext fun x => badPiece_ba x)
theorem cutsF_ba (l : List UInt8) : cutsF (ba l) = (spl 44 l).map fun p => (spl 46 p).map ba := by
  unfold cutsF
  rw [splitF_spl, List.map_map]
  exact List.map_congr_left (fun p _ => splitF_spl 46 p)
theorem eq_nil (l : List UInt8) : ((ba l).toList == (ba []).toList) = decide (l = []) := by
  rw [Lib.toList_data, Lib.toList_data, ba_data, ba_data]
  cases l with
  | nil => rfl
  | cons b l => rfl
theorem parse_bad {l : List UInt8} (h0 : l ≠ []) (h : ∃ x ∈ spl 44 l, badL x = true) : parseF (ba l) = ([], 2) := by
  unfold parseF
  rw [eq_nil, any_pieces, if_neg (by simpa using h0), if_pos (List.any_eq_true.2 h)]
theorem badL_of {l n : List UInt8} (hm : n ∈ spl 46 l) (hn : nameF (ba n) = false) : badL l = true := List.any_eq_true.2 ⟨n, hm, by simp [hn]⟩
theorem badL_nil : badL [] = true := badL_of (n := []) (by simp [spl]) name_nil
/-- Paths, as bytes. -/
def unb (p : List (List ByteArray)) : List (List (List UInt8)) := p.map fun q => q.map fun s => s.data.toList
theorem unb_ba (p : List (List ByteArray)) : (unb p).map (fun q => q.map ba) = p := by
  unfold unb
  rw [List.map_map]
  refine (List.map_congr_left (fun q _ => ?_)).trans (List.map_id _)
  simp only [Function.comp_apply, List.map_map]
  exact (List.map_congr_left (fun s _ => ba_of s)).trans (List.map_id _)
def textL (P : List (List (List UInt8))) : List UInt8 := jn 44 (P.map (jn 46))
theorem textF_ba {P : List (List (List UInt8))} (h : checkF (P.map fun q => q.map ba) = true) : textF (P.map fun q => q.map ba) = ba (textL P) := by
  unfold textF textL
  rw [if_pos h, List.map_map, ← joinF_jn, List.map_map]
  congr 1
  exact List.map_congr_left (fun q _ => joinF_jn 46 q)
structure Good (P : List (List (List UInt8))) : Prop where
  ne : P ≠ []
  path : ∀ q ∈ P, q ≠ [] ∧ ∀ n ∈ q, nameF (ba n) = true
theorem good_pieces {P : List (List (List UInt8))} (h : Good P) : (∀ x ∈ P.map (jn 46), (44 : UInt8) ∉ x) ∧ ∀ q ∈ P, spl 46 (jn 46 q) = q := by
  refine ⟨fun x hx => ?_, fun q hq => ?_⟩
  · obtain ⟨q, hq, rfl⟩ := List.mem_map.1 hx
    exact jn_free (by decide) (fun n hn => name_free ((h.path q hq).2 n hn) (.inl rfl))
  · exact spl_jn (h.path q hq).1 (fun n hn => name_free ((h.path q hq).2 n hn) (.inr rfl))
theorem spl_text {P : List (List (List UInt8))} (h : Good P) : spl 44 (textL P) = P.map (jn 46) := spl_jn (by simpa using h.ne) (good_pieces h).1
theorem good_badL {P : List (List (List UInt8))} (h : Good P) {x : List UInt8} (hx : x ∈ P.map (jn 46)) : badL x = false := by
  obtain ⟨q, hq, rfl⟩ := List.mem_map.1 hx
  unfold badL
  rw [(good_pieces h).2 q hq, List.any_eq_false]
  intro n hn
  simp [(h.path q hq).2 n hn]
theorem jn_ne {c : UInt8} {q : List (List UInt8)} (h0 : q ≠ []) (h : ∀ n ∈ q, n ≠ []) : jn c q ≠ [] := by
  cases q with
  | nil => exact absurd rfl h0
  | cons x r =>
    have := h x (List.mem_cons_self ..)
    simp [jn, this]
theorem text_ne {P : List (List (List UInt8))} (h : Good P) : textL P ≠ [] := jn_ne (by simpa using h.ne) (fun x hx => by
  obtain ⟨q, hq, rfl⟩ := List.mem_map.1 hx
  refine jn_ne (h.path q hq).1 (fun n hn e => ?_)
  have := (h.path q hq).2 n hn
  rw [e, name_nil] at this; cases this)
theorem cuts_text {P : List (List (List UInt8))} (h : Good P) : (P.map (jn 46)).map (fun p => (spl 46 p).map ba) = P.map fun q => q.map ba := by
  rw [List.map_map]
  exact List.map_congr_left (fun q hq => by simp only [Function.comp_apply]; rw [(good_pieces h).2 q hq])
theorem parse_text {P : List (List (List UInt8))} (h : Good P) (hc : checkF (P.map fun q => q.map ba) = true) : parseF (ba (textL P)) = (P.map fun q => q.map ba, 0) := by
  have h1 : (spl 44 (textL P)).any badL = false := by
    rw [spl_text h, List.any_eq_false]
    intro x hx
    simp [good_badL h hx]
  have h2 : cutsF (ba (textL P)) = P.map fun q => q.map ba := by rw [cutsF_ba, spl_text h, cuts_text h]
  unfold parseF
  rw [eq_nil, any_pieces, h1, h2, if_neg (by simpa using text_ne h), if_neg (by decide), if_pos hc]
/-- So many more. -/
theorem many_ba (l : List UInt8) : ∀ i, manyF (ba l) i = ba (l ++ jt 44 (List.replicate i [97]))
  | 0 => by simp [manyF, jt]
  | i + 1 => by
    rw [manyF, many_ba l i]
    have e : jt 44 (List.replicate (i + 1) [97]) = jt 44 (List.replicate i [97]) ++ [44, 97] := by
      rw [List.replicate_succ']; simp [jt]
    rw [e]
    show _ = _
    apply ByteArray.ext
    simp [ba, ByteArray.data_append]
theorem ba_app (l m : List UInt8) : ba l ++ ba m = ba (l ++ m) := by
  apply ByteArray.ext
  simp [ba, ByteArray.data_append]
theorem spl_more {P : List (List (List UInt8))} (h : Good P) : ∀ r : List (List UInt8), (∀ y ∈ r, (44 : UInt8) ∉ y) → spl 44 (textL P ++ jt 44 r) = P.map (jn 46) ++ r := by
  intro r
  obtain ⟨q, Q, rfl⟩ : ∃ q Q, P = q :: Q := by
    cases P with
    | nil => exact absurd rfl h.ne
    | cons q Q => exact ⟨q, Q, rfl⟩
  intro hr
  have hg := (good_pieces h).1
  have e : textL (q :: Q) ++ jt 44 r = jn 46 q ++ jt 44 (Q.map (jn 46) ++ r) := by simp [textL, jn, jt]
  rw [e, spl_jt _ _ (hg _ (by simp)) (fun y hy => by
    rcases List.mem_append.1 hy with hy | hy
    · exact hg y (by simp only [List.map_cons]; exact List.mem_cons_of_mem _ hy)
    · exact hr y hy)]
  simp
theorem parse_many {P : List (List (List UInt8))} (h : Good P) : parseF (manyF (ba (textL P)) 60) = ([], 4) := by
  rw [many_ba]
  have hs := spl_more h (List.replicate 60 [97]) (fun y hy => by rw [List.eq_of_mem_replicate hy]; decide)
  have h1 : (spl 44 (textL P ++ jt 44 (List.replicate 60 [97]))).any badL = false := by
    rw [hs, List.any_eq_false]
    intro x hx
    rcases List.mem_append.1 hx with hx | hx
    · simp [good_badL h hx]
    · rw [List.eq_of_mem_replicate hx]
      have : badL [97] = false := by kernel_rfl
      simp [this]
  have h2 : checkF (cutsF (ba (textL P ++ jt 44 (List.replicate 60 [97])))) = false := by
    rw [cutsF_ba, hs]
    have hl : 0 < P.length := List.length_pos_iff.2 h.ne
    unfold checkF
    rw [decide_eq_false (by simp; omega)]; rfl
  unfold parseF
  rw [eq_nil, any_pieces, h1, h2, if_neg (by have := text_ne h; simp [this]), if_neg (by decide), if_neg (by decide)]
theorem parse_wrong {P : List (List (List UInt8))} (h : Good P) : ∀ n, n < 6 → parseF ((wrongs (ba (textL P))).getD n ⟨#[]⟩) = ([], 2)
  | 0, _ => by
    show parseF (ba [44] ++ ba (textL P)) = _
    rw [ba_app]
    exact parse_bad (by simp) ⟨[], by simp [spl], badL_nil⟩
  | 1, _ => by
    show parseF (ba (textL P) ++ ba [44]) = _
    rw [ba_app]
    exact parse_bad (by simp) ⟨[], by rw [spl_eq]; simp [spl], badL_nil⟩
  | 2, _ => by
    show parseF (ba (textL P) ++ ba [46]) = _
    rw [ba_app]
    obtain ⟨z, hz⟩ := spl_end (c := 44) (y := [46]) (by decide) (textL P)
    exact parse_bad (by simp) ⟨_, hz, badL_of (n := []) (by rw [spl_eq]; simp [spl]) name_nil⟩
  | 3, _ => by
    show parseF (ba [46] ++ ba (textL P)) = _
    rw [ba_app]
    obtain ⟨z, hz⟩ := spl_begin (c := 44) (b := 46) (by decide) (textL P)
    exact parse_bad (by simp) ⟨_, hz, badL_of (n := []) (by simp [spl]) name_nil⟩
  | 4, _ => by
    show parseF (ba (textL P) ++ ba [44, 49, 97]) = _
    rw [ba_app]
    refine parse_bad (by simp) ⟨[49, 97], by rw [spl_eq]; simp [spl], by kernel_rfl⟩
  | 5, _ => by
    show parseF (ba (textL P) ++ ba [32]) = _
    rw [ba_app]
    obtain ⟨z, hz⟩ := spl_end (c := 44) (y := [32]) (by decide) (textL P)
    obtain ⟨z', hz'⟩ := spl_end (c := 46) (y := [32]) (by decide) z
    exact parse_bad (by simp) ⟨_, hz, badL_of hz' (nameF_bad (i := z'.length) (b := 32) (by simp) (.inl rfl))⟩
theorem fine_of {p : List (List ByteArray)} (hc : checkF p = true) (h0 : p ≠ []) {n : Int} (hn : 0 ≤ n ∧ n < 7) : Fine p n := by
  have hp := unb_ba p
  obtain ⟨h1, h2⟩ := checkF_in hc
  have hg : Good (unb p) := ⟨fun e => h0 (by rw [← hp, e]; rfl), fun q hq => by
    have hq2 : q.map ba ∈ p := by rw [← hp]; exact List.mem_map.2 ⟨q, hq, rfl⟩
    obtain ⟨_, h4, h5⟩ := h2 _ hq2
    exact ⟨fun e => h4 (by rw [e]; rfl), fun m hm => h5 _ (List.mem_map.2 ⟨m, hm, rfl⟩)⟩⟩
  have hc' : checkF ((unb p).map fun q => q.map ba) = true := by rw [hp]; exact hc
  have ht : textF p = ba (textL (unb p)) := by rw [← textF_ba hc', hp]
  have hsz : (textF p).size ≤ 7563840 := by unfold textF; rw [if_pos hc]; exact text_join hc
  have hsm : ∀ x ∈ p, smalls x := fun x hx => by
    obtain ⟨h3, _, h5⟩ := h2 x hx
    exact ⟨fun y hy => by have := nameF_size (h5 y hy); unfold small; omega, by omega⟩
  refine ⟨⟨hsm, by omega, fun x hx => by have := (h2 x hx).1; omega⟩, hsz, ?_, ?_, ?_, ?_⟩
  · rw [ht, eq_nil]; simpa using text_ne hg
  · rw [ht, parse_text hg hc', hp]
  · rw [ht]
    rcases Int.lt_or_eq_of_le (show n ≤ 6 by omega) with h | rfl
    · rw [parse_wrong hg _ (by omega)]; rfl
    · show ((parseF (manyF (ba (textL (unb p))) 60)).1.length : Int) = 0
      rw [parse_many hg]; rfl
  · rw [ht]
    rcases Int.lt_or_eq_of_le (show n ≤ 6 by omega) with h | rfl
    · rw [parse_wrong hg _ (by omega), if_neg (by omega)]
    · show (parseF (manyF (ba (textL (unb p))) 60)).2 = _
      rw [parse_many hg]; rfl
theorem nmF_ok {n : Int} (h : 0 ≤ n ∧ n < 4) : nameF (nmF n) = true := by
  have : n = 0 ∨ n = 1 ∨ n = 2 ∨ n = 3 := by omega
  have e0 : nameF (nmF 0) = true := by kernel_rfl
  have e1 : nameF (nmF 1) = true := by kernel_rfl
  have e2 : nameF (nmF 2) = true := by kernel_rfl
  have e3 : nameF (nmF 3) = true := by kernel_rfl
  rcases this with rfl | rfl | rfl | rfl <;> assumption
theorem path_ok {v : Int} (h : 0 ≤ v) : badPath (pathF v) = false := by
  have hk := kF_in h
  have hl : (pathF v).length ≤ 3 := by unfold pathF; rw [steps_len]; omega
  have hn : ∀ s ∈ pathF v, nameF s = true := fun s hs => by
    simp only [pathF, stepsF, List.mem_cons, List.mem_map, List.mem_range] at hs
    rcases hs with rfl | ⟨m, hm, rfl⟩
    · exact nmF_ok (tm4 h)
    · exact nmF_ok (ix4 h (by omega))
  have h1 : 0 < (pathF v).length := by unfold pathF; rw [steps_len]; omega
  unfold badPath
  have e1 : (((pathF v).length : Int) == 0) = false := by simp; intro e; rw [e] at h1; simp at h1
  have e2 : ((pathF v).any fun n => !nameF n) = false := by
    rw [List.any_eq_false]; intro s hs; simp [hn s hs]
  rw [e1, e2, decide_eq_false (by omega)]; rfl
theorem paths_ok (l : List Int) : checkF (pathsF l) = true := by
  have h1 : (pathsF l).length ≤ 12 := by unfold pathsF; rw [List.length_map, List.length_take]; omega
  have h2 : (pathsF l).any badPath = false := by
    rw [List.any_eq_false]
    intro p hp
    obtain ⟨x, _, rfl⟩ := List.mem_map.1 hp
    have := path_ok (placeF_in x 1048576 (by decide)).1
    unfold pthF; simp [this]
  unfold checkF
  rw [h2, decide_eq_true (by omega)]; rfl
theorem fine_law (l : List Int) (how : Int) : Fine (if (pathsF l).length = 0 then [[ba [97]]] else pathsF l) (placeF how 7) := by
  split
  · exact fine_of (by kernel_rfl) (by simp) (placeF_in how 7 (by decide))
  · rename_i h
    exact fine_of (paths_ok l) (fun e => h (by rw [e]; rfl)) (placeF_in how 7 (by decide))
theorem law_MaskTexts (l : List Int) (how : Int) : Con Tryz.prog I0 8 [.row (.int .i64) l, vi how] (.val (vb true)) := con8 l how (fine_law l how)
end Go.Proofs.YtondpnipoogoiaaGreatDoor.F
/- The row and the card of MaskTexts. -/
namespace Go.Proofs.YtondpnipoogoiaaGreatDoor.X
open Go.ChangeShapes Go.WideShapes Go.ChangeAt Go.RowKit
set_option maxRecDepth 100000 in
theorem contractMaskTexts (H : Type) (enc : TypeId × Value → H) (W : World) (base : Nat) (args : Array Value) (ds gs : List (DataW H)) (before : List MemPlace)
    (hval : ∀ (j : Nat) t v, Tryz.f8.params[j]? = some t → args[j]? = some v → Value.okWide Tryz.prog W .any base t v)
    (hW : DataW.Whole enc Tryz.prog Tryz.f8.params.toList Rows.maskTextsSpec.vars false W args.toList ds gs before) (hL : laidMetH Tryz.prog Rows.maskTextsRow.laid W) (hS : W.ShapedOpen Tryz.prog) :
    Calls Tryz.prog 8 args W fun e W' => ∃ v, e = .returned v ∧ Rows.maskTextsSpec.post enc Tryz.prog Tryz.f8 false true false false W args v W' := by
  have hW' := hW
  obtain ⟨p, q, hA0, hV, rfl, hfz, hnd⟩ := hW
  have hA : DataW.TrodAll enc Tryz.prog W 0 (fun _ => true) true Tryz.f8.params.toList args.toList ds p := hA0
  rw [Tryz.params8] at hA hval
  obtain ⟨v0, vs0, d0, ds0, p0, q0, hargs, rfl, rfl, h0, r0⟩ := trodAll_cons hA
  obtain ⟨v1, vs1, d1, ds1, p1, q1, rfl, rfl, rfl, h1, r1⟩ := trodAll_cons r0
  obtain ⟨rfl, rfl, rfl⟩ := trodAll_nil r1
  obtain rfl : args = #[v0, v1] := by cases args; simp_all
  obtain ⟨rfl, rfl⟩ := trodVars_none hV
  have k0 := h0
  have lt0 : ∀ x ∈ p0, x.block < W.heap.size := by obtain ⟨m, hm⟩ := k0; exact DataW.trod_lt m _ _ _ hm
  obtain ⟨a0, y0⟩ := open_rowI (hval 0 22 v0 rfl rfl) h0
  obtain ⟨a1, rfl, rfl, rfl, w1⟩ := open_int Tryz.underlying3 (hval 1 3 v1 rfl rfl) h1
  clear hA0
  have hv1 : Go.Proofs.YtondpnipoogoiaaGreatDoor.F.RL W (fun k => k < W.heap.size) Go.Proofs.YtondpnipoogoiaaGreatDoor.F.noη #[v0, .int .i64 a1] [.row (.int .i64) a0, .lit (.int .i64 a1)] := rl_maskTexts y0
  refine (Go.Proofs.YtondpnipoogoiaaGreatDoor.F.law_MaskTexts a0 a1 W _ _ (laid_of hL hS) (fun k h => h) hv1).mono fun e W' hp => ?_
  obtain ⟨⟨v, rfl, hR⟩, bel⟩ := hp
  obtain rfl := hR.lit_inv
  exact ⟨_, rfl, _, _, _, [], _, [], hW', trodAll_mk1 (shut_bool Tryz.underlying4 _), (trodAll_cons_mk (Below.trod laidOut (by kernel_rfl) (of_decide_eq_true (by kernel_rfl)) k0 bel lt0) (trodAll_cons_mk (shut_int Tryz.underlying3 w1) trodAll_mk0)), rfl, bel.frame _, fun h => by cases h⟩
theorem readsMaskTexts (os : Os) {H : Type} (enc : TypeId × Value → H) : ∃ places, DataW.whole enc Tryz.prog ((laidWorld os).forCall (fun _ _ => 0) ⟨#[], #[.slice none 0 0, .int .i64 0], []⟩).memory Tryz.f8.params.toList Rows.maskTextsSpec.vars false #[Value.slice none 0 0, Value.int .i64 0].toList 8 = some ([.nil, .lit (.int .i64 0)], [], places) :=
  ⟨[], by kernel_rfl⟩
set_option maxRecDepth 100000 in
theorem metMaskTexts (os : Os) : laidMet Tryz.prog Rows.maskTextsRow.laid ((laidWorld os).forCall (fun _ _ => 0) ⟨#[], #[.slice none 0 0, .int .i64 0], []⟩).memory :=
  laidMet_of_run' 8 (by kernel_rfl) (by kernel_rfl)
set_option maxRecDepth 100000 in
theorem liftedMaskTexts (os : Os) (started : os.Started) (H : Type) (enc : TypeId × Value → H) (F : Stop.Interp) :
    ReturnsInHanded {} Tryz.checked os 8 .any ((OpenSpec.ofChange Rows.maskTextsSpec).preRow enc Tryz.prog Tryz.f8 Rows.maskTextsRow.domain false Rows.maskTextsRow.laid) (((OpenSpec.ofChange Rows.maskTextsSpec).at F).post enc Tryz.prog Tryz.f8 false true false false) := by
  obtain ⟨places, hx⟩ := readsMaskTexts os enc
  refine returnsInHanded_of_row (C := Tryz.checked) (s := OpenSpec.ofChange Rows.maskTextsSpec) own started (by kernel_rfl) Tryz.func8
    (witness_row_at (enc := enc) (C := Tryz.checked) false (laidWorld os) #[.slice none 0 0, .int .i64 0] rfl (by kernel_rfl) (by kernel_rfl) (by kernel_rfl)
      (OpenSpec.preRow_of_cond 8 hx (by kernel_rfl) (fun k hk => by cases hk) (by kernel_rfl) (metMaskTexts os))) ?_
  intro W base args ds gs before hval hW _ _ _ hL hS _
  exact contractMaskTexts H enc W base args ds gs before hval hW hL hS
theorem saidMaskTexts : Rows.MaskTextsSaid :=
  OpenClaim.holds_of_cond 8 Tryz.f8 rfl rfl rfl rfl rfl rfl rfl ⟨rfl, rfl, rfl, rfl, rfl⟩ rfl rfl rfl rfl rfl (by kernel_rfl) Tryz.func8 (by kernel_rfl)
    (of_decide_eq_true (by kernel_rfl)) (by unfold Func.isWrapper; first | (rw [if_pos (by decide +kernel)]; kernel_rfl) | (rw [if_neg (by decide +kernel)]; exact ⟨rfl, rfl⟩))
    (fun os started H enc _ F => by rw [OpenClaim.pre_eq_preRow]; exact liftedMaskTexts os started H enc F)
theorem plainMaskTexts (f : FuncId) (fn : Func) (hf : Tryz.pinned.checked.prog.funcNamed "erratum/erratumlaw17.MaskTexts" = some f) (hfn : Tryz.pinned.checked.prog.funcs[f]? = some fn) :
    true = Tryz.pinned.checked.prog.looks [] ∧ ∀ (j : Nat) t, fn.params[j]? = some t → Tryz.pinned.checked.prog.wantsStandIn t = false := by
  obtain rfl : f = 8 := Option.some.inj ((show Tryz.prog.funcNamed "erratum/erratumlaw17.MaskTexts" = some 8 by kernel_rfl).symm.trans hf) |>.symm
  obtain rfl : fn = Tryz.f8 := (Option.some.inj (Tryz.func8.symm.trans hfn)).symm
  refine ⟨by kernel_rfl, fun j t ht => ?_⟩
  rw [Tryz.params8] at ht
  have hm : t = 22 ∨ t = 3 := by simpa using Array.mem_of_getElem? ht
  rcases hm with rfl | rfl
  · exact (show Tryz.prog.wantsStandIn 22 = false by kernel_rfl)
  · exact (show Tryz.prog.wantsStandIn 3 = false by kernel_rfl)
theorem cardMaskTexts : Rows.MaskTextsCardSaid :=
  Claim7.holds_tied_plain_at .later [] _ _ _ _ saidMaskTexts (fun _ h => by cases h) (by kernel_rfl) (fun _ h => by cases h) maskTexts_row_tie rfl ⟨rfl, rfl⟩ (by kernel_rfl) rfl plainMaskTexts (by kernel_rfl)
end Go.Proofs.YtondpnipoogoiaaGreatDoor.X
