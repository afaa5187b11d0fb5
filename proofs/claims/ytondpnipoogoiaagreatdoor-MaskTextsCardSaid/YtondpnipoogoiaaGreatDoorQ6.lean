import Derived.Test.YtondpnipoogoiaaGreatDoorQ5
namespace Go.Proofs.YtondpnipoogoiaaGreatDoor.F
open Go Go.RowKit Go.Proofs.Tryz
set_option linter.unusedVariables false
set_option linter.unusedSimpArgs false

def vF (l : List Int) (i : Nat) : Int := placeF (l.getD i (dflt (.int .i64))) 1048576
theorem vF_in (l : List Int) (i : Nat) : 0 ≤ vF l i ∧ vF l i < 1048576 := placeF_in _ _ (by decide)
def nmF (n : Int) : ByteArray := ([(ba [97]), (ba [98]), (ba [99]), (ba [100, 100])] : List ByteArray).getD (0 + n.toNat * 1) ⟨#[]⟩
def kF (v : Int) : Int := (v.tdiv 4).tmod 3
def stepsF (v : Int) (j : Nat) : List ByteArray := nmF (v.tmod 4) :: (List.range j).map fun m => nmF ((v.tdiv (12 * (kF v - ((m : Nat) : Int)))).tmod 4)
theorem steps_succ (v : Int) (j : Nat) : stepsF v j ++ [nmF ((v.tdiv (12 * (kF v - ((j : Nat) : Int)))).tmod 4)] = stepsF v (j + 1) := by simp [stepsF, List.range_succ]
theorem steps_len (v : Int) (j : Nat) : (stepsF v j).length = j + 1 := by simp [stepsF]
def pathF (v : Int) : List ByteArray := stepsF v (kF v).toNat
def pthF (x : Int) : List ByteArray := pathF (placeF x 1048576)
def pathsF (l : List Int) : List (List ByteArray) := (l.take 12).map pthF
theorem tm4 {a : Int} (h : 0 ≤ a) : 0 ≤ a.tmod 4 ∧ a.tmod 4 < 4 := by rw [Int.tmod_eq_emod_of_nonneg h]; omega
theorem kF_in {v : Int} (h : 0 ≤ v) : 0 ≤ kF v ∧ kF v ≤ 2 := by
  unfold kF
  rw [Int.tdiv_eq_ediv_of_nonneg h, Int.tmod_eq_emod_of_nonneg (by omega)]; omega
theorem td_in {v b : Int} (h : 0 ≤ v) (hb : 0 < b) : 0 ≤ v.tdiv b ∧ v.tdiv b ≤ v := ⟨Int.tdiv_nonneg h (by omega), Int.tdiv_le_self _ h⟩
theorem td4 {v : Int} (h : 0 ≤ v) (h2 : v < 1048576) : InR .i64 (v.tdiv 4) := by
  have := td_in h (b := 4) (by decide)
  exact inR64 (by omega) (by omega)
theorem qr {v k : Int} (h : 0 ≤ v) (h2 : v < 1048576) (hk : k > 0) : 12 * k ≠ 0 ∧ InR .i64 (v.tdiv (12 * k)) := by
  have := td_in h (b := 12 * k) (by omega)
  exact ⟨by omega, inR64 (by omega) (by omega)⟩
theorem ix4 {v k : Int} (h : 0 ≤ v) (hk : k > 0) : 0 ≤ (v.tdiv (12 * k)).tmod 4 ∧ (v.tdiv (12 * k)).tmod 4 < 4 := tm4 (td_in h (b := 12 * k) (by omega)).1
theorem nat4 {a : Int} (h : 0 ≤ a ∧ a < 4) : 0 + a.toNat * 1 < 4 := by omega

set_option maxRecDepth 100000 in
theorem con25 (l : List Int) : Con Tryz.prog I0 25 [.row (.int .i64) l] (.own 26 .strs (pathsF l)) := by
  refine con_of Tryz.func25 rfl (Nat.le_of_ble_eq_true rfl) stab (fun w0 fz a hI hs => ?_)
  refine wp_seq ?_
  refine way_L (tt := tt) (rs := []) (bs := []) (tk := [0]) (bk := []) (C := (True) ∧ (True)) (lv := .norm) (T' := [(0, .row (.int .i64) l)]) (B' := []) mix hI hs ?_ ?_ ?_ ?_
  · exact trivial
  · kernel_rfl
  · exact ⟨trivial, trivial⟩
  intro a w hs
  refine then_norm ?_
  refine wp_seq ?_
  refine way_L (tt := tt) (rs := []) (bs := []) (tk := [0, 3]) (bk := [2001]) (C := tr 3 (True)) (lv := .norm) (T' := [(0, .row (.int .i64) l), (3, .ptr 2001 0)]) (B' := [(2001, .var [vs (ba [97]), vs (ba [98]), vs (ba [99]), vs (ba [100, 100])])]) mix hI hs ?_ ?_ ?_ ?_
  · exact trivial
  · kernel_rfl
  · exact tr_mk (trivial) 3
  intro a w hs
  refine then_norm ?_
  refine wp_seq ?_
  refine way_L (tt := tt) (rs := []) (bs := []) (tk := [0, 3, 4]) (bk := [2001]) (C := (True) ∧ (True)) (lv := .norm) (T' := [(0, .row (.int .i64) l), (3, .ptr 2001 0), (4, nilv)]) (B' := [(2001, .var [vs (ba [97]), vs (ba [98]), vs (ba [99]), vs (ba [100, 100])])]) mix hI hs ?_ ?_ ?_ ?_
  · exact trivial
  · kernel_rfl
  · exact ⟨trivial, trivial⟩
  intro a w hs
  refine then_norm ?_
  refine wp_seq ?_
  refine wp_seq ?_
  refine way_L (tt := tt) (rs := []) (bs := []) (tk := [0, 3, 4, 5]) (bk := [2001]) (C := (True) ∧ (True)) (lv := .norm) (T' := [(0, .row (.int .i64) l), (3, .ptr 2001 0), (4, nilv), (5, vi 0)]) (B' := [(2001, .var [vs (ba [97]), vs (ba [98]), vs (ba [99]), vs (ba [100, 100])])]) mix hI hs ?_ ?_ ?_ ?_
  · exact trivial
  · kernel_rfl
  · exact ⟨trivial, trivial⟩
  intro a w hs
  refine then_norm ?_
  refine wp_block ?_
  refine loop_L (N := Tryz.f25.ntmps) (w0 := w0) (ow := noO fz) (α := Nat) (fun p => [(0, .row (.int .i64) l), (3, .ptr 2001 0), (4, .own 90000001), (5, vi ((p : Nat) : Int))]) (fun p => [(2001, .var [vs (ba [97]), vs (ba [98]), vs (ba [99]), vs (ba [100, 100])]), (90000001, .sl 26 .strs ((l.take p).map pthF))]) (fun p => p ≤ l.length ∧ p ≤ 12) (fun p => l.length - p) 0 ?_ ?_ ?_
  · exact ⟨Nat.zero_le _, Nat.zero_le _⟩
  · (have hs := (hs.nil 10000003 4 26 .strs (by kernel_rfl) (by decide) (by kernel_rfl) (by kernel_rfl)).ren (T' := [(0, .row (.int .i64) l), (3, .ptr 2001 0), (4, .own 10000003), (5, vi 0)]) (B' := [(2001, .var [vs (ba [97]), vs (ba [98]), vs (ba [99]), vs (ba [100, 100])]), (10000003, .sl 26 .strs ([]))]) [(2001, 2001), (10000003, 10000003)] (by kernel_rfl) (by kernel_rfl) (by kernel_rfl); exact (SimL.cast hs (T' := [(0, .row (.int .i64) l), (3, .ptr 2001 0), (4, .own 10000003), (5, vi ((0 : Nat) : Int))]) (B' := [(2001, .var [vs (ba [97]), vs (ba [98]), vs (ba [99]), vs (ba [100, 100])]), (10000003, .sl 26 .strs ((l.take 0).map pthF))]) (by rfl) rfl).ren [(2001, 2001), (90000001, 10000003)] (by kernel_rfl) (by kernel_rfl) (by kernel_rfl))
  rintro i hJ a w hs
  obtain ⟨hi, hi12⟩ := hJ
  have hv := vF_in l i
  have hk := kF_in hv.1
  have hl2 := take_map_len (f := pthF) hi
  refine wp_seq ?_
  rcases Bool.eq_false_or_eq_true (decide (((i : Nat) : Int) < (l.length : Int))) with b1 | b1
  · skip
    have n1 := of_decide_eq_true b1
    rcases Bool.eq_false_or_eq_true (decide (((i : Nat) : Int) < 12)) with b2 | b2
    · skip
      have n2 := of_decide_eq_true b2
      refine way_L (tt := tt) (rs := [(4, ⟨[], [(5, true), (6, true), (1007, true)], []⟩)]) (bs := [true]) (tk := [0, 3, 4, 5]) (bk := [2001, 90000001]) (C := (tr 5 (((decide (((i : Nat) : Int) < (l.length : Int))) = true) ∧ ((True) ∧ (((decide (((i : Nat) : Int) < (l.length : Int))) = true) ∧ ((True) ∧ (((decide (((i : Nat) : Int) < (l.length : Int))) = true) ∧ (True))))))) ∧ (((decide (((i : Nat) : Int) < 12)) = true) ∧ (True))) (lv := .norm) (T' := [(0, .row (.int .i64) l), (3, .ptr 2001 0), (4, .own 90000001), (5, vi ((i : Nat) : Int))]) (B' := [(2001, .var [vs (ba [97]), vs (ba [98]), vs (ba [99]), vs (ba [100, 100])]), (90000001, .sl 26 .strs ((l.take i).map pthF))]) mix hI hs ?_ ?_ ?_ ?_
      · exact ⟨trivial, trivial⟩
      · kernel_rfl
      · exact ⟨tr_mk (⟨b1, ⟨trivial, ⟨b1, ⟨trivial, ⟨b1, trivial⟩⟩⟩⟩⟩) 5, ⟨b2, trivial⟩⟩
      intro a w hs
      refine then_norm ?_
      refine wp_seq ?_
      refine wp_block ?_
      refine wp_seq ?_
      refine way_L (tt := tt) (rs := [(6, ⟨[(4, ciA 17 [vi (l.getD i (dflt (.int .i64))), vi 1048576] [] [] (.val (vi (vF l i))))], [], []⟩)]) (bs := []) (tk := [0, 3, 4, 5, 6]) (bk := [2001, 90000001]) (C := (True) ∧ ((True) ∧ ((0 ≤ ((i : Nat) : Int) ∧ ((i : Nat) : Int) < l.length) ∧ ((True) ∧ ((okArgs [vi (l.getD i (dflt (.int .i64))), vi 1048576]) ∧ ((True) ∧ (True))))))) (lv := .norm) (T' := [(0, .row (.int .i64) l), (3, .ptr 2001 0), (4, .own 90000001), (5, vi ((i : Nat) : Int)), (6, vi (vF l i))]) (B' := [(2001, .var [vs (ba [97]), vs (ba [98]), vs (ba [99]), vs (ba [100, 100])]), (90000001, .sl 26 .strs ((l.take i).map pthF))]) mix hI hs ?_ ?_ ?_ ?_
      · exact ⟨⟨⟨ent17, con17 _ _ (by decide) (by decide)⟩, trivial⟩, trivial⟩
      · kernel_rfl
      · exact ⟨trivial, ⟨trivial, ⟨⟨by omega, by omega⟩, ⟨trivial, ⟨rfl, ⟨trivial, trivial⟩⟩⟩⟩⟩⟩
      intro a w hs
      refine then_norm ?_
      refine wp_seq ?_
      refine way_L (tt := tt) (rs := []) (bs := []) (tk := [0, 3, 4, 5, 6, 7]) (bk := [2001, 8004, 90000001]) (C := (True) ∧ (((4 : Int) ≠ 0) ∧ ((0 ≤ (vF l i).tmod 4 ∧ (vF l i).tmod 4 < (4 : Nat)) ∧ ((0 + ((vF l i).tmod 4).toNat * 1 < 4) ∧ ((True) ∧ ((True) ∧ (True))))))) (lv := .norm) (T' := [(0, .row (.int .i64) l), (3, .ptr 2001 0), (4, .own 90000001), (5, vi ((i : Nat) : Int)), (6, vi (vF l i)), (7, .own 8004)]) (B' := [(2001, .var [vs (ba [97]), vs (ba [98]), vs (ba [99]), vs (ba [100, 100])]), (8004, .sl 9 .str ([([(ba [97]), (ba [98]), (ba [99]), (ba [100, 100])] : List ByteArray).getD (0 + ((vF l i).tmod 4).toNat * 1) ⟨#[]⟩])), (90000001, .sl 26 .strs ((l.take i).map pthF))]) mix hI hs ?_ ?_ ?_ ?_
      · exact trivial
      · kernel_rfl
      · exact ⟨trivial, ⟨(by decide), ⟨(by exact tm4 hv.1), ⟨(by exact nat4 (tm4 hv.1)), ⟨trivial, ⟨trivial, trivial⟩⟩⟩⟩⟩⟩
      intro a w hs
      refine then_norm ?_
      refine wp_seq ?_
      refine wp_seq ?_
      refine way_L (tt := tt) (rs := []) (bs := []) (tk := [0, 3, 4, 5, 6, 7, 8]) (bk := [2001, 8004, 90000001]) (C := (True) ∧ (((4 : Int) ≠ 0 ∧ InR .i64 ((vF l i).tdiv 4)) ∧ (((3 : Int) ≠ 0) ∧ ((True) ∧ (True))))) (lv := .norm) (T' := [(0, .row (.int .i64) l), (3, .ptr 2001 0), (4, .own 90000001), (5, vi ((i : Nat) : Int)), (6, vi (vF l i)), (7, .own 8004), (8, vi (((vF l i).tdiv 4).tmod 3))]) (B' := [(2001, .var [vs (ba [97]), vs (ba [98]), vs (ba [99]), vs (ba [100, 100])]), (8004, .sl 9 .str ([([(ba [97]), (ba [98]), (ba [99]), (ba [100, 100])] : List ByteArray).getD (0 + ((vF l i).tmod 4).toNat * 1) ⟨#[]⟩])), (90000001, .sl 26 .strs ((l.take i).map pthF))]) mix hI hs ?_ ?_ ?_ ?_
      · exact trivial
      · kernel_rfl
      · exact ⟨trivial, ⟨(by exact ⟨by decide, td4 hv.1 hv.2⟩), ⟨(by decide), ⟨trivial, trivial⟩⟩⟩⟩
      intro a w hs
      refine then_norm ?_
      refine wp_block ?_
      refine loop_L (N := Tryz.f25.ntmps) (w0 := w0) (ow := noO fz) (α := Nat) (fun p => [(0, .row (.int .i64) l), (3, .ptr 2001 0), (4, .own 90000001), (5, vi ((i : Nat) : Int)), (6, vi (vF l i)), (7, .own 90000002), (8, vi (kF (vF l i) - ((p : Nat) : Int)))]) (fun p => [(2001, .var [vs (ba [97]), vs (ba [98]), vs (ba [99]), vs (ba [100, 100])]), (90000001, .sl 26 .strs ((l.take i).map pthF)), (90000002, .sl 9 .str (stepsF (vF l i) p))]) (fun p => ((p : Nat) : Int) ≤ kF (vF l i)) (fun p => (kF (vF l i)).toNat - p) 0 ?_ ?_ ?_
      · exact hk.1
      · (have e0_ : (((vF l i).tdiv 4).tmod 3) = (kF (vF l i) - ((0 : Nat) : Int)) := (by first | rfl | (simp [kF])); exact (SimL.cast hs (T' := [(0, .row (.int .i64) l), (3, .ptr 2001 0), (4, .own 90000001), (5, vi ((i : Nat) : Int)), (6, vi (vF l i)), (7, .own 8004), (8, vi (kF (vF l i) - ((0 : Nat) : Int)))]) (B' := [(2001, .var [vs (ba [97]), vs (ba [98]), vs (ba [99]), vs (ba [100, 100])]), (8004, .sl 9 .str (stepsF (vF l i) 0)), (90000001, .sl 26 .strs ((l.take i).map pthF))]) (by first | rfl | (rw [e0_]; done) | (simp only [e0_]; done) | (simp only [e0_]; rfl)) (by first | rfl | (rw [e0_]; done) | (simp only [e0_]; done) | (simp only [e0_]; rfl))).ren [(2001, 2001), (90000001, 90000001), (90000002, 8004)] (by kernel_rfl) (by kernel_rfl) (by kernel_rfl))
      rintro j hJ a w hs
      have hsl := steps_len (vF l i) j
      rcases Bool.eq_false_or_eq_true (decide ((kF (vF l i) - ((j : Nat) : Int)) > 0)) with b3 | b3
      · skip
        have n3 := of_decide_eq_true b3
        refine way_L (tt := tt) (rs := []) (bs := [true]) (tk := [0, 3, 4, 5, 6, 7, 8]) (bk := [2001, 12009, 90000001]) (C := (((True) ∧ ((True) ∧ (True))) ∧ (((decide ((kF (vF l i) - ((j : Nat) : Int)) > 0)) = true) ∧ (True))) ∧ ((tr 3 ((InR .i64 (12 * (kF (vF l i) - ((j : Nat) : Int)))) ∧ ((12 * (kF (vF l i) - ((j : Nat) : Int)) ≠ 0 ∧ InR .i64 ((vF l i).tdiv (12 * (kF (vF l i) - ((j : Nat) : Int))))) ∧ (((4 : Int) ≠ 0) ∧ ((0 ≤ ((vF l i).tdiv (12 * (kF (vF l i) - ((j : Nat) : Int)))).tmod 4 ∧ ((vF l i).tdiv (12 * (kF (vF l i) - ((j : Nat) : Int)))).tmod 4 < (4 : Nat)) ∧ ((0 + (((vF l i).tdiv (12 * (kF (vF l i) - ((j : Nat) : Int)))).tmod 4).toNat * 1 < 4) ∧ ((True) ∧ (((((stepsF (vF l i) j).length + 1) * 16 : Nat) ≤ 140737488355328 ∧ (stepsF (vF l i) j).length + 1 ≤ 140737488355328) ∧ ((True) ∧ (True)))))))))) ∧ ((True) ∧ ((InR .i64 ((kF (vF l i) - ((j : Nat) : Int)) - 1)) ∧ ((True) ∧ (True)))))) (lv := .norm) (T' := [(0, .row (.int .i64) l), (3, .ptr 2001 0), (4, .own 90000001), (5, vi ((i : Nat) : Int)), (6, vi (vF l i)), (7, .own 12009), (8, vi ((kF (vF l i) - ((j : Nat) : Int)) - 1))]) (B' := [(2001, .var [vs (ba [97]), vs (ba [98]), vs (ba [99]), vs (ba [100, 100])]), (12009, .sl 9 .str ((stepsF (vF l i) j) ++ ([([(ba [97]), (ba [98]), (ba [99]), (ba [100, 100])] : List ByteArray).getD (0 + (((vF l i).tdiv (12 * (kF (vF l i) - ((j : Nat) : Int)))).tmod 4).toNat * 1) ⟨#[]⟩]))), (90000001, .sl 26 .strs ((l.take i).map pthF))]) mix hI hs ?_ ?_ ?_ ?_
        · exact trivial
        · kernel_rfl
        · exact ⟨⟨⟨trivial, ⟨trivial, trivial⟩⟩, ⟨b3, trivial⟩⟩, ⟨tr_mk (⟨(inR64 (by omega) (by omega)), ⟨(by exact qr hv.1 hv.2 (by omega)), ⟨(by decide), ⟨(by exact ix4 hv.1 (by omega)), ⟨(by exact nat4 (ix4 hv.1 (by omega))), ⟨trivial, ⟨⟨by omega, by omega⟩, ⟨trivial, trivial⟩⟩⟩⟩⟩⟩⟩⟩) 3, ⟨trivial, ⟨(inR64 (by omega) (by omega)), ⟨trivial, trivial⟩⟩⟩⟩⟩
        intro a w hs
        refine then_norm ⟨j + 1, by omega, by omega, ?_⟩
        (have e0_ : ((kF (vF l i) - ((j : Nat) : Int)) - 1) = (kF (vF l i) - (((j + 1) : Nat) : Int)) := (by first | rfl | (omega)); have e1_ : ((stepsF (vF l i) j) ++ ([([(ba [97]), (ba [98]), (ba [99]), (ba [100, 100])] : List ByteArray).getD (0 + (((vF l i).tdiv (12 * (kF (vF l i) - ((j : Nat) : Int)))).tmod 4).toNat * 1) ⟨#[]⟩])) = (stepsF (vF l i) (j + 1)) := (by first | rfl | (exact steps_succ _ _)); exact (SimL.cast hs (T' := [(0, .row (.int .i64) l), (3, .ptr 2001 0), (4, .own 90000001), (5, vi ((i : Nat) : Int)), (6, vi (vF l i)), (7, .own 12009), (8, vi (kF (vF l i) - (((j + 1) : Nat) : Int)))]) (B' := [(2001, .var [vs (ba [97]), vs (ba [98]), vs (ba [99]), vs (ba [100, 100])]), (12009, .sl 9 .str (stepsF (vF l i) (j + 1))), (90000001, .sl 26 .strs ((l.take i).map pthF))]) (by first | rfl | (rw [e0_, e1_]; done) | (simp only [e0_, e1_]; done) | (simp only [e0_, e1_]; rfl)) (by first | rfl | (rw [e0_, e1_]; done) | (simp only [e0_, e1_]; done) | (simp only [e0_, e1_]; rfl))).ren [(2001, 2001), (90000001, 90000001), (90000002, 12009)] (by kernel_rfl) (by kernel_rfl) (by kernel_rfl))
      · skip
        have n3 := of_decide_eq_false b3
        refine way_L (tt := tt) (rs := []) (bs := [false]) (tk := [0, 3, 4, 5, 7]) (bk := [2001, 90000001, 90000002]) (C := ((True) ∧ ((True) ∧ (True))) ∧ (((decide ((kF (vF l i) - ((j : Nat) : Int)) > 0)) = false) ∧ (True))) (lv := .exit 2) (T' := [(0, .row (.int .i64) l), (3, .ptr 2001 0), (4, .own 90000001), (5, vi ((i : Nat) : Int)), (7, .own 90000002)]) (B' := [(2001, .var [vs (ba [97]), vs (ba [98]), vs (ba [99]), vs (ba [100, 100])]), (90000001, .sl 26 .strs ((l.take i).map pthF)), (90000002, .sl 9 .str (stepsF (vF l i) j))]) mix hI hs ?_ ?_ ?_ ?_
        · exact trivial
        · kernel_rfl
        · exact ⟨⟨trivial, ⟨trivial, trivial⟩⟩, ⟨b3, trivial⟩⟩
        intro a w hs
        refine then_exit ?_
        refine inb_hit ?_
        refine then_norm ?_
        refine way_L (tt := tt) (rs := []) (bs := []) (tk := [0, 3, 4, 5]) (bk := [2001, 13003]) (C := tr 3 ((((((l.take i).map pthF).length + 1) * 24 : Nat) ≤ 140737488355328 ∧ ((l.take i).map pthF).length + 1 ≤ 140737488355328) ∧ ((True) ∧ (True)))) (lv := .norm) (T' := [(0, .row (.int .i64) l), (3, .ptr 2001 0), (4, .own 13003), (5, vi ((i : Nat) : Int))]) (B' := [(2001, .var [vs (ba [97]), vs (ba [98]), vs (ba [99]), vs (ba [100, 100])]), (13003, .sl 26 .strs (((l.take i).map pthF) ++ ([stepsF (vF l i) j])))]) mix hI hs ?_ ?_ ?_ ?_
        · exact trivial
        · kernel_rfl
        · exact tr_mk (⟨⟨by omega, by omega⟩, ⟨trivial, trivial⟩⟩) 3
        intro a w hs
        refine inb_norm ?_
        refine then_norm ?_
        refine way_L (tt := tt) (rs := []) (bs := []) (tk := [0, 3, 4, 5]) (bk := [2001, 13003]) (C := (True) ∧ ((InR .i64 (((i : Nat) : Int) + 1)) ∧ ((True) ∧ (True)))) (lv := .norm) (T' := [(0, .row (.int .i64) l), (3, .ptr 2001 0), (4, .own 13003), (5, vi (((i : Nat) : Int) + 1))]) (B' := [(2001, .var [vs (ba [97]), vs (ba [98]), vs (ba [99]), vs (ba [100, 100])]), (13003, .sl 26 .strs (((l.take i).map pthF) ++ ([stepsF (vF l i) j])))]) mix hI hs ?_ ?_ ?_ ?_
        · exact trivial
        · kernel_rfl
        · exact ⟨trivial, ⟨(inR64 (by omega) (by omega)), ⟨trivial, trivial⟩⟩⟩
        intro a w hs
        refine then_norm ⟨i + 1, ⟨by omega, by omega⟩, by omega, ?_⟩
        (have e0_ : (((i : Nat) : Int) + 1) = ((((i + 1) : Nat) : Int)) := (by first | rfl | (omega)); have e1_ : (((l.take i).map pthF) ++ ([stepsF (vF l i) j])) = ((l.take (i + 1)).map pthF) := (by first | rfl | (rw [show stepsF (vF l i) j = pthF (l.getD i (dflt (.int .i64))) from by unfold pthF pathF; rw [show j = (kF (vF l i)).toNat by omega]; rfl]; exact take_map_succ (f := pthF) (by omega) _)); exact (SimL.cast hs (T' := [(0, .row (.int .i64) l), (3, .ptr 2001 0), (4, .own 13003), (5, vi (((i + 1) : Nat) : Int))]) (B' := [(2001, .var [vs (ba [97]), vs (ba [98]), vs (ba [99]), vs (ba [100, 100])]), (13003, .sl 26 .strs ((l.take (i + 1)).map pthF))]) (by first | rfl | (rw [e0_, e1_]; done) | (simp only [e0_, e1_]; done) | (simp only [e0_, e1_]; rfl)) (by first | rfl | (rw [e0_, e1_]; done) | (simp only [e0_, e1_]; done) | (simp only [e0_, e1_]; rfl))).ren [(2001, 2001), (90000001, 13003)] (by kernel_rfl) (by kernel_rfl) (by kernel_rfl))
    · skip
      have n2 := of_decide_eq_false b2
      refine way_L (tt := tt) (rs := [(4, ⟨[], [(5, true), (6, true), (1007, true)], []⟩)]) (bs := [false]) (tk := [4]) (bk := [90000001]) (C := (tr 5 (((decide (((i : Nat) : Int) < (l.length : Int))) = true) ∧ ((True) ∧ (((decide (((i : Nat) : Int) < (l.length : Int))) = true) ∧ ((True) ∧ (((decide (((i : Nat) : Int) < (l.length : Int))) = true) ∧ (True))))))) ∧ (((decide (((i : Nat) : Int) < 12)) = false) ∧ (True))) (lv := .exit 0) (T' := [(4, .own 90000001)]) (B' := [(90000001, .sl 26 .strs ((l.take i).map pthF))]) mix hI hs ?_ ?_ ?_ ?_
      · exact ⟨trivial, trivial⟩
      · kernel_rfl
      · exact ⟨tr_mk (⟨b1, ⟨trivial, ⟨b1, ⟨trivial, ⟨b1, trivial⟩⟩⟩⟩⟩) 5, ⟨b2, trivial⟩⟩
      intro a w hs
      refine then_exit ?_
      refine then_exit ?_
      refine inb_hit ?_
      refine then_norm ?_
      refine way_L (tt := tt) (rs := []) (bs := []) (tk := [2]) (bk := [90000001]) (C := ((True) ∧ ((True) ∧ (True))) ∧ (True)) (lv := .ret) (T' := [(2, .own 90000001)]) (B' := [(90000001, .sl 26 .strs ((l.take i).map pthF))]) mix hI hs ?_ ?_ ?_ ?_
      · exact trivial
      · kernel_rfl
      · exact ⟨⟨trivial, ⟨trivial, trivial⟩⟩, trivial⟩
      intro a w hs
      exact FnQ_cast (out := .own 26 .strs ((l.take i).map pthF)) (by have h1 : (l.take i).map pthF = pathsF l := by { unfold pathsF; rcases Nat.lt_or_ge i l.length with h | h; rw [show i = 12 by omega]; rw [List.take_of_length_le h, List.take_of_length_le (by omega)] }; rw [h1]) (ret_ok [] hs (.inl ⟨90000001, by kernel_rfl, rfl⟩))
  · skip
    have n1 := of_decide_eq_false b1
    refine way_L (tt := tt) (rs := [(4, ⟨[], [(5, false), (6, false), (1007, false)], []⟩)]) (bs := [false]) (tk := [4]) (bk := [90000001]) (C := (tr 5 (((decide (((i : Nat) : Int) < (l.length : Int))) = false) ∧ (((decide (((i : Nat) : Int) < (l.length : Int))) = false) ∧ (((decide (((i : Nat) : Int) < (l.length : Int))) = false) ∧ (True))))) ∧ ((false = false) ∧ (True))) (lv := .exit 0) (T' := [(4, .own 90000001)]) (B' := [(90000001, .sl 26 .strs ((l.take i).map pthF))]) mix hI hs ?_ ?_ ?_ ?_
    · exact ⟨trivial, trivial⟩
    · kernel_rfl
    · exact ⟨tr_mk (⟨b1, ⟨b1, ⟨b1, trivial⟩⟩⟩) 5, ⟨rfl, trivial⟩⟩
    intro a w hs
    refine then_exit ?_
    refine then_exit ?_
    refine inb_hit ?_
    refine then_norm ?_
    refine way_L (tt := tt) (rs := []) (bs := []) (tk := [2]) (bk := [90000001]) (C := ((True) ∧ ((True) ∧ (True))) ∧ (True)) (lv := .ret) (T' := [(2, .own 90000001)]) (B' := [(90000001, .sl 26 .strs ((l.take i).map pthF))]) mix hI hs ?_ ?_ ?_ ?_
    · exact trivial
    · kernel_rfl
    · exact ⟨⟨trivial, ⟨trivial, trivial⟩⟩, trivial⟩
    intro a w hs
    exact FnQ_cast (out := .own 26 .strs ((l.take i).map pthF)) (by have h1 : (l.take i).map pthF = pathsF l := by { unfold pathsF; rcases Nat.lt_or_ge i l.length with h | h; rw [show i = 12 by omega]; rw [List.take_of_length_le h, List.take_of_length_le (by omega)] }; rw [h1]) (ret_ok [] hs (.inl ⟨90000001, by kernel_rfl, rfl⟩))

end Go.Proofs.YtondpnipoogoiaaGreatDoor.F
