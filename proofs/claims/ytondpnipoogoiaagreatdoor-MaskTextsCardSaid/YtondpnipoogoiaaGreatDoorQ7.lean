import Derived.Test.YtondpnipoogoiaaGreatDoorQ4
namespace Go.Proofs.YtondpnipoogoiaaGreatDoor.F
open Go Go.RowKit Go.Proofs.Tryz
set_option linter.unusedVariables false
set_option maxRecDepth 100000 in
theorem c215_0 : Con Tryz.prog I0 215 [vs (ba [97])] (.val (vb true)) := by
  refine con_of Tryz.func215 rfl (Nat.le_of_ble_eq_true rfl) stab (fun w0 fz a hI hs => ?_)
  refine way_L (tt := tt) (rs := [(1, ⟨[(5, ciA 249 [vs (ba [97])] [] [] (.val (vb true)))], [(4, true), (5, true), (1006, true)], []⟩)]) (bs := []) (tk := [2]) (bk := []) (C := ((True) ∧ (True)) ∧ ((tr 4 ((true = true) ∧ ((True) ∧ ((true = true) ∧ ((okArgs [vs (ba [97])]) ∧ ((true = true) ∧ ((True) ∧ (True)))))))) ∧ (True))) (lv := .ret) (T' := [(2, vb true)]) (B' := []) mix hI hs ?_ ?_ ?_ ?_
  · exact ⟨⟨⟨ent249, conValid _ (by kernel_rfl)⟩, trivial⟩, trivial⟩
  · kernel_rfl
  · exact ⟨⟨trivial, trivial⟩, ⟨tr_mk (⟨rfl, ⟨trivial, ⟨rfl, ⟨rfl, ⟨rfl, ⟨trivial, trivial⟩⟩⟩⟩⟩⟩) 4, trivial⟩⟩
  intro a w hs
  exact FnQ_cast (out := .val (vb true)) (rfl) (ret_ok [] hs ⟨by kernel_rfl, rfl⟩)

set_option maxRecDepth 100000 in
theorem c216_0 : Con Tryz.prog I0 216 [.row .str ([(ba [97])])] (.val (vb true)) := by
  refine con_of Tryz.func216 rfl (Nat.le_of_ble_eq_true rfl) stab (fun w0 fz a hI hs => ?_)
  refine wp_seq ?_
  refine way_L (tt := tt) (rs := []) (bs := []) (tk := [0]) (bk := []) (C := (True) ∧ (True)) (lv := .norm) (T' := [(0, .row .str ([(ba [97])]))]) (B' := []) mix hI hs ?_ ?_ ?_ ?_
  · exact trivial
  · kernel_rfl
  · exact ⟨trivial, trivial⟩
  intro a w hs
  refine then_norm ?_
  refine wp_seq ?_
  refine wp_seq ?_
  refine way_L (tt := tt) (rs := []) (bs := []) (tk := [0, 5, 6, 7]) (bk := []) (C := tr 3 (True)) (lv := .norm) (T' := [(0, .row .str ([(ba [97])])), (5, .row .str ([(ba [97])])), (6, vi 1), (7, vi 0)]) (B' := []) mix hI hs ?_ ?_ ?_ ?_
  · exact trivial
  · kernel_rfl
  · exact tr_mk (trivial) 3
  intro a w hs
  refine then_norm ?_
  refine wp_block ?_
  refine wp_loop_rounds 2 ?_
  refine rounds_step ?_
  refine way_L (tt := tt) (rs := [(4, ⟨[(1, ciA 215 [vs (ba [97])] [] [] (.val (vb true)))], [(4, true), (5, true), (6, true), (7, false), (8, false), (9, false), (10, false), (11, false), (12, false), (13, false), (14, true), (1014, false), (1015, false)], []⟩)]) (bs := [true, false]) (tk := [0, 5, 6, 7, 16, 17, 18, 19, 20, 21, 22, 23, 24, 25, 26]) (bk := []) (C := ((True) ∧ (True)) ∧ (((true = true) ∧ (True)) ∧ ((((True) ∧ (((0 : Int) ≤ 0 ∧ (0 : Int) < ((1 : Nat) : Int)) ∧ (tr 3 (True)))) ∧ (((True) ∧ ((okArgs [vs (ba [97])]) ∧ ((True) ∧ ((True) ∧ ((false = false) ∧ ((True) ∧ ((false = false) ∧ ((True) ∧ ((false = false) ∧ ((True) ∧ ((false = false) ∧ ((false = false) ∧ ((false = false) ∧ ((false = false) ∧ ((false = false) ∧ ((false = false) ∧ ((false = false) ∧ ((false = false) ∧ ((false = false) ∧ ((false = false) ∧ (True))))))))))))))))))))) ∧ ((false = false) ∧ (True)))) ∧ ((InR .i64 1) ∧ ((True) ∧ (True)))))) (lv := .norm) (T' := [(0, .row .str ([(ba [97])])), (5, .row .str ([(ba [97])])), (6, vi 1), (7, vi 1), (16, vi 0), (17, vb false), (18, vb false), (19, undA), (20, undA), (21, undA), (22, undA), (23, undA), (24, undA), (25, undA), (26, vb false)]) (B' := []) mix hI hs ?_ ?_ ?_ ?_
  · exact ⟨⟨⟨ent215, c215_0⟩, trivial⟩, trivial⟩
  · kernel_rfl
  · exact ⟨⟨trivial, trivial⟩, ⟨⟨rfl, trivial⟩, ⟨⟨⟨trivial, ⟨(by decide), tr_mk (trivial) 3⟩⟩, ⟨⟨trivial, ⟨rfl, ⟨trivial, ⟨trivial, ⟨rfl, ⟨trivial, ⟨rfl, ⟨trivial, ⟨rfl, ⟨trivial, ⟨rfl, ⟨rfl, ⟨rfl, ⟨rfl, ⟨rfl, ⟨rfl, ⟨rfl, ⟨rfl, ⟨rfl, ⟨rfl, trivial⟩⟩⟩⟩⟩⟩⟩⟩⟩⟩⟩⟩⟩⟩⟩⟩⟩⟩⟩⟩, ⟨rfl, trivial⟩⟩⟩, ⟨(inR64 (by omega) (by omega)), ⟨trivial, trivial⟩⟩⟩⟩⟩
  intro a w hs
  refine then_norm ?_
  refine rounds_step ?_
  refine way_L (tt := tt) (rs := []) (bs := [false]) (tk := [0]) (bk := []) (C := ((True) ∧ (True)) ∧ ((false = false) ∧ (True))) (lv := .exit 0) (T' := [(0, .row .str ([(ba [97])]))]) (B' := []) mix hI hs ?_ ?_ ?_ ?_
  · exact trivial
  · kernel_rfl
  · exact ⟨⟨trivial, trivial⟩, ⟨rfl, trivial⟩⟩
  intro a w hs
  refine then_exit ?_
  refine inb_hit ?_
  refine then_norm ?_
  refine way_L (tt := tt) (rs := []) (bs := []) (tk := [2]) (bk := []) (C := (tr 4 (True)) ∧ (True)) (lv := .ret) (T' := [(2, vb true)]) (B' := []) mix hI hs ?_ ?_ ?_ ?_
  · exact trivial
  · kernel_rfl
  · exact ⟨tr_mk (trivial) 4, trivial⟩
  intro a w hs
  exact FnQ_cast (out := .val (vb true)) (rfl) (ret_ok [] hs ⟨by kernel_rfl, rfl⟩)

set_option maxRecDepth 100000 in
theorem c170_0 : Con Tryz.prog I0 170 [.agg [vi 7, vb false, vb false, nilv, vi 0, vs (ba []), .row .str ([(ba [97])]), .row .tree ([(Tree.mk 7 false ⟨false, [], 0⟩ (ba []) ([(ba [98]), (ba [99])]) ([(Tree.mk 2 false ⟨false, [], 0⟩ (ba []) ([]) ([])), (Tree.mk 1 false ⟨false, [], 0⟩ (ba []) ([]) ([]))]))])]] (.val (vb true)) := by
  refine con_of Tryz.func170 rfl (Nat.le_of_ble_eq_true rfl) stab (fun w0 fz a hI hs => ?_)
  refine way_L (tt := tt) (rs := [(1, ⟨[], [(8, true), (9, true), (10, true), (11, true), (12, true), (1013, true), (15, true), (16, true), (17, true), (18, true), (1019, true)], []⟩), (15, ⟨[(2, ciA 216 [.row .str ([(ba [97])])] [] [] (.val (vb true)))], [(4, true), (5, true), (6, true), (7, true), (8, true), (9, true), (10, true), (1011, true)], []⟩), (18, ⟨[], [(2, true), (1003, true), (5, true), (1006, true), (8, true), (1009, true), (11, true), (1012, true)], []⟩)]) (bs := [false, false, false, false, false, true]) (tk := [2]) (bk := []) (C := ((True) ∧ ((True) ∧ (True))) ∧ ((tr 8 (((true = true) ∧ (True)) ∧ (((true = true) ∧ (True)) ∧ (((true = true) ∧ (True)) ∧ (((true = true) ∧ (True)) ∧ (((true = true) ∧ (True)) ∧ ((true = true) ∧ ((True) ∧ (((true = true) ∧ (True)) ∧ (((true = true) ∧ (True)) ∧ (((true = true) ∧ (True)) ∧ (((true = true) ∧ (True)) ∧ ((true = true) ∧ (tr 6 (True))))))))))))))) ∧ ((tr 10 (True)) ∧ ((((True) ∧ ((True) ∧ (True))) ∧ ((((((True) ∧ ((True) ∧ (True))) ∧ ((false = false) ∧ (True))) ∧ ((((True) ∧ ((True) ∧ (True))) ∧ ((false = false) ∧ (True))) ∧ ((((True) ∧ ((True) ∧ (True))) ∧ ((false = false) ∧ (True))) ∧ ((((True) ∧ ((True) ∧ (True))) ∧ ((false = false) ∧ (True))) ∧ ((((True) ∧ ((True) ∧ (True))) ∧ ((false = false) ∧ (True))) ∧ (((True) ∧ ((True) ∧ (True))) ∧ ((true = true) ∧ (True)))))))) ∧ ((True) ∧ ((True) ∧ ((okArgs [.row .str ([(ba [97])])]) ∧ ((True) ∧ ((true = true) ∧ ((True) ∧ ((true = true) ∧ ((True) ∧ ((true = true) ∧ ((True) ∧ ((true = true) ∧ ((True) ∧ ((true = true) ∧ ((True) ∧ ((true = true) ∧ ((True) ∧ ((true = true) ∧ ((True) ∧ ((true = true) ∧ ((True) ∧ (True)))))))))))))))))))))) ∧ ((tr 5 (True)) ∧ (True)))) ∧ (((True) ∧ ((True) ∧ ((true = true) ∧ ((True) ∧ ((true = true) ∧ ((True) ∧ ((true = true) ∧ ((True) ∧ ((true = true) ∧ ((True) ∧ ((true = true) ∧ ((True) ∧ ((true = true) ∧ ((True) ∧ ((true = true) ∧ ((True) ∧ ((true = true) ∧ ((True) ∧ (True))))))))))))))))))) ∧ (True)))))) (lv := .ret) (T' := [(2, vb true)]) (B' := []) mix hI hs ?_ ?_ ?_ ?_
  · exact ⟨trivial, ⟨⟨⟨ent216, c216_0⟩, trivial⟩, ⟨trivial, trivial⟩⟩⟩
  · kernel_rfl
  · exact ⟨⟨trivial, ⟨trivial, trivial⟩⟩, ⟨tr_mk (⟨⟨rfl, trivial⟩, ⟨⟨rfl, trivial⟩, ⟨⟨rfl, trivial⟩, ⟨⟨rfl, trivial⟩, ⟨⟨rfl, trivial⟩, ⟨rfl, ⟨trivial, ⟨⟨rfl, trivial⟩, ⟨⟨rfl, trivial⟩, ⟨⟨rfl, trivial⟩, ⟨⟨rfl, trivial⟩, ⟨rfl, tr_mk (trivial) 6⟩⟩⟩⟩⟩⟩⟩⟩⟩⟩⟩⟩) 8, ⟨tr_mk (trivial) 10, ⟨⟨⟨trivial, ⟨trivial, trivial⟩⟩, ⟨⟨⟨⟨⟨trivial, ⟨trivial, trivial⟩⟩, ⟨rfl, trivial⟩⟩, ⟨⟨⟨trivial, ⟨trivial, trivial⟩⟩, ⟨rfl, trivial⟩⟩, ⟨⟨⟨trivial, ⟨trivial, trivial⟩⟩, ⟨rfl, trivial⟩⟩, ⟨⟨⟨trivial, ⟨trivial, trivial⟩⟩, ⟨rfl, trivial⟩⟩, ⟨⟨⟨trivial, ⟨trivial, trivial⟩⟩, ⟨rfl, trivial⟩⟩, ⟨⟨trivial, ⟨trivial, trivial⟩⟩, ⟨rfl, trivial⟩⟩⟩⟩⟩⟩⟩, ⟨trivial, ⟨trivial, ⟨rfl, ⟨trivial, ⟨rfl, ⟨trivial, ⟨rfl, ⟨trivial, ⟨rfl, ⟨trivial, ⟨rfl, ⟨trivial, ⟨rfl, ⟨trivial, ⟨rfl, ⟨trivial, ⟨rfl, ⟨trivial, ⟨rfl, ⟨trivial, trivial⟩⟩⟩⟩⟩⟩⟩⟩⟩⟩⟩⟩⟩⟩⟩⟩⟩⟩⟩⟩⟩, ⟨tr_mk (trivial) 5, trivial⟩⟩⟩, ⟨⟨trivial, ⟨trivial, ⟨rfl, ⟨trivial, ⟨rfl, ⟨trivial, ⟨rfl, ⟨trivial, ⟨rfl, ⟨trivial, ⟨rfl, ⟨trivial, ⟨rfl, ⟨trivial, ⟨rfl, ⟨trivial, ⟨rfl, ⟨trivial, trivial⟩⟩⟩⟩⟩⟩⟩⟩⟩⟩⟩⟩⟩⟩⟩⟩⟩⟩, trivial⟩⟩⟩⟩⟩
  intro a w hs
  exact FnQ_cast (out := .val (vb true)) (rfl) (ret_ok [] hs ⟨by kernel_rfl, rfl⟩)

set_option maxRecDepth 100000 in
theorem c215_1 : Con Tryz.prog I0 215 [vs (ba [98])] (.val (vb true)) := by
  refine con_of Tryz.func215 rfl (Nat.le_of_ble_eq_true rfl) stab (fun w0 fz a hI hs => ?_)
  refine way_L (tt := tt) (rs := [(1, ⟨[(5, ciA 249 [vs (ba [98])] [] [] (.val (vb true)))], [(4, true), (5, true), (1006, true)], []⟩)]) (bs := []) (tk := [2]) (bk := []) (C := ((True) ∧ (True)) ∧ ((tr 4 ((true = true) ∧ ((True) ∧ ((true = true) ∧ ((okArgs [vs (ba [98])]) ∧ ((true = true) ∧ ((True) ∧ (True)))))))) ∧ (True))) (lv := .ret) (T' := [(2, vb true)]) (B' := []) mix hI hs ?_ ?_ ?_ ?_
  · exact ⟨⟨⟨ent249, conValid _ (by kernel_rfl)⟩, trivial⟩, trivial⟩
  · kernel_rfl
  · exact ⟨⟨trivial, trivial⟩, ⟨tr_mk (⟨rfl, ⟨trivial, ⟨rfl, ⟨rfl, ⟨rfl, ⟨trivial, trivial⟩⟩⟩⟩⟩⟩) 4, trivial⟩⟩
  intro a w hs
  exact FnQ_cast (out := .val (vb true)) (rfl) (ret_ok [] hs ⟨by kernel_rfl, rfl⟩)

set_option maxRecDepth 100000 in
theorem c215_2 : Con Tryz.prog I0 215 [vs (ba [99])] (.val (vb true)) := by
  refine con_of Tryz.func215 rfl (Nat.le_of_ble_eq_true rfl) stab (fun w0 fz a hI hs => ?_)
  refine way_L (tt := tt) (rs := [(1, ⟨[(5, ciA 249 [vs (ba [99])] [] [] (.val (vb true)))], [(4, true), (5, true), (1006, true)], []⟩)]) (bs := []) (tk := [2]) (bk := []) (C := ((True) ∧ (True)) ∧ ((tr 4 ((true = true) ∧ ((True) ∧ ((true = true) ∧ ((okArgs [vs (ba [99])]) ∧ ((true = true) ∧ ((True) ∧ (True)))))))) ∧ (True))) (lv := .ret) (T' := [(2, vb true)]) (B' := []) mix hI hs ?_ ?_ ?_ ?_
  · exact ⟨⟨⟨ent249, conValid _ (by kernel_rfl)⟩, trivial⟩, trivial⟩
  · kernel_rfl
  · exact ⟨⟨trivial, trivial⟩, ⟨tr_mk (⟨rfl, ⟨trivial, ⟨rfl, ⟨rfl, ⟨rfl, ⟨trivial, trivial⟩⟩⟩⟩⟩⟩) 4, trivial⟩⟩
  intro a w hs
  exact FnQ_cast (out := .val (vb true)) (rfl) (ret_ok [] hs ⟨by kernel_rfl, rfl⟩)

set_option maxRecDepth 100000 in
theorem c216_1 : Con Tryz.prog I0 216 [.row .str ([(ba [98]), (ba [99])])] (.val (vb true)) := by
  refine con_of Tryz.func216 rfl (Nat.le_of_ble_eq_true rfl) stab (fun w0 fz a hI hs => ?_)
  refine wp_seq ?_
  refine way_L (tt := tt) (rs := []) (bs := []) (tk := [0]) (bk := []) (C := (True) ∧ (True)) (lv := .norm) (T' := [(0, .row .str ([(ba [98]), (ba [99])]))]) (B' := []) mix hI hs ?_ ?_ ?_ ?_
  · exact trivial
  · kernel_rfl
  · exact ⟨trivial, trivial⟩
  intro a w hs
  refine then_norm ?_
  refine wp_seq ?_
  refine wp_seq ?_
  refine way_L (tt := tt) (rs := []) (bs := []) (tk := [0, 5, 6, 7]) (bk := []) (C := tr 3 (True)) (lv := .norm) (T' := [(0, .row .str ([(ba [98]), (ba [99])])), (5, .row .str ([(ba [98]), (ba [99])])), (6, vi 2), (7, vi 0)]) (B' := []) mix hI hs ?_ ?_ ?_ ?_
  · exact trivial
  · kernel_rfl
  · exact tr_mk (trivial) 3
  intro a w hs
  refine then_norm ?_
  refine wp_block ?_
  refine wp_loop_rounds 3 ?_
  refine rounds_step ?_
  refine way_L (tt := tt) (rs := [(4, ⟨[(1, ciA 215 [vs (ba [98])] [] [] (.val (vb true)))], [(4, true), (5, true), (6, true), (7, false), (8, false), (9, false), (10, false), (11, false), (12, false), (13, false), (14, true), (1014, false), (1015, false)], []⟩)]) (bs := [true, false]) (tk := [0, 5, 6, 7, 16, 17, 18, 19, 20, 21, 22, 23, 24, 25, 26]) (bk := []) (C := ((True) ∧ (True)) ∧ (((true = true) ∧ (True)) ∧ ((((True) ∧ (((0 : Int) ≤ 0 ∧ (0 : Int) < ((2 : Nat) : Int)) ∧ (tr 3 (True)))) ∧ (((True) ∧ ((okArgs [vs (ba [98])]) ∧ ((True) ∧ ((True) ∧ ((false = false) ∧ ((True) ∧ ((false = false) ∧ ((True) ∧ ((false = false) ∧ ((True) ∧ ((false = false) ∧ ((false = false) ∧ ((false = false) ∧ ((false = false) ∧ ((false = false) ∧ ((false = false) ∧ ((false = false) ∧ ((false = false) ∧ ((false = false) ∧ ((false = false) ∧ (True))))))))))))))))))))) ∧ ((false = false) ∧ (True)))) ∧ ((InR .i64 1) ∧ ((True) ∧ (True)))))) (lv := .norm) (T' := [(0, .row .str ([(ba [98]), (ba [99])])), (5, .row .str ([(ba [98]), (ba [99])])), (6, vi 2), (7, vi 1), (16, vi 0), (17, vb false), (18, vb false), (19, undA), (20, undA), (21, undA), (22, undA), (23, undA), (24, undA), (25, undA), (26, vb false)]) (B' := []) mix hI hs ?_ ?_ ?_ ?_
  · exact ⟨⟨⟨ent215, c215_1⟩, trivial⟩, trivial⟩
  · kernel_rfl
  · exact ⟨⟨trivial, trivial⟩, ⟨⟨rfl, trivial⟩, ⟨⟨⟨trivial, ⟨(by decide), tr_mk (trivial) 3⟩⟩, ⟨⟨trivial, ⟨rfl, ⟨trivial, ⟨trivial, ⟨rfl, ⟨trivial, ⟨rfl, ⟨trivial, ⟨rfl, ⟨trivial, ⟨rfl, ⟨rfl, ⟨rfl, ⟨rfl, ⟨rfl, ⟨rfl, ⟨rfl, ⟨rfl, ⟨rfl, ⟨rfl, trivial⟩⟩⟩⟩⟩⟩⟩⟩⟩⟩⟩⟩⟩⟩⟩⟩⟩⟩⟩⟩, ⟨rfl, trivial⟩⟩⟩, ⟨(inR64 (by omega) (by omega)), ⟨trivial, trivial⟩⟩⟩⟩⟩
  intro a w hs
  refine then_norm ?_
  refine rounds_step ?_
  refine way_L (tt := tt) (rs := [(4, ⟨[(1, ciA 215 [vs (ba [99])] [] [] (.val (vb true)))], [(4, true), (5, true), (6, true), (7, true), (8, true), (9, true), (10, true), (11, true), (12, true), (13, true), (14, true), (1014, true), (1015, false)], []⟩)]) (bs := [true, false]) (tk := [0, 5, 6, 7, 16, 17, 18, 19, 20, 21, 22, 23, 24, 25, 26]) (bk := []) (C := ((True) ∧ (True)) ∧ (((true = true) ∧ (True)) ∧ ((((True) ∧ (((0 : Int) ≤ 1 ∧ (1 : Int) < ((2 : Nat) : Int)) ∧ (tr 3 (True)))) ∧ (((True) ∧ ((okArgs [vs (ba [99])]) ∧ ((True) ∧ ((True) ∧ ((false = false) ∧ ((True) ∧ ((false = false) ∧ ((True) ∧ ((false = false) ∧ ((True) ∧ ((true = true) ∧ ((True) ∧ ((true = true) ∧ ((True) ∧ ((true = true) ∧ ((InR .i64 0) ∧ ((true = true) ∧ (((0 : Int) ≤ 0 ∧ (0 : Int) < ((2 : Nat) : Int)) ∧ ((true = true) ∧ ((True) ∧ ((true = true) ∧ ((True) ∧ ((true = true) ∧ ((True) ∧ ((false = false) ∧ ((true = true) ∧ ((false = false) ∧ (True)))))))))))))))))))))))))))) ∧ ((false = false) ∧ (True)))) ∧ ((InR .i64 2) ∧ ((True) ∧ (True)))))) (lv := .norm) (T' := [(0, .row .str ([(ba [98]), (ba [99])])), (5, .row .str ([(ba [98]), (ba [99])])), (6, vi 2), (7, vi 2), (16, vi 1), (17, vb true), (18, vb true), (19, .row .str ([(ba [98]), (ba [99])])), (20, vi 1), (21, vi 0), (22, .ep .str (ba [98]) 0), (23, vs (ba [98])), (24, vs (ba [99])), (25, vb false), (26, vb false)]) (B' := []) mix hI hs ?_ ?_ ?_ ?_
  · exact ⟨⟨⟨ent215, c215_2⟩, trivial⟩, trivial⟩
  · kernel_rfl
  · exact ⟨⟨trivial, trivial⟩, ⟨⟨rfl, trivial⟩, ⟨⟨⟨trivial, ⟨(by decide), tr_mk (trivial) 3⟩⟩, ⟨⟨trivial, ⟨rfl, ⟨trivial, ⟨trivial, ⟨rfl, ⟨trivial, ⟨rfl, ⟨trivial, ⟨rfl, ⟨trivial, ⟨rfl, ⟨trivial, ⟨rfl, ⟨trivial, ⟨rfl, ⟨(inR64 (by omega) (by omega)), ⟨rfl, ⟨(by decide), ⟨rfl, ⟨trivial, ⟨rfl, ⟨trivial, ⟨rfl, ⟨trivial, ⟨rfl, ⟨rfl, ⟨rfl, trivial⟩⟩⟩⟩⟩⟩⟩⟩⟩⟩⟩⟩⟩⟩⟩⟩⟩⟩⟩⟩⟩⟩⟩⟩⟩⟩⟩, ⟨rfl, trivial⟩⟩⟩, ⟨(inR64 (by omega) (by omega)), ⟨trivial, trivial⟩⟩⟩⟩⟩
  intro a w hs
  refine then_norm ?_
  refine rounds_step ?_
  refine way_L (tt := tt) (rs := []) (bs := [false]) (tk := [0]) (bk := []) (C := ((True) ∧ (True)) ∧ ((false = false) ∧ (True))) (lv := .exit 0) (T' := [(0, .row .str ([(ba [98]), (ba [99])]))]) (B' := []) mix hI hs ?_ ?_ ?_ ?_
  · exact trivial
  · kernel_rfl
  · exact ⟨⟨trivial, trivial⟩, ⟨rfl, trivial⟩⟩
  intro a w hs
  refine then_exit ?_
  refine inb_hit ?_
  refine then_norm ?_
  refine way_L (tt := tt) (rs := []) (bs := []) (tk := [2]) (bk := []) (C := (tr 4 (True)) ∧ (True)) (lv := .ret) (T' := [(2, vb true)]) (B' := []) mix hI hs ?_ ?_ ?_ ?_
  · exact trivial
  · kernel_rfl
  · exact ⟨tr_mk (trivial) 4, trivial⟩
  intro a w hs
  exact FnQ_cast (out := .val (vb true)) (rfl) (ret_ok [] hs ⟨by kernel_rfl, rfl⟩)

set_option maxRecDepth 100000 in
theorem c170_1 : Con Tryz.prog I0 170 [.agg [vi 7, vb false, vb false, .row (.int .u32) ([]), vi 0, vs (ba []), .row .str ([(ba [98]), (ba [99])]), .row .tree ([(Tree.mk 2 false ⟨false, [], 0⟩ (ba []) ([]) ([])), (Tree.mk 1 false ⟨false, [], 0⟩ (ba []) ([]) ([]))])]] (.val (vb true)) := by
  refine con_of Tryz.func170 rfl (Nat.le_of_ble_eq_true rfl) stab (fun w0 fz a hI hs => ?_)
  refine way_L (tt := tt) (rs := [(1, ⟨[], [(8, true), (9, true), (10, true), (11, true), (12, true), (1013, true), (15, true), (16, true), (17, true), (18, true), (1019, true)], []⟩), (15, ⟨[(2, ciA 216 [.row .str ([(ba [98]), (ba [99])])] [] [] (.val (vb true)))], [(4, true), (5, true), (6, true), (7, true), (8, true), (9, true), (10, true), (1011, true)], []⟩), (18, ⟨[], [(2, true), (1003, true), (5, true), (1006, true), (8, true), (1009, true), (11, true), (1012, true)], []⟩)]) (bs := [false, false, false, false, false, true]) (tk := [2]) (bk := []) (C := ((True) ∧ ((True) ∧ (True))) ∧ ((tr 8 (((true = true) ∧ (True)) ∧ (((true = true) ∧ (True)) ∧ (((true = true) ∧ (True)) ∧ (((true = true) ∧ (True)) ∧ (((true = true) ∧ (True)) ∧ ((true = true) ∧ ((True) ∧ (((true = true) ∧ (True)) ∧ (((true = true) ∧ (True)) ∧ (((true = true) ∧ (True)) ∧ (((true = true) ∧ (True)) ∧ ((true = true) ∧ (tr 6 (True))))))))))))))) ∧ ((tr 10 (True)) ∧ ((((True) ∧ ((True) ∧ (True))) ∧ ((((((True) ∧ ((True) ∧ (True))) ∧ ((false = false) ∧ (True))) ∧ ((((True) ∧ ((True) ∧ (True))) ∧ ((false = false) ∧ (True))) ∧ ((((True) ∧ ((True) ∧ (True))) ∧ ((false = false) ∧ (True))) ∧ ((((True) ∧ ((True) ∧ (True))) ∧ ((false = false) ∧ (True))) ∧ ((((True) ∧ ((True) ∧ (True))) ∧ ((false = false) ∧ (True))) ∧ (((True) ∧ ((True) ∧ (True))) ∧ ((true = true) ∧ (True)))))))) ∧ ((True) ∧ ((True) ∧ ((okArgs [.row .str ([(ba [98]), (ba [99])])]) ∧ ((True) ∧ ((true = true) ∧ ((True) ∧ ((true = true) ∧ ((True) ∧ ((true = true) ∧ ((True) ∧ ((true = true) ∧ ((True) ∧ ((true = true) ∧ ((True) ∧ ((true = true) ∧ ((True) ∧ ((true = true) ∧ ((True) ∧ ((true = true) ∧ ((True) ∧ (True)))))))))))))))))))))) ∧ ((tr 5 (True)) ∧ (True)))) ∧ (((True) ∧ ((True) ∧ ((true = true) ∧ ((True) ∧ ((true = true) ∧ ((True) ∧ ((true = true) ∧ ((True) ∧ ((true = true) ∧ ((True) ∧ ((true = true) ∧ ((True) ∧ ((true = true) ∧ ((True) ∧ ((true = true) ∧ ((True) ∧ ((true = true) ∧ ((True) ∧ (True))))))))))))))))))) ∧ (True)))))) (lv := .ret) (T' := [(2, vb true)]) (B' := []) mix hI hs ?_ ?_ ?_ ?_
  · exact ⟨trivial, ⟨⟨⟨ent216, c216_1⟩, trivial⟩, ⟨trivial, trivial⟩⟩⟩
  · kernel_rfl
  · exact ⟨⟨trivial, ⟨trivial, trivial⟩⟩, ⟨tr_mk (⟨⟨rfl, trivial⟩, ⟨⟨rfl, trivial⟩, ⟨⟨rfl, trivial⟩, ⟨⟨rfl, trivial⟩, ⟨⟨rfl, trivial⟩, ⟨rfl, ⟨trivial, ⟨⟨rfl, trivial⟩, ⟨⟨rfl, trivial⟩, ⟨⟨rfl, trivial⟩, ⟨⟨rfl, trivial⟩, ⟨rfl, tr_mk (trivial) 6⟩⟩⟩⟩⟩⟩⟩⟩⟩⟩⟩⟩) 8, ⟨tr_mk (trivial) 10, ⟨⟨⟨trivial, ⟨trivial, trivial⟩⟩, ⟨⟨⟨⟨⟨trivial, ⟨trivial, trivial⟩⟩, ⟨rfl, trivial⟩⟩, ⟨⟨⟨trivial, ⟨trivial, trivial⟩⟩, ⟨rfl, trivial⟩⟩, ⟨⟨⟨trivial, ⟨trivial, trivial⟩⟩, ⟨rfl, trivial⟩⟩, ⟨⟨⟨trivial, ⟨trivial, trivial⟩⟩, ⟨rfl, trivial⟩⟩, ⟨⟨⟨trivial, ⟨trivial, trivial⟩⟩, ⟨rfl, trivial⟩⟩, ⟨⟨trivial, ⟨trivial, trivial⟩⟩, ⟨rfl, trivial⟩⟩⟩⟩⟩⟩⟩, ⟨trivial, ⟨trivial, ⟨rfl, ⟨trivial, ⟨rfl, ⟨trivial, ⟨rfl, ⟨trivial, ⟨rfl, ⟨trivial, ⟨rfl, ⟨trivial, ⟨rfl, ⟨trivial, ⟨rfl, ⟨trivial, ⟨rfl, ⟨trivial, ⟨rfl, ⟨trivial, trivial⟩⟩⟩⟩⟩⟩⟩⟩⟩⟩⟩⟩⟩⟩⟩⟩⟩⟩⟩⟩⟩, ⟨tr_mk (trivial) 5, trivial⟩⟩⟩, ⟨⟨trivial, ⟨trivial, ⟨rfl, ⟨trivial, ⟨rfl, ⟨trivial, ⟨rfl, ⟨trivial, ⟨rfl, ⟨trivial, ⟨rfl, ⟨trivial, ⟨rfl, ⟨trivial, ⟨rfl, ⟨trivial, ⟨rfl, ⟨trivial, trivial⟩⟩⟩⟩⟩⟩⟩⟩⟩⟩⟩⟩⟩⟩⟩⟩⟩⟩, trivial⟩⟩⟩⟩⟩
  intro a w hs
  exact FnQ_cast (out := .val (vb true)) (rfl) (ret_ok [] hs ⟨by kernel_rfl, rfl⟩)

set_option maxRecDepth 100000 in
theorem c170_2 : Con Tryz.prog I0 170 [.agg [vi 2, vb false, vb false, .row (.int .u32) ([]), vi 0, vs (ba []), .row .str ([]), .row .tree ([])]] (.val (vb true)) := by
  refine con_of Tryz.func170 rfl (Nat.le_of_ble_eq_true rfl) stab (fun w0 fz a hI hs => ?_)
  refine way_L (tt := tt) (rs := [(1, ⟨[], [(8, true), (9, true), (10, true), (11, true), (12, true), (1013, true), (15, true), (16, true), (17, true), (18, true), (1019, true)], []⟩), (18, ⟨[], [(2, true), (1003, true), (5, true), (1006, true), (8, true), (1009, true), (11, true), (1012, true)], []⟩)]) (bs := [false, true]) (tk := [2]) (bk := []) (C := ((True) ∧ ((True) ∧ (True))) ∧ ((tr 8 (((true = true) ∧ (True)) ∧ (((true = true) ∧ (True)) ∧ (((true = true) ∧ (True)) ∧ (((true = true) ∧ (True)) ∧ (((true = true) ∧ (True)) ∧ ((true = true) ∧ ((True) ∧ (((true = true) ∧ (True)) ∧ (((true = true) ∧ (True)) ∧ (((true = true) ∧ (True)) ∧ (((true = true) ∧ (True)) ∧ ((true = true) ∧ (tr 6 (True))))))))))))))) ∧ ((tr 10 (True)) ∧ ((((True) ∧ ((True) ∧ (True))) ∧ (((((True) ∧ ((True) ∧ (True))) ∧ ((false = false) ∧ (True))) ∧ (((True) ∧ ((True) ∧ (True))) ∧ ((true = true) ∧ (True)))) ∧ (((True) ∧ (True)) ∧ (True)))) ∧ (((True) ∧ ((True) ∧ ((true = true) ∧ ((True) ∧ ((true = true) ∧ ((True) ∧ ((true = true) ∧ ((True) ∧ ((true = true) ∧ ((True) ∧ ((true = true) ∧ ((True) ∧ ((true = true) ∧ ((True) ∧ ((true = true) ∧ ((True) ∧ ((true = true) ∧ ((True) ∧ (True))))))))))))))))))) ∧ (True)))))) (lv := .ret) (T' := [(2, vb true)]) (B' := []) mix hI hs ?_ ?_ ?_ ?_
  · exact ⟨trivial, ⟨trivial, trivial⟩⟩
  · kernel_rfl
  · exact ⟨⟨trivial, ⟨trivial, trivial⟩⟩, ⟨tr_mk (⟨⟨rfl, trivial⟩, ⟨⟨rfl, trivial⟩, ⟨⟨rfl, trivial⟩, ⟨⟨rfl, trivial⟩, ⟨⟨rfl, trivial⟩, ⟨rfl, ⟨trivial, ⟨⟨rfl, trivial⟩, ⟨⟨rfl, trivial⟩, ⟨⟨rfl, trivial⟩, ⟨⟨rfl, trivial⟩, ⟨rfl, tr_mk (trivial) 6⟩⟩⟩⟩⟩⟩⟩⟩⟩⟩⟩⟩) 8, ⟨tr_mk (trivial) 10, ⟨⟨⟨trivial, ⟨trivial, trivial⟩⟩, ⟨⟨⟨⟨trivial, ⟨trivial, trivial⟩⟩, ⟨rfl, trivial⟩⟩, ⟨⟨trivial, ⟨trivial, trivial⟩⟩, ⟨rfl, trivial⟩⟩⟩, ⟨⟨trivial, trivial⟩, trivial⟩⟩⟩, ⟨⟨trivial, ⟨trivial, ⟨rfl, ⟨trivial, ⟨rfl, ⟨trivial, ⟨rfl, ⟨trivial, ⟨rfl, ⟨trivial, ⟨rfl, ⟨trivial, ⟨rfl, ⟨trivial, ⟨rfl, ⟨trivial, ⟨rfl, ⟨trivial, trivial⟩⟩⟩⟩⟩⟩⟩⟩⟩⟩⟩⟩⟩⟩⟩⟩⟩⟩, trivial⟩⟩⟩⟩⟩
  intro a w hs
  exact FnQ_cast (out := .val (vb true)) (rfl) (ret_ok [] hs ⟨by kernel_rfl, rfl⟩)

set_option maxRecDepth 100000 in
theorem c117_2 : ConB Tryz.prog I0 117 [.agg [vi 2, vb false, vb false, .row (.int .u32) ([]), vi 0, vs (ba []), .row .str ([]), .row .tree ([])], vi 3, .ptr 0 0] [(0, .var [vi 1998])] (.val (vb true)) [(0, .var [vi 1997])] := by
  refine con_ofB Tryz.func117 rfl (Nat.le_of_ble_eq_true rfl) (by decide) (fun w0 fz η a hI hs => ?_)
  refine wp_seq ?_
  refine way_L (tt := tt) (rs := []) (bs := []) (tk := [1, 2, 3]) (bk := [0, 1000]) (C := (True) ∧ ((True) ∧ (True))) (lv := .norm) (T' := [(1, vi 3), (2, .ptr 0 0), (3, .ptr 1000 0)]) (B' := [(0, .var [vi 1998]), (1000, .var [vi 2, vb false, vb false, .row (.int .u32) ([]), vi 0, vs (ba []), .row .str ([]), .row .tree ([])])]) mix hI hs ?_ ?_ ?_ ?_
  · exact trivial
  · kernel_rfl
  · exact ⟨trivial, ⟨trivial, trivial⟩⟩
  intro a w hs
  refine then_norm ?_
  refine wp_seq ?_
  refine way_L (tt := tt) (rs := []) (bs := []) (tk := [1, 2, 3]) (bk := [0, 1000]) (C := tr 3 ((InR .i64 1997) ∧ ((True) ∧ ((True) ∧ (True))))) (lv := .norm) (T' := [(1, vi 3), (2, .ptr 0 0), (3, .ptr 1000 0)]) (B' := [(0, .var [vi 1997]), (1000, .var [vi 2, vb false, vb false, .row (.int .u32) ([]), vi 0, vs (ba []), .row .str ([]), .row .tree ([])])]) mix hI hs ?_ ?_ ?_ ?_
  · exact trivial
  · kernel_rfl
  · exact tr_mk (⟨(inR64 (by omega) (by omega)), ⟨trivial, ⟨trivial, trivial⟩⟩⟩) 3
  intro a w hs
  refine then_norm ?_
  refine wp_seq ?_
  refine way_L (tt := tt) (rs := [(2, ⟨[(10, ciA 170 [.agg [vi 2, vb false, vb false, .row (.int .u32) ([]), vi 0, vs (ba []), .row .str ([]), .row .tree ([])]] [] [] (.val (vb true)))], [(5, true), (6, true), (1007, false), (9, true), (10, true), (11, true), (1012, false)], []⟩)]) (bs := [false]) (tk := [1, 2, 3]) (bk := [0, 1000]) (C := (tr 5 ((false = false) ∧ ((True) ∧ ((false = false) ∧ ((True) ∧ ((false = false) ∧ ((True) ∧ ((false = false) ∧ ((True) ∧ ((false = false) ∧ ((okArgs [.agg [vi 2, vb false, vb false, .row (.int .u32) ([]), vi 0, vs (ba []), .row .str ([]), .row .tree ([])]]) ∧ ((false = false) ∧ ((True) ∧ ((false = false) ∧ (True))))))))))))))) ∧ ((false = false) ∧ (True))) (lv := .norm) (T' := [(1, vi 3), (2, .ptr 0 0), (3, .ptr 1000 0)]) (B' := [(0, .var [vi 1997]), (1000, .var [vi 2, vb false, vb false, .row (.int .u32) ([]), vi 0, vs (ba []), .row .str ([]), .row .tree ([])])]) mix hI hs ?_ ?_ ?_ ?_
  · exact ⟨⟨⟨ent170, c170_2⟩, trivial⟩, trivial⟩
  · kernel_rfl
  · exact ⟨tr_mk (⟨rfl, ⟨trivial, ⟨rfl, ⟨trivial, ⟨rfl, ⟨trivial, ⟨rfl, ⟨trivial, ⟨rfl, ⟨rfl, ⟨rfl, ⟨trivial, ⟨rfl, trivial⟩⟩⟩⟩⟩⟩⟩⟩⟩⟩⟩⟩⟩) 5, ⟨rfl, trivial⟩⟩
  intro a w hs
  refine then_norm ?_
  refine wp_seq ?_
  refine wp_seq ?_
  refine way_L (tt := tt) (rs := []) (bs := []) (tk := [1, 2, 28, 29, 30]) (bk := [0]) (C := tr 4 (True)) (lv := .norm) (T' := [(1, vi 3), (2, .ptr 0 0), (28, .row .tree ([])), (29, vi 0), (30, vi 0)]) (B' := [(0, .var [vi 1997])]) mix hI hs ?_ ?_ ?_ ?_
  · exact trivial
  · kernel_rfl
  · exact tr_mk (trivial) 4
  intro a w hs
  refine then_norm ?_
  refine wp_block ?_
  refine wp_loop_rounds 1 ?_
  refine rounds_step ?_
  refine way_L (tt := tt) (rs := []) (bs := [false]) (tk := []) (bk := [0]) (C := ((True) ∧ (True)) ∧ ((false = false) ∧ (True))) (lv := .exit 0) (T' := []) (B' := [(0, .var [vi 1997])]) mix hI hs ?_ ?_ ?_ ?_
  · exact trivial
  · kernel_rfl
  · exact ⟨⟨trivial, trivial⟩, ⟨rfl, trivial⟩⟩
  intro a w hs
  refine then_exit ?_
  refine inb_hit ?_
  refine then_norm ?_
  refine way_L (tt := tt) (rs := []) (bs := []) (tk := [6]) (bk := [0]) (C := ((True) ∧ (True)) ∧ (True)) (lv := .ret) (T' := [(6, vb true)]) (B' := [(0, .var [vi 1997])]) mix hI hs ?_ ?_ ?_ ?_
  · exact trivial
  · kernel_rfl
  · exact ⟨⟨trivial, trivial⟩, trivial⟩
  intro a w hs
  exact FnQB_cast (out := .val (vb true)) (bo := [(0, .var [vi 1997])]) (rfl) (rfl) (ret_okB _ hs (by kernel_rfl) (by kernel_rfl))

set_option maxRecDepth 100000 in
theorem c170_3 : Con Tryz.prog I0 170 [.agg [vi 1, vb false, vb false, .row (.int .u32) ([]), vi 0, vs (ba []), .row .str ([]), .row .tree ([])]] (.val (vb true)) := by
  refine con_of Tryz.func170 rfl (Nat.le_of_ble_eq_true rfl) stab (fun w0 fz a hI hs => ?_)
  refine way_L (tt := tt) (rs := [(1, ⟨[], [(8, true), (9, true), (10, true), (11, true), (12, true), (1013, true), (15, true), (16, true), (17, true), (18, true), (1019, true)], []⟩), (18, ⟨[], [(2, true), (1003, true), (5, true), (1006, true), (8, true), (1009, true), (11, true), (1012, true)], []⟩)]) (bs := [true]) (tk := [2]) (bk := []) (C := ((True) ∧ ((True) ∧ (True))) ∧ ((tr 8 (((true = true) ∧ (True)) ∧ (((true = true) ∧ (True)) ∧ (((true = true) ∧ (True)) ∧ (((true = true) ∧ (True)) ∧ (((true = true) ∧ (True)) ∧ ((true = true) ∧ ((True) ∧ (((true = true) ∧ (True)) ∧ (((true = true) ∧ (True)) ∧ (((true = true) ∧ (True)) ∧ (((true = true) ∧ (True)) ∧ ((true = true) ∧ (tr 6 (True))))))))))))))) ∧ ((tr 10 (True)) ∧ ((((True) ∧ ((True) ∧ (True))) ∧ ((((True) ∧ ((True) ∧ (True))) ∧ ((true = true) ∧ (True))) ∧ (True))) ∧ (((True) ∧ ((True) ∧ ((true = true) ∧ ((True) ∧ ((true = true) ∧ ((True) ∧ ((true = true) ∧ ((True) ∧ ((true = true) ∧ ((True) ∧ ((true = true) ∧ ((True) ∧ ((true = true) ∧ ((True) ∧ ((true = true) ∧ ((True) ∧ ((true = true) ∧ ((True) ∧ (True))))))))))))))))))) ∧ (True)))))) (lv := .ret) (T' := [(2, vb true)]) (B' := []) mix hI hs ?_ ?_ ?_ ?_
  · exact ⟨trivial, ⟨trivial, trivial⟩⟩
  · kernel_rfl
  · exact ⟨⟨trivial, ⟨trivial, trivial⟩⟩, ⟨tr_mk (⟨⟨rfl, trivial⟩, ⟨⟨rfl, trivial⟩, ⟨⟨rfl, trivial⟩, ⟨⟨rfl, trivial⟩, ⟨⟨rfl, trivial⟩, ⟨rfl, ⟨trivial, ⟨⟨rfl, trivial⟩, ⟨⟨rfl, trivial⟩, ⟨⟨rfl, trivial⟩, ⟨⟨rfl, trivial⟩, ⟨rfl, tr_mk (trivial) 6⟩⟩⟩⟩⟩⟩⟩⟩⟩⟩⟩⟩) 8, ⟨tr_mk (trivial) 10, ⟨⟨⟨trivial, ⟨trivial, trivial⟩⟩, ⟨⟨⟨trivial, ⟨trivial, trivial⟩⟩, ⟨rfl, trivial⟩⟩, trivial⟩⟩, ⟨⟨trivial, ⟨trivial, ⟨rfl, ⟨trivial, ⟨rfl, ⟨trivial, ⟨rfl, ⟨trivial, ⟨rfl, ⟨trivial, ⟨rfl, ⟨trivial, ⟨rfl, ⟨trivial, ⟨rfl, ⟨trivial, ⟨rfl, ⟨trivial, trivial⟩⟩⟩⟩⟩⟩⟩⟩⟩⟩⟩⟩⟩⟩⟩⟩⟩⟩, trivial⟩⟩⟩⟩⟩
  intro a w hs
  exact FnQ_cast (out := .val (vb true)) (rfl) (ret_ok [] hs ⟨by kernel_rfl, rfl⟩)

set_option maxRecDepth 100000 in
theorem c117_3 : ConB Tryz.prog I0 117 [.agg [vi 1, vb false, vb false, .row (.int .u32) ([]), vi 0, vs (ba []), .row .str ([]), .row .tree ([])], vi 3, .ptr 0 0] [(0, .var [vi 1997])] (.val (vb true)) [(0, .var [vi 1996])] := by
  refine con_ofB Tryz.func117 rfl (Nat.le_of_ble_eq_true rfl) (by decide) (fun w0 fz η a hI hs => ?_)
  refine wp_seq ?_
  refine way_L (tt := tt) (rs := []) (bs := []) (tk := [1, 2, 3]) (bk := [0, 1000]) (C := (True) ∧ ((True) ∧ (True))) (lv := .norm) (T' := [(1, vi 3), (2, .ptr 0 0), (3, .ptr 1000 0)]) (B' := [(0, .var [vi 1997]), (1000, .var [vi 1, vb false, vb false, .row (.int .u32) ([]), vi 0, vs (ba []), .row .str ([]), .row .tree ([])])]) mix hI hs ?_ ?_ ?_ ?_
  · exact trivial
  · kernel_rfl
  · exact ⟨trivial, ⟨trivial, trivial⟩⟩
  intro a w hs
  refine then_norm ?_
  refine wp_seq ?_
  refine way_L (tt := tt) (rs := []) (bs := []) (tk := [1, 2, 3]) (bk := [0, 1000]) (C := tr 3 ((InR .i64 1996) ∧ ((True) ∧ ((True) ∧ (True))))) (lv := .norm) (T' := [(1, vi 3), (2, .ptr 0 0), (3, .ptr 1000 0)]) (B' := [(0, .var [vi 1996]), (1000, .var [vi 1, vb false, vb false, .row (.int .u32) ([]), vi 0, vs (ba []), .row .str ([]), .row .tree ([])])]) mix hI hs ?_ ?_ ?_ ?_
  · exact trivial
  · kernel_rfl
  · exact tr_mk (⟨(inR64 (by omega) (by omega)), ⟨trivial, ⟨trivial, trivial⟩⟩⟩) 3
  intro a w hs
  refine then_norm ?_
  refine wp_seq ?_
  refine way_L (tt := tt) (rs := [(2, ⟨[(10, ciA 170 [.agg [vi 1, vb false, vb false, .row (.int .u32) ([]), vi 0, vs (ba []), .row .str ([]), .row .tree ([])]] [] [] (.val (vb true)))], [(5, true), (6, true), (1007, false), (9, true), (10, true), (11, true), (1012, false)], []⟩)]) (bs := [false]) (tk := [1, 2, 3]) (bk := [0, 1000]) (C := (tr 5 ((false = false) ∧ ((True) ∧ ((false = false) ∧ ((True) ∧ ((false = false) ∧ ((True) ∧ ((false = false) ∧ ((True) ∧ ((false = false) ∧ ((okArgs [.agg [vi 1, vb false, vb false, .row (.int .u32) ([]), vi 0, vs (ba []), .row .str ([]), .row .tree ([])]]) ∧ ((false = false) ∧ ((True) ∧ ((false = false) ∧ (True))))))))))))))) ∧ ((false = false) ∧ (True))) (lv := .norm) (T' := [(1, vi 3), (2, .ptr 0 0), (3, .ptr 1000 0)]) (B' := [(0, .var [vi 1996]), (1000, .var [vi 1, vb false, vb false, .row (.int .u32) ([]), vi 0, vs (ba []), .row .str ([]), .row .tree ([])])]) mix hI hs ?_ ?_ ?_ ?_
  · exact ⟨⟨⟨ent170, c170_3⟩, trivial⟩, trivial⟩
  · kernel_rfl
  · exact ⟨tr_mk (⟨rfl, ⟨trivial, ⟨rfl, ⟨trivial, ⟨rfl, ⟨trivial, ⟨rfl, ⟨trivial, ⟨rfl, ⟨rfl, ⟨rfl, ⟨trivial, ⟨rfl, trivial⟩⟩⟩⟩⟩⟩⟩⟩⟩⟩⟩⟩⟩) 5, ⟨rfl, trivial⟩⟩
  intro a w hs
  refine then_norm ?_
  refine wp_seq ?_
  refine wp_seq ?_
  refine way_L (tt := tt) (rs := []) (bs := []) (tk := [1, 2, 28, 29, 30]) (bk := [0]) (C := tr 4 (True)) (lv := .norm) (T' := [(1, vi 3), (2, .ptr 0 0), (28, .row .tree ([])), (29, vi 0), (30, vi 0)]) (B' := [(0, .var [vi 1996])]) mix hI hs ?_ ?_ ?_ ?_
  · exact trivial
  · kernel_rfl
  · exact tr_mk (trivial) 4
  intro a w hs
  refine then_norm ?_
  refine wp_block ?_
  refine wp_loop_rounds 1 ?_
  refine rounds_step ?_
  refine way_L (tt := tt) (rs := []) (bs := [false]) (tk := []) (bk := [0]) (C := ((True) ∧ (True)) ∧ ((false = false) ∧ (True))) (lv := .exit 0) (T' := []) (B' := [(0, .var [vi 1996])]) mix hI hs ?_ ?_ ?_ ?_
  · exact trivial
  · kernel_rfl
  · exact ⟨⟨trivial, trivial⟩, ⟨rfl, trivial⟩⟩
  intro a w hs
  refine then_exit ?_
  refine inb_hit ?_
  refine then_norm ?_
  refine way_L (tt := tt) (rs := []) (bs := []) (tk := [6]) (bk := [0]) (C := ((True) ∧ (True)) ∧ (True)) (lv := .ret) (T' := [(6, vb true)]) (B' := [(0, .var [vi 1996])]) mix hI hs ?_ ?_ ?_ ?_
  · exact trivial
  · kernel_rfl
  · exact ⟨⟨trivial, trivial⟩, trivial⟩
  intro a w hs
  exact FnQB_cast (out := .val (vb true)) (bo := [(0, .var [vi 1996])]) (rfl) (rfl) (ret_okB _ hs (by kernel_rfl) (by kernel_rfl))

set_option maxRecDepth 100000 in
theorem c117_1 : ConB Tryz.prog I0 117 [.agg [vi 7, vb false, vb false, .row (.int .u32) ([]), vi 0, vs (ba []), .row .str ([(ba [98]), (ba [99])]), .row .tree ([(Tree.mk 2 false ⟨false, [], 0⟩ (ba []) ([]) ([])), (Tree.mk 1 false ⟨false, [], 0⟩ (ba []) ([]) ([]))])], vi 2, .ptr 0 0] [(0, .var [vi 1999])] (.val (vb true)) [(0, .var [vi 1996])] := by
  refine con_ofB Tryz.func117 rfl (Nat.le_of_ble_eq_true rfl) (by decide) (fun w0 fz η a hI hs => ?_)
  refine wp_seq ?_
  refine way_L (tt := tt) (rs := []) (bs := []) (tk := [1, 2, 3]) (bk := [0, 1000]) (C := (True) ∧ ((True) ∧ (True))) (lv := .norm) (T' := [(1, vi 2), (2, .ptr 0 0), (3, .ptr 1000 0)]) (B' := [(0, .var [vi 1999]), (1000, .var [vi 7, vb false, vb false, .row (.int .u32) ([]), vi 0, vs (ba []), .row .str ([(ba [98]), (ba [99])]), .row .tree ([(Tree.mk 2 false ⟨false, [], 0⟩ (ba []) ([]) ([])), (Tree.mk 1 false ⟨false, [], 0⟩ (ba []) ([]) ([]))])])]) mix hI hs ?_ ?_ ?_ ?_
  · exact trivial
  · kernel_rfl
  · exact ⟨trivial, ⟨trivial, trivial⟩⟩
  intro a w hs
  refine then_norm ?_
  refine wp_seq ?_
  refine way_L (tt := tt) (rs := []) (bs := []) (tk := [1, 2, 3]) (bk := [0, 1000]) (C := tr 3 ((InR .i64 1998) ∧ ((True) ∧ ((True) ∧ (True))))) (lv := .norm) (T' := [(1, vi 2), (2, .ptr 0 0), (3, .ptr 1000 0)]) (B' := [(0, .var [vi 1998]), (1000, .var [vi 7, vb false, vb false, .row (.int .u32) ([]), vi 0, vs (ba []), .row .str ([(ba [98]), (ba [99])]), .row .tree ([(Tree.mk 2 false ⟨false, [], 0⟩ (ba []) ([]) ([])), (Tree.mk 1 false ⟨false, [], 0⟩ (ba []) ([]) ([]))])])]) mix hI hs ?_ ?_ ?_ ?_
  · exact trivial
  · kernel_rfl
  · exact tr_mk (⟨(inR64 (by omega) (by omega)), ⟨trivial, ⟨trivial, trivial⟩⟩⟩) 3
  intro a w hs
  refine then_norm ?_
  refine wp_seq ?_
  refine way_L (tt := tt) (rs := [(2, ⟨[(10, ciA 170 [.agg [vi 7, vb false, vb false, .row (.int .u32) ([]), vi 0, vs (ba []), .row .str ([(ba [98]), (ba [99])]), .row .tree ([(Tree.mk 2 false ⟨false, [], 0⟩ (ba []) ([]) ([])), (Tree.mk 1 false ⟨false, [], 0⟩ (ba []) ([]) ([]))])]] [] [] (.val (vb true)))], [(5, true), (6, true), (1007, false), (9, true), (10, true), (11, true), (1012, false)], []⟩)]) (bs := [false]) (tk := [1, 2, 3]) (bk := [0, 1000]) (C := (tr 5 ((false = false) ∧ ((True) ∧ ((false = false) ∧ ((True) ∧ ((false = false) ∧ ((True) ∧ ((false = false) ∧ ((True) ∧ ((false = false) ∧ ((okArgs [.agg [vi 7, vb false, vb false, .row (.int .u32) ([]), vi 0, vs (ba []), .row .str ([(ba [98]), (ba [99])]), .row .tree ([(Tree.mk 2 false ⟨false, [], 0⟩ (ba []) ([]) ([])), (Tree.mk 1 false ⟨false, [], 0⟩ (ba []) ([]) ([]))])]]) ∧ ((false = false) ∧ ((True) ∧ ((false = false) ∧ (True))))))))))))))) ∧ ((false = false) ∧ (True))) (lv := .norm) (T' := [(1, vi 2), (2, .ptr 0 0), (3, .ptr 1000 0)]) (B' := [(0, .var [vi 1998]), (1000, .var [vi 7, vb false, vb false, .row (.int .u32) ([]), vi 0, vs (ba []), .row .str ([(ba [98]), (ba [99])]), .row .tree ([(Tree.mk 2 false ⟨false, [], 0⟩ (ba []) ([]) ([])), (Tree.mk 1 false ⟨false, [], 0⟩ (ba []) ([]) ([]))])])]) mix hI hs ?_ ?_ ?_ ?_
  · exact ⟨⟨⟨ent170, c170_1⟩, trivial⟩, trivial⟩
  · kernel_rfl
  · exact ⟨tr_mk (⟨rfl, ⟨trivial, ⟨rfl, ⟨trivial, ⟨rfl, ⟨trivial, ⟨rfl, ⟨trivial, ⟨rfl, ⟨rfl, ⟨rfl, ⟨trivial, ⟨rfl, trivial⟩⟩⟩⟩⟩⟩⟩⟩⟩⟩⟩⟩⟩) 5, ⟨rfl, trivial⟩⟩
  intro a w hs
  refine then_norm ?_
  refine wp_seq ?_
  refine wp_seq ?_
  refine way_L (tt := tt) (rs := []) (bs := []) (tk := [1, 2, 28, 29, 30]) (bk := [0]) (C := tr 4 (True)) (lv := .norm) (T' := [(1, vi 2), (2, .ptr 0 0), (28, .row .tree ([(Tree.mk 2 false ⟨false, [], 0⟩ (ba []) ([]) ([])), (Tree.mk 1 false ⟨false, [], 0⟩ (ba []) ([]) ([]))])), (29, vi 2), (30, vi 0)]) (B' := [(0, .var [vi 1998])]) mix hI hs ?_ ?_ ?_ ?_
  · exact trivial
  · kernel_rfl
  · exact tr_mk (trivial) 4
  intro a w hs
  refine then_norm ?_
  refine wp_block ?_
  refine wp_loop_rounds 3 ?_
  refine rounds_step ?_
  refine way_L (tt := tt) (rs := [(7, ⟨[(4, ciB 117 [.agg [vi 2, vb false, vb false, .row (.int .u32) ([]), vi 0, vs (ba []), .row .str ([]), .row .tree ([])], vi 3, .ptr 0 0] [] (.val (vb true)) [(0, .var [vi 1998])] [(0, .var [vi 1997])] [(0, 0)])], [], []⟩)]) (bs := [true, false]) (tk := [1, 2, 28, 29, 30]) (bk := [0]) (C := ((True) ∧ (True)) ∧ (((true = true) ∧ (True)) ∧ (((((0 : Int) ≤ 0 ∧ (0 : Int) < ((2 : Nat) : Int)) ∧ (tr 3 (True))) ∧ (((True) ∧ ((True) ∧ ((InR .i64 3) ∧ ((True) ∧ ((okArgs [.agg [vi 2, vb false, vb false, .row (.int .u32) ([]), vi 0, vs (ba []), .row .str ([]), .row .tree ([])], vi 3, .ptr 0 0] ∧ okBxs [some (.var [vi 1998])]) ∧ ((True) ∧ (True))))))) ∧ ((false = false) ∧ (True)))) ∧ ((InR .i64 1) ∧ ((True) ∧ (True)))))) (lv := .norm) (T' := [(1, vi 2), (2, .ptr 0 0), (28, .row .tree ([(Tree.mk 2 false ⟨false, [], 0⟩ (ba []) ([]) ([])), (Tree.mk 1 false ⟨false, [], 0⟩ (ba []) ([]) ([]))])), (29, vi 2), (30, vi 1)]) (B' := [(0, .var [vi 1997])]) mix hI hs ?_ ?_ ?_ ?_
  · exact ⟨⟨⟨ent117, c117_2⟩, trivial⟩, trivial⟩
  · kernel_rfl
  · exact ⟨⟨trivial, trivial⟩, ⟨⟨rfl, trivial⟩, ⟨⟨⟨(by decide), tr_mk (trivial) 3⟩, ⟨⟨trivial, ⟨trivial, ⟨(inR64 (by omega) (by omega)), ⟨trivial, ⟨⟨rfl, rfl⟩, ⟨trivial, trivial⟩⟩⟩⟩⟩⟩, ⟨rfl, trivial⟩⟩⟩, ⟨(inR64 (by omega) (by omega)), ⟨trivial, trivial⟩⟩⟩⟩⟩
  intro a w hs
  refine then_norm ?_
  refine rounds_step ?_
  refine way_L (tt := tt) (rs := [(7, ⟨[(4, ciB 117 [.agg [vi 1, vb false, vb false, .row (.int .u32) ([]), vi 0, vs (ba []), .row .str ([]), .row .tree ([])], vi 3, .ptr 0 0] [] (.val (vb true)) [(0, .var [vi 1997])] [(0, .var [vi 1996])] [(0, 0)])], [], []⟩)]) (bs := [true, false]) (tk := [1, 2, 28, 29, 30]) (bk := [0]) (C := ((True) ∧ (True)) ∧ (((true = true) ∧ (True)) ∧ (((((0 : Int) ≤ 1 ∧ (1 : Int) < ((2 : Nat) : Int)) ∧ (tr 3 (True))) ∧ (((True) ∧ ((True) ∧ ((InR .i64 3) ∧ ((True) ∧ ((okArgs [.agg [vi 1, vb false, vb false, .row (.int .u32) ([]), vi 0, vs (ba []), .row .str ([]), .row .tree ([])], vi 3, .ptr 0 0] ∧ okBxs [some (.var [vi 1997])]) ∧ ((True) ∧ (True))))))) ∧ ((false = false) ∧ (True)))) ∧ ((InR .i64 2) ∧ ((True) ∧ (True)))))) (lv := .norm) (T' := [(1, vi 2), (2, .ptr 0 0), (28, .row .tree ([(Tree.mk 2 false ⟨false, [], 0⟩ (ba []) ([]) ([])), (Tree.mk 1 false ⟨false, [], 0⟩ (ba []) ([]) ([]))])), (29, vi 2), (30, vi 2)]) (B' := [(0, .var [vi 1996])]) mix hI hs ?_ ?_ ?_ ?_
  · exact ⟨⟨⟨ent117, c117_3⟩, trivial⟩, trivial⟩
  · kernel_rfl
  · exact ⟨⟨trivial, trivial⟩, ⟨⟨rfl, trivial⟩, ⟨⟨⟨(by decide), tr_mk (trivial) 3⟩, ⟨⟨trivial, ⟨trivial, ⟨(inR64 (by omega) (by omega)), ⟨trivial, ⟨⟨rfl, rfl⟩, ⟨trivial, trivial⟩⟩⟩⟩⟩⟩, ⟨rfl, trivial⟩⟩⟩, ⟨(inR64 (by omega) (by omega)), ⟨trivial, trivial⟩⟩⟩⟩⟩
  intro a w hs
  refine then_norm ?_
  refine rounds_step ?_
  refine way_L (tt := tt) (rs := []) (bs := [false]) (tk := []) (bk := [0]) (C := ((True) ∧ (True)) ∧ ((false = false) ∧ (True))) (lv := .exit 0) (T' := []) (B' := [(0, .var [vi 1996])]) mix hI hs ?_ ?_ ?_ ?_
  · exact trivial
  · kernel_rfl
  · exact ⟨⟨trivial, trivial⟩, ⟨rfl, trivial⟩⟩
  intro a w hs
  refine then_exit ?_
  refine inb_hit ?_
  refine then_norm ?_
  refine way_L (tt := tt) (rs := []) (bs := []) (tk := [6]) (bk := [0]) (C := ((True) ∧ (True)) ∧ (True)) (lv := .ret) (T' := [(6, vb true)]) (B' := [(0, .var [vi 1996])]) mix hI hs ?_ ?_ ?_ ?_
  · exact trivial
  · kernel_rfl
  · exact ⟨⟨trivial, trivial⟩, trivial⟩
  intro a w hs
  exact FnQB_cast (out := .val (vb true)) (bo := [(0, .var [vi 1996])]) (rfl) (rfl) (ret_okB _ hs (by kernel_rfl) (by kernel_rfl))

set_option maxRecDepth 100000 in
theorem c117_0 : ConB Tryz.prog I0 117 [.agg [vi 7, vb false, vb false, nilv, vi 0, vs (ba []), .row .str ([(ba [97])]), .row .tree ([(Tree.mk 7 false ⟨false, [], 0⟩ (ba []) ([(ba [98]), (ba [99])]) ([(Tree.mk 2 false ⟨false, [], 0⟩ (ba []) ([]) ([])), (Tree.mk 1 false ⟨false, [], 0⟩ (ba []) ([]) ([]))]))])], vi 1, .ptr 0 0] [(0, .var [vi 2000])] (.val (vb true)) [(0, .var [vi 1996])] := by
  refine con_ofB Tryz.func117 rfl (Nat.le_of_ble_eq_true rfl) (by decide) (fun w0 fz η a hI hs => ?_)
  refine wp_seq ?_
  refine way_L (tt := tt) (rs := []) (bs := []) (tk := [1, 2, 3]) (bk := [0, 1000]) (C := (True) ∧ ((True) ∧ (True))) (lv := .norm) (T' := [(1, vi 1), (2, .ptr 0 0), (3, .ptr 1000 0)]) (B' := [(0, .var [vi 2000]), (1000, .var [vi 7, vb false, vb false, nilv, vi 0, vs (ba []), .row .str ([(ba [97])]), .row .tree ([(Tree.mk 7 false ⟨false, [], 0⟩ (ba []) ([(ba [98]), (ba [99])]) ([(Tree.mk 2 false ⟨false, [], 0⟩ (ba []) ([]) ([])), (Tree.mk 1 false ⟨false, [], 0⟩ (ba []) ([]) ([]))]))])])]) mix hI hs ?_ ?_ ?_ ?_
  · exact trivial
  · kernel_rfl
  · exact ⟨trivial, ⟨trivial, trivial⟩⟩
  intro a w hs
  refine then_norm ?_
  refine wp_seq ?_
  refine way_L (tt := tt) (rs := []) (bs := []) (tk := [1, 2, 3]) (bk := [0, 1000]) (C := tr 3 ((InR .i64 1999) ∧ ((True) ∧ ((True) ∧ (True))))) (lv := .norm) (T' := [(1, vi 1), (2, .ptr 0 0), (3, .ptr 1000 0)]) (B' := [(0, .var [vi 1999]), (1000, .var [vi 7, vb false, vb false, nilv, vi 0, vs (ba []), .row .str ([(ba [97])]), .row .tree ([(Tree.mk 7 false ⟨false, [], 0⟩ (ba []) ([(ba [98]), (ba [99])]) ([(Tree.mk 2 false ⟨false, [], 0⟩ (ba []) ([]) ([])), (Tree.mk 1 false ⟨false, [], 0⟩ (ba []) ([]) ([]))]))])])]) mix hI hs ?_ ?_ ?_ ?_
  · exact trivial
  · kernel_rfl
  · exact tr_mk (⟨(inR64 (by omega) (by omega)), ⟨trivial, ⟨trivial, trivial⟩⟩⟩) 3
  intro a w hs
  refine then_norm ?_
  refine wp_seq ?_
  refine way_L (tt := tt) (rs := [(2, ⟨[(10, ciA 170 [.agg [vi 7, vb false, vb false, nilv, vi 0, vs (ba []), .row .str ([(ba [97])]), .row .tree ([(Tree.mk 7 false ⟨false, [], 0⟩ (ba []) ([(ba [98]), (ba [99])]) ([(Tree.mk 2 false ⟨false, [], 0⟩ (ba []) ([]) ([])), (Tree.mk 1 false ⟨false, [], 0⟩ (ba []) ([]) ([]))]))])]] [] [] (.val (vb true)))], [(5, true), (6, true), (1007, false), (9, true), (10, true), (11, true), (1012, false)], []⟩)]) (bs := [false]) (tk := [1, 2, 3]) (bk := [0, 1000]) (C := (tr 5 ((false = false) ∧ ((True) ∧ ((false = false) ∧ ((True) ∧ ((false = false) ∧ ((True) ∧ ((false = false) ∧ ((True) ∧ ((false = false) ∧ ((okArgs [.agg [vi 7, vb false, vb false, nilv, vi 0, vs (ba []), .row .str ([(ba [97])]), .row .tree ([(Tree.mk 7 false ⟨false, [], 0⟩ (ba []) ([(ba [98]), (ba [99])]) ([(Tree.mk 2 false ⟨false, [], 0⟩ (ba []) ([]) ([])), (Tree.mk 1 false ⟨false, [], 0⟩ (ba []) ([]) ([]))]))])]]) ∧ ((false = false) ∧ ((True) ∧ ((false = false) ∧ (True))))))))))))))) ∧ ((false = false) ∧ (True))) (lv := .norm) (T' := [(1, vi 1), (2, .ptr 0 0), (3, .ptr 1000 0)]) (B' := [(0, .var [vi 1999]), (1000, .var [vi 7, vb false, vb false, nilv, vi 0, vs (ba []), .row .str ([(ba [97])]), .row .tree ([(Tree.mk 7 false ⟨false, [], 0⟩ (ba []) ([(ba [98]), (ba [99])]) ([(Tree.mk 2 false ⟨false, [], 0⟩ (ba []) ([]) ([])), (Tree.mk 1 false ⟨false, [], 0⟩ (ba []) ([]) ([]))]))])])]) mix hI hs ?_ ?_ ?_ ?_
  · exact ⟨⟨⟨ent170, c170_0⟩, trivial⟩, trivial⟩
  · kernel_rfl
  · exact ⟨tr_mk (⟨rfl, ⟨trivial, ⟨rfl, ⟨trivial, ⟨rfl, ⟨trivial, ⟨rfl, ⟨trivial, ⟨rfl, ⟨rfl, ⟨rfl, ⟨trivial, ⟨rfl, trivial⟩⟩⟩⟩⟩⟩⟩⟩⟩⟩⟩⟩⟩) 5, ⟨rfl, trivial⟩⟩
  intro a w hs
  refine then_norm ?_
  refine wp_seq ?_
  refine wp_seq ?_
  refine way_L (tt := tt) (rs := []) (bs := []) (tk := [1, 2, 28, 29, 30]) (bk := [0]) (C := tr 4 (True)) (lv := .norm) (T' := [(1, vi 1), (2, .ptr 0 0), (28, .row .tree ([(Tree.mk 7 false ⟨false, [], 0⟩ (ba []) ([(ba [98]), (ba [99])]) ([(Tree.mk 2 false ⟨false, [], 0⟩ (ba []) ([]) ([])), (Tree.mk 1 false ⟨false, [], 0⟩ (ba []) ([]) ([]))]))])), (29, vi 1), (30, vi 0)]) (B' := [(0, .var [vi 1999])]) mix hI hs ?_ ?_ ?_ ?_
  · exact trivial
  · kernel_rfl
  · exact tr_mk (trivial) 4
  intro a w hs
  refine then_norm ?_
  refine wp_block ?_
  refine wp_loop_rounds 2 ?_
  refine rounds_step ?_
  refine way_L (tt := tt) (rs := [(7, ⟨[(4, ciB 117 [.agg [vi 7, vb false, vb false, .row (.int .u32) ([]), vi 0, vs (ba []), .row .str ([(ba [98]), (ba [99])]), .row .tree ([(Tree.mk 2 false ⟨false, [], 0⟩ (ba []) ([]) ([])), (Tree.mk 1 false ⟨false, [], 0⟩ (ba []) ([]) ([]))])], vi 2, .ptr 0 0] [] (.val (vb true)) [(0, .var [vi 1999])] [(0, .var [vi 1996])] [(0, 0)])], [], []⟩)]) (bs := [true, false]) (tk := [1, 2, 28, 29, 30]) (bk := [0]) (C := ((True) ∧ (True)) ∧ (((true = true) ∧ (True)) ∧ (((((0 : Int) ≤ 0 ∧ (0 : Int) < ((1 : Nat) : Int)) ∧ (tr 3 (True))) ∧ (((True) ∧ ((True) ∧ ((InR .i64 2) ∧ ((True) ∧ ((okArgs [.agg [vi 7, vb false, vb false, .row (.int .u32) ([]), vi 0, vs (ba []), .row .str ([(ba [98]), (ba [99])]), .row .tree ([(Tree.mk 2 false ⟨false, [], 0⟩ (ba []) ([]) ([])), (Tree.mk 1 false ⟨false, [], 0⟩ (ba []) ([]) ([]))])], vi 2, .ptr 0 0] ∧ okBxs [some (.var [vi 1999])]) ∧ ((True) ∧ (True))))))) ∧ ((false = false) ∧ (True)))) ∧ ((InR .i64 1) ∧ ((True) ∧ (True)))))) (lv := .norm) (T' := [(1, vi 1), (2, .ptr 0 0), (28, .row .tree ([(Tree.mk 7 false ⟨false, [], 0⟩ (ba []) ([(ba [98]), (ba [99])]) ([(Tree.mk 2 false ⟨false, [], 0⟩ (ba []) ([]) ([])), (Tree.mk 1 false ⟨false, [], 0⟩ (ba []) ([]) ([]))]))])), (29, vi 1), (30, vi 1)]) (B' := [(0, .var [vi 1996])]) mix hI hs ?_ ?_ ?_ ?_
  · exact ⟨⟨⟨ent117, c117_1⟩, trivial⟩, trivial⟩
  · kernel_rfl
  · exact ⟨⟨trivial, trivial⟩, ⟨⟨rfl, trivial⟩, ⟨⟨⟨(by decide), tr_mk (trivial) 3⟩, ⟨⟨trivial, ⟨trivial, ⟨(inR64 (by omega) (by omega)), ⟨trivial, ⟨⟨rfl, rfl⟩, ⟨trivial, trivial⟩⟩⟩⟩⟩⟩, ⟨rfl, trivial⟩⟩⟩, ⟨(inR64 (by omega) (by omega)), ⟨trivial, trivial⟩⟩⟩⟩⟩
  intro a w hs
  refine then_norm ?_
  refine rounds_step ?_
  refine way_L (tt := tt) (rs := []) (bs := [false]) (tk := []) (bk := [0]) (C := ((True) ∧ (True)) ∧ ((false = false) ∧ (True))) (lv := .exit 0) (T' := []) (B' := [(0, .var [vi 1996])]) mix hI hs ?_ ?_ ?_ ?_
  · exact trivial
  · kernel_rfl
  · exact ⟨⟨trivial, trivial⟩, ⟨rfl, trivial⟩⟩
  intro a w hs
  refine then_exit ?_
  refine inb_hit ?_
  refine then_norm ?_
  refine way_L (tt := tt) (rs := []) (bs := []) (tk := [6]) (bk := [0]) (C := ((True) ∧ (True)) ∧ (True)) (lv := .ret) (T' := [(6, vb true)]) (B' := [(0, .var [vi 1996])]) mix hI hs ?_ ?_ ?_ ?_
  · exact trivial
  · kernel_rfl
  · exact ⟨⟨trivial, trivial⟩, trivial⟩
  intro a w hs
  exact FnQB_cast (out := .val (vb true)) (bo := [(0, .var [vi 1996])]) (rfl) (rfl) (ret_okB _ hs (by kernel_rfl) (by kernel_rfl))

set_option maxRecDepth 100000 in
theorem c57_0 : Con Tryz.prog I0 57 [.agg [vi 7, vb false, vb false, nilv, vi 0, vs (ba []), .row .str ([(ba [97])]), .row .tree ([(Tree.mk 7 false ⟨false, [], 0⟩ (ba []) ([(ba [98]), (ba [99])]) ([(Tree.mk 2 false ⟨false, [], 0⟩ (ba []) ([]) ([])), (Tree.mk 1 false ⟨false, [], 0⟩ (ba []) ([]) ([]))]))])]] (.val (vb true)) := by
  refine con_of Tryz.func57 rfl (Nat.le_of_ble_eq_true rfl) stab (fun w0 fz a hI hs => ?_)
  refine way_L (tt := tt) (rs := [(2, ⟨[(1, ciB 117 [.agg [vi 7, vb false, vb false, nilv, vi 0, vs (ba []), .row .str ([(ba [97])]), .row .tree ([(Tree.mk 7 false ⟨false, [], 0⟩ (ba []) ([(ba [98]), (ba [99])]) ([(Tree.mk 2 false ⟨false, [], 0⟩ (ba []) ([]) ([])), (Tree.mk 1 false ⟨false, [], 0⟩ (ba []) ([]) ([]))]))])], vi 1, .ptr 0 0] [] (.val (vb true)) [(0, .var [vi 2000])] [(0, .var [vi 1996])] [(0, 2000)])], [], []⟩)]) (bs := []) (tk := [2]) (bk := []) (C := ((True) ∧ ((True) ∧ (True))) ∧ (((True) ∧ ((True) ∧ (True))) ∧ (((True) ∧ ((okArgs [.agg [vi 7, vb false, vb false, nilv, vi 0, vs (ba []), .row .str ([(ba [97])]), .row .tree ([(Tree.mk 7 false ⟨false, [], 0⟩ (ba []) ([(ba [98]), (ba [99])]) ([(Tree.mk 2 false ⟨false, [], 0⟩ (ba []) ([]) ([])), (Tree.mk 1 false ⟨false, [], 0⟩ (ba []) ([]) ([]))]))])], vi 1, .ptr 2000 0] ∧ okBxs [some (.var [vi 2000])]) ∧ ((True) ∧ (True)))) ∧ (True)))) (lv := .ret) (T' := [(2, vb true)]) (B' := []) mix hI hs ?_ ?_ ?_ ?_
  · exact ⟨⟨⟨ent117, c117_0⟩, trivial⟩, trivial⟩
  · kernel_rfl
  · exact ⟨⟨trivial, ⟨trivial, trivial⟩⟩, ⟨⟨trivial, ⟨trivial, trivial⟩⟩, ⟨⟨trivial, ⟨⟨rfl, rfl⟩, ⟨trivial, trivial⟩⟩⟩, trivial⟩⟩⟩
  intro a w hs
  exact FnQ_cast (out := .val (vb true)) (rfl) (ret_ok [] hs ⟨by kernel_rfl, rfl⟩)

set_option maxRecDepth 100000 in
theorem c216_2 : Con Tryz.prog I0 216 [nilv] (.val (vb true)) := by
  refine con_of Tryz.func216 rfl (Nat.le_of_ble_eq_true rfl) stab (fun w0 fz a hI hs => ?_)
  refine wp_seq ?_
  refine way_L (tt := tt) (rs := []) (bs := []) (tk := [0]) (bk := []) (C := (True) ∧ (True)) (lv := .norm) (T' := [(0, nilv)]) (B' := []) mix hI hs ?_ ?_ ?_ ?_
  · exact trivial
  · kernel_rfl
  · exact ⟨trivial, trivial⟩
  intro a w hs
  refine then_norm ?_
  refine wp_seq ?_
  refine wp_seq ?_
  refine way_L (tt := tt) (rs := []) (bs := []) (tk := [0, 5, 6, 7]) (bk := []) (C := tr 3 (True)) (lv := .norm) (T' := [(0, nilv), (5, nilv), (6, vi 0), (7, vi 0)]) (B' := []) mix hI hs ?_ ?_ ?_ ?_
  · exact trivial
  · kernel_rfl
  · exact tr_mk (trivial) 3
  intro a w hs
  refine then_norm ?_
  refine wp_block ?_
  refine wp_loop_rounds 1 ?_
  refine rounds_step ?_
  refine way_L (tt := tt) (rs := []) (bs := [false]) (tk := [0]) (bk := []) (C := ((True) ∧ (True)) ∧ ((false = false) ∧ (True))) (lv := .exit 0) (T' := [(0, nilv)]) (B' := []) mix hI hs ?_ ?_ ?_ ?_
  · exact trivial
  · kernel_rfl
  · exact ⟨⟨trivial, trivial⟩, ⟨rfl, trivial⟩⟩
  intro a w hs
  refine then_exit ?_
  refine inb_hit ?_
  refine then_norm ?_
  refine way_L (tt := tt) (rs := []) (bs := []) (tk := [2]) (bk := []) (C := (tr 4 (True)) ∧ (True)) (lv := .ret) (T' := [(2, vb true)]) (B' := []) mix hI hs ?_ ?_ ?_ ?_
  · exact trivial
  · kernel_rfl
  · exact ⟨tr_mk (trivial) 4, trivial⟩
  intro a w hs
  exact FnQ_cast (out := .val (vb true)) (rfl) (ret_ok [] hs ⟨by kernel_rfl, rfl⟩)

set_option maxRecDepth 100000 in
theorem c170_4 : Con Tryz.prog I0 170 [.agg [vi 7, vb false, vb false, nilv, vi 0, vs (ba []), nilv, nilv]] (.val (vb true)) := by
  refine con_of Tryz.func170 rfl (Nat.le_of_ble_eq_true rfl) stab (fun w0 fz a hI hs => ?_)
  refine way_L (tt := tt) (rs := [(1, ⟨[], [(8, true), (9, true), (10, true), (11, true), (12, true), (1013, true), (15, true), (16, true), (17, true), (18, true), (1019, true)], []⟩), (15, ⟨[(2, ciA 216 [nilv] [] [] (.val (vb true)))], [(4, true), (5, true), (6, true), (7, true), (8, true), (9, true), (10, true), (1011, true)], []⟩), (18, ⟨[], [(2, true), (1003, true), (5, true), (1006, true), (8, true), (1009, true), (11, true), (1012, true)], []⟩)]) (bs := [false, false, false, false, false, true]) (tk := [2]) (bk := []) (C := ((True) ∧ ((True) ∧ (True))) ∧ ((tr 8 (((true = true) ∧ (True)) ∧ (((true = true) ∧ (True)) ∧ (((true = true) ∧ (True)) ∧ (((true = true) ∧ (True)) ∧ (((true = true) ∧ (True)) ∧ ((true = true) ∧ ((True) ∧ (((true = true) ∧ (True)) ∧ (((true = true) ∧ (True)) ∧ (((true = true) ∧ (True)) ∧ (((true = true) ∧ (True)) ∧ ((true = true) ∧ (tr 6 (True))))))))))))))) ∧ ((tr 10 (True)) ∧ ((((True) ∧ ((True) ∧ (True))) ∧ ((((((True) ∧ ((True) ∧ (True))) ∧ ((false = false) ∧ (True))) ∧ ((((True) ∧ ((True) ∧ (True))) ∧ ((false = false) ∧ (True))) ∧ ((((True) ∧ ((True) ∧ (True))) ∧ ((false = false) ∧ (True))) ∧ ((((True) ∧ ((True) ∧ (True))) ∧ ((false = false) ∧ (True))) ∧ ((((True) ∧ ((True) ∧ (True))) ∧ ((false = false) ∧ (True))) ∧ (((True) ∧ ((True) ∧ (True))) ∧ ((true = true) ∧ (True)))))))) ∧ ((True) ∧ ((True) ∧ ((okArgs [nilv]) ∧ ((True) ∧ ((true = true) ∧ ((True) ∧ ((true = true) ∧ ((True) ∧ ((true = true) ∧ ((True) ∧ ((true = true) ∧ ((True) ∧ ((true = true) ∧ ((True) ∧ ((true = true) ∧ ((True) ∧ ((true = true) ∧ ((True) ∧ ((true = true) ∧ ((True) ∧ (True)))))))))))))))))))))) ∧ ((tr 5 (True)) ∧ (True)))) ∧ (((True) ∧ ((True) ∧ ((true = true) ∧ ((True) ∧ ((true = true) ∧ ((True) ∧ ((true = true) ∧ ((True) ∧ ((true = true) ∧ ((True) ∧ ((true = true) ∧ ((True) ∧ ((true = true) ∧ ((True) ∧ ((true = true) ∧ ((True) ∧ ((true = true) ∧ ((True) ∧ (True))))))))))))))))))) ∧ (True)))))) (lv := .ret) (T' := [(2, vb true)]) (B' := []) mix hI hs ?_ ?_ ?_ ?_
  · exact ⟨trivial, ⟨⟨⟨ent216, c216_2⟩, trivial⟩, ⟨trivial, trivial⟩⟩⟩
  · kernel_rfl
  · exact ⟨⟨trivial, ⟨trivial, trivial⟩⟩, ⟨tr_mk (⟨⟨rfl, trivial⟩, ⟨⟨rfl, trivial⟩, ⟨⟨rfl, trivial⟩, ⟨⟨rfl, trivial⟩, ⟨⟨rfl, trivial⟩, ⟨rfl, ⟨trivial, ⟨⟨rfl, trivial⟩, ⟨⟨rfl, trivial⟩, ⟨⟨rfl, trivial⟩, ⟨⟨rfl, trivial⟩, ⟨rfl, tr_mk (trivial) 6⟩⟩⟩⟩⟩⟩⟩⟩⟩⟩⟩⟩) 8, ⟨tr_mk (trivial) 10, ⟨⟨⟨trivial, ⟨trivial, trivial⟩⟩, ⟨⟨⟨⟨⟨trivial, ⟨trivial, trivial⟩⟩, ⟨rfl, trivial⟩⟩, ⟨⟨⟨trivial, ⟨trivial, trivial⟩⟩, ⟨rfl, trivial⟩⟩, ⟨⟨⟨trivial, ⟨trivial, trivial⟩⟩, ⟨rfl, trivial⟩⟩, ⟨⟨⟨trivial, ⟨trivial, trivial⟩⟩, ⟨rfl, trivial⟩⟩, ⟨⟨⟨trivial, ⟨trivial, trivial⟩⟩, ⟨rfl, trivial⟩⟩, ⟨⟨trivial, ⟨trivial, trivial⟩⟩, ⟨rfl, trivial⟩⟩⟩⟩⟩⟩⟩, ⟨trivial, ⟨trivial, ⟨rfl, ⟨trivial, ⟨rfl, ⟨trivial, ⟨rfl, ⟨trivial, ⟨rfl, ⟨trivial, ⟨rfl, ⟨trivial, ⟨rfl, ⟨trivial, ⟨rfl, ⟨trivial, ⟨rfl, ⟨trivial, ⟨rfl, ⟨trivial, trivial⟩⟩⟩⟩⟩⟩⟩⟩⟩⟩⟩⟩⟩⟩⟩⟩⟩⟩⟩⟩⟩, ⟨tr_mk (trivial) 5, trivial⟩⟩⟩, ⟨⟨trivial, ⟨trivial, ⟨rfl, ⟨trivial, ⟨rfl, ⟨trivial, ⟨rfl, ⟨trivial, ⟨rfl, ⟨trivial, ⟨rfl, ⟨trivial, ⟨rfl, ⟨trivial, ⟨rfl, ⟨trivial, ⟨rfl, ⟨trivial, trivial⟩⟩⟩⟩⟩⟩⟩⟩⟩⟩⟩⟩⟩⟩⟩⟩⟩⟩, trivial⟩⟩⟩⟩⟩
  intro a w hs
  exact FnQ_cast (out := .val (vb true)) (rfl) (ret_ok [] hs ⟨by kernel_rfl, rfl⟩)

set_option maxRecDepth 100000 in
theorem c117_4 : ConB Tryz.prog I0 117 [.agg [vi 7, vb false, vb false, nilv, vi 0, vs (ba []), nilv, nilv], vi 1, .ptr 0 0] [(0, .var [vi 2000])] (.val (vb true)) [(0, .var [vi 1999])] := by
  refine con_ofB Tryz.func117 rfl (Nat.le_of_ble_eq_true rfl) (by decide) (fun w0 fz η a hI hs => ?_)
  refine wp_seq ?_
  refine way_L (tt := tt) (rs := []) (bs := []) (tk := [1, 2, 3]) (bk := [0, 1000]) (C := (True) ∧ ((True) ∧ (True))) (lv := .norm) (T' := [(1, vi 1), (2, .ptr 0 0), (3, .ptr 1000 0)]) (B' := [(0, .var [vi 2000]), (1000, .var [vi 7, vb false, vb false, nilv, vi 0, vs (ba []), nilv, nilv])]) mix hI hs ?_ ?_ ?_ ?_
  · exact trivial
  · kernel_rfl
  · exact ⟨trivial, ⟨trivial, trivial⟩⟩
  intro a w hs
  refine then_norm ?_
  refine wp_seq ?_
  refine way_L (tt := tt) (rs := []) (bs := []) (tk := [1, 2, 3]) (bk := [0, 1000]) (C := tr 3 ((InR .i64 1999) ∧ ((True) ∧ ((True) ∧ (True))))) (lv := .norm) (T' := [(1, vi 1), (2, .ptr 0 0), (3, .ptr 1000 0)]) (B' := [(0, .var [vi 1999]), (1000, .var [vi 7, vb false, vb false, nilv, vi 0, vs (ba []), nilv, nilv])]) mix hI hs ?_ ?_ ?_ ?_
  · exact trivial
  · kernel_rfl
  · exact tr_mk (⟨(inR64 (by omega) (by omega)), ⟨trivial, ⟨trivial, trivial⟩⟩⟩) 3
  intro a w hs
  refine then_norm ?_
  refine wp_seq ?_
  refine way_L (tt := tt) (rs := [(2, ⟨[(10, ciA 170 [.agg [vi 7, vb false, vb false, nilv, vi 0, vs (ba []), nilv, nilv]] [] [] (.val (vb true)))], [(5, true), (6, true), (1007, false), (9, true), (10, true), (11, true), (1012, false)], []⟩)]) (bs := [false]) (tk := [1, 2, 3]) (bk := [0, 1000]) (C := (tr 5 ((false = false) ∧ ((True) ∧ ((false = false) ∧ ((True) ∧ ((false = false) ∧ ((True) ∧ ((false = false) ∧ ((True) ∧ ((false = false) ∧ ((okArgs [.agg [vi 7, vb false, vb false, nilv, vi 0, vs (ba []), nilv, nilv]]) ∧ ((false = false) ∧ ((True) ∧ ((false = false) ∧ (True))))))))))))))) ∧ ((false = false) ∧ (True))) (lv := .norm) (T' := [(1, vi 1), (2, .ptr 0 0), (3, .ptr 1000 0)]) (B' := [(0, .var [vi 1999]), (1000, .var [vi 7, vb false, vb false, nilv, vi 0, vs (ba []), nilv, nilv])]) mix hI hs ?_ ?_ ?_ ?_
  · exact ⟨⟨⟨ent170, c170_4⟩, trivial⟩, trivial⟩
  · kernel_rfl
  · exact ⟨tr_mk (⟨rfl, ⟨trivial, ⟨rfl, ⟨trivial, ⟨rfl, ⟨trivial, ⟨rfl, ⟨trivial, ⟨rfl, ⟨rfl, ⟨rfl, ⟨trivial, ⟨rfl, trivial⟩⟩⟩⟩⟩⟩⟩⟩⟩⟩⟩⟩⟩) 5, ⟨rfl, trivial⟩⟩
  intro a w hs
  refine then_norm ?_
  refine wp_seq ?_
  refine wp_seq ?_
  refine way_L (tt := tt) (rs := []) (bs := []) (tk := [1, 2, 28, 29, 30]) (bk := [0]) (C := tr 4 (True)) (lv := .norm) (T' := [(1, vi 1), (2, .ptr 0 0), (28, nilv), (29, vi 0), (30, vi 0)]) (B' := [(0, .var [vi 1999])]) mix hI hs ?_ ?_ ?_ ?_
  · exact trivial
  · kernel_rfl
  · exact tr_mk (trivial) 4
  intro a w hs
  refine then_norm ?_
  refine wp_block ?_
  refine wp_loop_rounds 1 ?_
  refine rounds_step ?_
  refine way_L (tt := tt) (rs := []) (bs := [false]) (tk := []) (bk := [0]) (C := ((True) ∧ (True)) ∧ ((false = false) ∧ (True))) (lv := .exit 0) (T' := []) (B' := [(0, .var [vi 1999])]) mix hI hs ?_ ?_ ?_ ?_
  · exact trivial
  · kernel_rfl
  · exact ⟨⟨trivial, trivial⟩, ⟨rfl, trivial⟩⟩
  intro a w hs
  refine then_exit ?_
  refine inb_hit ?_
  refine then_norm ?_
  refine way_L (tt := tt) (rs := []) (bs := []) (tk := [6]) (bk := [0]) (C := ((True) ∧ (True)) ∧ (True)) (lv := .ret) (T' := [(6, vb true)]) (B' := [(0, .var [vi 1999])]) mix hI hs ?_ ?_ ?_ ?_
  · exact trivial
  · kernel_rfl
  · exact ⟨⟨trivial, trivial⟩, trivial⟩
  intro a w hs
  exact FnQB_cast (out := .val (vb true)) (bo := [(0, .var [vi 1999])]) (rfl) (rfl) (ret_okB _ hs (by kernel_rfl) (by kernel_rfl))

set_option maxRecDepth 100000 in
theorem c57_1 : Con Tryz.prog I0 57 [.agg [vi 7, vb false, vb false, nilv, vi 0, vs (ba []), nilv, nilv]] (.val (vb true)) := by
  refine con_of Tryz.func57 rfl (Nat.le_of_ble_eq_true rfl) stab (fun w0 fz a hI hs => ?_)
  refine way_L (tt := tt) (rs := [(2, ⟨[(1, ciB 117 [.agg [vi 7, vb false, vb false, nilv, vi 0, vs (ba []), nilv, nilv], vi 1, .ptr 0 0] [] (.val (vb true)) [(0, .var [vi 2000])] [(0, .var [vi 1999])] [(0, 2000)])], [], []⟩)]) (bs := []) (tk := [2]) (bk := []) (C := ((True) ∧ ((True) ∧ (True))) ∧ (((True) ∧ ((True) ∧ (True))) ∧ (((True) ∧ ((okArgs [.agg [vi 7, vb false, vb false, nilv, vi 0, vs (ba []), nilv, nilv], vi 1, .ptr 2000 0] ∧ okBxs [some (.var [vi 2000])]) ∧ ((True) ∧ (True)))) ∧ (True)))) (lv := .ret) (T' := [(2, vb true)]) (B' := []) mix hI hs ?_ ?_ ?_ ?_
  · exact ⟨⟨⟨ent117, c117_4⟩, trivial⟩, trivial⟩
  · kernel_rfl
  · exact ⟨⟨trivial, ⟨trivial, trivial⟩⟩, ⟨⟨trivial, ⟨trivial, trivial⟩⟩, ⟨⟨trivial, ⟨⟨rfl, rfl⟩, ⟨trivial, trivial⟩⟩⟩, trivial⟩⟩⟩
  intro a w hs
  exact FnQ_cast (out := .val (vb true)) (rfl) (ret_ok [] hs ⟨by kernel_rfl, rfl⟩)

set_option maxRecDepth 100000 in
theorem c37_0 : Con Tryz.prog I0 37 [vs (ba [97])] (.val (vb true)) := by
  refine con_of Tryz.func37 rfl (Nat.le_of_ble_eq_true rfl) stab (fun w0 fz a hI hs => ?_)
  refine wp_seq ?_
  refine way_L (tt := tt) (rs := []) (bs := []) (tk := [0]) (bk := []) (C := (True) ∧ (True)) (lv := .norm) (T' := [(0, vs (ba [97]))]) (B' := []) mix hI hs ?_ ?_ ?_ ?_
  · exact trivial
  · kernel_rfl
  · exact ⟨trivial, trivial⟩
  intro a w hs
  refine then_norm ?_
  refine wp_seq ?_
  refine wp_seq ?_
  refine way_L (tt := tt) (rs := []) (bs := []) (tk := [0, 7, 8]) (bk := []) (C := tr 3 (True)) (lv := .norm) (T' := [(0, vs (ba [97])), (7, vi 1), (8, vi 0)]) (B' := []) mix hI hs ?_ ?_ ?_ ?_
  · exact trivial
  · kernel_rfl
  · exact tr_mk (trivial) 3
  intro a w hs
  refine then_norm ?_
  refine wp_block ?_
  refine wp_loop_rounds 2 ?_
  refine rounds_step ?_
  refine way_L (tt := tt) (rs := [(5, ⟨[], [(3, true), (4, true), (1005, true), (7, false), (8, false), (9, false), (10, false), (1011, true)], []⟩), (6, ⟨[], [(3, false), (4, false), (5, false), (10, false), (11, false), (16, false), (1017, false)], []⟩)]) (bs := [true, false]) (tk := [0, 7, 8, 18, 19, 22, 23, 24, 25, 30, 31, 32, 33, 34, 35, 36, 37, 38, 39, 40, 41, 42, 43]) (bk := []) (C := ((True) ∧ (True)) ∧ (((true = true) ∧ (True)) ∧ ((((True) ∧ ((True) ∧ (True))) ∧ (((True) ∧ ((True) ∧ (((0 : Int) ≤ 0 ∧ (0 : Int) < ((1 : Nat) : Int)) ∧ ((True) ∧ ((True) ∧ (True)))))) ∧ ((tr 3 ((true = true) ∧ ((True) ∧ ((true = true) ∧ ((True) ∧ ((true = true) ∧ ((True) ∧ ((true = true) ∧ ((true = true) ∧ ((true = true) ∧ ((true = true) ∧ ((true = true) ∧ ((True) ∧ (True)))))))))))))) ∧ ((tr 3 ((false = false) ∧ ((false = false) ∧ ((false = false) ∧ (tr 4 ((false = false) ∧ ((false = false) ∧ (tr 4 ((false = false) ∧ ((false = false) ∧ (True))))))))))) ∧ ((false = false) ∧ (True)))))) ∧ ((InR .i64 1) ∧ ((True) ∧ (True)))))) (lv := .norm) (T' := [(0, vs (ba [97])), (7, vi 1), (8, vi 1), (18, .lit (.int .u8 97)), (19, vb true), (22, undA), (23, undA), (24, undA), (25, undA), (30, undA), (31, undA), (32, undA), (33, undA), (34, undA), (35, undA), (36, undA), (37, undA), (38, undA), (39, undA), (40, undA), (41, undA), (42, undA), (43, undA)]) (B' := []) mix hI hs ?_ ?_ ?_ ?_
  · exact ⟨trivial, ⟨trivial, trivial⟩⟩
  · kernel_rfl
  · exact ⟨⟨trivial, trivial⟩, ⟨⟨rfl, trivial⟩, ⟨⟨⟨trivial, ⟨trivial, trivial⟩⟩, ⟨⟨trivial, ⟨trivial, ⟨(by decide), ⟨trivial, ⟨trivial, trivial⟩⟩⟩⟩⟩, ⟨tr_mk (⟨rfl, ⟨trivial, ⟨rfl, ⟨trivial, ⟨rfl, ⟨trivial, ⟨rfl, ⟨rfl, ⟨rfl, ⟨rfl, ⟨rfl, ⟨trivial, trivial⟩⟩⟩⟩⟩⟩⟩⟩⟩⟩⟩⟩) 3, ⟨tr_mk (⟨rfl, ⟨rfl, ⟨rfl, tr_mk (⟨rfl, ⟨rfl, tr_mk (⟨rfl, ⟨rfl, trivial⟩⟩) 4⟩⟩) 4⟩⟩⟩) 3, ⟨rfl, trivial⟩⟩⟩⟩⟩, ⟨(inR64 (by omega) (by omega)), ⟨trivial, trivial⟩⟩⟩⟩⟩
  intro a w hs
  refine then_norm ?_
  refine rounds_step ?_
  refine way_L (tt := tt) (rs := []) (bs := [false]) (tk := [0]) (bk := []) (C := ((True) ∧ (True)) ∧ ((false = false) ∧ (True))) (lv := .exit 0) (T' := [(0, vs (ba [97]))]) (B' := []) mix hI hs ?_ ?_ ?_ ?_
  · exact trivial
  · kernel_rfl
  · exact ⟨⟨trivial, trivial⟩, ⟨rfl, trivial⟩⟩
  intro a w hs
  refine then_exit ?_
  refine inb_hit ?_
  refine then_norm ?_
  refine way_L (tt := tt) (rs := [(9, ⟨[], [(3, true), (4, true), (5, true), (1006, true)], []⟩)]) (bs := []) (tk := [2]) (bk := []) (C := (tr 3 ((true = true) ∧ ((True) ∧ ((true = true) ∧ ((True) ∧ ((true = true) ∧ ((True) ∧ ((true = true) ∧ ((True) ∧ (True)))))))))) ∧ (True)) (lv := .ret) (T' := [(2, vb true)]) (B' := []) mix hI hs ?_ ?_ ?_ ?_
  · exact ⟨trivial, trivial⟩
  · kernel_rfl
  · exact ⟨tr_mk (⟨rfl, ⟨trivial, ⟨rfl, ⟨trivial, ⟨rfl, ⟨trivial, ⟨rfl, ⟨trivial, trivial⟩⟩⟩⟩⟩⟩⟩⟩) 3, trivial⟩
  intro a w hs
  exact FnQ_cast (out := .val (vb true)) (rfl) (ret_ok [] hs ⟨by kernel_rfl, rfl⟩)

set_option maxRecDepth 100000 in
theorem c91_0 : Con Tryz.prog I0 91 [vs (ba [97])] (.val (vb false)) := by
  refine con_of Tryz.func91 rfl (Nat.le_of_ble_eq_true rfl) stab (fun w0 fz a hI hs => ?_)
  refine way_L (tt := tt) (rs := [(1, ⟨[(1, ciA 37 [vs (ba [97])] [] [] (.val (vb true)))], [], []⟩)]) (bs := []) (tk := [2]) (bk := []) (C := ((True) ∧ (True)) ∧ (((True) ∧ ((okArgs [vs (ba [97])]) ∧ ((True) ∧ ((True) ∧ (True))))) ∧ (True))) (lv := .ret) (T' := [(2, vb false)]) (B' := []) mix hI hs ?_ ?_ ?_ ?_
  · exact ⟨⟨⟨ent37, c37_0⟩, trivial⟩, trivial⟩
  · kernel_rfl
  · exact ⟨⟨trivial, trivial⟩, ⟨⟨trivial, ⟨rfl, ⟨trivial, ⟨trivial, trivial⟩⟩⟩⟩, trivial⟩⟩
  intro a w hs
  exact FnQ_cast (out := .val (vb false)) (rfl) (ret_ok [] hs ⟨by kernel_rfl, rfl⟩)

set_option maxRecDepth 100000 in
theorem c37_1 : Con Tryz.prog I0 37 [vs (ba [98])] (.val (vb true)) := by
  refine con_of Tryz.func37 rfl (Nat.le_of_ble_eq_true rfl) stab (fun w0 fz a hI hs => ?_)
  refine wp_seq ?_
  refine way_L (tt := tt) (rs := []) (bs := []) (tk := [0]) (bk := []) (C := (True) ∧ (True)) (lv := .norm) (T' := [(0, vs (ba [98]))]) (B' := []) mix hI hs ?_ ?_ ?_ ?_
  · exact trivial
  · kernel_rfl
  · exact ⟨trivial, trivial⟩
  intro a w hs
  refine then_norm ?_
  refine wp_seq ?_
  refine wp_seq ?_
  refine way_L (tt := tt) (rs := []) (bs := []) (tk := [0, 7, 8]) (bk := []) (C := tr 3 (True)) (lv := .norm) (T' := [(0, vs (ba [98])), (7, vi 1), (8, vi 0)]) (B' := []) mix hI hs ?_ ?_ ?_ ?_
  · exact trivial
  · kernel_rfl
  · exact tr_mk (trivial) 3
  intro a w hs
  refine then_norm ?_
  refine wp_block ?_
  refine wp_loop_rounds 2 ?_
  refine rounds_step ?_
  refine way_L (tt := tt) (rs := [(5, ⟨[], [(3, true), (4, true), (1005, true), (7, false), (8, false), (9, false), (10, false), (1011, true)], []⟩), (6, ⟨[], [(3, false), (4, false), (5, false), (10, false), (11, false), (16, false), (1017, false)], []⟩)]) (bs := [true, false]) (tk := [0, 7, 8, 18, 19, 22, 23, 24, 25, 30, 31, 32, 33, 34, 35, 36, 37, 38, 39, 40, 41, 42, 43]) (bk := []) (C := ((True) ∧ (True)) ∧ (((true = true) ∧ (True)) ∧ ((((True) ∧ ((True) ∧ (True))) ∧ (((True) ∧ ((True) ∧ (((0 : Int) ≤ 0 ∧ (0 : Int) < ((1 : Nat) : Int)) ∧ ((True) ∧ ((True) ∧ (True)))))) ∧ ((tr 3 ((true = true) ∧ ((True) ∧ ((true = true) ∧ ((True) ∧ ((true = true) ∧ ((True) ∧ ((true = true) ∧ ((true = true) ∧ ((true = true) ∧ ((true = true) ∧ ((true = true) ∧ ((True) ∧ (True)))))))))))))) ∧ ((tr 3 ((false = false) ∧ ((false = false) ∧ ((false = false) ∧ (tr 4 ((false = false) ∧ ((false = false) ∧ (tr 4 ((false = false) ∧ ((false = false) ∧ (True))))))))))) ∧ ((false = false) ∧ (True)))))) ∧ ((InR .i64 1) ∧ ((True) ∧ (True)))))) (lv := .norm) (T' := [(0, vs (ba [98])), (7, vi 1), (8, vi 1), (18, .lit (.int .u8 98)), (19, vb true), (22, undA), (23, undA), (24, undA), (25, undA), (30, undA), (31, undA), (32, undA), (33, undA), (34, undA), (35, undA), (36, undA), (37, undA), (38, undA), (39, undA), (40, undA), (41, undA), (42, undA), (43, undA)]) (B' := []) mix hI hs ?_ ?_ ?_ ?_
  · exact ⟨trivial, ⟨trivial, trivial⟩⟩
  · kernel_rfl
  · exact ⟨⟨trivial, trivial⟩, ⟨⟨rfl, trivial⟩, ⟨⟨⟨trivial, ⟨trivial, trivial⟩⟩, ⟨⟨trivial, ⟨trivial, ⟨(by decide), ⟨trivial, ⟨trivial, trivial⟩⟩⟩⟩⟩, ⟨tr_mk (⟨rfl, ⟨trivial, ⟨rfl, ⟨trivial, ⟨rfl, ⟨trivial, ⟨rfl, ⟨rfl, ⟨rfl, ⟨rfl, ⟨rfl, ⟨trivial, trivial⟩⟩⟩⟩⟩⟩⟩⟩⟩⟩⟩⟩) 3, ⟨tr_mk (⟨rfl, ⟨rfl, ⟨rfl, tr_mk (⟨rfl, ⟨rfl, tr_mk (⟨rfl, ⟨rfl, trivial⟩⟩) 4⟩⟩) 4⟩⟩⟩) 3, ⟨rfl, trivial⟩⟩⟩⟩⟩, ⟨(inR64 (by omega) (by omega)), ⟨trivial, trivial⟩⟩⟩⟩⟩
  intro a w hs
  refine then_norm ?_
  refine rounds_step ?_
  refine way_L (tt := tt) (rs := []) (bs := [false]) (tk := [0]) (bk := []) (C := ((True) ∧ (True)) ∧ ((false = false) ∧ (True))) (lv := .exit 0) (T' := [(0, vs (ba [98]))]) (B' := []) mix hI hs ?_ ?_ ?_ ?_
  · exact trivial
  · kernel_rfl
  · exact ⟨⟨trivial, trivial⟩, ⟨rfl, trivial⟩⟩
  intro a w hs
  refine then_exit ?_
  refine inb_hit ?_
  refine then_norm ?_
  refine way_L (tt := tt) (rs := [(9, ⟨[], [(3, true), (4, true), (5, true), (1006, true)], []⟩)]) (bs := []) (tk := [2]) (bk := []) (C := (tr 3 ((true = true) ∧ ((True) ∧ ((true = true) ∧ ((True) ∧ ((true = true) ∧ ((True) ∧ ((true = true) ∧ ((True) ∧ (True)))))))))) ∧ (True)) (lv := .ret) (T' := [(2, vb true)]) (B' := []) mix hI hs ?_ ?_ ?_ ?_
  · exact ⟨trivial, trivial⟩
  · kernel_rfl
  · exact ⟨tr_mk (⟨rfl, ⟨trivial, ⟨rfl, ⟨trivial, ⟨rfl, ⟨trivial, ⟨rfl, ⟨trivial, trivial⟩⟩⟩⟩⟩⟩⟩⟩) 3, trivial⟩
  intro a w hs
  exact FnQ_cast (out := .val (vb true)) (rfl) (ret_ok [] hs ⟨by kernel_rfl, rfl⟩)

set_option maxRecDepth 100000 in
theorem c91_1 : Con Tryz.prog I0 91 [vs (ba [98])] (.val (vb false)) := by
  refine con_of Tryz.func91 rfl (Nat.le_of_ble_eq_true rfl) stab (fun w0 fz a hI hs => ?_)
  refine way_L (tt := tt) (rs := [(1, ⟨[(1, ciA 37 [vs (ba [98])] [] [] (.val (vb true)))], [], []⟩)]) (bs := []) (tk := [2]) (bk := []) (C := ((True) ∧ (True)) ∧ (((True) ∧ ((okArgs [vs (ba [98])]) ∧ ((True) ∧ ((True) ∧ (True))))) ∧ (True))) (lv := .ret) (T' := [(2, vb false)]) (B' := []) mix hI hs ?_ ?_ ?_ ?_
  · exact ⟨⟨⟨ent37, c37_1⟩, trivial⟩, trivial⟩
  · kernel_rfl
  · exact ⟨⟨trivial, trivial⟩, ⟨⟨trivial, ⟨rfl, ⟨trivial, ⟨trivial, trivial⟩⟩⟩⟩, trivial⟩⟩
  intro a w hs
  exact FnQ_cast (out := .val (vb false)) (rfl) (ret_ok [] hs ⟨by kernel_rfl, rfl⟩)

set_option maxRecDepth 100000 in
theorem c140_0 : Con Tryz.prog I0 140 [.row .str ([(ba [97]), (ba [98])]), .lit (.func (.func 91) #[] #[])] (.val (vi (-1))) := by
  refine con_of Tryz.func140 rfl (Nat.le_of_ble_eq_true rfl) stab (fun w0 fz a hI hs => ?_)
  refine wp_seq ?_
  refine way_L (tt := tt) (rs := []) (bs := []) (tk := [0, 1]) (bk := []) (C := (True) ∧ (True)) (lv := .norm) (T' := [(0, .row .str ([(ba [97]), (ba [98])])), (1, .lit (.func (.func 91) #[] #[]))]) (B' := []) mix hI hs ?_ ?_ ?_ ?_
  · exact trivial
  · kernel_rfl
  · exact ⟨trivial, trivial⟩
  intro a w hs
  refine then_norm ?_
  refine wp_seq ?_
  refine wp_seq ?_
  refine way_L (tt := tt) (rs := []) (bs := []) (tk := [0, 1, 7, 8]) (bk := []) (C := tr 3 (True)) (lv := .norm) (T' := [(0, .row .str ([(ba [97]), (ba [98])])), (1, .lit (.func (.func 91) #[] #[])), (7, vi 2), (8, vi 0)]) (B' := []) mix hI hs ?_ ?_ ?_ ?_
  · exact trivial
  · kernel_rfl
  · exact tr_mk (trivial) 3
  intro a w hs
  refine then_norm ?_
  refine wp_block ?_
  refine wp_loop_rounds 3 ?_
  refine rounds_step ?_
  refine way_L (tt := tt) (rs := [(4, ⟨[(5, ciA 91 [vs (ba [97])] [] [] (.val (vb false)))], [], []⟩)]) (bs := [true, false]) (tk := [0, 1, 7, 8]) (bk := []) (C := ((True) ∧ (True)) ∧ (((true = true) ∧ (True)) ∧ ((((True) ∧ ((True) ∧ (True))) ∧ ((tr 3 (((0 : Int) ≤ 0 ∧ (0 : Int) < ((2 : Nat) : Int)) ∧ ((True) ∧ ((okArgs [vs (ba [97])]) ∧ (True))))) ∧ ((false = false) ∧ (True)))) ∧ ((InR .i64 1) ∧ ((True) ∧ (True)))))) (lv := .norm) (T' := [(0, .row .str ([(ba [97]), (ba [98])])), (1, .lit (.func (.func 91) #[] #[])), (7, vi 2), (8, vi 1)]) (B' := []) mix hI hs ?_ ?_ ?_ ?_
  · exact ⟨⟨⟨ent91, c91_0⟩, trivial⟩, trivial⟩
  · kernel_rfl
  · exact ⟨⟨trivial, trivial⟩, ⟨⟨rfl, trivial⟩, ⟨⟨⟨trivial, ⟨trivial, trivial⟩⟩, ⟨tr_mk (⟨(by decide), ⟨trivial, ⟨rfl, trivial⟩⟩⟩) 3, ⟨rfl, trivial⟩⟩⟩, ⟨(inR64 (by omega) (by omega)), ⟨trivial, trivial⟩⟩⟩⟩⟩
  intro a w hs
  refine then_norm ?_
  refine rounds_step ?_
  refine way_L (tt := tt) (rs := [(4, ⟨[(5, ciA 91 [vs (ba [98])] [] [] (.val (vb false)))], [], []⟩)]) (bs := [true, false]) (tk := [0, 1, 7, 8]) (bk := []) (C := ((True) ∧ (True)) ∧ (((true = true) ∧ (True)) ∧ ((((True) ∧ ((True) ∧ (True))) ∧ ((tr 3 (((0 : Int) ≤ 1 ∧ (1 : Int) < ((2 : Nat) : Int)) ∧ ((True) ∧ ((okArgs [vs (ba [98])]) ∧ (True))))) ∧ ((false = false) ∧ (True)))) ∧ ((InR .i64 2) ∧ ((True) ∧ (True)))))) (lv := .norm) (T' := [(0, .row .str ([(ba [97]), (ba [98])])), (1, .lit (.func (.func 91) #[] #[])), (7, vi 2), (8, vi 2)]) (B' := []) mix hI hs ?_ ?_ ?_ ?_
  · exact ⟨⟨⟨ent91, c91_1⟩, trivial⟩, trivial⟩
  · kernel_rfl
  · exact ⟨⟨trivial, trivial⟩, ⟨⟨rfl, trivial⟩, ⟨⟨⟨trivial, ⟨trivial, trivial⟩⟩, ⟨tr_mk (⟨(by decide), ⟨trivial, ⟨rfl, trivial⟩⟩⟩) 3, ⟨rfl, trivial⟩⟩⟩, ⟨(inR64 (by omega) (by omega)), ⟨trivial, trivial⟩⟩⟩⟩⟩
  intro a w hs
  refine then_norm ?_
  refine rounds_step ?_
  refine way_L (tt := tt) (rs := []) (bs := [false]) (tk := []) (bk := []) (C := ((True) ∧ (True)) ∧ ((false = false) ∧ (True))) (lv := .exit 0) (T' := []) (B' := []) mix hI hs ?_ ?_ ?_ ?_
  · exact trivial
  · kernel_rfl
  · exact ⟨⟨trivial, trivial⟩, ⟨rfl, trivial⟩⟩
  intro a w hs
  refine then_exit ?_
  refine inb_hit ?_
  refine then_norm ?_
  refine way_L (tt := tt) (rs := []) (bs := []) (tk := [4]) (bk := []) (C := ((True) ∧ (True)) ∧ (True)) (lv := .ret) (T' := [(4, vi (-1))]) (B' := []) mix hI hs ?_ ?_ ?_ ?_
  · exact trivial
  · kernel_rfl
  · exact ⟨⟨trivial, trivial⟩, trivial⟩
  intro a w hs
  exact FnQ_cast (out := .val (vi (-1))) (rfl) (ret_ok [] hs ⟨by kernel_rfl, rfl⟩)

set_option maxRecDepth 100000 in
theorem c83_0 : Con Tryz.prog I0 83 [.row .str ([(ba [97]), (ba [98])]), .lit (.func (.func 91) #[] #[])] (.val (vb false)) := by
  refine con_of Tryz.func83 rfl (Nat.le_of_ble_eq_true rfl) stab (fun w0 fz a hI hs => ?_)
  refine way_L (tt := tt) (rs := [(1, ⟨[(2, ciA 140 [.row .str ([(ba [97]), (ba [98])]), .lit (.func (.func 91) #[] #[])] [] [] (.val (vi (-1))))], [], []⟩)]) (bs := []) (tk := [4]) (bk := []) (C := ((True) ∧ (True)) ∧ (((True) ∧ ((True) ∧ ((okArgs [.row .str ([(ba [97]), (ba [98])]), .lit (.func (.func 91) #[] #[])]) ∧ ((True) ∧ ((True) ∧ (True)))))) ∧ (True))) (lv := .ret) (T' := [(4, vb false)]) (B' := []) mix hI hs ?_ ?_ ?_ ?_
  · exact ⟨⟨⟨ent140, c140_0⟩, trivial⟩, trivial⟩
  · kernel_rfl
  · exact ⟨⟨trivial, trivial⟩, ⟨⟨trivial, ⟨trivial, ⟨rfl, ⟨trivial, ⟨trivial, trivial⟩⟩⟩⟩⟩, trivial⟩⟩
  intro a w hs
  exact FnQ_cast (out := .val (vb false)) (rfl) (ret_ok [] hs ⟨by kernel_rfl, rfl⟩)

set_option maxRecDepth 100000 in
theorem c90_0 : Con Tryz.prog I0 90 [.row .str ([(ba [97]), (ba [98])])] (.val (vb false)) := by
  refine con_of Tryz.func90 rfl (Nat.le_of_ble_eq_true rfl) stab (fun w0 fz a hI hs => ?_)
  refine way_L (tt := tt) (rs := [(1, ⟨[(10, ciA 83 [.row .str ([(ba [97]), (ba [98])]), .lit (.func (.func 91) #[] #[])] [] [] (.val (vb false)))], [(4, true), (5, true), (6, true), (1007, false), (9, true), (10, true), (1011, false)], []⟩)]) (bs := []) (tk := [2]) (bk := []) (C := ((True) ∧ (True)) ∧ ((tr 4 ((false = false) ∧ ((True) ∧ ((false = false) ∧ ((True) ∧ ((false = false) ∧ ((True) ∧ ((false = false) ∧ ((True) ∧ ((false = false) ∧ ((True) ∧ ((false = false) ∧ ((okArgs [.row .str ([(ba [97]), (ba [98])]), .lit (.func (.func 91) #[] #[])]) ∧ ((false = false) ∧ ((True) ∧ (True)))))))))))))))) ∧ (True))) (lv := .ret) (T' := [(2, vb false)]) (B' := []) mix hI hs ?_ ?_ ?_ ?_
  · exact ⟨⟨⟨ent83, c83_0⟩, trivial⟩, trivial⟩
  · kernel_rfl
  · exact ⟨⟨trivial, trivial⟩, ⟨tr_mk (⟨rfl, ⟨trivial, ⟨rfl, ⟨trivial, ⟨rfl, ⟨trivial, ⟨rfl, ⟨trivial, ⟨rfl, ⟨trivial, ⟨rfl, ⟨rfl, ⟨rfl, ⟨trivial, trivial⟩⟩⟩⟩⟩⟩⟩⟩⟩⟩⟩⟩⟩⟩) 4, trivial⟩⟩
  intro a w hs
  exact FnQ_cast (out := .val (vb false)) (rfl) (ret_ok [] hs ⟨by kernel_rfl, rfl⟩)

set_option maxRecDepth 100000 in
theorem c146_0 : Con Tryz.prog I0 146 [.row .strs ([[(ba [97]), (ba [98])]]), .lit (.func (.func 90) #[] #[])] (.val (vi (-1))) := by
  refine con_of Tryz.func146 rfl (Nat.le_of_ble_eq_true rfl) stab (fun w0 fz a hI hs => ?_)
  refine wp_seq ?_
  refine way_L (tt := tt) (rs := []) (bs := []) (tk := [0, 1]) (bk := []) (C := (True) ∧ (True)) (lv := .norm) (T' := [(0, .row .strs ([[(ba [97]), (ba [98])]])), (1, .lit (.func (.func 90) #[] #[]))]) (B' := []) mix hI hs ?_ ?_ ?_ ?_
  · exact trivial
  · kernel_rfl
  · exact ⟨trivial, trivial⟩
  intro a w hs
  refine then_norm ?_
  refine wp_seq ?_
  refine wp_seq ?_
  refine way_L (tt := tt) (rs := []) (bs := []) (tk := [0, 1, 7, 8]) (bk := []) (C := tr 3 (True)) (lv := .norm) (T' := [(0, .row .strs ([[(ba [97]), (ba [98])]])), (1, .lit (.func (.func 90) #[] #[])), (7, vi 1), (8, vi 0)]) (B' := []) mix hI hs ?_ ?_ ?_ ?_
  · exact trivial
  · kernel_rfl
  · exact tr_mk (trivial) 3
  intro a w hs
  refine then_norm ?_
  refine wp_block ?_
  refine wp_loop_rounds 2 ?_
  refine rounds_step ?_
  refine way_L (tt := tt) (rs := [(4, ⟨[(5, ciA 90 [.row .str ([(ba [97]), (ba [98])])] [] [] (.val (vb false)))], [], []⟩)]) (bs := [true, false]) (tk := [0, 1, 7, 8]) (bk := []) (C := ((True) ∧ (True)) ∧ (((true = true) ∧ (True)) ∧ ((((True) ∧ ((True) ∧ (True))) ∧ ((tr 3 (((0 : Int) ≤ 0 ∧ (0 : Int) < ((1 : Nat) : Int)) ∧ ((True) ∧ ((okArgs [.row .str ([(ba [97]), (ba [98])])]) ∧ (True))))) ∧ ((false = false) ∧ (True)))) ∧ ((InR .i64 1) ∧ ((True) ∧ (True)))))) (lv := .norm) (T' := [(0, .row .strs ([[(ba [97]), (ba [98])]])), (1, .lit (.func (.func 90) #[] #[])), (7, vi 1), (8, vi 1)]) (B' := []) mix hI hs ?_ ?_ ?_ ?_
  · exact ⟨⟨⟨ent90, c90_0⟩, trivial⟩, trivial⟩
  · kernel_rfl
  · exact ⟨⟨trivial, trivial⟩, ⟨⟨rfl, trivial⟩, ⟨⟨⟨trivial, ⟨trivial, trivial⟩⟩, ⟨tr_mk (⟨(by decide), ⟨trivial, ⟨rfl, trivial⟩⟩⟩) 3, ⟨rfl, trivial⟩⟩⟩, ⟨(inR64 (by omega) (by omega)), ⟨trivial, trivial⟩⟩⟩⟩⟩
  intro a w hs
  refine then_norm ?_
  refine rounds_step ?_
  refine way_L (tt := tt) (rs := []) (bs := [false]) (tk := []) (bk := []) (C := ((True) ∧ (True)) ∧ ((false = false) ∧ (True))) (lv := .exit 0) (T' := []) (B' := []) mix hI hs ?_ ?_ ?_ ?_
  · exact trivial
  · kernel_rfl
  · exact ⟨⟨trivial, trivial⟩, ⟨rfl, trivial⟩⟩
  intro a w hs
  refine then_exit ?_
  refine inb_hit ?_
  refine then_norm ?_
  refine way_L (tt := tt) (rs := []) (bs := []) (tk := [4]) (bk := []) (C := ((True) ∧ (True)) ∧ (True)) (lv := .ret) (T' := [(4, vi (-1))]) (B' := []) mix hI hs ?_ ?_ ?_ ?_
  · exact trivial
  · kernel_rfl
  · exact ⟨⟨trivial, trivial⟩, trivial⟩
  intro a w hs
  exact FnQ_cast (out := .val (vi (-1))) (rfl) (ret_ok [] hs ⟨by kernel_rfl, rfl⟩)

set_option maxRecDepth 100000 in
theorem c89_0 : Con Tryz.prog I0 89 [.row .strs ([[(ba [97]), (ba [98])]]), .lit (.func (.func 90) #[] #[])] (.val (vb false)) := by
  refine con_of Tryz.func89 rfl (Nat.le_of_ble_eq_true rfl) stab (fun w0 fz a hI hs => ?_)
  refine way_L (tt := tt) (rs := [(1, ⟨[(2, ciA 146 [.row .strs ([[(ba [97]), (ba [98])]]), .lit (.func (.func 90) #[] #[])] [] [] (.val (vi (-1))))], [], []⟩)]) (bs := []) (tk := [4]) (bk := []) (C := ((True) ∧ (True)) ∧ (((True) ∧ ((True) ∧ ((okArgs [.row .strs ([[(ba [97]), (ba [98])]]), .lit (.func (.func 90) #[] #[])]) ∧ ((True) ∧ ((True) ∧ (True)))))) ∧ (True))) (lv := .ret) (T' := [(4, vb false)]) (B' := []) mix hI hs ?_ ?_ ?_ ?_
  · exact ⟨⟨⟨ent146, c146_0⟩, trivial⟩, trivial⟩
  · kernel_rfl
  · exact ⟨⟨trivial, trivial⟩, ⟨⟨trivial, ⟨trivial, ⟨rfl, ⟨trivial, ⟨trivial, trivial⟩⟩⟩⟩⟩, trivial⟩⟩
  intro a w hs
  exact FnQ_cast (out := .val (vb false)) (rfl) (ret_ok [] hs ⟨by kernel_rfl, rfl⟩)

set_option maxRecDepth 100000 in
theorem c39_0 : Con Tryz.prog I0 39 [.row .strs ([[(ba [97]), (ba [98])]])] (.val (vb true)) := by
  refine con_of Tryz.func39 rfl (Nat.le_of_ble_eq_true rfl) stab (fun w0 fz a hI hs => ?_)
  refine way_L (tt := tt) (rs := [(1, ⟨[(5, ciA 89 [.row .strs ([[(ba [97]), (ba [98])]]), .lit (.func (.func 90) #[] #[])] [] [] (.val (vb false)))], [(4, true), (5, true), (6, true), (1007, true)], []⟩)]) (bs := []) (tk := [2]) (bk := []) (C := ((True) ∧ (True)) ∧ ((tr 4 ((true = true) ∧ ((True) ∧ ((true = true) ∧ ((okArgs [.row .strs ([[(ba [97]), (ba [98])]]), .lit (.func (.func 90) #[] #[])]) ∧ ((true = true) ∧ ((True) ∧ ((true = true) ∧ ((True) ∧ (True)))))))))) ∧ (True))) (lv := .ret) (T' := [(2, vb true)]) (B' := []) mix hI hs ?_ ?_ ?_ ?_
  · exact ⟨⟨⟨ent89, c89_0⟩, trivial⟩, trivial⟩
  · kernel_rfl
  · exact ⟨⟨trivial, trivial⟩, ⟨tr_mk (⟨rfl, ⟨trivial, ⟨rfl, ⟨rfl, ⟨rfl, ⟨trivial, ⟨rfl, ⟨trivial, trivial⟩⟩⟩⟩⟩⟩⟩⟩) 4, trivial⟩⟩
  intro a w hs
  exact FnQ_cast (out := .val (vb true)) (rfl) (ret_ok [] hs ⟨by kernel_rfl, rfl⟩)

set_option maxRecDepth 100000 in
theorem c70_0 : Con Tryz.prog I0 70 [.row .strs ([[(ba [97]), (ba [98])]])] (.own 26 .strs ([[(ba [97]), (ba [98])]])) := by
  refine con_of Tryz.func70 rfl (Nat.le_of_ble_eq_true rfl) stab (fun w0 fz a hI hs => ?_)
  refine way_L (tt := tt) (rs := []) (bs := [false]) (tk := [2]) (bk := [4002]) (C := ((True) ∧ (True)) ∧ ((((True) ∧ ((0 < 1) ∧ (True))) ∧ ((false = false) ∧ (True))) ∧ (((True) ∧ ((True) ∧ ((((0 + 1) * 24 : Nat) ≤ 140737488355328 ∧ 0 + 1 ≤ 140737488355328) ∧ ((True) ∧ (True))))) ∧ (True)))) (lv := .ret) (T' := [(2, .own 4002)]) (B' := [(4002, .sl 26 .strs ([[(ba [97]), (ba [98])]]))]) mix hI hs ?_ ?_ ?_ ?_
  · exact trivial
  · kernel_rfl
  · exact ⟨⟨trivial, trivial⟩, ⟨⟨⟨trivial, ⟨(by decide), trivial⟩⟩, ⟨rfl, trivial⟩⟩, ⟨⟨trivial, ⟨trivial, ⟨(by decide), ⟨trivial, trivial⟩⟩⟩⟩, trivial⟩⟩⟩
  intro a w hs
  exact FnQ_cast (out := .own 26 .strs ([[(ba [97]), (ba [98])]])) (rfl) (ret_ok [] hs (.inl ⟨4002, by kernel_rfl, rfl⟩))

set_option maxRecDepth 100000 in
theorem c186_0 : Con Tryz.prog I0 186 [.lit (.int .u64 1)] (.val (vi 1)) := by
  refine con_of Tryz.func186 rfl (Nat.le_of_ble_eq_true rfl) stab (fun w0 fz a hI hs => ?_)
  refine way_L (tt := tt) (rs := []) (bs := [false, false, false]) (tk := [2]) (bk := []) (C := ((True) ∧ (True)) ∧ ((((True) ∧ ((True) ∧ (True))) ∧ ((false = false) ∧ (True))) ∧ ((((True) ∧ ((True) ∧ (True))) ∧ ((false = false) ∧ (True))) ∧ ((((True) ∧ ((True) ∧ (True))) ∧ ((false = false) ∧ (True))) ∧ ((tr 3 (((0 : Int) ≤ 1 ∧ (1 : Int) < ((256 : Nat) : Int)) ∧ ((InR .i64 1) ∧ ((InR .i64 1) ∧ ((True) ∧ (True)))))) ∧ (True)))))) (lv := .ret) (T' := [(2, vi 1)]) (B' := []) mix hI hs ?_ ?_ ?_ ?_
  · exact trivial
  · kernel_rfl
  · exact ⟨⟨trivial, trivial⟩, ⟨⟨⟨trivial, ⟨trivial, trivial⟩⟩, ⟨rfl, trivial⟩⟩, ⟨⟨⟨trivial, ⟨trivial, trivial⟩⟩, ⟨rfl, trivial⟩⟩, ⟨⟨⟨trivial, ⟨trivial, trivial⟩⟩, ⟨rfl, trivial⟩⟩, ⟨tr_mk (⟨(by decide), ⟨(inR64 (by omega) (by omega)), ⟨(inR64 (by omega) (by omega)), ⟨trivial, trivial⟩⟩⟩⟩) 3, trivial⟩⟩⟩⟩⟩
  intro a w hs
  exact FnQ_cast (out := .val (vi 1)) (rfl) (ret_ok [] hs ⟨by kernel_rfl, rfl⟩)

set_option maxRecDepth 100000 in
theorem c132_0 : Con Tryz.prog I0 132 [.lit (.int .u64 1)] (.val (vi 1)) := by
  refine con_of Tryz.func132 rfl (Nat.le_of_ble_eq_true rfl) stab (fun w0 fz a hI hs => ?_)
  refine way_L (tt := tt) (rs := [(2, ⟨[(1, ciA 186 [.lit (.int .u64 1)] [] [] (.val (vi 1)))], [], []⟩)]) (bs := [false]) (tk := [2]) (bk := []) (C := ((True) ∧ (True)) ∧ (((false = false) ∧ (True)) ∧ (((True) ∧ ((okArgs [.lit (.int .u64 1)]) ∧ ((True) ∧ (True)))) ∧ (True)))) (lv := .ret) (T' := [(2, vi 1)]) (B' := []) mix hI hs ?_ ?_ ?_ ?_
  · exact ⟨⟨⟨ent186, c186_0⟩, trivial⟩, trivial⟩
  · kernel_rfl
  · exact ⟨⟨trivial, trivial⟩, ⟨⟨rfl, trivial⟩, ⟨⟨trivial, ⟨rfl, ⟨trivial, trivial⟩⟩⟩, trivial⟩⟩⟩
  intro a w hs
  exact FnQ_cast (out := .val (vi 1)) (rfl) (ret_ok [] hs ⟨by kernel_rfl, rfl⟩)

set_option maxRecDepth 100000 in
theorem c177_0 : ConB Tryz.prog I0 177 [.own 0, vi 0, vi 1, .lit (.func (.func 72) #[] #[])] [(0, .sl 26 .strs ([[(ba [97]), (ba [98])]]))] (.val (.tup [])) [(0, .sl 26 .strs ([[(ba [97]), (ba [98])]]))] := by
  refine con_ofB Tryz.func177 rfl (Nat.le_of_ble_eq_true rfl) (by decide) (fun w0 fz η a hI hs => ?_)
  refine wp_seq ?_
  refine way_L (tt := tt) (rs := []) (bs := []) (tk := [0, 1, 2, 3, 8]) (bk := [0]) (C := (True) ∧ ((InR .i64 1) ∧ ((True) ∧ (True)))) (lv := .norm) (T' := [(0, .own 0), (1, vi 0), (2, vi 1), (3, .lit (.func (.func 72) #[] #[])), (8, vi 1)]) (B' := [(0, .sl 26 .strs ([[(ba [97]), (ba [98])]]))]) mix hI hs ?_ ?_ ?_ ?_
  · exact trivial
  · kernel_rfl
  · exact ⟨trivial, ⟨(inR64 (by omega) (by omega)), ⟨trivial, trivial⟩⟩⟩
  intro a w hs
  refine then_norm ?_
  refine wp_block ?_
  refine wp_loop_rounds 1 ?_
  refine rounds_step ?_
  refine wp_seq ?_
  refine way_L (tt := tt) (rs := []) (bs := [false]) (tk := []) (bk := [0]) (C := (tr 3 (True)) ∧ ((false = false) ∧ (True))) (lv := .exit 0) (T' := []) (B' := [(0, .sl 26 .strs ([[(ba [97]), (ba [98])]]))]) mix hI hs ?_ ?_ ?_ ?_
  · exact trivial
  · kernel_rfl
  · exact ⟨tr_mk (trivial) 3, ⟨rfl, trivial⟩⟩
  intro a w hs
  refine then_exit ?_
  refine then_exit ?_
  refine inb_hit ?_
  exact FnQB_cast (out := .val (.tup [])) (bo := [(0, .sl 26 .strs ([[(ba [97]), (ba [98])]]))]) (rfl) (rfl) (norm_okB _ hs (by kernel_rfl) (by kernel_rfl))

set_option maxRecDepth 100000 in
theorem c131_0 : ConB Tryz.prog I0 131 [.own 0, vi 0, vi 1, vi 1, .lit (.func (.func 72) #[] #[])] [(0, .sl 26 .strs ([[(ba [97]), (ba [98])]]))] (.val (.tup [])) [(0, .sl 26 .strs ([[(ba [97]), (ba [98])]]))] := by
  refine con_ofB Tryz.func131 rfl (Nat.le_of_ble_eq_true rfl) (by decide) (fun w0 fz η a hI hs => ?_)
  refine wp_seq ?_
  refine way_L (tt := tt) (rs := []) (bs := []) (tk := [0, 1, 2, 3, 4, 10]) (bk := [0]) (C := (True) ∧ (True)) (lv := .norm) (T' := [(0, .own 0), (1, vi 0), (2, vi 1), (3, vi 1), (4, .lit (.func (.func 72) #[] #[])), (10, vb true)]) (B' := [(0, .sl 26 .strs ([[(ba [97]), (ba [98])]]))]) mix hI hs ?_ ?_ ?_ ?_
  · exact trivial
  · kernel_rfl
  · exact ⟨trivial, trivial⟩
  intro a w hs
  refine then_norm ?_
  refine wp_seq ?_
  refine way_L (tt := tt) (rs := []) (bs := []) (tk := [0, 1, 2, 3, 4, 10, 11]) (bk := [0]) (C := (True) ∧ (True)) (lv := .norm) (T' := [(0, .own 0), (1, vi 0), (2, vi 1), (3, vi 1), (4, .lit (.func (.func 72) #[] #[])), (10, vb true), (11, vb true)]) (B' := [(0, .sl 26 .strs ([[(ba [97]), (ba [98])]]))]) mix hI hs ?_ ?_ ?_ ?_
  · exact trivial
  · kernel_rfl
  · exact ⟨trivial, trivial⟩
  intro a w hs
  refine then_norm ?_
  refine wp_block ?_
  refine wp_loop_rounds 1 ?_
  refine rounds_step ?_
  refine way_L (tt := tt) (rs := [(4, ⟨[(4, ciB 177 [.own 0, vi 0, vi 1, .lit (.func (.func 72) #[] #[])] [] (.val (.tup [])) [(0, .sl 26 .strs ([[(ba [97]), (ba [98])]]))] [(0, .sl 26 .strs ([[(ba [97]), (ba [98])]]))] [(0, 0)])], [], []⟩)]) (bs := [true]) (tk := []) (bk := [0]) (C := ((True) ∧ ((True) ∧ ((InR .i64 1) ∧ ((True) ∧ (True))))) ∧ (((True) ∧ ((True) ∧ (True))) ∧ ((true = true) ∧ ((tr 4 ((okArgs [.own 0, vi 0, vi 1, .lit (.func (.func 72) #[] #[])] ∧ okBxs [some (.sl 26 .strs ([[(ba [97]), (ba [98])]]))]) ∧ (True))) ∧ (True))))) (lv := .ret) (T' := []) (B' := [(0, .sl 26 .strs ([[(ba [97]), (ba [98])]]))]) mix hI hs ?_ ?_ ?_ ?_
  · exact ⟨⟨⟨ent177, c177_0⟩, trivial⟩, trivial⟩
  · kernel_rfl
  · exact ⟨⟨trivial, ⟨trivial, ⟨(inR64 (by omega) (by omega)), ⟨trivial, trivial⟩⟩⟩⟩, ⟨⟨trivial, ⟨trivial, trivial⟩⟩, ⟨rfl, ⟨tr_mk (⟨⟨rfl, rfl⟩, trivial⟩) 4, trivial⟩⟩⟩⟩
  intro a w hs
  refine then_ret ?_
  refine inb_ret ?_
  exact FnQB_cast (out := .val (.tup [])) (bo := [(0, .sl 26 .strs ([[(ba [97]), (ba [98])]]))]) (rfl) (rfl) (ret_okB _ hs (by kernel_rfl) (by kernel_rfl))

set_option maxRecDepth 100000 in
theorem c71_0 : ConB Tryz.prog I0 71 [.own 0, .lit (.func (.func 72) #[] #[])] [(0, .sl 26 .strs ([[(ba [97]), (ba [98])]]))] (.val (.tup [])) [(0, .sl 26 .strs ([[(ba [97]), (ba [98])]]))] := by
  refine con_ofB Tryz.func71 rfl (Nat.le_of_ble_eq_true rfl) (by decide) (fun w0 fz η a hI hs => ?_)
  refine way_L (tt := tt) (rs := [(1, ⟨[(4, ciA 132 [.lit (.int .u64 1)] [] [] (.val (vi 1))), (6, ciB 131 [.own 0, vi 0, vi 1, vi 1, .lit (.func (.func 72) #[] #[])] [] (.val (.tup [])) [(0, .sl 26 .strs ([[(ba [97]), (ba [98])]]))] [(0, .sl 26 .strs ([[(ba [97]), (ba [98])]]))] [(0, 0)])], [], []⟩)]) (bs := []) (tk := []) (bk := [0]) (C := (tr 3 (True)) ∧ (tr 4 ((okArgs [.lit (.int .u64 1)]) ∧ ((True) ∧ ((okArgs [.own 0, vi 0, vi 1, vi 1, .lit (.func (.func 72) #[] #[])] ∧ okBxs [some (.sl 26 .strs ([[(ba [97]), (ba [98])]]))]) ∧ (True)))))) (lv := .norm) (T' := []) (B' := [(0, .sl 26 .strs ([[(ba [97]), (ba [98])]]))]) mix hI hs ?_ ?_ ?_ ?_
  · exact ⟨⟨⟨ent132, c132_0⟩, ⟨⟨ent131, c131_0⟩, trivial⟩⟩, trivial⟩
  · kernel_rfl
  · exact ⟨tr_mk (trivial) 3, tr_mk (⟨rfl, ⟨trivial, ⟨⟨rfl, rfl⟩, trivial⟩⟩⟩) 4⟩
  intro a w hs
  exact FnQB_cast (out := .val (.tup [])) (bo := [(0, .sl 26 .strs ([[(ba [97]), (ba [98])]]))]) (rfl) (rfl) (norm_okB _ hs (by kernel_rfl) (by kernel_rfl))

set_option maxRecDepth 100000 in
theorem c74_0 : Con Tryz.prog I0 74 [.row .str ([(ba [97]), (ba [98])])] (.own 9 .str ([(ba [97]), (ba [98])])) := by
  refine con_of Tryz.func74 rfl (Nat.le_of_ble_eq_true rfl) stab (fun w0 fz a hI hs => ?_)
  refine way_L (tt := tt) (rs := []) (bs := [false]) (tk := [2]) (bk := [4002]) (C := ((True) ∧ (True)) ∧ ((((True) ∧ ((0 < 2) ∧ (True))) ∧ ((false = false) ∧ (True))) ∧ (((True) ∧ ((True) ∧ ((((0 + 2) * 16 : Nat) ≤ 140737488355328 ∧ 0 + 2 ≤ 140737488355328) ∧ ((True) ∧ (True))))) ∧ (True)))) (lv := .ret) (T' := [(2, .own 4002)]) (B' := [(4002, .sl 9 .str ([(ba [97]), (ba [98])]))]) mix hI hs ?_ ?_ ?_ ?_
  · exact trivial
  · kernel_rfl
  · exact ⟨⟨trivial, trivial⟩, ⟨⟨⟨trivial, ⟨(by decide), trivial⟩⟩, ⟨rfl, trivial⟩⟩, ⟨⟨trivial, ⟨trivial, ⟨(by decide), ⟨trivial, trivial⟩⟩⟩⟩, trivial⟩⟩⟩
  intro a w hs
  exact FnQ_cast (out := .own 9 .str ([(ba [97]), (ba [98])])) (rfl) (ret_ok [] hs (.inl ⟨4002, by kernel_rfl, rfl⟩))

set_option maxRecDepth 100000 in
theorem c24_0 : Con Tryz.prog I0 24 [.row .strs ([[(ba [97]), (ba [98])]])] (.own 26 .strs ([[(ba [97]), (ba [98])]])) := by
  refine con_of Tryz.func24 rfl (Nat.le_of_ble_eq_true rfl) stab (fun w0 fz a hI hs => ?_)
  refine wp_seq ?_
  refine way_L (tt := tt) (rs := []) (bs := []) (tk := [0]) (bk := []) (C := (True) ∧ (True)) (lv := .norm) (T' := [(0, .row .strs ([[(ba [97]), (ba [98])]]))]) (B' := []) mix hI hs ?_ ?_ ?_ ?_
  · exact trivial
  · kernel_rfl
  · exact ⟨trivial, trivial⟩
  intro a w hs
  refine then_norm ?_
  refine wp_scope_straight ?_
  refine wp_seq ?_
  refine way_L (tt := tt) (rs := [(1, ⟨[(1, ciA 70 [.row .strs ([[(ba [97]), (ba [98])]])] [] [] (.own 26 .strs ([[(ba [97]), (ba [98])]])))], [], []⟩)]) (bs := []) (tk := [3]) (bk := [2001]) (C := (True) ∧ ((okArgs [.row .strs ([[(ba [97]), (ba [98])]])]) ∧ ((True) ∧ (True)))) (lv := .norm) (T' := [(3, .own 2001)]) (B' := [(2001, .sl 26 .strs ([[(ba [97]), (ba [98])]]))]) mix hI hs ?_ ?_ ?_ ?_
  · exact ⟨⟨⟨ent70, c70_0⟩, trivial⟩, trivial⟩
  · kernel_rfl
  · exact ⟨trivial, ⟨rfl, ⟨trivial, trivial⟩⟩⟩
  intro a w hs
  refine then_norm ?_
  refine wp_seq ?_
  refine way_L (tt := tt) (rs := [(2, ⟨[(1, ciB 71 [.own 0, .lit (.func (.func 72) #[] #[])] [] (.val (.tup [])) [(0, .sl 26 .strs ([[(ba [97]), (ba [98])]]))] [(0, .sl 26 .strs ([[(ba [97]), (ba [98])]]))] [(0, 2001)])], [], []⟩)]) (bs := []) (tk := [3]) (bk := [2001]) (C := (True) ∧ ((okArgs [.own 2001, .lit (.func (.func 72) #[] #[])] ∧ okBxs [some (.sl 26 .strs ([[(ba [97]), (ba [98])]]))]) ∧ (True))) (lv := .norm) (T' := [(3, .own 2001)]) (B' := [(2001, .sl 26 .strs ([[(ba [97]), (ba [98])]]))]) mix hI hs ?_ ?_ ?_ ?_
  · exact ⟨⟨⟨ent71, c71_0⟩, trivial⟩, trivial⟩
  · kernel_rfl
  · exact ⟨trivial, ⟨⟨rfl, rfl⟩, trivial⟩⟩
  intro a w hs
  refine then_norm ?_
  refine wp_seq ?_
  refine way_L (tt := tt) (rs := []) (bs := []) (tk := [3, 4]) (bk := [2001]) (C := (True) ∧ (True)) (lv := .norm) (T' := [(3, .own 2001), (4, nilv)]) (B' := [(2001, .sl 26 .strs ([[(ba [97]), (ba [98])]]))]) mix hI hs ?_ ?_ ?_ ?_
  · exact trivial
  · kernel_rfl
  · exact ⟨trivial, trivial⟩
  intro a w hs
  refine then_norm ?_
  refine wp_seq ?_
  refine way_L (tt := tt) (rs := []) (bs := []) (tk := [3, 4]) (bk := [2001]) (C := True) (lv := .norm) (T' := [(3, .own 2001), (4, nilv)]) (B' := [(2001, .sl 26 .strs ([[(ba [97]), (ba [98])]]))]) mix hI hs ?_ ?_ ?_ ?_
  · exact trivial
  · kernel_rfl
  · exact trivial
  intro a w hs
  refine then_norm ?_
  refine wp_seq ?_
  refine wp_seq ?_
  refine way_L (tt := tt) (rs := []) (bs := []) (tk := [4, 11, 12, 13]) (bk := [2001]) (C := tr 3 (True)) (lv := .norm) (T' := [(4, nilv), (11, .own 2001), (12, vi 1), (13, vi 0)]) (B' := [(2001, .sl 26 .strs ([[(ba [97]), (ba [98])]]))]) mix hI hs ?_ ?_ ?_ ?_
  · exact trivial
  · kernel_rfl
  · exact tr_mk (trivial) 3
  intro a w hs
  refine then_norm ?_
  refine wp_block ?_
  refine wp_loop_rounds 2 ?_
  refine rounds_step ?_
  refine way_L (tt := tt) (rs := [(7, ⟨[], [(4, false), (5, false), (6, false), (7, false), (8, false), (9, false), (10, false), (11, false), (1012, false)], []⟩), (8, ⟨[(2, ciA 74 [.row .str ([(ba [97]), (ba [98])])] [] [] (.own 9 .str ([(ba [97]), (ba [98])])))], [], []⟩)]) (bs := [true, false]) (tk := [4, 11, 12, 13, 21, 22, 23, 24, 25, 26, 27, 28]) (bk := [2001, 9004]) (C := ((True) ∧ (True)) ∧ (((true = true) ∧ (True)) ∧ (((((0 : Int) ≤ 0 ∧ (0 : Int) < ((1 : Nat) : Int)) ∧ ((0 < 1) ∧ ((True) ∧ (True)))) ∧ (((tr 4 ((false = false) ∧ ((false = false) ∧ ((false = false) ∧ ((false = false) ∧ ((false = false) ∧ ((false = false) ∧ ((false = false) ∧ ((false = false) ∧ ((false = false) ∧ (True))))))))))) ∧ ((false = false) ∧ (True))) ∧ ((True) ∧ ((True) ∧ ((okArgs [.row .str ([(ba [97]), (ba [98])])]) ∧ ((True) ∧ (((1 * 24 : Nat) ≤ 140737488355328 ∧ 1 ≤ 140737488355328) ∧ ((True) ∧ (True))))))))) ∧ ((InR .i64 1) ∧ ((True) ∧ (True)))))) (lv := .norm) (T' := [(4, .own 9004), (11, .own 2001), (12, vi 1), (13, vi 1), (21, undA), (22, undA), (23, undA), (24, undA), (25, undA), (26, undA), (27, undA), (28, undA)]) (B' := [(2001, .sl 26 .strs ([[(ba [97]), (ba [98])]])), (9004, .sl 26 .strs ([[(ba [97]), (ba [98])]]))]) mix hI hs ?_ ?_ ?_ ?_
  · exact ⟨trivial, ⟨⟨⟨ent74, c74_0⟩, trivial⟩, trivial⟩⟩
  · kernel_rfl
  · exact ⟨⟨trivial, trivial⟩, ⟨⟨rfl, trivial⟩, ⟨⟨⟨(by decide), ⟨(by decide), ⟨trivial, trivial⟩⟩⟩, ⟨⟨tr_mk (⟨rfl, ⟨rfl, ⟨rfl, ⟨rfl, ⟨rfl, ⟨rfl, ⟨rfl, ⟨rfl, ⟨rfl, trivial⟩⟩⟩⟩⟩⟩⟩⟩⟩) 4, ⟨rfl, trivial⟩⟩, ⟨trivial, ⟨trivial, ⟨rfl, ⟨trivial, ⟨(by decide), ⟨trivial, trivial⟩⟩⟩⟩⟩⟩⟩⟩, ⟨(inR64 (by omega) (by omega)), ⟨trivial, trivial⟩⟩⟩⟩⟩
  intro a w hs
  refine then_norm ?_
  have hs := hs.ren (T' := [(4, .own 10000002), (11, .own 10000001), (12, vi 1), (13, vi 1), (21, undA), (22, undA), (23, undA), (24, undA), (25, undA), (26, undA), (27, undA), (28, undA)]) (B' := [(10000001, .sl 26 .strs ([[(ba [97]), (ba [98])]])), (10000002, .sl 26 .strs ([[(ba [97]), (ba [98])]]))]) [(10000001, 2001), (10000002, 9004)] (by kernel_rfl) (by kernel_rfl) (by kernel_rfl)
  refine rounds_step ?_
  refine way_L (tt := tt) (rs := []) (bs := [false]) (tk := [4]) (bk := [10000002]) (C := ((True) ∧ (True)) ∧ ((false = false) ∧ (True))) (lv := .exit 0) (T' := [(4, .own 10000002)]) (B' := [(10000002, .sl 26 .strs ([[(ba [97]), (ba [98])]]))]) mix hI hs ?_ ?_ ?_ ?_
  · exact trivial
  · kernel_rfl
  · exact ⟨⟨trivial, trivial⟩, ⟨rfl, trivial⟩⟩
  intro a w hs
  refine then_exit ?_
  refine inb_hit ?_
  refine then_norm ?_
  refine way_L (tt := tt) (rs := []) (bs := []) (tk := [2]) (bk := [10000002]) (C := ((True) ∧ ((True) ∧ (True))) ∧ (True)) (lv := .ret) (T' := [(2, .own 10000002)]) (B' := [(10000002, .sl 26 .strs ([[(ba [97]), (ba [98])]]))]) mix hI hs ?_ ?_ ?_ ?_
  · exact trivial
  · kernel_rfl
  · exact ⟨⟨trivial, ⟨trivial, trivial⟩⟩, trivial⟩
  intro a w hs
  refine ng_ret ?_
  exact FnQ_cast (out := .own 26 .strs ([[(ba [97]), (ba [98])]])) (rfl) (ret_ok [] hs (.inl ⟨10000002, by kernel_rfl, rfl⟩))

set_option maxRecDepth 100000 in
theorem c173_0 : Con Tryz.prog I0 173 [.agg [vi 7, vb false, vb false, nilv, vi 0, vs (ba []), nilv, nilv]] (.val (.tup [nilv, nilv])) := by
  refine con_of Tryz.func173 rfl (Nat.le_of_ble_eq_true rfl) stab (fun w0 fz a hI hs => ?_)
  refine way_L (tt := tt) (rs := []) (bs := [false]) (tk := [2, 3]) (bk := []) (C := (tr 3 (True)) ∧ (((tr 3 (True)) ∧ ((false = false) ∧ (True))) ∧ ((tr 8 (True)) ∧ ((tr 12 (True)) ∧ (True))))) (lv := .ret) (T' := [(2, nilv), (3, nilv)]) (B' := []) mix hI hs ?_ ?_ ?_ ?_
  · exact trivial
  · kernel_rfl
  · exact ⟨tr_mk (trivial) 3, ⟨⟨tr_mk (trivial) 3, ⟨rfl, trivial⟩⟩, ⟨tr_mk (trivial) 8, ⟨tr_mk (trivial) 12, trivial⟩⟩⟩⟩
  intro a w hs
  exact FnQ_cast (out := .val (.tup [nilv, nilv])) (rfl) (ret_ok [] hs ⟨by kernel_rfl, rfl⟩)

set_option maxRecDepth 100000 in
theorem c171_0 : Con Tryz.prog I0 171 [nilv, vs (ba [97])] (.val (vi (-1))) := by
  refine con_of Tryz.func171 rfl (Nat.le_of_ble_eq_true rfl) stab (fun w0 fz a hI hs => ?_)
  refine wp_seq ?_
  refine way_L (tt := tt) (rs := []) (bs := []) (tk := [0, 1]) (bk := []) (C := (True) ∧ (True)) (lv := .norm) (T' := [(0, nilv), (1, vs (ba [97]))]) (B' := []) mix hI hs ?_ ?_ ?_ ?_
  · exact trivial
  · kernel_rfl
  · exact ⟨trivial, trivial⟩
  intro a w hs
  refine then_norm ?_
  refine wp_seq ?_
  refine wp_seq ?_
  refine way_L (tt := tt) (rs := []) (bs := []) (tk := [0, 1, 7, 8]) (bk := []) (C := tr 3 (True)) (lv := .norm) (T' := [(0, nilv), (1, vs (ba [97])), (7, vi 0), (8, vi 0)]) (B' := []) mix hI hs ?_ ?_ ?_ ?_
  · exact trivial
  · kernel_rfl
  · exact tr_mk (trivial) 3
  intro a w hs
  refine then_norm ?_
  refine wp_block ?_
  refine wp_loop_rounds 1 ?_
  refine rounds_step ?_
  refine way_L (tt := tt) (rs := []) (bs := [false]) (tk := []) (bk := []) (C := ((True) ∧ (True)) ∧ ((false = false) ∧ (True))) (lv := .exit 0) (T' := []) (B' := []) mix hI hs ?_ ?_ ?_ ?_
  · exact trivial
  · kernel_rfl
  · exact ⟨⟨trivial, trivial⟩, ⟨rfl, trivial⟩⟩
  intro a w hs
  refine then_exit ?_
  refine inb_hit ?_
  refine then_norm ?_
  refine way_L (tt := tt) (rs := []) (bs := []) (tk := [4]) (bk := []) (C := ((True) ∧ (True)) ∧ (True)) (lv := .ret) (T' := [(4, vi (-1))]) (B' := []) mix hI hs ?_ ?_ ?_ ?_
  · exact trivial
  · kernel_rfl
  · exact ⟨⟨trivial, trivial⟩, trivial⟩
  intro a w hs
  exact FnQ_cast (out := .val (vi (-1))) (rfl) (ret_ok [] hs ⟨by kernel_rfl, rfl⟩)

set_option maxRecDepth 100000 in
theorem c122_0 : Con Tryz.prog I0 122 [.agg [vi 7, vb false, vb false, nilv, vi 0, vs (ba []), nilv, nilv], vs (ba [97])] (.val (.tup [.agg [vi 0, vb false, vb false, nilv, vi 0, vs (ba []), nilv, nilv], vb false])) := by
  refine con_of Tryz.func122 rfl (Nat.le_of_ble_eq_true rfl) stab (fun w0 fz a hI hs => ?_)
  refine way_L (tt := tt) (rs := [(1, ⟨[(1, ciA 173 [.agg [vi 7, vb false, vb false, nilv, vi 0, vs (ba []), nilv, nilv]] [] [] (.val (.tup [nilv, nilv])))], [], []⟩), (2, ⟨[(2, ciA 171 [nilv, vs (ba [97])] [] [] (.val (vi (-1))))], [], []⟩)]) (bs := [false]) (tk := [4, 5]) (bk := [1001]) (C := (tr 3 (True)) ∧ (((True) ∧ ((okArgs [.agg [vi 7, vb false, vb false, nilv, vi 0, vs (ba []), nilv, nilv]]) ∧ (tr 5 (True)))) ∧ ((((True) ∧ ((True) ∧ ((okArgs [nilv, vs (ba [97])]) ∧ ((True) ∧ (True))))) ∧ (((True) ∧ ((True) ∧ (True))) ∧ ((false = false) ∧ (True)))) ∧ ((tr 3 (True)) ∧ (True))))) (lv := .ret) (T' := [(4, .ptr 1001 0), (5, vb false)]) (B' := [(1001, .var [vi 0, vb false, vb false, nilv, vi 0, vs (ba []), nilv, nilv])]) mix hI hs ?_ ?_ ?_ ?_
  · exact ⟨⟨⟨ent173, c173_0⟩, trivial⟩, ⟨⟨⟨ent171, c171_0⟩, trivial⟩, trivial⟩⟩
  · kernel_rfl
  · exact ⟨tr_mk (trivial) 3, ⟨⟨trivial, ⟨rfl, tr_mk (trivial) 5⟩⟩, ⟨⟨⟨trivial, ⟨trivial, ⟨rfl, ⟨trivial, trivial⟩⟩⟩⟩, ⟨⟨trivial, ⟨trivial, trivial⟩⟩, ⟨rfl, trivial⟩⟩⟩, ⟨tr_mk (trivial) 3, trivial⟩⟩⟩⟩
  intro a w hs
  exact FnQ_cast (out := .val (.tup [.agg [vi 0, vb false, vb false, nilv, vi 0, vs (ba []), nilv, nilv], vb false])) (rfl) (ret_ok [] hs ⟨by kernel_rfl, rfl⟩)

set_option maxRecDepth 100000 in
theorem c75_0 : Con Tryz.prog I0 75 [.agg [vi 7, vb false, vb false, nilv, vi 0, vs (ba []), nilv, nilv], .row .str ([(ba [97]), (ba [98])])] (.val (.tup [.agg [vi 0, vb false, vb false, nilv, vi 0, vs (ba []), nilv, nilv], vb false])) := by
  refine con_of Tryz.func75 rfl (Nat.le_of_ble_eq_true rfl) stab (fun w0 fz a hI hs => ?_)
  refine wp_seq ?_
  refine way_L (tt := tt) (rs := []) (bs := []) (tk := [1, 2, 4]) (bk := [1000, 1001]) (C := tr 3 (True)) (lv := .norm) (T' := [(1, .row .str ([(ba [97]), (ba [98])])), (2, .ptr 1000 0), (4, .ptr 1001 0)]) (B' := [(1000, .var [vi 7, vb false, vb false, nilv, vi 0, vs (ba []), nilv, nilv]), (1001, .var [vi 0, vb false, vb false, nilv, vi 0, vs (ba []), nilv, nilv])]) mix hI hs ?_ ?_ ?_ ?_
  · exact trivial
  · kernel_rfl
  · exact tr_mk (trivial) 3
  intro a w hs
  refine then_norm ?_
  refine wp_seq ?_
  refine wp_seq ?_
  refine way_L (tt := tt) (rs := []) (bs := []) (tk := [2, 4, 10, 11, 12]) (bk := [1000, 1001]) (C := tr 3 (True)) (lv := .norm) (T' := [(2, .ptr 1000 0), (4, .ptr 1001 0), (10, .row .str ([(ba [97]), (ba [98])])), (11, vi 2), (12, vi 0)]) (B' := [(1000, .var [vi 7, vb false, vb false, nilv, vi 0, vs (ba []), nilv, nilv]), (1001, .var [vi 0, vb false, vb false, nilv, vi 0, vs (ba []), nilv, nilv])]) mix hI hs ?_ ?_ ?_ ?_
  · exact trivial
  · kernel_rfl
  · exact tr_mk (trivial) 3
  intro a w hs
  refine then_norm ?_
  refine wp_block ?_
  refine wp_loop_rounds 1 ?_
  refine rounds_step ?_
  refine way_L (tt := tt) (rs := [(4, ⟨[(2, ciA 122 [.agg [vi 7, vb false, vb false, nilv, vi 0, vs (ba []), nilv, nilv], vs (ba [97])] [] [] (.val (.tup [.agg [vi 0, vb false, vb false, nilv, vi 0, vs (ba []), nilv, nilv], vb false])))], [], []⟩)]) (bs := [true, true]) (tk := [4, 5]) (bk := [1001]) (C := ((True) ∧ (True)) ∧ (((true = true) ∧ (True)) ∧ ((((0 : Int) ≤ 0 ∧ (0 : Int) < ((2 : Nat) : Int)) ∧ ((True) ∧ ((True) ∧ (True)))) ∧ (((True) ∧ ((True) ∧ ((okArgs [.agg [vi 7, vb false, vb false, nilv, vi 0, vs (ba []), nilv, nilv], vs (ba [97])]) ∧ (tr 6 (True))))) ∧ (((True) ∧ ((True) ∧ (True))) ∧ ((true = true) ∧ ((tr 3 (True)) ∧ (True)))))))) (lv := .ret) (T' := [(4, .ptr 1001 0), (5, vb false)]) (B' := [(1001, .var [vi 0, vb false, vb false, nilv, vi 0, vs (ba []), nilv, nilv])]) mix hI hs ?_ ?_ ?_ ?_
  · exact ⟨⟨⟨ent122, c122_0⟩, trivial⟩, trivial⟩
  · kernel_rfl
  · exact ⟨⟨trivial, trivial⟩, ⟨⟨rfl, trivial⟩, ⟨⟨(by decide), ⟨trivial, ⟨trivial, trivial⟩⟩⟩, ⟨⟨trivial, ⟨trivial, ⟨rfl, tr_mk (trivial) 6⟩⟩⟩, ⟨⟨trivial, ⟨trivial, trivial⟩⟩, ⟨rfl, ⟨tr_mk (trivial) 3, trivial⟩⟩⟩⟩⟩⟩⟩
  intro a w hs
  refine then_ret ?_
  refine inb_ret ?_
  refine then_ret ?_
  exact FnQ_cast (out := .val (.tup [.agg [vi 0, vb false, vb false, nilv, vi 0, vs (ba []), nilv, nilv], vb false])) (rfl) (ret_ok [] hs ⟨by kernel_rfl, rfl⟩)

set_option maxRecDepth 100000 in
theorem c173_1 : Con Tryz.prog I0 173 [.agg [vi 7, vb false, vb false, nilv, vi 0, vs (ba []), .row .str ([(ba [97])]), .row .tree ([(Tree.mk 7 false ⟨false, [], 0⟩ (ba []) ([(ba [98]), (ba [99])]) ([(Tree.mk 2 false ⟨false, [], 0⟩ (ba []) ([]) ([])), (Tree.mk 1 false ⟨false, [], 0⟩ (ba []) ([]) ([]))]))])]] (.val (.tup [.row .str ([(ba [97])]), .row .tree ([(Tree.mk 7 false ⟨false, [], 0⟩ (ba []) ([(ba [98]), (ba [99])]) ([(Tree.mk 2 false ⟨false, [], 0⟩ (ba []) ([]) ([])), (Tree.mk 1 false ⟨false, [], 0⟩ (ba []) ([]) ([]))]))])])) := by
  refine con_of Tryz.func173 rfl (Nat.le_of_ble_eq_true rfl) stab (fun w0 fz a hI hs => ?_)
  refine way_L (tt := tt) (rs := []) (bs := [false]) (tk := [2, 3]) (bk := []) (C := (tr 3 (True)) ∧ (((tr 3 (True)) ∧ ((false = false) ∧ (True))) ∧ ((tr 8 (True)) ∧ ((tr 4 (((0 : Int) ≤ 0 ∧ (0 : Int) ≤ 1 ∧ (1 : Int) ≤ 1 ∧ (1 : Int) ≤ ((1 : Nat) : Int)) ∧ (tr 4 (((0 : Int) ≤ 0 ∧ (0 : Int) ≤ 1 ∧ (1 : Int) ≤ 1 ∧ (1 : Int) ≤ ((1 : Nat) : Int)) ∧ ((True) ∧ ((True) ∧ (True))))))) ∧ (True))))) (lv := .ret) (T' := [(2, .row .str ([(ba [97])])), (3, .row .tree ([(Tree.mk 7 false ⟨false, [], 0⟩ (ba []) ([(ba [98]), (ba [99])]) ([(Tree.mk 2 false ⟨false, [], 0⟩ (ba []) ([]) ([])), (Tree.mk 1 false ⟨false, [], 0⟩ (ba []) ([]) ([]))]))]))]) (B' := []) mix hI hs ?_ ?_ ?_ ?_
  · exact trivial
  · kernel_rfl
  · exact ⟨tr_mk (trivial) 3, ⟨⟨tr_mk (trivial) 3, ⟨rfl, trivial⟩⟩, ⟨tr_mk (trivial) 8, ⟨tr_mk (⟨(by decide), tr_mk (⟨(by decide), ⟨trivial, ⟨trivial, trivial⟩⟩⟩) 4⟩) 4, trivial⟩⟩⟩⟩
  intro a w hs
  exact FnQ_cast (out := .val (.tup [.row .str ([(ba [97])]), .row .tree ([(Tree.mk 7 false ⟨false, [], 0⟩ (ba []) ([(ba [98]), (ba [99])]) ([(Tree.mk 2 false ⟨false, [], 0⟩ (ba []) ([]) ([])), (Tree.mk 1 false ⟨false, [], 0⟩ (ba []) ([]) ([]))]))])])) (rfl) (ret_ok [] hs ⟨by kernel_rfl, rfl⟩)

set_option maxRecDepth 100000 in
theorem c171_1 : Con Tryz.prog I0 171 [.row .str ([(ba [97])]), vs (ba [97])] (.val (vi 0)) := by
  refine con_of Tryz.func171 rfl (Nat.le_of_ble_eq_true rfl) stab (fun w0 fz a hI hs => ?_)
  refine wp_seq ?_
  refine way_L (tt := tt) (rs := []) (bs := []) (tk := [0, 1]) (bk := []) (C := (True) ∧ (True)) (lv := .norm) (T' := [(0, .row .str ([(ba [97])])), (1, vs (ba [97]))]) (B' := []) mix hI hs ?_ ?_ ?_ ?_
  · exact trivial
  · kernel_rfl
  · exact ⟨trivial, trivial⟩
  intro a w hs
  refine then_norm ?_
  refine wp_seq ?_
  refine wp_seq ?_
  refine way_L (tt := tt) (rs := []) (bs := []) (tk := [0, 1, 7, 8]) (bk := []) (C := tr 3 (True)) (lv := .norm) (T' := [(0, .row .str ([(ba [97])])), (1, vs (ba [97])), (7, vi 1), (8, vi 0)]) (B' := []) mix hI hs ?_ ?_ ?_ ?_
  · exact trivial
  · kernel_rfl
  · exact tr_mk (trivial) 3
  intro a w hs
  refine then_norm ?_
  refine wp_block ?_
  refine wp_loop_rounds 1 ?_
  refine rounds_step ?_
  refine way_L (tt := tt) (rs := []) (bs := [true, true]) (tk := [4]) (bk := []) (C := ((True) ∧ (True)) ∧ (((true = true) ∧ (True)) ∧ (((True) ∧ ((True) ∧ (True))) ∧ ((tr 3 (((0 : Int) ≤ 0 ∧ (0 : Int) < ((1 : Nat) : Int)) ∧ ((True) ∧ ((True) ∧ (True))))) ∧ ((true = true) ∧ (((True) ∧ ((True) ∧ (True))) ∧ (True))))))) (lv := .ret) (T' := [(4, vi 0)]) (B' := []) mix hI hs ?_ ?_ ?_ ?_
  · exact trivial
  · kernel_rfl
  · exact ⟨⟨trivial, trivial⟩, ⟨⟨rfl, trivial⟩, ⟨⟨trivial, ⟨trivial, trivial⟩⟩, ⟨tr_mk (⟨(by decide), ⟨trivial, ⟨trivial, trivial⟩⟩⟩) 3, ⟨rfl, ⟨⟨trivial, ⟨trivial, trivial⟩⟩, trivial⟩⟩⟩⟩⟩⟩
  intro a w hs
  refine then_ret ?_
  refine inb_ret ?_
  refine then_ret ?_
  exact FnQ_cast (out := .val (vi 0)) (rfl) (ret_ok [] hs ⟨by kernel_rfl, rfl⟩)

set_option maxRecDepth 100000 in
theorem c122_1 : Con Tryz.prog I0 122 [.agg [vi 7, vb false, vb false, nilv, vi 0, vs (ba []), .row .str ([(ba [97])]), .row .tree ([(Tree.mk 7 false ⟨false, [], 0⟩ (ba []) ([(ba [98]), (ba [99])]) ([(Tree.mk 2 false ⟨false, [], 0⟩ (ba []) ([]) ([])), (Tree.mk 1 false ⟨false, [], 0⟩ (ba []) ([]) ([]))]))])], vs (ba [97])] (.val (.tup [.agg [vi 7, vb false, vb false, .row (.int .u32) ([]), vi 0, vs (ba []), .row .str ([(ba [98]), (ba [99])]), .row .tree ([(Tree.mk 2 false ⟨false, [], 0⟩ (ba []) ([]) ([])), (Tree.mk 1 false ⟨false, [], 0⟩ (ba []) ([]) ([]))])], vb true])) := by
  refine con_of Tryz.func122 rfl (Nat.le_of_ble_eq_true rfl) stab (fun w0 fz a hI hs => ?_)
  refine way_L (tt := tt) (rs := [(1, ⟨[(1, ciA 173 [.agg [vi 7, vb false, vb false, nilv, vi 0, vs (ba []), .row .str ([(ba [97])]), .row .tree ([(Tree.mk 7 false ⟨false, [], 0⟩ (ba []) ([(ba [98]), (ba [99])]) ([(Tree.mk 2 false ⟨false, [], 0⟩ (ba []) ([]) ([])), (Tree.mk 1 false ⟨false, [], 0⟩ (ba []) ([]) ([]))]))])]] [] [] (.val (.tup [.row .str ([(ba [97])]), .row .tree ([(Tree.mk 7 false ⟨false, [], 0⟩ (ba []) ([(ba [98]), (ba [99])]) ([(Tree.mk 2 false ⟨false, [], 0⟩ (ba []) ([]) ([])), (Tree.mk 1 false ⟨false, [], 0⟩ (ba []) ([]) ([]))]))])])))], [], []⟩), (2, ⟨[(2, ciA 171 [.row .str ([(ba [97])]), vs (ba [97])] [] [] (.val (vi 0)))], [], []⟩)]) (bs := [true]) (tk := [4, 5]) (bk := [1001]) (C := (tr 3 (True)) ∧ (((True) ∧ ((okArgs [.agg [vi 7, vb false, vb false, nilv, vi 0, vs (ba []), .row .str ([(ba [97])]), .row .tree ([(Tree.mk 7 false ⟨false, [], 0⟩ (ba []) ([(ba [98]), (ba [99])]) ([(Tree.mk 2 false ⟨false, [], 0⟩ (ba []) ([]) ([])), (Tree.mk 1 false ⟨false, [], 0⟩ (ba []) ([]) ([]))]))])]]) ∧ (tr 5 (True)))) ∧ (((True) ∧ ((True) ∧ ((okArgs [.row .str ([(ba [97])]), vs (ba [97])]) ∧ ((True) ∧ (True))))) ∧ (((True) ∧ ((True) ∧ (True))) ∧ ((true = true) ∧ (((True) ∧ ((True) ∧ (((0 : Int) ≤ 0 ∧ (0 : Int) < ((1 : Nat) : Int)) ∧ (tr 3 (True))))) ∧ (True))))))) (lv := .ret) (T' := [(4, .ptr 1001 0), (5, vb true)]) (B' := [(1001, .var [vi 7, vb false, vb false, .row (.int .u32) ([]), vi 0, vs (ba []), .row .str ([(ba [98]), (ba [99])]), .row .tree ([(Tree.mk 2 false ⟨false, [], 0⟩ (ba []) ([]) ([])), (Tree.mk 1 false ⟨false, [], 0⟩ (ba []) ([]) ([]))])])]) mix hI hs ?_ ?_ ?_ ?_
  · exact ⟨⟨⟨ent173, c173_1⟩, trivial⟩, ⟨⟨⟨ent171, c171_1⟩, trivial⟩, trivial⟩⟩
  · kernel_rfl
  · exact ⟨tr_mk (trivial) 3, ⟨⟨trivial, ⟨rfl, tr_mk (trivial) 5⟩⟩, ⟨⟨trivial, ⟨trivial, ⟨rfl, ⟨trivial, trivial⟩⟩⟩⟩, ⟨⟨trivial, ⟨trivial, trivial⟩⟩, ⟨rfl, ⟨⟨trivial, ⟨trivial, ⟨(by decide), tr_mk (trivial) 3⟩⟩⟩, trivial⟩⟩⟩⟩⟩⟩
  intro a w hs
  exact FnQ_cast (out := .val (.tup [.agg [vi 7, vb false, vb false, .row (.int .u32) ([]), vi 0, vs (ba []), .row .str ([(ba [98]), (ba [99])]), .row .tree ([(Tree.mk 2 false ⟨false, [], 0⟩ (ba []) ([]) ([])), (Tree.mk 1 false ⟨false, [], 0⟩ (ba []) ([]) ([]))])], vb true])) (rfl) (ret_ok [] hs ⟨by kernel_rfl, rfl⟩)

set_option maxRecDepth 100000 in
theorem c173_2 : Con Tryz.prog I0 173 [.agg [vi 7, vb false, vb false, .row (.int .u32) ([]), vi 0, vs (ba []), .row .str ([(ba [98]), (ba [99])]), .row .tree ([(Tree.mk 2 false ⟨false, [], 0⟩ (ba []) ([]) ([])), (Tree.mk 1 false ⟨false, [], 0⟩ (ba []) ([]) ([]))])]] (.val (.tup [.row .str ([(ba [98]), (ba [99])]), .row .tree ([(Tree.mk 2 false ⟨false, [], 0⟩ (ba []) ([]) ([])), (Tree.mk 1 false ⟨false, [], 0⟩ (ba []) ([]) ([]))])])) := by
  refine con_of Tryz.func173 rfl (Nat.le_of_ble_eq_true rfl) stab (fun w0 fz a hI hs => ?_)
  refine way_L (tt := tt) (rs := []) (bs := [false]) (tk := [2, 3]) (bk := []) (C := (tr 3 (True)) ∧ (((tr 3 (True)) ∧ ((false = false) ∧ (True))) ∧ ((tr 8 (True)) ∧ ((tr 4 (((0 : Int) ≤ 0 ∧ (0 : Int) ≤ 2 ∧ (2 : Int) ≤ 2 ∧ (2 : Int) ≤ ((2 : Nat) : Int)) ∧ (tr 4 (((0 : Int) ≤ 0 ∧ (0 : Int) ≤ 2 ∧ (2 : Int) ≤ 2 ∧ (2 : Int) ≤ ((2 : Nat) : Int)) ∧ ((True) ∧ ((True) ∧ (True))))))) ∧ (True))))) (lv := .ret) (T' := [(2, .row .str ([(ba [98]), (ba [99])])), (3, .row .tree ([(Tree.mk 2 false ⟨false, [], 0⟩ (ba []) ([]) ([])), (Tree.mk 1 false ⟨false, [], 0⟩ (ba []) ([]) ([]))]))]) (B' := []) mix hI hs ?_ ?_ ?_ ?_
  · exact trivial
  · kernel_rfl
  · exact ⟨tr_mk (trivial) 3, ⟨⟨tr_mk (trivial) 3, ⟨rfl, trivial⟩⟩, ⟨tr_mk (trivial) 8, ⟨tr_mk (⟨(by decide), tr_mk (⟨(by decide), ⟨trivial, ⟨trivial, trivial⟩⟩⟩) 4⟩) 4, trivial⟩⟩⟩⟩
  intro a w hs
  exact FnQ_cast (out := .val (.tup [.row .str ([(ba [98]), (ba [99])]), .row .tree ([(Tree.mk 2 false ⟨false, [], 0⟩ (ba []) ([]) ([])), (Tree.mk 1 false ⟨false, [], 0⟩ (ba []) ([]) ([]))])])) (rfl) (ret_ok [] hs ⟨by kernel_rfl, rfl⟩)

set_option maxRecDepth 100000 in
theorem c171_2 : Con Tryz.prog I0 171 [.row .str ([(ba [98]), (ba [99])]), vs (ba [98])] (.val (vi 0)) := by
  refine con_of Tryz.func171 rfl (Nat.le_of_ble_eq_true rfl) stab (fun w0 fz a hI hs => ?_)
  refine wp_seq ?_
  refine way_L (tt := tt) (rs := []) (bs := []) (tk := [0, 1]) (bk := []) (C := (True) ∧ (True)) (lv := .norm) (T' := [(0, .row .str ([(ba [98]), (ba [99])])), (1, vs (ba [98]))]) (B' := []) mix hI hs ?_ ?_ ?_ ?_
  · exact trivial
  · kernel_rfl
  · exact ⟨trivial, trivial⟩
  intro a w hs
  refine then_norm ?_
  refine wp_seq ?_
  refine wp_seq ?_
  refine way_L (tt := tt) (rs := []) (bs := []) (tk := [0, 1, 7, 8]) (bk := []) (C := tr 3 (True)) (lv := .norm) (T' := [(0, .row .str ([(ba [98]), (ba [99])])), (1, vs (ba [98])), (7, vi 2), (8, vi 0)]) (B' := []) mix hI hs ?_ ?_ ?_ ?_
  · exact trivial
  · kernel_rfl
  · exact tr_mk (trivial) 3
  intro a w hs
  refine then_norm ?_
  refine wp_block ?_
  refine wp_loop_rounds 1 ?_
  refine rounds_step ?_
  refine way_L (tt := tt) (rs := []) (bs := [true, true]) (tk := [4]) (bk := []) (C := ((True) ∧ (True)) ∧ (((true = true) ∧ (True)) ∧ (((True) ∧ ((True) ∧ (True))) ∧ ((tr 3 (((0 : Int) ≤ 0 ∧ (0 : Int) < ((2 : Nat) : Int)) ∧ ((True) ∧ ((True) ∧ (True))))) ∧ ((true = true) ∧ (((True) ∧ ((True) ∧ (True))) ∧ (True))))))) (lv := .ret) (T' := [(4, vi 0)]) (B' := []) mix hI hs ?_ ?_ ?_ ?_
  · exact trivial
  · kernel_rfl
  · exact ⟨⟨trivial, trivial⟩, ⟨⟨rfl, trivial⟩, ⟨⟨trivial, ⟨trivial, trivial⟩⟩, ⟨tr_mk (⟨(by decide), ⟨trivial, ⟨trivial, trivial⟩⟩⟩) 3, ⟨rfl, ⟨⟨trivial, ⟨trivial, trivial⟩⟩, trivial⟩⟩⟩⟩⟩⟩
  intro a w hs
  refine then_ret ?_
  refine inb_ret ?_
  refine then_ret ?_
  exact FnQ_cast (out := .val (vi 0)) (rfl) (ret_ok [] hs ⟨by kernel_rfl, rfl⟩)

set_option maxRecDepth 100000 in
theorem c228_0 : Con Tryz.prog I0 228 [nilv, vi 1] (.own 9 .str ([])) := by
  refine con_of Tryz.func228 rfl (Nat.le_of_ble_eq_true rfl) stab (fun w0 fz a hI hs => ?_)
  refine way_L (tt := tt) (rs := []) (bs := [false, true]) (tk := [4]) (bk := [6008]) (C := ((True) ∧ (True)) ∧ ((((True) ∧ ((True) ∧ (True))) ∧ ((false = false) ∧ (True))) ∧ (((tr 5 ((InR .i64 0) ∧ ((InR .i64 1) ∧ ((True) ∧ (True))))) ∧ (((True) ∧ ((True) ∧ (True))) ∧ ((true = true) ∧ (tr 5 (((0 : Int) ≤ 1 ∧ (1 * 16 : Nat) ≤ 140737488355328) ∧ ((True) ∧ ((True) ∧ (((0 : Int) ≤ 0 ∧ (0 : Int) ≤ ((1 : Nat) : Int)) ∧ ((True) ∧ (True)))))))))) ∧ (((True) ∧ ((True) ∧ (True))) ∧ (True))))) (lv := .ret) (T' := [(4, .own 6008)]) (B' := [(6008, .sl 9 .str ([]))]) mix hI hs ?_ ?_ ?_ ?_
  · exact trivial
  · kernel_rfl
  · exact ⟨⟨trivial, trivial⟩, ⟨⟨⟨trivial, ⟨trivial, trivial⟩⟩, ⟨rfl, trivial⟩⟩, ⟨⟨tr_mk (⟨(inR64 (by omega) (by omega)), ⟨(inR64 (by omega) (by omega)), ⟨trivial, trivial⟩⟩⟩) 5, ⟨⟨trivial, ⟨trivial, trivial⟩⟩, ⟨rfl, tr_mk (⟨(by decide), ⟨trivial, ⟨trivial, ⟨(by decide), ⟨trivial, trivial⟩⟩⟩⟩⟩) 5⟩⟩⟩, ⟨⟨trivial, ⟨trivial, trivial⟩⟩, trivial⟩⟩⟩⟩
  intro a w hs
  exact FnQ_cast (out := .own 9 .str ([])) (rfl) (ret_ok [] hs (.inl ⟨6008, by kernel_rfl, rfl⟩))

set_option maxRecDepth 100000 in
theorem c191_0 : Con Tryz.prog I0 191 [.row .strs ([[], [(ba [99])]])] (.own 9 .str ([(ba [99])])) := by
  refine con_of Tryz.func191 rfl (Nat.le_of_ble_eq_true rfl) stab (fun w0 fz a hI hs => ?_)
  refine wp_seq ?_
  refine way_L (tt := tt) (rs := []) (bs := []) (tk := [0]) (bk := []) (C := (True) ∧ (True)) (lv := .norm) (T' := [(0, .row .strs ([[], [(ba [99])]]))]) (B' := []) mix hI hs ?_ ?_ ?_ ?_
  · exact trivial
  · kernel_rfl
  · exact ⟨trivial, trivial⟩
  intro a w hs
  refine then_norm ?_
  refine wp_seq ?_
  refine way_L (tt := tt) (rs := []) (bs := []) (tk := [0, 3]) (bk := []) (C := (True) ∧ (True)) (lv := .norm) (T' := [(0, .row .strs ([[], [(ba [99])]])), (3, vi 0)]) (B' := []) mix hI hs ?_ ?_ ?_ ?_
  · exact trivial
  · kernel_rfl
  · exact ⟨trivial, trivial⟩
  intro a w hs
  refine then_norm ?_
  refine wp_seq ?_
  refine wp_seq ?_
  refine way_L (tt := tt) (rs := []) (bs := []) (tk := [0, 3, 9, 10, 11]) (bk := []) (C := tr 3 (True)) (lv := .norm) (T' := [(0, .row .strs ([[], [(ba [99])]])), (3, vi 0), (9, .row .strs ([[], [(ba [99])]])), (10, vi 2), (11, vi 0)]) (B' := []) mix hI hs ?_ ?_ ?_ ?_
  · exact trivial
  · kernel_rfl
  · exact tr_mk (trivial) 3
  intro a w hs
  refine then_norm ?_
  refine wp_block ?_
  refine wp_loop_rounds 3 ?_
  refine rounds_step ?_
  refine way_L (tt := tt) (rs := []) (bs := [true, false]) (tk := [0, 3, 9, 10, 11]) (bk := []) (C := ((True) ∧ (True)) ∧ (((true = true) ∧ (True)) ∧ (((((0 : Int) ≤ 0 ∧ (0 : Int) < ((2 : Nat) : Int)) ∧ ((True) ∧ ((True) ∧ (True)))) ∧ ((tr 3 ((InR .i64 0) ∧ ((True) ∧ (True)))) ∧ (((True) ∧ ((True) ∧ (True))) ∧ ((false = false) ∧ (True))))) ∧ ((InR .i64 1) ∧ ((True) ∧ (True)))))) (lv := .norm) (T' := [(0, .row .strs ([[], [(ba [99])]])), (3, vi 0), (9, .row .strs ([[], [(ba [99])]])), (10, vi 2), (11, vi 1)]) (B' := []) mix hI hs ?_ ?_ ?_ ?_
  · exact trivial
  · kernel_rfl
  · exact ⟨⟨trivial, trivial⟩, ⟨⟨rfl, trivial⟩, ⟨⟨⟨(by decide), ⟨trivial, ⟨trivial, trivial⟩⟩⟩, ⟨tr_mk (⟨(inR64 (by omega) (by omega)), ⟨trivial, trivial⟩⟩) 3, ⟨⟨trivial, ⟨trivial, trivial⟩⟩, ⟨rfl, trivial⟩⟩⟩⟩, ⟨(inR64 (by omega) (by omega)), ⟨trivial, trivial⟩⟩⟩⟩⟩
  intro a w hs
  refine then_norm ?_
  refine rounds_step ?_
  refine way_L (tt := tt) (rs := []) (bs := [true, false]) (tk := [0, 3, 9, 10, 11]) (bk := []) (C := ((True) ∧ (True)) ∧ (((true = true) ∧ (True)) ∧ (((((0 : Int) ≤ 1 ∧ (1 : Int) < ((2 : Nat) : Int)) ∧ ((True) ∧ ((True) ∧ (True)))) ∧ ((tr 3 ((InR .i64 1) ∧ ((True) ∧ (True)))) ∧ (((True) ∧ ((True) ∧ (True))) ∧ ((false = false) ∧ (True))))) ∧ ((InR .i64 2) ∧ ((True) ∧ (True)))))) (lv := .norm) (T' := [(0, .row .strs ([[], [(ba [99])]])), (3, vi 1), (9, .row .strs ([[], [(ba [99])]])), (10, vi 2), (11, vi 2)]) (B' := []) mix hI hs ?_ ?_ ?_ ?_
  · exact trivial
  · kernel_rfl
  · exact ⟨⟨trivial, trivial⟩, ⟨⟨rfl, trivial⟩, ⟨⟨⟨(by decide), ⟨trivial, ⟨trivial, trivial⟩⟩⟩, ⟨tr_mk (⟨(inR64 (by omega) (by omega)), ⟨trivial, trivial⟩⟩) 3, ⟨⟨trivial, ⟨trivial, trivial⟩⟩, ⟨rfl, trivial⟩⟩⟩⟩, ⟨(inR64 (by omega) (by omega)), ⟨trivial, trivial⟩⟩⟩⟩⟩
  intro a w hs
  refine then_norm ?_
  refine rounds_step ?_
  refine way_L (tt := tt) (rs := []) (bs := [false]) (tk := [0, 3]) (bk := []) (C := ((True) ∧ (True)) ∧ ((false = false) ∧ (True))) (lv := .exit 0) (T' := [(0, .row .strs ([[], [(ba [99])]])), (3, vi 1)]) (B' := []) mix hI hs ?_ ?_ ?_ ?_
  · exact trivial
  · kernel_rfl
  · exact ⟨⟨trivial, trivial⟩, ⟨rfl, trivial⟩⟩
  intro a w hs
  refine then_exit ?_
  refine inb_hit ?_
  refine then_norm ?_
  refine wp_seq ?_
  refine way_L (tt := tt) (rs := [(9, ⟨[(1, ciA 228 [nilv, vi 1] [] [] (.own 9 .str ([])))], [], []⟩)]) (bs := []) (tk := [0, 6]) (bk := [10001]) (C := (True) ∧ ((okArgs [nilv, vi 1]) ∧ ((True) ∧ (True)))) (lv := .norm) (T' := [(0, .row .strs ([[], [(ba [99])]])), (6, .own 10001)]) (B' := [(10001, .sl 9 .str ([]))]) mix hI hs ?_ ?_ ?_ ?_
  · exact ⟨⟨⟨ent228, c228_0⟩, trivial⟩, trivial⟩
  · kernel_rfl
  · exact ⟨trivial, ⟨rfl, ⟨trivial, trivial⟩⟩⟩
  intro a w hs
  refine then_norm ?_
  refine wp_seq ?_
  refine wp_seq ?_
  refine way_L (tt := tt) (rs := []) (bs := []) (tk := [6, 25, 26, 27]) (bk := [10001]) (C := tr 3 (True)) (lv := .norm) (T' := [(6, .own 10001), (25, .row .strs ([[], [(ba [99])]])), (26, vi 2), (27, vi 0)]) (B' := [(10001, .sl 9 .str ([]))]) mix hI hs ?_ ?_ ?_ ?_
  · exact trivial
  · kernel_rfl
  · exact tr_mk (trivial) 3
  intro a w hs
  refine then_norm ?_
  refine wp_block ?_
  refine wp_loop_rounds 3 ?_
  refine rounds_step ?_
  refine way_L (tt := tt) (rs := []) (bs := [true]) (tk := [6, 25, 26, 27]) (bk := [14002]) (C := ((True) ∧ (True)) ∧ (((true = true) ∧ (True)) ∧ (((((0 : Int) ≤ 0 ∧ (0 : Int) < ((2 : Nat) : Int)) ∧ ((True) ∧ ((True) ∧ (True)))) ∧ ((True) ∧ ((True) ∧ ((((0 + 0) * 16 : Nat) ≤ 140737488355328 ∧ 0 + 0 ≤ 140737488355328) ∧ ((True) ∧ (True)))))) ∧ ((InR .i64 1) ∧ ((True) ∧ (True)))))) (lv := .norm) (T' := [(6, .own 14002), (25, .row .strs ([[], [(ba [99])]])), (26, vi 2), (27, vi 1)]) (B' := [(14002, .sl 9 .str ([]))]) mix hI hs ?_ ?_ ?_ ?_
  · exact trivial
  · kernel_rfl
  · exact ⟨⟨trivial, trivial⟩, ⟨⟨rfl, trivial⟩, ⟨⟨⟨(by decide), ⟨trivial, ⟨trivial, trivial⟩⟩⟩, ⟨trivial, ⟨trivial, ⟨(by decide), ⟨trivial, trivial⟩⟩⟩⟩⟩, ⟨(inR64 (by omega) (by omega)), ⟨trivial, trivial⟩⟩⟩⟩⟩
  intro a w hs
  refine then_norm ?_
  have hs := hs.ren (T' := [(6, .own 10000003), (25, .row .strs ([[], [(ba [99])]])), (26, vi 2), (27, vi 1)]) (B' := [(10000003, .sl 9 .str ([]))]) [(10000003, 14002)] (by kernel_rfl) (by kernel_rfl) (by kernel_rfl)
  refine rounds_step ?_
  refine way_L (tt := tt) (rs := []) (bs := [true]) (tk := [6, 25, 26, 27]) (bk := [14002]) (C := ((True) ∧ (True)) ∧ (((true = true) ∧ (True)) ∧ (((((0 : Int) ≤ 1 ∧ (1 : Int) < ((2 : Nat) : Int)) ∧ ((True) ∧ ((True) ∧ (True)))) ∧ ((True) ∧ ((True) ∧ ((((0 + 1) * 16 : Nat) ≤ 140737488355328 ∧ 0 + 1 ≤ 140737488355328) ∧ ((True) ∧ (True)))))) ∧ ((InR .i64 2) ∧ ((True) ∧ (True)))))) (lv := .norm) (T' := [(6, .own 14002), (25, .row .strs ([[], [(ba [99])]])), (26, vi 2), (27, vi 2)]) (B' := [(14002, .sl 9 .str ([(ba [99])]))]) mix hI hs ?_ ?_ ?_ ?_
  · exact trivial
  · kernel_rfl
  · exact ⟨⟨trivial, trivial⟩, ⟨⟨rfl, trivial⟩, ⟨⟨⟨(by decide), ⟨trivial, ⟨trivial, trivial⟩⟩⟩, ⟨trivial, ⟨trivial, ⟨(by decide), ⟨trivial, trivial⟩⟩⟩⟩⟩, ⟨(inR64 (by omega) (by omega)), ⟨trivial, trivial⟩⟩⟩⟩⟩
  intro a w hs
  refine then_norm ?_
  have hs := hs.ren (T' := [(6, .own 10000004), (25, .row .strs ([[], [(ba [99])]])), (26, vi 2), (27, vi 2)]) (B' := [(10000004, .sl 9 .str ([(ba [99])]))]) [(10000004, 14002)] (by kernel_rfl) (by kernel_rfl) (by kernel_rfl)
  refine rounds_step ?_
  refine way_L (tt := tt) (rs := []) (bs := [false]) (tk := [6]) (bk := [10000004]) (C := ((True) ∧ (True)) ∧ ((false = false) ∧ (True))) (lv := .exit 2) (T' := [(6, .own 10000004)]) (B' := [(10000004, .sl 9 .str ([(ba [99])]))]) mix hI hs ?_ ?_ ?_ ?_
  · exact trivial
  · kernel_rfl
  · exact ⟨⟨trivial, trivial⟩, ⟨rfl, trivial⟩⟩
  intro a w hs
  refine then_exit ?_
  refine inb_hit ?_
  refine then_norm ?_
  refine way_L (tt := tt) (rs := []) (bs := []) (tk := [2]) (bk := [10000004]) (C := ((True) ∧ ((True) ∧ (True))) ∧ (True)) (lv := .ret) (T' := [(2, .own 10000004)]) (B' := [(10000004, .sl 9 .str ([(ba [99])]))]) mix hI hs ?_ ?_ ?_ ?_
  · exact trivial
  · kernel_rfl
  · exact ⟨⟨trivial, ⟨trivial, trivial⟩⟩, trivial⟩
  intro a w hs
  exact FnQ_cast (out := .own 9 .str ([(ba [99])])) (rfl) (ret_ok [] hs (.inl ⟨10000004, by kernel_rfl, rfl⟩))

set_option maxRecDepth 100000 in
theorem c229_0 : Con Tryz.prog I0 229 [nilv, vi 1] (.own 29 .tree ([])) := by
  refine con_of Tryz.func229 rfl (Nat.le_of_ble_eq_true rfl) stab (fun w0 fz a hI hs => ?_)
  refine way_L (tt := tt) (rs := []) (bs := [false, true]) (tk := [4]) (bk := [6008]) (C := ((True) ∧ (True)) ∧ ((((True) ∧ ((True) ∧ (True))) ∧ ((false = false) ∧ (True))) ∧ (((tr 5 ((InR .i64 0) ∧ ((InR .i64 1) ∧ ((True) ∧ (True))))) ∧ (((True) ∧ ((True) ∧ (True))) ∧ ((true = true) ∧ (tr 5 (((0 : Int) ≤ 1 ∧ (1 * 120 : Nat) ≤ 140737488355328) ∧ ((True) ∧ ((True) ∧ (((0 : Int) ≤ 0 ∧ (0 : Int) ≤ ((1 : Nat) : Int)) ∧ ((True) ∧ (True)))))))))) ∧ (((True) ∧ ((True) ∧ (True))) ∧ (True))))) (lv := .ret) (T' := [(4, .own 6008)]) (B' := [(6008, .sl 29 .tree ([]))]) mix hI hs ?_ ?_ ?_ ?_
  · exact trivial
  · kernel_rfl
  · exact ⟨⟨trivial, trivial⟩, ⟨⟨⟨trivial, ⟨trivial, trivial⟩⟩, ⟨rfl, trivial⟩⟩, ⟨⟨tr_mk (⟨(inR64 (by omega) (by omega)), ⟨(inR64 (by omega) (by omega)), ⟨trivial, trivial⟩⟩⟩) 5, ⟨⟨trivial, ⟨trivial, trivial⟩⟩, ⟨rfl, tr_mk (⟨(by decide), ⟨trivial, ⟨trivial, ⟨(by decide), ⟨trivial, trivial⟩⟩⟩⟩⟩) 5⟩⟩⟩, ⟨⟨trivial, ⟨trivial, trivial⟩⟩, trivial⟩⟩⟩⟩
  intro a w hs
  exact FnQ_cast (out := .own 29 .tree ([])) (rfl) (ret_ok [] hs (.inl ⟨6008, by kernel_rfl, rfl⟩))

set_option maxRecDepth 100000 in
theorem c192_0 : Con Tryz.prog I0 192 [.row .trees ([[], [(Tree.mk 1 false ⟨false, [], 0⟩ (ba []) ([]) ([]))]])] (.own 29 .tree ([(Tree.mk 1 false ⟨false, [], 0⟩ (ba []) ([]) ([]))])) := by
  refine con_of Tryz.func192 rfl (Nat.le_of_ble_eq_true rfl) stab (fun w0 fz a hI hs => ?_)
  refine wp_seq ?_
  refine way_L (tt := tt) (rs := []) (bs := []) (tk := [0]) (bk := []) (C := (True) ∧ (True)) (lv := .norm) (T' := [(0, .row .trees ([[], [(Tree.mk 1 false ⟨false, [], 0⟩ (ba []) ([]) ([]))]]))]) (B' := []) mix hI hs ?_ ?_ ?_ ?_
  · exact trivial
  · kernel_rfl
  · exact ⟨trivial, trivial⟩
  intro a w hs
  refine then_norm ?_
  refine wp_seq ?_
  refine way_L (tt := tt) (rs := []) (bs := []) (tk := [0, 3]) (bk := []) (C := (True) ∧ (True)) (lv := .norm) (T' := [(0, .row .trees ([[], [(Tree.mk 1 false ⟨false, [], 0⟩ (ba []) ([]) ([]))]])), (3, vi 0)]) (B' := []) mix hI hs ?_ ?_ ?_ ?_
  · exact trivial
  · kernel_rfl
  · exact ⟨trivial, trivial⟩
  intro a w hs
  refine then_norm ?_
  refine wp_seq ?_
  refine wp_seq ?_
  refine way_L (tt := tt) (rs := []) (bs := []) (tk := [0, 3, 9, 10, 11]) (bk := []) (C := tr 3 (True)) (lv := .norm) (T' := [(0, .row .trees ([[], [(Tree.mk 1 false ⟨false, [], 0⟩ (ba []) ([]) ([]))]])), (3, vi 0), (9, .row .trees ([[], [(Tree.mk 1 false ⟨false, [], 0⟩ (ba []) ([]) ([]))]])), (10, vi 2), (11, vi 0)]) (B' := []) mix hI hs ?_ ?_ ?_ ?_
  · exact trivial
  · kernel_rfl
  · exact tr_mk (trivial) 3
  intro a w hs
  refine then_norm ?_
  refine wp_block ?_
  refine wp_loop_rounds 3 ?_
  refine rounds_step ?_
  refine way_L (tt := tt) (rs := []) (bs := [true, false]) (tk := [0, 3, 9, 10, 11]) (bk := []) (C := ((True) ∧ (True)) ∧ (((true = true) ∧ (True)) ∧ (((((0 : Int) ≤ 0 ∧ (0 : Int) < ((2 : Nat) : Int)) ∧ ((True) ∧ ((True) ∧ (True)))) ∧ ((tr 3 ((InR .i64 0) ∧ ((True) ∧ (True)))) ∧ (((True) ∧ ((True) ∧ (True))) ∧ ((false = false) ∧ (True))))) ∧ ((InR .i64 1) ∧ ((True) ∧ (True)))))) (lv := .norm) (T' := [(0, .row .trees ([[], [(Tree.mk 1 false ⟨false, [], 0⟩ (ba []) ([]) ([]))]])), (3, vi 0), (9, .row .trees ([[], [(Tree.mk 1 false ⟨false, [], 0⟩ (ba []) ([]) ([]))]])), (10, vi 2), (11, vi 1)]) (B' := []) mix hI hs ?_ ?_ ?_ ?_
  · exact trivial
  · kernel_rfl
  · exact ⟨⟨trivial, trivial⟩, ⟨⟨rfl, trivial⟩, ⟨⟨⟨(by decide), ⟨trivial, ⟨trivial, trivial⟩⟩⟩, ⟨tr_mk (⟨(inR64 (by omega) (by omega)), ⟨trivial, trivial⟩⟩) 3, ⟨⟨trivial, ⟨trivial, trivial⟩⟩, ⟨rfl, trivial⟩⟩⟩⟩, ⟨(inR64 (by omega) (by omega)), ⟨trivial, trivial⟩⟩⟩⟩⟩
  intro a w hs
  refine then_norm ?_
  refine rounds_step ?_
  refine way_L (tt := tt) (rs := []) (bs := [true, false]) (tk := [0, 3, 9, 10, 11]) (bk := []) (C := ((True) ∧ (True)) ∧ (((true = true) ∧ (True)) ∧ (((((0 : Int) ≤ 1 ∧ (1 : Int) < ((2 : Nat) : Int)) ∧ ((True) ∧ ((True) ∧ (True)))) ∧ ((tr 3 ((InR .i64 1) ∧ ((True) ∧ (True)))) ∧ (((True) ∧ ((True) ∧ (True))) ∧ ((false = false) ∧ (True))))) ∧ ((InR .i64 2) ∧ ((True) ∧ (True)))))) (lv := .norm) (T' := [(0, .row .trees ([[], [(Tree.mk 1 false ⟨false, [], 0⟩ (ba []) ([]) ([]))]])), (3, vi 1), (9, .row .trees ([[], [(Tree.mk 1 false ⟨false, [], 0⟩ (ba []) ([]) ([]))]])), (10, vi 2), (11, vi 2)]) (B' := []) mix hI hs ?_ ?_ ?_ ?_
  · exact trivial
  · kernel_rfl
  · exact ⟨⟨trivial, trivial⟩, ⟨⟨rfl, trivial⟩, ⟨⟨⟨(by decide), ⟨trivial, ⟨trivial, trivial⟩⟩⟩, ⟨tr_mk (⟨(inR64 (by omega) (by omega)), ⟨trivial, trivial⟩⟩) 3, ⟨⟨trivial, ⟨trivial, trivial⟩⟩, ⟨rfl, trivial⟩⟩⟩⟩, ⟨(inR64 (by omega) (by omega)), ⟨trivial, trivial⟩⟩⟩⟩⟩
  intro a w hs
  refine then_norm ?_
  refine rounds_step ?_
  refine way_L (tt := tt) (rs := []) (bs := [false]) (tk := [0, 3]) (bk := []) (C := ((True) ∧ (True)) ∧ ((false = false) ∧ (True))) (lv := .exit 0) (T' := [(0, .row .trees ([[], [(Tree.mk 1 false ⟨false, [], 0⟩ (ba []) ([]) ([]))]])), (3, vi 1)]) (B' := []) mix hI hs ?_ ?_ ?_ ?_
  · exact trivial
  · kernel_rfl
  · exact ⟨⟨trivial, trivial⟩, ⟨rfl, trivial⟩⟩
  intro a w hs
  refine then_exit ?_
  refine inb_hit ?_
  refine then_norm ?_
  refine wp_seq ?_
  refine way_L (tt := tt) (rs := [(9, ⟨[(1, ciA 229 [nilv, vi 1] [] [] (.own 29 .tree ([])))], [], []⟩)]) (bs := []) (tk := [0, 6]) (bk := [10001]) (C := (True) ∧ ((okArgs [nilv, vi 1]) ∧ ((True) ∧ (True)))) (lv := .norm) (T' := [(0, .row .trees ([[], [(Tree.mk 1 false ⟨false, [], 0⟩ (ba []) ([]) ([]))]])), (6, .own 10001)]) (B' := [(10001, .sl 29 .tree ([]))]) mix hI hs ?_ ?_ ?_ ?_
  · exact ⟨⟨⟨ent229, c229_0⟩, trivial⟩, trivial⟩
  · kernel_rfl
  · exact ⟨trivial, ⟨rfl, ⟨trivial, trivial⟩⟩⟩
  intro a w hs
  refine then_norm ?_
  refine wp_seq ?_
  refine wp_seq ?_
  refine way_L (tt := tt) (rs := []) (bs := []) (tk := [6, 25, 26, 27]) (bk := [10001]) (C := tr 3 (True)) (lv := .norm) (T' := [(6, .own 10001), (25, .row .trees ([[], [(Tree.mk 1 false ⟨false, [], 0⟩ (ba []) ([]) ([]))]])), (26, vi 2), (27, vi 0)]) (B' := [(10001, .sl 29 .tree ([]))]) mix hI hs ?_ ?_ ?_ ?_
  · exact trivial
  · kernel_rfl
  · exact tr_mk (trivial) 3
  intro a w hs
  refine then_norm ?_
  refine wp_block ?_
  refine wp_loop_rounds 3 ?_
  refine rounds_step ?_
  refine way_L (tt := tt) (rs := []) (bs := [true]) (tk := [6, 25, 26, 27]) (bk := [14002]) (C := ((True) ∧ (True)) ∧ (((true = true) ∧ (True)) ∧ (((((0 : Int) ≤ 0 ∧ (0 : Int) < ((2 : Nat) : Int)) ∧ ((True) ∧ ((True) ∧ (True)))) ∧ ((True) ∧ ((True) ∧ ((((0 + 0) * 120 : Nat) ≤ 140737488355328 ∧ 0 + 0 ≤ 140737488355328) ∧ ((True) ∧ (True)))))) ∧ ((InR .i64 1) ∧ ((True) ∧ (True)))))) (lv := .norm) (T' := [(6, .own 14002), (25, .row .trees ([[], [(Tree.mk 1 false ⟨false, [], 0⟩ (ba []) ([]) ([]))]])), (26, vi 2), (27, vi 1)]) (B' := [(14002, .sl 29 .tree ([]))]) mix hI hs ?_ ?_ ?_ ?_
  · exact trivial
  · kernel_rfl
  · exact ⟨⟨trivial, trivial⟩, ⟨⟨rfl, trivial⟩, ⟨⟨⟨(by decide), ⟨trivial, ⟨trivial, trivial⟩⟩⟩, ⟨trivial, ⟨trivial, ⟨(by decide), ⟨trivial, trivial⟩⟩⟩⟩⟩, ⟨(inR64 (by omega) (by omega)), ⟨trivial, trivial⟩⟩⟩⟩⟩
  intro a w hs
  refine then_norm ?_
  have hs := hs.ren (T' := [(6, .own 10000005), (25, .row .trees ([[], [(Tree.mk 1 false ⟨false, [], 0⟩ (ba []) ([]) ([]))]])), (26, vi 2), (27, vi 1)]) (B' := [(10000005, .sl 29 .tree ([]))]) [(10000005, 14002)] (by kernel_rfl) (by kernel_rfl) (by kernel_rfl)
  refine rounds_step ?_
  refine way_L (tt := tt) (rs := []) (bs := [true]) (tk := [6, 25, 26, 27]) (bk := [14002]) (C := ((True) ∧ (True)) ∧ (((true = true) ∧ (True)) ∧ (((((0 : Int) ≤ 1 ∧ (1 : Int) < ((2 : Nat) : Int)) ∧ ((True) ∧ ((True) ∧ (True)))) ∧ ((True) ∧ ((True) ∧ ((((0 + 1) * 120 : Nat) ≤ 140737488355328 ∧ 0 + 1 ≤ 140737488355328) ∧ ((True) ∧ (True)))))) ∧ ((InR .i64 2) ∧ ((True) ∧ (True)))))) (lv := .norm) (T' := [(6, .own 14002), (25, .row .trees ([[], [(Tree.mk 1 false ⟨false, [], 0⟩ (ba []) ([]) ([]))]])), (26, vi 2), (27, vi 2)]) (B' := [(14002, .sl 29 .tree ([(Tree.mk 1 false ⟨false, [], 0⟩ (ba []) ([]) ([]))]))]) mix hI hs ?_ ?_ ?_ ?_
  · exact trivial
  · kernel_rfl
  · exact ⟨⟨trivial, trivial⟩, ⟨⟨rfl, trivial⟩, ⟨⟨⟨(by decide), ⟨trivial, ⟨trivial, trivial⟩⟩⟩, ⟨trivial, ⟨trivial, ⟨(by decide), ⟨trivial, trivial⟩⟩⟩⟩⟩, ⟨(inR64 (by omega) (by omega)), ⟨trivial, trivial⟩⟩⟩⟩⟩
  intro a w hs
  refine then_norm ?_
  have hs := hs.ren (T' := [(6, .own 10000006), (25, .row .trees ([[], [(Tree.mk 1 false ⟨false, [], 0⟩ (ba []) ([]) ([]))]])), (26, vi 2), (27, vi 2)]) (B' := [(10000006, .sl 29 .tree ([(Tree.mk 1 false ⟨false, [], 0⟩ (ba []) ([]) ([]))]))]) [(10000006, 14002)] (by kernel_rfl) (by kernel_rfl) (by kernel_rfl)
  refine rounds_step ?_
  refine way_L (tt := tt) (rs := []) (bs := [false]) (tk := [6]) (bk := [10000006]) (C := ((True) ∧ (True)) ∧ ((false = false) ∧ (True))) (lv := .exit 2) (T' := [(6, .own 10000006)]) (B' := [(10000006, .sl 29 .tree ([(Tree.mk 1 false ⟨false, [], 0⟩ (ba []) ([]) ([]))]))]) mix hI hs ?_ ?_ ?_ ?_
  · exact trivial
  · kernel_rfl
  · exact ⟨⟨trivial, trivial⟩, ⟨rfl, trivial⟩⟩
  intro a w hs
  refine then_exit ?_
  refine inb_hit ?_
  refine then_norm ?_
  refine way_L (tt := tt) (rs := []) (bs := []) (tk := [2]) (bk := [10000006]) (C := ((True) ∧ ((True) ∧ (True))) ∧ (True)) (lv := .ret) (T' := [(2, .own 10000006)]) (B' := [(10000006, .sl 29 .tree ([(Tree.mk 1 false ⟨false, [], 0⟩ (ba []) ([]) ([]))]))]) mix hI hs ?_ ?_ ?_ ?_
  · exact trivial
  · kernel_rfl
  · exact ⟨⟨trivial, ⟨trivial, trivial⟩⟩, trivial⟩
  intro a w hs
  exact FnQ_cast (out := .own 29 .tree ([(Tree.mk 1 false ⟨false, [], 0⟩ (ba []) ([]) ([]))])) (rfl) (ret_ok [] hs (.inl ⟨10000006, by kernel_rfl, rfl⟩))

set_option maxRecDepth 100000 in
theorem c136_0 : Con Tryz.prog I0 136 [.agg [vi 7, vb false, vb false, .row (.int .u32) ([]), vi 0, vs (ba []), .row .str ([(ba [98]), (ba [99])]), .row .tree ([(Tree.mk 2 false ⟨false, [], 0⟩ (ba []) ([]) ([])), (Tree.mk 1 false ⟨false, [], 0⟩ (ba []) ([]) ([]))])], vs (ba [98])] (.val (.agg [vi 7, vb false, vb false, nilv, vi 0, vs (ba []), .row .str ([(ba [99])]), .row .tree ([(Tree.mk 1 false ⟨false, [], 0⟩ (ba []) ([]) ([]))])])) := by
  refine con_of Tryz.func136 rfl (Nat.le_of_ble_eq_true rfl) stab (fun w0 fz a hI hs => ?_)
  refine way_L (tt := tt) (rs := [(1, ⟨[(1, ciA 173 [.agg [vi 7, vb false, vb false, .row (.int .u32) ([]), vi 0, vs (ba []), .row .str ([(ba [98]), (ba [99])]), .row .tree ([(Tree.mk 2 false ⟨false, [], 0⟩ (ba []) ([]) ([])), (Tree.mk 1 false ⟨false, [], 0⟩ (ba []) ([]) ([]))])]] [] [] (.val (.tup [.row .str ([(ba [98]), (ba [99])]), .row .tree ([(Tree.mk 2 false ⟨false, [], 0⟩ (ba []) ([]) ([])), (Tree.mk 1 false ⟨false, [], 0⟩ (ba []) ([]) ([]))])])))], [], []⟩), (2, ⟨[(2, ciA 171 [.row .str ([(ba [98]), (ba [99])]), vs (ba [98])] [] [] (.val (vi 0)))], [], []⟩), (5, ⟨[(8, ciA 191 [.row .strs ([[], [(ba [99])]])] [] [6007] (.own 9 .str ([(ba [99])]))), (17, ciA 192 [.row .trees ([[], [(Tree.mk 1 false ⟨false, [], 0⟩ (ba []) ([]) ([]))]])] [] [6016] (.own 29 .tree ([(Tree.mk 1 false ⟨false, [], 0⟩ (ba []) ([]) ([]))])))], [], []⟩)]) (bs := [false]) (tk := [4]) (bk := [1001, 6008, 6017]) (C := ((True) ∧ ((True) ∧ (True))) ∧ (((True) ∧ ((okArgs [.agg [vi 7, vb false, vb false, .row (.int .u32) ([]), vi 0, vs (ba []), .row .str ([(ba [98]), (ba [99])]), .row .tree ([(Tree.mk 2 false ⟨false, [], 0⟩ (ba []) ([]) ([])), (Tree.mk 1 false ⟨false, [], 0⟩ (ba []) ([]) ([]))])]]) ∧ (tr 5 (True)))) ∧ (((True) ∧ ((True) ∧ ((okArgs [.row .str ([(ba [98]), (ba [99])]), vs (ba [98])]) ∧ ((True) ∧ (True))))) ∧ ((((True) ∧ ((True) ∧ (True))) ∧ ((false = false) ∧ (True))) ∧ (((True) ∧ ((True) ∧ (((0 : Int) ≤ 0 ∧ (0 : Int) ≤ 0 ∧ (0 : Int) ≤ 2 ∧ (2 : Int) ≤ ((2 : Nat) : Int)) ∧ ((True) ∧ ((True) ∧ ((InR .i64 1) ∧ (((0 : Int) ≤ 1 ∧ (1 : Int) ≤ 2 ∧ (2 : Int) ≤ 2 ∧ (2 : Int) ≤ ((2 : Nat) : Int)) ∧ ((True) ∧ ((okArgs [.row .strs ([[], [(ba [99])]])]) ∧ ((True) ∧ ((True) ∧ (((0 : Int) ≤ 0 ∧ (0 : Int) ≤ 0 ∧ (0 : Int) ≤ 2 ∧ (2 : Int) ≤ ((2 : Nat) : Int)) ∧ ((True) ∧ ((True) ∧ ((InR .i64 1) ∧ (((0 : Int) ≤ 1 ∧ (1 : Int) ≤ 2 ∧ (2 : Int) ≤ 2 ∧ (2 : Int) ≤ ((2 : Nat) : Int)) ∧ ((True) ∧ ((okArgs [.row .trees ([[], [(Tree.mk 1 false ⟨false, [], 0⟩ (ba []) ([]) ([]))]])]) ∧ ((True) ∧ ((True) ∧ (True))))))))))))))))))))) ∧ (True)))))) (lv := .ret) (T' := [(4, .ptr 1001 0)]) (B' := [(1001, .var [vi 7, vb false, vb false, nilv, vi 0, vs (ba []), .own 6008, .own 6017]), (6008, .sl 9 .str ([(ba [99])])), (6017, .sl 29 .tree ([(Tree.mk 1 false ⟨false, [], 0⟩ (ba []) ([]) ([]))]))]) mix hI hs ?_ ?_ ?_ ?_
  · exact ⟨⟨⟨ent173, c173_2⟩, trivial⟩, ⟨⟨⟨ent171, c171_2⟩, trivial⟩, ⟨⟨⟨ent191, c191_0⟩, ⟨⟨ent192, c192_0⟩, trivial⟩⟩, trivial⟩⟩⟩
  · kernel_rfl
  · exact ⟨⟨trivial, ⟨trivial, trivial⟩⟩, ⟨⟨trivial, ⟨rfl, tr_mk (trivial) 5⟩⟩, ⟨⟨trivial, ⟨trivial, ⟨rfl, ⟨trivial, trivial⟩⟩⟩⟩, ⟨⟨⟨trivial, ⟨trivial, trivial⟩⟩, ⟨rfl, trivial⟩⟩, ⟨⟨trivial, ⟨trivial, ⟨(by decide), ⟨trivial, ⟨trivial, ⟨(inR64 (by omega) (by omega)), ⟨(by decide), ⟨trivial, ⟨rfl, ⟨trivial, ⟨trivial, ⟨(by decide), ⟨trivial, ⟨trivial, ⟨(inR64 (by omega) (by omega)), ⟨(by decide), ⟨trivial, ⟨rfl, ⟨trivial, ⟨trivial, trivial⟩⟩⟩⟩⟩⟩⟩⟩⟩⟩⟩⟩⟩⟩⟩⟩⟩⟩⟩⟩, trivial⟩⟩⟩⟩⟩
  intro a w hs
  exact FnQ_cast (out := .val (.agg [vi 7, vb false, vb false, nilv, vi 0, vs (ba []), .row .str ([(ba [99])]), .row .tree ([(Tree.mk 1 false ⟨false, [], 0⟩ (ba []) ([]) ([]))])])) (rfl) (ret_ok [6008, 6017] hs ⟨by kernel_rfl, rfl⟩)

set_option maxRecDepth 100000 in
theorem c77_1 : Con Tryz.prog I0 77 [.agg [vi 7, vb false, vb false, .row (.int .u32) ([]), vi 0, vs (ba []), .row .str ([(ba [98]), (ba [99])]), .row .tree ([(Tree.mk 2 false ⟨false, [], 0⟩ (ba []) ([]) ([])), (Tree.mk 1 false ⟨false, [], 0⟩ (ba []) ([]) ([]))])], .row .str ([(ba [98])])] (.val (.agg [vi 7, vb false, vb false, nilv, vi 0, vs (ba []), .row .str ([(ba [99])]), .row .tree ([(Tree.mk 1 false ⟨false, [], 0⟩ (ba []) ([]) ([]))])])) := by
  refine con_of Tryz.func77 rfl (Nat.le_of_ble_eq_true rfl) stab (fun w0 fz a hI hs => ?_)
  refine way_L (tt := tt) (rs := [(2, ⟨[(4, ciA 136 [.agg [vi 7, vb false, vb false, .row (.int .u32) ([]), vi 0, vs (ba []), .row .str ([(ba [98]), (ba [99])]), .row .tree ([(Tree.mk 2 false ⟨false, [], 0⟩ (ba []) ([]) ([])), (Tree.mk 1 false ⟨false, [], 0⟩ (ba []) ([]) ([]))])], vs (ba [98])] [] [] (.val (.agg [vi 7, vb false, vb false, nilv, vi 0, vs (ba []), .row .str ([(ba [99])]), .row .tree ([(Tree.mk 1 false ⟨false, [], 0⟩ (ba []) ([]) ([]))])])))], [], []⟩)]) (bs := [true]) (tk := [4]) (bk := [1001]) (C := ((True) ∧ ((True) ∧ (True))) ∧ ((tr 3 (True)) ∧ ((true = true) ∧ (((True) ∧ ((True) ∧ (((0 : Int) ≤ 0 ∧ (0 : Int) < ((1 : Nat) : Int)) ∧ ((True) ∧ ((okArgs [.agg [vi 7, vb false, vb false, .row (.int .u32) ([]), vi 0, vs (ba []), .row .str ([(ba [98]), (ba [99])]), .row .tree ([(Tree.mk 2 false ⟨false, [], 0⟩ (ba []) ([]) ([])), (Tree.mk 1 false ⟨false, [], 0⟩ (ba []) ([]) ([]))])], vs (ba [98])]) ∧ ((True) ∧ (True))))))) ∧ (True))))) (lv := .ret) (T' := [(4, .ptr 1001 0)]) (B' := [(1001, .var [vi 7, vb false, vb false, nilv, vi 0, vs (ba []), .row .str ([(ba [99])]), .row .tree ([(Tree.mk 1 false ⟨false, [], 0⟩ (ba []) ([]) ([]))])])]) mix hI hs ?_ ?_ ?_ ?_
  · exact ⟨⟨⟨ent136, c136_0⟩, trivial⟩, trivial⟩
  · kernel_rfl
  · exact ⟨⟨trivial, ⟨trivial, trivial⟩⟩, ⟨tr_mk (trivial) 3, ⟨rfl, ⟨⟨trivial, ⟨trivial, ⟨(by decide), ⟨trivial, ⟨rfl, ⟨trivial, trivial⟩⟩⟩⟩⟩⟩, trivial⟩⟩⟩⟩
  intro a w hs
  exact FnQ_cast (out := .val (.agg [vi 7, vb false, vb false, nilv, vi 0, vs (ba []), .row .str ([(ba [99])]), .row .tree ([(Tree.mk 1 false ⟨false, [], 0⟩ (ba []) ([]) ([]))])])) (rfl) (ret_ok [] hs ⟨by kernel_rfl, rfl⟩)

set_option maxRecDepth 100000 in
theorem c135_0 : Con Tryz.prog I0 135 [.agg [vi 7, vb false, vb false, nilv, vi 0, vs (ba []), .row .str ([(ba [97])]), .row .tree ([(Tree.mk 7 false ⟨false, [], 0⟩ (ba []) ([(ba [98]), (ba [99])]) ([(Tree.mk 2 false ⟨false, [], 0⟩ (ba []) ([]) ([])), (Tree.mk 1 false ⟨false, [], 0⟩ (ba []) ([]) ([]))]))])], vs (ba [97]), .agg [vi 7, vb false, vb false, nilv, vi 0, vs (ba []), .row .str ([(ba [99])]), .row .tree ([(Tree.mk 1 false ⟨false, [], 0⟩ (ba []) ([]) ([]))])]] (.val (.agg [vi 7, vb false, vb false, nilv, vi 0, vs (ba []), .row .str ([(ba [97])]), .row .tree ([(Tree.mk 7 false ⟨false, [], 0⟩ (ba []) ([(ba [99])]) ([(Tree.mk 1 false ⟨false, [], 0⟩ (ba []) ([]) ([]))]))])])) := by
  refine con_of Tryz.func135 rfl (Nat.le_of_ble_eq_true rfl) stab (fun w0 fz a hI hs => ?_)
  refine way_L (tt := tt) (rs := [(1, ⟨[(1, ciA 173 [.agg [vi 7, vb false, vb false, nilv, vi 0, vs (ba []), .row .str ([(ba [97])]), .row .tree ([(Tree.mk 7 false ⟨false, [], 0⟩ (ba []) ([(ba [98]), (ba [99])]) ([(Tree.mk 2 false ⟨false, [], 0⟩ (ba []) ([]) ([])), (Tree.mk 1 false ⟨false, [], 0⟩ (ba []) ([]) ([]))]))])]] [] [] (.val (.tup [.row .str ([(ba [97])]), .row .tree ([(Tree.mk 7 false ⟨false, [], 0⟩ (ba []) ([(ba [98]), (ba [99])]) ([(Tree.mk 2 false ⟨false, [], 0⟩ (ba []) ([]) ([])), (Tree.mk 1 false ⟨false, [], 0⟩ (ba []) ([]) ([]))]))])])))], [], []⟩), (5, ⟨[(2, ciA 171 [.row .str ([(ba [97])]), vs (ba [97])] [3002] [] (.val (vi 0)))], [], []⟩)]) (bs := [true]) (tk := [6]) (bk := [1003, 3002, 3005]) (C := (tr 4 (True)) ∧ (((True) ∧ ((okArgs [.agg [vi 7, vb false, vb false, nilv, vi 0, vs (ba []), .row .str ([(ba [97])]), .row .tree ([(Tree.mk 7 false ⟨false, [], 0⟩ (ba []) ([(ba [98]), (ba [99])]) ([(Tree.mk 2 false ⟨false, [], 0⟩ (ba []) ([]) ([])), (Tree.mk 1 false ⟨false, [], 0⟩ (ba []) ([]) ([]))]))])]]) ∧ (tr 5 (True)))) ∧ (((True) ∧ ((True) ∧ (((1 : Int) = 1 ∧ 0 ≤ (1 : Int) ∧ (16 : Nat) * (1 : Int) ≤ 281474976710656 ∧ (1 : Int) ≤ 9223372036854775807) ∧ ((True) ∧ ((True) ∧ (((1 : Int) = 1 ∧ 0 ≤ (1 : Int) ∧ (120 : Nat) * (1 : Int) ≤ 281474976710656 ∧ (1 : Int) ≤ 9223372036854775807) ∧ ((True) ∧ ((True) ∧ (True))))))))) ∧ ((tr 3 (True)) ∧ ((tr 3 (True)) ∧ (((True) ∧ ((True) ∧ ((okArgs [.row .str ([(ba [97])]), vs (ba [97])]) ∧ ((True) ∧ (True))))) ∧ (((True) ∧ ((True) ∧ (True))) ∧ ((true = true) ∧ ((tr 3 (((0 : Int) ≤ 0 ∧ (0 : Int) < ((1 : Nat) : Int)) ∧ ((0 < 1) ∧ (True)))) ∧ ((tr 4 (True)) ∧ (True))))))))))) (lv := .ret) (T' := [(6, .ptr 1003 0)]) (B' := [(1003, .var [vi 7, vb false, vb false, nilv, vi 0, vs (ba []), .own 3002, .own 3005]), (3002, .sl 9 .str ([(ba [97])])), (3005, .sl 29 .tree ([(Tree.mk 7 false ⟨false, [], 0⟩ (ba []) ([(ba [99])]) ([(Tree.mk 1 false ⟨false, [], 0⟩ (ba []) ([]) ([]))]))]))]) mix hI hs ?_ ?_ ?_ ?_
  · exact ⟨⟨⟨ent173, c173_1⟩, trivial⟩, ⟨⟨⟨ent171, c171_1⟩, trivial⟩, trivial⟩⟩
  · kernel_rfl
  · exact ⟨tr_mk (trivial) 4, ⟨⟨trivial, ⟨rfl, tr_mk (trivial) 5⟩⟩, ⟨⟨trivial, ⟨trivial, ⟨(by decide), ⟨trivial, ⟨trivial, ⟨(by decide), ⟨trivial, ⟨trivial, trivial⟩⟩⟩⟩⟩⟩⟩⟩, ⟨tr_mk (trivial) 3, ⟨tr_mk (trivial) 3, ⟨⟨trivial, ⟨trivial, ⟨rfl, ⟨trivial, trivial⟩⟩⟩⟩, ⟨⟨trivial, ⟨trivial, trivial⟩⟩, ⟨rfl, ⟨tr_mk (⟨(by decide), ⟨(by decide), trivial⟩⟩) 3, ⟨tr_mk (trivial) 4, trivial⟩⟩⟩⟩⟩⟩⟩⟩⟩⟩
  intro a w hs
  exact FnQ_cast (out := .val (.agg [vi 7, vb false, vb false, nilv, vi 0, vs (ba []), .row .str ([(ba [97])]), .row .tree ([(Tree.mk 7 false ⟨false, [], 0⟩ (ba []) ([(ba [99])]) ([(Tree.mk 1 false ⟨false, [], 0⟩ (ba []) ([]) ([]))]))])])) (rfl) (ret_ok [3002, 3005] hs ⟨by kernel_rfl, rfl⟩)

set_option maxRecDepth 100000 in
theorem c77_0 : Con Tryz.prog I0 77 [.agg [vi 7, vb false, vb false, nilv, vi 0, vs (ba []), .row .str ([(ba [97])]), .row .tree ([(Tree.mk 7 false ⟨false, [], 0⟩ (ba []) ([(ba [98]), (ba [99])]) ([(Tree.mk 2 false ⟨false, [], 0⟩ (ba []) ([]) ([])), (Tree.mk 1 false ⟨false, [], 0⟩ (ba []) ([]) ([]))]))])], .row .str ([(ba [97]), (ba [98])])] (.val (.agg [vi 7, vb false, vb false, nilv, vi 0, vs (ba []), .row .str ([(ba [97])]), .row .tree ([(Tree.mk 7 false ⟨false, [], 0⟩ (ba []) ([(ba [99])]) ([(Tree.mk 1 false ⟨false, [], 0⟩ (ba []) ([]) ([]))]))])])) := by
  refine con_of Tryz.func77 rfl (Nat.le_of_ble_eq_true rfl) stab (fun w0 fz a hI hs => ?_)
  refine way_L (tt := tt) (rs := [(3, ⟨[(4, ciA 122 [.agg [vi 7, vb false, vb false, nilv, vi 0, vs (ba []), .row .str ([(ba [97])]), .row .tree ([(Tree.mk 7 false ⟨false, [], 0⟩ (ba []) ([(ba [98]), (ba [99])]) ([(Tree.mk 2 false ⟨false, [], 0⟩ (ba []) ([]) ([])), (Tree.mk 1 false ⟨false, [], 0⟩ (ba []) ([]) ([]))]))])], vs (ba [97])] [] [] (.val (.tup [.agg [vi 7, vb false, vb false, .row (.int .u32) ([]), vi 0, vs (ba []), .row .str ([(ba [98]), (ba [99])]), .row .tree ([(Tree.mk 2 false ⟨false, [], 0⟩ (ba []) ([]) ([])), (Tree.mk 1 false ⟨false, [], 0⟩ (ba []) ([]) ([]))])], vb true])))], [], []⟩), (6, ⟨[(7, ciA 77 [.agg [vi 7, vb false, vb false, .row (.int .u32) ([]), vi 0, vs (ba []), .row .str ([(ba [98]), (ba [99])]), .row .tree ([(Tree.mk 2 false ⟨false, [], 0⟩ (ba []) ([]) ([])), (Tree.mk 1 false ⟨false, [], 0⟩ (ba []) ([]) ([]))])], .row .str ([(ba [98])])] [] [] (.val (.agg [vi 7, vb false, vb false, nilv, vi 0, vs (ba []), .row .str ([(ba [99])]), .row .tree ([(Tree.mk 1 false ⟨false, [], 0⟩ (ba []) ([]) ([]))])]))), (8, ciA 135 [.agg [vi 7, vb false, vb false, nilv, vi 0, vs (ba []), .row .str ([(ba [97])]), .row .tree ([(Tree.mk 7 false ⟨false, [], 0⟩ (ba []) ([(ba [98]), (ba [99])]) ([(Tree.mk 2 false ⟨false, [], 0⟩ (ba []) ([]) ([])), (Tree.mk 1 false ⟨false, [], 0⟩ (ba []) ([]) ([]))]))])], vs (ba [97]), .agg [vi 7, vb false, vb false, nilv, vi 0, vs (ba []), .row .str ([(ba [99])]), .row .tree ([(Tree.mk 1 false ⟨false, [], 0⟩ (ba []) ([]) ([]))])]] [] [] (.val (.agg [vi 7, vb false, vb false, nilv, vi 0, vs (ba []), .row .str ([(ba [97])]), .row .tree ([(Tree.mk 7 false ⟨false, [], 0⟩ (ba []) ([(ba [99])]) ([(Tree.mk 1 false ⟨false, [], 0⟩ (ba []) ([]) ([]))]))])])))], [], []⟩)]) (bs := [false, false]) (tk := [4]) (bk := [1001]) (C := ((True) ∧ ((True) ∧ (True))) ∧ (((tr 3 (True)) ∧ ((false = false) ∧ (True))) ∧ (((True) ∧ ((True) ∧ (((0 : Int) ≤ 0 ∧ (0 : Int) < ((2 : Nat) : Int)) ∧ ((True) ∧ ((okArgs [.agg [vi 7, vb false, vb false, nilv, vi 0, vs (ba []), .row .str ([(ba [97])]), .row .tree ([(Tree.mk 7 false ⟨false, [], 0⟩ (ba []) ([(ba [98]), (ba [99])]) ([(Tree.mk 2 false ⟨false, [], 0⟩ (ba []) ([]) ([])), (Tree.mk 1 false ⟨false, [], 0⟩ (ba []) ([]) ([]))]))])], vs (ba [97])]) ∧ (tr 6 (True))))))) ∧ ((((True) ∧ ((True) ∧ (True))) ∧ ((false = false) ∧ (True))) ∧ (((True) ∧ ((True) ∧ (((0 : Int) ≤ 0 ∧ (0 : Int) < ((2 : Nat) : Int)) ∧ (tr 3 (((0 : Int) ≤ 1 ∧ (1 : Int) ≤ 2 ∧ (2 : Int) ≤ 2 ∧ (2 : Int) ≤ ((2 : Nat) : Int)) ∧ ((okArgs [.agg [vi 7, vb false, vb false, .row (.int .u32) ([]), vi 0, vs (ba []), .row .str ([(ba [98]), (ba [99])]), .row .tree ([(Tree.mk 2 false ⟨false, [], 0⟩ (ba []) ([]) ([])), (Tree.mk 1 false ⟨false, [], 0⟩ (ba []) ([]) ([]))])], .row .str ([(ba [98])])]) ∧ ((okArgs [.agg [vi 7, vb false, vb false, nilv, vi 0, vs (ba []), .row .str ([(ba [97])]), .row .tree ([(Tree.mk 7 false ⟨false, [], 0⟩ (ba []) ([(ba [98]), (ba [99])]) ([(Tree.mk 2 false ⟨false, [], 0⟩ (ba []) ([]) ([])), (Tree.mk 1 false ⟨false, [], 0⟩ (ba []) ([]) ([]))]))])], vs (ba [97]), .agg [vi 7, vb false, vb false, nilv, vi 0, vs (ba []), .row .str ([(ba [99])]), .row .tree ([(Tree.mk 1 false ⟨false, [], 0⟩ (ba []) ([]) ([]))])]]) ∧ ((True) ∧ (True))))))))) ∧ (True)))))) (lv := .ret) (T' := [(4, .ptr 1001 0)]) (B' := [(1001, .var [vi 7, vb false, vb false, nilv, vi 0, vs (ba []), .row .str ([(ba [97])]), .row .tree ([(Tree.mk 7 false ⟨false, [], 0⟩ (ba []) ([(ba [99])]) ([(Tree.mk 1 false ⟨false, [], 0⟩ (ba []) ([]) ([]))]))])])]) mix hI hs ?_ ?_ ?_ ?_
  · exact ⟨⟨⟨ent122, c122_1⟩, trivial⟩, ⟨⟨⟨ent77, c77_1⟩, ⟨⟨ent135, c135_0⟩, trivial⟩⟩, trivial⟩⟩
  · kernel_rfl
  · exact ⟨⟨trivial, ⟨trivial, trivial⟩⟩, ⟨⟨tr_mk (trivial) 3, ⟨rfl, trivial⟩⟩, ⟨⟨trivial, ⟨trivial, ⟨(by decide), ⟨trivial, ⟨rfl, tr_mk (trivial) 6⟩⟩⟩⟩⟩, ⟨⟨⟨trivial, ⟨trivial, trivial⟩⟩, ⟨rfl, trivial⟩⟩, ⟨⟨trivial, ⟨trivial, ⟨(by decide), tr_mk (⟨(by decide), ⟨rfl, ⟨rfl, ⟨trivial, trivial⟩⟩⟩⟩) 3⟩⟩⟩, trivial⟩⟩⟩⟩⟩
  intro a w hs
  exact FnQ_cast (out := .val (.agg [vi 7, vb false, vb false, nilv, vi 0, vs (ba []), .row .str ([(ba [97])]), .row .tree ([(Tree.mk 7 false ⟨false, [], 0⟩ (ba []) ([(ba [99])]) ([(Tree.mk 1 false ⟨false, [], 0⟩ (ba []) ([]) ([]))]))])])) (rfl) (ret_ok [] hs ⟨by kernel_rfl, rfl⟩)

set_option maxRecDepth 100000 in
theorem c78_2 : Con Tryz.prog I0 78 [.agg [vi 1, vb false, vb false, .row (.int .u32) ([]), vi 0, vs (ba []), .row .str ([]), .row .tree ([])]] (.val (vi 1)) := by
  refine con_of Tryz.func78 rfl (Nat.le_of_ble_eq_true rfl) stab (fun w0 fz a hI hs => ?_)
  refine wp_seq ?_
  refine way_L (tt := tt) (rs := []) (bs := []) (tk := [1]) (bk := [1000]) (C := (True) ∧ ((True) ∧ (True))) (lv := .norm) (T' := [(1, .ptr 1000 0)]) (B' := [(1000, .var [vi 1, vb false, vb false, .row (.int .u32) ([]), vi 0, vs (ba []), .row .str ([]), .row .tree ([])])]) mix hI hs ?_ ?_ ?_ ?_
  · exact trivial
  · kernel_rfl
  · exact ⟨trivial, ⟨trivial, trivial⟩⟩
  intro a w hs
  refine then_norm ?_
  refine wp_seq ?_
  refine way_L (tt := tt) (rs := []) (bs := []) (tk := [1, 3]) (bk := [1000]) (C := (True) ∧ (True)) (lv := .norm) (T' := [(1, .ptr 1000 0), (3, vi 1)]) (B' := [(1000, .var [vi 1, vb false, vb false, .row (.int .u32) ([]), vi 0, vs (ba []), .row .str ([]), .row .tree ([])])]) mix hI hs ?_ ?_ ?_ ?_
  · exact trivial
  · kernel_rfl
  · exact ⟨trivial, trivial⟩
  intro a w hs
  refine then_norm ?_
  refine wp_seq ?_
  refine way_L (tt := tt) (rs := []) (bs := [false, false, false]) (tk := [1, 3]) (bk := [1000]) (C := ((True) ∧ ((True) ∧ (True))) ∧ (((True) ∧ ((True) ∧ (True))) ∧ ((false = false) ∧ ((((True) ∧ ((True) ∧ (True))) ∧ ((false = false) ∧ ((True) ∧ ((True) ∧ (True))))) ∧ ((false = false) ∧ (True)))))) (lv := .norm) (T' := [(1, .ptr 1000 0), (3, vi 1)]) (B' := [(1000, .var [vi 1, vb false, vb false, .row (.int .u32) ([]), vi 0, vs (ba []), .row .str ([]), .row .tree ([])])]) mix hI hs ?_ ?_ ?_ ?_
  · exact trivial
  · kernel_rfl
  · exact ⟨⟨trivial, ⟨trivial, trivial⟩⟩, ⟨⟨trivial, ⟨trivial, trivial⟩⟩, ⟨rfl, ⟨⟨⟨trivial, ⟨trivial, trivial⟩⟩, ⟨rfl, ⟨trivial, ⟨trivial, trivial⟩⟩⟩⟩, ⟨rfl, trivial⟩⟩⟩⟩⟩
  intro a w hs
  refine then_norm ?_
  refine wp_seq ?_
  refine wp_seq ?_
  refine way_L (tt := tt) (rs := []) (bs := []) (tk := [3, 25, 26, 27]) (bk := []) (C := tr 4 (True)) (lv := .norm) (T' := [(3, vi 1), (25, .row .tree ([])), (26, vi 0), (27, vi 0)]) (B' := []) mix hI hs ?_ ?_ ?_ ?_
  · exact trivial
  · kernel_rfl
  · exact tr_mk (trivial) 4
  intro a w hs
  refine then_norm ?_
  refine wp_block ?_
  refine wp_loop_rounds 1 ?_
  refine rounds_step ?_
  refine way_L (tt := tt) (rs := []) (bs := [false]) (tk := [3]) (bk := []) (C := ((True) ∧ (True)) ∧ ((false = false) ∧ (True))) (lv := .exit 1) (T' := [(3, vi 1)]) (B' := []) mix hI hs ?_ ?_ ?_ ?_
  · exact trivial
  · kernel_rfl
  · exact ⟨⟨trivial, trivial⟩, ⟨rfl, trivial⟩⟩
  intro a w hs
  refine then_exit ?_
  refine inb_hit ?_
  refine then_norm ?_
  refine way_L (tt := tt) (rs := []) (bs := []) (tk := [2]) (bk := []) (C := ((True) ∧ ((True) ∧ (True))) ∧ (True)) (lv := .ret) (T' := [(2, vi 1)]) (B' := []) mix hI hs ?_ ?_ ?_ ?_
  · exact trivial
  · kernel_rfl
  · exact ⟨⟨trivial, ⟨trivial, trivial⟩⟩, trivial⟩
  intro a w hs
  exact FnQ_cast (out := .val (vi 1)) (rfl) (ret_ok [] hs ⟨by kernel_rfl, rfl⟩)

set_option maxRecDepth 100000 in
theorem c78_1 : Con Tryz.prog I0 78 [.agg [vi 7, vb false, vb false, .row (.int .u32) ([]), vi 0, vs (ba []), .row .str ([(ba [99])]), .row .tree ([(Tree.mk 1 false ⟨false, [], 0⟩ (ba []) ([]) ([]))])]] (.val (vi 2)) := by
  refine con_of Tryz.func78 rfl (Nat.le_of_ble_eq_true rfl) stab (fun w0 fz a hI hs => ?_)
  refine wp_seq ?_
  refine way_L (tt := tt) (rs := []) (bs := []) (tk := [1]) (bk := [1000]) (C := (True) ∧ ((True) ∧ (True))) (lv := .norm) (T' := [(1, .ptr 1000 0)]) (B' := [(1000, .var [vi 7, vb false, vb false, .row (.int .u32) ([]), vi 0, vs (ba []), .row .str ([(ba [99])]), .row .tree ([(Tree.mk 1 false ⟨false, [], 0⟩ (ba []) ([]) ([]))])])]) mix hI hs ?_ ?_ ?_ ?_
  · exact trivial
  · kernel_rfl
  · exact ⟨trivial, ⟨trivial, trivial⟩⟩
  intro a w hs
  refine then_norm ?_
  refine wp_seq ?_
  refine way_L (tt := tt) (rs := []) (bs := []) (tk := [1, 3]) (bk := [1000]) (C := (True) ∧ (True)) (lv := .norm) (T' := [(1, .ptr 1000 0), (3, vi 1)]) (B' := [(1000, .var [vi 7, vb false, vb false, .row (.int .u32) ([]), vi 0, vs (ba []), .row .str ([(ba [99])]), .row .tree ([(Tree.mk 1 false ⟨false, [], 0⟩ (ba []) ([]) ([]))])])]) mix hI hs ?_ ?_ ?_ ?_
  · exact trivial
  · kernel_rfl
  · exact ⟨trivial, trivial⟩
  intro a w hs
  refine then_norm ?_
  refine wp_seq ?_
  refine way_L (tt := tt) (rs := []) (bs := [false, false, false]) (tk := [1, 3]) (bk := [1000]) (C := ((True) ∧ ((True) ∧ (True))) ∧ (((True) ∧ ((True) ∧ (True))) ∧ ((false = false) ∧ ((((True) ∧ ((True) ∧ (True))) ∧ ((false = false) ∧ ((True) ∧ ((True) ∧ (True))))) ∧ ((false = false) ∧ (True)))))) (lv := .norm) (T' := [(1, .ptr 1000 0), (3, vi 1)]) (B' := [(1000, .var [vi 7, vb false, vb false, .row (.int .u32) ([]), vi 0, vs (ba []), .row .str ([(ba [99])]), .row .tree ([(Tree.mk 1 false ⟨false, [], 0⟩ (ba []) ([]) ([]))])])]) mix hI hs ?_ ?_ ?_ ?_
  · exact trivial
  · kernel_rfl
  · exact ⟨⟨trivial, ⟨trivial, trivial⟩⟩, ⟨⟨trivial, ⟨trivial, trivial⟩⟩, ⟨rfl, ⟨⟨⟨trivial, ⟨trivial, trivial⟩⟩, ⟨rfl, ⟨trivial, ⟨trivial, trivial⟩⟩⟩⟩, ⟨rfl, trivial⟩⟩⟩⟩⟩
  intro a w hs
  refine then_norm ?_
  refine wp_seq ?_
  refine wp_seq ?_
  refine way_L (tt := tt) (rs := []) (bs := []) (tk := [3, 25, 26, 27]) (bk := []) (C := tr 4 (True)) (lv := .norm) (T' := [(3, vi 1), (25, .row .tree ([(Tree.mk 1 false ⟨false, [], 0⟩ (ba []) ([]) ([]))])), (26, vi 1), (27, vi 0)]) (B' := []) mix hI hs ?_ ?_ ?_ ?_
  · exact trivial
  · kernel_rfl
  · exact tr_mk (trivial) 4
  intro a w hs
  refine then_norm ?_
  refine wp_block ?_
  refine wp_loop_rounds 2 ?_
  refine rounds_step ?_
  refine way_L (tt := tt) (rs := [(11, ⟨[(2, ciA 78 [.agg [vi 1, vb false, vb false, .row (.int .u32) ([]), vi 0, vs (ba []), .row .str ([]), .row .tree ([])]] [] [] (.val (vi 1)))], [], []⟩)]) (bs := [true]) (tk := [3, 25, 26, 27]) (bk := []) (C := ((True) ∧ (True)) ∧ (((true = true) ∧ (True)) ∧ (((((0 : Int) ≤ 0 ∧ (0 : Int) < ((1 : Nat) : Int)) ∧ (tr 3 (True))) ∧ ((True) ∧ ((True) ∧ ((okArgs [.agg [vi 1, vb false, vb false, .row (.int .u32) ([]), vi 0, vs (ba []), .row .str ([]), .row .tree ([])]]) ∧ ((InR .i64 2) ∧ ((True) ∧ (True))))))) ∧ ((InR .i64 1) ∧ ((True) ∧ (True)))))) (lv := .norm) (T' := [(3, vi 2), (25, .row .tree ([(Tree.mk 1 false ⟨false, [], 0⟩ (ba []) ([]) ([]))])), (26, vi 1), (27, vi 1)]) (B' := []) mix hI hs ?_ ?_ ?_ ?_
  · exact ⟨⟨⟨ent78, c78_2⟩, trivial⟩, trivial⟩
  · kernel_rfl
  · exact ⟨⟨trivial, trivial⟩, ⟨⟨rfl, trivial⟩, ⟨⟨⟨(by decide), tr_mk (trivial) 3⟩, ⟨trivial, ⟨trivial, ⟨rfl, ⟨(inR64 (by omega) (by omega)), ⟨trivial, trivial⟩⟩⟩⟩⟩⟩, ⟨(inR64 (by omega) (by omega)), ⟨trivial, trivial⟩⟩⟩⟩⟩
  intro a w hs
  refine then_norm ?_
  refine rounds_step ?_
  refine way_L (tt := tt) (rs := []) (bs := [false]) (tk := [3]) (bk := []) (C := ((True) ∧ (True)) ∧ ((false = false) ∧ (True))) (lv := .exit 1) (T' := [(3, vi 2)]) (B' := []) mix hI hs ?_ ?_ ?_ ?_
  · exact trivial
  · kernel_rfl
  · exact ⟨⟨trivial, trivial⟩, ⟨rfl, trivial⟩⟩
  intro a w hs
  refine then_exit ?_
  refine inb_hit ?_
  refine then_norm ?_
  refine way_L (tt := tt) (rs := []) (bs := []) (tk := [2]) (bk := []) (C := ((True) ∧ ((True) ∧ (True))) ∧ (True)) (lv := .ret) (T' := [(2, vi 2)]) (B' := []) mix hI hs ?_ ?_ ?_ ?_
  · exact trivial
  · kernel_rfl
  · exact ⟨⟨trivial, ⟨trivial, trivial⟩⟩, trivial⟩
  intro a w hs
  exact FnQ_cast (out := .val (vi 2)) (rfl) (ret_ok [] hs ⟨by kernel_rfl, rfl⟩)

set_option maxRecDepth 100000 in
theorem c78_0 : Con Tryz.prog I0 78 [.agg [vi 7, vb false, vb false, nilv, vi 0, vs (ba []), .row .str ([(ba [97])]), .row .tree ([(Tree.mk 7 false ⟨false, [], 0⟩ (ba []) ([(ba [99])]) ([(Tree.mk 1 false ⟨false, [], 0⟩ (ba []) ([]) ([]))]))])]] (.val (vi 3)) := by
  refine con_of Tryz.func78 rfl (Nat.le_of_ble_eq_true rfl) stab (fun w0 fz a hI hs => ?_)
  refine wp_seq ?_
  refine way_L (tt := tt) (rs := []) (bs := []) (tk := [1]) (bk := [1000]) (C := (True) ∧ ((True) ∧ (True))) (lv := .norm) (T' := [(1, .ptr 1000 0)]) (B' := [(1000, .var [vi 7, vb false, vb false, nilv, vi 0, vs (ba []), .row .str ([(ba [97])]), .row .tree ([(Tree.mk 7 false ⟨false, [], 0⟩ (ba []) ([(ba [99])]) ([(Tree.mk 1 false ⟨false, [], 0⟩ (ba []) ([]) ([]))]))])])]) mix hI hs ?_ ?_ ?_ ?_
  · exact trivial
  · kernel_rfl
  · exact ⟨trivial, ⟨trivial, trivial⟩⟩
  intro a w hs
  refine then_norm ?_
  refine wp_seq ?_
  refine way_L (tt := tt) (rs := []) (bs := []) (tk := [1, 3]) (bk := [1000]) (C := (True) ∧ (True)) (lv := .norm) (T' := [(1, .ptr 1000 0), (3, vi 1)]) (B' := [(1000, .var [vi 7, vb false, vb false, nilv, vi 0, vs (ba []), .row .str ([(ba [97])]), .row .tree ([(Tree.mk 7 false ⟨false, [], 0⟩ (ba []) ([(ba [99])]) ([(Tree.mk 1 false ⟨false, [], 0⟩ (ba []) ([]) ([]))]))])])]) mix hI hs ?_ ?_ ?_ ?_
  · exact trivial
  · kernel_rfl
  · exact ⟨trivial, trivial⟩
  intro a w hs
  refine then_norm ?_
  refine wp_seq ?_
  refine way_L (tt := tt) (rs := []) (bs := [false, false, false]) (tk := [1, 3]) (bk := [1000]) (C := ((True) ∧ ((True) ∧ (True))) ∧ (((True) ∧ ((True) ∧ (True))) ∧ ((false = false) ∧ ((((True) ∧ ((True) ∧ (True))) ∧ ((false = false) ∧ ((True) ∧ ((True) ∧ (True))))) ∧ ((false = false) ∧ (True)))))) (lv := .norm) (T' := [(1, .ptr 1000 0), (3, vi 1)]) (B' := [(1000, .var [vi 7, vb false, vb false, nilv, vi 0, vs (ba []), .row .str ([(ba [97])]), .row .tree ([(Tree.mk 7 false ⟨false, [], 0⟩ (ba []) ([(ba [99])]) ([(Tree.mk 1 false ⟨false, [], 0⟩ (ba []) ([]) ([]))]))])])]) mix hI hs ?_ ?_ ?_ ?_
  · exact trivial
  · kernel_rfl
  · exact ⟨⟨trivial, ⟨trivial, trivial⟩⟩, ⟨⟨trivial, ⟨trivial, trivial⟩⟩, ⟨rfl, ⟨⟨⟨trivial, ⟨trivial, trivial⟩⟩, ⟨rfl, ⟨trivial, ⟨trivial, trivial⟩⟩⟩⟩, ⟨rfl, trivial⟩⟩⟩⟩⟩
  intro a w hs
  refine then_norm ?_
  refine wp_seq ?_
  refine wp_seq ?_
  refine way_L (tt := tt) (rs := []) (bs := []) (tk := [3, 25, 26, 27]) (bk := []) (C := tr 4 (True)) (lv := .norm) (T' := [(3, vi 1), (25, .row .tree ([(Tree.mk 7 false ⟨false, [], 0⟩ (ba []) ([(ba [99])]) ([(Tree.mk 1 false ⟨false, [], 0⟩ (ba []) ([]) ([]))]))])), (26, vi 1), (27, vi 0)]) (B' := []) mix hI hs ?_ ?_ ?_ ?_
  · exact trivial
  · kernel_rfl
  · exact tr_mk (trivial) 4
  intro a w hs
  refine then_norm ?_
  refine wp_block ?_
  refine wp_loop_rounds 2 ?_
  refine rounds_step ?_
  refine way_L (tt := tt) (rs := [(11, ⟨[(2, ciA 78 [.agg [vi 7, vb false, vb false, .row (.int .u32) ([]), vi 0, vs (ba []), .row .str ([(ba [99])]), .row .tree ([(Tree.mk 1 false ⟨false, [], 0⟩ (ba []) ([]) ([]))])]] [] [] (.val (vi 2)))], [], []⟩)]) (bs := [true]) (tk := [3, 25, 26, 27]) (bk := []) (C := ((True) ∧ (True)) ∧ (((true = true) ∧ (True)) ∧ (((((0 : Int) ≤ 0 ∧ (0 : Int) < ((1 : Nat) : Int)) ∧ (tr 3 (True))) ∧ ((True) ∧ ((True) ∧ ((okArgs [.agg [vi 7, vb false, vb false, .row (.int .u32) ([]), vi 0, vs (ba []), .row .str ([(ba [99])]), .row .tree ([(Tree.mk 1 false ⟨false, [], 0⟩ (ba []) ([]) ([]))])]]) ∧ ((InR .i64 3) ∧ ((True) ∧ (True))))))) ∧ ((InR .i64 1) ∧ ((True) ∧ (True)))))) (lv := .norm) (T' := [(3, vi 3), (25, .row .tree ([(Tree.mk 7 false ⟨false, [], 0⟩ (ba []) ([(ba [99])]) ([(Tree.mk 1 false ⟨false, [], 0⟩ (ba []) ([]) ([]))]))])), (26, vi 1), (27, vi 1)]) (B' := []) mix hI hs ?_ ?_ ?_ ?_
  · exact ⟨⟨⟨ent78, c78_1⟩, trivial⟩, trivial⟩
  · kernel_rfl
  · exact ⟨⟨trivial, trivial⟩, ⟨⟨rfl, trivial⟩, ⟨⟨⟨(by decide), tr_mk (trivial) 3⟩, ⟨trivial, ⟨trivial, ⟨rfl, ⟨(inR64 (by omega) (by omega)), ⟨trivial, trivial⟩⟩⟩⟩⟩⟩, ⟨(inR64 (by omega) (by omega)), ⟨trivial, trivial⟩⟩⟩⟩⟩
  intro a w hs
  refine then_norm ?_
  refine rounds_step ?_
  refine way_L (tt := tt) (rs := []) (bs := [false]) (tk := [3]) (bk := []) (C := ((True) ∧ (True)) ∧ ((false = false) ∧ (True))) (lv := .exit 1) (T' := [(3, vi 3)]) (B' := []) mix hI hs ?_ ?_ ?_ ?_
  · exact trivial
  · kernel_rfl
  · exact ⟨⟨trivial, trivial⟩, ⟨rfl, trivial⟩⟩
  intro a w hs
  refine then_exit ?_
  refine inb_hit ?_
  refine then_norm ?_
  refine way_L (tt := tt) (rs := []) (bs := []) (tk := [2]) (bk := []) (C := ((True) ∧ ((True) ∧ (True))) ∧ (True)) (lv := .ret) (T' := [(2, vi 3)]) (B' := []) mix hI hs ?_ ?_ ?_ ?_
  · exact trivial
  · kernel_rfl
  · exact ⟨⟨trivial, ⟨trivial, trivial⟩⟩, trivial⟩
  intro a w hs
  exact FnQ_cast (out := .val (vi 3)) (rfl) (ret_ok [] hs ⟨by kernel_rfl, rfl⟩)

set_option maxRecDepth 100000 in
theorem c79_2 : Con Tryz.prog I0 79 [.agg [vi 1, vb false, vb false, .row (.int .u32) ([]), vi 0, vs (ba []), .row .str ([]), .row .tree ([])]] (.val (vi 1)) := by
  refine con_of Tryz.func79 rfl (Nat.le_of_ble_eq_true rfl) stab (fun w0 fz a hI hs => ?_)
  refine wp_seq ?_
  refine way_L (tt := tt) (rs := []) (bs := []) (tk := [1]) (bk := [1000]) (C := (True) ∧ ((True) ∧ (True))) (lv := .norm) (T' := [(1, .ptr 1000 0)]) (B' := [(1000, .var [vi 1, vb false, vb false, .row (.int .u32) ([]), vi 0, vs (ba []), .row .str ([]), .row .tree ([])])]) mix hI hs ?_ ?_ ?_ ?_
  · exact trivial
  · kernel_rfl
  · exact ⟨trivial, ⟨trivial, trivial⟩⟩
  intro a w hs
  refine then_norm ?_
  refine wp_seq ?_
  refine way_L (tt := tt) (rs := []) (bs := []) (tk := [1, 3]) (bk := [1000]) (C := (True) ∧ (True)) (lv := .norm) (T' := [(1, .ptr 1000 0), (3, vi 1)]) (B' := [(1000, .var [vi 1, vb false, vb false, .row (.int .u32) ([]), vi 0, vs (ba []), .row .str ([]), .row .tree ([])])]) mix hI hs ?_ ?_ ?_ ?_
  · exact trivial
  · kernel_rfl
  · exact ⟨trivial, trivial⟩
  intro a w hs
  refine then_norm ?_
  refine wp_seq ?_
  refine wp_seq ?_
  refine way_L (tt := tt) (rs := []) (bs := []) (tk := [3, 7, 8, 9]) (bk := []) (C := tr 4 (True)) (lv := .norm) (T' := [(3, vi 1), (7, .row .tree ([])), (8, vi 0), (9, vi 0)]) (B' := []) mix hI hs ?_ ?_ ?_ ?_
  · exact trivial
  · kernel_rfl
  · exact tr_mk (trivial) 4
  intro a w hs
  refine then_norm ?_
  refine wp_block ?_
  refine wp_loop_rounds 1 ?_
  refine rounds_step ?_
  refine way_L (tt := tt) (rs := []) (bs := [false]) (tk := [3]) (bk := []) (C := ((True) ∧ (True)) ∧ ((false = false) ∧ (True))) (lv := .exit 0) (T' := [(3, vi 1)]) (B' := []) mix hI hs ?_ ?_ ?_ ?_
  · exact trivial
  · kernel_rfl
  · exact ⟨⟨trivial, trivial⟩, ⟨rfl, trivial⟩⟩
  intro a w hs
  refine then_exit ?_
  refine inb_hit ?_
  refine then_norm ?_
  refine way_L (tt := tt) (rs := []) (bs := []) (tk := [2]) (bk := []) (C := ((True) ∧ ((True) ∧ (True))) ∧ (True)) (lv := .ret) (T' := [(2, vi 1)]) (B' := []) mix hI hs ?_ ?_ ?_ ?_
  · exact trivial
  · kernel_rfl
  · exact ⟨⟨trivial, ⟨trivial, trivial⟩⟩, trivial⟩
  intro a w hs
  exact FnQ_cast (out := .val (vi 1)) (rfl) (ret_ok [] hs ⟨by kernel_rfl, rfl⟩)

set_option maxRecDepth 100000 in
theorem c79_1 : Con Tryz.prog I0 79 [.agg [vi 7, vb false, vb false, .row (.int .u32) ([]), vi 0, vs (ba []), .row .str ([(ba [99])]), .row .tree ([(Tree.mk 1 false ⟨false, [], 0⟩ (ba []) ([]) ([]))])]] (.val (vi 2)) := by
  refine con_of Tryz.func79 rfl (Nat.le_of_ble_eq_true rfl) stab (fun w0 fz a hI hs => ?_)
  refine wp_seq ?_
  refine way_L (tt := tt) (rs := []) (bs := []) (tk := [1]) (bk := [1000]) (C := (True) ∧ ((True) ∧ (True))) (lv := .norm) (T' := [(1, .ptr 1000 0)]) (B' := [(1000, .var [vi 7, vb false, vb false, .row (.int .u32) ([]), vi 0, vs (ba []), .row .str ([(ba [99])]), .row .tree ([(Tree.mk 1 false ⟨false, [], 0⟩ (ba []) ([]) ([]))])])]) mix hI hs ?_ ?_ ?_ ?_
  · exact trivial
  · kernel_rfl
  · exact ⟨trivial, ⟨trivial, trivial⟩⟩
  intro a w hs
  refine then_norm ?_
  refine wp_seq ?_
  refine way_L (tt := tt) (rs := []) (bs := []) (tk := [1, 3]) (bk := [1000]) (C := (True) ∧ (True)) (lv := .norm) (T' := [(1, .ptr 1000 0), (3, vi 1)]) (B' := [(1000, .var [vi 7, vb false, vb false, .row (.int .u32) ([]), vi 0, vs (ba []), .row .str ([(ba [99])]), .row .tree ([(Tree.mk 1 false ⟨false, [], 0⟩ (ba []) ([]) ([]))])])]) mix hI hs ?_ ?_ ?_ ?_
  · exact trivial
  · kernel_rfl
  · exact ⟨trivial, trivial⟩
  intro a w hs
  refine then_norm ?_
  refine wp_seq ?_
  refine wp_seq ?_
  refine way_L (tt := tt) (rs := []) (bs := []) (tk := [3, 7, 8, 9]) (bk := []) (C := tr 4 (True)) (lv := .norm) (T' := [(3, vi 1), (7, .row .tree ([(Tree.mk 1 false ⟨false, [], 0⟩ (ba []) ([]) ([]))])), (8, vi 1), (9, vi 0)]) (B' := []) mix hI hs ?_ ?_ ?_ ?_
  · exact trivial
  · kernel_rfl
  · exact tr_mk (trivial) 4
  intro a w hs
  refine then_norm ?_
  refine wp_block ?_
  refine wp_loop_rounds 2 ?_
  refine rounds_step ?_
  refine way_L (tt := tt) (rs := [(5, ⟨[(2, ciA 79 [.agg [vi 1, vb false, vb false, .row (.int .u32) ([]), vi 0, vs (ba []), .row .str ([]), .row .tree ([])]] [] [] (.val (vi 1)))], [], []⟩)]) (bs := [true]) (tk := [3, 7, 8, 9]) (bk := []) (C := ((True) ∧ (True)) ∧ (((true = true) ∧ (True)) ∧ (((((0 : Int) ≤ 0 ∧ (0 : Int) < ((1 : Nat) : Int)) ∧ (tr 3 (True))) ∧ ((True) ∧ ((True) ∧ ((okArgs [.agg [vi 1, vb false, vb false, .row (.int .u32) ([]), vi 0, vs (ba []), .row .str ([]), .row .tree ([])]]) ∧ ((InR .i64 2) ∧ ((True) ∧ (True))))))) ∧ ((InR .i64 1) ∧ ((True) ∧ (True)))))) (lv := .norm) (T' := [(3, vi 2), (7, .row .tree ([(Tree.mk 1 false ⟨false, [], 0⟩ (ba []) ([]) ([]))])), (8, vi 1), (9, vi 1)]) (B' := []) mix hI hs ?_ ?_ ?_ ?_
  · exact ⟨⟨⟨ent79, c79_2⟩, trivial⟩, trivial⟩
  · kernel_rfl
  · exact ⟨⟨trivial, trivial⟩, ⟨⟨rfl, trivial⟩, ⟨⟨⟨(by decide), tr_mk (trivial) 3⟩, ⟨trivial, ⟨trivial, ⟨rfl, ⟨(inR64 (by omega) (by omega)), ⟨trivial, trivial⟩⟩⟩⟩⟩⟩, ⟨(inR64 (by omega) (by omega)), ⟨trivial, trivial⟩⟩⟩⟩⟩
  intro a w hs
  refine then_norm ?_
  refine rounds_step ?_
  refine way_L (tt := tt) (rs := []) (bs := [false]) (tk := [3]) (bk := []) (C := ((True) ∧ (True)) ∧ ((false = false) ∧ (True))) (lv := .exit 0) (T' := [(3, vi 2)]) (B' := []) mix hI hs ?_ ?_ ?_ ?_
  · exact trivial
  · kernel_rfl
  · exact ⟨⟨trivial, trivial⟩, ⟨rfl, trivial⟩⟩
  intro a w hs
  refine then_exit ?_
  refine inb_hit ?_
  refine then_norm ?_
  refine way_L (tt := tt) (rs := []) (bs := []) (tk := [2]) (bk := []) (C := ((True) ∧ ((True) ∧ (True))) ∧ (True)) (lv := .ret) (T' := [(2, vi 2)]) (B' := []) mix hI hs ?_ ?_ ?_ ?_
  · exact trivial
  · kernel_rfl
  · exact ⟨⟨trivial, ⟨trivial, trivial⟩⟩, trivial⟩
  intro a w hs
  exact FnQ_cast (out := .val (vi 2)) (rfl) (ret_ok [] hs ⟨by kernel_rfl, rfl⟩)

set_option maxRecDepth 100000 in
theorem c79_0 : Con Tryz.prog I0 79 [.agg [vi 7, vb false, vb false, nilv, vi 0, vs (ba []), .row .str ([(ba [97])]), .row .tree ([(Tree.mk 7 false ⟨false, [], 0⟩ (ba []) ([(ba [99])]) ([(Tree.mk 1 false ⟨false, [], 0⟩ (ba []) ([]) ([]))]))])]] (.val (vi 3)) := by
  refine con_of Tryz.func79 rfl (Nat.le_of_ble_eq_true rfl) stab (fun w0 fz a hI hs => ?_)
  refine wp_seq ?_
  refine way_L (tt := tt) (rs := []) (bs := []) (tk := [1]) (bk := [1000]) (C := (True) ∧ ((True) ∧ (True))) (lv := .norm) (T' := [(1, .ptr 1000 0)]) (B' := [(1000, .var [vi 7, vb false, vb false, nilv, vi 0, vs (ba []), .row .str ([(ba [97])]), .row .tree ([(Tree.mk 7 false ⟨false, [], 0⟩ (ba []) ([(ba [99])]) ([(Tree.mk 1 false ⟨false, [], 0⟩ (ba []) ([]) ([]))]))])])]) mix hI hs ?_ ?_ ?_ ?_
  · exact trivial
  · kernel_rfl
  · exact ⟨trivial, ⟨trivial, trivial⟩⟩
  intro a w hs
  refine then_norm ?_
  refine wp_seq ?_
  refine way_L (tt := tt) (rs := []) (bs := []) (tk := [1, 3]) (bk := [1000]) (C := (True) ∧ (True)) (lv := .norm) (T' := [(1, .ptr 1000 0), (3, vi 1)]) (B' := [(1000, .var [vi 7, vb false, vb false, nilv, vi 0, vs (ba []), .row .str ([(ba [97])]), .row .tree ([(Tree.mk 7 false ⟨false, [], 0⟩ (ba []) ([(ba [99])]) ([(Tree.mk 1 false ⟨false, [], 0⟩ (ba []) ([]) ([]))]))])])]) mix hI hs ?_ ?_ ?_ ?_
  · exact trivial
  · kernel_rfl
  · exact ⟨trivial, trivial⟩
  intro a w hs
  refine then_norm ?_
  refine wp_seq ?_
  refine wp_seq ?_
  refine way_L (tt := tt) (rs := []) (bs := []) (tk := [3, 7, 8, 9]) (bk := []) (C := tr 4 (True)) (lv := .norm) (T' := [(3, vi 1), (7, .row .tree ([(Tree.mk 7 false ⟨false, [], 0⟩ (ba []) ([(ba [99])]) ([(Tree.mk 1 false ⟨false, [], 0⟩ (ba []) ([]) ([]))]))])), (8, vi 1), (9, vi 0)]) (B' := []) mix hI hs ?_ ?_ ?_ ?_
  · exact trivial
  · kernel_rfl
  · exact tr_mk (trivial) 4
  intro a w hs
  refine then_norm ?_
  refine wp_block ?_
  refine wp_loop_rounds 2 ?_
  refine rounds_step ?_
  refine way_L (tt := tt) (rs := [(5, ⟨[(2, ciA 79 [.agg [vi 7, vb false, vb false, .row (.int .u32) ([]), vi 0, vs (ba []), .row .str ([(ba [99])]), .row .tree ([(Tree.mk 1 false ⟨false, [], 0⟩ (ba []) ([]) ([]))])]] [] [] (.val (vi 2)))], [], []⟩)]) (bs := [true]) (tk := [3, 7, 8, 9]) (bk := []) (C := ((True) ∧ (True)) ∧ (((true = true) ∧ (True)) ∧ (((((0 : Int) ≤ 0 ∧ (0 : Int) < ((1 : Nat) : Int)) ∧ (tr 3 (True))) ∧ ((True) ∧ ((True) ∧ ((okArgs [.agg [vi 7, vb false, vb false, .row (.int .u32) ([]), vi 0, vs (ba []), .row .str ([(ba [99])]), .row .tree ([(Tree.mk 1 false ⟨false, [], 0⟩ (ba []) ([]) ([]))])]]) ∧ ((InR .i64 3) ∧ ((True) ∧ (True))))))) ∧ ((InR .i64 1) ∧ ((True) ∧ (True)))))) (lv := .norm) (T' := [(3, vi 3), (7, .row .tree ([(Tree.mk 7 false ⟨false, [], 0⟩ (ba []) ([(ba [99])]) ([(Tree.mk 1 false ⟨false, [], 0⟩ (ba []) ([]) ([]))]))])), (8, vi 1), (9, vi 1)]) (B' := []) mix hI hs ?_ ?_ ?_ ?_
  · exact ⟨⟨⟨ent79, c79_1⟩, trivial⟩, trivial⟩
  · kernel_rfl
  · exact ⟨⟨trivial, trivial⟩, ⟨⟨rfl, trivial⟩, ⟨⟨⟨(by decide), tr_mk (trivial) 3⟩, ⟨trivial, ⟨trivial, ⟨rfl, ⟨(inR64 (by omega) (by omega)), ⟨trivial, trivial⟩⟩⟩⟩⟩⟩, ⟨(inR64 (by omega) (by omega)), ⟨trivial, trivial⟩⟩⟩⟩⟩
  intro a w hs
  refine then_norm ?_
  refine rounds_step ?_
  refine way_L (tt := tt) (rs := []) (bs := [false]) (tk := [3]) (bk := []) (C := ((True) ∧ (True)) ∧ ((false = false) ∧ (True))) (lv := .exit 0) (T' := [(3, vi 3)]) (B' := []) mix hI hs ?_ ?_ ?_ ?_
  · exact trivial
  · kernel_rfl
  · exact ⟨⟨trivial, trivial⟩, ⟨rfl, trivial⟩⟩
  intro a w hs
  refine then_exit ?_
  refine inb_hit ?_
  refine then_norm ?_
  refine way_L (tt := tt) (rs := []) (bs := []) (tk := [2]) (bk := []) (C := ((True) ∧ ((True) ∧ (True))) ∧ (True)) (lv := .ret) (T' := [(2, vi 3)]) (B' := []) mix hI hs ?_ ?_ ?_ ?_
  · exact trivial
  · kernel_rfl
  · exact ⟨⟨trivial, ⟨trivial, trivial⟩⟩, trivial⟩
  intro a w hs
  exact FnQ_cast (out := .val (vi 3)) (rfl) (ret_ok [] hs ⟨by kernel_rfl, rfl⟩)

set_option maxRecDepth 100000 in
theorem c80_2 : Con Tryz.prog I0 80 [.agg [vi 1, vb false, vb false, .row (.int .u32) ([]), vi 0, vs (ba []), .row .str ([]), .row .tree ([])]] (.val (vi 1)) := by
  refine con_of Tryz.func80 rfl (Nat.le_of_ble_eq_true rfl) stab (fun w0 fz a hI hs => ?_)
  refine wp_seq ?_
  refine way_L (tt := tt) (rs := []) (bs := []) (tk := [1]) (bk := [1000]) (C := (True) ∧ ((True) ∧ (True))) (lv := .norm) (T' := [(1, .ptr 1000 0)]) (B' := [(1000, .var [vi 1, vb false, vb false, .row (.int .u32) ([]), vi 0, vs (ba []), .row .str ([]), .row .tree ([])])]) mix hI hs ?_ ?_ ?_ ?_
  · exact trivial
  · kernel_rfl
  · exact ⟨trivial, ⟨trivial, trivial⟩⟩
  intro a w hs
  refine then_norm ?_
  refine wp_seq ?_
  refine way_L (tt := tt) (rs := []) (bs := []) (tk := [1, 3]) (bk := [1000]) (C := (True) ∧ (True)) (lv := .norm) (T' := [(1, .ptr 1000 0), (3, vi 0)]) (B' := [(1000, .var [vi 1, vb false, vb false, .row (.int .u32) ([]), vi 0, vs (ba []), .row .str ([]), .row .tree ([])])]) mix hI hs ?_ ?_ ?_ ?_
  · exact trivial
  · kernel_rfl
  · exact ⟨trivial, trivial⟩
  intro a w hs
  refine then_norm ?_
  refine wp_seq ?_
  refine wp_seq ?_
  refine way_L (tt := tt) (rs := []) (bs := []) (tk := [3, 7, 8, 9]) (bk := []) (C := tr 4 (True)) (lv := .norm) (T' := [(3, vi 0), (7, .row .tree ([])), (8, vi 0), (9, vi 0)]) (B' := []) mix hI hs ?_ ?_ ?_ ?_
  · exact trivial
  · kernel_rfl
  · exact tr_mk (trivial) 4
  intro a w hs
  refine then_norm ?_
  refine wp_block ?_
  refine wp_loop_rounds 1 ?_
  refine rounds_step ?_
  refine way_L (tt := tt) (rs := []) (bs := [false]) (tk := [3]) (bk := []) (C := ((True) ∧ (True)) ∧ ((false = false) ∧ (True))) (lv := .exit 0) (T' := [(3, vi 0)]) (B' := []) mix hI hs ?_ ?_ ?_ ?_
  · exact trivial
  · kernel_rfl
  · exact ⟨⟨trivial, trivial⟩, ⟨rfl, trivial⟩⟩
  intro a w hs
  refine then_exit ?_
  refine inb_hit ?_
  refine then_norm ?_
  refine way_L (tt := tt) (rs := []) (bs := []) (tk := [2]) (bk := []) (C := ((True) ∧ ((InR .i64 1) ∧ ((True) ∧ (True)))) ∧ (True)) (lv := .ret) (T' := [(2, vi 1)]) (B' := []) mix hI hs ?_ ?_ ?_ ?_
  · exact trivial
  · kernel_rfl
  · exact ⟨⟨trivial, ⟨(inR64 (by omega) (by omega)), ⟨trivial, trivial⟩⟩⟩, trivial⟩
  intro a w hs
  exact FnQ_cast (out := .val (vi 1)) (rfl) (ret_ok [] hs ⟨by kernel_rfl, rfl⟩)

set_option maxRecDepth 100000 in
theorem c80_1 : Con Tryz.prog I0 80 [.agg [vi 7, vb false, vb false, .row (.int .u32) ([]), vi 0, vs (ba []), .row .str ([(ba [99])]), .row .tree ([(Tree.mk 1 false ⟨false, [], 0⟩ (ba []) ([]) ([]))])]] (.val (vi 2)) := by
  refine con_of Tryz.func80 rfl (Nat.le_of_ble_eq_true rfl) stab (fun w0 fz a hI hs => ?_)
  refine wp_seq ?_
  refine way_L (tt := tt) (rs := []) (bs := []) (tk := [1]) (bk := [1000]) (C := (True) ∧ ((True) ∧ (True))) (lv := .norm) (T' := [(1, .ptr 1000 0)]) (B' := [(1000, .var [vi 7, vb false, vb false, .row (.int .u32) ([]), vi 0, vs (ba []), .row .str ([(ba [99])]), .row .tree ([(Tree.mk 1 false ⟨false, [], 0⟩ (ba []) ([]) ([]))])])]) mix hI hs ?_ ?_ ?_ ?_
  · exact trivial
  · kernel_rfl
  · exact ⟨trivial, ⟨trivial, trivial⟩⟩
  intro a w hs
  refine then_norm ?_
  refine wp_seq ?_
  refine way_L (tt := tt) (rs := []) (bs := []) (tk := [1, 3]) (bk := [1000]) (C := (True) ∧ (True)) (lv := .norm) (T' := [(1, .ptr 1000 0), (3, vi 0)]) (B' := [(1000, .var [vi 7, vb false, vb false, .row (.int .u32) ([]), vi 0, vs (ba []), .row .str ([(ba [99])]), .row .tree ([(Tree.mk 1 false ⟨false, [], 0⟩ (ba []) ([]) ([]))])])]) mix hI hs ?_ ?_ ?_ ?_
  · exact trivial
  · kernel_rfl
  · exact ⟨trivial, trivial⟩
  intro a w hs
  refine then_norm ?_
  refine wp_seq ?_
  refine wp_seq ?_
  refine way_L (tt := tt) (rs := []) (bs := []) (tk := [3, 7, 8, 9]) (bk := []) (C := tr 4 (True)) (lv := .norm) (T' := [(3, vi 0), (7, .row .tree ([(Tree.mk 1 false ⟨false, [], 0⟩ (ba []) ([]) ([]))])), (8, vi 1), (9, vi 0)]) (B' := []) mix hI hs ?_ ?_ ?_ ?_
  · exact trivial
  · kernel_rfl
  · exact tr_mk (trivial) 4
  intro a w hs
  refine then_norm ?_
  refine wp_block ?_
  refine wp_loop_rounds 2 ?_
  refine rounds_step ?_
  refine way_L (tt := tt) (rs := [(5, ⟨[(2, ciA 80 [.agg [vi 1, vb false, vb false, .row (.int .u32) ([]), vi 0, vs (ba []), .row .str ([]), .row .tree ([])]] [] [] (.val (vi 1)))], [], []⟩)]) (bs := [true]) (tk := [3, 7, 8, 9]) (bk := []) (C := ((True) ∧ (True)) ∧ (((true = true) ∧ (True)) ∧ (((((0 : Int) ≤ 0 ∧ (0 : Int) < ((1 : Nat) : Int)) ∧ (tr 3 (True))) ∧ ((True) ∧ ((True) ∧ ((okArgs [.agg [vi 1, vb false, vb false, .row (.int .u32) ([]), vi 0, vs (ba []), .row .str ([]), .row .tree ([])]]) ∧ ((True) ∧ ((True) ∧ (True))))))) ∧ ((InR .i64 1) ∧ ((True) ∧ (True)))))) (lv := .norm) (T' := [(3, vi 1), (7, .row .tree ([(Tree.mk 1 false ⟨false, [], 0⟩ (ba []) ([]) ([]))])), (8, vi 1), (9, vi 1)]) (B' := []) mix hI hs ?_ ?_ ?_ ?_
  · exact ⟨⟨⟨ent80, c80_2⟩, trivial⟩, trivial⟩
  · kernel_rfl
  · exact ⟨⟨trivial, trivial⟩, ⟨⟨rfl, trivial⟩, ⟨⟨⟨(by decide), tr_mk (trivial) 3⟩, ⟨trivial, ⟨trivial, ⟨rfl, ⟨trivial, ⟨trivial, trivial⟩⟩⟩⟩⟩⟩, ⟨(inR64 (by omega) (by omega)), ⟨trivial, trivial⟩⟩⟩⟩⟩
  intro a w hs
  refine then_norm ?_
  refine rounds_step ?_
  refine way_L (tt := tt) (rs := []) (bs := [false]) (tk := [3]) (bk := []) (C := ((True) ∧ (True)) ∧ ((false = false) ∧ (True))) (lv := .exit 0) (T' := [(3, vi 1)]) (B' := []) mix hI hs ?_ ?_ ?_ ?_
  · exact trivial
  · kernel_rfl
  · exact ⟨⟨trivial, trivial⟩, ⟨rfl, trivial⟩⟩
  intro a w hs
  refine then_exit ?_
  refine inb_hit ?_
  refine then_norm ?_
  refine way_L (tt := tt) (rs := []) (bs := []) (tk := [2]) (bk := []) (C := ((True) ∧ ((InR .i64 2) ∧ ((True) ∧ (True)))) ∧ (True)) (lv := .ret) (T' := [(2, vi 2)]) (B' := []) mix hI hs ?_ ?_ ?_ ?_
  · exact trivial
  · kernel_rfl
  · exact ⟨⟨trivial, ⟨(inR64 (by omega) (by omega)), ⟨trivial, trivial⟩⟩⟩, trivial⟩
  intro a w hs
  exact FnQ_cast (out := .val (vi 2)) (rfl) (ret_ok [] hs ⟨by kernel_rfl, rfl⟩)

set_option maxRecDepth 100000 in
theorem c80_0 : Con Tryz.prog I0 80 [.agg [vi 7, vb false, vb false, nilv, vi 0, vs (ba []), .row .str ([(ba [97])]), .row .tree ([(Tree.mk 7 false ⟨false, [], 0⟩ (ba []) ([(ba [99])]) ([(Tree.mk 1 false ⟨false, [], 0⟩ (ba []) ([]) ([]))]))])]] (.val (vi 3)) := by
  refine con_of Tryz.func80 rfl (Nat.le_of_ble_eq_true rfl) stab (fun w0 fz a hI hs => ?_)
  refine wp_seq ?_
  refine way_L (tt := tt) (rs := []) (bs := []) (tk := [1]) (bk := [1000]) (C := (True) ∧ ((True) ∧ (True))) (lv := .norm) (T' := [(1, .ptr 1000 0)]) (B' := [(1000, .var [vi 7, vb false, vb false, nilv, vi 0, vs (ba []), .row .str ([(ba [97])]), .row .tree ([(Tree.mk 7 false ⟨false, [], 0⟩ (ba []) ([(ba [99])]) ([(Tree.mk 1 false ⟨false, [], 0⟩ (ba []) ([]) ([]))]))])])]) mix hI hs ?_ ?_ ?_ ?_
  · exact trivial
  · kernel_rfl
  · exact ⟨trivial, ⟨trivial, trivial⟩⟩
  intro a w hs
  refine then_norm ?_
  refine wp_seq ?_
  refine way_L (tt := tt) (rs := []) (bs := []) (tk := [1, 3]) (bk := [1000]) (C := (True) ∧ (True)) (lv := .norm) (T' := [(1, .ptr 1000 0), (3, vi 0)]) (B' := [(1000, .var [vi 7, vb false, vb false, nilv, vi 0, vs (ba []), .row .str ([(ba [97])]), .row .tree ([(Tree.mk 7 false ⟨false, [], 0⟩ (ba []) ([(ba [99])]) ([(Tree.mk 1 false ⟨false, [], 0⟩ (ba []) ([]) ([]))]))])])]) mix hI hs ?_ ?_ ?_ ?_
  · exact trivial
  · kernel_rfl
  · exact ⟨trivial, trivial⟩
  intro a w hs
  refine then_norm ?_
  refine wp_seq ?_
  refine wp_seq ?_
  refine way_L (tt := tt) (rs := []) (bs := []) (tk := [3, 7, 8, 9]) (bk := []) (C := tr 4 (True)) (lv := .norm) (T' := [(3, vi 0), (7, .row .tree ([(Tree.mk 7 false ⟨false, [], 0⟩ (ba []) ([(ba [99])]) ([(Tree.mk 1 false ⟨false, [], 0⟩ (ba []) ([]) ([]))]))])), (8, vi 1), (9, vi 0)]) (B' := []) mix hI hs ?_ ?_ ?_ ?_
  · exact trivial
  · kernel_rfl
  · exact tr_mk (trivial) 4
  intro a w hs
  refine then_norm ?_
  refine wp_block ?_
  refine wp_loop_rounds 2 ?_
  refine rounds_step ?_
  refine way_L (tt := tt) (rs := [(5, ⟨[(2, ciA 80 [.agg [vi 7, vb false, vb false, .row (.int .u32) ([]), vi 0, vs (ba []), .row .str ([(ba [99])]), .row .tree ([(Tree.mk 1 false ⟨false, [], 0⟩ (ba []) ([]) ([]))])]] [] [] (.val (vi 2)))], [], []⟩)]) (bs := [true]) (tk := [3, 7, 8, 9]) (bk := []) (C := ((True) ∧ (True)) ∧ (((true = true) ∧ (True)) ∧ (((((0 : Int) ≤ 0 ∧ (0 : Int) < ((1 : Nat) : Int)) ∧ (tr 3 (True))) ∧ ((True) ∧ ((True) ∧ ((okArgs [.agg [vi 7, vb false, vb false, .row (.int .u32) ([]), vi 0, vs (ba []), .row .str ([(ba [99])]), .row .tree ([(Tree.mk 1 false ⟨false, [], 0⟩ (ba []) ([]) ([]))])]]) ∧ ((True) ∧ ((True) ∧ (True))))))) ∧ ((InR .i64 1) ∧ ((True) ∧ (True)))))) (lv := .norm) (T' := [(3, vi 2), (7, .row .tree ([(Tree.mk 7 false ⟨false, [], 0⟩ (ba []) ([(ba [99])]) ([(Tree.mk 1 false ⟨false, [], 0⟩ (ba []) ([]) ([]))]))])), (8, vi 1), (9, vi 1)]) (B' := []) mix hI hs ?_ ?_ ?_ ?_
  · exact ⟨⟨⟨ent80, c80_1⟩, trivial⟩, trivial⟩
  · kernel_rfl
  · exact ⟨⟨trivial, trivial⟩, ⟨⟨rfl, trivial⟩, ⟨⟨⟨(by decide), tr_mk (trivial) 3⟩, ⟨trivial, ⟨trivial, ⟨rfl, ⟨trivial, ⟨trivial, trivial⟩⟩⟩⟩⟩⟩, ⟨(inR64 (by omega) (by omega)), ⟨trivial, trivial⟩⟩⟩⟩⟩
  intro a w hs
  refine then_norm ?_
  refine rounds_step ?_
  refine way_L (tt := tt) (rs := []) (bs := [false]) (tk := [3]) (bk := []) (C := ((True) ∧ (True)) ∧ ((false = false) ∧ (True))) (lv := .exit 0) (T' := [(3, vi 2)]) (B' := []) mix hI hs ?_ ?_ ?_ ?_
  · exact trivial
  · kernel_rfl
  · exact ⟨⟨trivial, trivial⟩, ⟨rfl, trivial⟩⟩
  intro a w hs
  refine then_exit ?_
  refine inb_hit ?_
  refine then_norm ?_
  refine way_L (tt := tt) (rs := []) (bs := []) (tk := [2]) (bk := []) (C := ((True) ∧ ((InR .i64 3) ∧ ((True) ∧ (True)))) ∧ (True)) (lv := .ret) (T' := [(2, vi 3)]) (B' := []) mix hI hs ?_ ?_ ?_ ?_
  · exact trivial
  · kernel_rfl
  · exact ⟨⟨trivial, ⟨(inR64 (by omega) (by omega)), ⟨trivial, trivial⟩⟩⟩, trivial⟩
  intro a w hs
  exact FnQ_cast (out := .val (vi 3)) (rfl) (ret_ok [] hs ⟨by kernel_rfl, rfl⟩)

set_option maxRecDepth 100000 in
theorem c193_2 : Con Tryz.prog I0 193 [.row .tree ([]), .lit (.func (.func 138) #[] #[])] (.val (vi (-1))) := by
  refine con_of Tryz.func193 rfl (Nat.le_of_ble_eq_true rfl) stab (fun w0 fz a hI hs => ?_)
  refine wp_seq ?_
  refine way_L (tt := tt) (rs := []) (bs := []) (tk := [0, 1]) (bk := []) (C := (True) ∧ (True)) (lv := .norm) (T' := [(0, .row .tree ([])), (1, .lit (.func (.func 138) #[] #[]))]) (B' := []) mix hI hs ?_ ?_ ?_ ?_
  · exact trivial
  · kernel_rfl
  · exact ⟨trivial, trivial⟩
  intro a w hs
  refine then_norm ?_
  refine wp_seq ?_
  refine wp_seq ?_
  refine way_L (tt := tt) (rs := []) (bs := []) (tk := [0, 1, 7, 8]) (bk := []) (C := tr 3 (True)) (lv := .norm) (T' := [(0, .row .tree ([])), (1, .lit (.func (.func 138) #[] #[])), (7, vi 0), (8, vi 0)]) (B' := []) mix hI hs ?_ ?_ ?_ ?_
  · exact trivial
  · kernel_rfl
  · exact tr_mk (trivial) 3
  intro a w hs
  refine then_norm ?_
  refine wp_block ?_
  refine wp_loop_rounds 1 ?_
  refine rounds_step ?_
  refine way_L (tt := tt) (rs := []) (bs := [false]) (tk := []) (bk := []) (C := ((True) ∧ (True)) ∧ ((false = false) ∧ (True))) (lv := .exit 0) (T' := []) (B' := []) mix hI hs ?_ ?_ ?_ ?_
  · exact trivial
  · kernel_rfl
  · exact ⟨⟨trivial, trivial⟩, ⟨rfl, trivial⟩⟩
  intro a w hs
  refine then_exit ?_
  refine inb_hit ?_
  refine then_norm ?_
  refine way_L (tt := tt) (rs := []) (bs := []) (tk := [4]) (bk := []) (C := ((True) ∧ (True)) ∧ (True)) (lv := .ret) (T' := [(4, vi (-1))]) (B' := []) mix hI hs ?_ ?_ ?_ ?_
  · exact trivial
  · kernel_rfl
  · exact ⟨⟨trivial, trivial⟩, trivial⟩
  intro a w hs
  exact FnQ_cast (out := .val (vi (-1))) (rfl) (ret_ok [] hs ⟨by kernel_rfl, rfl⟩)

set_option maxRecDepth 100000 in
theorem c137_2 : Con Tryz.prog I0 137 [.row .tree ([]), .lit (.func (.func 138) #[] #[])] (.val (vb false)) := by
  refine con_of Tryz.func137 rfl (Nat.le_of_ble_eq_true rfl) stab (fun w0 fz a hI hs => ?_)
  refine way_L (tt := tt) (rs := [(1, ⟨[(2, ciA 193 [.row .tree ([]), .lit (.func (.func 138) #[] #[])] [] [] (.val (vi (-1))))], [], []⟩)]) (bs := []) (tk := [4]) (bk := []) (C := ((True) ∧ (True)) ∧ (((True) ∧ ((True) ∧ ((okArgs [.row .tree ([]), .lit (.func (.func 138) #[] #[])]) ∧ ((True) ∧ ((True) ∧ (True)))))) ∧ (True))) (lv := .ret) (T' := [(4, vb false)]) (B' := []) mix hI hs ?_ ?_ ?_ ?_
  · exact ⟨⟨⟨ent193, c193_2⟩, trivial⟩, trivial⟩
  · kernel_rfl
  · exact ⟨⟨trivial, trivial⟩, ⟨⟨trivial, ⟨trivial, ⟨rfl, ⟨trivial, ⟨trivial, trivial⟩⟩⟩⟩⟩, trivial⟩⟩
  intro a w hs
  exact FnQ_cast (out := .val (vb false)) (rfl) (ret_ok [] hs ⟨by kernel_rfl, rfl⟩)

set_option maxRecDepth 100000 in
theorem c81_2 : Con Tryz.prog I0 81 [.agg [vi 1, vb false, vb false, .row (.int .u32) ([]), vi 0, vs (ba []), .row .str ([]), .row .tree ([])]] (.val (vb true)) := by
  refine con_of Tryz.func81 rfl (Nat.le_of_ble_eq_true rfl) stab (fun w0 fz a hI hs => ?_)
  refine way_L (tt := tt) (rs := [(1, ⟨[(7, ciA 137 [.row .tree ([]), .lit (.func (.func 138) #[] #[])] [] [] (.val (vb false)))], [(5, true), (6, true), (7, true), (8, true), (1009, true)], []⟩)]) (bs := []) (tk := [2]) (bk := []) (C := ((True) ∧ ((True) ∧ (True))) ∧ ((tr 5 ((true = true) ∧ ((True) ∧ ((true = true) ∧ ((True) ∧ ((true = true) ∧ ((okArgs [.row .tree ([]), .lit (.func (.func 138) #[] #[])]) ∧ ((true = true) ∧ ((True) ∧ ((true = true) ∧ ((True) ∧ (True)))))))))))) ∧ (True))) (lv := .ret) (T' := [(2, vb true)]) (B' := []) mix hI hs ?_ ?_ ?_ ?_
  · exact ⟨⟨⟨ent137, c137_2⟩, trivial⟩, trivial⟩
  · kernel_rfl
  · exact ⟨⟨trivial, ⟨trivial, trivial⟩⟩, ⟨tr_mk (⟨rfl, ⟨trivial, ⟨rfl, ⟨trivial, ⟨rfl, ⟨rfl, ⟨rfl, ⟨trivial, ⟨rfl, ⟨trivial, trivial⟩⟩⟩⟩⟩⟩⟩⟩⟩⟩) 5, trivial⟩⟩
  intro a w hs
  exact FnQ_cast (out := .val (vb true)) (rfl) (ret_ok [] hs ⟨by kernel_rfl, rfl⟩)

set_option maxRecDepth 100000 in
theorem c138_1 : Con Tryz.prog I0 138 [.agg [vi 1, vb false, vb false, .row (.int .u32) ([]), vi 0, vs (ba []), .row .str ([]), .row .tree ([])]] (.val (vb false)) := by
  refine con_of Tryz.func138 rfl (Nat.le_of_ble_eq_true rfl) stab (fun w0 fz a hI hs => ?_)
  refine way_L (tt := tt) (rs := [(1, ⟨[(1, ciA 81 [.agg [vi 1, vb false, vb false, .row (.int .u32) ([]), vi 0, vs (ba []), .row .str ([]), .row .tree ([])]] [] [] (.val (vb true)))], [], []⟩)]) (bs := []) (tk := [2]) (bk := []) (C := ((True) ∧ ((True) ∧ (True))) ∧ (((True) ∧ ((okArgs [.agg [vi 1, vb false, vb false, .row (.int .u32) ([]), vi 0, vs (ba []), .row .str ([]), .row .tree ([])]]) ∧ ((True) ∧ ((True) ∧ (True))))) ∧ (True))) (lv := .ret) (T' := [(2, vb false)]) (B' := []) mix hI hs ?_ ?_ ?_ ?_
  · exact ⟨⟨⟨ent81, c81_2⟩, trivial⟩, trivial⟩
  · kernel_rfl
  · exact ⟨⟨trivial, ⟨trivial, trivial⟩⟩, ⟨⟨trivial, ⟨rfl, ⟨trivial, ⟨trivial, trivial⟩⟩⟩⟩, trivial⟩⟩
  intro a w hs
  exact FnQ_cast (out := .val (vb false)) (rfl) (ret_ok [] hs ⟨by kernel_rfl, rfl⟩)

set_option maxRecDepth 100000 in
theorem c193_1 : Con Tryz.prog I0 193 [.row .tree ([(Tree.mk 1 false ⟨false, [], 0⟩ (ba []) ([]) ([]))]), .lit (.func (.func 138) #[] #[])] (.val (vi (-1))) := by
  refine con_of Tryz.func193 rfl (Nat.le_of_ble_eq_true rfl) stab (fun w0 fz a hI hs => ?_)
  refine wp_seq ?_
  refine way_L (tt := tt) (rs := []) (bs := []) (tk := [0, 1]) (bk := []) (C := (True) ∧ (True)) (lv := .norm) (T' := [(0, .row .tree ([(Tree.mk 1 false ⟨false, [], 0⟩ (ba []) ([]) ([]))])), (1, .lit (.func (.func 138) #[] #[]))]) (B' := []) mix hI hs ?_ ?_ ?_ ?_
  · exact trivial
  · kernel_rfl
  · exact ⟨trivial, trivial⟩
  intro a w hs
  refine then_norm ?_
  refine wp_seq ?_
  refine wp_seq ?_
  refine way_L (tt := tt) (rs := []) (bs := []) (tk := [0, 1, 7, 8]) (bk := []) (C := tr 3 (True)) (lv := .norm) (T' := [(0, .row .tree ([(Tree.mk 1 false ⟨false, [], 0⟩ (ba []) ([]) ([]))])), (1, .lit (.func (.func 138) #[] #[])), (7, vi 1), (8, vi 0)]) (B' := []) mix hI hs ?_ ?_ ?_ ?_
  · exact trivial
  · kernel_rfl
  · exact tr_mk (trivial) 3
  intro a w hs
  refine then_norm ?_
  refine wp_block ?_
  refine wp_loop_rounds 2 ?_
  refine rounds_step ?_
  refine way_L (tt := tt) (rs := [(4, ⟨[(5, ciA 138 [.agg [vi 1, vb false, vb false, .row (.int .u32) ([]), vi 0, vs (ba []), .row .str ([]), .row .tree ([])]] [] [] (.val (vb false)))], [], []⟩)]) (bs := [true, false]) (tk := [0, 1, 7, 8]) (bk := []) (C := ((True) ∧ (True)) ∧ (((true = true) ∧ (True)) ∧ ((((True) ∧ ((True) ∧ (True))) ∧ ((tr 3 (((0 : Int) ≤ 0 ∧ (0 : Int) < ((1 : Nat) : Int)) ∧ ((True) ∧ ((okArgs [.agg [vi 1, vb false, vb false, .row (.int .u32) ([]), vi 0, vs (ba []), .row .str ([]), .row .tree ([])]]) ∧ (True))))) ∧ ((false = false) ∧ (True)))) ∧ ((InR .i64 1) ∧ ((True) ∧ (True)))))) (lv := .norm) (T' := [(0, .row .tree ([(Tree.mk 1 false ⟨false, [], 0⟩ (ba []) ([]) ([]))])), (1, .lit (.func (.func 138) #[] #[])), (7, vi 1), (8, vi 1)]) (B' := []) mix hI hs ?_ ?_ ?_ ?_
  · exact ⟨⟨⟨ent138, c138_1⟩, trivial⟩, trivial⟩
  · kernel_rfl
  · exact ⟨⟨trivial, trivial⟩, ⟨⟨rfl, trivial⟩, ⟨⟨⟨trivial, ⟨trivial, trivial⟩⟩, ⟨tr_mk (⟨(by decide), ⟨trivial, ⟨rfl, trivial⟩⟩⟩) 3, ⟨rfl, trivial⟩⟩⟩, ⟨(inR64 (by omega) (by omega)), ⟨trivial, trivial⟩⟩⟩⟩⟩
  intro a w hs
  refine then_norm ?_
  refine rounds_step ?_
  refine way_L (tt := tt) (rs := []) (bs := [false]) (tk := []) (bk := []) (C := ((True) ∧ (True)) ∧ ((false = false) ∧ (True))) (lv := .exit 0) (T' := []) (B' := []) mix hI hs ?_ ?_ ?_ ?_
  · exact trivial
  · kernel_rfl
  · exact ⟨⟨trivial, trivial⟩, ⟨rfl, trivial⟩⟩
  intro a w hs
  refine then_exit ?_
  refine inb_hit ?_
  refine then_norm ?_
  refine way_L (tt := tt) (rs := []) (bs := []) (tk := [4]) (bk := []) (C := ((True) ∧ (True)) ∧ (True)) (lv := .ret) (T' := [(4, vi (-1))]) (B' := []) mix hI hs ?_ ?_ ?_ ?_
  · exact trivial
  · kernel_rfl
  · exact ⟨⟨trivial, trivial⟩, trivial⟩
  intro a w hs
  exact FnQ_cast (out := .val (vi (-1))) (rfl) (ret_ok [] hs ⟨by kernel_rfl, rfl⟩)

set_option maxRecDepth 100000 in
theorem c137_1 : Con Tryz.prog I0 137 [.row .tree ([(Tree.mk 1 false ⟨false, [], 0⟩ (ba []) ([]) ([]))]), .lit (.func (.func 138) #[] #[])] (.val (vb false)) := by
  refine con_of Tryz.func137 rfl (Nat.le_of_ble_eq_true rfl) stab (fun w0 fz a hI hs => ?_)
  refine way_L (tt := tt) (rs := [(1, ⟨[(2, ciA 193 [.row .tree ([(Tree.mk 1 false ⟨false, [], 0⟩ (ba []) ([]) ([]))]), .lit (.func (.func 138) #[] #[])] [] [] (.val (vi (-1))))], [], []⟩)]) (bs := []) (tk := [4]) (bk := []) (C := ((True) ∧ (True)) ∧ (((True) ∧ ((True) ∧ ((okArgs [.row .tree ([(Tree.mk 1 false ⟨false, [], 0⟩ (ba []) ([]) ([]))]), .lit (.func (.func 138) #[] #[])]) ∧ ((True) ∧ ((True) ∧ (True)))))) ∧ (True))) (lv := .ret) (T' := [(4, vb false)]) (B' := []) mix hI hs ?_ ?_ ?_ ?_
  · exact ⟨⟨⟨ent193, c193_1⟩, trivial⟩, trivial⟩
  · kernel_rfl
  · exact ⟨⟨trivial, trivial⟩, ⟨⟨trivial, ⟨trivial, ⟨rfl, ⟨trivial, ⟨trivial, trivial⟩⟩⟩⟩⟩, trivial⟩⟩
  intro a w hs
  exact FnQ_cast (out := .val (vb false)) (rfl) (ret_ok [] hs ⟨by kernel_rfl, rfl⟩)

set_option maxRecDepth 100000 in
theorem c81_1 : Con Tryz.prog I0 81 [.agg [vi 7, vb false, vb false, .row (.int .u32) ([]), vi 0, vs (ba []), .row .str ([(ba [99])]), .row .tree ([(Tree.mk 1 false ⟨false, [], 0⟩ (ba []) ([]) ([]))])]] (.val (vb true)) := by
  refine con_of Tryz.func81 rfl (Nat.le_of_ble_eq_true rfl) stab (fun w0 fz a hI hs => ?_)
  refine way_L (tt := tt) (rs := [(1, ⟨[(7, ciA 137 [.row .tree ([(Tree.mk 1 false ⟨false, [], 0⟩ (ba []) ([]) ([]))]), .lit (.func (.func 138) #[] #[])] [] [] (.val (vb false)))], [(5, true), (6, true), (7, true), (8, true), (1009, true)], []⟩)]) (bs := []) (tk := [2]) (bk := []) (C := ((True) ∧ ((True) ∧ (True))) ∧ ((tr 5 ((true = true) ∧ ((True) ∧ ((true = true) ∧ ((True) ∧ ((true = true) ∧ ((okArgs [.row .tree ([(Tree.mk 1 false ⟨false, [], 0⟩ (ba []) ([]) ([]))]), .lit (.func (.func 138) #[] #[])]) ∧ ((true = true) ∧ ((True) ∧ ((true = true) ∧ ((True) ∧ (True)))))))))))) ∧ (True))) (lv := .ret) (T' := [(2, vb true)]) (B' := []) mix hI hs ?_ ?_ ?_ ?_
  · exact ⟨⟨⟨ent137, c137_1⟩, trivial⟩, trivial⟩
  · kernel_rfl
  · exact ⟨⟨trivial, ⟨trivial, trivial⟩⟩, ⟨tr_mk (⟨rfl, ⟨trivial, ⟨rfl, ⟨trivial, ⟨rfl, ⟨rfl, ⟨rfl, ⟨trivial, ⟨rfl, ⟨trivial, trivial⟩⟩⟩⟩⟩⟩⟩⟩⟩⟩) 5, trivial⟩⟩
  intro a w hs
  exact FnQ_cast (out := .val (vb true)) (rfl) (ret_ok [] hs ⟨by kernel_rfl, rfl⟩)

set_option maxRecDepth 100000 in
theorem c138_0 : Con Tryz.prog I0 138 [.agg [vi 7, vb false, vb false, .row (.int .u32) ([]), vi 0, vs (ba []), .row .str ([(ba [99])]), .row .tree ([(Tree.mk 1 false ⟨false, [], 0⟩ (ba []) ([]) ([]))])]] (.val (vb false)) := by
  refine con_of Tryz.func138 rfl (Nat.le_of_ble_eq_true rfl) stab (fun w0 fz a hI hs => ?_)
  refine way_L (tt := tt) (rs := [(1, ⟨[(1, ciA 81 [.agg [vi 7, vb false, vb false, .row (.int .u32) ([]), vi 0, vs (ba []), .row .str ([(ba [99])]), .row .tree ([(Tree.mk 1 false ⟨false, [], 0⟩ (ba []) ([]) ([]))])]] [] [] (.val (vb true)))], [], []⟩)]) (bs := []) (tk := [2]) (bk := []) (C := ((True) ∧ ((True) ∧ (True))) ∧ (((True) ∧ ((okArgs [.agg [vi 7, vb false, vb false, .row (.int .u32) ([]), vi 0, vs (ba []), .row .str ([(ba [99])]), .row .tree ([(Tree.mk 1 false ⟨false, [], 0⟩ (ba []) ([]) ([]))])]]) ∧ ((True) ∧ ((True) ∧ (True))))) ∧ (True))) (lv := .ret) (T' := [(2, vb false)]) (B' := []) mix hI hs ?_ ?_ ?_ ?_
  · exact ⟨⟨⟨ent81, c81_1⟩, trivial⟩, trivial⟩
  · kernel_rfl
  · exact ⟨⟨trivial, ⟨trivial, trivial⟩⟩, ⟨⟨trivial, ⟨rfl, ⟨trivial, ⟨trivial, trivial⟩⟩⟩⟩, trivial⟩⟩
  intro a w hs
  exact FnQ_cast (out := .val (vb false)) (rfl) (ret_ok [] hs ⟨by kernel_rfl, rfl⟩)

set_option maxRecDepth 100000 in
theorem c193_0 : Con Tryz.prog I0 193 [.row .tree ([(Tree.mk 7 false ⟨false, [], 0⟩ (ba []) ([(ba [99])]) ([(Tree.mk 1 false ⟨false, [], 0⟩ (ba []) ([]) ([]))]))]), .lit (.func (.func 138) #[] #[])] (.val (vi (-1))) := by
  refine con_of Tryz.func193 rfl (Nat.le_of_ble_eq_true rfl) stab (fun w0 fz a hI hs => ?_)
  refine wp_seq ?_
  refine way_L (tt := tt) (rs := []) (bs := []) (tk := [0, 1]) (bk := []) (C := (True) ∧ (True)) (lv := .norm) (T' := [(0, .row .tree ([(Tree.mk 7 false ⟨false, [], 0⟩ (ba []) ([(ba [99])]) ([(Tree.mk 1 false ⟨false, [], 0⟩ (ba []) ([]) ([]))]))])), (1, .lit (.func (.func 138) #[] #[]))]) (B' := []) mix hI hs ?_ ?_ ?_ ?_
  · exact trivial
  · kernel_rfl
  · exact ⟨trivial, trivial⟩
  intro a w hs
  refine then_norm ?_
  refine wp_seq ?_
  refine wp_seq ?_
  refine way_L (tt := tt) (rs := []) (bs := []) (tk := [0, 1, 7, 8]) (bk := []) (C := tr 3 (True)) (lv := .norm) (T' := [(0, .row .tree ([(Tree.mk 7 false ⟨false, [], 0⟩ (ba []) ([(ba [99])]) ([(Tree.mk 1 false ⟨false, [], 0⟩ (ba []) ([]) ([]))]))])), (1, .lit (.func (.func 138) #[] #[])), (7, vi 1), (8, vi 0)]) (B' := []) mix hI hs ?_ ?_ ?_ ?_
  · exact trivial
  · kernel_rfl
  · exact tr_mk (trivial) 3
  intro a w hs
  refine then_norm ?_
  refine wp_block ?_
  refine wp_loop_rounds 2 ?_
  refine rounds_step ?_
  refine way_L (tt := tt) (rs := [(4, ⟨[(5, ciA 138 [.agg [vi 7, vb false, vb false, .row (.int .u32) ([]), vi 0, vs (ba []), .row .str ([(ba [99])]), .row .tree ([(Tree.mk 1 false ⟨false, [], 0⟩ (ba []) ([]) ([]))])]] [] [] (.val (vb false)))], [], []⟩)]) (bs := [true, false]) (tk := [0, 1, 7, 8]) (bk := []) (C := ((True) ∧ (True)) ∧ (((true = true) ∧ (True)) ∧ ((((True) ∧ ((True) ∧ (True))) ∧ ((tr 3 (((0 : Int) ≤ 0 ∧ (0 : Int) < ((1 : Nat) : Int)) ∧ ((True) ∧ ((okArgs [.agg [vi 7, vb false, vb false, .row (.int .u32) ([]), vi 0, vs (ba []), .row .str ([(ba [99])]), .row .tree ([(Tree.mk 1 false ⟨false, [], 0⟩ (ba []) ([]) ([]))])]]) ∧ (True))))) ∧ ((false = false) ∧ (True)))) ∧ ((InR .i64 1) ∧ ((True) ∧ (True)))))) (lv := .norm) (T' := [(0, .row .tree ([(Tree.mk 7 false ⟨false, [], 0⟩ (ba []) ([(ba [99])]) ([(Tree.mk 1 false ⟨false, [], 0⟩ (ba []) ([]) ([]))]))])), (1, .lit (.func (.func 138) #[] #[])), (7, vi 1), (8, vi 1)]) (B' := []) mix hI hs ?_ ?_ ?_ ?_
  · exact ⟨⟨⟨ent138, c138_0⟩, trivial⟩, trivial⟩
  · kernel_rfl
  · exact ⟨⟨trivial, trivial⟩, ⟨⟨rfl, trivial⟩, ⟨⟨⟨trivial, ⟨trivial, trivial⟩⟩, ⟨tr_mk (⟨(by decide), ⟨trivial, ⟨rfl, trivial⟩⟩⟩) 3, ⟨rfl, trivial⟩⟩⟩, ⟨(inR64 (by omega) (by omega)), ⟨trivial, trivial⟩⟩⟩⟩⟩
  intro a w hs
  refine then_norm ?_
  refine rounds_step ?_
  refine way_L (tt := tt) (rs := []) (bs := [false]) (tk := []) (bk := []) (C := ((True) ∧ (True)) ∧ ((false = false) ∧ (True))) (lv := .exit 0) (T' := []) (B' := []) mix hI hs ?_ ?_ ?_ ?_
  · exact trivial
  · kernel_rfl
  · exact ⟨⟨trivial, trivial⟩, ⟨rfl, trivial⟩⟩
  intro a w hs
  refine then_exit ?_
  refine inb_hit ?_
  refine then_norm ?_
  refine way_L (tt := tt) (rs := []) (bs := []) (tk := [4]) (bk := []) (C := ((True) ∧ (True)) ∧ (True)) (lv := .ret) (T' := [(4, vi (-1))]) (B' := []) mix hI hs ?_ ?_ ?_ ?_
  · exact trivial
  · kernel_rfl
  · exact ⟨⟨trivial, trivial⟩, trivial⟩
  intro a w hs
  exact FnQ_cast (out := .val (vi (-1))) (rfl) (ret_ok [] hs ⟨by kernel_rfl, rfl⟩)

set_option maxRecDepth 100000 in
theorem c137_0 : Con Tryz.prog I0 137 [.row .tree ([(Tree.mk 7 false ⟨false, [], 0⟩ (ba []) ([(ba [99])]) ([(Tree.mk 1 false ⟨false, [], 0⟩ (ba []) ([]) ([]))]))]), .lit (.func (.func 138) #[] #[])] (.val (vb false)) := by
  refine con_of Tryz.func137 rfl (Nat.le_of_ble_eq_true rfl) stab (fun w0 fz a hI hs => ?_)
  refine way_L (tt := tt) (rs := [(1, ⟨[(2, ciA 193 [.row .tree ([(Tree.mk 7 false ⟨false, [], 0⟩ (ba []) ([(ba [99])]) ([(Tree.mk 1 false ⟨false, [], 0⟩ (ba []) ([]) ([]))]))]), .lit (.func (.func 138) #[] #[])] [] [] (.val (vi (-1))))], [], []⟩)]) (bs := []) (tk := [4]) (bk := []) (C := ((True) ∧ (True)) ∧ (((True) ∧ ((True) ∧ ((okArgs [.row .tree ([(Tree.mk 7 false ⟨false, [], 0⟩ (ba []) ([(ba [99])]) ([(Tree.mk 1 false ⟨false, [], 0⟩ (ba []) ([]) ([]))]))]), .lit (.func (.func 138) #[] #[])]) ∧ ((True) ∧ ((True) ∧ (True)))))) ∧ (True))) (lv := .ret) (T' := [(4, vb false)]) (B' := []) mix hI hs ?_ ?_ ?_ ?_
  · exact ⟨⟨⟨ent193, c193_0⟩, trivial⟩, trivial⟩
  · kernel_rfl
  · exact ⟨⟨trivial, trivial⟩, ⟨⟨trivial, ⟨trivial, ⟨rfl, ⟨trivial, ⟨trivial, trivial⟩⟩⟩⟩⟩, trivial⟩⟩
  intro a w hs
  exact FnQ_cast (out := .val (vb false)) (rfl) (ret_ok [] hs ⟨by kernel_rfl, rfl⟩)

set_option maxRecDepth 100000 in
theorem c81_0 : Con Tryz.prog I0 81 [.agg [vi 7, vb false, vb false, nilv, vi 0, vs (ba []), .row .str ([(ba [97])]), .row .tree ([(Tree.mk 7 false ⟨false, [], 0⟩ (ba []) ([(ba [99])]) ([(Tree.mk 1 false ⟨false, [], 0⟩ (ba []) ([]) ([]))]))])]] (.val (vb true)) := by
  refine con_of Tryz.func81 rfl (Nat.le_of_ble_eq_true rfl) stab (fun w0 fz a hI hs => ?_)
  refine way_L (tt := tt) (rs := [(1, ⟨[(7, ciA 137 [.row .tree ([(Tree.mk 7 false ⟨false, [], 0⟩ (ba []) ([(ba [99])]) ([(Tree.mk 1 false ⟨false, [], 0⟩ (ba []) ([]) ([]))]))]), .lit (.func (.func 138) #[] #[])] [] [] (.val (vb false)))], [(5, true), (6, true), (7, true), (8, true), (1009, true)], []⟩)]) (bs := []) (tk := [2]) (bk := []) (C := ((True) ∧ ((True) ∧ (True))) ∧ ((tr 5 ((true = true) ∧ ((True) ∧ ((true = true) ∧ ((True) ∧ ((true = true) ∧ ((okArgs [.row .tree ([(Tree.mk 7 false ⟨false, [], 0⟩ (ba []) ([(ba [99])]) ([(Tree.mk 1 false ⟨false, [], 0⟩ (ba []) ([]) ([]))]))]), .lit (.func (.func 138) #[] #[])]) ∧ ((true = true) ∧ ((True) ∧ ((true = true) ∧ ((True) ∧ (True)))))))))))) ∧ (True))) (lv := .ret) (T' := [(2, vb true)]) (B' := []) mix hI hs ?_ ?_ ?_ ?_
  · exact ⟨⟨⟨ent137, c137_0⟩, trivial⟩, trivial⟩
  · kernel_rfl
  · exact ⟨⟨trivial, ⟨trivial, trivial⟩⟩, ⟨tr_mk (⟨rfl, ⟨trivial, ⟨rfl, ⟨trivial, ⟨rfl, ⟨rfl, ⟨rfl, ⟨trivial, ⟨rfl, ⟨trivial, trivial⟩⟩⟩⟩⟩⟩⟩⟩⟩⟩) 5, trivial⟩⟩
  intro a w hs
  exact FnQ_cast (out := .val (vb true)) (rfl) (ret_ok [] hs ⟨by kernel_rfl, rfl⟩)

set_option maxRecDepth 100000 in
theorem c26_0 : Con Tryz.prog I0 26 [.agg [vi 7, vb false, vb false, nilv, vi 0, vs (ba []), .row .str ([(ba [97])]), .row .tree ([(Tree.mk 7 false ⟨false, [], 0⟩ (ba []) ([(ba [98]), (ba [99])]) ([(Tree.mk 2 false ⟨false, [], 0⟩ (ba []) ([]) ([])), (Tree.mk 1 false ⟨false, [], 0⟩ (ba []) ([]) ([]))]))])], .row .strs ([[(ba [97]), (ba [98])]]), .agg [vi 7, vb false, vb false, nilv, vi 0, vs (ba []), nilv, nilv], vi 100] (.val (.tup [.agg [vi 7, vb false, vb false, nilv, vi 0, vs (ba []), .row .str ([(ba [97])]), .row .tree ([(Tree.mk 7 false ⟨false, [], 0⟩ (ba []) ([(ba [99])]) ([(Tree.mk 1 false ⟨false, [], 0⟩ (ba []) ([]) ([]))]))])], vi 0])) := by
  refine con_of Tryz.func26 rfl (Nat.le_of_ble_eq_true rfl) stab (fun w0 fz a hI hs => ?_)
  refine wp_seq ?_
  refine way_L (tt := tt) (rs := []) (bs := []) (tk := [1, 3, 4, 6, 8]) (bk := [1000, 1001, 1002]) (C := tr 4 (True)) (lv := .norm) (T' := [(1, .row .strs ([[(ba [97]), (ba [98])]])), (3, vi 100), (4, .ptr 1000 0), (6, .ptr 1001 0), (8, .ptr 1002 0)]) (B' := [(1000, .var [vi 7, vb false, vb false, nilv, vi 0, vs (ba []), .row .str ([(ba [97])]), .row .tree ([(Tree.mk 7 false ⟨false, [], 0⟩ (ba []) ([(ba [98]), (ba [99])]) ([(Tree.mk 2 false ⟨false, [], 0⟩ (ba []) ([]) ([])), (Tree.mk 1 false ⟨false, [], 0⟩ (ba []) ([]) ([]))]))])]), (1001, .var [vi 7, vb false, vb false, nilv, vi 0, vs (ba []), nilv, nilv]), (1002, .var [vi 0, vb false, vb false, nilv, vi 0, vs (ba []), nilv, nilv])]) mix hI hs ?_ ?_ ?_ ?_
  · exact trivial
  · kernel_rfl
  · exact tr_mk (trivial) 4
  intro a w hs
  refine then_norm ?_
  refine wp_seq ?_
  refine way_L (tt := tt) (rs := [(1, ⟨[(1, ciA 57 [.agg [vi 7, vb false, vb false, nilv, vi 0, vs (ba []), .row .str ([(ba [97])]), .row .tree ([(Tree.mk 7 false ⟨false, [], 0⟩ (ba []) ([(ba [98]), (ba [99])]) ([(Tree.mk 2 false ⟨false, [], 0⟩ (ba []) ([]) ([])), (Tree.mk 1 false ⟨false, [], 0⟩ (ba []) ([]) ([]))]))])]] [] [] (.val (vb true))), (5, ciA 57 [.agg [vi 7, vb false, vb false, nilv, vi 0, vs (ba []), nilv, nilv]] [] [] (.val (vb true))), (10, ciA 39 [.row .strs ([[(ba [97]), (ba [98])]])] [] [] (.val (vb true)))], [(4, true), (5, true), (6, true), (1007, false), (9, true), (10, true), (11, true), (1012, false)], []⟩)]) (bs := [false]) (tk := [1, 3, 4, 6, 8]) (bk := [1000, 1001, 1002]) (C := ((True) ∧ ((okArgs [.agg [vi 7, vb false, vb false, nilv, vi 0, vs (ba []), .row .str ([(ba [97])]), .row .tree ([(Tree.mk 7 false ⟨false, [], 0⟩ (ba []) ([(ba [98]), (ba [99])]) ([(Tree.mk 2 false ⟨false, [], 0⟩ (ba []) ([]) ([])), (Tree.mk 1 false ⟨false, [], 0⟩ (ba []) ([]) ([]))]))])]]) ∧ ((True) ∧ ((True) ∧ ((false = false) ∧ ((True) ∧ ((false = false) ∧ ((okArgs [.agg [vi 7, vb false, vb false, nilv, vi 0, vs (ba []), nilv, nilv]]) ∧ ((false = false) ∧ ((True) ∧ ((false = false) ∧ ((True) ∧ ((false = false) ∧ ((True) ∧ ((false = false) ∧ ((okArgs [.row .strs ([[(ba [97]), (ba [98])]])]) ∧ ((false = false) ∧ ((True) ∧ ((false = false) ∧ (True)))))))))))))))))))) ∧ ((false = false) ∧ (True))) (lv := .norm) (T' := [(1, .row .strs ([[(ba [97]), (ba [98])]])), (3, vi 100), (4, .ptr 1000 0), (6, .ptr 1001 0), (8, .ptr 1002 0)]) (B' := [(1000, .var [vi 7, vb false, vb false, nilv, vi 0, vs (ba []), .row .str ([(ba [97])]), .row .tree ([(Tree.mk 7 false ⟨false, [], 0⟩ (ba []) ([(ba [98]), (ba [99])]) ([(Tree.mk 2 false ⟨false, [], 0⟩ (ba []) ([]) ([])), (Tree.mk 1 false ⟨false, [], 0⟩ (ba []) ([]) ([]))]))])]), (1001, .var [vi 7, vb false, vb false, nilv, vi 0, vs (ba []), nilv, nilv]), (1002, .var [vi 0, vb false, vb false, nilv, vi 0, vs (ba []), nilv, nilv])]) mix hI hs ?_ ?_ ?_ ?_
  · exact ⟨⟨⟨ent57, c57_0⟩, ⟨⟨ent57, c57_1⟩, ⟨⟨ent39, c39_0⟩, trivial⟩⟩⟩, trivial⟩
  · kernel_rfl
  · exact ⟨⟨trivial, ⟨rfl, ⟨trivial, ⟨trivial, ⟨rfl, ⟨trivial, ⟨rfl, ⟨rfl, ⟨rfl, ⟨trivial, ⟨rfl, ⟨trivial, ⟨rfl, ⟨trivial, ⟨rfl, ⟨rfl, ⟨rfl, ⟨trivial, ⟨rfl, trivial⟩⟩⟩⟩⟩⟩⟩⟩⟩⟩⟩⟩⟩⟩⟩⟩⟩⟩⟩, ⟨rfl, trivial⟩⟩
  intro a w hs
  refine then_norm ?_
  refine wp_seq ?_
  refine wp_seq ?_
  refine way_L (tt := tt) (rs := [(3, ⟨[(1, ciA 24 [.row .strs ([[(ba [97]), (ba [98])]])] [] [] (.own 26 .strs ([[(ba [97]), (ba [98])]])))], [], []⟩)]) (bs := []) (tk := [3, 4, 6, 8, 29, 30, 31]) (bk := [1000, 1001, 1002, 4001]) (C := (True) ∧ ((okArgs [.row .strs ([[(ba [97]), (ba [98])]])]) ∧ ((True) ∧ ((True) ∧ (True))))) (lv := .norm) (T' := [(3, vi 100), (4, .ptr 1000 0), (6, .ptr 1001 0), (8, .ptr 1002 0), (29, .own 4001), (30, vi 1), (31, vi 0)]) (B' := [(1000, .var [vi 7, vb false, vb false, nilv, vi 0, vs (ba []), .row .str ([(ba [97])]), .row .tree ([(Tree.mk 7 false ⟨false, [], 0⟩ (ba []) ([(ba [98]), (ba [99])]) ([(Tree.mk 2 false ⟨false, [], 0⟩ (ba []) ([]) ([])), (Tree.mk 1 false ⟨false, [], 0⟩ (ba []) ([]) ([]))]))])]), (1001, .var [vi 7, vb false, vb false, nilv, vi 0, vs (ba []), nilv, nilv]), (1002, .var [vi 0, vb false, vb false, nilv, vi 0, vs (ba []), nilv, nilv]), (4001, .sl 26 .strs ([[(ba [97]), (ba [98])]]))]) mix hI hs ?_ ?_ ?_ ?_
  · exact ⟨⟨⟨ent24, c24_0⟩, trivial⟩, trivial⟩
  · kernel_rfl
  · exact ⟨trivial, ⟨rfl, ⟨trivial, ⟨trivial, trivial⟩⟩⟩⟩
  intro a w hs
  refine then_norm ?_
  refine wp_block ?_
  refine wp_loop_rounds 2 ?_
  refine rounds_step ?_
  refine way_L (tt := tt) (rs := [(6, ⟨[(2, ciA 75 [.agg [vi 7, vb false, vb false, nilv, vi 0, vs (ba []), nilv, nilv], .row .str ([(ba [97]), (ba [98])])] [] [] (.val (.tup [.agg [vi 0, vb false, vb false, nilv, vi 0, vs (ba []), nilv, nilv], vb false])))], [], []⟩), (9, ⟨[(2, ciA 77 [.agg [vi 7, vb false, vb false, nilv, vi 0, vs (ba []), .row .str ([(ba [97])]), .row .tree ([(Tree.mk 7 false ⟨false, [], 0⟩ (ba []) ([(ba [98]), (ba [99])]) ([(Tree.mk 2 false ⟨false, [], 0⟩ (ba []) ([]) ([])), (Tree.mk 1 false ⟨false, [], 0⟩ (ba []) ([]) ([]))]))])], .row .str ([(ba [97]), (ba [98])])] [] [] (.val (.agg [vi 7, vb false, vb false, nilv, vi 0, vs (ba []), .row .str ([(ba [97])]), .row .tree ([(Tree.mk 7 false ⟨false, [], 0⟩ (ba []) ([(ba [99])]) ([(Tree.mk 1 false ⟨false, [], 0⟩ (ba []) ([]) ([]))]))])])))], [], []⟩)]) (bs := [true, false]) (tk := [3, 4, 6, 8, 29, 30, 31]) (bk := [1000, 1001, 1002, 4001]) (C := ((True) ∧ (True)) ∧ (((true = true) ∧ (True)) ∧ (((((0 : Int) ≤ 0 ∧ (0 : Int) < ((1 : Nat) : Int)) ∧ ((0 < 1) ∧ ((True) ∧ (True)))) ∧ ((((True) ∧ ((True) ∧ ((okArgs [.agg [vi 7, vb false, vb false, nilv, vi 0, vs (ba []), nilv, nilv], .row .str ([(ba [97]), (ba [98])])]) ∧ (tr 6 (True))))) ∧ (((True) ∧ (True)) ∧ ((false = false) ∧ (True)))) ∧ ((True) ∧ ((True) ∧ ((okArgs [.agg [vi 7, vb false, vb false, nilv, vi 0, vs (ba []), .row .str ([(ba [97])]), .row .tree ([(Tree.mk 7 false ⟨false, [], 0⟩ (ba []) ([(ba [98]), (ba [99])]) ([(Tree.mk 2 false ⟨false, [], 0⟩ (ba []) ([]) ([])), (Tree.mk 1 false ⟨false, [], 0⟩ (ba []) ([]) ([]))]))])], .row .str ([(ba [97]), (ba [98])])]) ∧ ((True) ∧ (True))))))) ∧ ((InR .i64 1) ∧ ((True) ∧ (True)))))) (lv := .norm) (T' := [(3, vi 100), (4, .ptr 1000 0), (6, .ptr 1001 0), (8, .ptr 1002 0), (29, .own 4001), (30, vi 1), (31, vi 1)]) (B' := [(1000, .var [vi 7, vb false, vb false, nilv, vi 0, vs (ba []), .row .str ([(ba [97])]), .row .tree ([(Tree.mk 7 false ⟨false, [], 0⟩ (ba []) ([(ba [99])]) ([(Tree.mk 1 false ⟨false, [], 0⟩ (ba []) ([]) ([]))]))])]), (1001, .var [vi 7, vb false, vb false, nilv, vi 0, vs (ba []), nilv, nilv]), (1002, .var [vi 0, vb false, vb false, nilv, vi 0, vs (ba []), nilv, nilv]), (4001, .sl 26 .strs ([[(ba [97]), (ba [98])]]))]) mix hI hs ?_ ?_ ?_ ?_
  · exact ⟨⟨⟨ent75, c75_0⟩, trivial⟩, ⟨⟨⟨ent77, c77_0⟩, trivial⟩, trivial⟩⟩
  · kernel_rfl
  · exact ⟨⟨trivial, trivial⟩, ⟨⟨rfl, trivial⟩, ⟨⟨⟨(by decide), ⟨(by decide), ⟨trivial, trivial⟩⟩⟩, ⟨⟨⟨trivial, ⟨trivial, ⟨rfl, tr_mk (trivial) 6⟩⟩⟩, ⟨⟨trivial, trivial⟩, ⟨rfl, trivial⟩⟩⟩, ⟨trivial, ⟨trivial, ⟨rfl, ⟨trivial, trivial⟩⟩⟩⟩⟩⟩, ⟨(inR64 (by omega) (by omega)), ⟨trivial, trivial⟩⟩⟩⟩⟩
  intro a w hs
  refine then_norm ?_
  have hs := hs.ren (T' := [(3, vi 100), (4, .ptr 10000007 0), (6, .ptr 10000008 0), (8, .ptr 10000009 0), (29, .own 10000010), (30, vi 1), (31, vi 1)]) (B' := [(10000007, .var [vi 7, vb false, vb false, nilv, vi 0, vs (ba []), .row .str ([(ba [97])]), .row .tree ([(Tree.mk 7 false ⟨false, [], 0⟩ (ba []) ([(ba [99])]) ([(Tree.mk 1 false ⟨false, [], 0⟩ (ba []) ([]) ([]))]))])]), (10000008, .var [vi 7, vb false, vb false, nilv, vi 0, vs (ba []), nilv, nilv]), (10000009, .var [vi 0, vb false, vb false, nilv, vi 0, vs (ba []), nilv, nilv]), (10000010, .sl 26 .strs ([[(ba [97]), (ba [98])]]))]) [(10000007, 1000), (10000008, 1001), (10000009, 1002), (10000010, 4001)] (by kernel_rfl) (by kernel_rfl) (by kernel_rfl)
  refine rounds_step ?_
  refine way_L (tt := tt) (rs := []) (bs := [false]) (tk := [3, 4, 8]) (bk := [10000007, 10000009]) (C := ((True) ∧ (True)) ∧ ((false = false) ∧ (True))) (lv := .exit 0) (T' := [(3, vi 100), (4, .ptr 10000007 0), (8, .ptr 10000009 0)]) (B' := [(10000007, .var [vi 7, vb false, vb false, nilv, vi 0, vs (ba []), .row .str ([(ba [97])]), .row .tree ([(Tree.mk 7 false ⟨false, [], 0⟩ (ba []) ([(ba [99])]) ([(Tree.mk 1 false ⟨false, [], 0⟩ (ba []) ([]) ([]))]))])]), (10000009, .var [vi 0, vb false, vb false, nilv, vi 0, vs (ba []), nilv, nilv])]) mix hI hs ?_ ?_ ?_ ?_
  · exact trivial
  · kernel_rfl
  · exact ⟨⟨trivial, trivial⟩, ⟨rfl, trivial⟩⟩
  intro a w hs
  refine then_exit ?_
  refine inb_hit ?_
  refine then_norm ?_
  refine way_L (tt := tt) (rs := [(11, ⟨[(1, ciA 78 [.agg [vi 7, vb false, vb false, nilv, vi 0, vs (ba []), .row .str ([(ba [97])]), .row .tree ([(Tree.mk 7 false ⟨false, [], 0⟩ (ba []) ([(ba [99])]) ([(Tree.mk 1 false ⟨false, [], 0⟩ (ba []) ([]) ([]))]))])]] [] [] (.val (vi 3))), (6, ciA 79 [.agg [vi 7, vb false, vb false, nilv, vi 0, vs (ba []), .row .str ([(ba [97])]), .row .tree ([(Tree.mk 7 false ⟨false, [], 0⟩ (ba []) ([(ba [99])]) ([(Tree.mk 1 false ⟨false, [], 0⟩ (ba []) ([]) ([]))]))])]] [] [] (.val (vi 3))), (11, ciA 80 [.agg [vi 7, vb false, vb false, nilv, vi 0, vs (ba []), .row .str ([(ba [97])]), .row .tree ([(Tree.mk 7 false ⟨false, [], 0⟩ (ba []) ([(ba [99])]) ([(Tree.mk 1 false ⟨false, [], 0⟩ (ba []) ([]) ([]))]))])]] [] [] (.val (vi 3))), (16, ciA 81 [.agg [vi 7, vb false, vb false, nilv, vi 0, vs (ba []), .row .str ([(ba [97])]), .row .tree ([(Tree.mk 7 false ⟨false, [], 0⟩ (ba []) ([(ba [99])]) ([(Tree.mk 1 false ⟨false, [], 0⟩ (ba []) ([]) ([]))]))])]] [] [] (.val (vb true)))], [(5, true), (6, true), (7, true), (1008, false), (10, true), (11, true), (12, true), (1013, false), (15, true), (16, true), (17, true), (1018, false)], []⟩)]) (bs := [false]) (tk := [8, 9]) (bk := [10000009]) (C := (((True) ∧ ((okArgs [.agg [vi 7, vb false, vb false, nilv, vi 0, vs (ba []), .row .str ([(ba [97])]), .row .tree ([(Tree.mk 7 false ⟨false, [], 0⟩ (ba []) ([(ba [99])]) ([(Tree.mk 1 false ⟨false, [], 0⟩ (ba []) ([]) ([]))]))])]]) ∧ (tr 3 ((false = false) ∧ ((True) ∧ ((false = false) ∧ ((okArgs [.agg [vi 7, vb false, vb false, nilv, vi 0, vs (ba []), .row .str ([(ba [97])]), .row .tree ([(Tree.mk 7 false ⟨false, [], 0⟩ (ba []) ([(ba [99])]) ([(Tree.mk 1 false ⟨false, [], 0⟩ (ba []) ([]) ([]))]))])]]) ∧ ((false = false) ∧ ((True) ∧ ((false = false) ∧ ((True) ∧ ((false = false) ∧ ((True) ∧ ((false = false) ∧ ((okArgs [.agg [vi 7, vb false, vb false, nilv, vi 0, vs (ba []), .row .str ([(ba [97])]), .row .tree ([(Tree.mk 7 false ⟨false, [], 0⟩ (ba []) ([(ba [99])]) ([(Tree.mk 1 false ⟨false, [], 0⟩ (ba []) ([]) ([]))]))])]]) ∧ ((false = false) ∧ ((True) ∧ ((false = false) ∧ ((True) ∧ ((false = false) ∧ ((True) ∧ ((false = false) ∧ ((okArgs [.agg [vi 7, vb false, vb false, nilv, vi 0, vs (ba []), .row .str ([(ba [97])]), .row .tree ([(Tree.mk 7 false ⟨false, [], 0⟩ (ba []) ([(ba [99])]) ([(Tree.mk 1 false ⟨false, [], 0⟩ (ba []) ([]) ([]))]))])]]) ∧ ((false = false) ∧ ((True) ∧ ((false = false) ∧ (True))))))))))))))))))))))))))) ∧ ((false = false) ∧ (True))) ∧ ((tr 3 (True)) ∧ (True))) (lv := .ret) (T' := [(8, .ptr 10000009 0), (9, vi 0)]) (B' := [(10000009, .var [vi 7, vb false, vb false, nilv, vi 0, vs (ba []), .row .str ([(ba [97])]), .row .tree ([(Tree.mk 7 false ⟨false, [], 0⟩ (ba []) ([(ba [99])]) ([(Tree.mk 1 false ⟨false, [], 0⟩ (ba []) ([]) ([]))]))])])]) mix hI hs ?_ ?_ ?_ ?_
  · exact ⟨⟨⟨ent78, c78_0⟩, ⟨⟨ent79, c79_0⟩, ⟨⟨ent80, c80_0⟩, ⟨⟨ent81, c81_0⟩, trivial⟩⟩⟩⟩, trivial⟩
  · kernel_rfl
  · exact ⟨⟨⟨trivial, ⟨rfl, tr_mk (⟨rfl, ⟨trivial, ⟨rfl, ⟨rfl, ⟨rfl, ⟨trivial, ⟨rfl, ⟨trivial, ⟨rfl, ⟨trivial, ⟨rfl, ⟨rfl, ⟨rfl, ⟨trivial, ⟨rfl, ⟨trivial, ⟨rfl, ⟨trivial, ⟨rfl, ⟨rfl, ⟨rfl, ⟨trivial, ⟨rfl, trivial⟩⟩⟩⟩⟩⟩⟩⟩⟩⟩⟩⟩⟩⟩⟩⟩⟩⟩⟩⟩⟩⟩⟩) 3⟩⟩, ⟨rfl, trivial⟩⟩, ⟨tr_mk (trivial) 3, trivial⟩⟩
  intro a w hs
  exact FnQ_cast (out := .val (.tup [.agg [vi 7, vb false, vb false, nilv, vi 0, vs (ba []), .row .str ([(ba [97])]), .row .tree ([(Tree.mk 7 false ⟨false, [], 0⟩ (ba []) ([(ba [99])]) ([(Tree.mk 1 false ⟨false, [], 0⟩ (ba []) ([]) ([]))]))])], vi 0])) (rfl) (ret_ok [] hs ⟨by kernel_rfl, rfl⟩)

set_option maxRecDepth 100000 in
theorem c37_2 : Con Tryz.prog I0 37 [vs (ba [95, 97, 49])] (.val (vb true)) := by
  refine con_of Tryz.func37 rfl (Nat.le_of_ble_eq_true rfl) stab (fun w0 fz a hI hs => ?_)
  refine wp_seq ?_
  refine way_L (tt := tt) (rs := []) (bs := []) (tk := [0]) (bk := []) (C := (True) ∧ (True)) (lv := .norm) (T' := [(0, vs (ba [95, 97, 49]))]) (B' := []) mix hI hs ?_ ?_ ?_ ?_
  · exact trivial
  · kernel_rfl
  · exact ⟨trivial, trivial⟩
  intro a w hs
  refine then_norm ?_
  refine wp_seq ?_
  refine wp_seq ?_
  refine way_L (tt := tt) (rs := []) (bs := []) (tk := [0, 7, 8]) (bk := []) (C := tr 3 (True)) (lv := .norm) (T' := [(0, vs (ba [95, 97, 49])), (7, vi 3), (8, vi 0)]) (B' := []) mix hI hs ?_ ?_ ?_ ?_
  · exact trivial
  · kernel_rfl
  · exact tr_mk (trivial) 3
  intro a w hs
  refine then_norm ?_
  refine wp_block ?_
  refine wp_loop_rounds 4 ?_
  refine rounds_step ?_
  refine way_L (tt := tt) (rs := [(5, ⟨[], [(3, true), (4, true), (1005, true), (7, true), (8, true), (9, true), (10, true), (1011, false)], []⟩), (6, ⟨[], [(3, false), (4, false), (5, false), (10, false), (11, false), (16, false), (1017, false)], []⟩)]) (bs := [true, false]) (tk := [0, 7, 8, 18, 19, 22, 23, 24, 25, 30, 31, 32, 33, 34, 35, 36, 37, 38, 39, 40, 41, 42, 43]) (bk := []) (C := ((True) ∧ (True)) ∧ (((true = true) ∧ (True)) ∧ ((((True) ∧ ((True) ∧ (True))) ∧ (((True) ∧ ((True) ∧ (((0 : Int) ≤ 0 ∧ (0 : Int) < ((3 : Nat) : Int)) ∧ ((True) ∧ ((True) ∧ (True)))))) ∧ ((tr 3 ((true = true) ∧ ((True) ∧ ((true = true) ∧ ((True) ∧ ((true = true) ∧ ((True) ∧ ((false = false) ∧ ((True) ∧ ((false = false) ∧ ((True) ∧ ((false = false) ∧ (((0 : Int) ≤ 0 ∧ (0 : Int) < ((3 : Nat) : Int)) ∧ ((false = false) ∧ ((True) ∧ ((false = false) ∧ ((True) ∧ (True)))))))))))))))))) ∧ ((tr 3 ((false = false) ∧ ((false = false) ∧ ((false = false) ∧ (tr 4 ((false = false) ∧ ((false = false) ∧ (tr 4 ((false = false) ∧ ((false = false) ∧ (True))))))))))) ∧ ((false = false) ∧ (True)))))) ∧ ((InR .i64 1) ∧ ((True) ∧ (True)))))) (lv := .norm) (T' := [(0, vs (ba [95, 97, 49])), (7, vi 3), (8, vi 1), (18, .lit (.int .u8 127)), (19, vb false), (22, vs (ba [95, 97, 49])), (23, vi 0), (24, .lit (.int .u8 95)), (25, vb true), (30, undA), (31, undA), (32, undA), (33, undA), (34, undA), (35, undA), (36, undA), (37, undA), (38, undA), (39, undA), (40, undA), (41, undA), (42, undA), (43, undA)]) (B' := []) mix hI hs ?_ ?_ ?_ ?_
  · exact ⟨trivial, ⟨trivial, trivial⟩⟩
  · kernel_rfl
  · exact ⟨⟨trivial, trivial⟩, ⟨⟨rfl, trivial⟩, ⟨⟨⟨trivial, ⟨trivial, trivial⟩⟩, ⟨⟨trivial, ⟨trivial, ⟨(by decide), ⟨trivial, ⟨trivial, trivial⟩⟩⟩⟩⟩, ⟨tr_mk (⟨rfl, ⟨trivial, ⟨rfl, ⟨trivial, ⟨rfl, ⟨trivial, ⟨rfl, ⟨trivial, ⟨rfl, ⟨trivial, ⟨rfl, ⟨(by decide), ⟨rfl, ⟨trivial, ⟨rfl, ⟨trivial, trivial⟩⟩⟩⟩⟩⟩⟩⟩⟩⟩⟩⟩⟩⟩⟩⟩) 3, ⟨tr_mk (⟨rfl, ⟨rfl, ⟨rfl, tr_mk (⟨rfl, ⟨rfl, tr_mk (⟨rfl, ⟨rfl, trivial⟩⟩) 4⟩⟩) 4⟩⟩⟩) 3, ⟨rfl, trivial⟩⟩⟩⟩⟩, ⟨(inR64 (by omega) (by omega)), ⟨trivial, trivial⟩⟩⟩⟩⟩
  intro a w hs
  refine then_norm ?_
  refine rounds_step ?_
  refine way_L (tt := tt) (rs := [(5, ⟨[], [(3, true), (4, true), (1005, true), (7, false), (8, false), (9, false), (10, false), (1011, true)], []⟩), (6, ⟨[], [(3, false), (4, false), (5, false), (10, false), (11, false), (16, false), (1017, false)], []⟩)]) (bs := [true, false]) (tk := [0, 7, 8, 18, 19, 22, 23, 24, 25, 30, 31, 32, 33, 34, 35, 36, 37, 38, 39, 40, 41, 42, 43]) (bk := []) (C := ((True) ∧ (True)) ∧ (((true = true) ∧ (True)) ∧ ((((True) ∧ ((True) ∧ (True))) ∧ (((True) ∧ ((True) ∧ (((0 : Int) ≤ 1 ∧ (1 : Int) < ((3 : Nat) : Int)) ∧ ((True) ∧ ((True) ∧ (True)))))) ∧ ((tr 3 ((true = true) ∧ ((True) ∧ ((true = true) ∧ ((True) ∧ ((true = true) ∧ ((True) ∧ ((true = true) ∧ ((true = true) ∧ ((true = true) ∧ ((true = true) ∧ ((true = true) ∧ ((True) ∧ (True)))))))))))))) ∧ ((tr 3 ((false = false) ∧ ((false = false) ∧ ((false = false) ∧ (tr 4 ((false = false) ∧ ((false = false) ∧ (tr 4 ((false = false) ∧ ((false = false) ∧ (True))))))))))) ∧ ((false = false) ∧ (True)))))) ∧ ((InR .i64 2) ∧ ((True) ∧ (True)))))) (lv := .norm) (T' := [(0, vs (ba [95, 97, 49])), (7, vi 3), (8, vi 2), (18, .lit (.int .u8 97)), (19, vb true), (22, undA), (23, undA), (24, undA), (25, undA), (30, undA), (31, undA), (32, undA), (33, undA), (34, undA), (35, undA), (36, undA), (37, undA), (38, undA), (39, undA), (40, undA), (41, undA), (42, undA), (43, undA)]) (B' := []) mix hI hs ?_ ?_ ?_ ?_
  · exact ⟨trivial, ⟨trivial, trivial⟩⟩
  · kernel_rfl
  · exact ⟨⟨trivial, trivial⟩, ⟨⟨rfl, trivial⟩, ⟨⟨⟨trivial, ⟨trivial, trivial⟩⟩, ⟨⟨trivial, ⟨trivial, ⟨(by decide), ⟨trivial, ⟨trivial, trivial⟩⟩⟩⟩⟩, ⟨tr_mk (⟨rfl, ⟨trivial, ⟨rfl, ⟨trivial, ⟨rfl, ⟨trivial, ⟨rfl, ⟨rfl, ⟨rfl, ⟨rfl, ⟨rfl, ⟨trivial, trivial⟩⟩⟩⟩⟩⟩⟩⟩⟩⟩⟩⟩) 3, ⟨tr_mk (⟨rfl, ⟨rfl, ⟨rfl, tr_mk (⟨rfl, ⟨rfl, tr_mk (⟨rfl, ⟨rfl, trivial⟩⟩) 4⟩⟩) 4⟩⟩⟩) 3, ⟨rfl, trivial⟩⟩⟩⟩⟩, ⟨(inR64 (by omega) (by omega)), ⟨trivial, trivial⟩⟩⟩⟩⟩
  intro a w hs
  refine then_norm ?_
  refine rounds_step ?_
  refine way_L (tt := tt) (rs := [(5, ⟨[], [(3, false), (4, false), (1005, false), (7, true), (8, true), (9, true), (10, true), (1011, false)], []⟩), (6, ⟨[], [(3, true), (4, true), (5, true), (6, true), (7, true), (8, true), (9, true), (10, true), (1010, false), (11, true), (12, true), (13, true), (14, true), (15, true), (16, true), (1016, false), (1017, true)], []⟩)]) (bs := [true, false]) (tk := [0, 7, 8, 18, 19, 22, 23, 24, 25, 30, 31, 32, 33, 34, 35, 36, 37, 38, 39, 40, 41, 42, 43]) (bk := []) (C := ((True) ∧ (True)) ∧ (((true = true) ∧ (True)) ∧ ((((True) ∧ ((True) ∧ (True))) ∧ (((True) ∧ ((True) ∧ (((0 : Int) ≤ 2 ∧ (2 : Int) < ((3 : Nat) : Int)) ∧ ((True) ∧ ((True) ∧ (True)))))) ∧ ((tr 3 ((false = false) ∧ ((false = false) ∧ ((false = false) ∧ ((True) ∧ ((false = false) ∧ ((True) ∧ ((false = false) ∧ ((True) ∧ ((false = false) ∧ (((0 : Int) ≤ 2 ∧ (2 : Int) < ((3 : Nat) : Int)) ∧ ((false = false) ∧ ((True) ∧ ((false = false) ∧ ((True) ∧ (True)))))))))))))))) ∧ ((tr 3 ((true = true) ∧ ((True) ∧ ((true = true) ∧ ((True) ∧ ((true = true) ∧ ((True) ∧ ((false = false) ∧ ((True) ∧ ((false = false) ∧ ((True) ∧ ((false = false) ∧ (((0 : Int) ≤ 2 ∧ (2 : Int) < ((3 : Nat) : Int)) ∧ ((false = false) ∧ ((True) ∧ ((true = true) ∧ ((false = false) ∧ ((true = true) ∧ ((True) ∧ ((false = false) ∧ ((True) ∧ ((false = false) ∧ ((True) ∧ ((false = false) ∧ (((0 : Int) ≤ 2 ∧ (2 : Int) < ((3 : Nat) : Int)) ∧ ((false = false) ∧ ((True) ∧ ((true = true) ∧ ((false = false) ∧ ((true = true) ∧ (True))))))))))))))))))))))))))))))) ∧ ((false = false) ∧ (True)))))) ∧ ((InR .i64 3) ∧ ((True) ∧ (True)))))) (lv := .norm) (T' := [(0, vs (ba [95, 97, 49])), (7, vi 3), (8, vi 3), (18, undA), (19, undA), (22, vs (ba [95, 97, 49])), (23, vi 2), (24, .lit (.int .u8 49)), (25, vb false), (30, vi 2), (31, vb false), (32, vb false), (33, vs (ba [95, 97, 49])), (34, vi 2), (35, .lit (.int .u8 49)), (36, vb false), (37, vb false), (38, vb false), (39, vs (ba [95, 97, 49])), (40, vi 2), (41, .lit (.int .u8 49)), (42, vb false), (43, vb false)]) (B' := []) mix hI hs ?_ ?_ ?_ ?_
  · exact ⟨trivial, ⟨trivial, trivial⟩⟩
  · kernel_rfl
  · exact ⟨⟨trivial, trivial⟩, ⟨⟨rfl, trivial⟩, ⟨⟨⟨trivial, ⟨trivial, trivial⟩⟩, ⟨⟨trivial, ⟨trivial, ⟨(by decide), ⟨trivial, ⟨trivial, trivial⟩⟩⟩⟩⟩, ⟨tr_mk (⟨rfl, ⟨rfl, ⟨rfl, ⟨trivial, ⟨rfl, ⟨trivial, ⟨rfl, ⟨trivial, ⟨rfl, ⟨(by decide), ⟨rfl, ⟨trivial, ⟨rfl, ⟨trivial, trivial⟩⟩⟩⟩⟩⟩⟩⟩⟩⟩⟩⟩⟩⟩) 3, ⟨tr_mk (⟨rfl, ⟨trivial, ⟨rfl, ⟨trivial, ⟨rfl, ⟨trivial, ⟨rfl, ⟨trivial, ⟨rfl, ⟨trivial, ⟨rfl, ⟨(by decide), ⟨rfl, ⟨trivial, ⟨rfl, ⟨rfl, ⟨rfl, ⟨trivial, ⟨rfl, ⟨trivial, ⟨rfl, ⟨trivial, ⟨rfl, ⟨(by decide), ⟨rfl, ⟨trivial, ⟨rfl, ⟨rfl, ⟨rfl, trivial⟩⟩⟩⟩⟩⟩⟩⟩⟩⟩⟩⟩⟩⟩⟩⟩⟩⟩⟩⟩⟩⟩⟩⟩⟩⟩⟩⟩⟩) 3, ⟨rfl, trivial⟩⟩⟩⟩⟩, ⟨(inR64 (by omega) (by omega)), ⟨trivial, trivial⟩⟩⟩⟩⟩
  intro a w hs
  refine then_norm ?_
  refine rounds_step ?_
  refine way_L (tt := tt) (rs := []) (bs := [false]) (tk := [0]) (bk := []) (C := ((True) ∧ (True)) ∧ ((false = false) ∧ (True))) (lv := .exit 0) (T' := [(0, vs (ba [95, 97, 49]))]) (B' := []) mix hI hs ?_ ?_ ?_ ?_
  · exact trivial
  · kernel_rfl
  · exact ⟨⟨trivial, trivial⟩, ⟨rfl, trivial⟩⟩
  intro a w hs
  refine then_exit ?_
  refine inb_hit ?_
  refine then_norm ?_
  refine way_L (tt := tt) (rs := [(9, ⟨[], [(3, true), (4, true), (5, true), (1006, true)], []⟩)]) (bs := []) (tk := [2]) (bk := []) (C := (tr 3 ((true = true) ∧ ((True) ∧ ((true = true) ∧ ((True) ∧ ((true = true) ∧ ((True) ∧ ((true = true) ∧ ((True) ∧ (True)))))))))) ∧ (True)) (lv := .ret) (T' := [(2, vb true)]) (B' := []) mix hI hs ?_ ?_ ?_ ?_
  · exact ⟨trivial, trivial⟩
  · kernel_rfl
  · exact ⟨tr_mk (⟨rfl, ⟨trivial, ⟨rfl, ⟨trivial, ⟨rfl, ⟨trivial, ⟨rfl, ⟨trivial, trivial⟩⟩⟩⟩⟩⟩⟩⟩) 3, trivial⟩
  intro a w hs
  exact FnQ_cast (out := .val (vb true)) (rfl) (ret_ok [] hs ⟨by kernel_rfl, rfl⟩)

set_option maxRecDepth 100000 in
theorem c37_3 : Con Tryz.prog I0 37 [vs (ba [49, 97])] (.val (vb false)) := by
  refine con_of Tryz.func37 rfl (Nat.le_of_ble_eq_true rfl) stab (fun w0 fz a hI hs => ?_)
  refine wp_seq ?_
  refine way_L (tt := tt) (rs := []) (bs := []) (tk := [0]) (bk := []) (C := (True) ∧ (True)) (lv := .norm) (T' := [(0, vs (ba [49, 97]))]) (B' := []) mix hI hs ?_ ?_ ?_ ?_
  · exact trivial
  · kernel_rfl
  · exact ⟨trivial, trivial⟩
  intro a w hs
  refine then_norm ?_
  refine wp_seq ?_
  refine wp_seq ?_
  refine way_L (tt := tt) (rs := []) (bs := []) (tk := [0, 7, 8]) (bk := []) (C := tr 3 (True)) (lv := .norm) (T' := [(0, vs (ba [49, 97])), (7, vi 2), (8, vi 0)]) (B' := []) mix hI hs ?_ ?_ ?_ ?_
  · exact trivial
  · kernel_rfl
  · exact tr_mk (trivial) 3
  intro a w hs
  refine then_norm ?_
  refine wp_block ?_
  refine wp_loop_rounds 1 ?_
  refine rounds_step ?_
  refine way_L (tt := tt) (rs := [(5, ⟨[], [(3, false), (4, false), (1005, false), (7, true), (8, true), (9, true), (10, true), (1011, false)], []⟩), (6, ⟨[], [(3, true), (4, true), (5, true), (6, false), (7, false), (8, false), (9, false), (10, true), (1010, true), (11, true), (12, false), (13, false), (14, false), (15, false), (16, true), (1016, true), (1017, true)], []⟩)]) (bs := [true, true]) (tk := [2]) (bk := []) (C := ((True) ∧ (True)) ∧ (((true = true) ∧ (True)) ∧ (((True) ∧ ((True) ∧ (True))) ∧ (((True) ∧ ((True) ∧ (((0 : Int) ≤ 0 ∧ (0 : Int) < ((2 : Nat) : Int)) ∧ ((True) ∧ ((True) ∧ (True)))))) ∧ ((tr 3 ((false = false) ∧ ((false = false) ∧ ((false = false) ∧ ((True) ∧ ((false = false) ∧ ((True) ∧ ((false = false) ∧ ((True) ∧ ((false = false) ∧ (((0 : Int) ≤ 0 ∧ (0 : Int) < ((2 : Nat) : Int)) ∧ ((false = false) ∧ ((True) ∧ ((false = false) ∧ ((True) ∧ (True)))))))))))))))) ∧ ((tr 3 ((true = true) ∧ ((True) ∧ ((true = true) ∧ ((True) ∧ ((true = true) ∧ ((True) ∧ ((true = true) ∧ ((true = true) ∧ ((true = true) ∧ ((true = true) ∧ ((true = true) ∧ ((true = true) ∧ ((true = true) ∧ ((True) ∧ ((true = true) ∧ ((true = true) ∧ ((true = true) ∧ ((true = true) ∧ ((true = true) ∧ ((true = true) ∧ ((true = true) ∧ (True))))))))))))))))))))))) ∧ ((true = true) ∧ (((True) ∧ (True)) ∧ (True))))))))) (lv := .ret) (T' := [(2, vb false)]) (B' := []) mix hI hs ?_ ?_ ?_ ?_
  · exact ⟨trivial, ⟨trivial, trivial⟩⟩
  · kernel_rfl
  · exact ⟨⟨trivial, trivial⟩, ⟨⟨rfl, trivial⟩, ⟨⟨trivial, ⟨trivial, trivial⟩⟩, ⟨⟨trivial, ⟨trivial, ⟨(by decide), ⟨trivial, ⟨trivial, trivial⟩⟩⟩⟩⟩, ⟨tr_mk (⟨rfl, ⟨rfl, ⟨rfl, ⟨trivial, ⟨rfl, ⟨trivial, ⟨rfl, ⟨trivial, ⟨rfl, ⟨(by decide), ⟨rfl, ⟨trivial, ⟨rfl, ⟨trivial, trivial⟩⟩⟩⟩⟩⟩⟩⟩⟩⟩⟩⟩⟩⟩) 3, ⟨tr_mk (⟨rfl, ⟨trivial, ⟨rfl, ⟨trivial, ⟨rfl, ⟨trivial, ⟨rfl, ⟨rfl, ⟨rfl, ⟨rfl, ⟨rfl, ⟨rfl, ⟨rfl, ⟨trivial, ⟨rfl, ⟨rfl, ⟨rfl, ⟨rfl, ⟨rfl, ⟨rfl, ⟨rfl, trivial⟩⟩⟩⟩⟩⟩⟩⟩⟩⟩⟩⟩⟩⟩⟩⟩⟩⟩⟩⟩⟩) 3, ⟨rfl, ⟨⟨trivial, trivial⟩, trivial⟩⟩⟩⟩⟩⟩⟩⟩
  intro a w hs
  refine then_ret ?_
  refine inb_ret ?_
  refine then_ret ?_
  exact FnQ_cast (out := .val (vb false)) (rfl) (ret_ok [] hs ⟨by kernel_rfl, rfl⟩)

set_option maxRecDepth 100000 in
theorem c23_0 : Con Tryz.prog I0 23 [] (.val (vb true)) := by
  refine con_of Tryz.func23 rfl (Nat.le_of_ble_eq_true rfl) stab (fun w0 fz a hI hs => ?_)
  refine way_L (tt := tt) (rs := [(2, ⟨[(7, ciA 26 [.agg [vi 7, vb false, vb false, nilv, vi 0, vs (ba []), .row .str ([(ba [97])]), .row .tree ([(Tree.mk 7 false ⟨false, [], 0⟩ (ba []) ([(ba [98]), (ba [99])]) ([(Tree.mk 2 false ⟨false, [], 0⟩ (ba []) ([]) ([])), (Tree.mk 1 false ⟨false, [], 0⟩ (ba []) ([]) ([]))]))])], .row .strs ([[(ba [97]), (ba [98])]]), .agg [vi 7, vb false, vb false, nilv, vi 0, vs (ba []), nilv, nilv], vi 100] [] [3000, 3002, 3005] (.val (.tup [.agg [vi 7, vb false, vb false, nilv, vi 0, vs (ba []), .row .str ([(ba [97])]), .row .tree ([(Tree.mk 7 false ⟨false, [], 0⟩ (ba []) ([(ba [99])]) ([(Tree.mk 1 false ⟨false, [], 0⟩ (ba []) ([]) ([]))]))])], vi 0])))], [], []⟩), (3, ⟨[(28, ciA 37 [vs (ba [95, 97, 49])] [] [] (.val (vb true))), (31, ciA 37 [vs (ba [49, 97])] [] [] (.val (vb false)))], [(3, true), (4, true), (5, true), (6, true), (1007, true), (9, true), (10, true), (11, true), (12, true), (13, true), (14, true), (15, true), (1016, true), (18, true), (19, true), (20, true), (21, true), (22, true), (23, true), (24, true), (25, true), (1026, true), (28, true), (1029, true), (31, true), (32, true), (1033, true)], []⟩)]) (bs := []) (tk := [0]) (bk := []) (C := ((True) ∧ (True)) ∧ ((tr 7 (True)) ∧ ((tr 7 ((okArgs [.agg [vi 7, vb false, vb false, nilv, vi 0, vs (ba []), .row .str ([(ba [97])]), .row .tree ([(Tree.mk 7 false ⟨false, [], 0⟩ (ba []) ([(ba [98]), (ba [99])]) ([(Tree.mk 2 false ⟨false, [], 0⟩ (ba []) ([]) ([])), (Tree.mk 1 false ⟨false, [], 0⟩ (ba []) ([]) ([]))]))])], .row .strs ([[(ba [97]), (ba [98])]]), .agg [vi 7, vb false, vb false, nilv, vi 0, vs (ba []), nilv, nilv], vi 100]) ∧ (tr 6 (True)))) ∧ ((tr 3 ((true = true) ∧ ((True) ∧ ((true = true) ∧ ((True) ∧ ((true = true) ∧ ((True) ∧ ((true = true) ∧ ((True) ∧ ((true = true) ∧ ((True) ∧ ((true = true) ∧ ((True) ∧ ((true = true) ∧ ((True) ∧ ((true = true) ∧ (((0 : Int) ≤ 0 ∧ (0 : Int) < ((1 : Nat) : Int)) ∧ ((true = true) ∧ ((True) ∧ ((true = true) ∧ ((True) ∧ ((true = true) ∧ ((True) ∧ ((true = true) ∧ ((True) ∧ ((true = true) ∧ ((True) ∧ ((true = true) ∧ ((True) ∧ ((true = true) ∧ ((True) ∧ ((true = true) ∧ (((0 : Int) ≤ 0 ∧ (0 : Int) < ((1 : Nat) : Int)) ∧ ((true = true) ∧ ((True) ∧ ((true = true) ∧ ((True) ∧ ((true = true) ∧ (((0 : Int) ≤ 0 ∧ (0 : Int) < ((1 : Nat) : Int)) ∧ ((true = true) ∧ ((True) ∧ ((true = true) ∧ ((True) ∧ ((true = true) ∧ ((True) ∧ ((true = true) ∧ ((okArgs [vs (ba [95, 97, 49])]) ∧ ((true = true) ∧ ((True) ∧ ((true = true) ∧ ((okArgs [vs (ba [49, 97])]) ∧ ((true = true) ∧ ((True) ∧ ((true = true) ∧ ((True) ∧ (True)))))))))))))))))))))))))))))))))))))))))))))))))))))))) ∧ (True))))) (lv := .ret) (T' := [(0, vb true)]) (B' := []) mix hI hs ?_ ?_ ?_ ?_
  · exact ⟨⟨⟨ent26, c26_0⟩, trivial⟩, ⟨⟨⟨ent37, c37_2⟩, ⟨⟨ent37, c37_3⟩, trivial⟩⟩, trivial⟩⟩
  · kernel_rfl
  · exact ⟨⟨trivial, trivial⟩, ⟨tr_mk (trivial) 7, ⟨tr_mk (⟨rfl, tr_mk (trivial) 6⟩) 7, ⟨tr_mk (⟨rfl, ⟨trivial, ⟨rfl, ⟨trivial, ⟨rfl, ⟨trivial, ⟨rfl, ⟨trivial, ⟨rfl, ⟨trivial, ⟨rfl, ⟨trivial, ⟨rfl, ⟨trivial, ⟨rfl, ⟨(by decide), ⟨rfl, ⟨trivial, ⟨rfl, ⟨trivial, ⟨rfl, ⟨trivial, ⟨rfl, ⟨trivial, ⟨rfl, ⟨trivial, ⟨rfl, ⟨trivial, ⟨rfl, ⟨trivial, ⟨rfl, ⟨(by decide), ⟨rfl, ⟨trivial, ⟨rfl, ⟨trivial, ⟨rfl, ⟨(by decide), ⟨rfl, ⟨trivial, ⟨rfl, ⟨trivial, ⟨rfl, ⟨trivial, ⟨rfl, ⟨rfl, ⟨rfl, ⟨trivial, ⟨rfl, ⟨rfl, ⟨rfl, ⟨trivial, ⟨rfl, ⟨trivial, trivial⟩⟩⟩⟩⟩⟩⟩⟩⟩⟩⟩⟩⟩⟩⟩⟩⟩⟩⟩⟩⟩⟩⟩⟩⟩⟩⟩⟩⟩⟩⟩⟩⟩⟩⟩⟩⟩⟩⟩⟩⟩⟩⟩⟩⟩⟩⟩⟩⟩⟩⟩⟩⟩⟩) 3, trivial⟩⟩⟩⟩
  intro a w hs
  exact FnQ_cast (out := .val (vb true)) (rfl) (ret_ok [] hs ⟨by kernel_rfl, rfl⟩)

set_option maxRecDepth 100000 in
theorem c199_0 : Con Tryz.prog I0 199 [.agg [vb false, nilv, vi 0]] (.val (vb true)) := by
  refine con_of Tryz.func199 rfl (Nat.le_of_ble_eq_true rfl) stab (fun w0 fz a hI hs => ?_)
  refine way_L (tt := tt) (rs := [(1, ⟨[], [(4, true), (5, true), (6, true), (7, true), (1008, true), (10, true), (11, true), (12, true), (1013, true)], []⟩)]) (bs := []) (tk := [2]) (bk := []) (C := ((True) ∧ ((True) ∧ (True))) ∧ ((tr 4 ((true = true) ∧ ((True) ∧ ((true = true) ∧ ((True) ∧ ((true = true) ∧ ((True) ∧ ((true = true) ∧ ((True) ∧ ((true = true) ∧ ((True) ∧ ((true = true) ∧ ((True) ∧ ((true = true) ∧ ((True) ∧ ((true = true) ∧ ((True) ∧ ((true = true) ∧ ((True) ∧ (True)))))))))))))))))))) ∧ (True))) (lv := .ret) (T' := [(2, vb true)]) (B' := []) mix hI hs ?_ ?_ ?_ ?_
  · exact ⟨trivial, trivial⟩
  · kernel_rfl
  · exact ⟨⟨trivial, ⟨trivial, trivial⟩⟩, ⟨tr_mk (⟨rfl, ⟨trivial, ⟨rfl, ⟨trivial, ⟨rfl, ⟨trivial, ⟨rfl, ⟨trivial, ⟨rfl, ⟨trivial, ⟨rfl, ⟨trivial, ⟨rfl, ⟨trivial, ⟨rfl, ⟨trivial, ⟨rfl, ⟨trivial, trivial⟩⟩⟩⟩⟩⟩⟩⟩⟩⟩⟩⟩⟩⟩⟩⟩⟩⟩) 4, trivial⟩⟩
  intro a w hs
  exact FnQ_cast (out := .val (vb true)) (rfl) (ret_ok [] hs ⟨by kernel_rfl, rfl⟩)

set_option maxRecDepth 100000 in
theorem c150_0 : Con Tryz.prog I0 150 [.agg [vi 1, vb false, vb false, nilv, vi 0, vs (ba []), nilv, nilv]] (.val (vb true)) := by
  refine con_of Tryz.func150 rfl (Nat.le_of_ble_eq_true rfl) stab (fun w0 fz a hI hs => ?_)
  refine way_L (tt := tt) (rs := [(1, ⟨[(14, ciA 199 [.agg [vb false, nilv, vi 0]] [] [] (.val (vb true)))], [(4, true), (5, true), (1006, true), (8, true), (9, true), (10, true), (11, true), (12, true), (13, true), (14, true), (15, true), (16, true), (1016, true), (1017, false), (19, true), (20, true), (21, true), (22, true), (23, true), (24, true), (25, true), (26, true), (1026, true), (27, true), (28, true), (29, true), (30, true), (31, true), (1031, true), (1032, false), (34, true), (35, true), (36, true), (37, true), (38, true), (39, true), (40, true), (41, true), (42, true), (1042, true), (1043, false), (45, true), (46, true), (47, true), (48, true), (49, true), (50, true), (51, true), (52, true), (1052, true), (53, true), (54, true), (55, true), (56, true), (57, true), (58, true), (1058, true), (1059, false)], []⟩)]) (bs := [false, true, true]) (tk := [2]) (bk := []) (C := ((True) ∧ ((True) ∧ (True))) ∧ (((tr 4 ((true = true) ∧ ((True) ∧ ((true = true) ∧ ((True) ∧ ((true = true) ∧ ((True) ∧ ((false = false) ∧ ((True) ∧ ((false = false) ∧ ((True) ∧ ((false = false) ∧ ((True) ∧ ((false = false) ∧ ((True) ∧ ((true = true) ∧ ((True) ∧ ((true = true) ∧ ((True) ∧ ((true = true) ∧ ((okArgs [.agg [vb false, nilv, vi 0]]) ∧ ((true = true) ∧ ((True) ∧ ((false = false) ∧ ((true = true) ∧ ((false = false) ∧ ((True) ∧ ((false = false) ∧ ((True) ∧ ((false = false) ∧ ((True) ∧ ((false = false) ∧ ((True) ∧ ((false = false) ∧ ((True) ∧ ((true = true) ∧ ((True) ∧ ((true = true) ∧ ((True) ∧ ((true = true) ∧ ((True) ∧ ((false = false) ∧ ((true = true) ∧ ((false = false) ∧ ((True) ∧ ((true = true) ∧ ((True) ∧ ((true = true) ∧ ((True) ∧ ((true = true) ∧ ((True) ∧ ((false = false) ∧ ((true = true) ∧ ((false = false) ∧ ((True) ∧ ((false = false) ∧ ((True) ∧ ((false = false) ∧ ((True) ∧ ((false = false) ∧ ((True) ∧ ((false = false) ∧ ((True) ∧ ((true = true) ∧ ((True) ∧ ((true = true) ∧ ((True) ∧ ((true = true) ∧ ((True) ∧ ((true = true) ∧ ((True) ∧ ((false = false) ∧ ((true = true) ∧ ((false = false) ∧ ((True) ∧ ((false = false) ∧ ((True) ∧ ((false = false) ∧ ((True) ∧ ((false = false) ∧ ((True) ∧ ((false = false) ∧ ((True) ∧ ((true = true) ∧ ((True) ∧ ((true = true) ∧ ((True) ∧ ((true = true) ∧ ((True) ∧ ((false = false) ∧ ((true = true) ∧ ((false = false) ∧ ((True) ∧ ((true = true) ∧ ((True) ∧ ((true = true) ∧ ((True) ∧ ((true = true) ∧ ((True) ∧ ((true = true) ∧ ((True) ∧ ((false = false) ∧ ((true = true) ∧ ((false = false) ∧ (True))))))))))))))))))))))))))))))))))))))))))))))))))))))))))))))))))))))))))))))))))))))))))))))))))))))))) ∧ ((false = false) ∧ (True))) ∧ (((True) ∧ ((True) ∧ (True))) ∧ ((((True) ∧ ((True) ∧ (True))) ∧ ((true = true) ∧ (True))) ∧ ((true = true) ∧ (((True) ∧ (True)) ∧ (True))))))) (lv := .ret) (T' := [(2, vb true)]) (B' := []) mix hI hs ?_ ?_ ?_ ?_
  · exact ⟨⟨⟨ent199, c199_0⟩, trivial⟩, trivial⟩
  · kernel_rfl
  · exact ⟨⟨trivial, ⟨trivial, trivial⟩⟩, ⟨⟨tr_mk (⟨rfl, ⟨trivial, ⟨rfl, ⟨trivial, ⟨rfl, ⟨trivial, ⟨rfl, ⟨trivial, ⟨rfl, ⟨trivial, ⟨rfl, ⟨trivial, ⟨rfl, ⟨trivial, ⟨rfl, ⟨trivial, ⟨rfl, ⟨trivial, ⟨rfl, ⟨rfl, ⟨rfl, ⟨trivial, ⟨rfl, ⟨rfl, ⟨rfl, ⟨trivial, ⟨rfl, ⟨trivial, ⟨rfl, ⟨trivial, ⟨rfl, ⟨trivial, ⟨rfl, ⟨trivial, ⟨rfl, ⟨trivial, ⟨rfl, ⟨trivial, ⟨rfl, ⟨trivial, ⟨rfl, ⟨rfl, ⟨rfl, ⟨trivial, ⟨rfl, ⟨trivial, ⟨rfl, ⟨trivial, ⟨rfl, ⟨trivial, ⟨rfl, ⟨rfl, ⟨rfl, ⟨trivial, ⟨rfl, ⟨trivial, ⟨rfl, ⟨trivial, ⟨rfl, ⟨trivial, ⟨rfl, ⟨trivial, ⟨rfl, ⟨trivial, ⟨rfl, ⟨trivial, ⟨rfl, ⟨trivial, ⟨rfl, ⟨trivial, ⟨rfl, ⟨rfl, ⟨rfl, ⟨trivial, ⟨rfl, ⟨trivial, ⟨rfl, ⟨trivial, ⟨rfl, ⟨trivial, ⟨rfl, ⟨trivial, ⟨rfl, ⟨trivial, ⟨rfl, ⟨trivial, ⟨rfl, ⟨trivial, ⟨rfl, ⟨rfl, ⟨rfl, ⟨trivial, ⟨rfl, ⟨trivial, ⟨rfl, ⟨trivial, ⟨rfl, ⟨trivial, ⟨rfl, ⟨trivial, ⟨rfl, ⟨rfl, ⟨rfl, trivial⟩⟩⟩⟩⟩⟩⟩⟩⟩⟩⟩⟩⟩⟩⟩⟩⟩⟩⟩⟩⟩⟩⟩⟩⟩⟩⟩⟩⟩⟩⟩⟩⟩⟩⟩⟩⟩⟩⟩⟩⟩⟩⟩⟩⟩⟩⟩⟩⟩⟩⟩⟩⟩⟩⟩⟩⟩⟩⟩⟩⟩⟩⟩⟩⟩⟩⟩⟩⟩⟩⟩⟩⟩⟩⟩⟩⟩⟩⟩⟩⟩⟩⟩⟩⟩⟩⟩⟩⟩⟩⟩⟩⟩⟩⟩⟩⟩⟩⟩⟩⟩⟩⟩) 4, ⟨rfl, trivial⟩⟩, ⟨⟨trivial, ⟨trivial, trivial⟩⟩, ⟨⟨⟨trivial, ⟨trivial, trivial⟩⟩, ⟨rfl, trivial⟩⟩, ⟨rfl, ⟨⟨trivial, trivial⟩, trivial⟩⟩⟩⟩⟩⟩
  intro a w hs
  exact FnQ_cast (out := .val (vb true)) (rfl) (ret_ok [] hs ⟨by kernel_rfl, rfl⟩)

set_option maxRecDepth 100000 in
theorem c95_0 : Con Tryz.prog I0 95 [.agg [vi 1, vb false, vb false, nilv, vi 0, vs (ba []), nilv, nilv], vi 1, vi 0] (.val (vi 1)) := by
  refine con_of Tryz.func95 rfl (Nat.le_of_ble_eq_true rfl) stab (fun w0 fz a hI hs => ?_)
  refine wp_seq ?_
  refine way_L (tt := tt) (rs := []) (bs := []) (tk := [1, 2, 3]) (bk := [1000]) (C := (True) ∧ ((True) ∧ (True))) (lv := .norm) (T' := [(1, vi 1), (2, vi 0), (3, .ptr 1000 0)]) (B' := [(1000, .var [vi 1, vb false, vb false, nilv, vi 0, vs (ba []), nilv, nilv])]) mix hI hs ?_ ?_ ?_ ?_
  · exact trivial
  · kernel_rfl
  · exact ⟨trivial, ⟨trivial, trivial⟩⟩
  intro a w hs
  refine then_norm ?_
  refine wp_seq ?_
  refine way_L (tt := tt) (rs := []) (bs := []) (tk := [1, 2, 3]) (bk := [1000]) (C := (True) ∧ ((InR .i64 1) ∧ ((True) ∧ (True)))) (lv := .norm) (T' := [(1, vi 1), (2, vi 1), (3, .ptr 1000 0)]) (B' := [(1000, .var [vi 1, vb false, vb false, nilv, vi 0, vs (ba []), nilv, nilv])]) mix hI hs ?_ ?_ ?_ ?_
  · exact trivial
  · kernel_rfl
  · exact ⟨trivial, ⟨(inR64 (by omega) (by omega)), ⟨trivial, trivial⟩⟩⟩
  intro a w hs
  refine then_norm ?_
  refine wp_seq ?_
  refine way_L (tt := tt) (rs := [(2, ⟨[(8, ciA 150 [.agg [vi 1, vb false, vb false, nilv, vi 0, vs (ba []), nilv, nilv]] [] [] (.val (vb true)))], [(3, true), (4, true), (1005, false), (7, true), (8, true), (9, true), (1010, false)], []⟩)]) (bs := [false]) (tk := [1, 2, 3]) (bk := [1000]) (C := (tr 3 ((false = false) ∧ ((True) ∧ ((false = false) ∧ ((True) ∧ ((false = false) ∧ ((True) ∧ ((false = false) ∧ ((True) ∧ ((false = false) ∧ ((okArgs [.agg [vi 1, vb false, vb false, nilv, vi 0, vs (ba []), nilv, nilv]]) ∧ ((false = false) ∧ ((True) ∧ ((false = false) ∧ (True))))))))))))))) ∧ ((false = false) ∧ (True))) (lv := .norm) (T' := [(1, vi 1), (2, vi 1), (3, .ptr 1000 0)]) (B' := [(1000, .var [vi 1, vb false, vb false, nilv, vi 0, vs (ba []), nilv, nilv])]) mix hI hs ?_ ?_ ?_ ?_
  · exact ⟨⟨⟨ent150, c150_0⟩, trivial⟩, trivial⟩
  · kernel_rfl
  · exact ⟨tr_mk (⟨rfl, ⟨trivial, ⟨rfl, ⟨trivial, ⟨rfl, ⟨trivial, ⟨rfl, ⟨trivial, ⟨rfl, ⟨rfl, ⟨rfl, ⟨trivial, ⟨rfl, trivial⟩⟩⟩⟩⟩⟩⟩⟩⟩⟩⟩⟩⟩) 3, ⟨rfl, trivial⟩⟩
  intro a w hs
  refine then_norm ?_
  refine wp_seq ?_
  refine wp_seq ?_
  refine way_L (tt := tt) (rs := []) (bs := []) (tk := [1, 2, 3, 7]) (bk := [1000]) (C := (True) ∧ (True)) (lv := .norm) (T' := [(1, vi 1), (2, vi 1), (3, .ptr 1000 0), (7, vi 0)]) (B' := [(1000, .var [vi 1, vb false, vb false, nilv, vi 0, vs (ba []), nilv, nilv])]) mix hI hs ?_ ?_ ?_ ?_
  · exact trivial
  · kernel_rfl
  · exact ⟨trivial, trivial⟩
  intro a w hs
  refine then_norm ?_
  refine wp_block ?_
  refine wp_loop_rounds 1 ?_
  refine rounds_step ?_
  refine way_L (tt := tt) (rs := [(5, ⟨[], [(6, false), (7, false), (1008, false)], []⟩)]) (bs := [false]) (tk := [2]) (bk := []) (C := (tr 6 ((false = false) ∧ ((false = false) ∧ ((false = false) ∧ (True))))) ∧ ((false = false) ∧ (True))) (lv := .exit 0) (T' := [(2, vi 1)]) (B' := []) mix hI hs ?_ ?_ ?_ ?_
  · exact ⟨trivial, trivial⟩
  · kernel_rfl
  · exact ⟨tr_mk (⟨rfl, ⟨rfl, ⟨rfl, trivial⟩⟩⟩) 6, ⟨rfl, trivial⟩⟩
  intro a w hs
  refine then_exit ?_
  refine inb_hit ?_
  refine then_norm ?_
  refine way_L (tt := tt) (rs := []) (bs := []) (tk := [6]) (bk := []) (C := ((True) ∧ ((True) ∧ (True))) ∧ (True)) (lv := .ret) (T' := [(6, vi 1)]) (B' := []) mix hI hs ?_ ?_ ?_ ?_
  · exact trivial
  · kernel_rfl
  · exact ⟨⟨trivial, ⟨trivial, trivial⟩⟩, trivial⟩
  intro a w hs
  exact FnQ_cast (out := .val (vi 1)) (rfl) (ret_ok [] hs ⟨by kernel_rfl, rfl⟩)

set_option maxRecDepth 100000 in
theorem c44_0 : Con Tryz.prog I0 44 [.agg [vi 1, vb false, vb false, nilv, vi 0, vs (ba []), nilv, nilv]] (.val (vb true)) := by
  refine con_of Tryz.func44 rfl (Nat.le_of_ble_eq_true rfl) stab (fun w0 fz a hI hs => ?_)
  refine way_L (tt := tt) (rs := [(1, ⟨[(1, ciA 95 [.agg [vi 1, vb false, vb false, nilv, vi 0, vs (ba []), nilv, nilv], vi 1, vi 0] [] [] (.val (vi 1)))], [], []⟩)]) (bs := []) (tk := [2]) (bk := []) (C := ((True) ∧ ((True) ∧ (True))) ∧ (((True) ∧ ((okArgs [.agg [vi 1, vb false, vb false, nilv, vi 0, vs (ba []), nilv, nilv], vi 1, vi 0]) ∧ ((True) ∧ ((True) ∧ (True))))) ∧ (True))) (lv := .ret) (T' := [(2, vb true)]) (B' := []) mix hI hs ?_ ?_ ?_ ?_
  · exact ⟨⟨⟨ent95, c95_0⟩, trivial⟩, trivial⟩
  · kernel_rfl
  · exact ⟨⟨trivial, ⟨trivial, trivial⟩⟩, ⟨⟨trivial, ⟨rfl, ⟨trivial, ⟨trivial, trivial⟩⟩⟩⟩, trivial⟩⟩
  intro a w hs
  exact FnQ_cast (out := .val (vb true)) (rfl) (ret_ok [] hs ⟨by kernel_rfl, rfl⟩)

end Go.Proofs.YtondpnipoogoiaaGreatDoor.F
