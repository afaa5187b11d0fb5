import Derived.Test.YtondpnipoogoiaaGreatDoorO5
import Derived.Sort.Walk0
import Derived.Shelf.SlSortCmp.NoneTotal
import Derived.Shelf.SlGeneric
import Derived.Ground.SlsfProg
import Derived.Test.YtondpnipoogoiaaGreatDoorProg
import Derived.Lib.Walk
import Derived.WalkKit
import Derived.Laws.Cover1
import Derived.Sort.LotA
import Derived.Test.YtondpnipoogoiaaGreatDoorO4
namespace Go.Proofs.YtondpnipoogoiaaGreatDoor.F
open Go Go.RowKit Go.Proofs.Tryz
set_option linter.unusedVariables false
set_option linter.unusedSimpArgs false
set_option maxRecDepth 100000 in
theorem con_grow_str (n : Int) (h0 : 0 ≤ n) (hn : n < 1000000000) : Con Tryz.prog I0 228 [nilv, vi n] (.own 9 .str ([])) := by
 refine con_of Tryz.func228 rfl (Nat.le_of_ble_eq_true rfl) stab (fun w0 fz a hI hs => ?_)
 have b1 : (decide (n < 0)) = false := by exact decide_eq_false (by omega)
 rcases Bool.eq_false_or_eq_true (decide ((n - 0) > 0)) with b2 | b2
 ·skip
  have n2 := of_decide_eq_true b2
  refine way_L (tt := tt) (rs := []) (bs := [false, true]) (tk := [4]) (bk := [6008]) (C := (True ∧ True) ∧ ((True ∧ True ∧ True) ∧ ((decide (n < 0)) = false) ∧ True) ∧ ((tr 5 ((InR .i64 0) ∧ (InR .i64 (n - 0)) ∧ True ∧ True)) ∧ (True ∧ True ∧ True) ∧ ((decide ((n - 0) > 0)) = true) ∧ (tr 5 ((0 ≤ (n - 0) ∧ (((n - 0).toNat) * 16 : Nat) ≤ 140737488355328) ∧ True ∧ True ∧ (0 ≤ (0 : Int) ∧ (0 : Int) ≤ (List.replicate (n - 0).toNat (dflt .str)).length) ∧ True ∧ True))) ∧ (True ∧ True ∧ True) ∧ True) (lv := .ret) (T' := [(4, .own 6008)]) (B' := [(6008, .sl 9 .str ((List.replicate (n - 0).toNat (dflt .str)).take 0))]) mix hI hs ?_ ?_ ?_ ?_
  ·exact trivial
  ·kernel_rfl
  ·exact ⟨⟨trivial, trivial⟩, ⟨⟨trivial, trivial, trivial⟩, b1, trivial⟩, ⟨tr_mk (⟨(inR64 (by omega) (by omega)), (inR64 (by omega) (by omega)), trivial, trivial⟩) 5, ⟨trivial, trivial, trivial⟩, b2, tr_mk (⟨(by omega), trivial, trivial, ⟨by omega, by omega⟩, trivial, trivial⟩) 5⟩, ⟨trivial, trivial, trivial⟩, trivial⟩
  intro a w hs
  exact FnQ_cast (out := .own 9 .str ((List.replicate (n - 0).toNat (dflt .str)).take 0)) (by rw [List.take_zero]) (ret_ok [] hs (.inl ⟨6008, by kernel_rfl, rfl⟩))
 ·skip
  have n2 := of_decide_eq_false b2
  refine way_L (tt := tt) (rs := []) (bs := [false, false]) (tk := [4]) (bk := []) (C := (True ∧ True) ∧ ((True ∧ True ∧ True) ∧ ((decide (n < 0)) = false) ∧ True) ∧ ((tr 5 ((InR .i64 0) ∧ (InR .i64 (n - 0)) ∧ True ∧ True)) ∧ (True ∧ True ∧ True) ∧ ((decide ((n - 0) > 0)) = false) ∧ True) ∧ (True ∧ True ∧ True) ∧ True) (lv := .ret) (T' := [(4, nilv)]) (B' := []) mix hI hs ?_ ?_ ?_ ?_
  ·exact trivial
  ·kernel_rfl
  ·exact ⟨⟨trivial, trivial⟩, ⟨⟨trivial, trivial, trivial⟩, b1, trivial⟩, ⟨tr_mk (⟨(inR64 (by omega) (by omega)), (inR64 (by omega) (by omega)), trivial, trivial⟩) 5, ⟨trivial, trivial, trivial⟩, b2, trivial⟩, ⟨trivial, trivial, trivial⟩, trivial⟩
  intro a w hs
  exact FnQ_cast (out := .own 9 .str ([])) (rfl) (ret_ok [] hs (.inr ⟨by kernel_rfl, rfl⟩))
set_option maxRecDepth 100000 in
theorem con_grow_tree (n : Int) (h0 : 0 ≤ n) (hn : n < 1000000000) : Con Tryz.prog I0 229 [nilv, vi n] (.own 29 .tree ([])) := by
 refine con_of Tryz.func229 rfl (Nat.le_of_ble_eq_true rfl) stab (fun w0 fz a hI hs => ?_)
 have b1 : (decide (n < 0)) = false := by exact decide_eq_false (by omega)
 rcases Bool.eq_false_or_eq_true (decide ((n - 0) > 0)) with b2 | b2
 ·skip
  have n2 := of_decide_eq_true b2
  refine way_L (tt := tt) (rs := []) (bs := [false, true]) (tk := [4]) (bk := [6008]) (C := (True ∧ True) ∧ ((True ∧ True ∧ True) ∧ ((decide (n < 0)) = false) ∧ True) ∧ ((tr 5 ((InR .i64 0) ∧ (InR .i64 (n - 0)) ∧ True ∧ True)) ∧ (True ∧ True ∧ True) ∧ ((decide ((n - 0) > 0)) = true) ∧ (tr 5 ((0 ≤ (n - 0) ∧ (((n - 0).toNat) * 120 : Nat) ≤ 140737488355328) ∧ True ∧ True ∧ (0 ≤ (0 : Int) ∧ (0 : Int) ≤ (List.replicate (n - 0).toNat (dflt .tree)).length) ∧ True ∧ True))) ∧ (True ∧ True ∧ True) ∧ True) (lv := .ret) (T' := [(4, .own 6008)]) (B' := [(6008, .sl 29 .tree ((List.replicate (n - 0).toNat (dflt .tree)).take 0))]) mix hI hs ?_ ?_ ?_ ?_
  ·exact trivial
  ·kernel_rfl
  ·exact ⟨⟨trivial, trivial⟩, ⟨⟨trivial, trivial, trivial⟩, b1, trivial⟩, ⟨tr_mk (⟨(inR64 (by omega) (by omega)), (inR64 (by omega) (by omega)), trivial, trivial⟩) 5, ⟨trivial, trivial, trivial⟩, b2, tr_mk (⟨(by omega), trivial, trivial, ⟨by omega, by omega⟩, trivial, trivial⟩) 5⟩, ⟨trivial, trivial, trivial⟩, trivial⟩
  intro a w hs
  exact FnQ_cast (out := .own 29 .tree ((List.replicate (n - 0).toNat (dflt .tree)).take 0)) (by rw [List.take_zero]) (ret_ok [] hs (.inl ⟨6008, by kernel_rfl, rfl⟩))
 ·skip
  have n2 := of_decide_eq_false b2
  refine way_L (tt := tt) (rs := []) (bs := [false, false]) (tk := [4]) (bk := []) (C := (True ∧ True) ∧ ((True ∧ True ∧ True) ∧ ((decide (n < 0)) = false) ∧ True) ∧ ((tr 5 ((InR .i64 0) ∧ (InR .i64 (n - 0)) ∧ True ∧ True)) ∧ (True ∧ True ∧ True) ∧ ((decide ((n - 0) > 0)) = false) ∧ True) ∧ (True ∧ True ∧ True) ∧ True) (lv := .ret) (T' := [(4, nilv)]) (B' := []) mix hI hs ?_ ?_ ?_ ?_
  ·exact trivial
  ·kernel_rfl
  ·exact ⟨⟨trivial, trivial⟩, ⟨⟨trivial, trivial, trivial⟩, b1, trivial⟩, ⟨tr_mk (⟨(inR64 (by omega) (by omega)), (inR64 (by omega) (by omega)), trivial, trivial⟩) 5, ⟨trivial, trivial, trivial⟩, b2, trivial⟩, ⟨trivial, trivial, trivial⟩, trivial⟩
  intro a w hs
  exact FnQ_cast (out := .own 29 .tree ([])) (rfl) (ret_ok [] hs (.inr ⟨by kernel_rfl, rfl⟩))
set_option maxRecDepth 100000 in
theorem con_cat_str (xs ys : List (El .str)) (h : xs.length + ys.length < 1000000000) : Con Tryz.prog I0 191 [.row .strs ([xs, ys])] (.own 9 .str (xs ++ ys)) := by
 refine con_of Tryz.func191 rfl (Nat.le_of_ble_eq_true rfl) stab (fun w0 fz a hI hs => ?_)
 refine wp_seq ?_
 refine way_L (tt := tt) (rs := []) (bs := []) (tk := [0]) (bk := []) (C := True ∧ True) (lv := .norm) (T' := [(0, .row .strs ([xs, ys]))]) (B' := []) mix hI hs ?_ ?_ ?_ ?_
 ·exact trivial
 ·kernel_rfl
 ·exact ⟨trivial, trivial⟩
 intro a w hs
 refine then_norm ?_
 refine wp_seq ?_
 refine way_L (tt := tt) (rs := []) (bs := []) (tk := [0, 3]) (bk := []) (C := True ∧ True) (lv := .norm) (T' := [(0, .row .strs ([xs, ys])), (3, vi 0)]) (B' := []) mix hI hs ?_ ?_ ?_ ?_
 ·exact trivial
 ·kernel_rfl
 ·exact ⟨trivial, trivial⟩
 intro a w hs
 refine then_norm ?_
 refine wp_seq ?_
 refine wp_seq ?_
 refine way_L (tt := tt) (rs := []) (bs := []) (tk := [0, 3, 9, 10, 11]) (bk := []) (C := tr 3 True) (lv := .norm) (T' := [(0, .row .strs ([xs, ys])), (3, vi 0), (9, .row .strs ([xs, ys])), (10, vi 2), (11, vi 0)]) (B' := []) mix hI hs ?_ ?_ ?_ ?_
 ·exact trivial
 ·kernel_rfl
 ·exact tr_mk trivial 3
 intro a w hs
 refine then_norm ?_
 refine wp_block ?_
 refine wp_loop_rounds 3 ?_
 refine rounds_step ?_
 have b1 : (decide ((0 + (xs.length : Int)) < 0)) = false := by exact decide_eq_false (by omega)
 refine way_L (tt := tt) (rs := []) (bs := [true, false]) (tk := [0, 3, 9, 10, 11]) (bk := []) (C := (True ∧ True) ∧ ((true = true) ∧ True) ∧ ((((0 : Int) ≤ 0 ∧ (0 : Int) < ((2 : Nat) : Int)) ∧ True ∧ True ∧ True) ∧ (tr 3 ((InR .i64 (0 + (xs.length : Int))) ∧ True ∧ True)) ∧ (True ∧ True ∧ True) ∧ ((decide ((0 + (xs.length : Int)) < 0)) = false) ∧ True) ∧ (InR .i64 1) ∧ True ∧ True) (lv := .norm) (T' := [(0, .row .strs ([xs, ys])), (3, vi (0 + (xs.length : Int))), (9, .row .strs ([xs, ys])), (10, vi 2), (11, vi 1)]) (B' := []) mix hI hs ?_ ?_ ?_ ?_
 ·exact trivial
 ·kernel_rfl
 ·exact ⟨⟨trivial, trivial⟩, ⟨rfl, trivial⟩, ⟨⟨(by decide), trivial, trivial, trivial⟩, tr_mk (⟨(inR64 (by omega) (by omega)), trivial, trivial⟩) 3, ⟨trivial, trivial, trivial⟩, b1, trivial⟩, (inR64 (by omega) (by omega)), trivial, trivial⟩
 intro a w hs
 refine then_norm ?_
 refine rounds_step ?_
 have b2 : (decide (((0 + (xs.length : Int)) + (ys.length : Int)) < 0)) = false := by exact decide_eq_false (by omega)
 refine way_L (tt := tt) (rs := []) (bs := [true, false]) (tk := [0, 3, 9, 10, 11]) (bk := []) (C := (True ∧ True) ∧ ((true = true) ∧ True) ∧ ((((0 : Int) ≤ 1 ∧ (1 : Int) < ((2 : Nat) : Int)) ∧ True ∧ True ∧ True) ∧ (tr 3 ((InR .i64 ((0 + (xs.length : Int)) + (ys.length : Int))) ∧ True ∧ True)) ∧ (True ∧ True ∧ True) ∧ ((decide (((0 + (xs.length : Int)) + (ys.length : Int)) < 0)) = false) ∧ True) ∧ (InR .i64 2) ∧ True ∧ True) (lv := .norm) (T' := [(0, .row .strs ([xs, ys])), (3, vi ((0 + (xs.length : Int)) + (ys.length : Int))), (9, .row .strs ([xs, ys])), (10, vi 2), (11, vi 2)]) (B' := []) mix hI hs ?_ ?_ ?_ ?_
 ·exact trivial
 ·kernel_rfl
 ·exact ⟨⟨trivial, trivial⟩, ⟨rfl, trivial⟩, ⟨⟨(by decide), trivial, trivial, trivial⟩, tr_mk (⟨(inR64 (by omega) (by omega)), trivial, trivial⟩) 3, ⟨trivial, trivial, trivial⟩, b2, trivial⟩, (inR64 (by omega) (by omega)), trivial, trivial⟩
 intro a w hs
 refine then_norm ?_
 refine rounds_step ?_
 refine way_L (tt := tt) (rs := []) (bs := [false]) (tk := [0, 3]) (bk := []) (C := (True ∧ True) ∧ (false = false) ∧ True) (lv := .exit 0) (T' := [(0, .row .strs ([xs, ys])), (3, vi ((0 + (xs.length : Int)) + (ys.length : Int)))]) (B' := []) mix hI hs ?_ ?_ ?_ ?_
 ·exact trivial
 ·kernel_rfl
 ·exact ⟨⟨trivial, trivial⟩, rfl, trivial⟩
 intro a w hs
 refine then_exit ?_
 refine inb_hit ?_
 refine then_norm ?_
 refine wp_seq ?_
 refine way_L (tt := tt) (rs := [(9, ⟨[(1, ciA 228 [nilv, vi ((0 + (xs.length : Int)) + (ys.length : Int))] [] [] (.own 9 .str ([])))], [], []⟩)]) (bs := []) (tk := [0, 6]) (bk := [10001]) (C := True ∧ (okArgs [nilv, vi ((0 + (xs.length : Int)) + (ys.length : Int))]) ∧ True ∧ True) (lv := .norm) (T' := [(0, .row .strs ([xs, ys])), (6, .own 10001)]) (B' := [(10001, .sl 9 .str ([]))]) mix hI hs ?_ ?_ ?_ ?_
 ·exact ⟨⟨⟨ent228, con_grow_str _ (by omega) (by omega)⟩, trivial⟩, trivial⟩
 ·kernel_rfl
 ·exact ⟨trivial, rfl, trivial, trivial⟩
 intro a w hs
 refine then_norm ?_
 refine wp_seq ?_
 refine wp_seq ?_
 refine way_L (tt := tt) (rs := []) (bs := []) (tk := [6, 25, 26, 27]) (bk := [10001]) (C := tr 3 True) (lv := .norm) (T' := [(6, .own 10001), (25, .row .strs ([xs, ys])), (26, vi 2), (27, vi 0)]) (B' := [(10001, .sl 9 .str ([]))]) mix hI hs ?_ ?_ ?_ ?_
 ·exact trivial
 ·kernel_rfl
 ·exact tr_mk trivial 3
 intro a w hs
 refine then_norm ?_
 refine wp_block ?_
 refine wp_loop_rounds 3 ?_
 refine rounds_step ?_
 refine way_L (tt := tt) (rs := []) (bs := [true]) (tk := [6, 25, 26, 27]) (bk := [14002]) (C := (True ∧ True) ∧ ((true = true) ∧ True) ∧ ((((0 : Int) ≤ 0 ∧ (0 : Int) < ((2 : Nat) : Int)) ∧ True ∧ True ∧ True) ∧ True ∧ True ∧ (((0 + xs.length) * 16 : Nat) ≤ 140737488355328 ∧ 0 + xs.length ≤ 140737488355328) ∧ True ∧ True) ∧ (InR .i64 1) ∧ True ∧ True) (lv := .norm) (T' := [(6, .own 14002), (25, .row .strs ([xs, ys])), (26, vi 2), (27, vi 1)]) (B' := [(14002, .sl 9 .str (([]) ++ xs))]) mix hI hs ?_ ?_ ?_ ?_
 ·exact trivial
 ·kernel_rfl
 ·exact ⟨⟨trivial, trivial⟩, ⟨rfl, trivial⟩, ⟨⟨(by decide), trivial, trivial, trivial⟩, trivial, trivial, ⟨by omega, by omega⟩, trivial, trivial⟩, (inR64 (by omega) (by omega)), trivial, trivial⟩
 intro a w hs
 refine then_norm ?_
 have hs := hs.ren (T' := [(6, .own 10000001), (25, .row .strs ([xs, ys])), (26, vi 2), (27, vi 1)]) (B' := [(10000001, .sl 9 .str (([]) ++ xs))]) [(10000001, 14002)] (by kernel_rfl) (by kernel_rfl) (by kernel_rfl)
 refine rounds_step ?_
 refine way_L (tt := tt) (rs := []) (bs := [true]) (tk := [6, 25, 26, 27]) (bk := [14002]) (C := (True ∧ True) ∧ ((true = true) ∧ True) ∧ ((((0 : Int) ≤ 1 ∧ (1 : Int) < ((2 : Nat) : Int)) ∧ True ∧ True ∧ True) ∧ True ∧ True ∧ ((((([]) ++ xs).length + ys.length) * 16 : Nat) ≤ 140737488355328 ∧ (([]) ++ xs).length + ys.length ≤ 140737488355328) ∧ True ∧ True) ∧ (InR .i64 2) ∧ True ∧ True) (lv := .norm) (T' := [(6, .own 14002), (25, .row .strs ([xs, ys])), (26, vi 2), (27, vi 2)]) (B' := [(14002, .sl 9 .str ((([]) ++ xs) ++ ys))]) mix hI hs ?_ ?_ ?_ ?_
 ·exact trivial
 ·kernel_rfl
 ·exact ⟨⟨trivial, trivial⟩, ⟨rfl, trivial⟩, ⟨⟨(by decide), trivial, trivial, trivial⟩, trivial, trivial, (by simp only [List.nil_append]; omega), trivial, trivial⟩, (inR64 (by omega) (by omega)), trivial, trivial⟩
 intro a w hs
 refine then_norm ?_
 have hs := hs.ren (T' := [(6, .own 10000002), (25, .row .strs ([xs, ys])), (26, vi 2), (27, vi 2)]) (B' := [(10000002, .sl 9 .str ((([]) ++ xs) ++ ys))]) [(10000002, 14002)] (by kernel_rfl) (by kernel_rfl) (by kernel_rfl)
 refine rounds_step ?_
 refine way_L (tt := tt) (rs := []) (bs := [false]) (tk := [6]) (bk := [10000002]) (C := (True ∧ True) ∧ (false = false) ∧ True) (lv := .exit 2) (T' := [(6, .own 10000002)]) (B' := [(10000002, .sl 9 .str ((([]) ++ xs) ++ ys))]) mix hI hs ?_ ?_ ?_ ?_
 ·exact trivial
 ·kernel_rfl
 ·exact ⟨⟨trivial, trivial⟩, rfl, trivial⟩
 intro a w hs
 refine then_exit ?_
 refine inb_hit ?_
 refine then_norm ?_
 refine way_L (tt := tt) (rs := []) (bs := []) (tk := [2]) (bk := [10000002]) (C := (True ∧ True ∧ True) ∧ True) (lv := .ret) (T' := [(2, .own 10000002)]) (B' := [(10000002, .sl 9 .str ((([]) ++ xs) ++ ys))]) mix hI hs ?_ ?_ ?_ ?_
 ·exact trivial
 ·kernel_rfl
 ·exact ⟨⟨trivial, trivial, trivial⟩, trivial⟩
 intro a w hs
 exact FnQ_cast (out := .own 9 .str ((([]) ++ xs) ++ ys)) (by simp) (ret_ok [] hs (.inl ⟨10000002, by kernel_rfl, rfl⟩))
set_option maxRecDepth 100000 in
theorem con_cat_tree (xs ys : List (El .tree)) (h : xs.length + ys.length < 1000000000) : Con Tryz.prog I0 192 [.row .trees ([xs, ys])] (.own 29 .tree (xs ++ ys)) := by
 refine con_of Tryz.func192 rfl (Nat.le_of_ble_eq_true rfl) stab (fun w0 fz a hI hs => ?_)
 refine wp_seq ?_
 refine way_L (tt := tt) (rs := []) (bs := []) (tk := [0]) (bk := []) (C := True ∧ True) (lv := .norm) (T' := [(0, .row .trees ([xs, ys]))]) (B' := []) mix hI hs ?_ ?_ ?_ ?_
 ·exact trivial
 ·kernel_rfl
 ·exact ⟨trivial, trivial⟩
 intro a w hs
 refine then_norm ?_
 refine wp_seq ?_
 refine way_L (tt := tt) (rs := []) (bs := []) (tk := [0, 3]) (bk := []) (C := True ∧ True) (lv := .norm) (T' := [(0, .row .trees ([xs, ys])), (3, vi 0)]) (B' := []) mix hI hs ?_ ?_ ?_ ?_
 ·exact trivial
 ·kernel_rfl
 ·exact ⟨trivial, trivial⟩
 intro a w hs
 refine then_norm ?_
 refine wp_seq ?_
 refine wp_seq ?_
 refine way_L (tt := tt) (rs := []) (bs := []) (tk := [0, 3, 9, 10, 11]) (bk := []) (C := tr 3 True) (lv := .norm) (T' := [(0, .row .trees ([xs, ys])), (3, vi 0), (9, .row .trees ([xs, ys])), (10, vi 2), (11, vi 0)]) (B' := []) mix hI hs ?_ ?_ ?_ ?_
 ·exact trivial
 ·kernel_rfl
 ·exact tr_mk trivial 3
 intro a w hs
 refine then_norm ?_
 refine wp_block ?_
 refine wp_loop_rounds 3 ?_
 refine rounds_step ?_
 have b1 : (decide ((0 + (xs.length : Int)) < 0)) = false := by exact decide_eq_false (by omega)
 refine way_L (tt := tt) (rs := []) (bs := [true, false]) (tk := [0, 3, 9, 10, 11]) (bk := []) (C := (True ∧ True) ∧ ((true = true) ∧ True) ∧ ((((0 : Int) ≤ 0 ∧ (0 : Int) < ((2 : Nat) : Int)) ∧ True ∧ True ∧ True) ∧ (tr 3 ((InR .i64 (0 + (xs.length : Int))) ∧ True ∧ True)) ∧ (True ∧ True ∧ True) ∧ ((decide ((0 + (xs.length : Int)) < 0)) = false) ∧ True) ∧ (InR .i64 1) ∧ True ∧ True) (lv := .norm) (T' := [(0, .row .trees ([xs, ys])), (3, vi (0 + (xs.length : Int))), (9, .row .trees ([xs, ys])), (10, vi 2), (11, vi 1)]) (B' := []) mix hI hs ?_ ?_ ?_ ?_
 ·exact trivial
 ·kernel_rfl
 ·exact ⟨⟨trivial, trivial⟩, ⟨rfl, trivial⟩, ⟨⟨(by decide), trivial, trivial, trivial⟩, tr_mk (⟨(inR64 (by omega) (by omega)), trivial, trivial⟩) 3, ⟨trivial, trivial, trivial⟩, b1, trivial⟩, (inR64 (by omega) (by omega)), trivial, trivial⟩
 intro a w hs
 refine then_norm ?_
 refine rounds_step ?_
 have b2 : (decide (((0 + (xs.length : Int)) + (ys.length : Int)) < 0)) = false := by exact decide_eq_false (by omega)
 refine way_L (tt := tt) (rs := []) (bs := [true, false]) (tk := [0, 3, 9, 10, 11]) (bk := []) (C := (True ∧ True) ∧ ((true = true) ∧ True) ∧ ((((0 : Int) ≤ 1 ∧ (1 : Int) < ((2 : Nat) : Int)) ∧ True ∧ True ∧ True) ∧ (tr 3 ((InR .i64 ((0 + (xs.length : Int)) + (ys.length : Int))) ∧ True ∧ True)) ∧ (True ∧ True ∧ True) ∧ ((decide (((0 + (xs.length : Int)) + (ys.length : Int)) < 0)) = false) ∧ True) ∧ (InR .i64 2) ∧ True ∧ True) (lv := .norm) (T' := [(0, .row .trees ([xs, ys])), (3, vi ((0 + (xs.length : Int)) + (ys.length : Int))), (9, .row .trees ([xs, ys])), (10, vi 2), (11, vi 2)]) (B' := []) mix hI hs ?_ ?_ ?_ ?_
 ·exact trivial
 ·kernel_rfl
 ·exact ⟨⟨trivial, trivial⟩, ⟨rfl, trivial⟩, ⟨⟨(by decide), trivial, trivial, trivial⟩, tr_mk (⟨(inR64 (by omega) (by omega)), trivial, trivial⟩) 3, ⟨trivial, trivial, trivial⟩, b2, trivial⟩, (inR64 (by omega) (by omega)), trivial, trivial⟩
 intro a w hs
 refine then_norm ?_
 refine rounds_step ?_
 refine way_L (tt := tt) (rs := []) (bs := [false]) (tk := [0, 3]) (bk := []) (C := (True ∧ True) ∧ (false = false) ∧ True) (lv := .exit 0) (T' := [(0, .row .trees ([xs, ys])), (3, vi ((0 + (xs.length : Int)) + (ys.length : Int)))]) (B' := []) mix hI hs ?_ ?_ ?_ ?_
 ·exact trivial
 ·kernel_rfl
 ·exact ⟨⟨trivial, trivial⟩, rfl, trivial⟩
 intro a w hs
 refine then_exit ?_
 refine inb_hit ?_
 refine then_norm ?_
 refine wp_seq ?_
 refine way_L (tt := tt) (rs := [(9, ⟨[(1, ciA 229 [nilv, vi ((0 + (xs.length : Int)) + (ys.length : Int))] [] [] (.own 29 .tree ([])))], [], []⟩)]) (bs := []) (tk := [0, 6]) (bk := [10001]) (C := True ∧ (okArgs [nilv, vi ((0 + (xs.length : Int)) + (ys.length : Int))]) ∧ True ∧ True) (lv := .norm) (T' := [(0, .row .trees ([xs, ys])), (6, .own 10001)]) (B' := [(10001, .sl 29 .tree ([]))]) mix hI hs ?_ ?_ ?_ ?_
 ·exact ⟨⟨⟨ent229, con_grow_tree _ (by omega) (by omega)⟩, trivial⟩, trivial⟩
 ·kernel_rfl
 ·exact ⟨trivial, rfl, trivial, trivial⟩
 intro a w hs
 refine then_norm ?_
 refine wp_seq ?_
 refine wp_seq ?_
 refine way_L (tt := tt) (rs := []) (bs := []) (tk := [6, 25, 26, 27]) (bk := [10001]) (C := tr 3 True) (lv := .norm) (T' := [(6, .own 10001), (25, .row .trees ([xs, ys])), (26, vi 2), (27, vi 0)]) (B' := [(10001, .sl 29 .tree ([]))]) mix hI hs ?_ ?_ ?_ ?_
 ·exact trivial
 ·kernel_rfl
 ·exact tr_mk trivial 3
 intro a w hs
 refine then_norm ?_
 refine wp_block ?_
 refine wp_loop_rounds 3 ?_
 refine rounds_step ?_
 refine way_L (tt := tt) (rs := []) (bs := [true]) (tk := [6, 25, 26, 27]) (bk := [14002]) (C := (True ∧ True) ∧ ((true = true) ∧ True) ∧ ((((0 : Int) ≤ 0 ∧ (0 : Int) < ((2 : Nat) : Int)) ∧ True ∧ True ∧ True) ∧ True ∧ True ∧ (((0 + xs.length) * 120 : Nat) ≤ 140737488355328 ∧ 0 + xs.length ≤ 140737488355328) ∧ True ∧ True) ∧ (InR .i64 1) ∧ True ∧ True) (lv := .norm) (T' := [(6, .own 14002), (25, .row .trees ([xs, ys])), (26, vi 2), (27, vi 1)]) (B' := [(14002, .sl 29 .tree (([]) ++ xs))]) mix hI hs ?_ ?_ ?_ ?_
 ·exact trivial
 ·kernel_rfl
 ·exact ⟨⟨trivial, trivial⟩, ⟨rfl, trivial⟩, ⟨⟨(by decide), trivial, trivial, trivial⟩, trivial, trivial, ⟨by omega, by omega⟩, trivial, trivial⟩, (inR64 (by omega) (by omega)), trivial, trivial⟩
 intro a w hs
 refine then_norm ?_
 have hs := hs.ren (T' := [(6, .own 10000003), (25, .row .trees ([xs, ys])), (26, vi 2), (27, vi 1)]) (B' := [(10000003, .sl 29 .tree (([]) ++ xs))]) [(10000003, 14002)] (by kernel_rfl) (by kernel_rfl) (by kernel_rfl)
 refine rounds_step ?_
 refine way_L (tt := tt) (rs := []) (bs := [true]) (tk := [6, 25, 26, 27]) (bk := [14002]) (C := (True ∧ True) ∧ ((true = true) ∧ True) ∧ ((((0 : Int) ≤ 1 ∧ (1 : Int) < ((2 : Nat) : Int)) ∧ True ∧ True ∧ True) ∧ True ∧ True ∧ ((((([]) ++ xs).length + ys.length) * 120 : Nat) ≤ 140737488355328 ∧ (([]) ++ xs).length + ys.length ≤ 140737488355328) ∧ True ∧ True) ∧ (InR .i64 2) ∧ True ∧ True) (lv := .norm) (T' := [(6, .own 14002), (25, .row .trees ([xs, ys])), (26, vi 2), (27, vi 2)]) (B' := [(14002, .sl 29 .tree ((([]) ++ xs) ++ ys))]) mix hI hs ?_ ?_ ?_ ?_
 ·exact trivial
 ·kernel_rfl
 ·exact ⟨⟨trivial, trivial⟩, ⟨rfl, trivial⟩, ⟨⟨(by decide), trivial, trivial, trivial⟩, trivial, trivial, (by simp only [List.nil_append]; omega), trivial, trivial⟩, (inR64 (by omega) (by omega)), trivial, trivial⟩
 intro a w hs
 refine then_norm ?_
 have hs := hs.ren (T' := [(6, .own 10000004), (25, .row .trees ([xs, ys])), (26, vi 2), (27, vi 2)]) (B' := [(10000004, .sl 29 .tree ((([]) ++ xs) ++ ys))]) [(10000004, 14002)] (by kernel_rfl) (by kernel_rfl) (by kernel_rfl)
 refine rounds_step ?_
 refine way_L (tt := tt) (rs := []) (bs := [false]) (tk := [6]) (bk := [10000004]) (C := (True ∧ True) ∧ (false = false) ∧ True) (lv := .exit 2) (T' := [(6, .own 10000004)]) (B' := [(10000004, .sl 29 .tree ((([]) ++ xs) ++ ys))]) mix hI hs ?_ ?_ ?_ ?_
 ·exact trivial
 ·kernel_rfl
 ·exact ⟨⟨trivial, trivial⟩, rfl, trivial⟩
 intro a w hs
 refine then_exit ?_
 refine inb_hit ?_
 refine then_norm ?_
 refine way_L (tt := tt) (rs := []) (bs := []) (tk := [2]) (bk := [10000004]) (C := (True ∧ True ∧ True) ∧ True) (lv := .ret) (T' := [(2, .own 10000004)]) (B' := [(10000004, .sl 29 .tree ((([]) ++ xs) ++ ys))]) mix hI hs ?_ ?_ ?_ ?_
 ·exact trivial
 ·kernel_rfl
 ·exact ⟨⟨trivial, trivial, trivial⟩, trivial⟩
 intro a w hs
 exact FnQ_cast (out := .own 29 .tree ((([]) ++ xs) ++ ys)) (by simp) (ret_ok [] hs (.inl ⟨10000004, by kernel_rfl, rfl⟩))
set_option maxRecDepth 100000 in
theorem con136 (t : Tree) (x : ByteArray) (hk : (cutK t).length < 1000000) : Con Tryz.prog I0 136 [.agg (encTree t), vs x] (.val (.agg (encTree (unsetT t x)))) := by
 have hcl := cut_len t
 have hx1 := idxT_in x (cutK t)
 refine con_of Tryz.func136 rfl (Nat.le_of_ble_eq_true rfl) stab (fun w0 fz a hI hs => ?_)
 rcases Bool.eq_false_or_eq_true (decide ((idxT x (cutK t)) < 0)) with b1 | b1
 ·skip
  have n1 := of_decide_eq_true b1
  refine way_L (tt := tt) (rs := [(1, ⟨[(1, ciA 173 [.agg (encTree t)] [] [] (.val (.tup [.row .str (cutK t), .row .tree (cutV t)])))], [], []⟩), (2, ⟨[(2, ciA 171 [.row .str (cutK t), vs x] [] [] (.val (vi (idxT x (cutK t)))))], [], []⟩)]) (bs := [true]) (tk := [4]) (bk := [1001]) (C := (True ∧ True ∧ True) ∧ (True ∧ (okArgs [.agg (encTree t)]) ∧ (tr 5 True)) ∧ (True ∧ True ∧ (okArgs [.row .str (cutK t), vs x]) ∧ True ∧ True) ∧ (True ∧ True ∧ True) ∧ ((decide ((idxT x (cutK t)) < 0)) = true) ∧ (True ∧ True ∧ True) ∧ True) (lv := .ret) (T' := [(4, .ptr 1001 0)]) (B' := [(1001, .var [vi t.kind, vb t.b, vb t.n.neg, .row (.int .u32) t.n.m, vi t.n.e, vs t.s, .row .str t.k, .row .tree t.v])]) mix hI hs ?_ ?_ ?_ ?_
  ·exact ⟨⟨⟨ent173, con173 _⟩, trivial⟩, ⟨⟨ent171, con171 _ _ (by omega)⟩, trivial⟩, trivial⟩
  ·kernel_rfl
  ·exact ⟨⟨trivial, trivial, trivial⟩, ⟨trivial, rfl, tr_mk trivial 5⟩, ⟨trivial, trivial, rfl, trivial, trivial⟩, ⟨trivial, trivial, trivial⟩, b1, ⟨trivial, trivial, trivial⟩, trivial⟩
  intro a w hs
  exact FnQ_cast (out := .val (.agg (encTree t))) (by rw [unset_none (by omega)]) (ret_ok [] hs ⟨by kernel_rfl, rfl⟩)
 ·skip
  have n1 := of_decide_eq_false b1
  refine way_L (tt := tt) (rs := [(1, ⟨[(1, ciA 173 [.agg (encTree t)] [] [] (.val (.tup [.row .str (cutK t), .row .tree (cutV t)])))], [], []⟩), (2, ⟨[(2, ciA 171 [.row .str (cutK t), vs x] [] [] (.val (vi (idxT x (cutK t)))))], [], []⟩), (5, ⟨[(8, ciA 191 [.row .strs ([(cutK t).take (idxT x (cutK t)).toNat, (cutK t).drop ((idxT x (cutK t)) + 1).toNat])] [] [6007] (.own 9 .str (((cutK t).take (idxT x (cutK t)).toNat) ++ ((cutK t).drop ((idxT x (cutK t)) + 1).toNat)))), (17, ciA 192 [.row .trees ([(cutV t).take (idxT x (cutK t)).toNat, (cutV t).drop ((idxT x (cutK t)) + 1).toNat])] [] [6016] (.own 29 .tree (((cutV t).take (idxT x (cutK t)).toNat) ++ ((cutV t).drop ((idxT x (cutK t)) + 1).toNat))))], [], []⟩)]) (bs := [false]) (tk := [4]) (bk := [1001, 6008, 6017]) (C := (True ∧ True ∧ True) ∧ (True ∧ (okArgs [.agg (encTree t)]) ∧ (tr 5 True)) ∧ (True ∧ True ∧ (okArgs [.row .str (cutK t), vs x]) ∧ True ∧ True) ∧ ((True ∧ True ∧ True) ∧ ((decide ((idxT x (cutK t)) < 0)) = false) ∧ True) ∧ (True ∧ True ∧ (0 ≤ (0 : Int) ∧ (0 : Int) ≤ (idxT x (cutK t)) ∧ (idxT x (cutK t)) ≤ ((cutK t).length : Int) ∧ ((cutK t).length : Int) ≤ ((cutK t).length : Int)) ∧ True ∧ True ∧ (InR .i64 ((idxT x (cutK t)) + 1)) ∧ (0 ≤ ((idxT x (cutK t)) + 1) ∧ ((idxT x (cutK t)) + 1) ≤ ((cutK t).length : Int) ∧ ((cutK t).length : Int) ≤ ((cutK t).length : Int) ∧ ((cutK t).length : Int) ≤ ((cutK t).length : Int)) ∧ True ∧ (okArgs [.row .strs ([(cutK t).take (idxT x (cutK t)).toNat, (cutK t).drop ((idxT x (cutK t)) + 1).toNat])]) ∧ True ∧ True ∧ (0 ≤ (0 : Int) ∧ (0 : Int) ≤ (idxT x (cutK t)) ∧ (idxT x (cutK t)) ≤ ((cutV t).length : Int) ∧ ((cutV t).length : Int) ≤ ((cutV t).length : Int)) ∧ True ∧ True ∧ (InR .i64 ((idxT x (cutK t)) + 1)) ∧ (0 ≤ ((idxT x (cutK t)) + 1) ∧ ((idxT x (cutK t)) + 1) ≤ ((cutV t).length : Int) ∧ ((cutV t).length : Int) ≤ ((cutV t).length : Int) ∧ ((cutV t).length : Int) ≤ ((cutV t).length : Int)) ∧ True ∧ (okArgs [.row .trees ([(cutV t).take (idxT x (cutK t)).toNat, (cutV t).drop ((idxT x (cutK t)) + 1).toNat])]) ∧ True ∧ True ∧ True) ∧ True) (lv := .ret) (T' := [(4, .ptr 1001 0)]) (B' := [(1001, .var [vi 7, vb false, vb false, nilv, vi 0, vs (ba []), .own 6008, .own 6017]), (6008, .sl 9 .str (((cutK t).take (idxT x (cutK t)).toNat) ++ ((cutK t).drop ((idxT x (cutK t)) + 1).toNat))), (6017, .sl 29 .tree (((cutV t).take (idxT x (cutK t)).toNat) ++ ((cutV t).drop ((idxT x (cutK t)) + 1).toNat)))]) mix hI hs ?_ ?_ ?_ ?_
  ·exact ⟨⟨⟨ent173, con173 _⟩, trivial⟩, ⟨⟨ent171, con171 _ _ (by omega)⟩, trivial⟩, ⟨⟨ent191, con_cat_str _ _ (by simp only [List.length_take, List.length_drop]; omega)⟩, ⟨ent192, con_cat_tree _ _ (by simp only [List.length_take, List.length_drop]; omega)⟩, trivial⟩, trivial⟩
  ·kernel_rfl
  ·exact ⟨⟨trivial, trivial, trivial⟩, ⟨trivial, rfl, tr_mk trivial 5⟩, ⟨trivial, trivial, rfl, trivial, trivial⟩, ⟨⟨trivial, trivial, trivial⟩, b1, trivial⟩, ⟨trivial, trivial, (by (repeat' apply And.intro) <;> (try split) <;> omega), trivial, trivial, (inR64 (by omega) (by omega)), (by (repeat' apply And.intro) <;> (try split) <;> omega), trivial, rfl, trivial, trivial, (by (repeat' apply And.intro) <;> (try split) <;> omega), trivial, trivial, (inR64 (by omega) (by omega)), (by (repeat' apply And.intro) <;> (try split) <;> omega), trivial, rfl, trivial, trivial, trivial⟩, trivial⟩
  intro a w hs
  exact FnQ_cast (out := .val (.agg [vi 7, vb false, vb false, .row (.int .u32) ([]), vi 0, vs (ba []), .row .str (((cutK t).take (idxT x (cutK t)).toNat) ++ ((cutK t).drop ((idxT x (cutK t)) + 1).toNat)), .row .tree (((cutV t).take (idxT x (cutK t)).toNat) ++ ((cutV t).drop ((idxT x (cutK t)) + 1).toNat))])) (by rw [unset_found (by omega), show (idxT x (cutK t) + 1).toNat = (idxT x (cutK t)).toNat + 1 by omega]; rfl) (ret_ok [6008, 6017] hs ⟨by kernel_rfl, rfl⟩)
def setP : List ByteArray → Tree → Tree → Tree
  | [], _, v => v
  | n :: p, t, v => setT t n (setP p (memV t n) v)
def unsetP : List ByteArray → Tree → Tree
  | [], t => t
  | [n], t => unsetT t n
  | n :: m :: p, t => if memB t n = true then setT t n (unsetP (m :: p) (memV t n)) else t
theorem setP_at {q : List ByteArray} {t v : Tree} (h : 0 < q.length) : setP q t v = setT t (q.getD 0 (dflt .str)) (setP (q.drop 1) (memV t (q.getD 0 (dflt .str))) v) := by
  cases q with
  | nil => simp at h
  | cons n q => rfl
theorem unsetP_one {q : List ByteArray} {t : Tree} (h : q.length = 1) : unsetP q t = unsetT t (q.getD 0 (dflt .str)) := by
  match q, h with
  | [n], _ => rfl
theorem unsetP_yes {q : List ByteArray} {t : Tree} (h : 1 < q.length) (hb : memB t (q.getD 0 (dflt .str)) = true) : unsetP q t = setT t (q.getD 0 (dflt .str)) (unsetP (q.drop 1) (memV t (q.getD 0 (dflt .str)))) := by
  match q, h with
  | n :: m :: q, _ => show (if memB t n = true then _ else t) = _; rw [if_pos (show memB t n = true from hb)]; rfl
theorem unsetP_no {q : List ByteArray} {t : Tree} (h : 1 < q.length) (hb : memB t (q.getD 0 (dflt .str)) = false) : unsetP q t = t := by
  match q, h with
  | n :: m :: q, _ => show (if memB t n = true then _ else t) = _; rw [if_neg (by rw [show memB t n = false from hb]; decide)]
theorem memV_nodes' (t : Tree) (x : ByteArray) : nodes (memV t x) ≤ nodes t := by
  cases h : memB t x with
  | true => exact memV_nodes h
  | false =>
    have h0 : ¬ idxT x (cutK t) ≥ 0 := of_decide_eq_false h
    rw [(memV_neg h0).1, show nodes Tree.zero = 1 from by simp [Tree.zero, nodes, nodesL]]
    have := nodes_eq t; omega
set_option maxRecDepth 100000 in
theorem con76_ (v : Tree) : ∀ (n : Nat) (q : List ByteArray) (t : Tree), q.length < n → q.length < 1000000 → nodes t < 1000000 → Con Tryz.prog I0 76 [.agg (encTree t), .row .str q, .agg (encTree v)] (.val (.agg (encTree (setP q t v)))) := by
 intro n
 induction n
 case zero => intro q t hn hq ht; omega
 rename_i n ih
 intro q t hn hq ht
 refine con_of Tryz.func76 rfl (Nat.le_of_ble_eq_true rfl) stab (fun w0 fz a hI hs => ?_)
 rcases Bool.eq_false_or_eq_true ((q.length : Int) == 0) with b1 | b1
 ·skip
  have n1 := eq_of_beq b1
  refine way_L (tt := tt) (rs := []) (bs := [true]) (tk := [6]) (bk := [1002]) (C := (tr 3 True) ∧ (tr 3 True) ∧ (((q.length : Int) == 0) = true) ∧ (True ∧ True ∧ True) ∧ True) (lv := .ret) (T' := [(6, .ptr 1002 0)]) (B' := [(1002, .var [vi v.kind, vb v.b, vb v.n.neg, .row (.int .u32) v.n.m, vi v.n.e, vs v.s, .row .str v.k, .row .tree v.v])]) mix hI hs ?_ ?_ ?_ ?_
  ·exact trivial
  ·kernel_rfl
  ·exact ⟨tr_mk trivial 3, tr_mk trivial 3, b1, ⟨trivial, trivial, trivial⟩, trivial⟩
  intro a w hs
  exact FnQ_cast (out := .val (.agg (encTree v))) (by have h0 : q = [] := List.eq_nil_of_length_eq_zero (by omega); rw [h0]; rfl) (ret_ok [] hs ⟨by kernel_rfl, rfl⟩)
 ·skip
  have n1 := beq_eq_false_iff_ne.1 b1
  refine way_L (tt := tt) (rs := [(3, ⟨[(4, ciA 122 [.agg (encTree t), vs (q.getD 0 (dflt .str))] [] [] (.val (.tup [.agg (encTree (memV t (q.getD 0 (dflt .str)))), vb (memB t (q.getD 0 (dflt .str)))])))], [], []⟩), (4, ⟨[(8, ciA 76 [.agg (encTree (memV t (q.getD 0 (dflt .str)))), .row .str (q.drop 1), .agg (encTree v)] [] [] (.val (.agg (encTree (setP (q.drop 1) (memV t (q.getD 0 (dflt .str))) v))))), (9, ciA 135 [.agg (encTree t), vs (q.getD 0 (dflt .str)), .agg (encTree (setP (q.drop 1) (memV t (q.getD 0 (dflt .str))) v))] [] [] (.val (.agg (encTree (setT t (q.getD 0 (dflt .str)) (setP (q.drop 1) (memV t (q.getD 0 (dflt .str))) v))))))], [], []⟩)]) (bs := [false]) (tk := [6]) (bk := [1002]) (C := (tr 3 True) ∧ ((tr 3 True) ∧ (((q.length : Int) == 0) = false) ∧ True) ∧ (True ∧ True ∧ (0 ≤ (0 : Int) ∧ (0 : Int) < q.length) ∧ True ∧ (okArgs [.agg (encTree t), vs (q.getD 0 (dflt .str))]) ∧ (tr 6 True)) ∧ (True ∧ True ∧ (0 ≤ (0 : Int) ∧ (0 : Int) < q.length) ∧ (tr 3 ((0 ≤ (1 : Int) ∧ (1 : Int) ≤ (q.length : Int) ∧ (q.length : Int) ≤ (q.length : Int) ∧ (q.length : Int) ≤ (q.length : Int)) ∧ True ∧ (okArgs [.agg (encTree (memV t (q.getD 0 (dflt .str)))), .row .str (q.drop 1), .agg (encTree v)]) ∧ (okArgs [.agg (encTree t), vs (q.getD 0 (dflt .str)), .agg (encTree (setP (q.drop 1) (memV t (q.getD 0 (dflt .str))) v))]) ∧ True ∧ True))) ∧ True) (lv := .ret) (T' := [(6, .ptr 1002 0)]) (B' := [(1002, .var [vi ((setT t (q.getD 0 (dflt .str)) (setP (q.drop 1) (memV t (q.getD 0 (dflt .str))) v)).kind), vb ((setT t (q.getD 0 (dflt .str)) (setP (q.drop 1) (memV t (q.getD 0 (dflt .str))) v)).b), vb ((setT t (q.getD 0 (dflt .str)) (setP (q.drop 1) (memV t (q.getD 0 (dflt .str))) v)).n.neg), .row (.int .u32) ((setT t (q.getD 0 (dflt .str)) (setP (q.drop 1) (memV t (q.getD 0 (dflt .str))) v)).n.m), vi ((setT t (q.getD 0 (dflt .str)) (setP (q.drop 1) (memV t (q.getD 0 (dflt .str))) v)).n.e), vs ((setT t (q.getD 0 (dflt .str)) (setP (q.drop 1) (memV t (q.getD 0 (dflt .str))) v)).s), .row .str ((setT t (q.getD 0 (dflt .str)) (setP (q.drop 1) (memV t (q.getD 0 (dflt .str))) v)).k), .row .tree ((setT t (q.getD 0 (dflt .str)) (setP (q.drop 1) (memV t (q.getD 0 (dflt .str))) v)).v)])]) mix hI hs ?_ ?_ ?_ ?_
  ·exact ⟨⟨⟨ent122, con122 _ _ (by have := cutK_nodes t; omega)⟩, trivial⟩, ⟨⟨ent76, ih _ _ (by rw [List.length_drop]; omega) (by rw [List.length_drop]; omega) (by have := memV_nodes' t (q.getD 0 (dflt .str)); omega)⟩, ⟨ent135, con135 _ _ _ (by have := cutK_nodes t; omega)⟩, trivial⟩, trivial⟩
  ·kernel_rfl
  ·exact ⟨tr_mk trivial 3, ⟨tr_mk trivial 3, b1, trivial⟩, ⟨trivial, trivial, ⟨by omega, by omega⟩, trivial, rfl, tr_mk trivial 6⟩, ⟨trivial, trivial, ⟨by omega, by omega⟩, tr_mk (⟨(by (repeat' apply And.intro) <;> (try split) <;> omega), trivial, rfl, rfl, trivial, trivial⟩) 3⟩, trivial⟩
  intro a w hs
  exact FnQ_cast (out := .val (.agg (encTree (setT t (q.getD 0 (dflt .str)) (setP (q.drop 1) (memV t (q.getD 0 (dflt .str))) v))))) (by rw [setP_at (q := q) (by omega)]) (ret_ok [] hs ⟨by kernel_rfl, rfl⟩)
theorem con76 (q : List ByteArray) (t : Tree) (v : Tree) (hq : q.length < 1000000) (ht : nodes t < 1000000) : Con Tryz.prog I0 76 [.agg (encTree t), .row .str q, .agg (encTree v)] (.val (.agg (encTree (setP q t v)))) := con76_ v (q.length + 1) q t (Nat.lt_succ_self _) hq ht
set_option maxRecDepth 100000 in
theorem con77_ : ∀ (n : Nat) (q : List ByteArray) (t : Tree), q.length < n → 0 < q.length → q.length < 1000000 → nodes t < 1000000 → Con Tryz.prog I0 77 [.agg (encTree t), .row .str q] (.val (.agg (encTree (unsetP q t)))) := by
 intro n
 induction n
 case zero => intro q t hn hp hq ht; omega
 rename_i n ih
 intro q t hn hp hq ht
 refine con_of Tryz.func77 rfl (Nat.le_of_ble_eq_true rfl) stab (fun w0 fz a hI hs => ?_)
 rcases Bool.eq_false_or_eq_true ((q.length : Int) == 1) with b1 | b1
 ·skip
  have n1 := eq_of_beq b1
  refine way_L (tt := tt) (rs := [(2, ⟨[(4, ciA 136 [.agg (encTree t), vs (q.getD 0 (dflt .str))] [] [] (.val (.agg (encTree (unsetT t (q.getD 0 (dflt .str)))))))], [], []⟩)]) (bs := [true]) (tk := [4]) (bk := [1001]) (C := (True ∧ True ∧ True) ∧ (tr 3 True) ∧ (((q.length : Int) == 1) = true) ∧ (True ∧ True ∧ (0 ≤ (0 : Int) ∧ (0 : Int) < q.length) ∧ True ∧ (okArgs [.agg (encTree t), vs (q.getD 0 (dflt .str))]) ∧ True ∧ True) ∧ True) (lv := .ret) (T' := [(4, .ptr 1001 0)]) (B' := [(1001, .var [vi ((unsetT t (q.getD 0 (dflt .str))).kind), vb ((unsetT t (q.getD 0 (dflt .str))).b), vb ((unsetT t (q.getD 0 (dflt .str))).n.neg), .row (.int .u32) ((unsetT t (q.getD 0 (dflt .str))).n.m), vi ((unsetT t (q.getD 0 (dflt .str))).n.e), vs ((unsetT t (q.getD 0 (dflt .str))).s), .row .str ((unsetT t (q.getD 0 (dflt .str))).k), .row .tree ((unsetT t (q.getD 0 (dflt .str))).v)])]) mix hI hs ?_ ?_ ?_ ?_
  ·exact ⟨⟨⟨ent136, con136 _ _ (by have := cutK_nodes t; omega)⟩, trivial⟩, trivial⟩
  ·kernel_rfl
  ·exact ⟨⟨trivial, trivial, trivial⟩, tr_mk trivial 3, b1, ⟨trivial, trivial, ⟨by omega, by omega⟩, trivial, rfl, trivial, trivial⟩, trivial⟩
  intro a w hs
  exact FnQ_cast (out := .val (.agg (encTree (unsetT t (q.getD 0 (dflt .str)))))) (by rw [unsetP_one (q := q) (by omega)]) (ret_ok [] hs ⟨by kernel_rfl, rfl⟩)
 ·skip
  have n1 := beq_eq_false_iff_ne.1 b1
  rcases Bool.eq_false_or_eq_true (memB t (q.getD 0 (dflt .str))) with b2 | b2
  ·skip
   refine way_L (tt := tt) (rs := [(3, ⟨[(4, ciA 122 [.agg (encTree t), vs (q.getD 0 (dflt .str))] [] [] (.val (.tup [.agg (encTree (memV t (q.getD 0 (dflt .str)))), vb (memB t (q.getD 0 (dflt .str)))])))], [], []⟩), (6, ⟨[(7, ciA 77 [.agg (encTree (memV t (q.getD 0 (dflt .str)))), .row .str (q.drop 1)] [] [] (.val (.agg (encTree (unsetP (q.drop 1) (memV t (q.getD 0 (dflt .str)))))))), (8, ciA 135 [.agg (encTree t), vs (q.getD 0 (dflt .str)), .agg (encTree (unsetP (q.drop 1) (memV t (q.getD 0 (dflt .str)))))] [] [] (.val (.agg (encTree (setT t (q.getD 0 (dflt .str)) (unsetP (q.drop 1) (memV t (q.getD 0 (dflt .str)))))))))], [], []⟩)]) (bs := [false, false]) (tk := [4]) (bk := [1001]) (C := (True ∧ True ∧ True) ∧ ((tr 3 True) ∧ (((q.length : Int) == 1) = false) ∧ True) ∧ (True ∧ True ∧ (0 ≤ (0 : Int) ∧ (0 : Int) < q.length) ∧ True ∧ (okArgs [.agg (encTree t), vs (q.getD 0 (dflt .str))]) ∧ (tr 6 True)) ∧ ((True ∧ True ∧ True) ∧ ((!(memB t (q.getD 0 (dflt .str)))) = false) ∧ True) ∧ (True ∧ True ∧ (0 ≤ (0 : Int) ∧ (0 : Int) < q.length) ∧ (tr 3 ((0 ≤ (1 : Int) ∧ (1 : Int) ≤ (q.length : Int) ∧ (q.length : Int) ≤ (q.length : Int) ∧ (q.length : Int) ≤ (q.length : Int)) ∧ (okArgs [.agg (encTree (memV t (q.getD 0 (dflt .str)))), .row .str (q.drop 1)]) ∧ (okArgs [.agg (encTree t), vs (q.getD 0 (dflt .str)), .agg (encTree (unsetP (q.drop 1) (memV t (q.getD 0 (dflt .str)))))]) ∧ True ∧ True))) ∧ True) (lv := .ret) (T' := [(4, .ptr 1001 0)]) (B' := [(1001, .var [vi ((setT t (q.getD 0 (dflt .str)) (unsetP (q.drop 1) (memV t (q.getD 0 (dflt .str))))).kind), vb ((setT t (q.getD 0 (dflt .str)) (unsetP (q.drop 1) (memV t (q.getD 0 (dflt .str))))).b), vb ((setT t (q.getD 0 (dflt .str)) (unsetP (q.drop 1) (memV t (q.getD 0 (dflt .str))))).n.neg), .row (.int .u32) ((setT t (q.getD 0 (dflt .str)) (unsetP (q.drop 1) (memV t (q.getD 0 (dflt .str))))).n.m), vi ((setT t (q.getD 0 (dflt .str)) (unsetP (q.drop 1) (memV t (q.getD 0 (dflt .str))))).n.e), vs ((setT t (q.getD 0 (dflt .str)) (unsetP (q.drop 1) (memV t (q.getD 0 (dflt .str))))).s), .row .str ((setT t (q.getD 0 (dflt .str)) (unsetP (q.drop 1) (memV t (q.getD 0 (dflt .str))))).k), .row .tree ((setT t (q.getD 0 (dflt .str)) (unsetP (q.drop 1) (memV t (q.getD 0 (dflt .str))))).v)])]) mix hI hs ?_ ?_ ?_ ?_
   ·exact ⟨⟨⟨ent122, con122 _ _ (by have := cutK_nodes t; omega)⟩, trivial⟩, ⟨⟨ent77, ih _ _ (by rw [List.length_drop]; omega) (by rw [List.length_drop]; omega) (by rw [List.length_drop]; omega) (by have := memV_nodes' t (q.getD 0 (dflt .str)); omega)⟩, ⟨ent135, con135 _ _ _ (by have := cutK_nodes t; omega)⟩, trivial⟩, trivial⟩
   ·kernel_rfl
   ·exact ⟨⟨trivial, trivial, trivial⟩, ⟨tr_mk trivial 3, b1, trivial⟩, ⟨trivial, trivial, ⟨by omega, by omega⟩, trivial, rfl, tr_mk trivial 6⟩, ⟨⟨trivial, trivial, trivial⟩, (by rw [b2]; rfl), trivial⟩, ⟨trivial, trivial, ⟨by omega, by omega⟩, tr_mk (⟨(by (repeat' apply And.intro) <;> (try split) <;> omega), rfl, rfl, trivial, trivial⟩) 3⟩, trivial⟩
   intro a w hs
   exact FnQ_cast (out := .val (.agg (encTree (setT t (q.getD 0 (dflt .str)) (unsetP (q.drop 1) (memV t (q.getD 0 (dflt .str)))))))) (by rw [unsetP_yes (q := q) (by omega) b2]) (ret_ok [] hs ⟨by kernel_rfl, rfl⟩)
  ·skip
   refine way_L (tt := tt) (rs := [(3, ⟨[(4, ciA 122 [.agg (encTree t), vs (q.getD 0 (dflt .str))] [] [] (.val (.tup [.agg (encTree (memV t (q.getD 0 (dflt .str)))), vb (memB t (q.getD 0 (dflt .str)))])))], [], []⟩)]) (bs := [false, true]) (tk := [4]) (bk := [1001]) (C := (True ∧ True ∧ True) ∧ ((tr 3 True) ∧ (((q.length : Int) == 1) = false) ∧ True) ∧ (True ∧ True ∧ (0 ≤ (0 : Int) ∧ (0 : Int) < q.length) ∧ True ∧ (okArgs [.agg (encTree t), vs (q.getD 0 (dflt .str))]) ∧ (tr 6 True)) ∧ (True ∧ True ∧ True) ∧ ((!(memB t (q.getD 0 (dflt .str)))) = true) ∧ (True ∧ True ∧ True) ∧ True) (lv := .ret) (T' := [(4, .ptr 1001 0)]) (B' := [(1001, .var [vi t.kind, vb t.b, vb t.n.neg, .row (.int .u32) t.n.m, vi t.n.e, vs t.s, .row .str t.k, .row .tree t.v])]) mix hI hs ?_ ?_ ?_ ?_
   ·exact ⟨⟨⟨ent122, con122 _ _ (by have := cutK_nodes t; omega)⟩, trivial⟩, trivial⟩
   ·kernel_rfl
   ·exact ⟨⟨trivial, trivial, trivial⟩, ⟨tr_mk trivial 3, b1, trivial⟩, ⟨trivial, trivial, ⟨by omega, by omega⟩, trivial, rfl, tr_mk trivial 6⟩, ⟨trivial, trivial, trivial⟩, (by rw [b2]; rfl), ⟨trivial, trivial, trivial⟩, trivial⟩
   intro a w hs
   exact FnQ_cast (out := .val (.agg (encTree t))) (by rw [unsetP_no (q := q) (by omega) b2]) (ret_ok [] hs ⟨by kernel_rfl, rfl⟩)
theorem con77 (q : List ByteArray) (t : Tree) (hp : 0 < q.length) (hq : q.length < 1000000) (ht : nodes t < 1000000) : Con Tryz.prog I0 77 [.agg (encTree t), .row .str q] (.val (.agg (encTree (unsetP q t)))) := con77_ (q.length + 1) q t (Nat.lt_succ_self _) hp hq ht
end Go.Proofs.YtondpnipoogoiaaGreatDoor.F
namespace Go.Proofs.YtondpnipoogoiaaGreatDoor.F
open Go Go.RowKit Go.Proofs.Tryz
set_option linter.unusedVariables false
set_option linter.unusedSimpArgs false
def cmpB (a b : ByteArray) : Int := if Op.bytesLess a.toList b.toList = true then -1 else if gtB a b = true then 1 else 0
def cmpS : List ByteArray → List ByteArray → Int
  | [], [] => 0
  | [], _ :: _ => -1
  | _ :: _, [] => 1
  | x :: xs, y :: ys => if cmpB x y = 0 then cmpS xs ys else cmpB x y
theorem cmpS_go {xs ys : List ByteArray} {i : Nat} (hi : i < xs.length) (hj : i < ys.length) : cmpS (xs.drop i) (ys.drop i) = if cmpB (xs.getD i (dflt .str)) (ys.getD i (dflt .str)) = 0 then cmpS (xs.drop (i + 1)) (ys.drop (i + 1)) else cmpB (xs.getD i (dflt .str)) (ys.getD i (dflt .str)) := by
  rw [List.drop_eq_getElem_cons hi, List.drop_eq_getElem_cons hj, cmpS]
  have e : xs.getD i (dflt .str) = xs[i] := by rw [List.getD_eq_getElem?_getD, List.getElem?_eq_getElem hi]; rfl
  have e' : ys.getD i (dflt .str) = ys[i] := by rw [List.getD_eq_getElem?_getD, List.getElem?_eq_getElem hj]; rfl
  rw [e, e']
theorem cmpS_gt {xs ys : List ByteArray} {i : Nat} (hi : i < xs.length) (hj : ¬ i < ys.length) : cmpS (xs.drop i) (ys.drop i) = 1 := by
  rw [List.drop_eq_getElem_cons hi, List.drop_of_length_le (l := ys) (by omega)]; rfl
theorem cmpS_lt {xs ys : List ByteArray} {i : Nat} (hi : ¬ i < xs.length) (hj : i < ys.length) : cmpS (xs.drop i) (ys.drop i) = -1 := by
  rw [List.drop_of_length_le (l := xs) (by omega), List.drop_eq_getElem_cons hj]; rfl
theorem cmpS_nil {xs ys : List ByteArray} {i : Nat} (hi : ¬ i < xs.length) (hj : ¬ i < ys.length) : cmpS (xs.drop i) (ys.drop i) = 0 := by
  rw [List.drop_of_length_le (l := xs) (by omega), List.drop_of_length_le (l := ys) (by omega)]; rfl
def startsF (a b : List ByteArray) : Bool := decide ((a.length : Int) ≤ (b.length : Int)) && decide (a = b.take a.length)
theorem list_eq {a b : List ByteArray} (hl : a.length = b.length) (h : ∀ j, j < a.length → ∀ d, a.getD j d = b.getD j d) : a = b := by
  refine List.ext_getElem hl (fun i h1 h2 => ?_)
  have := h i h1 (dflt .str)
  rw [List.getD_eq_getElem?_getD, List.getD_eq_getElem?_getD, List.getElem?_eq_getElem h1, List.getElem?_eq_getElem h2] at this
  exact this
set_option maxRecDepth 100000 in
theorem con74 (xs : List (El .str)) (h : xs.length < 1000000000) : Con Tryz.prog I0 74 [.row .str xs] (.own 9 .str xs) := by
 refine con_of Tryz.func74 rfl (Nat.le_of_ble_eq_true rfl) stab (fun w0 fz a hI hs => ?_)
 obtain ⟨bn0, hbn0, hs⟩ := hs.isNil 0 .str xs rfl
 rcases Bool.eq_false_or_eq_true (bn0) with b1 | b1
 ·skip
  refine way_L (tt := tt) (rs := []) (bs := [true]) (tk := [2]) (bk := []) (C := (True ∧ True) ∧ (True ∧ True ∧ True) ∧ (bn0 = true) ∧ (True ∧ True) ∧ True) (lv := .ret) (T' := [(2, nilv)]) (B' := []) mix hI hs ?_ ?_ ?_ ?_
  ·exact trivial
  ·kernel_rfl
  ·exact ⟨⟨trivial, trivial⟩, ⟨trivial, trivial, trivial⟩, b1, ⟨trivial, trivial⟩, trivial⟩
  intro a w hs
  exact FnQ_cast (out := .own 9 .str ([])) (by rw [hbn0 b1]) (ret_ok [] hs (.inr ⟨by kernel_rfl, rfl⟩))
 ·skip
  refine way_L (tt := tt) (rs := []) (bs := [false]) (tk := [2]) (bk := [4002]) (C := (True ∧ True) ∧ ((True ∧ True ∧ True) ∧ (bn0 = false) ∧ True) ∧ (True ∧ True ∧ (((0 + xs.length) * 16 : Nat) ≤ 140737488355328 ∧ 0 + xs.length ≤ 140737488355328) ∧ True ∧ True) ∧ True) (lv := .ret) (T' := [(2, .own 4002)]) (B' := [(4002, .sl 9 .str (([]) ++ xs))]) mix hI hs ?_ ?_ ?_ ?_
  ·exact trivial
  ·kernel_rfl
  ·exact ⟨⟨trivial, trivial⟩, ⟨⟨trivial, trivial, trivial⟩, b1, trivial⟩, ⟨trivial, trivial, ⟨by omega, by omega⟩, trivial, trivial⟩, trivial⟩
  intro a w hs
  exact FnQ_cast (out := .own 9 .str (([]) ++ xs)) (by rw [List.nil_append]) (ret_ok [] hs (.inl ⟨4002, by kernel_rfl, rfl⟩))
set_option maxRecDepth 100000 in
theorem con70 (xs : List (El .strs)) (h : xs.length < 1000000000) : Con Tryz.prog I0 70 [.row .strs xs] (.own 26 .strs xs) := by
 refine con_of Tryz.func70 rfl (Nat.le_of_ble_eq_true rfl) stab (fun w0 fz a hI hs => ?_)
 obtain ⟨bn0, hbn0, hs⟩ := hs.isNil 0 .strs xs rfl
 rcases Bool.eq_false_or_eq_true (bn0) with b1 | b1
 ·skip
  refine way_L (tt := tt) (rs := []) (bs := [true]) (tk := [2]) (bk := []) (C := (True ∧ True) ∧ (True ∧ True ∧ True) ∧ (bn0 = true) ∧ (True ∧ True) ∧ True) (lv := .ret) (T' := [(2, nilv)]) (B' := []) mix hI hs ?_ ?_ ?_ ?_
  ·exact trivial
  ·kernel_rfl
  ·exact ⟨⟨trivial, trivial⟩, ⟨trivial, trivial, trivial⟩, b1, ⟨trivial, trivial⟩, trivial⟩
  intro a w hs
  exact FnQ_cast (out := .own 26 .strs ([])) (by rw [hbn0 b1]) (ret_ok [] hs (.inr ⟨by kernel_rfl, rfl⟩))
 ·skip
  refine way_L (tt := tt) (rs := []) (bs := [false]) (tk := [2]) (bk := [4002]) (C := (True ∧ True) ∧ ((True ∧ True ∧ True) ∧ (bn0 = false) ∧ True) ∧ (True ∧ True ∧ (((0 + xs.length) * 24 : Nat) ≤ 140737488355328 ∧ 0 + xs.length ≤ 140737488355328) ∧ True ∧ True) ∧ True) (lv := .ret) (T' := [(2, .own 4002)]) (B' := [(4002, .sl 26 .strs (([]) ++ xs))]) mix hI hs ?_ ?_ ?_ ?_
  ·exact trivial
  ·kernel_rfl
  ·exact ⟨⟨trivial, trivial⟩, ⟨⟨trivial, trivial, trivial⟩, b1, trivial⟩, ⟨trivial, trivial, ⟨by omega, by omega⟩, trivial, trivial⟩, trivial⟩
  intro a w hs
  exact FnQ_cast (out := .own 26 .strs (([]) ++ xs)) (by rw [List.nil_append]) (ret_ok [] hs (.inl ⟨4002, by kernel_rfl, rfl⟩))
set_option maxRecDepth 100000 in
theorem con134 (xs ys : List ByteArray) (h : xs.length < 1000000000) (h2 : ys.length < 1000000000) : Con Tryz.prog I0 134 [.row .str xs, .row .str ys] (.val (vb (decide (xs = ys)))) := by
 refine con_of Tryz.func134 rfl (Nat.le_of_ble_eq_true rfl) stab (fun w0 fz a hI hs => ?_)
 refine wp_seq ?_
 refine way_L (tt := tt) (rs := []) (bs := []) (tk := [0, 1]) (bk := []) (C := True ∧ True) (lv := .norm) (T' := [(0, .row .str xs), (1, .row .str ys)]) (B' := []) mix hI hs ?_ ?_ ?_ ?_
 ·exact trivial
 ·kernel_rfl
 ·exact ⟨trivial, trivial⟩
 intro a w hs
 refine then_norm ?_
 refine wp_seq ?_
 rcases Bool.eq_false_or_eq_true ((xs.length : Int) != (ys.length : Int)) with b1 | b1
 ·skip
  have n1 := bne_iff_ne.1 b1
  refine way_L (tt := tt) (rs := []) (bs := [true]) (tk := [4]) (bk := []) (C := (tr 5 True) ∧ (((xs.length : Int) != (ys.length : Int)) = true) ∧ (True ∧ True) ∧ True) (lv := .ret) (T' := [(4, vb false)]) (B' := []) mix hI hs ?_ ?_ ?_ ?_
  ·exact trivial
  ·kernel_rfl
  ·exact ⟨tr_mk trivial 5, b1, ⟨trivial, trivial⟩, trivial⟩
  intro a w hs
  refine then_ret ?_
  exact FnQ_cast (out := .val (vb false)) (by rw [decide_eq_false (fun e => by subst e; omega)]) (ret_ok [] hs ⟨by kernel_rfl, rfl⟩)
 ·skip
  have n1 := bne_eq_false_iff_eq.1 b1
  refine way_L (tt := tt) (rs := []) (bs := [false]) (tk := [0, 1]) (bk := []) (C := (tr 5 True) ∧ (((xs.length : Int) != (ys.length : Int)) = false) ∧ True) (lv := .norm) (T' := [(0, .row .str xs), (1, .row .str ys)]) (B' := []) mix hI hs ?_ ?_ ?_ ?_
  ·exact trivial
  ·kernel_rfl
  ·exact ⟨tr_mk trivial 5, b1, trivial⟩
  intro a w hs
  refine then_norm ?_
  refine wp_seq ?_
  refine wp_seq ?_
  refine way_L (tt := tt) (rs := []) (bs := []) (tk := [0, 1, 12, 13]) (bk := []) (C := tr 3 True) (lv := .norm) (T' := [(0, .row .str xs), (1, .row .str ys), (12, vi (xs.length : Int)), (13, vi 0)]) (B' := []) mix hI hs ?_ ?_ ?_ ?_
  ·exact trivial
  ·kernel_rfl
  ·exact tr_mk trivial 3
  intro a w hs
  refine then_norm ?_
  refine wp_block ?_
  refine loop_L (N := Tryz.f134.ntmps) (w0 := w0) (ow := noO fz) (α := Nat) (fun p => [(0, .row .str xs), (1, .row .str ys), (12, vi (xs.length : Int)), (13, vi ((p : Nat) : Int))]) (fun p => []) (fun p => p ≤ xs.length ∧ ∀ j, j < p → ∀ d, xs.getD j d = ys.getD j d) (fun p => xs.length - p) 0 ?_ ?_ ?_
  ·exact ⟨Nat.zero_le _, fun j hj => absurd hj (Nat.not_lt_zero _)⟩
  ·exact (SimL.cast hs (T' := [(0, .row .str xs), (1, .row .str ys), (12, vi (xs.length : Int)), (13, vi ((0 : Nat) : Int))]) (B' := []) (by rfl) rfl).ren [] (by kernel_rfl) (by kernel_rfl) (by kernel_rfl)
  rintro i hJ a w hs
  obtain ⟨hi, hall⟩ := hJ
  rcases Bool.eq_false_or_eq_true (decide (((i : Nat) : Int) < (xs.length : Int))) with b2 | b2
  ·skip
   have n2 := of_decide_eq_true b2
   rcases Bool.eq_false_or_eq_true ((xs.getD i (dflt .str)).toList == (ys.getD i (dflt .str)).toList) with b3 | b3
   ·skip
    have n3 := eq_of_beq b3
    refine way_L (tt := tt) (rs := []) (bs := [true, false]) (tk := [0, 1, 12, 13]) (bk := []) (C := (True ∧ True) ∧ (((decide (((i : Nat) : Int) < (xs.length : Int))) = true) ∧ True) ∧ ((True ∧ True ∧ True) ∧ (True ∧ True ∧ (0 ≤ ((i : Nat) : Int) ∧ ((i : Nat) : Int) < xs.length) ∧ (tr 3 ((0 ≤ ((i : Nat) : Int) ∧ ((i : Nat) : Int) < ys.length) ∧ True ∧ True ∧ True))) ∧ ((!((xs.getD i (dflt .str)).toList == (ys.getD i (dflt .str)).toList)) = false) ∧ True) ∧ (InR .i64 (((i : Nat) : Int) + 1)) ∧ True ∧ True) (lv := .norm) (T' := [(0, .row .str xs), (1, .row .str ys), (12, vi (xs.length : Int)), (13, vi (((i : Nat) : Int) + 1))]) (B' := []) mix hI hs ?_ ?_ ?_ ?_
    ·exact trivial
    ·kernel_rfl
    ·exact ⟨⟨trivial, trivial⟩, ⟨b2, trivial⟩, ⟨⟨trivial, trivial, trivial⟩, ⟨trivial, trivial, ⟨by omega, by omega⟩, tr_mk (⟨⟨by omega, by omega⟩, trivial, trivial, trivial⟩) 3⟩, (by rw [b3]; rfl), trivial⟩, (inR64 (by omega) (by omega)), trivial, trivial⟩
    intro a w hs
    refine then_norm ⟨i + 1, ⟨by omega, fun j hj d => by rcases Nat.lt_succ_iff_lt_or_eq.1 hj with h | h; exact hall j h d; subst h; rw [getD_any (by omega) d (dflt .str), getD_any (l := ys) (by omega) d (dflt .str)]; exact eqT_iff.1 b3⟩, by omega, ?_⟩
    (have e0_ : (((i : Nat) : Int) + 1) = ((((i + 1) : Nat) : Int)) := (by first | rfl | (omega)); exact (SimL.cast hs (T' := [(0, .row .str xs), (1, .row .str ys), (12, vi (xs.length : Int)), (13, vi (((i + 1) : Nat) : Int))]) (B' := []) (by first | rfl | (rw [e0_]; done) | (simp only [e0_]; done) | (simp only [e0_]; rfl)) (by first | rfl | (rw [e0_]; done) | (simp only [e0_]; done) | (simp only [e0_]; rfl))).ren [] (by kernel_rfl) (by kernel_rfl) (by kernel_rfl))
   ·skip
    have n3 := beq_eq_false_iff_ne.1 b3
    refine way_L (tt := tt) (rs := []) (bs := [true, true]) (tk := [4]) (bk := []) (C := (True ∧ True) ∧ (((decide (((i : Nat) : Int) < (xs.length : Int))) = true) ∧ True) ∧ (True ∧ True ∧ True) ∧ (True ∧ True ∧ (0 ≤ ((i : Nat) : Int) ∧ ((i : Nat) : Int) < xs.length) ∧ (tr 3 ((0 ≤ ((i : Nat) : Int) ∧ ((i : Nat) : Int) < ys.length) ∧ True ∧ True ∧ True))) ∧ ((!((xs.getD i (dflt .str)).toList == (ys.getD i (dflt .str)).toList)) = true) ∧ (True ∧ True) ∧ True) (lv := .ret) (T' := [(4, vb false)]) (B' := []) mix hI hs ?_ ?_ ?_ ?_
    ·exact trivial
    ·kernel_rfl
    ·exact ⟨⟨trivial, trivial⟩, ⟨b2, trivial⟩, ⟨trivial, trivial, trivial⟩, ⟨trivial, trivial, ⟨by omega, by omega⟩, tr_mk (⟨⟨by omega, by omega⟩, trivial, trivial, trivial⟩) 3⟩, (by rw [b3]; rfl), ⟨trivial, trivial⟩, trivial⟩
    intro a w hs
    refine then_ret ?_
    refine inb_ret ?_
    refine then_ret ?_
    exact FnQ_cast (out := .val (vb false)) (by rw [decide_eq_false (fun e => by subst e; exact absurd (eqT_self _) (by rw [show eqT _ _ = false from b3]; decide))]) (ret_ok [] hs ⟨by kernel_rfl, rfl⟩)
  ·skip
   have n2 := of_decide_eq_false b2
   refine way_L (tt := tt) (rs := []) (bs := [false]) (tk := []) (bk := []) (C := (True ∧ True) ∧ ((decide (((i : Nat) : Int) < (xs.length : Int))) = false) ∧ True) (lv := .exit 0) (T' := []) (B' := []) mix hI hs ?_ ?_ ?_ ?_
   ·exact trivial
   ·kernel_rfl
   ·exact ⟨⟨trivial, trivial⟩, b2, trivial⟩
   intro a w hs
   refine then_exit ?_
   refine inb_hit ?_
   refine then_norm ?_
   refine way_L (tt := tt) (rs := []) (bs := []) (tk := [4]) (bk := []) (C := (True ∧ True) ∧ True) (lv := .ret) (T' := [(4, vb true)]) (B' := []) mix hI hs ?_ ?_ ?_ ?_
   ·exact trivial
   ·kernel_rfl
   ·exact ⟨⟨trivial, trivial⟩, trivial⟩
   intro a w hs
   exact FnQ_cast (out := .val (vb true)) (by rw [decide_eq_true (list_eq (by omega) (fun j hj d => hall j (by omega) d))]) (ret_ok [] hs ⟨by kernel_rfl, rfl⟩)
set_option maxRecDepth 100000 in
theorem con73 (xs ys : List ByteArray) (h : xs.length < 1000000000) (h2 : ys.length < 1000000000) : Con Tryz.prog I0 73 [.row .str xs, .row .str ys] (.val (vb (startsF xs ys))) := by
 refine con_of Tryz.func73 rfl (Nat.le_of_ble_eq_true rfl) stab (fun w0 fz a hI hs => ?_)
 rcases Bool.eq_false_or_eq_true (decide ((xs.length : Int) ≤ (ys.length : Int))) with b1 | b1
 ·skip
  have n1 := of_decide_eq_true b1
  refine way_L (tt := tt) (rs := [(1, ⟨[(11, ciA 134 [.row .str xs, .row .str (ys.take xs.length)] [] [] (.val (vb (decide (xs = ys.take xs.length)))))], [(6, true), (7, true), (8, true), (9, true), (10, true), (11, true), (1012, true)], []⟩)]) (bs := []) (tk := [4]) (bk := []) (C := (True ∧ True) ∧ (tr 6 (((decide ((xs.length : Int) ≤ (ys.length : Int))) = true) ∧ True ∧ ((decide ((xs.length : Int) ≤ (ys.length : Int))) = true) ∧ True ∧ ((decide ((xs.length : Int) ≤ (ys.length : Int))) = true) ∧ True ∧ ((decide ((xs.length : Int) ≤ (ys.length : Int))) = true) ∧ True ∧ ((decide ((xs.length : Int) ≤ (ys.length : Int))) = true) ∧ (0 ≤ (0 : Int) ∧ (0 : Int) ≤ (xs.length : Int) ∧ (xs.length : Int) ≤ (ys.length : Int) ∧ (ys.length : Int) ≤ (ys.length : Int)) ∧ ((decide ((xs.length : Int) ≤ (ys.length : Int))) = true) ∧ (okArgs [.row .str xs, .row .str (ys.take xs.length)]) ∧ ((decide ((xs.length : Int) ≤ (ys.length : Int))) = true) ∧ True ∧ True)) ∧ True) (lv := .ret) (T' := [(4, vb (decide (xs = ys.take xs.length)))]) (B' := []) mix hI hs ?_ ?_ ?_ ?_
  ·exact ⟨⟨⟨ent134, con134 _ _ (by omega) (by simp only [List.length_take]; omega)⟩, trivial⟩, trivial⟩
  ·kernel_rfl
  ·exact ⟨⟨trivial, trivial⟩, tr_mk (⟨b1, trivial, b1, trivial, b1, trivial, b1, trivial, b1, (by (repeat' apply And.intro) <;> (try split) <;> omega), b1, rfl, b1, trivial, trivial⟩) 6, trivial⟩
  intro a w hs
  exact FnQ_cast (out := .val (vb (decide (xs = ys.take xs.length)))) (by simp only [startsF]; rw [b1]; rfl) (ret_ok [] hs ⟨by kernel_rfl, rfl⟩)
 ·skip
  have n1 := of_decide_eq_false b1
  refine way_L (tt := tt) (rs := [(1, ⟨[], [(6, false), (7, false), (8, false), (9, false), (10, false), (11, false), (1012, false)], []⟩)]) (bs := []) (tk := [4]) (bk := []) (C := (True ∧ True) ∧ (tr 6 (((decide ((xs.length : Int) ≤ (ys.length : Int))) = false) ∧ ((decide ((xs.length : Int) ≤ (ys.length : Int))) = false) ∧ ((decide ((xs.length : Int) ≤ (ys.length : Int))) = false) ∧ ((decide ((xs.length : Int) ≤ (ys.length : Int))) = false) ∧ ((decide ((xs.length : Int) ≤ (ys.length : Int))) = false) ∧ ((decide ((xs.length : Int) ≤ (ys.length : Int))) = false) ∧ ((decide ((xs.length : Int) ≤ (ys.length : Int))) = false) ∧ True ∧ True)) ∧ True) (lv := .ret) (T' := [(4, vb false)]) (B' := []) mix hI hs ?_ ?_ ?_ ?_
  ·exact ⟨trivial, trivial⟩
  ·kernel_rfl
  ·exact ⟨⟨trivial, trivial⟩, tr_mk (⟨b1, b1, b1, b1, b1, b1, b1, trivial, trivial⟩) 6, trivial⟩
  intro a w hs
  exact FnQ_cast (out := .val (vb false)) (by simp only [startsF]; rw [b1]; rfl) (ret_ok [] hs ⟨by kernel_rfl, rfl⟩)
end Go.Proofs.YtondpnipoogoiaaGreatDoor.F
namespace Go.Proofs
open Go.Shelf
def Tryz.sortL_ren : Go.Shelf.Ren := ⟨fun | 6 => 71 | 15 => 132 | 14 => 131 | 28 => 185 | 29 => 186 | 20 => 177 | 21 => 178 | 22 => 179 | 23 => 180 | 24 => 181 | 25 => 182 | 26 => 183 | 27 => 184 | 46 => 219 | 47 => 220 | 48 => 221 | 49 => 222 | 50 => 223 | 57 => 253 | n => n, fun | 22 => 33 | 24 => 26 | 25 => 93 | 3 => 3 | 39 => 132 | 0 => 0 | 53 => 160 | 55 => 168 | 4 => 4 | 46 => 174 | 45 => 173 | 50 => 170 | 5 => 5 | 9 => 9 | 66 => 201 | 70 => 120 | 76 => 226 | 77 => 227 | n => n, fun | n => n⟩
theorem Tryz.sortL : Go.Proofs.SlLaysF.n6 Tryz.prog Tryz.sortL_ren := {
  mixed := by kernel_rfl
  f6 := ⟨Tryz.f71.name, by decide, Tryz.func71.trans (congrArg some (by kernel_rfl))⟩
  f14 := ⟨Tryz.f131.name, by decide, Tryz.func131.trans (congrArg some (by kernel_rfl))⟩
  f15 := Tryz.func132.trans (congrArg some (by kernel_rfl))
  f20 := ⟨Tryz.f177.name, by decide, Tryz.func177.trans (congrArg some (by kernel_rfl))⟩
  f21 := ⟨Tryz.f178.name, by decide, Tryz.func178.trans (congrArg some (by kernel_rfl))⟩
  f22 := ⟨Tryz.f179.name, by decide, Tryz.func179.trans (congrArg some (by kernel_rfl))⟩
  f23 := ⟨Tryz.f180.name, by decide, Tryz.func180.trans (congrArg some (by kernel_rfl))⟩
  f24 := ⟨Tryz.f181.name, by decide, Tryz.func181.trans (congrArg some (by kernel_rfl))⟩
  f25 := ⟨Tryz.f182.name, by decide, Tryz.func182.trans (congrArg some (by kernel_rfl))⟩
  f26 := ⟨Tryz.f183.name, by decide, Tryz.func183.trans (congrArg some (by kernel_rfl))⟩
  f27 := ⟨Tryz.f184.name, by decide, Tryz.func184.trans (congrArg some (by kernel_rfl))⟩
  f28 := Tryz.func185.trans (congrArg some (by kernel_rfl))
  f29 := Tryz.func186.trans (congrArg some (by kernel_rfl))
  f46 := ⟨Tryz.f219.name, by decide, Tryz.func219.trans (congrArg some (by kernel_rfl))⟩
  f47 := Tryz.func220.trans (congrArg some (by kernel_rfl))
  f48 := Tryz.func221.trans (congrArg some (by kernel_rfl))
  f49 := ⟨Tryz.f222.name, by decide, Tryz.func222.trans (congrArg some (by kernel_rfl))⟩
  f50 := ⟨Tryz.f223.name, by decide, Tryz.func223.trans (congrArg some (by kernel_rfl))⟩
  f57 := ⟨Tryz.f253.name, by decide, Tryz.func253.trans (congrArg some (by kernel_rfl))⟩
  t0 := Tryz.underlying0
  a0 := Tryz.isAgg0
  z0 := Tryz.sizeOf0
  v0 := Tryz.zeroValue0
  t3 := Tryz.underlying3
  a3 := Tryz.isAgg3
  z3 := Tryz.sizeOf3
  v3 := Tryz.zeroValue3
  t4 := Tryz.underlying4
  a4 := Tryz.isAgg4
  z4 := Tryz.sizeOf4
  v4 := Tryz.zeroValue4
  t5 := Tryz.underlying5
  a5 := Tryz.isAgg5
  z5 := Tryz.sizeOf5
  v5 := Tryz.zeroValue5
  t9 := Tryz.underlying9
  a9 := Tryz.isAgg9
  z9 := Tryz.sizeOf9
  v9 := Tryz.zeroValue9
  t22 := Tryz.underlying33
  a22 := Tryz.isAgg33
  z22 := Tryz.sizeOf33
  v22 := Tryz.zeroValue33
  a24 := Tryz.isAgg26
  z24 := Tryz.sizeOf26
  t25 := Tryz.underlying93
  a25 := Tryz.isAgg93
  z25 := Tryz.sizeOf93
  v25 := Tryz.zeroValue93
  t39 := Tryz.underlying132
  a39 := Tryz.isAgg132
  z39 := Tryz.sizeOf132
  v39 := Tryz.zeroValue132
  t45 := Tryz.underlying173
  a45 := Tryz.isAgg173
  z45 := Tryz.sizeOf173
  v45 := Tryz.zeroValue173
  t46 := Tryz.underlying174
  a46 := Tryz.isAgg174
  z46 := Tryz.sizeOf174
  v46 := Tryz.zeroValue174
  t50 := Tryz.underlying170
  a50 := Tryz.isAgg170
  z50 := Tryz.sizeOf170
  v50 := Tryz.zeroValue170
  t53 := Tryz.underlying160
  a53 := Tryz.isAgg160
  z53 := Tryz.sizeOf160
  v53 := Tryz.zeroValue160
  t55 := Tryz.underlying168
  a55 := Tryz.isAgg168
  z55 := Tryz.sizeOf168
  v55 := Tryz.zeroValue168
  t66 := Tryz.underlying201
  a66 := Tryz.isAgg201
  z66 := Tryz.sizeOf201
  v66 := Tryz.zeroValue201
  t70 := Tryz.underlying120
  a70 := Tryz.isAgg120
  z70 := Tryz.sizeOf120
  v70 := Tryz.zeroValue120
  t76 := Tryz.underlying226
  a76 := Tryz.isAgg226
  z76 := Tryz.sizeOf226
  v76 := Tryz.zeroValue226
  t77 := Tryz.underlying227
  a77 := Tryz.isAgg227
  z77 := Tryz.sizeOf227
  v77 := Tryz.zeroValue227 }
end Go.Proofs
namespace Go.Proofs.YtondpnipoogoiaaGreatDoor.F
open Go Go.RowKit Go.Proofs
set_option linter.unusedVariables false
set_option linter.unusedSimpArgs false
theorem walk187 (x : ByteArray) (w : World) : Calls Tryz.prog 187 #[.string x] w fun e w' => e = .returned (.bool false) ∧ w' = w := by
  go_enter Tryz.func187, Tryz.ntmps187
  go_wp2
  go_ret
  exact ⟨by simp, rfl⟩
set_option maxHeartbeats 1000000 in
theorem walk133 (x y : ByteArray) (w : World) : Calls Tryz.prog 133 #[.string x, .string y] w fun e w' => e = .returned (.int .i64 (cmpB x y)) ∧ w' = w := by
  go_enter Tryz.func133, Tryz.ntmps133
  go_wp2_with (go_at_call 187; refine (walk187 _ _).mono ?_; rintro e w' ⟨rfl, rfl⟩)
  all_goals (go_ret; refine ⟨?_, rfl⟩; unfold cmpB gtB; simp_all)
def RowS (W : World) (A : Option Addr) (xs : List ByteArray) : Prop := ∀ i, i < xs.length → ∃ ad, A = some ad ∧ W.cell? (ad.add i) = some (.string (xs.getD i (dflt .str)))
set_option maxHeartbeats 4000000 in
set_option maxRecDepth 100000 in
theorem walk72 (xs ys : List ByteArray) (A B : Option Addr) (c d : Nat) (w : World) (hx : RowS w A xs) (hy : RowS w B ys) (h : xs.length < 1000000000) (h2 : ys.length < 1000000000) : Calls Tryz.prog 72 #[.slice A xs.length c, .slice B ys.length d] w fun e w' => e = .returned (.int .i64 (cmpS xs ys)) ∧ w' = w := by
  go_enter Tryz.func72, Tryz.ntmps72
  go_wp2
  go_loopw [11] (fun vi wr => ∃ i : Nat, vi = .int .i64 i ∧ wr = w ∧ i ≤ xs.length ∧ i ≤ ys.length ∧ cmpS (xs.drop i) (ys.drop i) = cmpS xs ys) (fun vi _ => xs.length - (intOf vi).toNat)
  case atStart => exact ⟨0, rfl, rfl, Nat.zero_le _, Nat.zero_le _, rfl⟩
  case round =>
    obtain ⟨i, rfl, rfl, hi, hi2, hc⟩ := hrel
    by_cases hlt : i < xs.length
    · obtain ⟨x, hxe⟩ : ∃ x, xs.getD i (dflt .str) = x := ⟨_, rfl⟩
      by_cases hlj : i < ys.length
      · obtain ⟨y, hye⟩ : ∃ y, ys.getD i (dflt .str) = y := ⟨_, rfl⟩
        have hgo := cmpS_go hlt hlj
        rw [hxe, hye, hc] at hgo
        obtain ⟨ad, rfl, hcx⟩ := hx i hlt
        obtain ⟨bd, rfl, hcy⟩ := hy i hlj
        rw [hxe] at hcx; rw [hye] at hcy
        clear hxe hye hc hx hy
        go_wp2_with (go_at_call 133; refine (walk133 _ _ _).mono ?_; rintro e w' ⟨rfl, rfl⟩)
        · go_ret
          rename_i hne
          exact ⟨by rw [hgo, if_neg (by simpa using hne)]; rfl, rfl⟩
        · rename_i he
          rw [if_pos (by simpa using he)] at hgo
          exact ⟨⟨i + 1, rfl, trivial, by omega, by omega, hgo.symm⟩, by simp only [intOf]; omega⟩
      · have hgo := cmpS_gt hlt hlj
        rw [hc] at hgo
        obtain ⟨ad, rfl, hcx⟩ := hx i hlt
        rw [hxe] at hcx
        clear hxe hc hx hy
        go_wp2
        go_ret
        exact ⟨by rw [hgo]; rfl, rfl⟩
    · by_cases hlj : i < ys.length
      · have hgo := cmpS_lt hlt hlj
        rw [hc] at hgo
        clear hc hx hy
        go_wp2
        go_ret
        exact ⟨by rw [hgo]; rfl, rfl⟩
      · have hgo := cmpS_nil hlt hlj
        rw [hc] at hgo
        clear hc hx hy
        go_wp2
        go_ret
        exact ⟨by rw [hgo]; rfl, rfl⟩
end Go.Proofs.YtondpnipoogoiaaGreatDoor.F
namespace Go.Proofs.YtondpnipoogoiaaGreatDoor.F
open Go Go.RowKit
set_option linter.unusedVariables false
set_option linter.unusedSimpArgs false
def ltB (a b : ByteArray) : Prop := a.toList < b.toList
theorem ltB_irrefl (a : ByteArray) : ¬ ltB a a := List.lt_irrefl _
theorem ltB_trans {a b c : ByteArray} (h1 : ltB a b) (h2 : ltB b c) : ltB a c := List.lt_trans h1 h2
theorem toList_inj {a b : ByteArray} (h : a.toList = b.toList) : a = b := eqT_iff.1 (by unfold eqT; rw [h]; simp)
theorem ltB_tri (a b : ByteArray) : ltB a b ∨ a = b ∨ ltB b a := by
  by_cases h1 : a.toList < b.toList
  · exact .inl h1
  · by_cases h2 : b.toList < a.toList
    · exact .inr (.inr h2)
    · exact .inr (.inl (toList_inj (List.le_antisymm (List.not_lt.1 h2) (List.not_lt.1 h1))))
theorem ltB_less {a b : ByteArray} : Op.bytesLess a.toList b.toList = true ↔ ltB a b := by rw [bytesLess_eq]; exact decide_eq_true_iff
theorem cmpB_of_lt {a b : ByteArray} (h : ltB a b) : cmpB a b = -1 := if_pos (ltB_less.2 h)
theorem cmpB_self (a : ByteArray) : cmpB a a = 0 := by
  unfold cmpB gtB
  rw [if_neg (fun h => ltB_irrefl a (ltB_less.1 h))]
  simp
theorem cmpB_of_gt {a b : ByteArray} (h : ltB b a) : cmpB a b = 1 := by
  have h1 : ¬ ltB a b := fun h2 => ltB_irrefl _ (ltB_trans h h2)
  have h2 : Op.bytesLess a.toList b.toList = false := by
    cases hb : Op.bytesLess a.toList b.toList with
    | false => rfl
    | true => exact absurd (ltB_less.1 hb) h1
  have h3 : (a.toList == b.toList) = false := by
    cases hb : a.toList == b.toList with
    | false => rfl
    | true =>
      have := toList_inj (eq_of_beq hb)
      subst this; exact absurd h h1
  unfold cmpB gtB
  rw [h2, h3]; rfl
theorem cmpB_neg {a b : ByteArray} : cmpB a b < 0 ↔ ltB a b := by
  rcases ltB_tri a b with h | h | h
  · rw [cmpB_of_lt h]; simp [h]
  · subst h; rw [cmpB_self]; simp [ltB_irrefl]
  · rw [cmpB_of_gt h]; exact ⟨fun h => absurd h (by decide), fun h2 => absurd (ltB_trans h h2) (ltB_irrefl _)⟩
theorem cmpB_zero {a b : ByteArray} : cmpB a b = 0 ↔ a = b := by
  rcases ltB_tri a b with h | h | h
  · rw [cmpB_of_lt h]; exact ⟨fun h => absurd h (by decide), fun e => by subst e; exact absurd h (ltB_irrefl _)⟩
  · subst h; simp [cmpB_self]
  · rw [cmpB_of_gt h]; exact ⟨fun h => absurd h (by decide), fun e => by subst e; exact absurd h (ltB_irrefl _)⟩
theorem cmpB_pos {a b : ByteArray} : 0 < cmpB a b ↔ ltB b a := by
  rcases ltB_tri a b with h | h | h
  · rw [cmpB_of_lt h]; exact ⟨fun h => absurd h (by decide), fun h2 => absurd (ltB_trans h h2) (ltB_irrefl _)⟩
  · subst h; rw [cmpB_self]; simp [ltB_irrefl]
  · rw [cmpB_of_gt h]; simp [h]
theorem cmpS_self : ∀ xs : List ByteArray, cmpS xs xs = 0
  | [] => rfl
  | x :: xs => by rw [cmpS, cmpB_self, if_pos rfl, cmpS_self xs]
theorem cmpS_zero : ∀ {xs ys : List ByteArray}, cmpS xs ys = 0 → xs = ys
  | [], [], _ => rfl
  | [], _ :: _, h => absurd h (by simp [cmpS])
  | _ :: _, [], h => absurd h (by simp [cmpS])
  | x :: xs, y :: ys, h => by
    rw [cmpS] at h
    split at h
    · rename_i e
      rw [cmpB_zero.1 e, cmpS_zero h]
    · rename_i e; exact absurd h e
theorem cmpS_swap : ∀ (xs ys : List ByteArray), cmpS xs ys < 0 ↔ 0 < cmpS ys xs
  | [], [] => by simp [cmpS]
  | [], _ :: _ => by simp [cmpS]
  | _ :: _, [] => by simp [cmpS]
  | x :: xs, y :: ys => by
    rw [cmpS, cmpS]
    by_cases e : x = y
    · subst e
      rw [cmpB_self, if_pos rfl, if_pos rfl]; exact cmpS_swap xs ys
    · rw [if_neg (fun h => e (cmpB_zero.1 h)), if_neg (fun h => e (cmpB_zero.1 h).symm), cmpB_neg, cmpB_pos]
theorem cmpS_trans : ∀ {xs ys zs : List ByteArray}, cmpS xs ys < 0 → cmpS ys zs < 0 → cmpS xs zs < 0
  | [], [], _, h, _ => absurd h (by simp [cmpS])
  | _ :: _, [], _, h, _ => absurd h (by simp [cmpS])
  | _, _ :: _, [], _, h => absurd h (by simp [cmpS])
  | [], _ :: _, _ :: _, _, _ => by simp [cmpS]
  | x :: xs, y :: ys, z :: zs, h1, h2 => by
    rw [cmpS] at h1 h2 ⊢
    by_cases e1 : x = y
    · subst e1
      rw [cmpB_self, if_pos rfl] at h1
      by_cases e2 : x = z
      · subst e2
        rw [cmpB_self, if_pos rfl] at h2 ⊢
        exact cmpS_trans h1 h2
      · rw [if_neg (fun h => e2 (cmpB_zero.1 h))] at h2 ⊢
        exact h2
    · rw [if_neg (fun h => e1 (cmpB_zero.1 h)), cmpB_neg] at h1
      by_cases e2 : y = z
      · subst e2
        rw [if_neg (fun h => e1 (cmpB_zero.1 h)), cmpB_neg]; exact h1
      · rw [if_neg (fun h => e2 (cmpB_zero.1 h)), cmpB_neg] at h2
        have h3 := ltB_trans h1 h2
        rw [if_neg (fun h => by rw [cmpB_zero.1 h] at h3; exact ltB_irrefl _ h3), cmpB_neg]; exact h3
theorem cmpS_le_trans {xs ys zs : List ByteArray} (h1 : ¬ cmpS xs ys < 0) (h2 : ¬ cmpS ys zs < 0) : ¬ cmpS xs zs < 0 := by
  intro h
  rcases Int.lt_trichotomy (cmpS xs ys) 0 with a | a | a
  · exact h1 a
  · rw [cmpS_zero a] at h; exact h2 h
  · have := cmpS_trans ((cmpS_swap _ _).2 a) h
    exact h2 this
theorem cmpS_anti {xs ys : List ByteArray} (h1 : ¬ cmpS xs ys < 0) (h2 : ¬ cmpS ys xs < 0) : xs = ys := by
  rcases Int.lt_trichotomy (cmpS xs ys) 0 with a | a | a
  · exact absurd a h1
  · exact cmpS_zero a
  · exact absurd ((cmpS_swap _ _).2 a) h2
end Go.Proofs.YtondpnipoogoiaaGreatDoor.F
namespace Go.Proofs.YtondpnipoogoiaaGreatDoor.F
open Go Go.RowKit Go.Proofs Go.Sort
set_option linter.unusedVariables false
set_option linter.unusedSimpArgs false
def sortP (l : List (List ByteArray)) : List (List ByteArray) := l.mergeSort (fun x y => !decide (cmpS y x < 0))
structure It (w : World) (fz : Nat → Prop) (η : Nat → Option Value) where
  v : Value
  xs : List ByteArray
  hr : R w fz η v (.row .str xs)
  len : xs.length < 1000000000
section
variable {w : World} {fz : Nat → Prop} {η : Nat → Option Value}
instance : Inhabited (It w fz η) := ⟨⟨.slice none 0 0, [], .row none 0 .str [] (fun _ _ => .bool false) (Nat.le_refl _) (Nat.zero_le _) (fun i x h => by simp at h) (fun i x j y h => by simp at h), by decide⟩⟩
theorem its : ∀ (xs : List (List ByteArray)) (cs : List Value), cs.length = xs.length → (∀ (i : Nat) (x : List ByteArray) (v : Value), xs[i]? = some x → cs[i]? = some v → R w fz η v (.row .str x)) → (∀ x ∈ xs, x.length < 1000000000) → ∃ l : List (It w fz η), l.map It.v = cs ∧ l.map It.xs = xs
  | [], [], _, _, _ => ⟨[], rfl, rfl⟩
  | [], _ :: _, h, _, _ => by simp at h
  | _ :: _, [], h, _, _ => by simp at h
  | x :: xs, c :: cs, h, hr, hl => by
    obtain ⟨l, h1, h2⟩ := its xs cs (by simpa using h) (fun i x v hx hv => hr (i + 1) x v (by simpa using hx) (by simpa using hv)) (fun x hx => hl x (by simp [hx]))
    exact ⟨⟨c, x, hr 0 x c rfl rfl, hl x (by simp)⟩ :: l, by simp [h1], by simp [h2]⟩
theorem rowS_of {W : World} {v : Value} {xs : List ByteArray} (hr : R w fz η v (.row .str xs)) (hb : ∀ k, fz k → k < w.heap.size → W.heap[k]? = w.heap[k]?) : ∃ A c, v = .slice A xs.length c ∧ RowS W A xs := by
  obtain ⟨A, c, rfl, _, _, h⟩ := hr.row_inv
  refine ⟨A, c, rfl, fun i hi => ?_⟩
  obtain ⟨ad, rfl, hf, hlt, hh⟩ := h i (xs.getD i (dflt .str)) (by rw [List.getD_eq_getElem?_getD, List.getElem?_eq_getElem hi]; rfl)
  obtain ⟨u, hu, hru⟩ := hh 0 _ rfl
  have := hru.lit_inv
  subst this
  refine ⟨ad, rfl, ?_⟩
  have e : i * sz Ty.str + 0 = i := by simp [sz]
  rw [e] at hu
  rw [← hu]
  exact World.cell?_of_block (by rw [F.add_block]; exact hb ad.block hf hlt)
theorem it_one (x : It w fz η) : x.v.oneCell' = true := by
  obtain ⟨A, c, h, _⟩ := x.hr.row_inv
  rw [h]; rfl
theorem it_cmp (g : Nat) (hg : ∀ k, fz k → k ≠ g) (size : Nat) : CmpLays1 Tryz.prog 72 #[] (It.v : It w fz η → Value) (fun x y => cmpS x.xs y.xs) g 0 size w := by
  intro m os dk hs x y
  have hb : ∀ k, fz k → k < w.heap.size → (sortWorld It.v w g 0 m dk os).heap[k]? = w.heap[k]? := by
    intro k hk hlt
    have hne := hg k hk
    unfold sortWorld
    rw [heap_grow_old _ _ (by rw [size_putRow, heap_ahead]; exact hlt)]
    simp [putRow, mapBlock, Array.getElem?_modify, Ne.symm hne]
  obtain ⟨A, c, hA, h1⟩ := rowS_of x.hr hb
  obtain ⟨B, d, hB, h2⟩ := rowS_of y.hr hb
  rw [hA, hB, show (#[Value.slice A x.xs.length c, Value.slice B y.xs.length d] ++ (#[] : Array Value)) = #[Value.slice A x.xs.length c, Value.slice B y.xs.length d] by simp]
  refine (walk72 x.xs y.xs A B c d _ h1 h2 x.len y.len).mono ?_
  rintro e w' ⟨rfl, rfl⟩
  exact ⟨rfl, 0, #[], (grow_empty _).symm⟩
theorem it_swo : SWO (ltOf fun x y : It w fz η => cmpS x.xs y.xs) where
  irrefl x := by simp [ltOf, cmpS_self]
  trans x y z h1 h2 := by simp only [ltOf, decide_eq_true_eq] at *; exact cmpS_trans h1 h2
  ntrans x y z h1 h2 := by simp only [ltOf, decide_eq_false_iff_not] at *; exact cmpS_le_trans h1 h2
end
theorem sort_unique {w : World} {fz : Nat → Prop} {η : Nat → Option Value} {d d' : Array (It w fz η)} {xs : List (List ByteArray)} (hd : d.toList.map It.xs = xs) (hp : PermIn 0 d.size d d') (hs : SortedIn (ltOf fun x y : It w fz η => cmpS x.xs y.xs) 0 d.size d') : d'.toList.map It.xs = sortP xs := by
  have hsz : d'.size = d.size := hp.1
  have hperm : d'.toList.Perm d.toList := by
    have := hp.2.2
    rw [show d'.extract 0 d.size = d' by rw [← hsz]; simp, show d.extract 0 d.size = d by simp] at this
    exact this
  refine List.Perm.eq_of_pairwise (le := fun a b => ¬ cmpS b a < 0) (fun a b _ _ h1 h2 => cmpS_anti h2 h1) ?_ ?_ ?_
  · rw [List.pairwise_map, List.pairwise_iff_getElem]
    intro i j hi hj hij
    have h := hs i j (Nat.zero_le _) hij (by simpa [hsz] using hj)
    have hi' : i < d'.size := by simpa using hi
    have hj' : j < d'.size := by simpa using hj
    simp only [ltOf, decide_eq_false_iff_not] at h
    rw [getElem!_pos d' i hi', getElem!_pos d' j hj'] at h
    simpa using h
  · have h := List.pairwise_mergeSort (le := fun x y : List ByteArray => !decide (cmpS y x < 0)) (fun a b c h1 h2 => by
      simp only [Bool.not_eq_true', decide_eq_false_iff_not] at *; exact cmpS_le_trans h2 h1) (fun a b => by
      by_cases h : cmpS b a < 0
      · have h2 : ¬ cmpS a b < 0 := fun h3 => by have := cmpS_trans h h3; rw [cmpS_self] at this; exact absurd this (by decide)
        simp [h2]
      · simp [h]) xs
    exact h.imp (fun h => by simpa using h)
  · exact (hperm.map It.xs).trans (by rw [hd]; exact (List.mergeSort_perm _ _).symm)
theorem putCells_take {α : Type} [Inhabited α] (f : α → Value) (d : Array α) (c : Array Value) (h : d.size ≤ c.size) : (putCells f 0 d c).toList.take d.size = d.toList.map f := by
  refine List.ext_getElem? (fun i => ?_)
  rw [List.getElem?_take, List.getElem?_map]
  by_cases hi : i < d.size
  · rw [if_pos hi]
    simp only [putCells, Array.getElem?_toList, Array.getElem?_mapIdx]
    rw [Array.getElem?_eq_getElem (show i < c.size by omega), Array.getElem?_eq_getElem hi]
    simp only [Option.map_some]
    rw [if_pos ⟨Nat.zero_le _, by omega⟩, Nat.sub_zero, getElem!_pos d i hi]
  · rw [if_neg hi]
    simp [hi]
theorem conSort (xs : List (List ByteArray)) (hl : xs.length < 1000000) (hp : ∀ p ∈ xs, p.length < 1000000) : ConB Tryz.prog I0 71 [.own 0, .lit (.func (.func 72) #[] #[])] [(0, .sl 26 .strs xs)] (.val (.tup [])) [(0, .sl 26 .strs (sortP xs))] := by
  intro w fz η vs hI hfz hdom hbox hblk hdis hargs
  obtain ⟨u, hu, cs, ho, hR⟩ := hbox 0 _ rfl
  have hvs : vs = #[u, .func (.func 72) #[] #[]] := by
    obtain ⟨hsz, hel⟩ := hargs
    have h2 : vs.size = 2 := hsz
    have e0 := (hel 0 vs[0] _ (Array.getElem?_eq_getElem (by omega)) rfl).own_inv hu
    have e1 := (hel 1 vs[1] _ (Array.getElem?_eq_getElem (by omega)) rfl).lit_inv
    refine Array.ext h2 (fun i hi hi2 => ?_)
    match i, hi2 with
    | 0, _ => exact e0
    | 1, _ => exact e1
  subst hvs
  have hdom' : ∀ (xs' : List (List ByteArray)) b u, η b = some u → (lkp [(0, Box.sl 26 .strs xs')] b).isSome = true := fun xs' b u h => by
    have := hdom b u h
    simp only [lkp] at this ⊢
    split
    · rfl
    · rename_i hne
      rw [if_neg hne] at this; cases this
  have fin : ∀ (w' : World), w'.os = w.os → w'.tape = w.tape → w'.output = w.output → w.heap.size ≤ w'.heap.size → (∀ k, k < w.heap.size → ¬ Bk η k → w'.heap[k]? = w.heap[k]?) → (BoxR w' (FzB w fz η η) η u (.sl 26 .strs (sortP xs))) → PostB w fz η [(0, .sl 26 .strs xs)] w' (.returned (.tuple #[])) (.val (.tup [])) [(0, .sl 26 .strs (sortP xs))] := by
    intro w' h1 h2 h3 h4 h5 h6
    refine ⟨⟨h1, h2, h3, h4, h5⟩, .inr ⟨η, hdom' _, fun b _ u u' h h' => by rw [h] at h'; exact (Option.some.inj h').symm, fun b u k h hk => ⟨Nat.lt_of_lt_of_le (hblk b u k h hk).1 h4, .inr ⟨b, u, h, hk⟩⟩, hdis, fun b B hb => ?_, ⟨.tuple #[], rfl, .tup #[] [] rfl (fun j v a h => by simp at h)⟩⟩⟩
    simp only [lkp] at hb
    split at hb
    · rename_i he
      simp only [Option.some.injEq] at hb
      subst hb he
      exact ⟨u, hu, h6⟩
    · cases hb
  have up : ∀ (w' : World) (v : Value) (x : List ByteArray), w.heap.size ≤ w'.heap.size → (∀ k, k < w.heap.size → ¬ Bk η k → w'.heap[k]? = w.heap[k]?) → R w fz η v (.row .str x) → R w' (FzB w fz η η) η v (.row .str x) := fun w' v x hz hb h =>
    h.step hz (fun k hk hlt => hb k hlt (fun ⟨b, u, hb, hk'⟩ => (hblk b u k hb hk').2 hk)) (fun k hk hlt => ⟨.inl hk, fun b u hb hk' => (hblk b u k hb hk').2 hk⟩) (fun b u _ h => h)
  obtain ⟨hlen, ⟨rfl, hn⟩ | ⟨g, cap, cur, rfl, _, hcur, hnc, hcm, hcs, htake⟩⟩ := ho
  · have hx : xs = [] := List.eq_nil_of_length_eq_zero hn
    subst hx
    refine (AnyF.slices_SortFunc_none (P := Tryz.prog) (ρ := Tryz.sortL_ren) { Tryz.sortL with } none 0 _ w).mono ?_
    rintro e w' ⟨rfl, rfl⟩
    exact fin _ rfl rfl rfl (Nat.le_refl _) (fun _ _ _ => rfl) ⟨[], ⟨by simp [sortP], .inl ⟨rfl, by simp [sortP]⟩⟩, fun i x j a hx => by simp [sortP] at hx⟩
  · have hcsl : cs.length = xs.length := by rw [hlen]; simp [sz]
    obtain ⟨l, hlv, hlx⟩ := its (w := w) (fz := fz) (η := η) xs cs hcsl (fun i x v hx hv => by
      obtain ⟨v', hv', hr⟩ := hR i x 0 _ hx rfl
      have e : i * sz Ty.strs + 0 = i := by simp [sz]
      rw [e, hv] at hv'
      rw [Option.some.inj hv']; exact hr) (fun x hx => by have := hp x hx; omega)
    have hll : l.length = xs.length := by rw [← hlx, List.length_map]
    have hds : l.toArray.size = xs.length := by simpa using hll
    have hgb : Bk η g := ⟨0, _, hu, rfl⟩
    have hg : g < w.heap.size := (hblk 0 _ g hu rfl).1
    have hgf : ∀ k, fz k → k ≠ g := fun k hk e => by subst e; exact (hblk 0 _ k hu rfl).2 hk
    have htk : cur.toList.take xs.length = cs := by rw [← htake]; simp [sz]
    have hcz : xs.length ≤ cur.size := by rw [hcs]; simpa [sz] using hnc
    have hH : Holds (It.v : It w fz η → Value) w g 0 l.toArray := fun j hj => by
      have hj' : j < l.length := by simpa using hj
      refine ⟨?_, by simp [World.frozen?, hcur]⟩
      have h1 : cs[j]? = some (l[j]).v := by rw [← hlv, List.getElem?_map, List.getElem?_eq_getElem hj']; rfl
      rw [← htk, List.getElem?_take, if_pos (by omega), Array.getElem?_toList] at h1
      simp only [World.cell?, hcur, Nat.zero_add]
      rw [getElem!_pos l.toArray j hj]
      simpa using h1
    have hs := Any.slices_SortFunc (P := Tryz.prog) (ρ := Tryz.sortL_ren) Tryz.sortL (It.v : It w fz η → Value) it_one (fun x y => cmpS x.xs y.xs) it_swo 72 #[] g 0 cap l.toArray w ent72 (it_cmp g hgf _) hH hg (by rw [hds]; omega)
    rw [hds] at hs
    refine hs.mono ?_
    rintro e w' ⟨rfl, d', n, os, hpm, hso, rfl⟩
    rw [← hds] at hpm hso
    have hsu := sort_unique (xs := xs) (by simpa using hlx) hpm hso
    have hd's : d'.size = xs.length := by rw [hpm.1, hds]
    have hheap : (sortWorld It.v w g 0 n d' os).heap[g]? = some (.cells (putCells It.v 0 d' cur) 26 (0, 0)) := by
      unfold sortWorld
      rw [heap_grow_old _ _ (by rw [size_putRow, heap_ahead]; exact hg)]
      simp [putRow, mapBlock, Array.getElem?_modify, hcur, onCells]
    have hbl : ∀ k, k < w.heap.size → ¬ Bk η k → (sortWorld It.v w g 0 n d' os).heap[k]? = w.heap[k]? := fun k hk hn => by
      have hne : g ≠ k := fun e => hn (e ▸ hgb)
      unfold sortWorld
      rw [heap_grow_old _ _ (by rw [size_putRow, heap_ahead]; exact hk)]
      simp [putRow, mapBlock, Array.getElem?_modify, hne]
    have hz : w.heap.size ≤ (sortWorld It.v w g 0 n d' os).heap.size := by unfold sortWorld; rw [size_grow, size_putRow, heap_ahead]; omega
    have hsl : (sortP xs).length = xs.length := List.length_mergeSort _
    refine fin _ rfl rfl rfl hz hbl ⟨d'.toList.map It.v, ⟨by rw [hsl]; simp [sz, hd's], .inr ⟨g, cap, putCells It.v 0 d' cur, by rw [hsl], Nat.zero_le _, hheap, by rw [hsl]; exact hnc, hcm, by rw [← hcs]; simp [putCells], ?_⟩⟩, fun i x j a hx ha => ?_⟩
    · rw [hsl, show xs.length * sz Ty.strs = d'.size by rw [hd's]; simp [sz]]
      exact putCells_take _ _ _ (by omega)
    · rw [← hsu, List.getElem?_map] at hx
      obtain ⟨it, hit, rfl⟩ := Option.map_eq_some_iff.1 hx
      cases j with
      | zero =>
        simp only [enc, List.getElem?_cons_zero, Option.some.injEq] at ha
        subst ha
        refine ⟨it.v, ?_, up _ _ _ hz hbl it.hr⟩
        rw [show i * sz Ty.strs + 0 = i by simp [sz], List.getElem?_map, hit]; rfl
      | succ j => simp [enc] at ha
end Go.Proofs.YtondpnipoogoiaaGreatDoor.F
namespace Go.Proofs.YtondpnipoogoiaaGreatDoor.F
open Go Go.RowKit Go.Proofs.Tryz
set_option linter.unusedVariables false
set_option linter.unusedSimpArgs false
def textOk (s : ByteArray) : Bool := decide ((s.size : Int) ≤ 2000) && X.validAt s s.size 0
set_option maxRecDepth 100000 in
theorem con215 (s : ByteArray) : Con Tryz.prog I0 215 [vs s] (.val (vb (textOk s))) := by
 refine con_of Tryz.func215 rfl (Nat.le_of_ble_eq_true rfl) stab (fun w0 fz a hI hs => ?_)
 rcases Bool.eq_false_or_eq_true (decide ((s.size : Int) ≤ 2000)) with b1 | b1
 ·skip
  have n1 := of_decide_eq_true b1
  refine way_L (tt := tt) (rs := [(1, ⟨[(5, ciA 249 [vs s] [] [] (.val (vb (X.validAt s s.size 0))))], [(4, true), (5, true), (1006, true)], []⟩)]) (bs := []) (tk := [2]) (bk := []) (C := (True ∧ True) ∧ (tr 4 (((decide ((s.size : Int) ≤ 2000)) = true) ∧ True ∧ ((decide ((s.size : Int) ≤ 2000)) = true) ∧ (okArgs [vs s]) ∧ ((decide ((s.size : Int) ≤ 2000)) = true) ∧ True ∧ True)) ∧ True) (lv := .ret) (T' := [(2, vb (X.validAt s s.size 0))]) (B' := []) mix hI hs ?_ ?_ ?_ ?_
  ·exact ⟨⟨⟨ent249, conValid _ rfl⟩, trivial⟩, trivial⟩
  ·kernel_rfl
  ·exact ⟨⟨trivial, trivial⟩, tr_mk (⟨b1, trivial, b1, rfl, b1, trivial, trivial⟩) 4, trivial⟩
  intro a w hs
  exact FnQ_cast (out := .val (vb (X.validAt s s.size 0))) (by simp only [textOk]; rw [b1]; rfl) (ret_ok [] hs ⟨by kernel_rfl, rfl⟩)
 ·skip
  have n1 := of_decide_eq_false b1
  refine way_L (tt := tt) (rs := [(1, ⟨[], [(4, false), (5, false), (1006, false)], []⟩)]) (bs := []) (tk := [2]) (bk := []) (C := (True ∧ True) ∧ (tr 4 (((decide ((s.size : Int) ≤ 2000)) = false) ∧ ((decide ((s.size : Int) ≤ 2000)) = false) ∧ ((decide ((s.size : Int) ≤ 2000)) = false) ∧ True ∧ True)) ∧ True) (lv := .ret) (T' := [(2, vb false)]) (B' := []) mix hI hs ?_ ?_ ?_ ?_
  ·exact ⟨trivial, trivial⟩
  ·kernel_rfl
  ·exact ⟨⟨trivial, trivial⟩, tr_mk (⟨b1, b1, b1, trivial, trivial⟩) 4, trivial⟩
  intro a w hs
  exact FnQ_cast (out := .val (vb false)) (by simp only [textOk]; rw [b1]; rfl) (ret_ok [] hs ⟨by kernel_rfl, rfl⟩)
def nmOk (l : List ByteArray) (i : Nat) : Bool := textOk (l.getD i (dflt .str)) && (!(decide (((i : Nat) : Int) > 0)) || Op.bytesLess (l.getD (((i : Nat) : Int) - 1).toNat (dflt .str)).toList (l.getD i (dflt .str)).toList)
def namesOk (l : List ByteArray) : Bool := (List.range l.length).all (nmOk l) && decide ((l.length : Int) ≤ 300)
theorem all_no' {n : Nat} {q : Nat → Bool} {i : Nat} (h : i < n) (hn : q i = false) : (List.range n).all q = false := List.all_eq_false.2 ⟨i, by simpa using h, by simp [hn]⟩
theorem all_yes' {n : Nat} {q : Nat → Bool} (h : ∀ j, j < n → q j = true) : (List.range n).all q = true := List.all_eq_true.2 (fun j hj => h j (by simpa using hj))
set_option maxRecDepth 100000 in
theorem con216 (l : List ByteArray) (hl : l.length < 4611686018427387904) : Con Tryz.prog I0 216 [.row .str l] (.val (vb (namesOk l))) := by
 refine con_of Tryz.func216 rfl (Nat.le_of_ble_eq_true rfl) stab (fun w0 fz a hI hs => ?_)
 refine wp_seq ?_
 refine way_L (tt := tt) (rs := []) (bs := []) (tk := [0]) (bk := []) (C := True ∧ True) (lv := .norm) (T' := [(0, .row .str l)]) (B' := []) mix hI hs ?_ ?_ ?_ ?_
 ·exact trivial
 ·kernel_rfl
 ·exact ⟨trivial, trivial⟩
 intro a w hs
 refine then_norm ?_
 refine wp_seq ?_
 refine wp_seq ?_
 refine way_L (tt := tt) (rs := []) (bs := []) (tk := [0, 5, 6, 7]) (bk := []) (C := tr 3 True) (lv := .norm) (T' := [(0, .row .str l), (5, .row .str l), (6, vi (l.length : Int)), (7, vi 0)]) (B' := []) mix hI hs ?_ ?_ ?_ ?_
 ·exact trivial
 ·kernel_rfl
 ·exact tr_mk trivial 3
 intro a w hs
 refine then_norm ?_
 refine wp_block ?_
 refine loop_L (N := Tryz.f216.ntmps) (w0 := w0) (ow := noO fz) (α := Nat) (fun p => [(0, .row .str l), (5, .row .str l), (6, vi (l.length : Int)), (7, vi ((p : Nat) : Int))]) (fun p => []) (fun p => p ≤ l.length ∧ ∀ j, j < p → nmOk l j = true) (fun p => l.length - p) 0 ?_ ?_ ?_
 ·exact ⟨Nat.zero_le _, fun j hj => absurd hj (Nat.not_lt_zero _)⟩
 ·(have e0_ : (0) = (((0 : Nat) : Int)) := (by first | rfl | (rfl)); exact (SimL.cast hs (T' := [(0, .row .str l), (5, .row .str l), (6, vi (l.length : Int)), (7, vi ((0 : Nat) : Int))]) (B' := []) (by first | rfl | (rw [e0_]; done) | (simp only [e0_]; done) | (simp only [e0_]; rfl)) (by first | rfl | (rw [e0_]; done) | (simp only [e0_]; done) | (simp only [e0_]; rfl))).ren [] (by kernel_rfl) (by kernel_rfl) (by kernel_rfl))
 rintro i hJ a w hs
 obtain ⟨hi, hall⟩ := hJ
 rcases Bool.eq_false_or_eq_true (decide (((i : Nat) : Int) < (l.length : Int))) with b1 | b1
 ·skip
  have n1 := of_decide_eq_true b1
  rcases Bool.eq_false_or_eq_true (textOk (l.getD i (dflt .str))) with b2 | b2
  ·skip
   rcases Bool.eq_false_or_eq_true (decide (((i : Nat) : Int) > 0)) with b3 | b3
   ·skip
    have n3 := of_decide_eq_true b3
    rcases Bool.eq_false_or_eq_true (Op.bytesLess (l.getD ((((i : Nat) : Int) - 1).toNat) (dflt .str)).toList (l.getD i (dflt .str)).toList) with b4 | b4
    ·skip
     refine way_L (tt := tt) (rs := [(4, ⟨[(1, ciA 215 [vs (l.getD i (dflt .str))] [] [] (.val (vb (textOk (l.getD i (dflt .str))))))], [(4, true), (5, true), (6, true), (7, true), (8, true), (9, true), (10, true), (11, true), (12, true), (13, true), (14, true), (1014, true), (1015, false)], []⟩)]) (bs := [true, false]) (tk := [0, 5, 6, 7]) (bk := []) (C := (True ∧ True) ∧ (((decide (((i : Nat) : Int) < (l.length : Int))) = true) ∧ True) ∧ ((True ∧ (0 ≤ ((i : Nat) : Int) ∧ ((i : Nat) : Int) < l.length) ∧ (tr 3 True)) ∧ (True ∧ (okArgs [vs (l.getD i (dflt .str))]) ∧ True ∧ True ∧ ((!(textOk (l.getD i (dflt .str)))) = false) ∧ True ∧ ((!(textOk (l.getD i (dflt .str)))) = false) ∧ True ∧ ((!(textOk (l.getD i (dflt .str)))) = false) ∧ True ∧ ((decide (((i : Nat) : Int) > 0)) = true) ∧ True ∧ ((decide (((i : Nat) : Int) > 0)) = true) ∧ True ∧ ((decide (((i : Nat) : Int) > 0)) = true) ∧ (InR .i64 (((i : Nat) : Int) - 1)) ∧ ((decide (((i : Nat) : Int) > 0)) = true) ∧ (0 ≤ (((i : Nat) : Int) - 1) ∧ (((i : Nat) : Int) - 1) < l.length) ∧ ((decide (((i : Nat) : Int) > 0)) = true) ∧ True ∧ ((decide (((i : Nat) : Int) > 0)) = true) ∧ True ∧ ((decide (((i : Nat) : Int) > 0)) = true) ∧ True ∧ ((!(textOk (l.getD i (dflt .str)))) = false) ∧ ((decide (((i : Nat) : Int) > 0)) = true) ∧ ((!(textOk (l.getD i (dflt .str)))) = false) ∧ True) ∧ ((!(Op.bytesLess (l.getD ((((i : Nat) : Int) - 1).toNat) (dflt .str)).toList (l.getD i (dflt .str)).toList)) = false) ∧ True) ∧ (InR .i64 (((i : Nat) : Int) + 1)) ∧ True ∧ True) (lv := .norm) (T' := [(0, .row .str l), (5, .row .str l), (6, vi (l.length : Int)), (7, vi (((i : Nat) : Int) + 1))]) (B' := []) mix hI hs ?_ ?_ ?_ ?_
     ·exact ⟨⟨⟨ent215, con215 _⟩, trivial⟩, trivial⟩
     ·kernel_rfl
     ·exact ⟨⟨trivial, trivial⟩, ⟨b1, trivial⟩, ⟨⟨trivial, ⟨by omega, by omega⟩, tr_mk trivial 3⟩, ⟨trivial, rfl, trivial, trivial, (by rw [b2]; rfl), trivial, (by rw [b2]; rfl), trivial, (by rw [b2]; rfl), trivial, b3, trivial, b3, trivial, b3, (inR64 (by omega) (by omega)), b3, ⟨by omega, by omega⟩, b3, trivial, b3, trivial, b3, trivial, (by rw [b2]; rfl), b3, (by rw [b2]; rfl), trivial⟩, (by rw [b4]; rfl), trivial⟩, (inR64 (by omega) (by omega)), trivial, trivial⟩
     intro a w hs
     refine then_norm ⟨i + 1, ⟨by omega, fun j hj => by rcases Nat.lt_succ_iff_lt_or_eq.1 hj with h | h; exact hall j h; subst h; simp only [nmOk, b1, b2, b3, b4]; rfl⟩, by omega, ?_⟩
     (have e0_ : (((i : Nat) : Int) + 1) = ((((i + 1) : Nat) : Int)) := (by first | rfl | (omega)); exact (SimL.cast hs (T' := [(0, .row .str l), (5, .row .str l), (6, vi (l.length : Int)), (7, vi (((i + 1) : Nat) : Int))]) (B' := []) (by first | rfl | (rw [e0_]; done) | (simp only [e0_]; done) | (simp only [e0_]; rfl)) (by first | rfl | (rw [e0_]; done) | (simp only [e0_]; done) | (simp only [e0_]; rfl))).ren [] (by kernel_rfl) (by kernel_rfl) (by kernel_rfl))
    ·skip
     refine way_L (tt := tt) (rs := [(4, ⟨[(1, ciA 215 [vs (l.getD i (dflt .str))] [] [] (.val (vb (textOk (l.getD i (dflt .str))))))], [(4, true), (5, true), (6, true), (7, true), (8, true), (9, true), (10, true), (11, true), (12, true), (13, true), (14, true), (1014, true), (1015, false)], []⟩)]) (bs := [true, true]) (tk := [2]) (bk := []) (C := (True ∧ True) ∧ (((decide (((i : Nat) : Int) < (l.length : Int))) = true) ∧ True) ∧ (True ∧ (0 ≤ ((i : Nat) : Int) ∧ ((i : Nat) : Int) < l.length) ∧ (tr 3 True)) ∧ (True ∧ (okArgs [vs (l.getD i (dflt .str))]) ∧ True ∧ True ∧ ((!(textOk (l.getD i (dflt .str)))) = false) ∧ True ∧ ((!(textOk (l.getD i (dflt .str)))) = false) ∧ True ∧ ((!(textOk (l.getD i (dflt .str)))) = false) ∧ True ∧ ((decide (((i : Nat) : Int) > 0)) = true) ∧ True ∧ ((decide (((i : Nat) : Int) > 0)) = true) ∧ True ∧ ((decide (((i : Nat) : Int) > 0)) = true) ∧ (InR .i64 (((i : Nat) : Int) - 1)) ∧ ((decide (((i : Nat) : Int) > 0)) = true) ∧ (0 ≤ (((i : Nat) : Int) - 1) ∧ (((i : Nat) : Int) - 1) < l.length) ∧ ((decide (((i : Nat) : Int) > 0)) = true) ∧ True ∧ ((decide (((i : Nat) : Int) > 0)) = true) ∧ True ∧ ((decide (((i : Nat) : Int) > 0)) = true) ∧ True ∧ ((!(textOk (l.getD i (dflt .str)))) = false) ∧ ((decide (((i : Nat) : Int) > 0)) = true) ∧ ((!(textOk (l.getD i (dflt .str)))) = false) ∧ True) ∧ ((!(Op.bytesLess (l.getD ((((i : Nat) : Int) - 1).toNat) (dflt .str)).toList (l.getD i (dflt .str)).toList)) = true) ∧ (True ∧ True) ∧ True) (lv := .ret) (T' := [(2, vb false)]) (B' := []) mix hI hs ?_ ?_ ?_ ?_
     ·exact ⟨⟨⟨ent215, con215 _⟩, trivial⟩, trivial⟩
     ·kernel_rfl
     ·exact ⟨⟨trivial, trivial⟩, ⟨b1, trivial⟩, ⟨trivial, ⟨by omega, by omega⟩, tr_mk trivial 3⟩, ⟨trivial, rfl, trivial, trivial, (by rw [b2]; rfl), trivial, (by rw [b2]; rfl), trivial, (by rw [b2]; rfl), trivial, b3, trivial, b3, trivial, b3, (inR64 (by omega) (by omega)), b3, ⟨by omega, by omega⟩, b3, trivial, b3, trivial, b3, trivial, (by rw [b2]; rfl), b3, (by rw [b2]; rfl), trivial⟩, (by rw [b4]; rfl), ⟨trivial, trivial⟩, trivial⟩
     intro a w hs
     refine then_ret ?_
     refine inb_ret ?_
     refine then_ret ?_
     exact FnQ_cast (out := .val (vb false)) (by simp only [namesOk]; rw [all_no' (i := i) (by omega) (by simp only [nmOk, b1, b2, b3, b4]; rfl)]; rfl) (ret_ok [] hs ⟨by kernel_rfl, rfl⟩)
   ·skip
    have n3 := of_decide_eq_false b3
    refine way_L (tt := tt) (rs := [(4, ⟨[(1, ciA 215 [vs (l.getD i (dflt .str))] [] [] (.val (vb (textOk (l.getD i (dflt .str))))))], [(4, true), (5, true), (6, true), (7, false), (8, false), (9, false), (10, false), (11, false), (12, false), (13, false), (14, true), (1014, false), (1015, false)], []⟩)]) (bs := [true, false]) (tk := [0, 5, 6, 7]) (bk := []) (C := (True ∧ True) ∧ (((decide (((i : Nat) : Int) < (l.length : Int))) = true) ∧ True) ∧ ((True ∧ (0 ≤ ((i : Nat) : Int) ∧ ((i : Nat) : Int) < l.length) ∧ (tr 3 True)) ∧ (True ∧ (okArgs [vs (l.getD i (dflt .str))]) ∧ True ∧ True ∧ ((!(textOk (l.getD i (dflt .str)))) = false) ∧ True ∧ ((!(textOk (l.getD i (dflt .str)))) = false) ∧ True ∧ ((!(textOk (l.getD i (dflt .str)))) = false) ∧ True ∧ ((decide (((i : Nat) : Int) > 0)) = false) ∧ ((decide (((i : Nat) : Int) > 0)) = false) ∧ ((decide (((i : Nat) : Int) > 0)) = false) ∧ ((decide (((i : Nat) : Int) > 0)) = false) ∧ ((decide (((i : Nat) : Int) > 0)) = false) ∧ ((decide (((i : Nat) : Int) > 0)) = false) ∧ ((decide (((i : Nat) : Int) > 0)) = false) ∧ ((!(textOk (l.getD i (dflt .str)))) = false) ∧ ((decide (((i : Nat) : Int) > 0)) = false) ∧ ((!(textOk (l.getD i (dflt .str)))) = false) ∧ True) ∧ (false = false) ∧ True) ∧ (InR .i64 (((i : Nat) : Int) + 1)) ∧ True ∧ True) (lv := .norm) (T' := [(0, .row .str l), (5, .row .str l), (6, vi (l.length : Int)), (7, vi (((i : Nat) : Int) + 1))]) (B' := []) mix hI hs ?_ ?_ ?_ ?_
    ·exact ⟨⟨⟨ent215, con215 _⟩, trivial⟩, trivial⟩
    ·kernel_rfl
    ·exact ⟨⟨trivial, trivial⟩, ⟨b1, trivial⟩, ⟨⟨trivial, ⟨by omega, by omega⟩, tr_mk trivial 3⟩, ⟨trivial, rfl, trivial, trivial, (by rw [b2]; rfl), trivial, (by rw [b2]; rfl), trivial, (by rw [b2]; rfl), trivial, b3, b3, b3, b3, b3, b3, b3, (by rw [b2]; rfl), b3, (by rw [b2]; rfl), trivial⟩, rfl, trivial⟩, (inR64 (by omega) (by omega)), trivial, trivial⟩
    intro a w hs
    refine then_norm ⟨i + 1, ⟨by omega, fun j hj => by rcases Nat.lt_succ_iff_lt_or_eq.1 hj with h | h; exact hall j h; subst h; simp only [nmOk, b1, b2, b3]; rfl⟩, by omega, ?_⟩
    (have e0_ : (((i : Nat) : Int) + 1) = ((((i + 1) : Nat) : Int)) := (by first | rfl | (omega)); exact (SimL.cast hs (T' := [(0, .row .str l), (5, .row .str l), (6, vi (l.length : Int)), (7, vi (((i + 1) : Nat) : Int))]) (B' := []) (by first | rfl | (rw [e0_]; done) | (simp only [e0_]; done) | (simp only [e0_]; rfl)) (by first | rfl | (rw [e0_]; done) | (simp only [e0_]; done) | (simp only [e0_]; rfl))).ren [] (by kernel_rfl) (by kernel_rfl) (by kernel_rfl))
  ·skip
   refine way_L (tt := tt) (rs := [(4, ⟨[(1, ciA 215 [vs (l.getD i (dflt .str))] [] [] (.val (vb (textOk (l.getD i (dflt .str))))))], [(4, false), (5, false), (6, false), (14, false), (1015, true)], []⟩)]) (bs := [true, true]) (tk := [2]) (bk := []) (C := (True ∧ True) ∧ (((decide (((i : Nat) : Int) < (l.length : Int))) = true) ∧ True) ∧ (True ∧ (0 ≤ ((i : Nat) : Int) ∧ ((i : Nat) : Int) < l.length) ∧ (tr 3 True)) ∧ (True ∧ (okArgs [vs (l.getD i (dflt .str))]) ∧ True ∧ True ∧ ((!(textOk (l.getD i (dflt .str)))) = true) ∧ ((!(textOk (l.getD i (dflt .str)))) = true) ∧ ((!(textOk (l.getD i (dflt .str)))) = true) ∧ (tr 7 (((!(textOk (l.getD i (dflt .str)))) = true) ∧ ((!(textOk (l.getD i (dflt .str)))) = true) ∧ True))) ∧ (true = true) ∧ (True ∧ True) ∧ True) (lv := .ret) (T' := [(2, vb false)]) (B' := []) mix hI hs ?_ ?_ ?_ ?_
   ·exact ⟨⟨⟨ent215, con215 _⟩, trivial⟩, trivial⟩
   ·kernel_rfl
   ·exact ⟨⟨trivial, trivial⟩, ⟨b1, trivial⟩, ⟨trivial, ⟨by omega, by omega⟩, tr_mk trivial 3⟩, ⟨trivial, rfl, trivial, trivial, (by rw [b2]; rfl), (by rw [b2]; rfl), (by rw [b2]; rfl), tr_mk (⟨(by rw [b2]; rfl), (by rw [b2]; rfl), trivial⟩) 7⟩, rfl, ⟨trivial, trivial⟩, trivial⟩
   intro a w hs
   refine then_ret ?_
   refine inb_ret ?_
   refine then_ret ?_
   exact FnQ_cast (out := .val (vb false)) (by simp only [namesOk]; rw [all_no' (i := i) (by omega) (by simp only [nmOk, b1, b2]; rfl)]; rfl) (ret_ok [] hs ⟨by kernel_rfl, rfl⟩)
 ·skip
  have n1 := of_decide_eq_false b1
  refine way_L (tt := tt) (rs := []) (bs := [false]) (tk := [0]) (bk := []) (C := (True ∧ True) ∧ ((decide (((i : Nat) : Int) < (l.length : Int))) = false) ∧ True) (lv := .exit 0) (T' := [(0, .row .str l)]) (B' := []) mix hI hs ?_ ?_ ?_ ?_
  ·exact trivial
  ·kernel_rfl
  ·exact ⟨⟨trivial, trivial⟩, b1, trivial⟩
  intro a w hs
  refine then_exit ?_
  refine inb_hit ?_
  refine then_norm ?_
  refine way_L (tt := tt) (rs := []) (bs := []) (tk := [2]) (bk := []) (C := (tr 4 True) ∧ True) (lv := .ret) (T' := [(2, vb (decide ((l.length : Int) ≤ 300)))]) (B' := []) mix hI hs ?_ ?_ ?_ ?_
  ·exact trivial
  ·kernel_rfl
  ·exact ⟨tr_mk trivial 4, trivial⟩
  intro a w hs
  exact FnQ_cast (out := .val (vb (decide ((l.length : Int) ≤ 300)))) (by simp only [namesOk]; rw [all_yes' (fun j hj => hall j (by omega))]; rfl) (ret_ok [] hs ⟨by kernel_rfl, rfl⟩)
end Go.Proofs.YtondpnipoogoiaaGreatDoor.F
namespace Go.Proofs.YtondpnipoogoiaaGreatDoor.F
open Go Go.RowKit
set_option linter.unusedVariables false
set_option linter.unusedSimpArgs false
def rd (l : List Int) (i : Int) : Int := l.getD i.toNat 0
def trimF (l : List Int) : List Int := (l.reverse.dropWhile (· == 0)).reverse
theorem trimF_nil : trimF [] = [] := rfl
theorem trimF_snoc (l : List Int) (x : Int) : trimF (l ++ [x]) = if x = 0 then trimF l else l ++ [x] := by
  unfold trimF
  by_cases h : x = 0 <;> simp [h]
theorem take_snoc' (l : List Int) (m : Nat) (h : m < l.length) : l.take (m + 1) = l.take m ++ [rd l m] := by
  rw [List.take_succ_eq_append_getElem h]
  simp [rd, h]
theorem getD_rd (l : List Int) (n : Nat) : l.getD n (dflt (.int .u32)) = rd l n := rfl
theorem trimF_zero {l : List Int} {n : Nat} (h : n < l.length) (hz : l.getD n (dflt (.int .u32)) = 0) : trimF (l.take (n + 1)) = trimF (l.take n) := by
  rw [take_snoc' l n h, trimF_snoc, if_pos (by rw [← getD_rd]; exact hz)]
theorem trimF_stop {l : List Int} {n : Nat} (h : n < l.length) (hz : l.getD n (dflt (.int .u32)) ≠ 0) : trimF (l.take (n + 1)) = l.take (n + 1) := by
  rw [take_snoc' l n h, trimF_snoc, if_neg (by rw [← getD_rd]; exact hz)]
def Ok (l : List Int) : Prop := ∀ x ∈ l, 0 ≤ x ∧ x < 4294967296
def val : List Int → Nat
  | [] => 0
  | x :: l => x.toNat + 4294967296 * val l
def lim (n : Nat) : List Int := if n = 0 then [] else ((n % 4294967296 : Nat) : Int) :: lim (n / 4294967296)
termination_by n
decreasing_by omega
theorem Ok.nil : Ok [] := fun x hx => by simp at hx
theorem Ok.cons {x : Int} {l : List Int} (h0 : 0 ≤ x) (h1 : x < 4294967296) (h : Ok l) : Ok (x :: l) := fun y hy => by
  rcases List.mem_cons.1 hy with rfl | hy
  · exact ⟨h0, h1⟩
  · exact h y hy
theorem Ok.head {x : Int} {l : List Int} (h : Ok (x :: l)) : 0 ≤ x ∧ x < 4294967296 := h x (by simp)
theorem Ok.tail {x : Int} {l : List Int} (h : Ok (x :: l)) : Ok l := fun y hy => h y (by simp [hy])
theorem Ok.append {a b : List Int} (ha : Ok a) (hb : Ok b) : Ok (a ++ b) := fun x hx => by
  rcases List.mem_append.1 hx with h | h
  · exact ha x h
  · exact hb x h
theorem Ok.take {a : List Int} (h : Ok a) (n : Nat) : Ok (a.take n) := fun x hx => h x (List.mem_of_mem_take hx)
theorem Ok.drop {a : List Int} (h : Ok a) (n : Nat) : Ok (a.drop n) := fun x hx => h x (List.mem_of_mem_drop hx)
theorem Ok.set {a : List Int} (h : Ok a) (n : Nat) {x : Int} (h0 : 0 ≤ x) (h1 : x < 4294967296) : Ok (a.set n x) := fun y hy => by
  rcases List.mem_or_eq_of_mem_set hy with hy | rfl
  · exact h y hy
  · exact ⟨h0, h1⟩
theorem Ok.rep (n : Nat) : Ok (List.replicate n 0) := fun x hx => by
  obtain rfl := List.eq_of_mem_replicate hx
  omega
theorem Ok.rdk {l : List Int} (h : Ok l) (i : Int) : 0 ≤ rd l i ∧ rd l i < 4294967296 := by
  unfold rd
  rw [List.getD_eq_getElem?_getD]
  rcases Nat.lt_or_ge i.toNat l.length with hi | hi
  · rw [List.getElem?_eq_getElem hi]
    exact h _ (List.getElem_mem hi)
  · rw [List.getElem?_eq_none hi]
    simp
theorem lim_zero : lim 0 = [] := by unfold lim; simp
theorem lim_pos {n : Nat} (h : n ≠ 0) : lim n = ((n % 4294967296 : Nat) : Int) :: lim (n / 4294967296) := by rw [lim, if_neg h]
theorem lim_ok (n : Nat) : Ok (lim n) := by
  induction n using Nat.strongRecOn with
  | _ n ih =>
    by_cases h : n = 0
    · subst h; rw [lim_zero]; exact Ok.nil
    · rw [lim_pos h]
      exact Ok.cons (by omega) (by omega) (ih _ (by omega))
theorem val_lim (n : Nat) : val (lim n) = n := by
  induction n using Nat.strongRecOn with
  | _ n ih =>
    by_cases h : n = 0
    · subst h; rw [lim_zero]; rfl
    · rw [lim_pos h, val, ih _ (by omega)]
      omega
theorem lim_nil_iff (n : Nat) : lim n = [] ↔ n = 0 := by
  constructor
  · intro h
    have := val_lim n
    rw [h] at this
    exact this.symm
  · rintro rfl
    exact lim_zero
theorem lim_len_zero (n : Nat) : (lim n).length = 0 ↔ n = 0 := by rw [List.length_eq_zero_iff, lim_nil_iff]
theorem val_append (a b : List Int) : val (a ++ b) = val a + 4294967296 ^ a.length * val b := by
  induction a with
  | nil => simp [val]
  | cons x a ih => simp only [List.cons_append, val, ih, List.length_cons, Nat.pow_succ]; grind
theorem val_lt {l : List Int} (h : Ok l) : val l < 4294967296 ^ l.length := by
  induction l with
  | nil => simp [val]
  | cons x l ih =>
    have := ih h.tail
    have := h.head
    simp only [val, List.length_cons, Nat.pow_succ]
    omega
theorem trim_lim {l : List Int} (h : Ok l) : trimF l = lim (val l) := by
  have key : ∀ (n : Nat) (l : List Int), l.length = n → Ok l → trimF l = lim (val l) := by
    intro n
    induction n with
    | zero =>
      intro l hl _
      obtain rfl := List.eq_nil_of_length_eq_zero hl
      simp [trimF_nil, val, lim_zero]
    | succ n ih =>
      intro l hl hok
      rcases List.eq_nil_or_concat l with rfl | ⟨l', x, rfl⟩
      · simp at hl
      · rw [List.concat_eq_append] at hl hok ⊢
        have hx := hok x (by simp)
        have hok' : Ok l' := fun y hy => hok y (by simp [hy])
        rw [trimF_snoc]
        by_cases h0 : x = 0
        · subst h0
          rw [if_pos rfl, ih l' (by simpa using hl) hok', val_append]
          simp [val]
        · rw [if_neg h0]
          -- a list with a limb at the top is its own
          have key2 : ∀ (l' : List Int), Ok l' → l' ++ [x] = lim (val (l' ++ [x])) := by
            intro l'
            induction l' with
            | nil =>
              intro _
              have : x.toNat ≠ 0 := by omega
              simp only [List.nil_append, val, Nat.mul_zero, Nat.add_zero]
              rw [lim_pos this, Nat.mod_eq_of_lt (by omega), Nat.div_eq_of_lt (by omega), lim_zero]
              congr 1
              omega
            | cons y l' ih2 =>
              intro hok
              have hy := hok.head
              have ih3 := ih2 hok.tail
              have hv : val (l' ++ [x]) ≠ 0 := by
                intro hz
                rw [hz, lim_zero] at ih3
                simp at ih3
              simp only [List.cons_append, val]
              rw [lim_pos (by omega), show (y.toNat + 4294967296 * val (l' ++ [x])) % 4294967296 = y.toNat by omega, show (y.toNat + 4294967296 * val (l' ++ [x])) / 4294967296 = val (l' ++ [x]) by omega, ← ih3]
              congr 1
              omega
          exact key2 l' hok'
  exact key _ l rfl h
theorem lim_trim (n : Nat) : trimF (lim n) = lim n := by rw [trim_lim (lim_ok n), val_lim]
theorem lim_len_le {n k : Nat} (h : n < 4294967296 ^ k) : (lim n).length ≤ k := by
  induction k generalizing n with
  | zero => have : n = 0 := by omega
            subst this; simp [lim_zero]
  | succ k ih =>
    by_cases h0 : n = 0
    · subst h0; simp [lim_zero]
    · rw [lim_pos h0, List.length_cons]
      have := ih (n := n / 4294967296) (by rw [Nat.pow_succ] at h; omega)
      omega
theorem val_drop {l : List Int} {m : Nat} (h : m < l.length) : val (l.drop m) = (rd l m).toNat + 4294967296 * val (l.drop (m + 1)) := by
  rw [List.drop_eq_getElem_cons h, val]
  congr 2
  simp [rd, h]
theorem val_take_drop (l : List Int) (m : Nat) (h : m ≤ l.length) : val l = val (l.take m) + 4294967296 ^ m * val (l.drop m) := by
  have := val_append (l.take m) (l.drop m)
  rw [List.take_append_drop, List.length_take, Nat.min_eq_left h] at this
  exact this
theorem rd_ge {l : List Int} {i : Int} (h : (l.length : Int) ≤ i) : rd l i = 0 := by
  unfold rd
  rw [List.getD_eq_getElem?_getD, List.getElem?_eq_none (by omega)]
  rfl
def tz (n : Nat) : Nat × Nat := if n = 0 then (0, 0) else if n % 10 = 0 then ((tz (n / 10)).1, (tz (n / 10)).2 + 1) else (n, 0)
termination_by n
decreasing_by all_goals omega
theorem tz_zero : tz 0 = (0, 0) := by rw [tz]; simp
theorem tz_ten {n : Nat} (h : n ≠ 0) (h1 : n % 10 = 0) : tz n = ((tz (n / 10)).1, (tz (n / 10)).2 + 1) := by rw [tz, if_neg h, if_pos h1]
theorem tz_self {n : Nat} (h1 : n % 10 ≠ 0) : tz n = (n, 0) := by rw [tz, if_neg (by omega), if_neg h1]
theorem tz_val (n : Nat) : (tz n).1 * 10 ^ (tz n).2 = n := by
  induction n using Nat.strongRecOn with
  | _ n ih =>
    by_cases h : n = 0
    · subst h; rw [tz_zero]; rfl
    · by_cases h1 : n % 10 = 0
      · rw [tz_ten h h1]
        have := ih (n / 10) (by omega)
        simp only [Nat.pow_succ]
        rw [← Nat.mul_assoc, this]
        omega
      · rw [tz_self h1]; simp
theorem tz_mod {n : Nat} (h : n ≠ 0) : (tz n).1 % 10 ≠ 0 := by
  induction n using Nat.strongRecOn with
  | _ n ih =>
    by_cases h1 : n % 10 = 0
    · rw [tz_ten h h1]
      exact ih (n / 10) (by omega) (by omega)
    · rw [tz_self h1]; exact h1
theorem tz_le (n : Nat) : (tz n).1 ≤ n := by
  have h := tz_val n
  have : 1 ≤ 10 ^ (tz n).2 := Nat.pow_pos (by decide)
  calc (tz n).1 = (tz n).1 * 1 := by rw [Nat.mul_one]
    _ ≤ (tz n).1 * 10 ^ (tz n).2 := Nat.mul_le_mul_left _ this
    _ = n := h
theorem tz_bits (m : Nat) : ∀ n : Nat, n < 2 ^ m → (tz n).2 ≤ m := by
  induction m with
  | zero =>
    intro n h
    obtain rfl : n = 0 := by simpa using h
    rw [tz_zero]; exact Nat.le_refl _
  | succ m ih =>
    intro n h
    by_cases h0 : n = 0
    · subst h0; rw [tz_zero]; exact Nat.zero_le _
    · by_cases h1 : n % 10 = 0
      · rw [tz_ten h0 h1]
        have := ih (n / 10) (by rw [Nat.pow_succ] at h; omega)
        simp only
        omega
      · rw [tz_self h1]; exact Nat.zero_le _
theorem tz_limbs {n L : Nat} (h : n < 4294967296 ^ L) : (tz n).2 ≤ 32 * L := by
  refine tz_bits _ n ?_
  rw [Nat.pow_mul]
  exact h
end Go.Proofs.YtondpnipoogoiaaGreatDoor.F
namespace Go.Proofs.YtondpnipoogoiaaGreatDoor.F
open Go Go.RowKit Go.Proofs.Tryz
set_option linter.unusedVariables false
set_option linter.unusedSimpArgs false
set_option maxRecDepth 100000 in
theorem con270 (l : List Int) (hl : l.length < 1000000000) : Con Tryz.prog I0 270 [.row (.int .u32) l] (.own 160 (.int .u32) (trimF l)) := by
 refine con_of Tryz.func270 rfl (Nat.le_of_ble_eq_true rfl) stab (fun w0 fz a hI hs => ?_)
 refine wp_seq ?_
 refine way_L (tt := tt) (rs := []) (bs := []) (tk := [0]) (bk := []) (C := True ∧ True) (lv := .norm) (T' := [(0, .row (.int .u32) l)]) (B' := []) mix hI hs ?_ ?_ ?_ ?_
 ·exact trivial
 ·kernel_rfl
 ·exact ⟨trivial, trivial⟩
 intro a w hs
 refine then_norm ?_
 refine wp_seq ?_
 refine way_L (tt := tt) (rs := []) (bs := []) (tk := [0, 3]) (bk := []) (C := tr 3 True) (lv := .norm) (T' := [(0, .row (.int .u32) l), (3, vi (l.length : Int))]) (B' := []) mix hI hs ?_ ?_ ?_ ?_
 ·exact trivial
 ·kernel_rfl
 ·exact tr_mk trivial 3
 intro a w hs
 refine then_norm ?_
 refine wp_seq ?_
 refine wp_block ?_
 refine loop_L (N := Tryz.f270.ntmps) (w0 := w0) (ow := noO fz) (α := Nat) (fun p => [(0, .row (.int .u32) l), (3, vi ((p : Nat) : Int))]) (fun p => []) (fun p => p ≤ l.length ∧ trimF (l.take p) = trimF l) (fun p => p) l.length ?_ ?_ ?_
 ·exact ⟨Nat.le_refl _, by rw [List.take_length]⟩
 ·exact (SimL.cast hs (T' := [(0, .row (.int .u32) l), (3, vi ((l.length : Nat) : Int))]) (B' := []) (by rfl) rfl).ren [] (by kernel_rfl) (by kernel_rfl) (by kernel_rfl)
 rintro n hJ a w hs
 obtain ⟨hn, ht⟩ := hJ
 rcases Bool.eq_false_or_eq_true (decide (((n : Nat) : Int) > 0)) with b1 | b1
 ·skip
  have n1 := of_decide_eq_true b1
  rcases Bool.eq_false_or_eq_true ((l.getD ((((n : Nat) : Int) - 1).toNat) (dflt (.int .u32))) == 0) with b2 | b2
  ·skip
   have n2 := eq_of_beq b2
   refine way_L (tt := tt) (rs := [(2, ⟨[], [(3, true), (4, true), (5, true), (6, true), (7, true), (8, true), (1009, true)], []⟩)]) (bs := [true]) (tk := [0, 3]) (bk := []) (C := ((tr 3 (((decide (((n : Nat) : Int) > 0)) = true) ∧ True ∧ ((decide (((n : Nat) : Int) > 0)) = true) ∧ True ∧ ((decide (((n : Nat) : Int) > 0)) = true) ∧ (InR .i64 (((n : Nat) : Int) - 1)) ∧ ((decide (((n : Nat) : Int) > 0)) = true) ∧ (0 ≤ (((n : Nat) : Int) - 1) ∧ (((n : Nat) : Int) - 1) < l.length) ∧ ((decide (((n : Nat) : Int) > 0)) = true) ∧ True ∧ ((decide (((n : Nat) : Int) > 0)) = true) ∧ True ∧ ((decide (((n : Nat) : Int) > 0)) = true) ∧ True)) ∧ (((l.getD ((((n : Nat) : Int) - 1).toNat) (dflt (.int .u32))) == 0) = true) ∧ True) ∧ True ∧ (InR .i64 (((n : Nat) : Int) - 1)) ∧ True ∧ True) (lv := .norm) (T' := [(0, .row (.int .u32) l), (3, vi (((n : Nat) : Int) - 1))]) (B' := []) mix hI hs ?_ ?_ ?_ ?_
   ·exact ⟨trivial, trivial⟩
   ·kernel_rfl
   ·exact ⟨⟨tr_mk (⟨b1, trivial, b1, trivial, b1, (inR64 (by omega) (by omega)), b1, ⟨by omega, by omega⟩, b1, trivial, b1, trivial, b1, trivial⟩) 3, b2, trivial⟩, trivial, (inR64 (by omega) (by omega)), trivial, trivial⟩
   intro a w hs
   refine then_norm ⟨n - 1, ⟨by omega, by obtain ⟨m, rfl⟩ : ∃ m, n = m + 1 := ⟨n - 1, by omega⟩; rw [← ht, trimF_zero (n := m) (by omega) (by have h := eq_of_beq b2; rw [← h]; congr 1; omega)]; rfl⟩, by omega, ?_⟩
   (have e0_ : (((n : Nat) : Int) - 1) = ((((n - 1) : Nat) : Int)) := (by first | rfl | (omega)); exact (SimL.cast hs (T' := [(0, .row (.int .u32) l), (3, vi (((n - 1) : Nat) : Int))]) (B' := []) (by first | rfl | (rw [e0_]; done) | (simp only [e0_]; done) | (simp only [e0_]; rfl)) (by first | rfl | (rw [e0_]; done) | (simp only [e0_]; done) | (simp only [e0_]; rfl))).ren [] (by kernel_rfl) (by kernel_rfl) (by kernel_rfl))
  ·skip
   have n2 := beq_eq_false_iff_ne.1 b2
   refine way_L (tt := tt) (rs := [(2, ⟨[], [(3, true), (4, true), (5, true), (6, true), (7, true), (8, true), (1009, true)], []⟩)]) (bs := [false]) (tk := [0, 3]) (bk := []) (C := (tr 3 (((decide (((n : Nat) : Int) > 0)) = true) ∧ True ∧ ((decide (((n : Nat) : Int) > 0)) = true) ∧ True ∧ ((decide (((n : Nat) : Int) > 0)) = true) ∧ (InR .i64 (((n : Nat) : Int) - 1)) ∧ ((decide (((n : Nat) : Int) > 0)) = true) ∧ (0 ≤ (((n : Nat) : Int) - 1) ∧ (((n : Nat) : Int) - 1) < l.length) ∧ ((decide (((n : Nat) : Int) > 0)) = true) ∧ True ∧ ((decide (((n : Nat) : Int) > 0)) = true) ∧ True ∧ ((decide (((n : Nat) : Int) > 0)) = true) ∧ True)) ∧ (((l.getD ((((n : Nat) : Int) - 1).toNat) (dflt (.int .u32))) == 0) = false) ∧ True) (lv := .exit 0) (T' := [(0, .row (.int .u32) l), (3, vi ((n : Nat) : Int))]) (B' := []) mix hI hs ?_ ?_ ?_ ?_
   ·exact ⟨trivial, trivial⟩
   ·kernel_rfl
   ·exact ⟨tr_mk (⟨b1, trivial, b1, trivial, b1, (inR64 (by omega) (by omega)), b1, ⟨by omega, by omega⟩, b1, trivial, b1, trivial, b1, trivial⟩) 3, b2, trivial⟩
   intro a w hs
   refine then_exit ?_
   refine inb_hit ?_
   refine then_norm ?_
   rcases Bool.eq_false_or_eq_true (((n : Nat) : Int) == 0) with b3 | b3
   ·skip
    have n3 := eq_of_beq b3
    refine way_L (tt := tt) (rs := []) (bs := [true]) (tk := [2]) (bk := []) (C := (True ∧ True ∧ True) ∧ ((((n : Nat) : Int) == 0) = true) ∧ (True ∧ True) ∧ True) (lv := .ret) (T' := [(2, nilv)]) (B' := []) mix hI hs ?_ ?_ ?_ ?_
    ·exact trivial
    ·kernel_rfl
    ·exact ⟨⟨trivial, trivial, trivial⟩, b3, ⟨trivial, trivial⟩, trivial⟩
    intro a w hs
    exact FnQ_cast (out := .own 160 (.int .u32) ([])) (by obtain rfl : n = 0 := (by omega); rw [← ht]; rfl) (ret_ok [] hs (.inr ⟨by kernel_rfl, rfl⟩))
   ·skip
    have n3 := beq_eq_false_iff_ne.1 b3
    refine way_L (tt := tt) (rs := []) (bs := [false]) (tk := [2]) (bk := [7001]) (C := ((True ∧ True ∧ True) ∧ ((((n : Nat) : Int) == 0) = false) ∧ True) ∧ (True ∧ (((n : Nat) : Int) = ((n : Nat) : Int) ∧ 0 ≤ ((n : Nat) : Int) ∧ (4 : Nat) * ((n : Nat) : Int) ≤ 281474976710656 ∧ ((n : Nat) : Int) ≤ 9223372036854775807) ∧ True ∧ True) ∧ (tr 3 True) ∧ (True ∧ True ∧ True) ∧ True) (lv := .ret) (T' := [(2, .own 7001)]) (B' := [(7001, .sl 160 (.int .u32) (l.take (List.replicate n (dflt (.int .u32))).length ++ (List.replicate n (dflt (.int .u32))).drop l.length))]) mix hI hs ?_ ?_ ?_ ?_
    ·exact trivial
    ·kernel_rfl
    ·exact ⟨⟨⟨trivial, trivial, trivial⟩, b3, trivial⟩, ⟨trivial, (by omega), trivial, trivial⟩, tr_mk trivial 3, ⟨trivial, trivial, trivial⟩, trivial⟩
    intro a w hs
    exact FnQ_cast (out := .own 160 (.int .u32) (l.take (List.replicate n (dflt (.int .u32))).length ++ (List.replicate n (dflt (.int .u32))).drop l.length)) (by obtain ⟨m, rfl⟩ : ∃ m, n = m + 1 := ⟨n - 1, by omega⟩; rw [← ht, trimF_stop (n := m) (by omega) (by have h := beq_eq_false_iff_ne.1 b2; rwa [show (((m + 1 : Nat) : Int) - 1).toNat = m by omega] at h), List.length_replicate, List.drop_of_length_le (by rw [List.length_replicate]; omega), List.append_nil]) (ret_ok [] hs (.inl ⟨7001, by kernel_rfl, rfl⟩))
 ·skip
  have n1 := of_decide_eq_false b1
  refine way_L (tt := tt) (rs := [(2, ⟨[], [(3, false), (4, false), (5, false), (6, false), (7, false), (8, false), (1009, false)], []⟩)]) (bs := [false]) (tk := [0, 3]) (bk := []) (C := (tr 3 (((decide (((n : Nat) : Int) > 0)) = false) ∧ ((decide (((n : Nat) : Int) > 0)) = false) ∧ ((decide (((n : Nat) : Int) > 0)) = false) ∧ ((decide (((n : Nat) : Int) > 0)) = false) ∧ ((decide (((n : Nat) : Int) > 0)) = false) ∧ ((decide (((n : Nat) : Int) > 0)) = false) ∧ ((decide (((n : Nat) : Int) > 0)) = false) ∧ True)) ∧ (false = false) ∧ True) (lv := .exit 0) (T' := [(0, .row (.int .u32) l), (3, vi ((n : Nat) : Int))]) (B' := []) mix hI hs ?_ ?_ ?_ ?_
  ·exact ⟨trivial, trivial⟩
  ·kernel_rfl
  ·exact ⟨tr_mk (⟨b1, b1, b1, b1, b1, b1, b1, trivial⟩) 3, rfl, trivial⟩
  intro a w hs
  refine then_exit ?_
  refine inb_hit ?_
  refine then_norm ?_
  rcases Bool.eq_false_or_eq_true (((n : Nat) : Int) == 0) with b4 | b4
  ·skip
   have n4 := eq_of_beq b4
   refine way_L (tt := tt) (rs := []) (bs := [true]) (tk := [2]) (bk := []) (C := (True ∧ True ∧ True) ∧ ((((n : Nat) : Int) == 0) = true) ∧ (True ∧ True) ∧ True) (lv := .ret) (T' := [(2, nilv)]) (B' := []) mix hI hs ?_ ?_ ?_ ?_
   ·exact trivial
   ·kernel_rfl
   ·exact ⟨⟨trivial, trivial, trivial⟩, b4, ⟨trivial, trivial⟩, trivial⟩
   intro a w hs
   exact FnQ_cast (out := .own 160 (.int .u32) ([])) (by obtain rfl : n = 0 := (by omega); rw [← ht]; rfl) (ret_ok [] hs (.inr ⟨by kernel_rfl, rfl⟩))
  ·skip
   have n4 := beq_eq_false_iff_ne.1 b4
   refine way_L (tt := tt) (rs := []) (bs := [false]) (tk := [2]) (bk := [7001]) (C := ((True ∧ True ∧ True) ∧ ((((n : Nat) : Int) == 0) = false) ∧ True) ∧ (True ∧ (((n : Nat) : Int) = ((n : Nat) : Int) ∧ 0 ≤ ((n : Nat) : Int) ∧ (4 : Nat) * ((n : Nat) : Int) ≤ 281474976710656 ∧ ((n : Nat) : Int) ≤ 9223372036854775807) ∧ True ∧ True) ∧ (tr 3 True) ∧ (True ∧ True ∧ True) ∧ True) (lv := .ret) (T' := [(2, .own 7001)]) (B' := [(7001, .sl 160 (.int .u32) (l.take (List.replicate n (dflt (.int .u32))).length ++ (List.replicate n (dflt (.int .u32))).drop l.length))]) mix hI hs ?_ ?_ ?_ ?_
   ·exact trivial
   ·kernel_rfl
   ·exact ⟨⟨⟨trivial, trivial, trivial⟩, b4, trivial⟩, ⟨trivial, (by omega), trivial, trivial⟩, tr_mk trivial 3, ⟨trivial, trivial, trivial⟩, trivial⟩
   intro a w hs
   exact FnQ_cast (out := .own 160 (.int .u32) (l.take (List.replicate n (dflt (.int .u32))).length ++ (List.replicate n (dflt (.int .u32))).drop l.length)) (by exfalso; omega) (ret_ok [] hs (.inl ⟨7001, by kernel_rfl, rfl⟩))
end Go.Proofs.YtondpnipoogoiaaGreatDoor.F
