import Derived.Test.YtondpnipoogoiaaGreatDoorO8
import Derived.Test.YtondpnipoogoiaaGreatDoorO5
namespace Go.Proofs.YtondpnipoogoiaaGreatDoor.F
open Go Go.RowKit Go.Proofs.Tryz
set_option linter.unusedVariables false
set_option linter.unusedSimpArgs false
def makeN (neg : Bool) (n : Nat) (e : Int) : Num × Bool :=
  if (lim (tz n).1).length = 0 then (⟨false, [], 0⟩, true)
  else if (lim (tz n).1).length > 90 ∨ e < -1099511627776 ∨ e > 1099511627776 ∨ (((tz n).2 : Nat) : Int) > 1099511627776 ∨ e + (((tz n).2 : Nat) : Int) < -1200 ∨ e + (((tz n).2 : Nat) : Int) > 1200 then (⟨false, [], 0⟩, false)
  else (⟨neg, lim (tz n).1, e + (((tz n).2 : Nat) : Int)⟩, true)
theorem makeN_check (neg : Bool) (n : Nat) (e : Int) : checkN (makeN neg n e).1 = true := by
  unfold makeN
  split
  · rfl
  · rename_i h0
    split
    · rfl
    · rename_i h
      simp only [not_or] at h
      have hn : (tz n).1 ≠ 0 := fun hz => h0 (by rw [hz, lim_zero]; rfl)
      have hn2 : n ≠ 0 := fun hz => hn (by rw [hz, tz_zero])
      show checkN ⟨neg, lim (tz n).1, e + (((tz n).2 : Nat) : Int)⟩ = true
      unfold checkN
      rw [if_neg h0, if_neg (show ¬ (lim (tz n).1).length > 90 by omega), if_neg (lim_last h0), if_neg (by show ¬ e + _ < _; omega), if_neg (by show ¬ e + _ > _; omega)]
      show decide (val (lim (tz n).1) % 10 ≠ 0) = true
      rw [val_lim]
      exact decide_eq_true (tz_mod hn2)
theorem makeN_ok (neg : Bool) (n : Nat) (e : Int) : Ok (makeN neg n e).1.m := by
  unfold makeN
  split
  · exact Ok.nil
  · split
    · exact Ok.nil
    · exact lim_ok _
theorem makeN_len (neg : Bool) {l : List Int} (hl : Ok l) (e : Int) : (makeN neg (val l) e).1.m.length ≤ l.length := by
  unfold makeN
  split
  · exact Nat.zero_le _
  · split
    · exact Nat.zero_le _
    · exact lim_len hl (tz_le _)
theorem wrap32_in (x : Int) : 0 ≤ IntKind.wrap .u32 x ∧ IntKind.wrap .u32 x < 4294967296 := by
  simp only [IntKind.wrap, IntKind.bits, IntKind.signed]
  simp
  omega
theorem ok1 {x : Int} (h : 0 ≤ x ∧ x < 4294967296) : Ok [x] := Ok.cons h.1 h.2 Ok.nil
theorem ok2 {x y : Int} (h : 0 ≤ x ∧ x < 4294967296) (h2 : 0 ≤ y ∧ y < 4294967296) : Ok [x, y] := Ok.cons h.1 h.2 (ok1 h2)
theorem ok3 {x y z : Int} (h : 0 ≤ x ∧ x < 4294967296) (h2 : 0 ≤ y ∧ y < 4294967296) (h3 : 0 ≤ z ∧ z < 4294967296) : Ok [x, y, z] := Ok.cons h.1 h.2 (ok2 h2 h3)
structure FineN (n : Num) : Prop where
  check : checkN n = true
  ok : Ok n.m
  len : n.m.length ≤ 3
theorem fineN_make {neg : Bool} {l : List Int} (hl : Ok l) (h3 : l.length ≤ 3) (e : Int) : FineN (makeN neg (val l) e).1 := ⟨makeN_check _ _ _, makeN_ok _ _ _, Nat.le_trans (makeN_len _ hl _) h3⟩
def uabs (v : Int) : Int := if decide (v < 0) = true then IntKind.wrap .u64 (0 - IntKind.wrap .u64 v) else IntKind.wrap .u64 v
def ofN (v : Int) : Num := (makeN (decide (v < 0)) (val [IntKind.wrap .u32 (uabs v), IntKind.wrap .u32 ((uabs v).fdiv (2 ^ 32))]) 0).1
theorem fineN_of (v : Int) : FineN (ofN v) := fineN_make (ok2 (wrap32_in _) (wrap32_in _)) (Nat.le_of_ble_eq_true rfl) 0
def numberN (v : Int) : Num :=
  if v.tmod 5 = 0 then ofN ((v.tdiv 5).tmod 60 - 20)
  else if v.tmod 5 = 1 then (makeN ((v.tdiv 5).tmod 2 == 1) (val [IntKind.wrap .u32 ((v.tdiv 10).tmod 2000)]) ((v.tdiv 7).tmod 9 - 5)).1
  else if v.tmod 5 = 2 then (makeN false (val [IntKind.wrap .u32 v, IntKind.wrap .u32 (v.tdiv 3), IntKind.wrap .u32 (v.tmod 7)]) 0).1
  else if v.tmod 5 = 3 then (makeN (v.tmod 2 == 1) (val [5, IntKind.wrap .u32 v]) (IntKind.wrap .i64 (0 - (v.tdiv 5).tmod 30))).1
  else ofN v
theorem fineN_number (v : Int) : FineN (numberN v) := by
  unfold numberN
  repeat' split
  · exact fineN_of _
  · exact fineN_make (ok1 (wrap32_in _)) (Nat.le_of_ble_eq_true rfl) _
  · exact fineN_make (ok3 (wrap32_in _) (wrap32_in _) (wrap32_in _)) (Nat.le_of_ble_eq_true rfl) _
  · exact fineN_make (ok2 ⟨by decide, by decide⟩ (wrap32_in _)) (Nat.le_of_ble_eq_true rfl) _
  · exact fineN_of _
theorem td {a : Int} (h : -9223372036854775808 ≤ a ∧ a ≤ 9223372036854775807) (k : Int) (hk : 2 ≤ k) : -9223372036854775808 < a.tdiv k ∧ a.tdiv k ≤ 9223372036854775807 := by
  have h1 : (a.tdiv k).natAbs = a.natAbs / k.natAbs := Int.natAbs_tdiv a k
  have h2 : a.natAbs / k.natAbs ≤ a.natAbs / 2 := Nat.div_le_div_left (by omega) (by omega)
  omega
theorem tm {a : Int} (k : Int) (hk : 0 < k) : -k < a.tmod k ∧ a.tmod k < k := ⟨Int.lt_tmod_of_pos a hk, Int.tmod_lt_of_pos a hk⟩
set_option maxRecDepth 100000 in
theorem con212 (l : List Int) (ha : Ok l) (hl : l.length < 1000000000) : Con Tryz.prog I0 212 [.row (.int .u32) l] (.val (.tup [.row (.int .u32) (lim (tz (val l)).1), vi (((tz (val l)).2 : Nat) : Int)])) := by
 refine con_of Tryz.func212 rfl (Nat.le_of_ble_eq_true rfl) stab (fun w0 fz a hI hs => ?_)
 refine wp_seq ?_
 refine way_L (tt := tt) (rs := []) (bs := []) (tk := [0]) (bk := []) (C := True ∧ True ∧ True) (lv := .norm) (T' := [(0, .row (.int .u32) l)]) (B' := []) mix hI hs ?_ ?_ ?_ ?_
 ·exact trivial
 ·kernel_rfl
 ·exact ⟨trivial, trivial, trivial⟩
 intro a w hs
 refine then_norm ?_
 refine wp_seq ?_
 refine way_L (tt := tt) (rs := [(1, ⟨[(1, ciA 250 [.row (.int .u32) l] [] [] (.val (.row (.int .u32) (lim (val l)))))], [], []⟩)]) (bs := []) (tk := [4]) (bk := []) (C := True ∧ (okArgs [.row (.int .u32) l]) ∧ True ∧ True) (lv := .norm) (T' := [(4, .row (.int .u32) (lim (val l)))]) (B' := []) mix hI hs ?_ ?_ ?_ ?_
 ·exact ⟨⟨⟨ent250, (trim_lim ha ▸ (con250 _ (by omega)).frz)⟩, trivial⟩, trivial⟩
 ·kernel_rfl
 ·exact ⟨trivial, rfl, trivial, trivial⟩
 intro a w hs
 refine then_norm ?_
 refine wp_seq ?_
 refine way_L (tt := tt) (rs := []) (bs := []) (tk := [4, 5]) (bk := []) (C := True ∧ True) (lv := .norm) (T' := [(4, .row (.int .u32) (lim (val l))), (5, vi 0)]) (B' := []) mix hI hs ?_ ?_ ?_ ?_
 ·exact trivial
 ·kernel_rfl
 ·exact ⟨trivial, trivial⟩
 intro a w hs
 refine then_norm ?_
 refine wp_seq ?_
 refine wp_block ?_
 refine loop_L (N := Tryz.f212.ntmps) (w0 := w0) (ow := noO fz) (α := Nat × Nat) (fun p => [(4, .row (.int .u32) (lim p.1)), (5, vi ((p.2 : Nat) : Int))]) (fun p => []) (fun p => p.1 ≤ val l ∧ tz (val l) = ((tz p.1).1, p.2 + (tz p.1).2)) (fun p => p.1) (val l, 0) ?_ ?_ ?_
 ·exact ⟨Nat.le_refl _, by simp⟩
 ·exact (SimL.cast hs (T' := [(4, .row (.int .u32) (lim (val l))), (5, vi ((0 : Nat) : Int))]) (B' := []) (by rfl) rfl).ren [] (by kernel_rfl) (by kernel_rfl) (by kernel_rfl)
 rintro ⟨n, c⟩ hJ a w hs
 try dsimp only at hJ
 obtain ⟨hn, hz⟩ := hJ
 have hln := lim_len ha hn
 have htz := tz_small ha hl
 rw [hz] at htz
 have hl0 := lim_len_zero n
 have hvl := val_lim n
 rcases Bool.eq_false_or_eq_true (decide (((lim n).length : Int) > 0)) with b1 | b1
 ·skip
  have n1 := of_decide_eq_true b1
  rcases Bool.eq_false_or_eq_true (((val (lim n) % 10 : Nat) : Int) != 0) with b2 | b2
  ·skip
   have n2 := bne_iff_ne.1 b2
   refine way_L (tt := tt) (rs := [(4, ⟨[(1, ciA 218 [.row (.int .u32) (lim n), .lit (.int .u32 10)] [] [] (.val (.tup [.row (.int .u32) (lim (val (lim n) / 10)), .lit (.int .u32 ((val (lim n) % 10 : Nat) : Int))])))], [], []⟩)]) (bs := [true, true]) (tk := [4, 5]) (bk := []) (C := ((tr 3 True) ∧ ((decide (((lim n).length : Int) > 0)) = true) ∧ True) ∧ (True ∧ (okArgs [.row (.int .u32) (lim n), .lit (.int .u32 10)]) ∧ (tr 5 True)) ∧ (True ∧ True ∧ True) ∧ ((((val (lim n) % 10 : Nat) : Int) != 0) = true) ∧ True) (lv := .exit 0) (T' := [(4, .row (.int .u32) (lim n)), (5, vi ((c : Nat) : Int))]) (B' := []) mix hI hs ?_ ?_ ?_ ?_
   ·exact ⟨⟨⟨ent218, con218_10 _ (lim_ok n) (by omega)⟩, trivial⟩, trivial⟩
   ·kernel_rfl
   ·exact ⟨⟨tr_mk trivial 3, b1, trivial⟩, ⟨trivial, rfl, tr_mk trivial 5⟩, ⟨trivial, trivial, trivial⟩, b2, trivial⟩
   intro a w hs
   refine then_exit ?_
   refine inb_hit ?_
   refine then_norm ?_
   refine way_L (tt := tt) (rs := []) (bs := []) (tk := [2, 3]) (bk := []) (C := (tr 4 True) ∧ True) (lv := .ret) (T' := [(2, .row (.int .u32) (lim n)), (3, vi ((c : Nat) : Int))]) (B' := []) mix hI hs ?_ ?_ ?_ ?_
   ·exact trivial
   ·kernel_rfl
   ·exact ⟨tr_mk trivial 4, trivial⟩
   intro a w hs
   exact FnQ_cast (out := .val (.tup [.row (.int .u32) (lim n), vi ((c : Nat) : Int)])) (by have h := bne_iff_ne.1 b2; rw [hvl] at h; rw [tz_end (.inl (by omega)) hz]) (ret_ok [] hs ⟨by kernel_rfl, rfl⟩)
  ·skip
   have n2 := bne_eq_false_iff_eq.1 b2
   refine way_L (tt := tt) (rs := [(4, ⟨[(1, ciA 218 [.row (.int .u32) (lim n), .lit (.int .u32 10)] [] [] (.val (.tup [.row (.int .u32) (lim (val (lim n) / 10)), .lit (.int .u32 ((val (lim n) % 10 : Nat) : Int))])))], [], []⟩)]) (bs := [true, false]) (tk := [4, 5]) (bk := []) (C := ((tr 3 True) ∧ ((decide (((lim n).length : Int) > 0)) = true) ∧ True) ∧ (True ∧ (okArgs [.row (.int .u32) (lim n), .lit (.int .u32 10)]) ∧ (tr 5 True)) ∧ ((True ∧ True ∧ True) ∧ ((((val (lim n) % 10 : Nat) : Int) != 0) = false) ∧ True) ∧ (True ∧ True ∧ True) ∧ True ∧ (InR .i64 (((c : Nat) : Int) + 1)) ∧ True ∧ True) (lv := .norm) (T' := [(4, .row (.int .u32) (lim (val (lim n) / 10))), (5, vi (((c : Nat) : Int) + 1))]) (B' := []) mix hI hs ?_ ?_ ?_ ?_
   ·exact ⟨⟨⟨ent218, con218_10 _ (lim_ok n) (by omega)⟩, trivial⟩, trivial⟩
   ·kernel_rfl
   ·exact ⟨⟨tr_mk trivial 3, b1, trivial⟩, ⟨trivial, rfl, tr_mk trivial 5⟩, ⟨⟨trivial, trivial, trivial⟩, b2, trivial⟩, ⟨trivial, trivial, trivial⟩, trivial, (inR64 (by omega) (by omega)), trivial, trivial⟩
   intro a w hs
   refine then_norm ⟨(n / 10, c + 1), ⟨by omega, tz_iter (by omega) (by have h := bne_eq_false_iff_eq.1 b2; rw [hvl] at h; omega) hz⟩, by omega, ?_⟩
   (have e0_ : (lim (val (lim n) / 10)) = (lim (n / 10)) := (by first | rfl | (rw [hvl])); have e1_ : (((c : Nat) : Int) + 1) = ((((c + 1) : Nat) : Int)) := (by first | rfl | (omega)); exact (SimL.cast hs (T' := [(4, .row (.int .u32) (lim (n / 10))), (5, vi (((c + 1) : Nat) : Int))]) (B' := []) (by first | rfl | (rw [e0_, e1_]; done) | (simp only [e0_, e1_]; done) | (simp only [e0_, e1_]; rfl)) (by first | rfl | (rw [e0_, e1_]; done) | (simp only [e0_, e1_]; done) | (simp only [e0_, e1_]; rfl))).ren [] (by kernel_rfl) (by kernel_rfl) (by kernel_rfl))
 ·skip
  have n1 := of_decide_eq_false b1
  refine way_L (tt := tt) (rs := []) (bs := [false]) (tk := [4, 5]) (bk := []) (C := (tr 3 True) ∧ ((decide (((lim n).length : Int) > 0)) = false) ∧ True) (lv := .exit 0) (T' := [(4, .row (.int .u32) (lim n)), (5, vi ((c : Nat) : Int))]) (B' := []) mix hI hs ?_ ?_ ?_ ?_
  ·exact trivial
  ·kernel_rfl
  ·exact ⟨tr_mk trivial 3, b1, trivial⟩
  intro a w hs
  refine then_exit ?_
  refine inb_hit ?_
  refine then_norm ?_
  refine way_L (tt := tt) (rs := []) (bs := []) (tk := [2, 3]) (bk := []) (C := (tr 4 True) ∧ True) (lv := .ret) (T' := [(2, .row (.int .u32) (lim n)), (3, vi ((c : Nat) : Int))]) (B' := []) mix hI hs ?_ ?_ ?_ ?_
  ·exact trivial
  ·kernel_rfl
  ·exact ⟨tr_mk trivial 4, trivial⟩
  intro a w hs
  exact FnQ_cast (out := .val (.tup [.row (.int .u32) (lim n), vi ((c : Nat) : Int)])) (by rw [tz_end (.inr (by omega)) hz]) (ret_ok [] hs ⟨by kernel_rfl, rfl⟩)
set_option maxRecDepth 100000 in
theorem con167 (neg : Bool) (l : List Int) (e : Int) (ha : Ok l) (hl : l.length < 1000000000) : Con Tryz.prog I0 167 [vb neg, .row (.int .u32) l, vi e] (.val (.tup [.agg [vb (((makeN neg (val l) e).1).neg), .row (.int .u32) (((makeN neg (val l) e).1).m), vi (((makeN neg (val l) e).1).e)], vb ((makeN neg (val l) e).2)])) := by
 refine con_of Tryz.func167 rfl (Nat.le_of_ble_eq_true rfl) stab (fun w0 fz a hI hs => ?_)
 rcases Bool.eq_false_or_eq_true (((lim (tz (val l)).1).length : Int) == 0) with b1 | b1
 ·skip
  have n1 := eq_of_beq b1
  refine way_L (tt := tt) (rs := [(1, ⟨[(1, ciA 212 [.row (.int .u32) l] [] [] (.val (.tup [.row (.int .u32) (lim (tz (val l)).1), vi (((tz (val l)).2 : Nat) : Int)])))], [], []⟩)]) (bs := [true]) (tk := [6, 7]) (bk := [1000]) (C := (True ∧ True ∧ True) ∧ (True ∧ (okArgs [.row (.int .u32) l]) ∧ (tr 5 True)) ∧ (tr 3 True) ∧ ((((lim (tz (val l)).1).length : Int) == 0) = true) ∧ (tr 3 True) ∧ True) (lv := .ret) (T' := [(6, .ptr 1000 0), (7, vb true)]) (B' := [(1000, .var [vb false, nilv, vi 0])]) mix hI hs ?_ ?_ ?_ ?_
  ·exact ⟨⟨⟨ent212, con212 _ ha hl⟩, trivial⟩, trivial⟩
  ·kernel_rfl
  ·exact ⟨⟨trivial, trivial, trivial⟩, ⟨trivial, rfl, tr_mk trivial 5⟩, tr_mk trivial 3, b1, tr_mk trivial 3, trivial⟩
  intro a w hs
  exact FnQ_cast (out := .val (.tup [.agg [vb false, .row (.int .u32) ([]), vi 0], vb true])) (by rw [makeN, if_pos (by omega)]) (ret_ok [] hs ⟨by kernel_rfl, rfl⟩)
 ·skip
  have n1 := beq_eq_false_iff_ne.1 b1
  rcases Bool.eq_false_or_eq_true (decide (((lim (tz (val l)).1).length : Int) > 90)) with b2 | b2
  ·skip
   have n2 := of_decide_eq_true b2
   refine way_L (tt := tt) (rs := [(1, ⟨[(1, ciA 212 [.row (.int .u32) l] [] [] (.val (.tup [.row (.int .u32) (lim (tz (val l)).1), vi (((tz (val l)).2 : Nat) : Int)])))], [], []⟩), (4, ⟨[], [(4, false), (5, false), (1006, true), (8, false), (9, false), (1010, true), (12, false), (13, false), (1014, true), (16, false), (17, false), (18, false), (19, false), (1020, true), (22, false), (23, false), (24, false), (25, false), (1026, true)], []⟩)]) (bs := [false, true]) (tk := [6, 7]) (bk := [1000]) (C := (True ∧ True ∧ True) ∧ (True ∧ (okArgs [.row (.int .u32) l]) ∧ (tr 5 True)) ∧ ((tr 3 True) ∧ ((((lim (tz (val l)).1).length : Int) == 0) = false) ∧ True) ∧ (tr 4 (((decide (((lim (tz (val l)).1).length : Int) > 90)) = true) ∧ ((decide (((lim (tz (val l)).1).length : Int) > 90)) = true) ∧ ((decide (((lim (tz (val l)).1).length : Int) > 90)) = true) ∧ True ∧ (true = true) ∧ (true = true) ∧ (true = true) ∧ True ∧ (true = true) ∧ (true = true) ∧ (true = true) ∧ True ∧ (true = true) ∧ (true = true) ∧ (true = true) ∧ (true = true) ∧ (true = true) ∧ True ∧ (true = true) ∧ (true = true) ∧ (true = true) ∧ (true = true) ∧ (true = true) ∧ True)) ∧ (true = true) ∧ (tr 3 True) ∧ True) (lv := .ret) (T' := [(6, .ptr 1000 0), (7, vb false)]) (B' := [(1000, .var [vb false, nilv, vi 0])]) mix hI hs ?_ ?_ ?_ ?_
   ·exact ⟨⟨⟨ent212, con212 _ ha hl⟩, trivial⟩, trivial, trivial⟩
   ·kernel_rfl
   ·exact ⟨⟨trivial, trivial, trivial⟩, ⟨trivial, rfl, tr_mk trivial 5⟩, ⟨tr_mk trivial 3, b1, trivial⟩, tr_mk (⟨b2, b2, b2, trivial, rfl, rfl, rfl, trivial, rfl, rfl, rfl, trivial, rfl, rfl, rfl, rfl, rfl, trivial, rfl, rfl, rfl, rfl, rfl, trivial⟩) 4, rfl, tr_mk trivial 3, trivial⟩
   intro a w hs
   exact FnQ_cast (out := .val (.tup [.agg [vb false, .row (.int .u32) ([]), vi 0], vb false])) (by rw [makeN, if_neg (by omega), if_pos (by omega)]) (ret_ok [] hs ⟨by kernel_rfl, rfl⟩)
  ·skip
   have n2 := of_decide_eq_false b2
   rcases Bool.eq_false_or_eq_true (decide (e < (-1099511627776))) with b3 | b3
   ·skip
    have n3 := of_decide_eq_true b3
    refine way_L (tt := tt) (rs := [(1, ⟨[(1, ciA 212 [.row (.int .u32) l] [] [] (.val (.tup [.row (.int .u32) (lim (tz (val l)).1), vi (((tz (val l)).2 : Nat) : Int)])))], [], []⟩), (4, ⟨[], [(4, true), (5, true), (1006, false), (8, false), (9, false), (1010, true), (12, false), (13, false), (1014, true), (16, false), (17, false), (18, false), (19, false), (1020, true), (22, false), (23, false), (24, false), (25, false), (1026, true)], []⟩)]) (bs := [false, true]) (tk := [6, 7]) (bk := [1000]) (C := (True ∧ True ∧ True) ∧ (True ∧ (okArgs [.row (.int .u32) l]) ∧ (tr 5 True)) ∧ ((tr 3 True) ∧ ((((lim (tz (val l)).1).length : Int) == 0) = false) ∧ True) ∧ (tr 4 (((decide (((lim (tz (val l)).1).length : Int) > 90)) = false) ∧ True ∧ ((decide (((lim (tz (val l)).1).length : Int) > 90)) = false) ∧ True ∧ ((decide (((lim (tz (val l)).1).length : Int) > 90)) = false) ∧ True ∧ ((decide (e < (-1099511627776))) = true) ∧ ((decide (e < (-1099511627776))) = true) ∧ ((decide (e < (-1099511627776))) = true) ∧ True ∧ (true = true) ∧ (true = true) ∧ (true = true) ∧ True ∧ (true = true) ∧ (true = true) ∧ (true = true) ∧ (true = true) ∧ (true = true) ∧ True ∧ (true = true) ∧ (true = true) ∧ (true = true) ∧ (true = true) ∧ (true = true) ∧ True)) ∧ (true = true) ∧ (tr 3 True) ∧ True) (lv := .ret) (T' := [(6, .ptr 1000 0), (7, vb false)]) (B' := [(1000, .var [vb false, nilv, vi 0])]) mix hI hs ?_ ?_ ?_ ?_
    ·exact ⟨⟨⟨ent212, con212 _ ha hl⟩, trivial⟩, trivial, trivial⟩
    ·kernel_rfl
    ·exact ⟨⟨trivial, trivial, trivial⟩, ⟨trivial, rfl, tr_mk trivial 5⟩, ⟨tr_mk trivial 3, b1, trivial⟩, tr_mk (⟨b2, trivial, b2, trivial, b2, trivial, b3, b3, b3, trivial, rfl, rfl, rfl, trivial, rfl, rfl, rfl, rfl, rfl, trivial, rfl, rfl, rfl, rfl, rfl, trivial⟩) 4, rfl, tr_mk trivial 3, trivial⟩
    intro a w hs
    exact FnQ_cast (out := .val (.tup [.agg [vb false, .row (.int .u32) ([]), vi 0], vb false])) (by rw [makeN, if_neg (by omega), if_pos (by omega)]) (ret_ok [] hs ⟨by kernel_rfl, rfl⟩)
   ·skip
    have n3 := of_decide_eq_false b3
    rcases Bool.eq_false_or_eq_true (decide (e > 1099511627776)) with b4 | b4
    ·skip
     have n4 := of_decide_eq_true b4
     refine way_L (tt := tt) (rs := [(1, ⟨[(1, ciA 212 [.row (.int .u32) l] [] [] (.val (.tup [.row (.int .u32) (lim (tz (val l)).1), vi (((tz (val l)).2 : Nat) : Int)])))], [], []⟩), (4, ⟨[], [(4, true), (5, true), (1006, false), (8, true), (9, true), (1010, false), (12, false), (13, false), (1014, true), (16, false), (17, false), (18, false), (19, false), (1020, true), (22, false), (23, false), (24, false), (25, false), (1026, true)], []⟩)]) (bs := [false, true]) (tk := [6, 7]) (bk := [1000]) (C := (True ∧ True ∧ True) ∧ (True ∧ (okArgs [.row (.int .u32) l]) ∧ (tr 5 True)) ∧ ((tr 3 True) ∧ ((((lim (tz (val l)).1).length : Int) == 0) = false) ∧ True) ∧ (tr 4 (((decide (((lim (tz (val l)).1).length : Int) > 90)) = false) ∧ True ∧ ((decide (((lim (tz (val l)).1).length : Int) > 90)) = false) ∧ True ∧ ((decide (((lim (tz (val l)).1).length : Int) > 90)) = false) ∧ True ∧ ((decide (e < (-1099511627776))) = false) ∧ True ∧ ((decide (e < (-1099511627776))) = false) ∧ True ∧ ((decide (e < (-1099511627776))) = false) ∧ True ∧ ((decide (e > 1099511627776)) = true) ∧ ((decide (e > 1099511627776)) = true) ∧ ((decide (e > 1099511627776)) = true) ∧ True ∧ (true = true) ∧ (true = true) ∧ (true = true) ∧ (true = true) ∧ (true = true) ∧ True ∧ (true = true) ∧ (true = true) ∧ (true = true) ∧ (true = true) ∧ (true = true) ∧ True)) ∧ (true = true) ∧ (tr 3 True) ∧ True) (lv := .ret) (T' := [(6, .ptr 1000 0), (7, vb false)]) (B' := [(1000, .var [vb false, nilv, vi 0])]) mix hI hs ?_ ?_ ?_ ?_
     ·exact ⟨⟨⟨ent212, con212 _ ha hl⟩, trivial⟩, trivial, trivial⟩
     ·kernel_rfl
     ·exact ⟨⟨trivial, trivial, trivial⟩, ⟨trivial, rfl, tr_mk trivial 5⟩, ⟨tr_mk trivial 3, b1, trivial⟩, tr_mk (⟨b2, trivial, b2, trivial, b2, trivial, b3, trivial, b3, trivial, b3, trivial, b4, b4, b4, trivial, rfl, rfl, rfl, rfl, rfl, trivial, rfl, rfl, rfl, rfl, rfl, trivial⟩) 4, rfl, tr_mk trivial 3, trivial⟩
     intro a w hs
     exact FnQ_cast (out := .val (.tup [.agg [vb false, .row (.int .u32) ([]), vi 0], vb false])) (by rw [makeN, if_neg (by omega), if_pos (by omega)]) (ret_ok [] hs ⟨by kernel_rfl, rfl⟩)
    ·skip
     have n4 := of_decide_eq_false b4
     rcases Bool.eq_false_or_eq_true (decide ((((tz (val l)).2 : Nat) : Int) > 1099511627776)) with b5 | b5
     ·skip
      have n5 := of_decide_eq_true b5
      refine way_L (tt := tt) (rs := [(1, ⟨[(1, ciA 212 [.row (.int .u32) l] [] [] (.val (.tup [.row (.int .u32) (lim (tz (val l)).1), vi (((tz (val l)).2 : Nat) : Int)])))], [], []⟩), (4, ⟨[], [(4, true), (5, true), (1006, false), (8, true), (9, true), (1010, false), (12, true), (13, true), (1014, false), (16, false), (17, false), (18, false), (19, false), (1020, true), (22, false), (23, false), (24, false), (25, false), (1026, true)], []⟩)]) (bs := [false, true]) (tk := [6, 7]) (bk := [1000]) (C := (True ∧ True ∧ True) ∧ (True ∧ (okArgs [.row (.int .u32) l]) ∧ (tr 5 True)) ∧ ((tr 3 True) ∧ ((((lim (tz (val l)).1).length : Int) == 0) = false) ∧ True) ∧ (tr 4 (((decide (((lim (tz (val l)).1).length : Int) > 90)) = false) ∧ True ∧ ((decide (((lim (tz (val l)).1).length : Int) > 90)) = false) ∧ True ∧ ((decide (((lim (tz (val l)).1).length : Int) > 90)) = false) ∧ True ∧ ((decide (e < (-1099511627776))) = false) ∧ True ∧ ((decide (e < (-1099511627776))) = false) ∧ True ∧ ((decide (e < (-1099511627776))) = false) ∧ True ∧ ((decide (e > 1099511627776)) = false) ∧ True ∧ ((decide (e > 1099511627776)) = false) ∧ True ∧ ((decide (e > 1099511627776)) = false) ∧ True ∧ ((decide ((((tz (val l)).2 : Nat) : Int) > 1099511627776)) = true) ∧ ((decide ((((tz (val l)).2 : Nat) : Int) > 1099511627776)) = true) ∧ ((decide ((((tz (val l)).2 : Nat) : Int) > 1099511627776)) = true) ∧ ((decide ((((tz (val l)).2 : Nat) : Int) > 1099511627776)) = true) ∧ ((decide ((((tz (val l)).2 : Nat) : Int) > 1099511627776)) = true) ∧ True ∧ (true = true) ∧ (true = true) ∧ (true = true) ∧ (true = true) ∧ (true = true) ∧ True)) ∧ (true = true) ∧ (tr 3 True) ∧ True) (lv := .ret) (T' := [(6, .ptr 1000 0), (7, vb false)]) (B' := [(1000, .var [vb false, nilv, vi 0])]) mix hI hs ?_ ?_ ?_ ?_
      ·exact ⟨⟨⟨ent212, con212 _ ha hl⟩, trivial⟩, trivial, trivial⟩
      ·kernel_rfl
      ·exact ⟨⟨trivial, trivial, trivial⟩, ⟨trivial, rfl, tr_mk trivial 5⟩, ⟨tr_mk trivial 3, b1, trivial⟩, tr_mk (⟨b2, trivial, b2, trivial, b2, trivial, b3, trivial, b3, trivial, b3, trivial, b4, trivial, b4, trivial, b4, trivial, b5, b5, b5, b5, b5, trivial, rfl, rfl, rfl, rfl, rfl, trivial⟩) 4, rfl, tr_mk trivial 3, trivial⟩
      intro a w hs
      exact FnQ_cast (out := .val (.tup [.agg [vb false, .row (.int .u32) ([]), vi 0], vb false])) (by rw [makeN, if_neg (by omega), if_pos (by omega)]) (ret_ok [] hs ⟨by kernel_rfl, rfl⟩)
     ·skip
      have n5 := of_decide_eq_false b5
      rcases Bool.eq_false_or_eq_true (decide ((e + (((tz (val l)).2 : Nat) : Int)) < (-1200))) with b6 | b6
      ·skip
       have n6 := of_decide_eq_true b6
       refine way_L (tt := tt) (rs := [(1, ⟨[(1, ciA 212 [.row (.int .u32) l] [] [] (.val (.tup [.row (.int .u32) (lim (tz (val l)).1), vi (((tz (val l)).2 : Nat) : Int)])))], [], []⟩), (4, ⟨[], [(4, true), (5, true), (1006, false), (8, true), (9, true), (1010, false), (12, true), (13, true), (1014, false), (16, true), (17, true), (18, true), (19, true), (1020, false), (22, false), (23, false), (24, false), (25, false), (1026, true)], []⟩)]) (bs := [false, true]) (tk := [6, 7]) (bk := [1000]) (C := (True ∧ True ∧ True) ∧ (True ∧ (okArgs [.row (.int .u32) l]) ∧ (tr 5 True)) ∧ ((tr 3 True) ∧ ((((lim (tz (val l)).1).length : Int) == 0) = false) ∧ True) ∧ (tr 4 (((decide (((lim (tz (val l)).1).length : Int) > 90)) = false) ∧ True ∧ ((decide (((lim (tz (val l)).1).length : Int) > 90)) = false) ∧ True ∧ ((decide (((lim (tz (val l)).1).length : Int) > 90)) = false) ∧ True ∧ ((decide (e < (-1099511627776))) = false) ∧ True ∧ ((decide (e < (-1099511627776))) = false) ∧ True ∧ ((decide (e < (-1099511627776))) = false) ∧ True ∧ ((decide (e > 1099511627776)) = false) ∧ True ∧ ((decide (e > 1099511627776)) = false) ∧ True ∧ ((decide (e > 1099511627776)) = false) ∧ True ∧ ((decide ((((tz (val l)).2 : Nat) : Int) > 1099511627776)) = false) ∧ True ∧ ((decide ((((tz (val l)).2 : Nat) : Int) > 1099511627776)) = false) ∧ True ∧ ((decide ((((tz (val l)).2 : Nat) : Int) > 1099511627776)) = false) ∧ (InR .i64 (e + (((tz (val l)).2 : Nat) : Int))) ∧ ((decide ((((tz (val l)).2 : Nat) : Int) > 1099511627776)) = false) ∧ True ∧ ((decide ((((tz (val l)).2 : Nat) : Int) > 1099511627776)) = false) ∧ True ∧ ((decide ((e + (((tz (val l)).2 : Nat) : Int)) < (-1200))) = true) ∧ ((decide ((e + (((tz (val l)).2 : Nat) : Int)) < (-1200))) = true) ∧ ((decide ((e + (((tz (val l)).2 : Nat) : Int)) < (-1200))) = true) ∧ ((decide ((e + (((tz (val l)).2 : Nat) : Int)) < (-1200))) = true) ∧ ((decide ((e + (((tz (val l)).2 : Nat) : Int)) < (-1200))) = true) ∧ True)) ∧ (true = true) ∧ (tr 3 True) ∧ True) (lv := .ret) (T' := [(6, .ptr 1000 0), (7, vb false)]) (B' := [(1000, .var [vb false, nilv, vi 0])]) mix hI hs ?_ ?_ ?_ ?_
       ·exact ⟨⟨⟨ent212, con212 _ ha hl⟩, trivial⟩, trivial, trivial⟩
       ·kernel_rfl
       ·exact ⟨⟨trivial, trivial, trivial⟩, ⟨trivial, rfl, tr_mk trivial 5⟩, ⟨tr_mk trivial 3, b1, trivial⟩, tr_mk (⟨b2, trivial, b2, trivial, b2, trivial, b3, trivial, b3, trivial, b3, trivial, b4, trivial, b4, trivial, b4, trivial, b5, trivial, b5, trivial, b5, (inR64 (by omega) (by omega)), b5, trivial, b5, trivial, b6, b6, b6, b6, b6, trivial⟩) 4, rfl, tr_mk trivial 3, trivial⟩
       intro a w hs
       exact FnQ_cast (out := .val (.tup [.agg [vb false, .row (.int .u32) ([]), vi 0], vb false])) (by rw [makeN, if_neg (by omega), if_pos (by omega)]) (ret_ok [] hs ⟨by kernel_rfl, rfl⟩)
      ·skip
       have n6 := of_decide_eq_false b6
       rcases Bool.eq_false_or_eq_true (decide ((e + (((tz (val l)).2 : Nat) : Int)) > 1200)) with b7 | b7
       ·skip
        have n7 := of_decide_eq_true b7
        refine way_L (tt := tt) (rs := [(1, ⟨[(1, ciA 212 [.row (.int .u32) l] [] [] (.val (.tup [.row (.int .u32) (lim (tz (val l)).1), vi (((tz (val l)).2 : Nat) : Int)])))], [], []⟩), (4, ⟨[], [(4, true), (5, true), (1006, false), (8, true), (9, true), (1010, false), (12, true), (13, true), (1014, false), (16, true), (17, true), (18, true), (19, true), (1020, false), (22, true), (23, true), (24, true), (25, true), (1026, false)], []⟩)]) (bs := [false, true]) (tk := [6, 7]) (bk := [1000]) (C := (True ∧ True ∧ True) ∧ (True ∧ (okArgs [.row (.int .u32) l]) ∧ (tr 5 True)) ∧ ((tr 3 True) ∧ ((((lim (tz (val l)).1).length : Int) == 0) = false) ∧ True) ∧ (tr 4 (((decide (((lim (tz (val l)).1).length : Int) > 90)) = false) ∧ True ∧ ((decide (((lim (tz (val l)).1).length : Int) > 90)) = false) ∧ True ∧ ((decide (((lim (tz (val l)).1).length : Int) > 90)) = false) ∧ True ∧ ((decide (e < (-1099511627776))) = false) ∧ True ∧ ((decide (e < (-1099511627776))) = false) ∧ True ∧ ((decide (e < (-1099511627776))) = false) ∧ True ∧ ((decide (e > 1099511627776)) = false) ∧ True ∧ ((decide (e > 1099511627776)) = false) ∧ True ∧ ((decide (e > 1099511627776)) = false) ∧ True ∧ ((decide ((((tz (val l)).2 : Nat) : Int) > 1099511627776)) = false) ∧ True ∧ ((decide ((((tz (val l)).2 : Nat) : Int) > 1099511627776)) = false) ∧ True ∧ ((decide ((((tz (val l)).2 : Nat) : Int) > 1099511627776)) = false) ∧ (InR .i64 (e + (((tz (val l)).2 : Nat) : Int))) ∧ ((decide ((((tz (val l)).2 : Nat) : Int) > 1099511627776)) = false) ∧ True ∧ ((decide ((((tz (val l)).2 : Nat) : Int) > 1099511627776)) = false) ∧ True ∧ ((decide ((e + (((tz (val l)).2 : Nat) : Int)) < (-1200))) = false) ∧ True ∧ ((decide ((e + (((tz (val l)).2 : Nat) : Int)) < (-1200))) = false) ∧ True ∧ ((decide ((e + (((tz (val l)).2 : Nat) : Int)) < (-1200))) = false) ∧ (InR .i64 (e + (((tz (val l)).2 : Nat) : Int))) ∧ ((decide ((e + (((tz (val l)).2 : Nat) : Int)) < (-1200))) = false) ∧ True ∧ ((decide ((e + (((tz (val l)).2 : Nat) : Int)) < (-1200))) = false) ∧ True)) ∧ ((decide ((e + (((tz (val l)).2 : Nat) : Int)) > 1200)) = true) ∧ (tr 3 True) ∧ True) (lv := .ret) (T' := [(6, .ptr 1000 0), (7, vb false)]) (B' := [(1000, .var [vb false, nilv, vi 0])]) mix hI hs ?_ ?_ ?_ ?_
        ·exact ⟨⟨⟨ent212, con212 _ ha hl⟩, trivial⟩, trivial, trivial⟩
        ·kernel_rfl
        ·exact ⟨⟨trivial, trivial, trivial⟩, ⟨trivial, rfl, tr_mk trivial 5⟩, ⟨tr_mk trivial 3, b1, trivial⟩, tr_mk (⟨b2, trivial, b2, trivial, b2, trivial, b3, trivial, b3, trivial, b3, trivial, b4, trivial, b4, trivial, b4, trivial, b5, trivial, b5, trivial, b5, (inR64 (by omega) (by omega)), b5, trivial, b5, trivial, b6, trivial, b6, trivial, b6, (inR64 (by omega) (by omega)), b6, trivial, b6, trivial⟩) 4, b7, tr_mk trivial 3, trivial⟩
        intro a w hs
        exact FnQ_cast (out := .val (.tup [.agg [vb false, .row (.int .u32) ([]), vi 0], vb false])) (by rw [makeN, if_neg (by omega), if_pos (by omega)]) (ret_ok [] hs ⟨by kernel_rfl, rfl⟩)
       ·skip
        have n7 := of_decide_eq_false b7
        refine way_L (tt := tt) (rs := [(1, ⟨[(1, ciA 212 [.row (.int .u32) l] [] [] (.val (.tup [.row (.int .u32) (lim (tz (val l)).1), vi (((tz (val l)).2 : Nat) : Int)])))], [], []⟩), (4, ⟨[], [(4, true), (5, true), (1006, false), (8, true), (9, true), (1010, false), (12, true), (13, true), (1014, false), (16, true), (17, true), (18, true), (19, true), (1020, false), (22, true), (23, true), (24, true), (25, true), (1026, false)], []⟩)]) (bs := [false, false]) (tk := [6, 7]) (bk := [1000]) (C := (True ∧ True ∧ True) ∧ (True ∧ (okArgs [.row (.int .u32) l]) ∧ (tr 5 True)) ∧ ((tr 3 True) ∧ ((((lim (tz (val l)).1).length : Int) == 0) = false) ∧ True) ∧ ((tr 4 (((decide (((lim (tz (val l)).1).length : Int) > 90)) = false) ∧ True ∧ ((decide (((lim (tz (val l)).1).length : Int) > 90)) = false) ∧ True ∧ ((decide (((lim (tz (val l)).1).length : Int) > 90)) = false) ∧ True ∧ ((decide (e < (-1099511627776))) = false) ∧ True ∧ ((decide (e < (-1099511627776))) = false) ∧ True ∧ ((decide (e < (-1099511627776))) = false) ∧ True ∧ ((decide (e > 1099511627776)) = false) ∧ True ∧ ((decide (e > 1099511627776)) = false) ∧ True ∧ ((decide (e > 1099511627776)) = false) ∧ True ∧ ((decide ((((tz (val l)).2 : Nat) : Int) > 1099511627776)) = false) ∧ True ∧ ((decide ((((tz (val l)).2 : Nat) : Int) > 1099511627776)) = false) ∧ True ∧ ((decide ((((tz (val l)).2 : Nat) : Int) > 1099511627776)) = false) ∧ (InR .i64 (e + (((tz (val l)).2 : Nat) : Int))) ∧ ((decide ((((tz (val l)).2 : Nat) : Int) > 1099511627776)) = false) ∧ True ∧ ((decide ((((tz (val l)).2 : Nat) : Int) > 1099511627776)) = false) ∧ True ∧ ((decide ((e + (((tz (val l)).2 : Nat) : Int)) < (-1200))) = false) ∧ True ∧ ((decide ((e + (((tz (val l)).2 : Nat) : Int)) < (-1200))) = false) ∧ True ∧ ((decide ((e + (((tz (val l)).2 : Nat) : Int)) < (-1200))) = false) ∧ (InR .i64 (e + (((tz (val l)).2 : Nat) : Int))) ∧ ((decide ((e + (((tz (val l)).2 : Nat) : Int)) < (-1200))) = false) ∧ True ∧ ((decide ((e + (((tz (val l)).2 : Nat) : Int)) < (-1200))) = false) ∧ True)) ∧ ((decide ((e + (((tz (val l)).2 : Nat) : Int)) > 1200)) = false) ∧ True) ∧ (tr 4 ((InR .i64 (e + (((tz (val l)).2 : Nat) : Int))) ∧ (tr 3 True))) ∧ True) (lv := .ret) (T' := [(6, .ptr 1000 0), (7, vb true)]) (B' := [(1000, .var [vb neg, .row (.int .u32) (lim (tz (val l)).1), vi (e + (((tz (val l)).2 : Nat) : Int))])]) mix hI hs ?_ ?_ ?_ ?_
        ·exact ⟨⟨⟨ent212, con212 _ ha hl⟩, trivial⟩, trivial, trivial⟩
        ·kernel_rfl
        ·exact ⟨⟨trivial, trivial, trivial⟩, ⟨trivial, rfl, tr_mk trivial 5⟩, ⟨tr_mk trivial 3, b1, trivial⟩, ⟨tr_mk (⟨b2, trivial, b2, trivial, b2, trivial, b3, trivial, b3, trivial, b3, trivial, b4, trivial, b4, trivial, b4, trivial, b5, trivial, b5, trivial, b5, (inR64 (by omega) (by omega)), b5, trivial, b5, trivial, b6, trivial, b6, trivial, b6, (inR64 (by omega) (by omega)), b6, trivial, b6, trivial⟩) 4, b7, trivial⟩, tr_mk (⟨(inR64 (by omega) (by omega)), tr_mk trivial 3⟩) 4, trivial⟩
        intro a w hs
        exact FnQ_cast (out := .val (.tup [.agg [vb neg, .row (.int .u32) (lim (tz (val l)).1), vi (e + (((tz (val l)).2 : Nat) : Int))], vb true])) (by rw [makeN, if_neg (by omega), if_neg (by omega)]) (ret_ok [] hs ⟨by kernel_rfl, rfl⟩)
set_option maxRecDepth 100000 in
theorem con166 (v : Int) : Con Tryz.prog I0 166 [vi v] (.val (.agg [vb ((ofN v).neg), .row (.int .u32) ((ofN v).m), vi ((ofN v).e)])) := by
 refine con_of Tryz.func166 rfl (Nat.le_of_ble_eq_true rfl) stab (fun w0 fz a hI hs => ?_)
 rcases Bool.eq_false_or_eq_true (decide (v < 0)) with b1 | b1
 ·skip
  have n1 := of_decide_eq_true b1
  refine way_L (tt := tt) (rs := [(4, ⟨[(8, ciA 167 [vb (decide (v < 0)), .row (.int .u32) ([IntKind.wrap .u32 (IntKind.wrap .u64 (0 - (IntKind.wrap .u64 v))), IntKind.wrap .u32 ((IntKind.wrap .u64 (0 - (IntKind.wrap .u64 v))).fdiv (2 ^ 32))]), vi 0] [] [5007] (.val (.tup [.agg [vb (((makeN (decide (v < 0)) (val ([IntKind.wrap .u32 (IntKind.wrap .u64 (0 - (IntKind.wrap .u64 v))), IntKind.wrap .u32 ((IntKind.wrap .u64 (0 - (IntKind.wrap .u64 v))).fdiv (2 ^ 32))])) 0).1).neg), .row (.int .u32) (((makeN (decide (v < 0)) (val ([IntKind.wrap .u32 (IntKind.wrap .u64 (0 - (IntKind.wrap .u64 v))), IntKind.wrap .u32 ((IntKind.wrap .u64 (0 - (IntKind.wrap .u64 v))).fdiv (2 ^ 32))])) 0).1).m), vi (((makeN (decide (v < 0)) (val ([IntKind.wrap .u32 (IntKind.wrap .u64 (0 - (IntKind.wrap .u64 v))), IntKind.wrap .u32 ((IntKind.wrap .u64 (0 - (IntKind.wrap .u64 v))).fdiv (2 ^ 32))])) 0).1).e)], vb ((makeN (decide (v < 0)) (val ([IntKind.wrap .u32 (IntKind.wrap .u64 (0 - (IntKind.wrap .u64 v))), IntKind.wrap .u32 ((IntKind.wrap .u64 (0 - (IntKind.wrap .u64 v))).fdiv (2 ^ 32))])) 0).2)])))], [], []⟩)]) (bs := [true]) (tk := [2]) (bk := [1000]) (C := (True ∧ True) ∧ (tr 3 True) ∧ ((True ∧ True ∧ True) ∧ ((decide (v < 0)) = true) ∧ (tr 3 True)) ∧ (tr 8 ((okArgs [vb (decide (v < 0)), .row (.int .u32) ([IntKind.wrap .u32 (IntKind.wrap .u64 (0 - (IntKind.wrap .u64 v))), IntKind.wrap .u32 ((IntKind.wrap .u64 (0 - (IntKind.wrap .u64 v))).fdiv (2 ^ 32))]), vi 0]) ∧ (tr 6 True))) ∧ (True ∧ True ∧ True) ∧ True) (lv := .ret) (T' := [(2, .ptr 1000 0)]) (B' := [(1000, .var [vb (((makeN (decide (v < 0)) (val ([IntKind.wrap .u32 (IntKind.wrap .u64 (0 - (IntKind.wrap .u64 v))), IntKind.wrap .u32 ((IntKind.wrap .u64 (0 - (IntKind.wrap .u64 v))).fdiv (2 ^ 32))])) 0).1).neg), .row (.int .u32) (((makeN (decide (v < 0)) (val ([IntKind.wrap .u32 (IntKind.wrap .u64 (0 - (IntKind.wrap .u64 v))), IntKind.wrap .u32 ((IntKind.wrap .u64 (0 - (IntKind.wrap .u64 v))).fdiv (2 ^ 32))])) 0).1).m), vi (((makeN (decide (v < 0)) (val ([IntKind.wrap .u32 (IntKind.wrap .u64 (0 - (IntKind.wrap .u64 v))), IntKind.wrap .u32 ((IntKind.wrap .u64 (0 - (IntKind.wrap .u64 v))).fdiv (2 ^ 32))])) 0).1).e)])]) mix hI hs ?_ ?_ ?_ ?_
  ·exact ⟨⟨⟨ent167, con167 _ _ _ (ok2 (by first | exact wrap32_in _ | decide) (wrap32_in _)) (Nat.le_of_ble_eq_true rfl)⟩, trivial⟩, trivial⟩
  ·kernel_rfl
  ·exact ⟨⟨trivial, trivial⟩, tr_mk trivial 3, ⟨⟨trivial, trivial, trivial⟩, b1, tr_mk trivial 3⟩, tr_mk (⟨rfl, tr_mk trivial 6⟩) 8, ⟨trivial, trivial, trivial⟩, trivial⟩
  intro a w hs
  exact FnQ_cast (out := .val (.agg [vb (((makeN (decide (v < 0)) (val ([IntKind.wrap .u32 (IntKind.wrap .u64 (0 - (IntKind.wrap .u64 v))), IntKind.wrap .u32 ((IntKind.wrap .u64 (0 - (IntKind.wrap .u64 v))).fdiv (2 ^ 32))])) 0).1).neg), .row (.int .u32) (((makeN (decide (v < 0)) (val ([IntKind.wrap .u32 (IntKind.wrap .u64 (0 - (IntKind.wrap .u64 v))), IntKind.wrap .u32 ((IntKind.wrap .u64 (0 - (IntKind.wrap .u64 v))).fdiv (2 ^ 32))])) 0).1).m), vi (((makeN (decide (v < 0)) (val ([IntKind.wrap .u32 (IntKind.wrap .u64 (0 - (IntKind.wrap .u64 v))), IntKind.wrap .u32 ((IntKind.wrap .u64 (0 - (IntKind.wrap .u64 v))).fdiv (2 ^ 32))])) 0).1).e)])) (by unfold ofN uabs; rw [if_pos b1]) (ret_ok [] hs ⟨by kernel_rfl, rfl⟩)
 ·skip
  have n1 := of_decide_eq_false b1
  refine way_L (tt := tt) (rs := [(4, ⟨[(8, ciA 167 [vb (decide (v < 0)), .row (.int .u32) ([IntKind.wrap .u32 (IntKind.wrap .u64 v), IntKind.wrap .u32 ((IntKind.wrap .u64 v).fdiv (2 ^ 32))]), vi 0] [] [5007] (.val (.tup [.agg [vb (((makeN (decide (v < 0)) (val ([IntKind.wrap .u32 (IntKind.wrap .u64 v), IntKind.wrap .u32 ((IntKind.wrap .u64 v).fdiv (2 ^ 32))])) 0).1).neg), .row (.int .u32) (((makeN (decide (v < 0)) (val ([IntKind.wrap .u32 (IntKind.wrap .u64 v), IntKind.wrap .u32 ((IntKind.wrap .u64 v).fdiv (2 ^ 32))])) 0).1).m), vi (((makeN (decide (v < 0)) (val ([IntKind.wrap .u32 (IntKind.wrap .u64 v), IntKind.wrap .u32 ((IntKind.wrap .u64 v).fdiv (2 ^ 32))])) 0).1).e)], vb ((makeN (decide (v < 0)) (val ([IntKind.wrap .u32 (IntKind.wrap .u64 v), IntKind.wrap .u32 ((IntKind.wrap .u64 v).fdiv (2 ^ 32))])) 0).2)])))], [], []⟩)]) (bs := [false]) (tk := [2]) (bk := [1000]) (C := (True ∧ True) ∧ (tr 3 True) ∧ ((True ∧ True ∧ True) ∧ ((decide (v < 0)) = false) ∧ True) ∧ (tr 8 ((okArgs [vb (decide (v < 0)), .row (.int .u32) ([IntKind.wrap .u32 (IntKind.wrap .u64 v), IntKind.wrap .u32 ((IntKind.wrap .u64 v).fdiv (2 ^ 32))]), vi 0]) ∧ (tr 6 True))) ∧ (True ∧ True ∧ True) ∧ True) (lv := .ret) (T' := [(2, .ptr 1000 0)]) (B' := [(1000, .var [vb (((makeN (decide (v < 0)) (val ([IntKind.wrap .u32 (IntKind.wrap .u64 v), IntKind.wrap .u32 ((IntKind.wrap .u64 v).fdiv (2 ^ 32))])) 0).1).neg), .row (.int .u32) (((makeN (decide (v < 0)) (val ([IntKind.wrap .u32 (IntKind.wrap .u64 v), IntKind.wrap .u32 ((IntKind.wrap .u64 v).fdiv (2 ^ 32))])) 0).1).m), vi (((makeN (decide (v < 0)) (val ([IntKind.wrap .u32 (IntKind.wrap .u64 v), IntKind.wrap .u32 ((IntKind.wrap .u64 v).fdiv (2 ^ 32))])) 0).1).e)])]) mix hI hs ?_ ?_ ?_ ?_
  ·exact ⟨⟨⟨ent167, con167 _ _ _ (ok2 (by first | exact wrap32_in _ | decide) (wrap32_in _)) (Nat.le_of_ble_eq_true rfl)⟩, trivial⟩, trivial⟩
  ·kernel_rfl
  ·exact ⟨⟨trivial, trivial⟩, tr_mk trivial 3, ⟨⟨trivial, trivial, trivial⟩, b1, trivial⟩, tr_mk (⟨rfl, tr_mk trivial 6⟩) 8, ⟨trivial, trivial, trivial⟩, trivial⟩
  intro a w hs
  exact FnQ_cast (out := .val (.agg [vb (((makeN (decide (v < 0)) (val ([IntKind.wrap .u32 (IntKind.wrap .u64 v), IntKind.wrap .u32 ((IntKind.wrap .u64 v).fdiv (2 ^ 32))])) 0).1).neg), .row (.int .u32) (((makeN (decide (v < 0)) (val ([IntKind.wrap .u32 (IntKind.wrap .u64 v), IntKind.wrap .u32 ((IntKind.wrap .u64 v).fdiv (2 ^ 32))])) 0).1).m), vi (((makeN (decide (v < 0)) (val ([IntKind.wrap .u32 (IntKind.wrap .u64 v), IntKind.wrap .u32 ((IntKind.wrap .u64 v).fdiv (2 ^ 32))])) 0).1).e)])) (by unfold ofN uabs; rw [if_neg (by rw [b1]; decide)]) (ret_ok [] hs ⟨by kernel_rfl, rfl⟩)
set_option maxRecDepth 100000 in
theorem con110 (v : Int) (hv : -9223372036854775808 ≤ v ∧ v ≤ 9223372036854775807) : Con Tryz.prog I0 110 [vi v] (.val (.agg [vb ((numberN v).neg), .row (.int .u32) ((numberN v).m), vi ((numberN v).e)])) := by
 have a1 := td hv 3 (by decide)
 have a2 := td hv 5 (by decide)
 have a3 := td hv 7 (by decide)
 have a4 := td hv 10 (by decide)
 have b1 := tm (a := v.tdiv 5) 60 (by decide)
 have b2 := tm (a := v.tdiv 7) 9 (by decide)
 have b3 := tm (a := v.tdiv 5) 30 (by decide)
 refine con_of Tryz.func110 rfl (Nat.le_of_ble_eq_true rfl) stab (fun w0 fz a hI hs => ?_)
 rcases Bool.eq_false_or_eq_true ((v.tmod 5) == 0) with b1 | b1
 ·skip
  have n1 := eq_of_beq b1
  refine way_L (tt := tt) (rs := [(3, ⟨[(4, ciA 166 [vi (((v.tdiv 5).tmod 60) - 20)] [] [] (.val (.agg [vb ((ofN (((v.tdiv 5).tmod 60) - 20)).neg), .row (.int .u32) ((ofN (((v.tdiv 5).tmod 60) - 20)).m), vi ((ofN (((v.tdiv 5).tmod 60) - 20)).e)])))], [], []⟩)]) (bs := [true]) (tk := [2]) (bk := [1000]) (C := (True ∧ True) ∧ (True ∧ ((5 : Int) ≠ 0) ∧ True) ∧ (True ∧ True ∧ True) ∧ (((v.tmod 5) == 0) = true) ∧ (True ∧ ((5 : Int) ≠ 0 ∧ InR .i64 (v.tdiv 5)) ∧ ((60 : Int) ≠ 0) ∧ (InR .i64 (((v.tdiv 5).tmod 60) - 20)) ∧ (okArgs [vi (((v.tdiv 5).tmod 60) - 20)]) ∧ True ∧ True) ∧ True) (lv := .ret) (T' := [(2, .ptr 1000 0)]) (B' := [(1000, .var [vb ((ofN (((v.tdiv 5).tmod 60) - 20)).neg), .row (.int .u32) ((ofN (((v.tdiv 5).tmod 60) - 20)).m), vi ((ofN (((v.tdiv 5).tmod 60) - 20)).e)])]) mix hI hs ?_ ?_ ?_ ?_
  ·exact ⟨⟨⟨ent166, con166 _⟩, trivial⟩, trivial⟩
  ·kernel_rfl
  ·exact ⟨⟨trivial, trivial⟩, ⟨trivial, (by decide), trivial⟩, ⟨trivial, trivial, trivial⟩, b1, ⟨trivial, (by first | exact inR64 (by omega) (by omega) | exact ⟨by decide, inR64 (by omega) (by omega)⟩), (by decide), (by first | exact inR64 (by omega) (by omega) | exact ⟨by decide, inR64 (by omega) (by omega)⟩), rfl, trivial, trivial⟩, trivial⟩
  intro a w hs
  exact FnQ_cast (out := .val (.agg [vb ((ofN (((v.tdiv 5).tmod 60) - 20)).neg), .row (.int .u32) ((ofN (((v.tdiv 5).tmod 60) - 20)).m), vi ((ofN (((v.tdiv 5).tmod 60) - 20)).e)])) (by rw [numberN, if_pos (by omega)]) (ret_ok [] hs ⟨by kernel_rfl, rfl⟩)
 ·skip
  have n1 := beq_eq_false_iff_ne.1 b1
  rcases Bool.eq_false_or_eq_true ((v.tmod 5) == 1) with b2 | b2
  ·skip
   have n2 := eq_of_beq b2
   refine way_L (tt := tt) (rs := [(5, ⟨[(13, ciA 167 [vb (((v.tdiv 5).tmod 2) == 1), .row (.int .u32) ([IntKind.wrap .u32 ((v.tdiv 10).tmod 2000)]), vi (((v.tdiv 7).tmod 9) - 5)] [] [6008] (.val (.tup [.agg [vb (((makeN (((v.tdiv 5).tmod 2) == 1) (val ([IntKind.wrap .u32 ((v.tdiv 10).tmod 2000)])) (((v.tdiv 7).tmod 9) - 5)).1).neg), .row (.int .u32) (((makeN (((v.tdiv 5).tmod 2) == 1) (val ([IntKind.wrap .u32 ((v.tdiv 10).tmod 2000)])) (((v.tdiv 7).tmod 9) - 5)).1).m), vi (((makeN (((v.tdiv 5).tmod 2) == 1) (val ([IntKind.wrap .u32 ((v.tdiv 10).tmod 2000)])) (((v.tdiv 7).tmod 9) - 5)).1).e)], vb ((makeN (((v.tdiv 5).tmod 2) == 1) (val ([IntKind.wrap .u32 ((v.tdiv 10).tmod 2000)])) (((v.tdiv 7).tmod 9) - 5)).2)])))], [], []⟩)]) (bs := [false, true]) (tk := [2]) (bk := [1000]) (C := (True ∧ True) ∧ (True ∧ ((5 : Int) ≠ 0) ∧ True) ∧ (True ∧ True ∧ True) ∧ (((v.tmod 5) == 0) = false) ∧ (True ∧ True ∧ True) ∧ (((v.tmod 5) == 1) = true) ∧ (True ∧ ((5 : Int) ≠ 0 ∧ InR .i64 (v.tdiv 5)) ∧ ((2 : Int) ≠ 0) ∧ True ∧ True ∧ ((10 : Int) ≠ 0 ∧ InR .i64 (v.tdiv 10)) ∧ ((2000 : Int) ≠ 0) ∧ (tr 3 (((7 : Int) ≠ 0 ∧ InR .i64 (v.tdiv 7)) ∧ ((9 : Int) ≠ 0) ∧ (InR .i64 (((v.tdiv 7).tmod 9) - 5)) ∧ (okArgs [vb (((v.tdiv 5).tmod 2) == 1), .row (.int .u32) ([IntKind.wrap .u32 ((v.tdiv 10).tmod 2000)]), vi (((v.tdiv 7).tmod 9) - 5)]) ∧ (tr 6 True)))) ∧ (True ∧ True ∧ True) ∧ True) (lv := .ret) (T' := [(2, .ptr 1000 0)]) (B' := [(1000, .var [vb (((makeN (((v.tdiv 5).tmod 2) == 1) (val ([IntKind.wrap .u32 ((v.tdiv 10).tmod 2000)])) (((v.tdiv 7).tmod 9) - 5)).1).neg), .row (.int .u32) (((makeN (((v.tdiv 5).tmod 2) == 1) (val ([IntKind.wrap .u32 ((v.tdiv 10).tmod 2000)])) (((v.tdiv 7).tmod 9) - 5)).1).m), vi (((makeN (((v.tdiv 5).tmod 2) == 1) (val ([IntKind.wrap .u32 ((v.tdiv 10).tmod 2000)])) (((v.tdiv 7).tmod 9) - 5)).1).e)])]) mix hI hs ?_ ?_ ?_ ?_
   ·exact ⟨⟨⟨ent167, con167 _ _ _ (ok1 (wrap32_in _)) (Nat.le_of_ble_eq_true rfl)⟩, trivial⟩, trivial⟩
   ·kernel_rfl
   ·exact ⟨⟨trivial, trivial⟩, ⟨trivial, (by decide), trivial⟩, ⟨trivial, trivial, trivial⟩, b1, ⟨trivial, trivial, trivial⟩, b2, ⟨trivial, (by first | exact inR64 (by omega) (by omega) | exact ⟨by decide, inR64 (by omega) (by omega)⟩), (by decide), trivial, trivial, (by first | exact inR64 (by omega) (by omega) | exact ⟨by decide, inR64 (by omega) (by omega)⟩), (by decide), tr_mk (⟨(by first | exact inR64 (by omega) (by omega) | exact ⟨by decide, inR64 (by omega) (by omega)⟩), (by decide), (by first | exact inR64 (by omega) (by omega) | exact ⟨by decide, inR64 (by omega) (by omega)⟩), rfl, tr_mk trivial 6⟩) 3⟩, ⟨trivial, trivial, trivial⟩, trivial⟩
   intro a w hs
   exact FnQ_cast (out := .val (.agg [vb (((makeN (((v.tdiv 5).tmod 2) == 1) (val ([IntKind.wrap .u32 ((v.tdiv 10).tmod 2000)])) (((v.tdiv 7).tmod 9) - 5)).1).neg), .row (.int .u32) (((makeN (((v.tdiv 5).tmod 2) == 1) (val ([IntKind.wrap .u32 ((v.tdiv 10).tmod 2000)])) (((v.tdiv 7).tmod 9) - 5)).1).m), vi (((makeN (((v.tdiv 5).tmod 2) == 1) (val ([IntKind.wrap .u32 ((v.tdiv 10).tmod 2000)])) (((v.tdiv 7).tmod 9) - 5)).1).e)])) (by rw [numberN, if_neg (by omega), if_pos (by omega)]) (ret_ok [] hs ⟨by kernel_rfl, rfl⟩)
  ·skip
   have n2 := beq_eq_false_iff_ne.1 b2
   rcases Bool.eq_false_or_eq_true ((v.tmod 5) == 2) with b3 | b3
   ·skip
    have n3 := eq_of_beq b3
    refine way_L (tt := tt) (rs := [(8, ⟨[(9, ciA 167 [vb false, .row (.int .u32) ([IntKind.wrap .u32 v, IntKind.wrap .u32 (v.tdiv 3), IntKind.wrap .u32 (v.tmod 7)]), vi 0] [] [9008] (.val (.tup [.agg [vb (((makeN false (val ([IntKind.wrap .u32 v, IntKind.wrap .u32 (v.tdiv 3), IntKind.wrap .u32 (v.tmod 7)])) 0).1).neg), .row (.int .u32) (((makeN false (val ([IntKind.wrap .u32 v, IntKind.wrap .u32 (v.tdiv 3), IntKind.wrap .u32 (v.tmod 7)])) 0).1).m), vi (((makeN false (val ([IntKind.wrap .u32 v, IntKind.wrap .u32 (v.tdiv 3), IntKind.wrap .u32 (v.tmod 7)])) 0).1).e)], vb ((makeN false (val ([IntKind.wrap .u32 v, IntKind.wrap .u32 (v.tdiv 3), IntKind.wrap .u32 (v.tmod 7)])) 0).2)])))], [], []⟩)]) (bs := [false, false, true]) (tk := [2]) (bk := [1000]) (C := (True ∧ True) ∧ (True ∧ ((5 : Int) ≠ 0) ∧ True) ∧ (True ∧ True ∧ True) ∧ (((v.tmod 5) == 0) = false) ∧ (True ∧ True ∧ True) ∧ (((v.tmod 5) == 1) = false) ∧ (True ∧ True ∧ True) ∧ (((v.tmod 5) == 2) = true) ∧ (tr 3 (((3 : Int) ≠ 0 ∧ InR .i64 (v.tdiv 3)) ∧ True ∧ True ∧ ((7 : Int) ≠ 0) ∧ True ∧ True ∧ (okArgs [vb false, .row (.int .u32) ([IntKind.wrap .u32 v, IntKind.wrap .u32 (v.tdiv 3), IntKind.wrap .u32 (v.tmod 7)]), vi 0]) ∧ (tr 6 True))) ∧ (True ∧ True ∧ True) ∧ True) (lv := .ret) (T' := [(2, .ptr 1000 0)]) (B' := [(1000, .var [vb (((makeN false (val ([IntKind.wrap .u32 v, IntKind.wrap .u32 (v.tdiv 3), IntKind.wrap .u32 (v.tmod 7)])) 0).1).neg), .row (.int .u32) (((makeN false (val ([IntKind.wrap .u32 v, IntKind.wrap .u32 (v.tdiv 3), IntKind.wrap .u32 (v.tmod 7)])) 0).1).m), vi (((makeN false (val ([IntKind.wrap .u32 v, IntKind.wrap .u32 (v.tdiv 3), IntKind.wrap .u32 (v.tmod 7)])) 0).1).e)])]) mix hI hs ?_ ?_ ?_ ?_
    ·exact ⟨⟨⟨ent167, con167 _ _ _ (ok3 (wrap32_in _) (wrap32_in _) (wrap32_in _)) (Nat.le_of_ble_eq_true rfl)⟩, trivial⟩, trivial⟩
    ·kernel_rfl
    ·exact ⟨⟨trivial, trivial⟩, ⟨trivial, (by decide), trivial⟩, ⟨trivial, trivial, trivial⟩, b1, ⟨trivial, trivial, trivial⟩, b2, ⟨trivial, trivial, trivial⟩, b3, tr_mk (⟨(by first | exact inR64 (by omega) (by omega) | exact ⟨by decide, inR64 (by omega) (by omega)⟩), trivial, trivial, (by decide), trivial, trivial, rfl, tr_mk trivial 6⟩) 3, ⟨trivial, trivial, trivial⟩, trivial⟩
    intro a w hs
    exact FnQ_cast (out := .val (.agg [vb (((makeN false (val ([IntKind.wrap .u32 v, IntKind.wrap .u32 (v.tdiv 3), IntKind.wrap .u32 (v.tmod 7)])) 0).1).neg), .row (.int .u32) (((makeN false (val ([IntKind.wrap .u32 v, IntKind.wrap .u32 (v.tdiv 3), IntKind.wrap .u32 (v.tmod 7)])) 0).1).m), vi (((makeN false (val ([IntKind.wrap .u32 v, IntKind.wrap .u32 (v.tdiv 3), IntKind.wrap .u32 (v.tmod 7)])) 0).1).e)])) (by rw [numberN, if_neg (by omega), if_neg (by omega), if_pos (by omega)]) (ret_ok [] hs ⟨by kernel_rfl, rfl⟩)
   ·skip
    have n3 := beq_eq_false_iff_ne.1 b3
    rcases Bool.eq_false_or_eq_true ((v.tmod 5) == 3) with b4 | b4
    ·skip
     have n4 := eq_of_beq b4
     refine way_L (tt := tt) (rs := [(11, ⟨[(10, ciA 167 [vb ((v.tmod 2) == 1), .row (.int .u32) ([5, IntKind.wrap .u32 v]), vi (IntKind.wrap .i64 (0 - ((v.tdiv 5).tmod 30)))] [] [12005] (.val (.tup [.agg [vb (((makeN ((v.tmod 2) == 1) (val ([5, IntKind.wrap .u32 v])) (IntKind.wrap .i64 (0 - ((v.tdiv 5).tmod 30)))).1).neg), .row (.int .u32) (((makeN ((v.tmod 2) == 1) (val ([5, IntKind.wrap .u32 v])) (IntKind.wrap .i64 (0 - ((v.tdiv 5).tmod 30)))).1).m), vi (((makeN ((v.tmod 2) == 1) (val ([5, IntKind.wrap .u32 v])) (IntKind.wrap .i64 (0 - ((v.tdiv 5).tmod 30)))).1).e)], vb ((makeN ((v.tmod 2) == 1) (val ([5, IntKind.wrap .u32 v])) (IntKind.wrap .i64 (0 - ((v.tdiv 5).tmod 30)))).2)])))], [], []⟩)]) (bs := [false, false, false, true]) (tk := [2]) (bk := [1000]) (C := (True ∧ True) ∧ (True ∧ ((5 : Int) ≠ 0) ∧ True) ∧ (True ∧ True ∧ True) ∧ (((v.tmod 5) == 0) = false) ∧ (True ∧ True ∧ True) ∧ (((v.tmod 5) == 1) = false) ∧ (True ∧ True ∧ True) ∧ (((v.tmod 5) == 2) = false) ∧ (True ∧ True ∧ True) ∧ (((v.tmod 5) == 3) = true) ∧ (True ∧ ((2 : Int) ≠ 0) ∧ (tr 5 (((5 : Int) ≠ 0 ∧ InR .i64 (v.tdiv 5)) ∧ ((30 : Int) ≠ 0) ∧ True ∧ (okArgs [vb ((v.tmod 2) == 1), .row (.int .u32) ([5, IntKind.wrap .u32 v]), vi (IntKind.wrap .i64 (0 - ((v.tdiv 5).tmod 30)))]) ∧ (tr 6 True)))) ∧ (True ∧ True ∧ True) ∧ True) (lv := .ret) (T' := [(2, .ptr 1000 0)]) (B' := [(1000, .var [vb (((makeN ((v.tmod 2) == 1) (val ([5, IntKind.wrap .u32 v])) (IntKind.wrap .i64 (0 - ((v.tdiv 5).tmod 30)))).1).neg), .row (.int .u32) (((makeN ((v.tmod 2) == 1) (val ([5, IntKind.wrap .u32 v])) (IntKind.wrap .i64 (0 - ((v.tdiv 5).tmod 30)))).1).m), vi (((makeN ((v.tmod 2) == 1) (val ([5, IntKind.wrap .u32 v])) (IntKind.wrap .i64 (0 - ((v.tdiv 5).tmod 30)))).1).e)])]) mix hI hs ?_ ?_ ?_ ?_
     ·exact ⟨⟨⟨ent167, con167 _ _ _ (ok2 (by first | exact wrap32_in _ | decide) (wrap32_in _)) (Nat.le_of_ble_eq_true rfl)⟩, trivial⟩, trivial⟩
     ·kernel_rfl
     ·exact ⟨⟨trivial, trivial⟩, ⟨trivial, (by decide), trivial⟩, ⟨trivial, trivial, trivial⟩, b1, ⟨trivial, trivial, trivial⟩, b2, ⟨trivial, trivial, trivial⟩, b3, ⟨trivial, trivial, trivial⟩, b4, ⟨trivial, (by decide), tr_mk (⟨(by first | exact inR64 (by omega) (by omega) | exact ⟨by decide, inR64 (by omega) (by omega)⟩), (by decide), trivial, rfl, tr_mk trivial 6⟩) 5⟩, ⟨trivial, trivial, trivial⟩, trivial⟩
     intro a w hs
     exact FnQ_cast (out := .val (.agg [vb (((makeN ((v.tmod 2) == 1) (val ([5, IntKind.wrap .u32 v])) (IntKind.wrap .i64 (0 - ((v.tdiv 5).tmod 30)))).1).neg), .row (.int .u32) (((makeN ((v.tmod 2) == 1) (val ([5, IntKind.wrap .u32 v])) (IntKind.wrap .i64 (0 - ((v.tdiv 5).tmod 30)))).1).m), vi (((makeN ((v.tmod 2) == 1) (val ([5, IntKind.wrap .u32 v])) (IntKind.wrap .i64 (0 - ((v.tdiv 5).tmod 30)))).1).e)])) (by rw [numberN, if_neg (by omega), if_neg (by omega), if_neg (by omega), if_pos (by omega)]) (ret_ok [] hs ⟨by kernel_rfl, rfl⟩)
    ·skip
     have n4 := beq_eq_false_iff_ne.1 b4
     refine way_L (tt := tt) (rs := [(13, ⟨[(1, ciA 166 [vi v] [] [] (.val (.agg [vb ((ofN v).neg), .row (.int .u32) ((ofN v).m), vi ((ofN v).e)])))], [], []⟩)]) (bs := [false, false, false, false]) (tk := [2]) (bk := [1000]) (C := (True ∧ True) ∧ ((True ∧ ((5 : Int) ≠ 0) ∧ True) ∧ (True ∧ True ∧ True) ∧ (((v.tmod 5) == 0) = false) ∧ (True ∧ True ∧ True) ∧ (((v.tmod 5) == 1) = false) ∧ (True ∧ True ∧ True) ∧ (((v.tmod 5) == 2) = false) ∧ (True ∧ True ∧ True) ∧ (((v.tmod 5) == 3) = false) ∧ True) ∧ (True ∧ (okArgs [vi v]) ∧ True ∧ True) ∧ True) (lv := .ret) (T' := [(2, .ptr 1000 0)]) (B' := [(1000, .var [vb ((ofN v).neg), .row (.int .u32) ((ofN v).m), vi ((ofN v).e)])]) mix hI hs ?_ ?_ ?_ ?_
     ·exact ⟨⟨⟨ent166, con166 _⟩, trivial⟩, trivial⟩
     ·kernel_rfl
     ·exact ⟨⟨trivial, trivial⟩, ⟨⟨trivial, (by decide), trivial⟩, ⟨trivial, trivial, trivial⟩, b1, ⟨trivial, trivial, trivial⟩, b2, ⟨trivial, trivial, trivial⟩, b3, ⟨trivial, trivial, trivial⟩, b4, trivial⟩, ⟨trivial, rfl, trivial, trivial⟩, trivial⟩
     intro a w hs
     exact FnQ_cast (out := .val (.agg [vb ((ofN v).neg), .row (.int .u32) ((ofN v).m), vi ((ofN v).e)])) (by rw [numberN, if_neg (by omega), if_neg (by omega), if_neg (by omega), if_neg (by omega)]) (ret_ok [] hs ⟨by kernel_rfl, rfl⟩)
end Go.Proofs.YtondpnipoogoiaaGreatDoor.F
namespace Go.Proofs.YtondpnipoogoiaaGreatDoor.F
open Go Go.RowKit Go.Proofs.Tryz
set_option linter.unusedVariables false
set_option linter.unusedSimpArgs false
theorem splitB_sizes (sep : ByteArray) : ∀ (k : Nat) (s : ByteArray), ∀ x ∈ Lib.splitB sep 0 k s, x.size ≤ s.size
  | 0, s, x, h => by simp [Lib.splitB] at h; subst h; exact Nat.le_refl _
  | k + 1, s, x, h => by
    unfold Lib.splitB at h
    split at h
    · simp at h; subst h; exact Nat.le_refl _
    · rcases List.mem_cons.1 h with rfl | h
      · rw [ByteArray.size_extract]; omega
      · have := splitB_sizes sep k _ x h
        rw [ByteArray.size_extract] at this; omega
theorem split_size {s : ByteArray} {c : UInt8} : ∀ x ∈ splitF s c, x.size ≤ s.size := splitB_sizes _ _ _
theorem split_len (s : ByteArray) (c : UInt8) : (splitF s c).length ≤ s.size + 1 := by
  have := Lib.splitB_length_le (ba [c]) 0 (Lib.countB s (ba [c])) s
  have := Lib.countB_le (ba [c]) (Nat.le_refl _) s.size s (Nat.le_refl _)
  unfold splitF; omega
theorem split_smalls {s : ByteArray} (c : UInt8) (h : s.size < 4294960000) : smalls (splitF s c) := ⟨fun x hx => by have := split_size x hx; unfold small; omega, by have := split_len s c; omega⟩
theorem sz_at {s : ByteArray} {c : UInt8} {i : Nat} (h : s.size < 4294960000) (hi : i < (splitF s c).length) (d : ByteArray) : ((splitF s c).getD i d).size < 4294960000 := by
  have := split_size _ (getD_mem hi d); omega
def badPiece (p : ByteArray) : Bool := (splitF p 46).any fun n => !nameF n
def cutsF (s : ByteArray) : List (List ByteArray) := (splitF s 44).map fun p => splitF p 46
def parseF (s : ByteArray) : List (List ByteArray) × Int :=
  if (s.toList == (ba []).toList) = true then ([], 0) else if (splitF s 44).any badPiece = true then ([], 2) else if checkF (cutsF s) = true then (cutsF s, 0) else ([], 4)
theorem any_at {α : Type} {q : α → Bool} {l : List α} {i : Nat} (h : i < l.length) (d : α) (hq : q (l.getD i d) = true) : l.any q = true := List.any_eq_true.2 ⟨_, getD_mem h d, hq⟩
theorem any_no {α : Type} {q : α → Bool} {l : List α} (h : ∀ j, j < l.length → ∀ d, q (l.getD j d) = false) : l.any q = false := by
  rw [List.any_eq_false]
  intro x hx
  obtain ⟨i, hi, rfl⟩ := List.getElem_of_mem hx
  have := h i hi l[i]
  rw [List.getD_eq_getElem?_getD, List.getElem?_eq_getElem hi] at this
  simpa using this
theorem take_map_succ {α β : Type} {f : α → β} {l : List α} {i : Nat} (h : i < l.length) (d : α) : (l.take i).map f ++ [f (l.getD i d)] = (l.take (i + 1)).map f := by
  rw [List.take_succ_eq_append_getElem h, List.map_append, List.getD_eq_getElem?_getD, List.getElem?_eq_getElem h]; rfl
theorem take_map_len {α β : Type} {f : α → β} {l : List α} {i : Nat} (h : i ≤ l.length) : ((l.take i).map f).length = i := by simp; omega
set_option maxRecDepth 100000 in
theorem con31 (s : ByteArray) (hs0 : s.size < 4294960000) : Con Tryz.prog I0 31 [vs s] (.val (.tup [.row .strs ((parseF s).1), vi ((parseF s).2)])) := by
 refine con_of Tryz.func31 rfl (Nat.le_of_ble_eq_true rfl) stab (fun w0 fz a hI hs => ?_)
 refine wp_seq ?_
 refine way_L (tt := tt) (rs := []) (bs := []) (tk := [0]) (bk := []) (C := True ∧ True ∧ True) (lv := .norm) (T' := [(0, vs s)]) (B' := []) mix hI hs ?_ ?_ ?_ ?_
 ·exact trivial
 ·kernel_rfl
 ·exact ⟨trivial, trivial, trivial⟩
 intro a w hs
 refine then_norm ?_
 refine wp_seq ?_
 rcases Bool.eq_false_or_eq_true (s.toList == (ba []).toList) with b1 | b1
 ·skip
  have n1 := eq_of_beq b1
  refine way_L (tt := tt) (rs := []) (bs := [true]) (tk := [2, 3]) (bk := []) (C := (True ∧ True ∧ True) ∧ ((s.toList == (ba []).toList) = true) ∧ (True ∧ True ∧ True) ∧ True) (lv := .ret) (T' := [(2, nilv), (3, vi 0)]) (B' := []) mix hI hs ?_ ?_ ?_ ?_
  ·exact trivial
  ·kernel_rfl
  ·exact ⟨⟨trivial, trivial, trivial⟩, b1, ⟨trivial, trivial, trivial⟩, trivial⟩
  intro a w hs
  refine then_ret ?_
  exact FnQ_cast (out := .val (.tup [.row .strs ([]), vi 0])) (by simp only [parseF]; rw [if_pos b1]) (ret_ok [] hs ⟨by kernel_rfl, rfl⟩)
 ·skip
  have n1 := beq_eq_false_iff_ne.1 b1
  refine way_L (tt := tt) (rs := []) (bs := [false]) (tk := [0]) (bk := []) (C := (True ∧ True ∧ True) ∧ ((s.toList == (ba []).toList) = false) ∧ True) (lv := .norm) (T' := [(0, vs s)]) (B' := []) mix hI hs ?_ ?_ ?_ ?_
  ·exact trivial
  ·kernel_rfl
  ·exact ⟨⟨trivial, trivial, trivial⟩, b1, trivial⟩
  intro a w hs
  refine then_norm ?_
  refine wp_seq ?_
  refine way_L (tt := tt) (rs := []) (bs := []) (tk := [0, 4]) (bk := []) (C := True ∧ True) (lv := .norm) (T' := [(0, vs s), (4, nilv)]) (B' := []) mix hI hs ?_ ?_ ?_ ?_
  ·exact trivial
  ·kernel_rfl
  ·exact ⟨trivial, trivial⟩
  intro a w hs
  refine then_norm ?_
  refine wp_seq ?_
  refine wp_seq ?_
  refine way_L (tt := tt) (rs := [(4, ⟨[(1, ciA 82 [vs s, vs (ba [44])] [] [] (.own 9 .str (splitF s 44)))], [], []⟩)]) (bs := []) (tk := [4, 11, 12, 13]) (bk := [5001]) (C := True ∧ (okArgs [vs s, vs (ba [44])]) ∧ True ∧ True ∧ True) (lv := .norm) (T' := [(4, nilv), (11, .own 5001), (12, vi ((splitF s 44).length : Int)), (13, vi 0)]) (B' := [(5001, .sl 9 .str (splitF s 44))]) mix hI hs ?_ ?_ ?_ ?_
  ·exact ⟨⟨⟨ent82, conSplit _ _ (by first | omega | (have := sz_at hs0 (c := 44) (i := i) (by omega) (dflt .str); omega))⟩, trivial⟩, trivial⟩
  ·kernel_rfl
  ·exact ⟨trivial, rfl, trivial, trivial, trivial⟩
  intro a w hs
  refine then_norm ?_
  refine wp_block ?_
  refine loop_L (N := Tryz.f31.ntmps) (w0 := w0) (ow := noO fz) (α := Nat) (fun p => [(4, .own 90000001), (11, .own 5001), (12, vi ((splitF s 44).length : Int)), (13, vi ((p : Nat) : Int))]) (fun p => [(5001, .sl 9 .str (splitF s 44)), (90000001, .sl 26 .strs (((splitF s 44).take p).map (fun p => splitF p 46)))]) (fun p => p ≤ (splitF s 44).length ∧ ∀ j, j < p → ∀ d, badPiece ((splitF s 44).getD j d) = false) (fun p => (splitF s 44).length - p) 0 ?_ ?_ ?_
  ·exact ⟨Nat.zero_le _, fun j hj => absurd hj (Nat.not_lt_zero _)⟩
  ·(have hs := (hs.nil 10000001 4 26 .strs (by kernel_rfl) (by decide) (by kernel_rfl) (by kernel_rfl)).ren (T' := [(4, .own 10000001), (11, .own 5001), (12, vi ((splitF s 44).length : Int)), (13, vi 0)]) (B' := [(5001, .sl 9 .str (splitF s 44)), (10000001, .sl 26 .strs ([]))]) [(5001, 5001), (10000001, 10000001)] (by kernel_rfl) (by kernel_rfl) (by kernel_rfl); exact (SimL.cast hs (T' := [(4, .own 10000001), (11, .own 5001), (12, vi ((splitF s 44).length : Int)), (13, vi ((0 : Nat) : Int))]) (B' := [(5001, .sl 9 .str (splitF s 44)), (10000001, .sl 26 .strs (((splitF s 44).take 0).map (fun p => splitF p 46)))]) (by rfl) rfl).ren [(5001, 5001), (90000001, 10000001)] (by kernel_rfl) (by kernel_rfl) (by kernel_rfl))
  rintro i hJ a w hs
  obtain ⟨hi, hall⟩ := hJ
  have hspl := split_len s 44
  have htk := take_map_len (f := fun p => splitF p 46) hi
  rcases Bool.eq_false_or_eq_true (decide (((i : Nat) : Int) < ((splitF s 44).length : Int))) with b2 | b2
  ·skip
   have n2 := of_decide_eq_true b2
   rcases Bool.eq_false_or_eq_true ((splitF ((splitF s 44).getD i (dflt .str)) 46).any (fun n => !nameF n)) with b3 | b3
   ·skip
    refine way_L (tt := tt) (rs := [(7, ⟨[(1, ciA 82 [vs ((splitF s 44).getD i (dflt .str)), vs (ba [46])] [] [] (.own 9 .str (splitF ((splitF s 44).getD i (dflt .str)) 46)))], [], []⟩), (8, ⟨[(1, ciA 83 [.row .str (splitF ((splitF s 44).getD i (dflt .str)) 46), .lit (.func (.func 84) #[] #[])] [8001] [] (.val (vb ((splitF ((splitF s 44).getD i (dflt .str)) 46).any (fun n => !nameF n)))))], [], []⟩)]) (bs := [true, true]) (tk := [2, 3]) (bk := []) (C := (True ∧ True) ∧ (((decide (((i : Nat) : Int) < ((splitF s 44).length : Int))) = true) ∧ True) ∧ ((0 ≤ ((i : Nat) : Int) ∧ ((i : Nat) : Int) < (splitF s 44).length) ∧ (i < (splitF s 44).length) ∧ True ∧ True) ∧ (True ∧ (okArgs [vs ((splitF s 44).getD i (dflt .str)), vs (ba [46])]) ∧ True ∧ True) ∧ (True ∧ (okArgs [.row .str (splitF ((splitF s 44).getD i (dflt .str)) 46), .lit (.func (.func 84) #[] #[])]) ∧ True) ∧ (((splitF ((splitF s 44).getD i (dflt .str)) 46).any (fun n => !nameF n)) = true) ∧ (True ∧ True ∧ True) ∧ True) (lv := .ret) (T' := [(2, nilv), (3, vi 2)]) (B' := []) mix hI hs ?_ ?_ ?_ ?_
    ·exact ⟨⟨⟨ent82, conSplit _ _ (by first | omega | (have := sz_at hs0 (c := 44) (i := i) (by omega) (dflt .str); omega))⟩, trivial⟩, ⟨⟨ent83, con83_84 _ (split_smalls 46 (sz_at hs0 (by omega) _)).1 (split_smalls 46 (sz_at hs0 (by omega) _)).2⟩, trivial⟩, trivial⟩
    ·kernel_rfl
    ·exact ⟨⟨trivial, trivial⟩, ⟨b2, trivial⟩, ⟨⟨by omega, by omega⟩, (by omega), trivial, trivial⟩, ⟨trivial, rfl, trivial, trivial⟩, ⟨trivial, rfl, trivial⟩, b3, ⟨trivial, trivial, trivial⟩, trivial⟩
    intro a w hs
    refine then_ret ?_
    refine inb_ret ?_
    refine then_ret ?_
    exact FnQ_cast (out := .val (.tup [.row .strs ([]), vi 2])) (by have h1 : (splitF s 44).any badPiece = true := any_at (by omega) (dflt .str) b3; simp only [parseF]; rw [if_neg (by rw [b1]; decide), if_pos h1]) (ret_ok [] hs ⟨by kernel_rfl, rfl⟩)
   ·skip
    refine way_L (tt := tt) (rs := [(7, ⟨[(1, ciA 82 [vs ((splitF s 44).getD i (dflt .str)), vs (ba [46])] [] [] (.own 9 .str (splitF ((splitF s 44).getD i (dflt .str)) 46)))], [], []⟩), (8, ⟨[(1, ciA 83 [.row .str (splitF ((splitF s 44).getD i (dflt .str)) 46), .lit (.func (.func 84) #[] #[])] [8001] [] (.val (vb ((splitF ((splitF s 44).getD i (dflt .str)) 46).any (fun n => !nameF n)))))], [], []⟩)]) (bs := [true, false]) (tk := [4, 11, 12, 13]) (bk := [5001, 11003]) (C := (True ∧ True) ∧ (((decide (((i : Nat) : Int) < ((splitF s 44).length : Int))) = true) ∧ True) ∧ (((0 ≤ ((i : Nat) : Int) ∧ ((i : Nat) : Int) < (splitF s 44).length) ∧ (i < (splitF s 44).length) ∧ True ∧ True) ∧ (True ∧ (okArgs [vs ((splitF s 44).getD i (dflt .str)), vs (ba [46])]) ∧ True ∧ True) ∧ ((True ∧ (okArgs [.row .str (splitF ((splitF s 44).getD i (dflt .str)) 46), .lit (.func (.func 84) #[] #[])]) ∧ True) ∧ (((splitF ((splitF s 44).getD i (dflt .str)) 46).any (fun n => !nameF n)) = false) ∧ True) ∧ (tr 3 (((((((splitF s 44).take i).map (fun p => splitF p 46)).length + 1) * 24 : Nat) ≤ 140737488355328 ∧ (((splitF s 44).take i).map (fun p => splitF p 46)).length + 1 ≤ 140737488355328) ∧ True ∧ True))) ∧ (InR .i64 (((i : Nat) : Int) + 1)) ∧ True ∧ True) (lv := .norm) (T' := [(4, .own 11003), (11, .own 5001), (12, vi ((splitF s 44).length : Int)), (13, vi (((i : Nat) : Int) + 1))]) (B' := [(5001, .sl 9 .str (splitF s 44)), (11003, .sl 26 .strs ((((splitF s 44).take i).map (fun p => splitF p 46)) ++ ([splitF ((splitF s 44).getD i (dflt .str)) 46])))]) mix hI hs ?_ ?_ ?_ ?_
    ·exact ⟨⟨⟨ent82, conSplit _ _ (by first | omega | (have := sz_at hs0 (c := 44) (i := i) (by omega) (dflt .str); omega))⟩, trivial⟩, ⟨⟨ent83, con83_84 _ (split_smalls 46 (sz_at hs0 (by omega) _)).1 (split_smalls 46 (sz_at hs0 (by omega) _)).2⟩, trivial⟩, trivial⟩
    ·kernel_rfl
    ·exact ⟨⟨trivial, trivial⟩, ⟨b2, trivial⟩, ⟨⟨⟨by omega, by omega⟩, (by omega), trivial, trivial⟩, ⟨trivial, rfl, trivial, trivial⟩, ⟨⟨trivial, rfl, trivial⟩, b3, trivial⟩, tr_mk (⟨⟨by omega, by omega⟩, trivial, trivial⟩) 3⟩, (inR64 (by omega) (by omega)), trivial, trivial⟩
    intro a w hs
    refine then_norm ⟨i + 1, ⟨by omega, fun j hj d => by rcases Nat.lt_succ_iff_lt_or_eq.1 hj with h | h; exact hall j h d; subst h; rw [getD_any (by omega) d (dflt .str)]; exact b3⟩, by omega, ?_⟩
    (have e0_ : (((i : Nat) : Int) + 1) = ((((i + 1) : Nat) : Int)) := (by first | rfl | (omega)); have e1_ : ((((splitF s 44).take i).map (fun p => splitF p 46)) ++ ([splitF ((splitF s 44).getD i (dflt .str)) 46])) = (((splitF s 44).take (i + 1)).map (fun p => splitF p 46)) := (by first | rfl | (exact take_map_succ (f := fun p => splitF p 46) (by omega) _)); exact (SimL.cast hs (T' := [(4, .own 11003), (11, .own 5001), (12, vi ((splitF s 44).length : Int)), (13, vi (((i + 1) : Nat) : Int))]) (B' := [(5001, .sl 9 .str (splitF s 44)), (11003, .sl 26 .strs (((splitF s 44).take (i + 1)).map (fun p => splitF p 46)))]) (by first | rfl | (rw [e0_, e1_]; done) | (simp only [e0_, e1_]; done) | (simp only [e0_, e1_]; rfl)) (by first | rfl | (rw [e0_, e1_]; done) | (simp only [e0_, e1_]; done) | (simp only [e0_, e1_]; rfl))).ren [(5001, 5001), (90000001, 11003)] (by kernel_rfl) (by kernel_rfl) (by kernel_rfl))
  ·skip
   have n2 := of_decide_eq_false b2
   refine way_L (tt := tt) (rs := []) (bs := [false]) (tk := [4]) (bk := [90000001]) (C := (True ∧ True) ∧ ((decide (((i : Nat) : Int) < ((splitF s 44).length : Int))) = false) ∧ True) (lv := .exit 0) (T' := [(4, .own 90000001)]) (B' := [(90000001, .sl 26 .strs (((splitF s 44).take i).map (fun p => splitF p 46)))]) mix hI hs ?_ ?_ ?_ ?_
   ·exact trivial
   ·kernel_rfl
   ·exact ⟨⟨trivial, trivial⟩, b2, trivial⟩
   intro a w hs
   refine then_exit ?_
   refine inb_hit ?_
   refine then_norm ?_
   rcases Bool.eq_false_or_eq_true (checkF (((splitF s 44).take i).map (fun p => splitF p 46))) with b4 | b4
   ·skip
    refine way_L (tt := tt) (rs := [(12, ⟨[(1, ciA 39 [.row .strs (((splitF s 44).take i).map (fun p => splitF p 46))] [90000001] [] (.val (vb (checkF (((splitF s 44).take i).map (fun p => splitF p 46))))))], [], []⟩)]) (bs := [false]) (tk := [2, 3]) (bk := [90000001]) (C := ((True ∧ (okArgs [.row .strs (((splitF s 44).take i).map (fun p => splitF p 46))]) ∧ True ∧ True) ∧ ((!(checkF (((splitF s 44).take i).map (fun p => splitF p 46)))) = false) ∧ True) ∧ (tr 3 True) ∧ True) (lv := .ret) (T' := [(2, .own 90000001), (3, vi 0)]) (B' := [(90000001, .sl 26 .strs (((splitF s 44).take i).map (fun p => splitF p 46)))]) mix hI hs ?_ ?_ ?_ ?_
    ·exact ⟨⟨⟨ent39, con39 _ (by intro x hx; obtain ⟨p, hp, rfl⟩ := List.mem_map.1 hx; have := split_size (s := s) (c := 44) p (List.mem_of_mem_take hp); exact split_smalls 46 (by omega)) (by rw [take_map_len (by omega)]; have := split_len s 44; omega)⟩, trivial⟩, trivial⟩
    ·kernel_rfl
    ·exact ⟨⟨⟨trivial, rfl, trivial, trivial⟩, (by rw [b4]; rfl), trivial⟩, tr_mk trivial 3, trivial⟩
    intro a w hs
    exact FnQ_cast (out := .val (.tup [.row .strs (((splitF s 44).take i).map (fun p => splitF p 46)), vi 0])) (by have h1 : (splitF s 44).any badPiece = false := any_no (fun j hj d => hall j (by omega) d); have h2 : (splitF s 44).take i = splitF s 44 := List.take_of_length_le (by omega); rw [h2] at b4; first | (simp only [h2, parseF]; rw [if_neg (by rw [b1]; decide), if_neg (by rw [h1]; decide), if_pos (by first | exact b4 | (rw [show checkF (cutsF s) = false from b4]; decide))]; try rfl) | skip) (ret_ok [90000001] hs ⟨by kernel_rfl, rfl⟩)
   ·skip
    refine way_L (tt := tt) (rs := [(12, ⟨[(1, ciA 39 [.row .strs (((splitF s 44).take i).map (fun p => splitF p 46))] [90000001] [] (.val (vb (checkF (((splitF s 44).take i).map (fun p => splitF p 46))))))], [], []⟩)]) (bs := [true]) (tk := [2, 3]) (bk := []) (C := (True ∧ (okArgs [.row .strs (((splitF s 44).take i).map (fun p => splitF p 46))]) ∧ True ∧ True) ∧ ((!(checkF (((splitF s 44).take i).map (fun p => splitF p 46)))) = true) ∧ (True ∧ True ∧ True) ∧ True) (lv := .ret) (T' := [(2, nilv), (3, vi 4)]) (B' := []) mix hI hs ?_ ?_ ?_ ?_
    ·exact ⟨⟨⟨ent39, con39 _ (by intro x hx; obtain ⟨p, hp, rfl⟩ := List.mem_map.1 hx; have := split_size (s := s) (c := 44) p (List.mem_of_mem_take hp); exact split_smalls 46 (by omega)) (by rw [take_map_len (by omega)]; have := split_len s 44; omega)⟩, trivial⟩, trivial⟩
    ·kernel_rfl
    ·exact ⟨⟨trivial, rfl, trivial, trivial⟩, (by rw [b4]; rfl), ⟨trivial, trivial, trivial⟩, trivial⟩
    intro a w hs
    exact FnQ_cast (out := .val (.tup [.row .strs ([]), vi 4])) (by have h1 : (splitF s 44).any badPiece = false := any_no (fun j hj d => hall j (by omega) d); have h2 : (splitF s 44).take i = splitF s 44 := List.take_of_length_le (by omega); rw [h2] at b4; first | (simp only [h2, parseF]; rw [if_neg (by rw [b1]; decide), if_neg (by rw [h1]; decide), if_neg (by first | exact b4 | (rw [show checkF (cutsF s) = false from b4]; decide))]; try rfl) | skip) (ret_ok [] hs ⟨by kernel_rfl, rfl⟩)
end Go.Proofs.YtondpnipoogoiaaGreatDoor.F
namespace Go.Proofs.YtondpnipoogoiaaGreatDoor.F
open Go Go.RowKit Go.Proofs.Tryz
set_option linter.unusedVariables false
set_option linter.unusedSimpArgs false
def placeF (n k : Int) : Int := if n.tmod k < 0 then n.tmod k + k else n.tmod k
theorem placeF_in (n k : Int) (hk : 0 < k) : 0 ≤ placeF n k ∧ placeF n k < k := by
  unfold placeF
  have h1 := Int.lt_tmod_of_pos n hk
  have h2 := Int.tmod_lt_of_pos n hk
  split <;> omega
def sameS (xs ys : List ByteArray) : Bool := ((xs.length : Int) == (ys.length : Int)) && (List.range xs.length).all fun j => (xs.getD j (dflt .str)).toList == (ys.getD j (dflt .str)).toList
def sameP (xs ys : List (List ByteArray)) : Bool := ((xs.length : Int) == (ys.length : Int)) && (List.range xs.length).all fun j => sameS (xs.getD j (dflt .strs)) (ys.getD j (dflt .strs))
theorem sameS_self (xs : List ByteArray) : sameS xs xs = true := by simp [sameS]
theorem sameP_self (xs : List (List ByteArray)) : sameP xs xs = true := by simp [sameP, sameS_self]
theorem lt_all {n : Nat} {q : Nat → Bool} (h : ∀ j, j < n → q j = true) : (List.range n).all q = true := List.all_eq_true.2 (fun j hj => h j (by simpa using hj))
theorem ne_of {a b : Int} (h : (a != b) = false) : (a == b) = true := by simpa [bne] using h
theorem ne_of' {a b : Int} (h : (a != b) = true) : (a == b) = false := by simpa [bne] using h
set_option maxRecDepth 100000 in
theorem con17 (n k : Int) (hk : 0 < k) (hk2 : k < 4294967296) : Con Tryz.prog I0 17 [vi n, vi k] (.val (vi (placeF n k))) := by
 refine con_of Tryz.func17 rfl (Nat.le_of_ble_eq_true rfl) stab (fun w0 fz a hI hs => ?_)
 rcases Bool.eq_false_or_eq_true (decide ((n.tmod k) < 0)) with b1 | b1
 ·skip
  have n1 := of_decide_eq_true b1
  refine way_L (tt := tt) (rs := []) (bs := [true]) (tk := [4]) (bk := []) (C := (True ∧ True) ∧ (True ∧ True ∧ (k ≠ 0) ∧ True ∧ True) ∧ ((True ∧ True ∧ True) ∧ ((decide ((n.tmod k) < 0)) = true) ∧ True ∧ True ∧ (InR .i64 ((n.tmod k) + k)) ∧ True ∧ True) ∧ (True ∧ True ∧ True) ∧ True) (lv := .ret) (T' := [(4, vi ((n.tmod k) + k))]) (B' := []) mix hI hs ?_ ?_ ?_ ?_
  ·exact trivial
  ·kernel_rfl
  ·exact ⟨⟨trivial, trivial⟩, ⟨trivial, trivial, (by omega), trivial, trivial⟩, ⟨⟨trivial, trivial, trivial⟩, b1, trivial, trivial, (by exact inR64 (by have := Int.lt_tmod_of_pos n hk; omega) (by have := Int.tmod_lt_of_pos n hk; omega)), trivial, trivial⟩, ⟨trivial, trivial, trivial⟩, trivial⟩
  intro a w hs
  exact FnQ_cast (out := .val (vi ((n.tmod k) + k))) (by simp only [placeF]; rw [if_pos (by omega)]) (ret_ok [] hs ⟨by kernel_rfl, rfl⟩)
 ·skip
  have n1 := of_decide_eq_false b1
  refine way_L (tt := tt) (rs := []) (bs := [false]) (tk := [4]) (bk := []) (C := (True ∧ True) ∧ (True ∧ True ∧ (k ≠ 0) ∧ True ∧ True) ∧ ((True ∧ True ∧ True) ∧ ((decide ((n.tmod k) < 0)) = false) ∧ True) ∧ (True ∧ True ∧ True) ∧ True) (lv := .ret) (T' := [(4, vi (n.tmod k))]) (B' := []) mix hI hs ?_ ?_ ?_ ?_
  ·exact trivial
  ·kernel_rfl
  ·exact ⟨⟨trivial, trivial⟩, ⟨trivial, trivial, (by omega), trivial, trivial⟩, ⟨⟨trivial, trivial, trivial⟩, b1, trivial⟩, ⟨trivial, trivial, trivial⟩, trivial⟩
  intro a w hs
  exact FnQ_cast (out := .val (vi (n.tmod k))) (by simp only [placeF]; rw [if_neg (by omega)]) (ret_ok [] hs ⟨by kernel_rfl, rfl⟩)
set_option maxRecDepth 100000 in
theorem con60 (xs ys : List ByteArray) (hx : xs.length < 4294967296) : Con Tryz.prog I0 60 [.row .str xs, .row .str ys] (.val (vb (sameS xs ys))) := by
 refine con_of Tryz.func60 rfl (Nat.le_of_ble_eq_true rfl) stab (fun w0 fz a hI hs => ?_)
 refine wp_seq ?_
 refine way_L (tt := tt) (rs := []) (bs := []) (tk := [0, 1]) (bk := []) (C := True ∧ True) (lv := .norm) (T' := [(0, .row .str xs), (1, .row .str ys)]) (B' := []) mix hI hs ?_ ?_ ?_ ?_
 ·exact trivial
 ·kernel_rfl
 ·exact ⟨trivial, trivial⟩
 intro a w hs
 refine then_norm ?_
 refine wp_seq ?_
 rcases Bool.eq_false_or_eq_true ((xs.length : Int) != (ys.length : Int)) with b1 | b1
 ·skip
  have n1 := bne_iff_ne.1 b1
  refine way_L (tt := tt) (rs := []) (bs := [true]) (tk := [4]) (bk := []) (C := (tr 5 True) ∧ (((xs.length : Int) != (ys.length : Int)) = true) ∧ (True ∧ True) ∧ True) (lv := .ret) (T' := [(4, vb false)]) (B' := []) mix hI hs ?_ ?_ ?_ ?_
  ·exact trivial
  ·kernel_rfl
  ·exact ⟨tr_mk trivial 5, b1, ⟨trivial, trivial⟩, trivial⟩
  intro a w hs
  refine then_ret ?_
  exact FnQ_cast (out := .val (vb false)) (by simp only [sameS, ne_of' b1, Bool.false_and]) (ret_ok [] hs ⟨by kernel_rfl, rfl⟩)
 ·skip
  have n1 := bne_eq_false_iff_eq.1 b1
  refine way_L (tt := tt) (rs := []) (bs := [false]) (tk := [0, 1]) (bk := []) (C := (tr 5 True) ∧ (((xs.length : Int) != (ys.length : Int)) = false) ∧ True) (lv := .norm) (T' := [(0, .row .str xs), (1, .row .str ys)]) (B' := []) mix hI hs ?_ ?_ ?_ ?_
  ·exact trivial
  ·kernel_rfl
  ·exact ⟨tr_mk trivial 5, b1, trivial⟩
  intro a w hs
  refine then_norm ?_
  refine wp_seq ?_
  refine wp_seq ?_
  refine way_L (tt := tt) (rs := []) (bs := []) (tk := [0, 1, 5]) (bk := []) (C := True ∧ True) (lv := .norm) (T' := [(0, .row .str xs), (1, .row .str ys), (5, vi 0)]) (B' := []) mix hI hs ?_ ?_ ?_ ?_
  ·exact trivial
  ·kernel_rfl
  ·exact ⟨trivial, trivial⟩
  intro a w hs
  refine then_norm ?_
  refine wp_block ?_
  refine loop_L (N := Tryz.f60.ntmps) (w0 := w0) (ow := noO fz) (α := Nat) (fun p => [(0, .row .str xs), (1, .row .str ys), (5, vi ((p : Nat) : Int))]) (fun p => []) (fun p => p ≤ xs.length ∧ ∀ j, j < p → ((xs.getD j (dflt .str)).toList == (ys.getD j (dflt .str)).toList) = true) (fun p => xs.length - p) 0 ?_ ?_ ?_
  ·exact ⟨Nat.zero_le _, fun j hj => absurd hj (Nat.not_lt_zero _)⟩
  ·(have e0_ : (0) = (((0 : Nat) : Int)) := (by first | rfl | (rfl)); exact (SimL.cast hs (T' := [(0, .row .str xs), (1, .row .str ys), (5, vi ((0 : Nat) : Int))]) (B' := []) (by first | rfl | (rw [e0_]; done) | (simp only [e0_]; done) | (simp only [e0_]; rfl)) (by first | rfl | (rw [e0_]; done) | (simp only [e0_]; done) | (simp only [e0_]; rfl))).ren [] (by kernel_rfl) (by kernel_rfl) (by kernel_rfl))
  rintro i hJ a w hs
  obtain ⟨hi, hall⟩ := hJ
  rcases Bool.eq_false_or_eq_true (decide (((i : Nat) : Int) < (xs.length : Int))) with b2 | b2
  ·skip
   have n2 := of_decide_eq_true b2
   rcases Bool.eq_false_or_eq_true ((xs.getD i (dflt .str)).toList == (ys.getD i (dflt .str)).toList) with b3 | b3
   ·skip
    have n3 := eq_of_beq b3
    refine way_L (tt := tt) (rs := []) (bs := [true, false]) (tk := [0, 1, 5]) (bk := []) (C := ((tr 4 True) ∧ ((decide (((i : Nat) : Int) < (xs.length : Int))) = true) ∧ True) ∧ ((True ∧ True ∧ (0 ≤ ((i : Nat) : Int) ∧ ((i : Nat) : Int) < xs.length) ∧ (tr 3 ((0 ≤ ((i : Nat) : Int) ∧ ((i : Nat) : Int) < ys.length) ∧ True ∧ True ∧ True))) ∧ ((!((xs.getD i (dflt .str)).toList == (ys.getD i (dflt .str)).toList)) = false) ∧ True) ∧ True ∧ (InR .i64 (((i : Nat) : Int) + 1)) ∧ True ∧ True) (lv := .norm) (T' := [(0, .row .str xs), (1, .row .str ys), (5, vi (((i : Nat) : Int) + 1))]) (B' := []) mix hI hs ?_ ?_ ?_ ?_
    ·exact trivial
    ·kernel_rfl
    ·exact ⟨⟨tr_mk trivial 4, b2, trivial⟩, ⟨⟨trivial, trivial, ⟨by omega, by omega⟩, tr_mk (⟨⟨by omega, by omega⟩, trivial, trivial, trivial⟩) 3⟩, (by rw [b3]; rfl), trivial⟩, trivial, (inR64 (by omega) (by omega)), trivial, trivial⟩
    intro a w hs
    refine then_norm ⟨i + 1, ⟨by omega, fun j hj => by rcases Nat.lt_succ_iff_lt_or_eq.1 hj with h | h; exact hall j h; subst h; exact b3⟩, by omega, ?_⟩
    (have e0_ : (((i : Nat) : Int) + 1) = ((((i + 1) : Nat) : Int)) := (by first | rfl | (omega)); exact (SimL.cast hs (T' := [(0, .row .str xs), (1, .row .str ys), (5, vi (((i + 1) : Nat) : Int))]) (B' := []) (by first | rfl | (rw [e0_]; done) | (simp only [e0_]; done) | (simp only [e0_]; rfl)) (by first | rfl | (rw [e0_]; done) | (simp only [e0_]; done) | (simp only [e0_]; rfl))).ren [] (by kernel_rfl) (by kernel_rfl) (by kernel_rfl))
   ·skip
    have n3 := beq_eq_false_iff_ne.1 b3
    refine way_L (tt := tt) (rs := []) (bs := [true, true]) (tk := [4]) (bk := []) (C := ((tr 4 True) ∧ ((decide (((i : Nat) : Int) < (xs.length : Int))) = true) ∧ True) ∧ (True ∧ True ∧ (0 ≤ ((i : Nat) : Int) ∧ ((i : Nat) : Int) < xs.length) ∧ (tr 3 ((0 ≤ ((i : Nat) : Int) ∧ ((i : Nat) : Int) < ys.length) ∧ True ∧ True ∧ True))) ∧ ((!((xs.getD i (dflt .str)).toList == (ys.getD i (dflt .str)).toList)) = true) ∧ (True ∧ True) ∧ True) (lv := .ret) (T' := [(4, vb false)]) (B' := []) mix hI hs ?_ ?_ ?_ ?_
    ·exact trivial
    ·kernel_rfl
    ·exact ⟨⟨tr_mk trivial 4, b2, trivial⟩, ⟨trivial, trivial, ⟨by omega, by omega⟩, tr_mk (⟨⟨by omega, by omega⟩, trivial, trivial, trivial⟩) 3⟩, (by rw [b3]; rfl), ⟨trivial, trivial⟩, trivial⟩
    intro a w hs
    refine then_ret ?_
    refine inb_ret ?_
    refine then_ret ?_
    exact FnQ_cast (out := .val (vb false)) (by simp only [sameS]; rw [ne_of b1, all_no (i := i) (by omega) (by exact b3)]; rfl) (ret_ok [] hs ⟨by kernel_rfl, rfl⟩)
  ·skip
   have n2 := of_decide_eq_false b2
   refine way_L (tt := tt) (rs := []) (bs := [false]) (tk := []) (bk := []) (C := (tr 4 True) ∧ ((decide (((i : Nat) : Int) < (xs.length : Int))) = false) ∧ True) (lv := .exit 0) (T' := []) (B' := []) mix hI hs ?_ ?_ ?_ ?_
   ·exact trivial
   ·kernel_rfl
   ·exact ⟨tr_mk trivial 4, b2, trivial⟩
   intro a w hs
   refine then_exit ?_
   refine inb_hit ?_
   refine then_norm ?_
   refine way_L (tt := tt) (rs := []) (bs := []) (tk := [4]) (bk := []) (C := (True ∧ True) ∧ True) (lv := .ret) (T' := [(4, vb true)]) (B' := []) mix hI hs ?_ ?_ ?_ ?_
   ·exact trivial
   ·kernel_rfl
   ·exact ⟨⟨trivial, trivial⟩, trivial⟩
   intro a w hs
   exact FnQ_cast (out := .val (vb true)) (by simp only [sameS]; rw [ne_of b1, lt_all (fun j hj => hall j (by omega))]; rfl) (ret_ok [] hs ⟨by kernel_rfl, rfl⟩)
set_option maxRecDepth 100000 in
theorem con35 (xs ys : List (List ByteArray)) (hx : xs.length < 4294967296) (hxs : ∀ x ∈ xs, x.length < 4294967296) : Con Tryz.prog I0 35 [.row .strs xs, .row .strs ys] (.val (vb (sameP xs ys))) := by
 refine con_of Tryz.func35 rfl (Nat.le_of_ble_eq_true rfl) stab (fun w0 fz a hI hs => ?_)
 refine wp_seq ?_
 refine way_L (tt := tt) (rs := []) (bs := []) (tk := [0, 1]) (bk := []) (C := True ∧ True) (lv := .norm) (T' := [(0, .row .strs xs), (1, .row .strs ys)]) (B' := []) mix hI hs ?_ ?_ ?_ ?_
 ·exact trivial
 ·kernel_rfl
 ·exact ⟨trivial, trivial⟩
 intro a w hs
 refine then_norm ?_
 refine wp_seq ?_
 rcases Bool.eq_false_or_eq_true ((xs.length : Int) != (ys.length : Int)) with b1 | b1
 ·skip
  have n1 := bne_iff_ne.1 b1
  refine way_L (tt := tt) (rs := []) (bs := [true]) (tk := [4]) (bk := []) (C := (tr 5 True) ∧ (((xs.length : Int) != (ys.length : Int)) = true) ∧ (True ∧ True) ∧ True) (lv := .ret) (T' := [(4, vb false)]) (B' := []) mix hI hs ?_ ?_ ?_ ?_
  ·exact trivial
  ·kernel_rfl
  ·exact ⟨tr_mk trivial 5, b1, ⟨trivial, trivial⟩, trivial⟩
  intro a w hs
  refine then_ret ?_
  exact FnQ_cast (out := .val (vb false)) (by simp only [sameP, ne_of' b1, Bool.false_and]) (ret_ok [] hs ⟨by kernel_rfl, rfl⟩)
 ·skip
  have n1 := bne_eq_false_iff_eq.1 b1
  refine way_L (tt := tt) (rs := []) (bs := [false]) (tk := [0, 1]) (bk := []) (C := (tr 5 True) ∧ (((xs.length : Int) != (ys.length : Int)) = false) ∧ True) (lv := .norm) (T' := [(0, .row .strs xs), (1, .row .strs ys)]) (B' := []) mix hI hs ?_ ?_ ?_ ?_
  ·exact trivial
  ·kernel_rfl
  ·exact ⟨tr_mk trivial 5, b1, trivial⟩
  intro a w hs
  refine then_norm ?_
  refine wp_seq ?_
  refine wp_seq ?_
  refine way_L (tt := tt) (rs := []) (bs := []) (tk := [0, 1, 5]) (bk := []) (C := True ∧ True) (lv := .norm) (T' := [(0, .row .strs xs), (1, .row .strs ys), (5, vi 0)]) (B' := []) mix hI hs ?_ ?_ ?_ ?_
  ·exact trivial
  ·kernel_rfl
  ·exact ⟨trivial, trivial⟩
  intro a w hs
  refine then_norm ?_
  refine wp_block ?_
  refine loop_L (N := Tryz.f35.ntmps) (w0 := w0) (ow := noO fz) (α := Nat) (fun p => [(0, .row .strs xs), (1, .row .strs ys), (5, vi ((p : Nat) : Int))]) (fun p => []) (fun p => p ≤ xs.length ∧ ∀ j, j < p → (sameS (xs.getD j (dflt .strs)) (ys.getD j (dflt .strs))) = true) (fun p => xs.length - p) 0 ?_ ?_ ?_
  ·exact ⟨Nat.zero_le _, fun j hj => absurd hj (Nat.not_lt_zero _)⟩
  ·(have e0_ : (0) = (((0 : Nat) : Int)) := (by first | rfl | (rfl)); exact (SimL.cast hs (T' := [(0, .row .strs xs), (1, .row .strs ys), (5, vi ((0 : Nat) : Int))]) (B' := []) (by first | rfl | (rw [e0_]; done) | (simp only [e0_]; done) | (simp only [e0_]; rfl)) (by first | rfl | (rw [e0_]; done) | (simp only [e0_]; done) | (simp only [e0_]; rfl))).ren [] (by kernel_rfl) (by kernel_rfl) (by kernel_rfl))
  rintro i hJ a w hs
  obtain ⟨hi, hall⟩ := hJ
  rcases Bool.eq_false_or_eq_true (decide (((i : Nat) : Int) < (xs.length : Int))) with b2 | b2
  ·skip
   have n2 := of_decide_eq_true b2
   rcases Bool.eq_false_or_eq_true (sameS (xs.getD i (dflt .strs)) (ys.getD i (dflt .strs))) with b3 | b3
   ·skip
    refine way_L (tt := tt) (rs := [(6, ⟨[(8, ciA 60 [.row .str (xs.getD i (dflt .strs)), .row .str (ys.getD i (dflt .strs))] [] [] (.val (vb (sameS (xs.getD i (dflt .strs)) (ys.getD i (dflt .strs))))))], [], []⟩)]) (bs := [true, false]) (tk := [0, 1, 5]) (bk := []) (C := ((tr 4 True) ∧ ((decide (((i : Nat) : Int) < (xs.length : Int))) = true) ∧ True) ∧ ((True ∧ True ∧ (0 ≤ ((i : Nat) : Int) ∧ ((i : Nat) : Int) < xs.length) ∧ (tr 3 ((0 ≤ ((i : Nat) : Int) ∧ ((i : Nat) : Int) < ys.length) ∧ True ∧ (okArgs [.row .str (xs.getD i (dflt .strs)), .row .str (ys.getD i (dflt .strs))]) ∧ True ∧ True))) ∧ ((!(sameS (xs.getD i (dflt .strs)) (ys.getD i (dflt .strs)))) = false) ∧ True) ∧ True ∧ (InR .i64 (((i : Nat) : Int) + 1)) ∧ True ∧ True) (lv := .norm) (T' := [(0, .row .strs xs), (1, .row .strs ys), (5, vi (((i : Nat) : Int) + 1))]) (B' := []) mix hI hs ?_ ?_ ?_ ?_
    ·exact ⟨⟨⟨ent60, con60 _ _ (hxs _ (getD_mem (by omega) _))⟩, trivial⟩, trivial⟩
    ·kernel_rfl
    ·exact ⟨⟨tr_mk trivial 4, b2, trivial⟩, ⟨⟨trivial, trivial, ⟨by omega, by omega⟩, tr_mk (⟨⟨by omega, by omega⟩, trivial, rfl, trivial, trivial⟩) 3⟩, (by rw [b3]; rfl), trivial⟩, trivial, (inR64 (by omega) (by omega)), trivial, trivial⟩
    intro a w hs
    refine then_norm ⟨i + 1, ⟨by omega, fun j hj => by rcases Nat.lt_succ_iff_lt_or_eq.1 hj with h | h; exact hall j h; subst h; exact b3⟩, by omega, ?_⟩
    (have e0_ : (((i : Nat) : Int) + 1) = ((((i + 1) : Nat) : Int)) := (by first | rfl | (omega)); exact (SimL.cast hs (T' := [(0, .row .strs xs), (1, .row .strs ys), (5, vi (((i + 1) : Nat) : Int))]) (B' := []) (by first | rfl | (rw [e0_]; done) | (simp only [e0_]; done) | (simp only [e0_]; rfl)) (by first | rfl | (rw [e0_]; done) | (simp only [e0_]; done) | (simp only [e0_]; rfl))).ren [] (by kernel_rfl) (by kernel_rfl) (by kernel_rfl))
   ·skip
    refine way_L (tt := tt) (rs := [(6, ⟨[(8, ciA 60 [.row .str (xs.getD i (dflt .strs)), .row .str (ys.getD i (dflt .strs))] [] [] (.val (vb (sameS (xs.getD i (dflt .strs)) (ys.getD i (dflt .strs))))))], [], []⟩)]) (bs := [true, true]) (tk := [4]) (bk := []) (C := ((tr 4 True) ∧ ((decide (((i : Nat) : Int) < (xs.length : Int))) = true) ∧ True) ∧ (True ∧ True ∧ (0 ≤ ((i : Nat) : Int) ∧ ((i : Nat) : Int) < xs.length) ∧ (tr 3 ((0 ≤ ((i : Nat) : Int) ∧ ((i : Nat) : Int) < ys.length) ∧ True ∧ (okArgs [.row .str (xs.getD i (dflt .strs)), .row .str (ys.getD i (dflt .strs))]) ∧ True ∧ True))) ∧ ((!(sameS (xs.getD i (dflt .strs)) (ys.getD i (dflt .strs)))) = true) ∧ (True ∧ True) ∧ True) (lv := .ret) (T' := [(4, vb false)]) (B' := []) mix hI hs ?_ ?_ ?_ ?_
    ·exact ⟨⟨⟨ent60, con60 _ _ (hxs _ (getD_mem (by omega) _))⟩, trivial⟩, trivial⟩
    ·kernel_rfl
    ·exact ⟨⟨tr_mk trivial 4, b2, trivial⟩, ⟨trivial, trivial, ⟨by omega, by omega⟩, tr_mk (⟨⟨by omega, by omega⟩, trivial, rfl, trivial, trivial⟩) 3⟩, (by rw [b3]; rfl), ⟨trivial, trivial⟩, trivial⟩
    intro a w hs
    refine then_ret ?_
    refine inb_ret ?_
    refine then_ret ?_
    exact FnQ_cast (out := .val (vb false)) (by simp only [sameP]; rw [ne_of b1, all_no (i := i) (by omega) (by exact b3)]; rfl) (ret_ok [] hs ⟨by kernel_rfl, rfl⟩)
  ·skip
   have n2 := of_decide_eq_false b2
   refine way_L (tt := tt) (rs := []) (bs := [false]) (tk := []) (bk := []) (C := (tr 4 True) ∧ ((decide (((i : Nat) : Int) < (xs.length : Int))) = false) ∧ True) (lv := .exit 0) (T' := []) (B' := []) mix hI hs ?_ ?_ ?_ ?_
   ·exact trivial
   ·kernel_rfl
   ·exact ⟨tr_mk trivial 4, b2, trivial⟩
   intro a w hs
   refine then_exit ?_
   refine inb_hit ?_
   refine then_norm ?_
   refine way_L (tt := tt) (rs := []) (bs := []) (tk := [4]) (bk := []) (C := (True ∧ True) ∧ True) (lv := .ret) (T' := [(4, vb true)]) (B' := []) mix hI hs ?_ ?_ ?_ ?_
   ·exact trivial
   ·kernel_rfl
   ·exact ⟨⟨trivial, trivial⟩, trivial⟩
   intro a w hs
   exact FnQ_cast (out := .val (vb true)) (by simp only [sameP]; rw [ne_of b1, lt_all (fun j hj => hall j (by omega))]; rfl) (ret_ok [] hs ⟨by kernel_rfl, rfl⟩)
end Go.Proofs.YtondpnipoogoiaaGreatDoor.F
namespace Go.Proofs.YtondpnipoogoiaaGreatDoor.F
open Go Go.RowKit Go.Proofs.Tryz
set_option linter.unusedVariables false
set_option linter.unusedSimpArgs false
theorem joinF_size (xs : List ByteArray) (sep : ByteArray) : (joinF xs sep).size ≤ (xs.map (·.size)).sum + xs.length * sep.size := by
  have h1 : (joinF xs sep).size = (Lib.join (xs.map (·.data.toList)) sep.data.toList).length := by simp [joinF, ByteArray.size]
  rw [h1]
  cases xs with
  | nil => simp [Lib.join_nil]
  | cons x r =>
    rw [List.map_cons, Lib.join_length]
    have h2 : Lib.lens (x.data.toList :: r.map (·.data.toList)) = ((x :: r).map (·.size)).sum := by
      show Lib.lens ((x :: r).map (·.data.toList)) = _
      unfold Lib.lens
      rw [List.map_map]
      exact congrArg List.sum (List.map_congr_left (fun y _ => (Lib.size_eq y).symm))
    have h3 : sep.data.toList.length = sep.size := (Lib.size_eq sep).symm
    rw [h2, h3, List.length_map, List.length_cons, Nat.add_mul, Nat.mul_comm sep.size]
    omega
theorem sum_le {xs : List ByteArray} {b : Nat} (h : ∀ x ∈ xs, x.size ≤ b) : (xs.map (·.size)).sum ≤ xs.length * b := by
  induction xs with
  | nil => simp
  | cons x r ih =>
    have h1 := h x (List.mem_cons_self ..)
    have h2 := ih (fun y hy => h y (List.mem_cons_of_mem _ hy))
    simp only [List.map_cons, List.sum_cons, List.length_cons, Nat.add_mul]; omega
theorem checkF_in {xs : List (List ByteArray)} (h : checkF xs = true) : xs.length ≤ 60 ∧ ∀ p ∈ xs, p.length ≤ 63 ∧ p ≠ [] ∧ ∀ n ∈ p, nameF n = true := by
  simp only [checkF, Bool.and_eq_true, decide_eq_true_eq, Bool.not_eq_true', List.any_eq_false] at h
  obtain ⟨h1, h2⟩ := h
  refine ⟨by omega, fun p hp => ?_⟩
  have h3 := h2 p hp
  simp only [badPath, Bool.or_eq_true, beq_iff_eq, decide_eq_true_eq, List.any_eq_true, not_or, not_exists, not_and] at h3
  refine ⟨by omega, fun e => h3.1 (by simp [e]), fun n hn => ?_⟩
  have := h3.2.2 n hn
  simpa using this
theorem nameF_size {s : ByteArray} (h : nameF s = true) : s.size ≤ 2000 := by
  simp only [nameF, Bool.and_eq_true, decide_eq_true_eq] at h
  omega
def dotF (p : List ByteArray) : ByteArray := joinF p (ba [46])
theorem path_join {p : List ByteArray} (h1 : p.length ≤ 63) (h2 : ∀ n ∈ p, nameF n = true) : (dotF p).size ≤ 126063 := by
  have h3 := joinF_size p (ba [46])
  have h4 := sum_le (b := 2000) (fun x hx => nameF_size (h2 x hx))
  have h5 : (ba [46]).size = 1 := rfl
  rw [h5] at h3
  unfold dotF; omega
theorem path_at {xs : List (List ByteArray)} {i : Nat} (h : checkF xs = true) (hi : i < xs.length) (d : List ByteArray) : (dotF (xs.getD i d)).size ≤ 126063 ∧ (xs.getD i d).length ≤ 63 := by
  obtain ⟨h1, _, h2⟩ := (checkF_in h).2 _ (getD_mem hi d)
  exact ⟨path_join h1 h2, h1⟩
def textF (xs : List (List ByteArray)) : ByteArray := if checkF xs = true then joinF (xs.map dotF) (ba [44]) else ba []
theorem text_join {xs : List (List ByteArray)} (h : checkF xs = true) : (joinF (xs.map dotF) (ba [44])).size ≤ 7563840 := by
  obtain ⟨h1, h2⟩ := checkF_in h
  have h3 := joinF_size (xs.map dotF) (ba [44])
  have h4 := sum_le (xs := xs.map dotF) (b := 126063) (fun x hx => by
    obtain ⟨p, hp, rfl⟩ := List.mem_map.1 hx
    exact path_join (h2 p hp).1 (h2 p hp).2.2)
  have h5 : (ba [44]).size = 1 := rfl
  rw [h5] at h3
  rw [List.length_map] at h3 h4
  omega
set_option maxRecDepth 100000 in
theorem con41 (xs : List (List ByteArray)) (hxs : ∀ x ∈ xs, smalls x) (hlen : xs.length < 4294967281) : Con Tryz.prog I0 41 [.row .strs xs] (.val (vs (textF xs))) := by
 refine con_of Tryz.func41 rfl (Nat.le_of_ble_eq_true rfl) stab (fun w0 fz a hI hs => ?_)
 refine wp_seq ?_
 refine way_L (tt := tt) (rs := []) (bs := []) (tk := [0]) (bk := []) (C := True ∧ True) (lv := .norm) (T' := [(0, .row .strs xs)]) (B' := []) mix hI hs ?_ ?_ ?_ ?_
 ·exact trivial
 ·kernel_rfl
 ·exact ⟨trivial, trivial⟩
 intro a w hs
 refine then_norm ?_
 refine wp_seq ?_
 rcases Bool.eq_false_or_eq_true (checkF xs) with b1 | b1
 ·skip
  refine way_L (tt := tt) (rs := [(1, ⟨[(1, ciA 39 [.row .strs xs] [] [] (.val (vb (checkF xs))))], [], []⟩)]) (bs := [false]) (tk := [0]) (bk := []) (C := (True ∧ (okArgs [.row .strs xs]) ∧ True ∧ True) ∧ ((!(checkF xs)) = false) ∧ True) (lv := .norm) (T' := [(0, .row .strs xs)]) (B' := []) mix hI hs ?_ ?_ ?_ ?_
  ·exact ⟨⟨⟨ent39, con39 _ hxs hlen⟩, trivial⟩, trivial⟩
  ·kernel_rfl
  ·exact ⟨⟨trivial, rfl, trivial, trivial⟩, (by rw [b1]; rfl), trivial⟩
  intro a w hs
  refine then_norm ?_
  refine wp_seq ?_
  refine way_L (tt := tt) (rs := []) (bs := []) (tk := [0, 3]) (bk := []) (C := True ∧ True) (lv := .norm) (T' := [(0, .row .strs xs), (3, nilv)]) (B' := []) mix hI hs ?_ ?_ ?_ ?_
  ·exact trivial
  ·kernel_rfl
  ·exact ⟨trivial, trivial⟩
  intro a w hs
  refine then_norm ?_
  refine wp_seq ?_
  refine wp_seq ?_
  refine way_L (tt := tt) (rs := []) (bs := []) (tk := [3, 9, 10, 11]) (bk := []) (C := tr 3 True) (lv := .norm) (T' := [(3, nilv), (9, .row .strs xs), (10, vi (xs.length : Int)), (11, vi 0)]) (B' := []) mix hI hs ?_ ?_ ?_ ?_
  ·exact trivial
  ·kernel_rfl
  ·exact tr_mk trivial 3
  intro a w hs
  refine then_norm ?_
  refine wp_block ?_
  have hck : checkF xs = true := b1
  have hxl := (checkF_in hck).1
  refine loop_L (N := Tryz.f41.ntmps) (w0 := w0) (ow := noO fz) (α := Nat) (fun p => [(3, .own 90000001), (9, .row .strs xs), (10, vi (xs.length : Int)), (11, vi ((p : Nat) : Int))]) (fun p => [(90000001, .sl 9 .str ((xs.take p).map dotF))]) (fun p => p ≤ xs.length) (fun p => xs.length - p) 0 ?_ ?_ ?_
  ·exact Nat.zero_le _
  ·(have hs := (hs.nil 10000002 3 9 .str (by kernel_rfl) (by decide) (by kernel_rfl) (by kernel_rfl)).ren (T' := [(3, .own 10000002), (9, .row .strs xs), (10, vi (xs.length : Int)), (11, vi 0)]) (B' := [(10000002, .sl 9 .str ([]))]) [(10000002, 10000002)] (by kernel_rfl) (by kernel_rfl) (by kernel_rfl); exact (SimL.cast hs (T' := [(3, .own 10000002), (9, .row .strs xs), (10, vi (xs.length : Int)), (11, vi ((0 : Nat) : Int))]) (B' := [(10000002, .sl 9 .str ((xs.take 0).map dotF))]) (by rfl) rfl).ren [(90000001, 10000002)] (by kernel_rfl) (by kernel_rfl) (by kernel_rfl))
  rintro i hJ a w hs
  have hl2 := take_map_len (f := dotF) hJ
  rcases Bool.eq_false_or_eq_true (decide (((i : Nat) : Int) < (xs.length : Int))) with b2 | b2
  ·skip
   have n2 := of_decide_eq_true b2
   refine way_L (tt := tt) (rs := [(7, ⟨[(2, ciA 92 [.row .str (xs.getD i (dflt .strs)), vs (ba [46])] [] [] (.val (vs (dotF (xs.getD i (dflt .strs))))))], [], []⟩)]) (bs := [true]) (tk := [3, 9, 10, 11]) (bk := [8004]) (C := (True ∧ True) ∧ (((decide (((i : Nat) : Int) < (xs.length : Int))) = true) ∧ True) ∧ (((0 ≤ ((i : Nat) : Int) ∧ ((i : Nat) : Int) < xs.length) ∧ True ∧ True ∧ True) ∧ True ∧ True ∧ (okArgs [.row .str (xs.getD i (dflt .strs)), vs (ba [46])]) ∧ True ∧ (((((xs.take i).map dotF).length + 1) * 16 : Nat) ≤ 140737488355328 ∧ ((xs.take i).map dotF).length + 1 ≤ 140737488355328) ∧ True ∧ True) ∧ (InR .i64 (((i : Nat) : Int) + 1)) ∧ True ∧ True) (lv := .norm) (T' := [(3, .own 8004), (9, .row .strs xs), (10, vi (xs.length : Int)), (11, vi (((i : Nat) : Int) + 1))]) (B' := [(8004, .sl 9 .str (((xs.take i).map dotF) ++ ([dotF (xs.getD i (dflt .strs))])))]) mix hI hs ?_ ?_ ?_ ?_
   ·exact ⟨⟨⟨ent92, conJoin _ _ (Nat.le_trans (path_at hck (by omega) _).1 (by decide)) (Nat.le_trans (path_at hck (by omega) _).2 (by decide))⟩, trivial⟩, trivial⟩
   ·kernel_rfl
   ·exact ⟨⟨trivial, trivial⟩, ⟨b2, trivial⟩, ⟨⟨⟨by omega, by omega⟩, trivial, trivial, trivial⟩, trivial, trivial, rfl, trivial, ⟨by omega, by omega⟩, trivial, trivial⟩, (inR64 (by omega) (by omega)), trivial, trivial⟩
   intro a w hs
   refine then_norm ⟨i + 1, by omega, by omega, ?_⟩
   (have e0_ : (((i : Nat) : Int) + 1) = ((((i + 1) : Nat) : Int)) := (by first | rfl | (omega)); have e1_ : (((xs.take i).map dotF) ++ ([dotF (xs.getD i (dflt .strs))])) = ((xs.take (i + 1)).map dotF) := (by first | rfl | (exact take_map_succ (f := dotF) (by omega) _)); exact (SimL.cast hs (T' := [(3, .own 8004), (9, .row .strs xs), (10, vi (xs.length : Int)), (11, vi (((i + 1) : Nat) : Int))]) (B' := [(8004, .sl 9 .str ((xs.take (i + 1)).map dotF))]) (by first | rfl | (rw [e0_, e1_]; done) | (simp only [e0_, e1_]; done) | (simp only [e0_, e1_]; rfl)) (by first | rfl | (rw [e0_, e1_]; done) | (simp only [e0_, e1_]; done) | (simp only [e0_, e1_]; rfl))).ren [(90000001, 8004)] (by kernel_rfl) (by kernel_rfl) (by kernel_rfl))
  ·skip
   have n2 := of_decide_eq_false b2
   have htk : (xs.take i).map dotF = xs.map dotF := by rw [List.take_of_length_le (by omega)]
   refine way_L (tt := tt) (rs := []) (bs := [false]) (tk := [3]) (bk := [90000001]) (C := (True ∧ True) ∧ ((decide (((i : Nat) : Int) < (xs.length : Int))) = false) ∧ True) (lv := .exit 0) (T' := [(3, .own 90000001)]) (B' := [(90000001, .sl 9 .str ((xs.take i).map dotF))]) mix hI hs ?_ ?_ ?_ ?_
   ·exact trivial
   ·kernel_rfl
   ·exact ⟨⟨trivial, trivial⟩, b2, trivial⟩
   intro a w hs
   refine then_exit ?_
   refine inb_hit ?_
   refine then_norm ?_
   refine way_L (tt := tt) (rs := [(9, ⟨[(1, ciA 92 [.row .str ((xs.take i).map dotF), vs (ba [44])] [90000001] [] (.val (vs (joinF ((xs.take i).map dotF) (ba [44])))))], [], []⟩)]) (bs := []) (tk := [2]) (bk := []) (C := (True ∧ (okArgs [.row .str ((xs.take i).map dotF), vs (ba [44])]) ∧ True ∧ True) ∧ True) (lv := .ret) (T' := [(2, vs (joinF ((xs.take i).map dotF) (ba [44])))]) (B' := []) mix hI hs ?_ ?_ ?_ ?_
   ·exact ⟨⟨⟨ent92, conJoin _ _ (by rw [htk]; exact Nat.le_trans (text_join hck) (by decide)) (by rw [htk, List.length_map]; omega)⟩, trivial⟩, trivial⟩
   ·kernel_rfl
   ·exact ⟨⟨trivial, rfl, trivial, trivial⟩, trivial⟩
   intro a w hs
   exact FnQ_cast (out := .val (vs (joinF ((xs.take i).map dotF) (ba [44])))) (by simp only [textF]; rw [if_pos hck, ← htk]) (ret_ok [] hs ⟨by kernel_rfl, rfl⟩)
 ·skip
  refine way_L (tt := tt) (rs := [(1, ⟨[(1, ciA 39 [.row .strs xs] [] [] (.val (vb (checkF xs))))], [], []⟩)]) (bs := [true]) (tk := [2]) (bk := []) (C := (True ∧ (okArgs [.row .strs xs]) ∧ True ∧ True) ∧ ((!(checkF xs)) = true) ∧ (True ∧ True) ∧ True) (lv := .ret) (T' := [(2, vs (ba []))]) (B' := []) mix hI hs ?_ ?_ ?_ ?_
  ·exact ⟨⟨⟨ent39, con39 _ hxs hlen⟩, trivial⟩, trivial⟩
  ·kernel_rfl
  ·exact ⟨⟨trivial, rfl, trivial, trivial⟩, (by rw [b1]; rfl), ⟨trivial, trivial⟩, trivial⟩
  intro a w hs
  refine then_ret ?_
  exact FnQ_cast (out := .val (vs (ba []))) (by simp only [textF]; rw [if_neg (by rw [b1]; decide)]) (ret_ok [] hs ⟨by kernel_rfl, rfl⟩)
end Go.Proofs.YtondpnipoogoiaaGreatDoor.F
namespace Go.Proofs.YtondpnipoogoiaaGreatDoor.F
open Go Go.RowKit Go.Proofs.Tryz
set_option linter.unusedVariables false
set_option linter.unusedSimpArgs false
def vF (l : List Int) (i : Nat) : Int := placeF (l.getD i (dflt (.int .i64))) 1048576
theorem vF_in (l : List Int) (i : Nat) : 0 ≤ vF l i ∧ vF l i < 1048576 := placeF_in _ _ (by decide)
def nmF (n : Int) : ByteArray := ([(ba [97]), (ba [98]), (ba [99]), (ba [100, 100])] : List ByteArray).getD (0 + n.toNat * 1) ⟨#[]⟩
def kF (v : Int) : Int := (v.tdiv 4).tmod 3
def stepsF (v : Int) (j : Nat) : List ByteArray := nmF (v.tmod 4) :: (List.range j).map fun m => nmF ((v.tdiv (12 * (kF v - ((m : Nat) : Int)))).tmod 4)
theorem steps_succ (v : Int) (j : Nat) : stepsF v j ++ [nmF ((v.tdiv (12 * (kF v - ((j : Nat) : Int)))).tmod 4)] = stepsF v (j + 1) := by simp [stepsF, List.range_succ]
theorem steps_len (v : Int) (j : Nat) : (stepsF v j).length = j + 1 := by simp [stepsF]
def pathF (v : Int) : List ByteArray := stepsF v (kF v).toNat
def pthF (x : Int) : List ByteArray := pathF (placeF x 1048576)
def pathsF (l : List Int) : List (List ByteArray) := (l.take 12).map pthF
theorem tm4 {a : Int} (h : 0 ≤ a) : 0 ≤ a.tmod 4 ∧ a.tmod 4 < 4 := by rw [Int.tmod_eq_emod_of_nonneg h]; omega
theorem kF_in {v : Int} (h : 0 ≤ v) : 0 ≤ kF v ∧ kF v ≤ 2 := by
  unfold kF
  rw [Int.tdiv_eq_ediv_of_nonneg h, Int.tmod_eq_emod_of_nonneg (by omega)]; omega
theorem td_in {v b : Int} (h : 0 ≤ v) (hb : 0 < b) : 0 ≤ v.tdiv b ∧ v.tdiv b ≤ v := ⟨Int.tdiv_nonneg h (by omega), Int.tdiv_le_self _ h⟩
theorem td4 {v : Int} (h : 0 ≤ v) (h2 : v < 1048576) : InR .i64 (v.tdiv 4) := by
  have := td_in h (b := 4) (by decide)
  exact inR64 (by omega) (by omega)
theorem qr {v k : Int} (h : 0 ≤ v) (h2 : v < 1048576) (hk : k > 0) : 12 * k ≠ 0 ∧ InR .i64 (v.tdiv (12 * k)) := by
  have := td_in h (b := 12 * k) (by omega)
  exact ⟨by omega, inR64 (by omega) (by omega)⟩
theorem ix4 {v k : Int} (h : 0 ≤ v) (hk : k > 0) : 0 ≤ (v.tdiv (12 * k)).tmod 4 ∧ (v.tdiv (12 * k)).tmod 4 < 4 := tm4 (td_in h (b := 12 * k) (by omega)).1
theorem nat4 {a : Int} (h : 0 ≤ a ∧ a < 4) : 0 + a.toNat * 1 < 4 := by omega
set_option maxRecDepth 100000 in
theorem con25 (l : List Int) : Con Tryz.prog I0 25 [.row (.int .i64) l] (.own 26 .strs (pathsF l)) := by
 refine con_of Tryz.func25 rfl (Nat.le_of_ble_eq_true rfl) stab (fun w0 fz a hI hs => ?_)
 refine wp_seq ?_
 refine way_L (tt := tt) (rs := []) (bs := []) (tk := [0]) (bk := []) (C := True ∧ True) (lv := .norm) (T' := [(0, .row (.int .i64) l)]) (B' := []) mix hI hs ?_ ?_ ?_ ?_
 ·exact trivial
 ·kernel_rfl
 ·exact ⟨trivial, trivial⟩
 intro a w hs
 refine then_norm ?_
 refine wp_seq ?_
 refine way_L (tt := tt) (rs := []) (bs := []) (tk := [0, 3]) (bk := [2001]) (C := tr 3 True) (lv := .norm) (T' := [(0, .row (.int .i64) l), (3, .ptr 2001 0)]) (B' := [(2001, .var [vs (ba [97]), vs (ba [98]), vs (ba [99]), vs (ba [100, 100])])]) mix hI hs ?_ ?_ ?_ ?_
 ·exact trivial
 ·kernel_rfl
 ·exact tr_mk trivial 3
 intro a w hs
 refine then_norm ?_
 refine wp_seq ?_
 refine way_L (tt := tt) (rs := []) (bs := []) (tk := [0, 3, 4]) (bk := [2001]) (C := True ∧ True) (lv := .norm) (T' := [(0, .row (.int .i64) l), (3, .ptr 2001 0), (4, nilv)]) (B' := [(2001, .var [vs (ba [97]), vs (ba [98]), vs (ba [99]), vs (ba [100, 100])])]) mix hI hs ?_ ?_ ?_ ?_
 ·exact trivial
 ·kernel_rfl
 ·exact ⟨trivial, trivial⟩
 intro a w hs
 refine then_norm ?_
 refine wp_seq ?_
 refine wp_seq ?_
 refine way_L (tt := tt) (rs := []) (bs := []) (tk := [0, 3, 4, 5]) (bk := [2001]) (C := True ∧ True) (lv := .norm) (T' := [(0, .row (.int .i64) l), (3, .ptr 2001 0), (4, nilv), (5, vi 0)]) (B' := [(2001, .var [vs (ba [97]), vs (ba [98]), vs (ba [99]), vs (ba [100, 100])])]) mix hI hs ?_ ?_ ?_ ?_
 ·exact trivial
 ·kernel_rfl
 ·exact ⟨trivial, trivial⟩
 intro a w hs
 refine then_norm ?_
 refine wp_block ?_
 refine loop_L (N := Tryz.f25.ntmps) (w0 := w0) (ow := noO fz) (α := Nat) (fun p => [(0, .row (.int .i64) l), (3, .ptr 2001 0), (4, .own 90000001), (5, vi ((p : Nat) : Int))]) (fun p => [(2001, .var [vs (ba [97]), vs (ba [98]), vs (ba [99]), vs (ba [100, 100])]), (90000001, .sl 26 .strs ((l.take p).map pthF))]) (fun p => p ≤ l.length ∧ p ≤ 12) (fun p => l.length - p) 0 ?_ ?_ ?_
 ·exact ⟨Nat.zero_le _, Nat.zero_le _⟩
 ·(have hs := (hs.nil 10000003 4 26 .strs (by kernel_rfl) (by decide) (by kernel_rfl) (by kernel_rfl)).ren (T' := [(0, .row (.int .i64) l), (3, .ptr 2001 0), (4, .own 10000003), (5, vi 0)]) (B' := [(2001, .var [vs (ba [97]), vs (ba [98]), vs (ba [99]), vs (ba [100, 100])]), (10000003, .sl 26 .strs ([]))]) [(2001, 2001), (10000003, 10000003)] (by kernel_rfl) (by kernel_rfl) (by kernel_rfl); exact (SimL.cast hs (T' := [(0, .row (.int .i64) l), (3, .ptr 2001 0), (4, .own 10000003), (5, vi ((0 : Nat) : Int))]) (B' := [(2001, .var [vs (ba [97]), vs (ba [98]), vs (ba [99]), vs (ba [100, 100])]), (10000003, .sl 26 .strs ((l.take 0).map pthF))]) (by rfl) rfl).ren [(2001, 2001), (90000001, 10000003)] (by kernel_rfl) (by kernel_rfl) (by kernel_rfl))
 rintro i hJ a w hs
 obtain ⟨hi, hi12⟩ := hJ
 have hv := vF_in l i
 have hk := kF_in hv.1
 have hl2 := take_map_len (f := pthF) hi
 refine wp_seq ?_
 rcases Bool.eq_false_or_eq_true (decide (((i : Nat) : Int) < (l.length : Int))) with b1 | b1
 ·skip
  have n1 := of_decide_eq_true b1
  rcases Bool.eq_false_or_eq_true (decide (((i : Nat) : Int) < 12)) with b2 | b2
  ·skip
   have n2 := of_decide_eq_true b2
   refine way_L (tt := tt) (rs := [(4, ⟨[], [(5, true), (6, true), (1007, true)], []⟩)]) (bs := [true]) (tk := [0, 3, 4, 5]) (bk := [2001, 90000001]) (C := (tr 5 (((decide (((i : Nat) : Int) < (l.length : Int))) = true) ∧ True ∧ ((decide (((i : Nat) : Int) < (l.length : Int))) = true) ∧ True ∧ ((decide (((i : Nat) : Int) < (l.length : Int))) = true) ∧ True)) ∧ ((decide (((i : Nat) : Int) < 12)) = true) ∧ True) (lv := .norm) (T' := [(0, .row (.int .i64) l), (3, .ptr 2001 0), (4, .own 90000001), (5, vi ((i : Nat) : Int))]) (B' := [(2001, .var [vs (ba [97]), vs (ba [98]), vs (ba [99]), vs (ba [100, 100])]), (90000001, .sl 26 .strs ((l.take i).map pthF))]) mix hI hs ?_ ?_ ?_ ?_
   ·exact ⟨trivial, trivial⟩
   ·kernel_rfl
   ·exact ⟨tr_mk (⟨b1, trivial, b1, trivial, b1, trivial⟩) 5, b2, trivial⟩
   intro a w hs
   refine then_norm ?_
   refine wp_seq ?_
   refine wp_block ?_
   refine wp_seq ?_
   refine way_L (tt := tt) (rs := [(6, ⟨[(4, ciA 17 [vi (l.getD i (dflt (.int .i64))), vi 1048576] [] [] (.val (vi (vF l i))))], [], []⟩)]) (bs := []) (tk := [0, 3, 4, 5, 6]) (bk := [2001, 90000001]) (C := True ∧ True ∧ (0 ≤ ((i : Nat) : Int) ∧ ((i : Nat) : Int) < l.length) ∧ True ∧ (okArgs [vi (l.getD i (dflt (.int .i64))), vi 1048576]) ∧ True ∧ True) (lv := .norm) (T' := [(0, .row (.int .i64) l), (3, .ptr 2001 0), (4, .own 90000001), (5, vi ((i : Nat) : Int)), (6, vi (vF l i))]) (B' := [(2001, .var [vs (ba [97]), vs (ba [98]), vs (ba [99]), vs (ba [100, 100])]), (90000001, .sl 26 .strs ((l.take i).map pthF))]) mix hI hs ?_ ?_ ?_ ?_
   ·exact ⟨⟨⟨ent17, con17 _ _ (by decide) (by decide)⟩, trivial⟩, trivial⟩
   ·kernel_rfl
   ·exact ⟨trivial, trivial, ⟨by omega, by omega⟩, trivial, rfl, trivial, trivial⟩
   intro a w hs
   refine then_norm ?_
   refine wp_seq ?_
   refine way_L (tt := tt) (rs := []) (bs := []) (tk := [0, 3, 4, 5, 6, 7]) (bk := [2001, 8004, 90000001]) (C := True ∧ ((4 : Int) ≠ 0) ∧ (0 ≤ (vF l i).tmod 4 ∧ (vF l i).tmod 4 < (4 : Nat)) ∧ (0 + ((vF l i).tmod 4).toNat * 1 < 4) ∧ True ∧ True ∧ True) (lv := .norm) (T' := [(0, .row (.int .i64) l), (3, .ptr 2001 0), (4, .own 90000001), (5, vi ((i : Nat) : Int)), (6, vi (vF l i)), (7, .own 8004)]) (B' := [(2001, .var [vs (ba [97]), vs (ba [98]), vs (ba [99]), vs (ba [100, 100])]), (8004, .sl 9 .str ([([(ba [97]), (ba [98]), (ba [99]), (ba [100, 100])] : List ByteArray).getD (0 + ((vF l i).tmod 4).toNat * 1) ⟨#[]⟩])), (90000001, .sl 26 .strs ((l.take i).map pthF))]) mix hI hs ?_ ?_ ?_ ?_
   ·exact trivial
   ·kernel_rfl
   ·exact ⟨trivial, (by decide), (by exact tm4 hv.1), (by exact nat4 (tm4 hv.1)), trivial, trivial, trivial⟩
   intro a w hs
   refine then_norm ?_
   refine wp_seq ?_
   refine wp_seq ?_
   refine way_L (tt := tt) (rs := []) (bs := []) (tk := [0, 3, 4, 5, 6, 7, 8]) (bk := [2001, 8004, 90000001]) (C := True ∧ ((4 : Int) ≠ 0 ∧ InR .i64 ((vF l i).tdiv 4)) ∧ ((3 : Int) ≠ 0) ∧ True ∧ True) (lv := .norm) (T' := [(0, .row (.int .i64) l), (3, .ptr 2001 0), (4, .own 90000001), (5, vi ((i : Nat) : Int)), (6, vi (vF l i)), (7, .own 8004), (8, vi (((vF l i).tdiv 4).tmod 3))]) (B' := [(2001, .var [vs (ba [97]), vs (ba [98]), vs (ba [99]), vs (ba [100, 100])]), (8004, .sl 9 .str ([([(ba [97]), (ba [98]), (ba [99]), (ba [100, 100])] : List ByteArray).getD (0 + ((vF l i).tmod 4).toNat * 1) ⟨#[]⟩])), (90000001, .sl 26 .strs ((l.take i).map pthF))]) mix hI hs ?_ ?_ ?_ ?_
   ·exact trivial
   ·kernel_rfl
   ·exact ⟨trivial, (by exact ⟨by decide, td4 hv.1 hv.2⟩), (by decide), trivial, trivial⟩
   intro a w hs
   refine then_norm ?_
   refine wp_block ?_
   refine loop_L (N := Tryz.f25.ntmps) (w0 := w0) (ow := noO fz) (α := Nat) (fun p => [(0, .row (.int .i64) l), (3, .ptr 2001 0), (4, .own 90000001), (5, vi ((i : Nat) : Int)), (6, vi (vF l i)), (7, .own 90000002), (8, vi (kF (vF l i) - ((p : Nat) : Int)))]) (fun p => [(2001, .var [vs (ba [97]), vs (ba [98]), vs (ba [99]), vs (ba [100, 100])]), (90000001, .sl 26 .strs ((l.take i).map pthF)), (90000002, .sl 9 .str (stepsF (vF l i) p))]) (fun p => ((p : Nat) : Int) ≤ kF (vF l i)) (fun p => (kF (vF l i)).toNat - p) 0 ?_ ?_ ?_
   ·exact hk.1
   ·(have e0_ : (((vF l i).tdiv 4).tmod 3) = (kF (vF l i) - ((0 : Nat) : Int)) := (by first | rfl | (simp [kF])); exact (SimL.cast hs (T' := [(0, .row (.int .i64) l), (3, .ptr 2001 0), (4, .own 90000001), (5, vi ((i : Nat) : Int)), (6, vi (vF l i)), (7, .own 8004), (8, vi (kF (vF l i) - ((0 : Nat) : Int)))]) (B' := [(2001, .var [vs (ba [97]), vs (ba [98]), vs (ba [99]), vs (ba [100, 100])]), (8004, .sl 9 .str (stepsF (vF l i) 0)), (90000001, .sl 26 .strs ((l.take i).map pthF))]) (by first | rfl | (rw [e0_]; done) | (simp only [e0_]; done) | (simp only [e0_]; rfl)) (by first | rfl | (rw [e0_]; done) | (simp only [e0_]; done) | (simp only [e0_]; rfl))).ren [(2001, 2001), (90000001, 90000001), (90000002, 8004)] (by kernel_rfl) (by kernel_rfl) (by kernel_rfl))
   rintro j hJ a w hs
   have hsl := steps_len (vF l i) j
   rcases Bool.eq_false_or_eq_true (decide ((kF (vF l i) - ((j : Nat) : Int)) > 0)) with b3 | b3
   ·skip
    have n3 := of_decide_eq_true b3
    refine way_L (tt := tt) (rs := []) (bs := [true]) (tk := [0, 3, 4, 5, 6, 7, 8]) (bk := [2001, 12009, 90000001]) (C := ((True ∧ True ∧ True) ∧ ((decide ((kF (vF l i) - ((j : Nat) : Int)) > 0)) = true) ∧ True) ∧ (tr 3 ((InR .i64 (12 * (kF (vF l i) - ((j : Nat) : Int)))) ∧ (12 * (kF (vF l i) - ((j : Nat) : Int)) ≠ 0 ∧ InR .i64 ((vF l i).tdiv (12 * (kF (vF l i) - ((j : Nat) : Int))))) ∧ ((4 : Int) ≠ 0) ∧ (0 ≤ ((vF l i).tdiv (12 * (kF (vF l i) - ((j : Nat) : Int)))).tmod 4 ∧ ((vF l i).tdiv (12 * (kF (vF l i) - ((j : Nat) : Int)))).tmod 4 < (4 : Nat)) ∧ (0 + (((vF l i).tdiv (12 * (kF (vF l i) - ((j : Nat) : Int)))).tmod 4).toNat * 1 < 4) ∧ True ∧ ((((stepsF (vF l i) j).length + 1) * 16 : Nat) ≤ 140737488355328 ∧ (stepsF (vF l i) j).length + 1 ≤ 140737488355328) ∧ True ∧ True)) ∧ True ∧ (InR .i64 ((kF (vF l i) - ((j : Nat) : Int)) - 1)) ∧ True ∧ True) (lv := .norm) (T' := [(0, .row (.int .i64) l), (3, .ptr 2001 0), (4, .own 90000001), (5, vi ((i : Nat) : Int)), (6, vi (vF l i)), (7, .own 12009), (8, vi ((kF (vF l i) - ((j : Nat) : Int)) - 1))]) (B' := [(2001, .var [vs (ba [97]), vs (ba [98]), vs (ba [99]), vs (ba [100, 100])]), (12009, .sl 9 .str ((stepsF (vF l i) j) ++ ([([(ba [97]), (ba [98]), (ba [99]), (ba [100, 100])] : List ByteArray).getD (0 + (((vF l i).tdiv (12 * (kF (vF l i) - ((j : Nat) : Int)))).tmod 4).toNat * 1) ⟨#[]⟩]))), (90000001, .sl 26 .strs ((l.take i).map pthF))]) mix hI hs ?_ ?_ ?_ ?_
    ·exact trivial
    ·kernel_rfl
    ·exact ⟨⟨⟨trivial, trivial, trivial⟩, b3, trivial⟩, tr_mk (⟨(inR64 (by omega) (by omega)), (by exact qr hv.1 hv.2 (by omega)), (by decide), (by exact ix4 hv.1 (by omega)), (by exact nat4 (ix4 hv.1 (by omega))), trivial, ⟨by omega, by omega⟩, trivial, trivial⟩) 3, trivial, (inR64 (by omega) (by omega)), trivial, trivial⟩
    intro a w hs
    refine then_norm ⟨j + 1, by omega, by omega, ?_⟩
    (have e0_ : ((kF (vF l i) - ((j : Nat) : Int)) - 1) = (kF (vF l i) - (((j + 1) : Nat) : Int)) := (by first | rfl | (omega)); have e1_ : ((stepsF (vF l i) j) ++ ([([(ba [97]), (ba [98]), (ba [99]), (ba [100, 100])] : List ByteArray).getD (0 + (((vF l i).tdiv (12 * (kF (vF l i) - ((j : Nat) : Int)))).tmod 4).toNat * 1) ⟨#[]⟩])) = (stepsF (vF l i) (j + 1)) := (by first | rfl | (exact steps_succ _ _)); exact (SimL.cast hs (T' := [(0, .row (.int .i64) l), (3, .ptr 2001 0), (4, .own 90000001), (5, vi ((i : Nat) : Int)), (6, vi (vF l i)), (7, .own 12009), (8, vi (kF (vF l i) - (((j + 1) : Nat) : Int)))]) (B' := [(2001, .var [vs (ba [97]), vs (ba [98]), vs (ba [99]), vs (ba [100, 100])]), (12009, .sl 9 .str (stepsF (vF l i) (j + 1))), (90000001, .sl 26 .strs ((l.take i).map pthF))]) (by first | rfl | (rw [e0_, e1_]; done) | (simp only [e0_, e1_]; done) | (simp only [e0_, e1_]; rfl)) (by first | rfl | (rw [e0_, e1_]; done) | (simp only [e0_, e1_]; done) | (simp only [e0_, e1_]; rfl))).ren [(2001, 2001), (90000001, 90000001), (90000002, 12009)] (by kernel_rfl) (by kernel_rfl) (by kernel_rfl))
   ·skip
    have n3 := of_decide_eq_false b3
    refine way_L (tt := tt) (rs := []) (bs := [false]) (tk := [0, 3, 4, 5, 7]) (bk := [2001, 90000001, 90000002]) (C := (True ∧ True ∧ True) ∧ ((decide ((kF (vF l i) - ((j : Nat) : Int)) > 0)) = false) ∧ True) (lv := .exit 2) (T' := [(0, .row (.int .i64) l), (3, .ptr 2001 0), (4, .own 90000001), (5, vi ((i : Nat) : Int)), (7, .own 90000002)]) (B' := [(2001, .var [vs (ba [97]), vs (ba [98]), vs (ba [99]), vs (ba [100, 100])]), (90000001, .sl 26 .strs ((l.take i).map pthF)), (90000002, .sl 9 .str (stepsF (vF l i) j))]) mix hI hs ?_ ?_ ?_ ?_
    ·exact trivial
    ·kernel_rfl
    ·exact ⟨⟨trivial, trivial, trivial⟩, b3, trivial⟩
    intro a w hs
    refine then_exit ?_
    refine inb_hit ?_
    refine then_norm ?_
    refine way_L (tt := tt) (rs := []) (bs := []) (tk := [0, 3, 4, 5]) (bk := [2001, 13003]) (C := tr 3 ((((((l.take i).map pthF).length + 1) * 24 : Nat) ≤ 140737488355328 ∧ ((l.take i).map pthF).length + 1 ≤ 140737488355328) ∧ True ∧ True)) (lv := .norm) (T' := [(0, .row (.int .i64) l), (3, .ptr 2001 0), (4, .own 13003), (5, vi ((i : Nat) : Int))]) (B' := [(2001, .var [vs (ba [97]), vs (ba [98]), vs (ba [99]), vs (ba [100, 100])]), (13003, .sl 26 .strs (((l.take i).map pthF) ++ ([stepsF (vF l i) j])))]) mix hI hs ?_ ?_ ?_ ?_
    ·exact trivial
    ·kernel_rfl
    ·exact tr_mk (⟨⟨by omega, by omega⟩, ⟨trivial, trivial⟩⟩) 3
    intro a w hs
    refine inb_norm ?_
    refine then_norm ?_
    refine way_L (tt := tt) (rs := []) (bs := []) (tk := [0, 3, 4, 5]) (bk := [2001, 13003]) (C := True ∧ (InR .i64 (((i : Nat) : Int) + 1)) ∧ True ∧ True) (lv := .norm) (T' := [(0, .row (.int .i64) l), (3, .ptr 2001 0), (4, .own 13003), (5, vi (((i : Nat) : Int) + 1))]) (B' := [(2001, .var [vs (ba [97]), vs (ba [98]), vs (ba [99]), vs (ba [100, 100])]), (13003, .sl 26 .strs (((l.take i).map pthF) ++ ([stepsF (vF l i) j])))]) mix hI hs ?_ ?_ ?_ ?_
    ·exact trivial
    ·kernel_rfl
    ·exact ⟨trivial, (inR64 (by omega) (by omega)), trivial, trivial⟩
    intro a w hs
    refine then_norm ⟨i + 1, ⟨by omega, by omega⟩, by omega, ?_⟩
    (have e0_ : (((i : Nat) : Int) + 1) = ((((i + 1) : Nat) : Int)) := (by first | rfl | (omega)); have e1_ : (((l.take i).map pthF) ++ ([stepsF (vF l i) j])) = ((l.take (i + 1)).map pthF) := (by first | rfl | (rw [show stepsF (vF l i) j = pthF (l.getD i (dflt (.int .i64))) from by unfold pthF pathF; rw [show j = (kF (vF l i)).toNat by omega]; rfl]; exact take_map_succ (f := pthF) (by omega) _)); exact (SimL.cast hs (T' := [(0, .row (.int .i64) l), (3, .ptr 2001 0), (4, .own 13003), (5, vi (((i + 1) : Nat) : Int))]) (B' := [(2001, .var [vs (ba [97]), vs (ba [98]), vs (ba [99]), vs (ba [100, 100])]), (13003, .sl 26 .strs ((l.take (i + 1)).map pthF))]) (by first | rfl | (rw [e0_, e1_]; done) | (simp only [e0_, e1_]; done) | (simp only [e0_, e1_]; rfl)) (by first | rfl | (rw [e0_, e1_]; done) | (simp only [e0_, e1_]; done) | (simp only [e0_, e1_]; rfl))).ren [(2001, 2001), (90000001, 13003)] (by kernel_rfl) (by kernel_rfl) (by kernel_rfl))
  ·skip
   have n2 := of_decide_eq_false b2
   refine way_L (tt := tt) (rs := [(4, ⟨[], [(5, true), (6, true), (1007, true)], []⟩)]) (bs := [false]) (tk := [4]) (bk := [90000001]) (C := (tr 5 (((decide (((i : Nat) : Int) < (l.length : Int))) = true) ∧ True ∧ ((decide (((i : Nat) : Int) < (l.length : Int))) = true) ∧ True ∧ ((decide (((i : Nat) : Int) < (l.length : Int))) = true) ∧ True)) ∧ ((decide (((i : Nat) : Int) < 12)) = false) ∧ True) (lv := .exit 0) (T' := [(4, .own 90000001)]) (B' := [(90000001, .sl 26 .strs ((l.take i).map pthF))]) mix hI hs ?_ ?_ ?_ ?_
   ·exact ⟨trivial, trivial⟩
   ·kernel_rfl
   ·exact ⟨tr_mk (⟨b1, trivial, b1, trivial, b1, trivial⟩) 5, b2, trivial⟩
   intro a w hs
   refine then_exit ?_
   refine then_exit ?_
   refine inb_hit ?_
   refine then_norm ?_
   refine way_L (tt := tt) (rs := []) (bs := []) (tk := [2]) (bk := [90000001]) (C := (True ∧ True ∧ True) ∧ True) (lv := .ret) (T' := [(2, .own 90000001)]) (B' := [(90000001, .sl 26 .strs ((l.take i).map pthF))]) mix hI hs ?_ ?_ ?_ ?_
   ·exact trivial
   ·kernel_rfl
   ·exact ⟨⟨trivial, trivial, trivial⟩, trivial⟩
   intro a w hs
   exact FnQ_cast (out := .own 26 .strs ((l.take i).map pthF)) (by have h1 : (l.take i).map pthF = pathsF l := by { unfold pathsF; rcases Nat.lt_or_ge i l.length with h | h; rw [show i = 12 by omega]; rw [List.take_of_length_le h, List.take_of_length_le (by omega)] }; rw [h1]) (ret_ok [] hs (.inl ⟨90000001, by kernel_rfl, rfl⟩))
 ·skip
  have n1 := of_decide_eq_false b1
  refine way_L (tt := tt) (rs := [(4, ⟨[], [(5, false), (6, false), (1007, false)], []⟩)]) (bs := [false]) (tk := [4]) (bk := [90000001]) (C := (tr 5 (((decide (((i : Nat) : Int) < (l.length : Int))) = false) ∧ ((decide (((i : Nat) : Int) < (l.length : Int))) = false) ∧ ((decide (((i : Nat) : Int) < (l.length : Int))) = false) ∧ True)) ∧ (false = false) ∧ True) (lv := .exit 0) (T' := [(4, .own 90000001)]) (B' := [(90000001, .sl 26 .strs ((l.take i).map pthF))]) mix hI hs ?_ ?_ ?_ ?_
  ·exact ⟨trivial, trivial⟩
  ·kernel_rfl
  ·exact ⟨tr_mk (⟨b1, b1, b1, trivial⟩) 5, rfl, trivial⟩
  intro a w hs
  refine then_exit ?_
  refine then_exit ?_
  refine inb_hit ?_
  refine then_norm ?_
  refine way_L (tt := tt) (rs := []) (bs := []) (tk := [2]) (bk := [90000001]) (C := (True ∧ True ∧ True) ∧ True) (lv := .ret) (T' := [(2, .own 90000001)]) (B' := [(90000001, .sl 26 .strs ((l.take i).map pthF))]) mix hI hs ?_ ?_ ?_ ?_
  ·exact trivial
  ·kernel_rfl
  ·exact ⟨⟨trivial, trivial, trivial⟩, trivial⟩
  intro a w hs
  exact FnQ_cast (out := .own 26 .strs ((l.take i).map pthF)) (by have h1 : (l.take i).map pthF = pathsF l := by { unfold pathsF; rcases Nat.lt_or_ge i l.length with h | h; rw [show i = 12 by omega]; rw [List.take_of_length_le h, List.take_of_length_le (by omega)] }; rw [h1]) (ret_ok [] hs (.inl ⟨90000001, by kernel_rfl, rfl⟩))
end Go.Proofs.YtondpnipoogoiaaGreatDoor.F
