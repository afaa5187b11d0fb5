import Derived.Test.YtondpnipoogoiaaGreatDoorE6
import Derived.Test.YtondpnipoogoiaaGreatDoorE5
import Derived.Lib.SplitLaws
set_option maxRecDepth 100000
set_option linter.unusedVariables false
set_option linter.unusedSimpArgs false
namespace Go.Proofs.YtondpnipoogoiaaGreatDoor.F
open Go Go.RowKit Go.Proofs.Tryz
def makeN (neg : Bool) (n : Nat) (e : Int) : Num × Bool :=
 if (lim (tz n).1).length = 0 then (⟨false, [], 0⟩, true)
 else if (lim (tz n).1).length > 90 ∨ e < -1099511627776 ∨ e > 1099511627776 ∨ (((tz n).2 : Nat) : Int) > 1099511627776 ∨ e + (((tz n).2 : Nat) : Int) < -1200 ∨ e + (((tz n).2 : Nat) : Int) > 1200 then (⟨false, [], 0⟩, false)
 else (⟨neg, lim (tz n).1, e + (((tz n).2 : Nat) : Int)⟩, true)
theorem makeN_check (neg : Bool) (n : Nat) (e : Int) : checkN (makeN neg n e).1 = true := by
 unfold makeN
 split
 rfl
 rename_i h0
 split
 rfl
 rename_i h
 simp only [not_or] at h
 have hn : (tz n).1 ≠ 0 := fun hz => h0 (by rw [hz, lim_zero]; rfl)
 have hn2 : n ≠ 0 := fun hz => hn (by rw [hz, tz_zero])
 show checkN ⟨neg, lim (tz n).1, e + (((tz n).2 : Nat) : Int)⟩ = true
 unfold checkN
 rw [if_neg h0, if_neg (show ¬ (lim (tz n).1).length > 90 by omega), if_neg (lim_last h0), if_neg (by show ¬ e + _ < _; omega), if_neg (by show ¬ e + _ > _; omega)]
 show decide (val (lim (tz n).1) % 10 ≠ 0) = true
 rw [val_lim]
 exact decide_eq_true (tz_mod hn2)
theorem makeN_ok (neg : Bool) (n : Nat) (e : Int) : Ok (makeN neg n e).1.m := by
 unfold makeN
 split
 exact Ok.nil
 split
 exact Ok.nil
 exact lim_ok _
theorem makeN_len (neg : Bool) {l : List Int} (hl : Ok l) (e : Int) : (makeN neg (val l) e).1.m.length ≤ l.length := by
 unfold makeN
 split
 exact Nat.zero_le _
 split
 exact Nat.zero_le _
 exact lim_len hl (tz_le _)
theorem wrap32_in (x : Int) : 0 ≤ IntKind.wrap .u32 x ∧ IntKind.wrap .u32 x < 4294967296 := by
 simp only [IntKind.wrap, IntKind.bits, IntKind.signed]
 simp
 omega
theorem ok1 {x : Int} (h : 0 ≤ x ∧ x < 4294967296) : Ok [x] := Ok.cons h.1 h.2 Ok.nil
theorem ok2 {x y : Int} (h : 0 ≤ x ∧ x < 4294967296) (h2 : 0 ≤ y ∧ y < 4294967296) : Ok [x, y] := Ok.cons h.1 h.2 (ok1 h2)
theorem ok3 {x y z : Int} (h : 0 ≤ x ∧ x < 4294967296) (h2 : 0 ≤ y ∧ y < 4294967296) (h3 : 0 ≤ z ∧ z < 4294967296) : Ok [x, y, z] := Ok.cons h.1 h.2 (ok2 h2 h3)
structure FineN (n : Num) : Prop where
 check : checkN n = true
 ok : Ok n.m
 len : n.m.length ≤ 3
theorem fineN_make {neg : Bool} {l : List Int} (hl : Ok l) (h3 : l.length ≤ 3) (e : Int) : FineN (makeN neg (val l) e).1 := ⟨makeN_check _ _ _, makeN_ok _ _ _, Nat.le_trans (makeN_len _ hl _) h3⟩
def uabs (v : Int) : Int := if decide (v < 0) = true then IntKind.wrap .u64 (0 - IntKind.wrap .u64 v) else IntKind.wrap .u64 v
def ofN (v : Int) : Num := (makeN (decide (v < 0)) (val [IntKind.wrap .u32 (uabs v), IntKind.wrap .u32 ((uabs v).fdiv (2 ^ 32))]) 0).1
theorem fineN_of (v : Int) : FineN (ofN v) := fineN_make (ok2 (wrap32_in _) (wrap32_in _)) (Nat.le_of_ble_eq_true rfl) 0
def numberN (v : Int) : Num :=
 if v.tmod 5 = 0 then ofN ((v.tdiv 5).tmod 60 - 20)
 else if v.tmod 5 = 1 then (makeN ((v.tdiv 5).tmod 2 == 1) (val [IntKind.wrap .u32 ((v.tdiv 10).tmod 2000)]) ((v.tdiv 7).tmod 9 - 5)).1
 else if v.tmod 5 = 2 then (makeN false (val [IntKind.wrap .u32 v, IntKind.wrap .u32 (v.tdiv 3), IntKind.wrap .u32 (v.tmod 7)]) 0).1
 else if v.tmod 5 = 3 then (makeN (v.tmod 2 == 1) (val [5, IntKind.wrap .u32 v]) (IntKind.wrap .i64 (0 - (v.tdiv 5).tmod 30))).1
 else ofN v
theorem fineN_number (v : Int) : FineN (numberN v) := by
 unfold numberN
 repeat' split
 exact fineN_of _
 exact fineN_make (ok1 (wrap32_in _)) (Nat.le_of_ble_eq_true rfl) _
 exact fineN_make (ok3 (wrap32_in _) (wrap32_in _) (wrap32_in _)) (Nat.le_of_ble_eq_true rfl) _
 exact fineN_make (ok2 ⟨by decide, by decide⟩ (wrap32_in _)) (Nat.le_of_ble_eq_true rfl) _
 exact fineN_of _
theorem td {a : Int} (h : -9223372036854775808 ≤ a ∧ a ≤ 9223372036854775807) (k : Int) (hk : 2 ≤ k) : -9223372036854775808 < a.tdiv k ∧ a.tdiv k ≤ 9223372036854775807 := by
 have h1 : (a.tdiv k).natAbs = a.natAbs / k.natAbs := Int.natAbs_tdiv a k
 have h2 : a.natAbs / k.natAbs ≤ a.natAbs / 2 := Nat.div_le_div_left (by omega) (by omega)
 omega
theorem tm {a : Int} (k : Int) (hk : 0 < k) : -k < a.tmod k ∧ a.tmod k < k := ⟨Int.lt_tmod_of_pos a hk, Int.tmod_lt_of_pos a hk⟩
theorem con212 (l : List Int) (ha : Ok l) (hl : l.length < 1000000000) : Con Tryz.prog I0 212 [.row (.int .u32) l] (.val (.tup [.row (.int .u32) (lim (tz (val l)).1), vi (((tz (val l)).2 : Nat) : Int)])) := by
 refine con_of Tryz.func212 rfl (Nat.le_of_ble_eq_true rfl) stab (fun w0 fz a hI hs => ?_)
 refine wNs hs hI [] 8 [] [(0, rwU l)] [] fun a w hs => ?_
 refine wLs hs hI [(1, rc [(1, ciV 250 [rwU l] (rwU (lim (val l))))])] [] 1141 [] [(4, rwU (lim (val l)))] [] ⟨(trim_lim ha ▸ (con250 _ (by omega)).frz), tv⟩ fun a w hs => ?_
 refine wNs hs hI [] 11 [] [(4, rwU (lim (val l))), (5, vi 0)] [] fun a w hs => ?_
 refine wp_seq ?_
 refine wp_block ?_
 refine loop_L (N := Tryz.f212.ntmps) (w0 := w0) (ow := noO fz) (α := Nat × Nat) (fun p => [(4, rwU (lim p.1)), (5, vi ((p.2 : Nat) : Int))]) (fun p => []) (fun p => p.1 ≤ val l ∧ tz (val l) = ((tz p.1).1, p.2 + (tz p.1).2)) (fun p => p.1) (val l, 0) ?_ ?_ ?_
 exact ⟨Nat.le_refl _, by simp⟩
 exact (hs.cst [(4, rwU (lim (val l))), (5, vi ((0 : Nat) : Int))] [] rfl).rk []
 rintro ⟨n, c⟩ hJ a w hs
 try dsimp only at hJ
 obtain ⟨hn, hz⟩ := hJ
 have hln := lim_len ha hn
 have htz := tz_small ha hl
 rw [hz] at htz
 have hl0 := lim_len_zero n
 have hvl := val_lim n
 rcases bd (((lim n).length : Int) > 0) with ⟨b1, n1⟩ | ⟨b1, n1⟩
 rcases bt (((val (lim n) % 10 : Nat) : Int) != 0) with b2 | b2
 have n2 := bne_iff_ne.1 b2
 refine wL hs hI [(4, rc [(1, ciV 218 [rwU (lim n), .lit (.int .u32 10)] (.tup [rwU (lim (val (lim n) / 10)), .lit (.int .u32 ((val (lim n) % 10 : Nat) : Int))]))])] (bz 2 3) 7982968841972918 [q1 b1, q1 b2] (.exit 0) [(4, rwU (lim n)), (5, vi (c : Int))] [] ⟨con218_10 _ (lim_ok n) (by omega), tv⟩ fun a w hs => ?_
 refine then_exit ?_
 refine inb_hit ?_
 refine then_norm ?_
 refine wN hs hI [] 1608 [] .ret [(2, rwU (lim n)), (3, vi (c : Int))] [] fun a w hs => ?_
 exact rK (.val (.tup [rwU (lim n), vi (c : Int)])) [] hs (by have h := bne_iff_ne.1 b2; rw [hvl] at h; rw [tz_end (.inl (by omega)) hz])
 have n2 := bne_eq_false_iff_eq.1 b2
 refine wL hs hI [(4, rc [(1, ciV 218 [rwU (lim n), .lit (.int .u32 10)] (.tup [rwU (lim (val (lim n) / 10)), .lit (.int .u32 ((val (lim n) % 10 : Nat) : Int))]))])] (bz 2 1) 1719897982968841972918 [q1 b1, q1 b2, q3 ((c : Int) + 1)] .norm [(4, rwU (lim (val (lim n) / 10))), (5, vi ((c : Int) + 1))] [] ⟨con218_10 _ (lim_ok n) (by omega), tv⟩ fun a w hs => ?_
 refine then_norm ⟨(n / 10, c + 1), ⟨by omega, tz_iter (by omega) (by have h := bne_eq_false_iff_eq.1 b2; rw [hvl] at h; omega) hz⟩, by omega, ?_⟩
 (have e0_ : (lim (val (lim n) / 10)) = (lim (n / 10)) := (by first | rfl | (rw [hvl])); have e1_ : ((c : Int) + 1) = ((((c + 1) : Nat) : Int)) := (by first | rfl | (omega)); exact (hs.cst [(4, rwU (lim (n / 10))), (5, vi (((c + 1) : Nat) : Int))] [] (by first | (rw [e0_, e1_]; done) | (simp only [e0_, e1_]; done) | rfl | (simp only [e0_, e1_]; rfl))).rk [])
 refine wN hs hI (bz 1 0) 72918 [q1 b1] (.exit 0) [(4, rwU (lim n)), (5, vi (c : Int))] [] fun a w hs => ?_
 refine then_exit ?_
 refine inb_hit ?_
 refine then_norm ?_
 refine wN hs hI [] 1608 [] .ret [(2, rwU (lim n)), (3, vi (c : Int))] [] fun a w hs => ?_
 exact rK (.val (.tup [rwU (lim n), vi (c : Int)])) [] hs (by rw [tz_end (.inr (by omega)) hz])
theorem con167 (neg : Bool) (l : List Int) (e : Int) (ha : Ok l) (hl : l.length < 1000000000) : Con Tryz.prog I0 167 [vb neg, .row (.int .u32) l, vi e] (.val (.tup [.agg [vb (((makeN neg (val l) e).1).neg), .row (.int .u32) (((makeN neg (val l) e).1).m), vi (((makeN neg (val l) e).1).e)], vb ((makeN neg (val l) e).2)])) := by
 refine con_of Tryz.func167 rfl (Nat.le_of_ble_eq_true rfl) stab (fun w0 fz a hI hs => ?_)
 refine wNs hs hI [] 8 [] [(0, vb neg), (1, rwU l), (2, vi e), (6, .ptr 1000 0)] [(1000, .var [vb false, nilv, vi 0])] fun a w hs => ?_
 refine wLs hs hI [(1, rc [(1, ciV 212 [rwU l] (.tup [rwU (lim (tz (val l)).1), vi (((tz (val l)).2 : Nat) : Int)]))])] [] 8841 [] [(0, vb neg), (2, vi e), (6, .ptr 1000 0), (8, rwU (lim (tz (val l)).1)), (9, vi (((tz (val l)).2 : Nat) : Int))] [(1000, .var [vb false, nilv, vi 0])] ⟨con212 _ ha hl, tv⟩ fun a w hs => ?_
 refine wp_seq ?_
 rcases bq ((lim (tz (val l)).1).length : Int) (0) with ⟨b1, n1⟩ | ⟨b1, n1⟩
 refine wN hs hI (bz 1 1) 129872918 [q1 b1] .ret [(6, .ptr 1000 0), (7, vb true)] [(1000, .var [vb false, nilv, vi 0])] fun a w hs => ?_
 refine then_ret ?_
 exact rK (.val (.tup [.agg [vb false, rwU ([]), vi 0], vb true])) [] hs (by rw [makeN, if_pos (by omega)])
 refine wN hs hI (bz 1 0) 72918 [q1 b1] .norm [(0, vb neg), (2, vi e), (6, .ptr 1000 0), (8, rwU (lim (tz (val l)).1)), (9, vi (((tz (val l)).2 : Nat) : Int))] [(1000, .var [vb false, nilv, vi 0])] fun a w hs => ?_
 refine then_norm ?_
 rcases bd (((lim (tz (val l)).1).length : Int) > 90) with ⟨b2, n2⟩ | ⟨b2, n2⟩
 refine wL hs hI [(4, rg [] [1006, 1010, 1014, 1020, 1026] [4, 5, 8, 9, 12, 13, 16, 17, 18, 19, 22, 23, 24, 25])] (bz 1 1) 1298729666666733337333373373373318 [q1 b2, q1 b2, q1 b2, q0 true, q0 true, q0 true, q0 true, q0 true, q0 true, q0 true, q0 true, q0 true, q0 true, q0 true, q0 true, q0 true, q0 true, q0 true, q0 true, q0 true] .ret [(6, .ptr 1000 0), (7, vb false)] [(1000, .var [vb false, nilv, vi 0])] tv fun a w hs => ?_
 exact rK (.val (.tup [.agg [vb false, rwU ([]), vi 0], vb false])) [] hs (by rw [makeN, if_neg (by omega), if_pos (by omega)])
 rcases bd (e < (-1099511627776)) with ⟨b3, n3⟩ | ⟨b3, n3⟩
 refine wL hs hI [(4, rg [] [4, 5, 1010, 1014, 1020, 1026] [1006, 8, 9, 12, 13, 16, 17, 18, 19, 22, 23, 24, 25])] (bz 1 1) 1298726666666733337333373373377718 [q1 b2, q1 b2, q1 b2, q1 b3, q1 b3, q1 b3, q0 true, q0 true, q0 true, q0 true, q0 true, q0 true, q0 true, q0 true, q0 true, q0 true, q0 true, q0 true, q0 true, q0 true] .ret [(6, .ptr 1000 0), (7, vb false)] [(1000, .var [vb false, nilv, vi 0])] tv fun a w hs => ?_
 exact rK (.val (.tup [.agg [vb false, rwU ([]), vi 0], vb false])) [] hs (by rw [makeN, if_neg (by omega), if_pos (by omega)])
 rcases bd (e > 1099511627776) with ⟨b4, n4⟩ | ⟨b4, n4⟩
 refine wL hs hI [(4, rg [] [4, 5, 8, 9, 1014, 1020, 1026] [1006, 1010, 12, 13, 16, 17, 18, 19, 22, 23, 24, 25])] (bz 1 1) 12987296666666733337333373377777718 [q1 b2, q1 b2, q1 b2, q1 b3, q1 b3, q1 b3, q1 b4, q1 b4, q1 b4, q0 true, q0 true, q0 true, q0 true, q0 true, q0 true, q0 true, q0 true, q0 true, q0 true, q0 true] .ret [(6, .ptr 1000 0), (7, vb false)] [(1000, .var [vb false, nilv, vi 0])] tv fun a w hs => ?_
 exact rK (.val (.tup [.agg [vb false, rwU ([]), vi 0], vb false])) [] hs (by rw [makeN, if_neg (by omega), if_pos (by omega)])
 rcases bd ((((tz (val l)).2 : Nat) : Int) > 1099511627776) with ⟨b5, n5⟩ | ⟨b5, n5⟩
 refine wL hs hI [(4, rg [] [4, 5, 8, 9, 12, 13, 1020, 1026] [1006, 1010, 1014, 16, 17, 18, 19, 22, 23, 24, 25])] (bz 1 1) 12987266666666733337333377777777718 [q1 b2, q1 b2, q1 b2, q1 b3, q1 b3, q1 b3, q1 b4, q1 b4, q1 b4, q1 b5, q1 b5, q1 b5, q1 b5, q1 b5, q0 true, q0 true, q0 true, q0 true, q0 true, q0 true] .ret [(6, .ptr 1000 0), (7, vb false)] [(1000, .var [vb false, nilv, vi 0])] tv fun a w hs => ?_
 exact rK (.val (.tup [.agg [vb false, rwU ([]), vi 0], vb false])) [] hs (by rw [makeN, if_neg (by omega), if_pos (by omega)])
 rcases bd ((e + (((tz (val l)).2 : Nat) : Int)) < (-1200)) with ⟨b6, n6⟩ | ⟨b6, n6⟩
 refine wL hs hI [(4, rg [] [4, 5, 8, 9, 12, 13, 16, 17, 18, 19, 1026] [1006, 1010, 1014, 1020, 22, 23, 24, 25])] (bz 1 1) 1298726666666667333377337777777777718 [q1 b2, q1 b2, q1 b2, q1 b3, q1 b3, q1 b3, q1 b4, q1 b4, q1 b4, q1 b5, q1 b5, q1 b5, q3 (e + (((tz (val l)).2 : Nat) : Int)), q1 b5, q1 b5, q1 b6, q1 b6, q1 b6, q1 b6, q1 b6, q0 true] .ret [(6, .ptr 1000 0), (7, vb false)] [(1000, .var [vb false, nilv, vi 0])] tv fun a w hs => ?_
 exact rK (.val (.tup [.agg [vb false, rwU ([]), vi 0], vb false])) [] hs (by rw [makeN, if_neg (by omega), if_pos (by omega)])
 rcases bd ((e + (((tz (val l)).2 : Nat) : Int)) > 1200) with ⟨b7, n7⟩ | ⟨b7, n7⟩
 refine wL hs hI [(4, rg [] [4, 5, 8, 9, 12, 13, 16, 17, 18, 19, 22, 23, 24, 25] [1006, 1010, 1014, 1020, 1026])] (bz 1 1) 129872666666666677337777337777777777718 [q1 b2, q1 b2, q1 b2, q1 b3, q1 b3, q1 b3, q1 b4, q1 b4, q1 b4, q1 b5, q1 b5, q1 b5, q3 (e + (((tz (val l)).2 : Nat) : Int)), q1 b5, q1 b5, q1 b6, q1 b6, q1 b6, q3 (e + (((tz (val l)).2 : Nat) : Int)), q1 b6, q1 b6, q1 b7] .ret [(6, .ptr 1000 0), (7, vb false)] [(1000, .var [vb false, nilv, vi 0])] tv fun a w hs => ?_
 exact rK (.val (.tup [.agg [vb false, rwU ([]), vi 0], vb false])) [] hs (by rw [makeN, if_neg (by omega), if_pos (by omega)])
 refine wL hs hI [(4, rg [] [4, 5, 8, 9, 12, 13, 16, 17, 18, 19, 22, 23, 24, 25] [1006, 1010, 1014, 1020, 1026])] (bz 1 0) 1668718972666666666677337777337777777777718 [q1 b2, q1 b2, q1 b2, q1 b3, q1 b3, q1 b3, q1 b4, q1 b4, q1 b4, q1 b5, q1 b5, q1 b5, q3 (e + (((tz (val l)).2 : Nat) : Int)), q1 b5, q1 b5, q1 b6, q1 b6, q1 b6, q3 (e + (((tz (val l)).2 : Nat) : Int)), q1 b6, q1 b6, q1 b7, q3 (e + (((tz (val l)).2 : Nat) : Int))] .ret [(6, .ptr 1000 0), (7, vb true)] [(1000, .var [vb neg, rwU (lim (tz (val l)).1), vi (e + (((tz (val l)).2 : Nat) : Int))])] tv fun a w hs => ?_
 exact rK (.val (.tup [.agg [vb neg, rwU (lim (tz (val l)).1), vi (e + (((tz (val l)).2 : Nat) : Int))], vb true])) [] hs (by rw [makeN, if_neg (by omega), if_neg (by omega)])
theorem con166 (v : Int) : Con Tryz.prog I0 166 [vi v] (.val (.agg [vb ((ofN v).neg), .row (.int .u32) ((ofN v).m), vi ((ofN v).e)])) := by
 refine con_of Tryz.func166 rfl (Nat.le_of_ble_eq_true rfl) stab (fun w0 fz a hI hs => ?_)
 rcases bd (v < 0) with ⟨b1, n1⟩ | ⟨b1, n1⟩
 refine wL hs hI [(4, rc [(8, ciA 167 [vb (decide (v < 0)), rwU ([IntKind.wrap .u32 (IntKind.wrap .u64 (0 - (IntKind.wrap .u64 v))), IntKind.wrap .u32 ((IntKind.wrap .u64 (0 - (IntKind.wrap .u64 v))).fdiv (2 ^ 32))]), vi 0] [] [5007] (.val (.tup [.agg [vb (((makeN (decide (v < 0)) (val ([IntKind.wrap .u32 (IntKind.wrap .u64 (0 - (IntKind.wrap .u64 v))), IntKind.wrap .u32 ((IntKind.wrap .u64 (0 - (IntKind.wrap .u64 v))).fdiv (2 ^ 32))])) 0).1).neg), rwU (((makeN (decide (v < 0)) (val ([IntKind.wrap .u32 (IntKind.wrap .u64 (0 - (IntKind.wrap .u64 v))), IntKind.wrap .u32 ((IntKind.wrap .u64 (0 - (IntKind.wrap .u64 v))).fdiv (2 ^ 32))])) 0).1).m), vi (((makeN (decide (v < 0)) (val ([IntKind.wrap .u32 (IntKind.wrap .u64 (0 - (IntKind.wrap .u64 v))), IntKind.wrap .u32 ((IntKind.wrap .u64 (0 - (IntKind.wrap .u64 v))).fdiv (2 ^ 32))])) 0).1).e)], vb ((makeN (decide (v < 0)) (val ([IntKind.wrap .u32 (IntKind.wrap .u64 (0 - (IntKind.wrap .u64 v))), IntKind.wrap .u32 ((IntKind.wrap .u64 (0 - (IntKind.wrap .u64 v))).fdiv (2 ^ 32))])) 0).2)])))])] (bz 1 1) 198296661884088268798291820 [q1 b1] .ret [(2, .ptr 1000 0)] [(1000, .var [vb (((makeN (decide (v < 0)) (val ([IntKind.wrap .u32 (IntKind.wrap .u64 (0 - (IntKind.wrap .u64 v))), IntKind.wrap .u32 ((IntKind.wrap .u64 (0 - (IntKind.wrap .u64 v))).fdiv (2 ^ 32))])) 0).1).neg), rwU (((makeN (decide (v < 0)) (val ([IntKind.wrap .u32 (IntKind.wrap .u64 (0 - (IntKind.wrap .u64 v))), IntKind.wrap .u32 ((IntKind.wrap .u64 (0 - (IntKind.wrap .u64 v))).fdiv (2 ^ 32))])) 0).1).m), vi (((makeN (decide (v < 0)) (val ([IntKind.wrap .u32 (IntKind.wrap .u64 (0 - (IntKind.wrap .u64 v))), IntKind.wrap .u32 ((IntKind.wrap .u64 (0 - (IntKind.wrap .u64 v))).fdiv (2 ^ 32))])) 0).1).e)])] ⟨con167 _ _ _ (ok2 (by first | exact wrap32_in _ | decide) (wrap32_in _)) (Nat.le_of_ble_eq_true rfl), tv⟩ fun a w hs => ?_
 exact rK (.val (.agg [vb (((makeN (decide (v < 0)) (val ([IntKind.wrap .u32 (IntKind.wrap .u64 (0 - (IntKind.wrap .u64 v))), IntKind.wrap .u32 ((IntKind.wrap .u64 (0 - (IntKind.wrap .u64 v))).fdiv (2 ^ 32))])) 0).1).neg), rwU (((makeN (decide (v < 0)) (val ([IntKind.wrap .u32 (IntKind.wrap .u64 (0 - (IntKind.wrap .u64 v))), IntKind.wrap .u32 ((IntKind.wrap .u64 (0 - (IntKind.wrap .u64 v))).fdiv (2 ^ 32))])) 0).1).m), vi (((makeN (decide (v < 0)) (val ([IntKind.wrap .u32 (IntKind.wrap .u64 (0 - (IntKind.wrap .u64 v))), IntKind.wrap .u32 ((IntKind.wrap .u64 (0 - (IntKind.wrap .u64 v))).fdiv (2 ^ 32))])) 0).1).e)])) [] hs (by unfold ofN uabs; rw [if_pos b1])
 refine wL hs hI [(4, rc [(8, ciA 167 [vb (decide (v < 0)), rwU ([IntKind.wrap .u32 (IntKind.wrap .u64 v), IntKind.wrap .u32 ((IntKind.wrap .u64 v).fdiv (2 ^ 32))]), vi 0] [] [5007] (.val (.tup [.agg [vb (((makeN (decide (v < 0)) (val ([IntKind.wrap .u32 (IntKind.wrap .u64 v), IntKind.wrap .u32 ((IntKind.wrap .u64 v).fdiv (2 ^ 32))])) 0).1).neg), rwU (((makeN (decide (v < 0)) (val ([IntKind.wrap .u32 (IntKind.wrap .u64 v), IntKind.wrap .u32 ((IntKind.wrap .u64 v).fdiv (2 ^ 32))])) 0).1).m), vi (((makeN (decide (v < 0)) (val ([IntKind.wrap .u32 (IntKind.wrap .u64 v), IntKind.wrap .u32 ((IntKind.wrap .u64 v).fdiv (2 ^ 32))])) 0).1).e)], vb ((makeN (decide (v < 0)) (val ([IntKind.wrap .u32 (IntKind.wrap .u64 v), IntKind.wrap .u32 ((IntKind.wrap .u64 v).fdiv (2 ^ 32))])) 0).2)])))])] (bz 1 0) 1982966618840889798291820 [q1 b1] .ret [(2, .ptr 1000 0)] [(1000, .var [vb (((makeN (decide (v < 0)) (val ([IntKind.wrap .u32 (IntKind.wrap .u64 v), IntKind.wrap .u32 ((IntKind.wrap .u64 v).fdiv (2 ^ 32))])) 0).1).neg), rwU (((makeN (decide (v < 0)) (val ([IntKind.wrap .u32 (IntKind.wrap .u64 v), IntKind.wrap .u32 ((IntKind.wrap .u64 v).fdiv (2 ^ 32))])) 0).1).m), vi (((makeN (decide (v < 0)) (val ([IntKind.wrap .u32 (IntKind.wrap .u64 v), IntKind.wrap .u32 ((IntKind.wrap .u64 v).fdiv (2 ^ 32))])) 0).1).e)])] ⟨con167 _ _ _ (ok2 (by first | exact wrap32_in _ | decide) (wrap32_in _)) (Nat.le_of_ble_eq_true rfl), tv⟩ fun a w hs => ?_
 exact rK (.val (.agg [vb (((makeN (decide (v < 0)) (val ([IntKind.wrap .u32 (IntKind.wrap .u64 v), IntKind.wrap .u32 ((IntKind.wrap .u64 v).fdiv (2 ^ 32))])) 0).1).neg), rwU (((makeN (decide (v < 0)) (val ([IntKind.wrap .u32 (IntKind.wrap .u64 v), IntKind.wrap .u32 ((IntKind.wrap .u64 v).fdiv (2 ^ 32))])) 0).1).m), vi (((makeN (decide (v < 0)) (val ([IntKind.wrap .u32 (IntKind.wrap .u64 v), IntKind.wrap .u32 ((IntKind.wrap .u64 v).fdiv (2 ^ 32))])) 0).1).e)])) [] hs (by unfold ofN uabs; rw [if_neg (by rw [b1]; decide)])
theorem con110 (v : Int) (hv : -9223372036854775808 ≤ v ∧ v ≤ 9223372036854775807) : Con Tryz.prog I0 110 [vi v] (.val (.agg [vb ((numberN v).neg), .row (.int .u32) ((numberN v).m), vi ((numberN v).e)])) := by
 have a1 := td hv 3 (by decide)
 have a2 := td hv 5 (by decide)
 have a3 := td hv 7 (by decide)
 have a4 := td hv 10 (by decide)
 have b1 := tm (a := v.tdiv 5) 60 (by decide)
 have b2 := tm (a := v.tdiv 7) 9 (by decide)
 have b3 := tm (a := v.tdiv 5) 30 (by decide)
 refine con_of Tryz.func110 rfl (Nat.le_of_ble_eq_true rfl) stab (fun w0 fz a hI hs => ?_)
 rcases bq (v.tmod 5) (0) with ⟨b1, n1⟩ | ⟨b1, n1⟩
 refine wL hs hI [(3, rc [(4, ciV 166 [vi (((v.tdiv 5).tmod 60) - 20)] (.agg [vb ((ofN (((v.tdiv 5).tmod 60) - 20)).neg), rwU ((ofN (((v.tdiv 5).tmod 60) - 20)).m), vi ((ofN (((v.tdiv 5).tmod 60) - 20)).e)]))])] (bz 1 1) 1960433379897120 [q6 5, q1 b1, ⟨(5 : Int) ≠ 0 ∧ InR .i64 (v.tdiv 5), (by first | exact inR64 (by omega) (by omega) | exact ⟨by decide, inR64 (by omega) (by omega)⟩)⟩, q6 60, ⟨InR .i64 (((v.tdiv 5).tmod 60) - 20), (by first | exact inR64 (by omega) (by omega) | exact ⟨by decide, inR64 (by omega) (by omega)⟩)⟩] .ret [(2, .ptr 1000 0)] [(1000, .var [vb ((ofN (((v.tdiv 5).tmod 60) - 20)).neg), rwU ((ofN (((v.tdiv 5).tmod 60) - 20)).m), vi ((ofN (((v.tdiv 5).tmod 60) - 20)).e)])] ⟨con166 _, tv⟩ fun a w hs => ?_
 exact rK (.val (.agg [vb ((ofN (((v.tdiv 5).tmod 60) - 20)).neg), rwU ((ofN (((v.tdiv 5).tmod 60) - 20)).m), vi ((ofN (((v.tdiv 5).tmod 60) - 20)).e)])) [] hs (by rw [numberN, if_pos (by omega)])
 rcases bq (v.tmod 5) (1) with ⟨b2, n2⟩ | ⟨b2, n2⟩
 refine wL hs hI [(5, rc [(13, ciA 167 [vb (((v.tdiv 5).tmod 2) == 1), rwU ([IntKind.wrap .u32 ((v.tdiv 10).tmod 2000)]), vi (((v.tdiv 7).tmod 9) - 5)] [] [6008] (.val (.tup [.agg [vb (((makeN (((v.tdiv 5).tmod 2) == 1) (val ([IntKind.wrap .u32 ((v.tdiv 10).tmod 2000)])) (((v.tdiv 7).tmod 9) - 5)).1).neg), rwU (((makeN (((v.tdiv 5).tmod 2) == 1) (val ([IntKind.wrap .u32 ((v.tdiv 10).tmod 2000)])) (((v.tdiv 7).tmod 9) - 5)).1).m), vi (((makeN (((v.tdiv 5).tmod 2) == 1) (val ([IntKind.wrap .u32 ((v.tdiv 10).tmod 2000)])) (((v.tdiv 7).tmod 9) - 5)).1).e)], vb ((makeN (((v.tdiv 5).tmod 2) == 1) (val ([IntKind.wrap .u32 ((v.tdiv 10).tmod 2000)])) (((v.tdiv 7).tmod 9) - 5)).2)])))])] (bz 2 2) 19866666188433307317379079897120 [q6 5, q1 b1, q1 b2, ⟨(5 : Int) ≠ 0 ∧ InR .i64 (v.tdiv 5), (by first | exact inR64 (by omega) (by omega) | exact ⟨by decide, inR64 (by omega) (by omega)⟩)⟩, q6 2, ⟨(10 : Int) ≠ 0 ∧ InR .i64 (v.tdiv 10), (by first | exact inR64 (by omega) (by omega) | exact ⟨by decide, inR64 (by omega) (by omega)⟩)⟩, q6 2000, ⟨(7 : Int) ≠ 0 ∧ InR .i64 (v.tdiv 7), (by first | exact inR64 (by omega) (by omega) | exact ⟨by decide, inR64 (by omega) (by omega)⟩)⟩, q6 9, ⟨InR .i64 (((v.tdiv 7).tmod 9) - 5), (by first | exact inR64 (by omega) (by omega) | exact ⟨by decide, inR64 (by omega) (by omega)⟩)⟩] .ret [(2, .ptr 1000 0)] [(1000, .var [vb (((makeN (((v.tdiv 5).tmod 2) == 1) (val ([IntKind.wrap .u32 ((v.tdiv 10).tmod 2000)])) (((v.tdiv 7).tmod 9) - 5)).1).neg), rwU (((makeN (((v.tdiv 5).tmod 2) == 1) (val ([IntKind.wrap .u32 ((v.tdiv 10).tmod 2000)])) (((v.tdiv 7).tmod 9) - 5)).1).m), vi (((makeN (((v.tdiv 5).tmod 2) == 1) (val ([IntKind.wrap .u32 ((v.tdiv 10).tmod 2000)])) (((v.tdiv 7).tmod 9) - 5)).1).e)])] ⟨con167 _ _ _ (ok1 (wrap32_in _)) (Nat.le_of_ble_eq_true rfl), tv⟩ fun a w hs => ?_
 exact rK (.val (.agg [vb (((makeN (((v.tdiv 5).tmod 2) == 1) (val ([IntKind.wrap .u32 ((v.tdiv 10).tmod 2000)])) (((v.tdiv 7).tmod 9) - 5)).1).neg), rwU (((makeN (((v.tdiv 5).tmod 2) == 1) (val ([IntKind.wrap .u32 ((v.tdiv 10).tmod 2000)])) (((v.tdiv 7).tmod 9) - 5)).1).m), vi (((makeN (((v.tdiv 5).tmod 2) == 1) (val ([IntKind.wrap .u32 ((v.tdiv 10).tmod 2000)])) (((v.tdiv 7).tmod 9) - 5)).1).e)])) [] hs (by rw [numberN, if_neg (by omega), if_pos (by omega)])
 rcases bq (v.tmod 5) (2) with ⟨b3, n3⟩ | ⟨b3, n3⟩
 refine wL hs hI [(8, rc [(9, ciA 167 [vb false, rwU ([IntKind.wrap .u32 v, IntKind.wrap .u32 (v.tdiv 3), IntKind.wrap .u32 (v.tmod 7)]), vi 0] [] [9008] (.val (.tup [.agg [vb (((makeN false (val ([IntKind.wrap .u32 v, IntKind.wrap .u32 (v.tdiv 3), IntKind.wrap .u32 (v.tmod 7)])) 0).1).neg), rwU (((makeN false (val ([IntKind.wrap .u32 v, IntKind.wrap .u32 (v.tdiv 3), IntKind.wrap .u32 (v.tmod 7)])) 0).1).m), vi (((makeN false (val ([IntKind.wrap .u32 v, IntKind.wrap .u32 (v.tdiv 3), IntKind.wrap .u32 (v.tmod 7)])) 0).1).e)], vb ((makeN false (val ([IntKind.wrap .u32 v, IntKind.wrap .u32 (v.tdiv 3), IntKind.wrap .u32 (v.tmod 7)])) 0).2)])))])] (bz 3 4) 198666618841717079079079897120 [q6 5, q1 b1, q1 b2, q1 b3, ⟨(3 : Int) ≠ 0 ∧ InR .i64 (v.tdiv 3), (by first | exact inR64 (by omega) (by omega) | exact ⟨by decide, inR64 (by omega) (by omega)⟩)⟩, q6 7] .ret [(2, .ptr 1000 0)] [(1000, .var [vb (((makeN false (val ([IntKind.wrap .u32 v, IntKind.wrap .u32 (v.tdiv 3), IntKind.wrap .u32 (v.tmod 7)])) 0).1).neg), rwU (((makeN false (val ([IntKind.wrap .u32 v, IntKind.wrap .u32 (v.tdiv 3), IntKind.wrap .u32 (v.tmod 7)])) 0).1).m), vi (((makeN false (val ([IntKind.wrap .u32 v, IntKind.wrap .u32 (v.tdiv 3), IntKind.wrap .u32 (v.tmod 7)])) 0).1).e)])] ⟨con167 _ _ _ (ok3 (wrap32_in _) (wrap32_in _) (wrap32_in _)) (Nat.le_of_ble_eq_true rfl), tv⟩ fun a w hs => ?_
 exact rK (.val (.agg [vb (((makeN false (val ([IntKind.wrap .u32 v, IntKind.wrap .u32 (v.tdiv 3), IntKind.wrap .u32 (v.tmod 7)])) 0).1).neg), rwU (((makeN false (val ([IntKind.wrap .u32 v, IntKind.wrap .u32 (v.tdiv 3), IntKind.wrap .u32 (v.tmod 7)])) 0).1).m), vi (((makeN false (val ([IntKind.wrap .u32 v, IntKind.wrap .u32 (v.tdiv 3), IntKind.wrap .u32 (v.tmod 7)])) 0).1).e)])) [] hs (by rw [numberN, if_neg (by omega), if_neg (by omega), if_pos (by omega)])
 rcases bq (v.tmod 5) (3) with ⟨b4, n4⟩ | ⟨b4, n4⟩
 refine wL hs hI [(11, rc [(10, ciA 167 [vb ((v.tmod 2) == 1), rwU ([5, IntKind.wrap .u32 v]), vi (IntKind.wrap .i64 (0 - ((v.tdiv 5).tmod 30)))] [] [12005] (.val (.tup [.agg [vb (((makeN ((v.tmod 2) == 1) (val ([5, IntKind.wrap .u32 v])) (IntKind.wrap .i64 (0 - ((v.tdiv 5).tmod 30)))).1).neg), rwU (((makeN ((v.tmod 2) == 1) (val ([5, IntKind.wrap .u32 v])) (IntKind.wrap .i64 (0 - ((v.tdiv 5).tmod 30)))).1).m), vi (((makeN ((v.tmod 2) == 1) (val ([5, IntKind.wrap .u32 v])) (IntKind.wrap .i64 (0 - ((v.tdiv 5).tmod 30)))).1).e)], vb ((makeN ((v.tmod 2) == 1) (val ([5, IntKind.wrap .u32 v])) (IntKind.wrap .i64 (0 - ((v.tdiv 5).tmod 30)))).2)])))])] (bz 4 8) 1982666618847318779079079079897120 [q6 5, q1 b1, q1 b2, q1 b3, q1 b4, q6 2, ⟨(5 : Int) ≠ 0 ∧ InR .i64 (v.tdiv 5), (by first | exact inR64 (by omega) (by omega) | exact ⟨by decide, inR64 (by omega) (by omega)⟩)⟩, q6 30] .ret [(2, .ptr 1000 0)] [(1000, .var [vb (((makeN ((v.tmod 2) == 1) (val ([5, IntKind.wrap .u32 v])) (IntKind.wrap .i64 (0 - ((v.tdiv 5).tmod 30)))).1).neg), rwU (((makeN ((v.tmod 2) == 1) (val ([5, IntKind.wrap .u32 v])) (IntKind.wrap .i64 (0 - ((v.tdiv 5).tmod 30)))).1).m), vi (((makeN ((v.tmod 2) == 1) (val ([5, IntKind.wrap .u32 v])) (IntKind.wrap .i64 (0 - ((v.tdiv 5).tmod 30)))).1).e)])] ⟨con167 _ _ _ (ok2 (by first | exact wrap32_in _ | decide) (wrap32_in _)) (Nat.le_of_ble_eq_true rfl), tv⟩ fun a w hs => ?_
 exact rK (.val (.agg [vb (((makeN ((v.tmod 2) == 1) (val ([5, IntKind.wrap .u32 v])) (IntKind.wrap .i64 (0 - ((v.tdiv 5).tmod 30)))).1).neg), rwU (((makeN ((v.tmod 2) == 1) (val ([5, IntKind.wrap .u32 v])) (IntKind.wrap .i64 (0 - ((v.tdiv 5).tmod 30)))).1).m), vi (((makeN ((v.tmod 2) == 1) (val ([5, IntKind.wrap .u32 v])) (IntKind.wrap .i64 (0 - ((v.tdiv 5).tmod 30)))).1).e)])) [] hs (by rw [numberN, if_neg (by omega), if_neg (by omega), if_neg (by omega), if_pos (by omega)])
 refine wL hs hI [(13, rc [(1, ciV 166 [vi v] (.agg [vb ((ofN v).neg), rwU ((ofN v).m), vi ((ofN v).e)]))])] (bz 4 0) 12904126679079079079897120 [q6 5, q1 b1, q1 b2, q1 b3, q1 b4] .ret [(2, .ptr 1000 0)] [(1000, .var [vb ((ofN v).neg), rwU ((ofN v).m), vi ((ofN v).e)])] ⟨con166 _, tv⟩ fun a w hs => ?_
 exact rK (.val (.agg [vb ((ofN v).neg), rwU ((ofN v).m), vi ((ofN v).e)])) [] hs (by rw [numberN, if_neg (by omega), if_neg (by omega), if_neg (by omega), if_neg (by omega)])
theorem splitB_sizes (sep : ByteArray) : ∀ (k : Nat) (s : ByteArray), ∀ x ∈ Lib.splitB sep 0 k s, x.size ≤ s.size
 | 0, s, x, h => by simp [Lib.splitB] at h; subst h; exact Nat.le_refl _
 | k + 1, s, x, h => by
  unfold Lib.splitB at h
  split at h
  simp at h; subst h; exact Nat.le_refl _
  rcases List.mem_cons.1 h with rfl | h
  rw [ByteArray.size_extract]; omega
  have := splitB_sizes sep k _ x h
  rw [ByteArray.size_extract] at this; omega
theorem split_size {s : ByteArray} {c : UInt8} : ∀ x ∈ splitF s c, x.size ≤ s.size := splitB_sizes _ _ _
theorem split_len (s : ByteArray) (c : UInt8) : (splitF s c).length ≤ s.size + 1 := by
 have := Lib.splitB_length_le (ba [c]) 0 (Lib.countB s (ba [c])) s
 have := Lib.countB_le (ba [c]) (Nat.le_refl _) s.size s (Nat.le_refl _)
 unfold splitF; omega
theorem split_smalls {s : ByteArray} (c : UInt8) (h : s.size < 4294960000) : smalls (splitF s c) := ⟨fun x hx => by have := split_size x hx; unfold small; omega, by have := split_len s c; omega⟩
theorem sz_at {s : ByteArray} {c : UInt8} {i : Nat} (h : s.size < 4294960000) (hi : i < (splitF s c).length) (d : ByteArray) : ((splitF s c).getD i d).size < 4294960000 := by
 have := split_size _ (getD_mem hi d); omega
def badPiece (p : ByteArray) : Bool := (splitF p 46).any fun n => !nameF n
def cutsF (s : ByteArray) : List (List ByteArray) := (splitF s 44).map fun p => splitF p 46
def parseF (s : ByteArray) : List (List ByteArray) × Int :=
 if (s.toList == (ba []).toList) = true then ([], 0) else if (splitF s 44).any badPiece = true then ([], 2) else if checkF (cutsF s) = true then (cutsF s, 0) else ([], 4)
theorem any_at {α : Type} {q : α → Bool} {l : List α} {i : Nat} (h : i < l.length) (d : α) (hq : q (l.getD i d) = true) : l.any q = true := List.any_eq_true.2 ⟨_, getD_mem h d, hq⟩
theorem any_no {α : Type} {q : α → Bool} {l : List α} (h : ∀ j, j < l.length → ∀ d, q (l.getD j d) = false) : l.any q = false := by
 rw [List.any_eq_false]
 intro x hx
 obtain ⟨i, hi, rfl⟩ := List.getElem_of_mem hx
 have := h i hi l[i]
 rw [List.getD_eq_getElem?_getD, List.getElem?_eq_getElem hi] at this
 simpa using this
theorem take_map_succ {α β : Type} {f : α → β} {l : List α} {i : Nat} (h : i < l.length) (d : α) : (l.take i).map f ++ [f (l.getD i d)] = (l.take (i + 1)).map f := by
 rw [List.take_succ_eq_append_getElem h, List.map_append, List.getD_eq_getElem?_getD, List.getElem?_eq_getElem h]; rfl
theorem take_map_len {α β : Type} {f : α → β} {l : List α} {i : Nat} (h : i ≤ l.length) : ((l.take i).map f).length = i := by simp; omega
theorem con31 (s : ByteArray) (hs0 : s.size < 4294960000) : Con Tryz.prog I0 31 [vs s] (.val (.tup [.row .strs ((parseF s).1), vi ((parseF s).2)])) := by
 refine con_of Tryz.func31 rfl (Nat.le_of_ble_eq_true rfl) stab (fun w0 fz a hI hs => ?_)
 refine wNs hs hI [] 8 [] [(0, vs s)] [] fun a w hs => ?_
 refine wp_seq ?_
 rcases bq (s.toList) ((ba []).toList) with ⟨b1, n1⟩ | ⟨b1, n1⟩
 refine wN hs hI (bz 1 1) 190798 [q1 b1] .ret [(2, nilv), (3, vi 0)] [] fun a w hs => ?_
 refine then_ret ?_
 exact rK (.val (.tup [.row .strs ([]), vi 0])) [] hs (by simp only [parseF]; rw [if_pos b1])
 refine wN hs hI (bz 1 0) 798 [q1 b1] .norm [(0, vs s)] [] fun a w hs => ?_
 refine then_norm ?_
 refine wNs hs hI [] 11 [] [(0, vs s), (4, nilv)] [] fun a w hs => ?_
 refine wp_seq ?_
 refine wLs hs hI [(4, rc [(1, ciA 82 [vs s, vs (ba [44])] [] [] (.own 9 .str (splitF s 44)))])] [] 841 [] [(4, nilv), (11, .own 5001), (12, vi ((splitF s 44).length : Int)), (13, vi 0)] [(5001, .sl 9 .str (splitF s 44))] ⟨conSplit _ _ (by first | omega | (have := sz_at hs0 (c := 44) (i := i) (by omega) (dflt .str); omega)), tv⟩ fun a w hs => ?_
 refine wp_block ?_
 refine loop_L (N := Tryz.f31.ntmps) (w0 := w0) (ow := noO fz) (α := Nat) (fun p => [(4, .own 90000001), (11, .own 5001), (12, vi ((splitF s 44).length : Int)), (13, vi (p : Int))]) (fun p => [(5001, .sl 9 .str (splitF s 44)), (90000001, .sl 26 .strs (((splitF s 44).take p).map (fun p => splitF p 46)))]) (fun p => p ≤ (splitF s 44).length ∧ ∀ j, j < p → ∀ d, badPiece ((splitF s 44).getD j d) = false) (fun p => (splitF s 44).length - p) 0 ?_ ?_ ?_
 exact ⟨Nat.zero_le _, fun j hj => absurd hj (Nat.not_lt_zero _)⟩
 (have hs := (hs.nil 10000001 4 26 .strs (by kernel_rfl) (by decide) (by kernel_rfl) (by kernel_rfl)).rmT [(4, .own 10000001), (11, .own 5001), (12, vi ((splitF s 44).length : Int)), (13, vi 0)] [(5001, .sl 9 .str (splitF s 44)), (10000001, .sl 26 .strs ([]))] [(5001, 5001), (10000001, 10000001)] (by kernel_rfl); exact (hs.cst [(4, .own 10000001), (11, .own 5001), (12, vi ((splitF s 44).length : Int)), (13, vi ((0 : Nat) : Int))] [(5001, .sl 9 .str (splitF s 44)), (10000001, .sl 26 .strs (((splitF s 44).take 0).map (fun p => splitF p 46)))] rfl).rk [(5001, 5001), (90000001, 10000001)])
 rintro i hJ a w hs
 obtain ⟨hi, hall⟩ := hJ
 have hspl := split_len s 44
 have htk := take_map_len (f := fun p => splitF p 46) hi
 rcases bd ((i : Int) < ((splitF s 44).length : Int)) with ⟨b2, n2⟩ | ⟨b2, n2⟩
 rcases bt ((splitF ((splitF s 44).getD i (dflt .str)) 46).any (fun n => !nameF n)) with b3 | b3
 refine wL hs hI [(7, rc [(1, ciA 82 [vs ((splitF s 44).getD i (dflt .str)), vs (ba [46])] [] [] (.own 9 .str (splitF ((splitF s 44).getD i (dflt .str)) 46)))]), (8, rc [(1, ciA 83 [rwS (splitF ((splitF s 44).getD i (dflt .str)) 46), .lit (.func (.func 84) #[] #[])] [8001] [] (.val (vb ((splitF ((splitF s 44).getD i (dflt .str)) 46).any (fun n => !nameF n)))))])] (bz 2 3) 1907914129041291732720 [q1 b2, q4 (i : Int) ((splitF s 44).length), q2 (i < (splitF s 44).length), q1 b3] .ret [(2, nilv), (3, vi 2)] [] ⟨conSplit _ _ (by first | omega | (have := sz_at hs0 (c := 44) (i := i) (by omega) (dflt .str); omega)), con83_84 _ (split_smalls 46 (sz_at hs0 (by omega) _)).1 (split_smalls 46 (sz_at hs0 (by omega) _)).2, tv⟩ fun a w hs => ?_
 refine then_ret ?_
 refine inb_ret ?_
 refine then_ret ?_
 exact rK (.val (.tup [.row .strs ([]), vi 2])) [] hs (by have h1 : (splitF s 44).any badPiece = true := any_at (by omega) (dflt .str) b3; simp only [parseF]; rw [if_neg (by rw [b1]; decide), if_pos h1])
 refine wL hs hI [(7, rc [(1, ciA 82 [vs ((splitF s 44).getD i (dflt .str)), vs (ba [46])] [] [] (.own 9 .str (splitF ((splitF s 44).getD i (dflt .str)) 46)))]), (8, rc [(1, ciA 83 [rwS (splitF ((splitF s 44).getD i (dflt .str)) 46), .lit (.func (.func 84) #[] #[])] [8001] [] (.val (vb ((splitF ((splitF s 44).getD i (dflt .str)) 46).any (fun n => !nameF n)))))])] (bz 2 1) 176617897914129041291732720 [q1 b2, q4 (i : Int) ((splitF s 44).length), q2 (i < (splitF s 44).length), q1 b3, q7 ((((splitF s 44).take i).map (fun p => splitF p 46)).length) 1 24, q3 ((i : Int) + 1)] .norm [(4, .own 11003), (11, .own 5001), (12, vi ((splitF s 44).length : Int)), (13, vi ((i : Int) + 1))] [(5001, .sl 9 .str (splitF s 44)), (11003, .sl 26 .strs ((((splitF s 44).take i).map (fun p => splitF p 46)) ++ ([splitF ((splitF s 44).getD i (dflt .str)) 46])))] ⟨conSplit _ _ (by first | omega | (have := sz_at hs0 (c := 44) (i := i) (by omega) (dflt .str); omega)), con83_84 _ (split_smalls 46 (sz_at hs0 (by omega) _)).1 (split_smalls 46 (sz_at hs0 (by omega) _)).2, tv⟩ fun a w hs => ?_
 refine then_norm ⟨i + 1, ⟨by omega, fun j hj d => by rcases Nat.lt_succ_iff_lt_or_eq.1 hj with h | h; exact hall j h d; subst h; rw [getD_any (by omega) d (dflt .str)]; exact b3⟩, by omega, ?_⟩
 (have e0_ : ((i : Int) + 1) = ((((i + 1) : Nat) : Int)) := (by first | rfl | (omega)); have e1_ : ((((splitF s 44).take i).map (fun p => splitF p 46)) ++ ([splitF ((splitF s 44).getD i (dflt .str)) 46])) = (((splitF s 44).take (i + 1)).map (fun p => splitF p 46)) := (by first | rfl | (exact take_map_succ (f := fun p => splitF p 46) (by omega) _)); exact (hs.cst [(4, .own 11003), (11, .own 5001), (12, vi ((splitF s 44).length : Int)), (13, vi (((i + 1) : Nat) : Int))] [(5001, .sl 9 .str (splitF s 44)), (11003, .sl 26 .strs (((splitF s 44).take (i + 1)).map (fun p => splitF p 46)))] (by first | (rw [e0_, e1_]; done) | (simp only [e0_, e1_]; done) | rfl | (simp only [e0_, e1_]; rfl))).rk [(5001, 5001), (90000001, 11003)])
 refine wN hs hI (bz 1 0) 720 [q1 b2] (.exit 0) [(4, .own 90000001)] [(90000001, .sl 26 .strs (((splitF s 44).take i).map (fun p => splitF p 46)))] fun a w hs => ?_
 refine then_exit ?_
 refine inb_hit ?_
 refine then_norm ?_
 rcases bt (checkF (((splitF s 44).take i).map (fun p => splitF p 46))) with b4 | b4
 refine wL hs hI [(12, rc [(1, ciA 39 [.row .strs (((splitF s 44).take i).map (fun p => splitF p 46))] [90000001] [] (.val (vb (checkF (((splitF s 44).take i).map (fun p => splitF p 46))))))])] (bz 1 0) 129189729041 [q1 (ng1 b4)] .ret [(2, .own 90000001), (3, vi 0)] [(90000001, .sl 26 .strs (((splitF s 44).take i).map (fun p => splitF p 46)))] ⟨con39 _ (by intro x hx; obtain ⟨p, hp, rfl⟩ := List.mem_map.1 hx; have := split_size (s := s) (c := 44) p (List.mem_of_mem_take hp); exact split_smalls 46 (by omega)) (by rw [take_map_len (by omega)]; have := split_len s 44; omega), tv⟩ fun a w hs => ?_
 exact rK (.val (.tup [.row .strs (((splitF s 44).take i).map (fun p => splitF p 46)), vi 0])) [90000001] hs (by have h1 : (splitF s 44).any badPiece = false := any_no (fun j hj d => hall j (by omega) d); have h2 : (splitF s 44).take i = splitF s 44 := List.take_of_length_le (by omega); rw [h2] at b4; first | (simp only [h2, parseF]; rw [if_neg (by rw [b1]; decide), if_neg (by rw [h1]; decide), if_pos (by first | exact b4 | (rw [show checkF (cutsF s) = false from b4]; decide))]; try rfl) | skip)
 refine wL hs hI [(12, rc [(1, ciA 39 [.row .strs (((splitF s 44).take i).map (fun p => splitF p 46))] [90000001] [] (.val (vb (checkF (((splitF s 44).take i).map (fun p => splitF p 46))))))])] (bz 1 1) 190729041 [q1 (ng0 b4)] .ret [(2, nilv), (3, vi 4)] [] ⟨con39 _ (by intro x hx; obtain ⟨p, hp, rfl⟩ := List.mem_map.1 hx; have := split_size (s := s) (c := 44) p (List.mem_of_mem_take hp); exact split_smalls 46 (by omega)) (by rw [take_map_len (by omega)]; have := split_len s 44; omega), tv⟩ fun a w hs => ?_
 exact rK (.val (.tup [.row .strs ([]), vi 4])) [] hs (by have h1 : (splitF s 44).any badPiece = false := any_no (fun j hj d => hall j (by omega) d); have h2 : (splitF s 44).take i = splitF s 44 := List.take_of_length_le (by omega); rw [h2] at b4; first | (simp only [h2, parseF]; rw [if_neg (by rw [b1]; decide), if_neg (by rw [h1]; decide), if_neg (by first | exact b4 | (rw [show checkF (cutsF s) = false from b4]; decide))]; try rfl) | skip)
def placeF (n k : Int) : Int := if n.tmod k < 0 then n.tmod k + k else n.tmod k
theorem placeF_in (n k : Int) (hk : 0 < k) : 0 ≤ placeF n k ∧ placeF n k < k := by
 unfold placeF
 have h1 := Int.lt_tmod_of_pos n hk
 have h2 := Int.tmod_lt_of_pos n hk
 split <;> omega
def sameS (xs ys : List ByteArray) : Bool := ((xs.length : Int) == (ys.length : Int)) && (List.range xs.length).all fun j => (xs.getD j (dflt .str)).toList == (ys.getD j (dflt .str)).toList
def sameP (xs ys : List (List ByteArray)) : Bool := ((xs.length : Int) == (ys.length : Int)) && (List.range xs.length).all fun j => sameS (xs.getD j (dflt .strs)) (ys.getD j (dflt .strs))
theorem sameS_self (xs : List ByteArray) : sameS xs xs = true := by simp [sameS]
theorem sameP_self (xs : List (List ByteArray)) : sameP xs xs = true := by simp [sameP, sameS_self]
theorem lt_all {n : Nat} {q : Nat → Bool} (h : ∀ j, j < n → q j = true) : (List.range n).all q = true := List.all_eq_true.2 (fun j hj => h j (by simpa using hj))
theorem ne_of {a b : Int} (h : (a != b) = false) : (a == b) = true := by simpa [bne] using h
theorem ne_of' {a b : Int} (h : (a != b) = true) : (a == b) = false := by simpa [bne] using h
theorem con17 (n k : Int) (hk : 0 < k) (hk2 : k < 4294967296) : Con Tryz.prog I0 17 [vi n, vi k] (.val (vi (placeF n k))) := by
 refine con_of Tryz.func17 rfl (Nat.le_of_ble_eq_true rfl) stab (fun w0 fz a hI hs => ?_)
 rcases bd ((n.tmod k) < 0) with ⟨b1, n1⟩ | ⟨b1, n1⟩
 refine wN hs hI (bz 1 1) 19896171798617020 [q2 (k ≠ 0), q1 b1, ⟨InR .i64 ((n.tmod k) + k), (by exact inR64 (by have := Int.lt_tmod_of_pos n hk; omega) (by have := Int.tmod_lt_of_pos n hk; omega))⟩] .ret [(4, vi ((n.tmod k) + k))] [] fun a w hs => ?_
 exact rK (.val (vi ((n.tmod k) + k))) [] hs (by simp only [placeF]; rw [if_pos (by omega)])
 refine wN hs hI (bz 1 0) 1989798617020 [q2 (k ≠ 0), q1 b1] .ret [(4, vi (n.tmod k))] [] fun a w hs => ?_
 exact rK (.val (vi (n.tmod k))) [] hs (by simp only [placeF]; rw [if_neg (by omega)])
theorem con60 (xs ys : List ByteArray) (hx : xs.length < 4294967296) : Con Tryz.prog I0 60 [.row .str xs, .row .str ys] (.val (vb (sameS xs ys))) := by
 refine con_of Tryz.func60 rfl (Nat.le_of_ble_eq_true rfl) stab (fun w0 fz a hI hs => ?_)
 refine wNs hs hI [] 11 [] [(0, rwS xs), (1, rwS ys)] [] fun a w hs => ?_
 refine wp_seq ?_
 rcases bt ((xs.length : Int) != (ys.length : Int)) with b1 | b1
 have n1 := bne_iff_ne.1 b1
 refine wN hs hI (bz 1 1) 12172688 [q1 b1] .ret [(4, vb false)] [] fun a w hs => ?_
 refine then_ret ?_
 exact rK (.val (vb false)) [] hs (by simp only [sameS, ne_of' b1, Bool.false_and])
 have n1 := bne_eq_false_iff_eq.1 b1
 refine wN hs hI (bz 1 0) 72688 [q1 b1] .norm [(0, rwS xs), (1, rwS ys)] [] fun a w hs => ?_
 refine then_norm ?_
 refine wp_seq ?_
 refine wNs hs hI [] 11 [] [(0, rwS xs), (1, rwS ys), (5, vi 0)] [] fun a w hs => ?_
 refine wp_block ?_
 refine loop_L (N := Tryz.f60.ntmps) (w0 := w0) (ow := noO fz) (α := Nat) (fun p => [(0, rwS xs), (1, rwS ys), (5, vi (p : Int))]) (fun p => []) (fun p => p ≤ xs.length ∧ ∀ j, j < p → ((xs.getD j (dflt .str)).toList == (ys.getD j (dflt .str)).toList) = true) (fun p => xs.length - p) 0 ?_ ?_ ?_
 exact ⟨Nat.zero_le _, fun j hj => absurd hj (Nat.not_lt_zero _)⟩
 exact hs.rk []
 rintro i hJ a w hs
 obtain ⟨hi, hall⟩ := hJ
 rcases bd ((i : Int) < (xs.length : Int)) with ⟨b2, n2⟩ | ⟨b2, n2⟩
 rcases bq ((xs.getD i (dflt .str)).toList) ((ys.getD i (dflt .str)).toList) with ⟨b3, n3⟩ | ⟨b3, n3⟩
 refine wN hs hI (bz 2 1) 171972660707097608 [q1 b2, q4 (i : Int) xs.length, q4 (i : Int) ys.length, q1 (ng1 b3), q3 ((i : Int) + 1)] .norm [(0, rwS xs), (1, rwS ys), (5, vi ((i : Int) + 1))] [] fun a w hs => ?_
 refine then_norm ⟨i + 1, ⟨by omega, fun j hj => by rcases Nat.lt_succ_iff_lt_or_eq.1 hj with h | h; exact hall j h; subst h; exact b3⟩, by omega, ?_⟩
 exact hs.rk []
 refine wN hs hI (bz 2 3) 12172660707097608 [q1 b2, q4 (i : Int) xs.length, q4 (i : Int) ys.length, q1 (ng0 b3)] .ret [(4, vb false)] [] fun a w hs => ?_
 refine then_ret ?_
 refine inb_ret ?_
 refine then_ret ?_
 exact rK (.val (vb false)) [] hs (by simp only [sameS]; rw [ne_of b1, all_no (i := i) (by omega) (by exact b3)]; rfl)
 refine wN hs hI (bz 1 0) 7608 [q1 b2] (.exit 0) [] [] fun a w hs => ?_
 refine then_exit ?_
 refine inb_hit ?_
 refine then_norm ?_
 refine wN hs hI [] 120 [] .ret [(4, vb true)] [] fun a w hs => ?_
 exact rK (.val (vb true)) [] hs (by simp only [sameS]; rw [ne_of b1, lt_all (fun j hj => hall j (by omega))]; rfl)
theorem con35 (xs ys : List (List ByteArray)) (hx : xs.length < 4294967296) (hxs : ∀ x ∈ xs, x.length < 4294967296) : Con Tryz.prog I0 35 [.row .strs xs, .row .strs ys] (.val (vb (sameP xs ys))) := by
 refine con_of Tryz.func35 rfl (Nat.le_of_ble_eq_true rfl) stab (fun w0 fz a hI hs => ?_)
 refine wNs hs hI [] 11 [] [(0, .row .strs xs), (1, .row .strs ys)] [] fun a w hs => ?_
 refine wp_seq ?_
 rcases bt ((xs.length : Int) != (ys.length : Int)) with b1 | b1
 have n1 := bne_iff_ne.1 b1
 refine wN hs hI (bz 1 1) 12172688 [q1 b1] .ret [(4, vb false)] [] fun a w hs => ?_
 refine then_ret ?_
 exact rK (.val (vb false)) [] hs (by simp only [sameP, ne_of' b1, Bool.false_and])
 have n1 := bne_eq_false_iff_eq.1 b1
 refine wN hs hI (bz 1 0) 72688 [q1 b1] .norm [(0, .row .strs xs), (1, .row .strs ys)] [] fun a w hs => ?_
 refine then_norm ?_
 refine wp_seq ?_
 refine wNs hs hI [] 11 [] [(0, .row .strs xs), (1, .row .strs ys), (5, vi 0)] [] fun a w hs => ?_
 refine wp_block ?_
 refine loop_L (N := Tryz.f35.ntmps) (w0 := w0) (ow := noO fz) (α := Nat) (fun p => [(0, .row .strs xs), (1, .row .strs ys), (5, vi (p : Int))]) (fun p => []) (fun p => p ≤ xs.length ∧ ∀ j, j < p → (sameS (xs.getD j (dflt .strs)) (ys.getD j (dflt .strs))) = true) (fun p => xs.length - p) 0 ?_ ?_ ?_
 exact ⟨Nat.zero_le _, fun j hj => absurd hj (Nat.not_lt_zero _)⟩
 exact hs.rk []
 rintro i hJ a w hs
 obtain ⟨hi, hall⟩ := hJ
 rcases bd ((i : Int) < (xs.length : Int)) with ⟨b2, n2⟩ | ⟨b2, n2⟩
 rcases bt (sameS (xs.getD i (dflt .strs)) (ys.getD i (dflt .strs))) with b3 | b3
 refine wL hs hI [(6, rc [(8, ciV 60 [rwS (xs.getD i (dflt .strs)), rwS (ys.getD i (dflt .strs))] (vb (sameS (xs.getD i (dflt .strs)) (ys.getD i (dflt .strs)))))])] (bz 2 1) 1719796604707097608 [q1 b2, q4 (i : Int) xs.length, q4 (i : Int) ys.length, q1 (ng1 b3), q3 ((i : Int) + 1)] .norm [(0, .row .strs xs), (1, .row .strs ys), (5, vi ((i : Int) + 1))] [] ⟨con60 _ _ (hxs _ (getD_mem (by omega) _)), tv⟩ fun a w hs => ?_
 refine then_norm ⟨i + 1, ⟨by omega, fun j hj => by rcases Nat.lt_succ_iff_lt_or_eq.1 hj with h | h; exact hall j h; subst h; exact b3⟩, by omega, ?_⟩
 exact hs.rk []
 refine wL hs hI [(6, rc [(8, ciV 60 [rwS (xs.getD i (dflt .strs)), rwS (ys.getD i (dflt .strs))] (vb (sameS (xs.getD i (dflt .strs)) (ys.getD i (dflt .strs)))))])] (bz 2 3) 121796604707097608 [q1 b2, q4 (i : Int) xs.length, q4 (i : Int) ys.length, q1 (ng0 b3)] .ret [(4, vb false)] [] ⟨con60 _ _ (hxs _ (getD_mem (by omega) _)), tv⟩ fun a w hs => ?_
 refine then_ret ?_
 refine inb_ret ?_
 refine then_ret ?_
 exact rK (.val (vb false)) [] hs (by simp only [sameP]; rw [ne_of b1, all_no (i := i) (by omega) (by exact b3)]; rfl)
 refine wN hs hI (bz 1 0) 7608 [q1 b2] (.exit 0) [] [] fun a w hs => ?_
 refine then_exit ?_
 refine inb_hit ?_
 refine then_norm ?_
 refine wN hs hI [] 120 [] .ret [(4, vb true)] [] fun a w hs => ?_
 exact rK (.val (vb true)) [] hs (by simp only [sameP]; rw [ne_of b1, lt_all (fun j hj => hall j (by omega))]; rfl)
theorem joinF_size (xs : List ByteArray) (sep : ByteArray) : (joinF xs sep).size ≤ (xs.map (·.size)).sum + xs.length * sep.size := by
 have h1 : (joinF xs sep).size = (Lib.join (xs.map (·.data.toList)) sep.data.toList).length := by simp [joinF, ByteArray.size]
 rw [h1]
 cases xs with
 | nil => simp [Lib.join_nil]
 | cons x r =>
  rw [List.map_cons, Lib.join_length]
  have h2 : Lib.lens (x.data.toList :: r.map (·.data.toList)) = ((x :: r).map (·.size)).sum := by
   show Lib.lens ((x :: r).map (·.data.toList)) = _
   unfold Lib.lens
   rw [List.map_map]
   exact congrArg List.sum (List.map_congr_left (fun y _ => (Lib.size_eq y).symm))
  have h3 : sep.data.toList.length = sep.size := (Lib.size_eq sep).symm
  rw [h2, h3, List.length_map, List.length_cons, Nat.add_mul, Nat.mul_comm sep.size]
  omega
theorem sum_le {xs : List ByteArray} {b : Nat} (h : ∀ x ∈ xs, x.size ≤ b) : (xs.map (·.size)).sum ≤ xs.length * b := by
 induction xs with
 | nil => simp
 | cons x r ih =>
  have h1 := h x (List.mem_cons_self ..)
  have h2 := ih (fun y hy => h y (List.mem_cons_of_mem _ hy))
  simp only [List.map_cons, List.sum_cons, List.length_cons, Nat.add_mul]; omega
theorem checkF_in {xs : List (List ByteArray)} (h : checkF xs = true) : xs.length ≤ 60 ∧ ∀ p ∈ xs, p.length ≤ 63 ∧ p ≠ [] ∧ ∀ n ∈ p, nameF n = true := by
 simp only [checkF, Bool.and_eq_true, decide_eq_true_eq, Bool.not_eq_true', List.any_eq_false] at h
 obtain ⟨h1, h2⟩ := h
 refine ⟨by omega, fun p hp => ?_⟩
 have h3 := h2 p hp
 simp only [badPath, Bool.or_eq_true, beq_iff_eq, decide_eq_true_eq, List.any_eq_true, not_or, not_exists, not_and] at h3
 refine ⟨by omega, fun e => h3.1 (by simp [e]), fun n hn => ?_⟩
 have := h3.2.2 n hn
 simpa using this
theorem nameF_size {s : ByteArray} (h : nameF s = true) : s.size ≤ 2000 := by
 simp only [nameF, Bool.and_eq_true, decide_eq_true_eq] at h
 omega
def dotF (p : List ByteArray) : ByteArray := joinF p (ba [46])
theorem path_join {p : List ByteArray} (h1 : p.length ≤ 63) (h2 : ∀ n ∈ p, nameF n = true) : (dotF p).size ≤ 126063 := by
 have h3 := joinF_size p (ba [46])
 have h4 := sum_le (b := 2000) (fun x hx => nameF_size (h2 x hx))
 have h5 : (ba [46]).size = 1 := rfl
 rw [h5] at h3
 unfold dotF; omega
theorem path_at {xs : List (List ByteArray)} {i : Nat} (h : checkF xs = true) (hi : i < xs.length) (d : List ByteArray) : (dotF (xs.getD i d)).size ≤ 126063 ∧ (xs.getD i d).length ≤ 63 := by
 obtain ⟨h1, _, h2⟩ := (checkF_in h).2 _ (getD_mem hi d)
 exact ⟨path_join h1 h2, h1⟩
def textF (xs : List (List ByteArray)) : ByteArray := if checkF xs = true then joinF (xs.map dotF) (ba [44]) else ba []
theorem text_join {xs : List (List ByteArray)} (h : checkF xs = true) : (joinF (xs.map dotF) (ba [44])).size ≤ 7563840 := by
 obtain ⟨h1, h2⟩ := checkF_in h
 have h3 := joinF_size (xs.map dotF) (ba [44])
 have h4 := sum_le (xs := xs.map dotF) (b := 126063) (fun x hx => by
  obtain ⟨p, hp, rfl⟩ := List.mem_map.1 hx
  exact path_join (h2 p hp).1 (h2 p hp).2.2)
 have h5 : (ba [44]).size = 1 := rfl
 rw [h5] at h3
 rw [List.length_map] at h3 h4
 omega
theorem con41 (xs : List (List ByteArray)) (hxs : ∀ x ∈ xs, smalls x) (hlen : xs.length < 4294967281) : Con Tryz.prog I0 41 [.row .strs xs] (.val (vs (textF xs))) := by
 refine con_of Tryz.func41 rfl (Nat.le_of_ble_eq_true rfl) stab (fun w0 fz a hI hs => ?_)
 refine wNs hs hI [] 11 [] [(0, .row .strs xs)] [] fun a w hs => ?_
 refine wp_seq ?_
 rcases bt (checkF xs) with b1 | b1
 refine wL hs hI [(1, rc [(1, ciV 39 [.row .strs xs] (vb (checkF xs)))])] (bz 1 0) 729041 [q1 (ng1 b1)] .norm [(0, .row .strs xs)] [] ⟨con39 _ hxs hlen, tv⟩ fun a w hs => ?_
 refine then_norm ?_
 refine wNs hs hI [] 11 [] [(0, .row .strs xs), (3, nilv)] [] fun a w hs => ?_
 refine wp_seq ?_
 refine wNs hs hI [] 18 [] [(3, nilv), (9, .row .strs xs), (10, vi (xs.length : Int)), (11, vi 0)] [] fun a w hs => ?_
 refine wp_block ?_
 have hck : checkF xs = true := b1
 have hxl := (checkF_in hck).1
 refine loop_L (N := Tryz.f41.ntmps) (w0 := w0) (ow := noO fz) (α := Nat) (fun p => [(3, .own 90000001), (9, .row .strs xs), (10, vi (xs.length : Int)), (11, vi (p : Int))]) (fun p => [(90000001, .sl 9 .str ((xs.take p).map dotF))]) (fun p => p ≤ xs.length) (fun p => xs.length - p) 0 ?_ ?_ ?_
 exact Nat.zero_le _
 (have hs := (hs.nil 10000002 3 9 .str (by kernel_rfl) (by decide) (by kernel_rfl) (by kernel_rfl)).rmT [(3, .own 10000002), (9, .row .strs xs), (10, vi (xs.length : Int)), (11, vi 0)] [(10000002, .sl 9 .str ([]))] [(10000002, 10000002)] (by kernel_rfl); exact (hs.cst [(3, .own 10000002), (9, .row .strs xs), (10, vi (xs.length : Int)), (11, vi ((0 : Nat) : Int))] [(10000002, .sl 9 .str ((xs.take 0).map dotF))] rfl).rk [(90000001, 10000002)])
 rintro i hJ a w hs
 have hl2 := take_map_len (f := dotF) hJ
 rcases bd ((i : Int) < (xs.length : Int)) with ⟨b2, n2⟩ | ⟨b2, n2⟩
 refine wL hs hI [(7, rc [(2, ciV 92 [rwS (xs.getD i (dflt .strs)), vs (ba [46])] (vs (dotF (xs.getD i (dflt .strs)))))])] (bz 1 1) 172961714029072720 [q1 b2, q4 (i : Int) xs.length, q7 (((xs.take i).map dotF).length) 1 16, q3 ((i : Int) + 1)] .norm [(3, .own 8004), (9, .row .strs xs), (10, vi (xs.length : Int)), (11, vi ((i : Int) + 1))] [(8004, .sl 9 .str (((xs.take i).map dotF) ++ ([dotF (xs.getD i (dflt .strs))])))] ⟨conJoin _ _ (Nat.le_trans (path_at hck (by omega) _).1 (by decide)) (Nat.le_trans (path_at hck (by omega) _).2 (by decide)), tv⟩ fun a w hs => ?_
 refine then_norm ⟨i + 1, by omega, by omega, ?_⟩
 (have e0_ : ((i : Int) + 1) = ((((i + 1) : Nat) : Int)) := (by first | rfl | (omega)); have e1_ : (((xs.take i).map dotF) ++ ([dotF (xs.getD i (dflt .strs))])) = ((xs.take (i + 1)).map dotF) := (by first | rfl | (exact take_map_succ (f := dotF) (by omega) _)); exact (hs.cst [(3, .own 8004), (9, .row .strs xs), (10, vi (xs.length : Int)), (11, vi (((i + 1) : Nat) : Int))] [(8004, .sl 9 .str ((xs.take (i + 1)).map dotF))] (by first | (rw [e0_, e1_]; done) | (simp only [e0_, e1_]; done) | rfl | (simp only [e0_, e1_]; rfl))).rk [(90000001, 8004)])
 have htk : (xs.take i).map dotF = xs.map dotF := by rw [List.take_of_length_le (by omega)]
 refine wN hs hI (bz 1 0) 720 [q1 b2] (.exit 0) [(3, .own 90000001)] [(90000001, .sl 9 .str ((xs.take i).map dotF))] fun a w hs => ?_
 refine then_exit ?_
 refine inb_hit ?_
 refine then_norm ?_
 refine wL hs hI [(9, rc [(1, ciA 92 [rwS ((xs.take i).map dotF), vs (ba [44])] [90000001] [] (.val (vs (joinF ((xs.take i).map dotF) (ba [44])))))])] [] 129041 [] .ret [(2, vs (joinF ((xs.take i).map dotF) (ba [44])))] [] ⟨conJoin _ _ (by rw [htk]; exact Nat.le_trans (text_join hck) (by decide)) (by rw [htk, List.length_map]; omega), tv⟩ fun a w hs => ?_
 exact rK (.val (vs (joinF ((xs.take i).map dotF) (ba [44])))) [] hs (by simp only [textF]; rw [if_pos hck, ← htk])
 refine wL hs hI [(1, rc [(1, ciV 39 [.row .strs xs] (vb (checkF xs)))])] (bz 1 1) 121729041 [q1 (ng0 b1)] .ret [(2, vs (ba []))] [] ⟨con39 _ hxs hlen, tv⟩ fun a w hs => ?_
 refine then_ret ?_
 exact rK (.val (vs (ba []))) [] hs (by simp only [textF]; rw [if_neg (by rw [b1]; decide)])
theorem td_in {v b : Int} (h : 0 ≤ v) (hb : 0 < b) : 0 ≤ v.tdiv b ∧ v.tdiv b ≤ v := ⟨Int.tdiv_nonneg h (by omega), Int.tdiv_le_self _ h⟩
section
variable {N : Nat} {w0 : World} {T : TL} {B : BL} {a : Act} {w : World}
theorem SimL.rowB {ow : Own} (hs : SimL N w0 ow T B a w) (b j : Nat) (τ : Ty) (l : List AV) (hb : lkp B b = some (.var l)) (hl : l[j]? = some nilv) : SimL N w0 ow T ((b, .var (l.set j (.row τ []))) :: B) a w := by
 obtain ⟨η, s⟩ := hs
 refine ⟨η, s.size, s.nod, s.frame, s.tmp, fun c X h => ?_, s.new, s.apart, s.pin, s.pinlt⟩
 rw [lkp] at h
 split at h
 rename_i he
 simp only [Option.some.injEq] at h
 subst h he
 obtain ⟨u, hu, hr⟩ := s.dom _ (.var l) hb
 obtain ⟨g, C, ee, rfl, q1, q2, q3⟩ := hr
 refine ⟨_, hu, g, C, ee, rfl, q1, by rw [List.length_set]; exact q2, fun i v x hv hx => ?_⟩
 rw [List.getElem?_set] at hx
 split at hx
 rename_i hij
 subst hij
 split at hx
 simp only [Option.some.injEq] at hx
 subst hx
 have hvn := (q3 j v _ hv hl).lit_inv
 rw [hvn]
 exact .row none 0 τ [] (fun _ _ => .bool false) (Nat.le_refl _) (Nat.zero_le _) (fun i x h => by simp at h) (fun i x j y h => by simp at h)
 cases hx
 exact q3 i v x hv hx
 exact s.dom c X h
end
def nul : Tree := .mk 1 false ⟨false, [], 0⟩ (ba []) [] []
def vM (l : List Int) : Int := placeF (l.getD 0 (dflt (.int .i64))) 1073741824
def kM (d v : Int) : Int := if d ≤ 0 ∧ 6 ≤ v.tmod 12 then v.tmod 12 - 6 else v.tmod 12
def cM (v : Int) : Nat := ((v.tdiv 12).tmod 4).toNat
def isNu (k : Int) : Bool := k == 2 || k == 3
def isA (k : Int) : Bool := k == 6 || (k == 7 || k == 8)
def txtM (v : Int) : ByteArray := (ba [97, 98, 99, 34, 92, 10, 195, 169, 122]).extract 0 (([0, 1, 2, 3, 4, 5, 6, 8, 9] : List Int).getD (((v.tdiv 12).tmod 9).toNat * 1) 0).toNat
def bytM (v : Int) : ByteArray := (ba [0, 255, 97, 98]).extract 0 ((v.tdiv 12).tmod 5).toNat
def names8 : List ByteArray := [(ba [97]), (ba [98]), (ba [99]), (ba [100, 100]), (ba [101]), (ba []), (ba [120, 47, 121]), (ba [122, 126])]
def nmM (v : Int) (i : Nat) : ByteArray := names8.getD (((v.tdiv 48) + 3 * (i : Int)).tmod 8).toNat (dflt .str)
def itA (f : List Int → Tree × List Int) : Nat → List Int → List Tree × List Int
 | 0, l => ([], l)
 | n + 1, l => ((itA f n l).1 ++ [(f (itA f n l).2).1], (f (itA f n l).2).2)
def itO (f : List Int → Tree × List Int) (v : Int) : Nat → List Int → Tree × List Int
 | 0, l => (.mk 7 false ⟨false, [], 0⟩ (ba []) [] [], l)
 | n + 1, l => (setT (itO f v n l).1 (nmM v n) (f (itO f v n l).2).1, (f (itO f v n l).2).2)
def madeV (f : List Int → Tree × List Int) (d v : Int) (l : List Int) : Tree × List Int :=
 if kM d v = 0 then (nul, l) else
 if kM d v = 1 then (.mk 2 ((v.tdiv 12).tmod 2 == 1) ⟨false, [], 0⟩ (ba []) [] [], l) else
 if isNu (kM d v) = true then (.mk 3 false (numberN (v.tdiv 12)) (ba []) [] [], l) else
 if kM d v = 4 then (.mk 4 false ⟨false, [], 0⟩ (txtM v) [] [], l) else
 if kM d v = 5 then (.mk 5 false ⟨false, [], 0⟩ (bytM v) [] [], l) else
 if isA (kM d v) = true then (.mk 6 false ⟨false, [], 0⟩ (ba []) [] (itA f (cM v) l).1, (itA f (cM v) l).2) else
 itO f v (cM v) l
def madeG (f : List Int → Tree × List Int) (d : Int) (l : List Int) : Tree × List Int :=
 if (l.length : Int) = 0 then (nul, []) else madeV f d (vM l) (l.drop 1)
def madeF : Nat → List Int → Tree × List Int
 | 0, l => madeG (fun _ => (nul, [])) 0 l
 | d + 1, l => madeG (madeF d) ((d + 1 : Nat) : Int) l
structure VF (v : Int) : Prop where
 r : 0 ≤ v ∧ v < 1073741824
 k : 0 ≤ v.tmod 12 ∧ v.tmod 12 < 12
 q : 0 ≤ v.tdiv 12 ∧ v.tdiv 12 < 1073741824
 q48 : 0 ≤ v.tdiv 48 ∧ v.tdiv 48 < 1073741824
 c : (v.tdiv 12).tmod 4 = ((cM v : Nat) : Int) ∧ cM v < 4
 m9 : 0 ≤ (v.tdiv 12).tmod 9 ∧ (v.tdiv 12).tmod 9 < 9
 m5 : 0 ≤ (v.tdiv 12).tmod 5 ∧ (v.tdiv 12).tmod 5 < 5
theorem tmn {a : Int} (h : 0 ≤ a) (k : Int) (hk : 0 < k) : 0 ≤ a.tmod k ∧ a.tmod k < k := ⟨Int.tmod_nonneg _ h, Int.tmod_lt_of_pos a hk⟩
theorem vM_in (l : List Int) : 0 ≤ vM l ∧ vM l < 1073741824 := placeF_in _ _ (by decide)
theorem vF_ok {v : Int} (h : 0 ≤ v ∧ v < 1073741824) : VF v := by
 have hq := td_in h.1 (b := 12) (by decide)
 have h48 := td_in h.1 (b := 48) (by decide)
 have h4 := tmn hq.1 4 (by decide)
 refine ⟨h, tmn h.1 12 (by decide), ⟨hq.1, by omega⟩, ⟨h48.1, by omega⟩, ?_, tmn hq.1 9 (by decide), tmn hq.1 5 (by decide)⟩
 unfold cM
 generalize (v.tdiv 12).tmod 4 = x at *
 omega
theorem kM_in {v : Int} (h : VF v) (d : Int) : 0 ≤ kM d v ∧ kM d v < 12 ∧ (d ≤ 0 → kM d v < 6) := by
 have := h.k
 unfold kM
 split <;> omega
theorem nm8 {v : Int} (h : VF v) (i : Nat) : 0 ≤ ((v.tdiv 48) + 3 * (i : Int)).tmod 8 ∧ ((v.tdiv 48) + 3 * (i : Int)).tmod 8 < 8 := tmn (by have := h.q48; omega) 8 (by decide)
theorem txt9 {v : Int} (h : VF v) : 0 ≤ ([0, 1, 2, 3, 4, 5, 6, 8, 9] : List Int).getD (((v.tdiv 12).tmod 9).toNat * 1) 0 ∧ ([0, 1, 2, 3, 4, 5, 6, 8, 9] : List Int).getD (((v.tdiv 12).tmod 9).toNat * 1) 0 ≤ 9 := by
 have h9 := h.m9
 generalize hx : ((v.tdiv 12).tmod 9).toNat * 1 = n
 have hn : n < 9 := by omega
 clear hx
 revert hn; revert n; decide
theorem dM_a {v : Int} (h : VF v) (d : Nat) (ha : isA (kM d v) = true) : 0 < d := by
 have := kM_in h d
 simp only [isA, Bool.or_eq_true, beq_iff_eq] at ha
 omega
theorem dM_o {v : Int} (h : VF v) (d : Nat) (h0 : kM d v ≠ 0) (h1 : kM d v ≠ 1) (h2 : isNu (kM d v) = false) (h4 : kM d v ≠ 4) (h5 : kM d v ≠ 5) : 0 < d := by
 have := kM_in h d
 simp only [isNu, Bool.or_eq_false_iff, beq_eq_false_iff_ne] at h2
 omega
theorem keys_ins (x : ByteArray) (v : Tree) (l : Mem) : (insA x v l).length ≤ l.length + 1 := by
 have h1 : ∀ l : Mem, (putA x v l).length = l.length + 1 := by
  intro l; induction l with
  | nil => rfl
  | cons p l ih => obtain ⟨y, u⟩ := p; simp only [putA]; split <;> simp [ih]
 have h2 : ∀ l : Mem, (repA x v l).length = l.length := by
  intro l; induction l with
  | nil => rfl
  | cons p l ih => obtain ⟨y, u⟩ := p; simp only [repA]; split <;> simp [ih]
 unfold insA
 split
 rw [h2]; omega
 rw [h1]; omega
theorem mems_le (t : Tree) : (mems t).length ≤ t.k.length := by
 by_cases hk : t.kind = 7
 rw [mems_len hk]; omega
 rw [mems_none hk]; exact Nat.zero_le _
theorem setT_len (t : Tree) (x : ByteArray) (v : Tree) : (setT t x v).k.length ≤ t.k.length + 1 ∧ (setT t x v).v.length ≤ t.k.length + 1 := by
 have h := keys_ins x v (mems t)
 have h2 := mems_le t
 show ((insA x v (mems t)).map (·.1)).length ≤ _ ∧ ((insA x v (mems t)).map (·.2)).length ≤ _
 rw [List.length_map, List.length_map]; omega
theorem itO_len (f : List Int → Tree × List Int) (v : Int) : ∀ (n : Nat) (l : List Int), (itO f v n l).1.k.length ≤ n ∧ (itO f v n l).1.v.length ≤ n
 | 0, l => ⟨Nat.le_refl _, Nat.le_refl _⟩
 | n + 1, l => by
  have ih := itO_len f v n l
  have h := setT_len (itO f v n l).1 (nmM v n) (f (itO f v n l).2).1
  show (setT (itO f v n l).1 (nmM v n) (f (itO f v n l).2).1).k.length ≤ n + 1 ∧ (setT (itO f v n l).1 (nmM v n) (f (itO f v n l).2).1).v.length ≤ n + 1
  omega
theorem itA_len (f : List Int → Tree × List Int) : ∀ (n : Nat) (l : List Int), (itA f n l).1.length = n
 | 0, l => rfl
 | n + 1, l => by simp [itA, itA_len f n l]
theorem con111  : Con Tryz.prog I0 111 [] (.own 9 .str names8) := by
 refine con_of Tryz.func111 rfl (Nat.le_of_ble_eq_true rfl) stab (fun w0 fz a hI hs => ?_)
 refine wN hs hI [] 19820 [] .ret [(0, .own 2000)] [(2000, .sl 9 .str ([(ba [97]), (ba [98]), (ba [99]), (ba [100, 100]), (ba [101]), (ba []), (ba [120, 47, 121]), (ba [122, 126])]))] fun a w hs => ?_
 exact FnQ_cast (out := .own 9 .str ([(ba [97]), (ba [98]), (ba [99]), (ba [100, 100]), (ba [101]), (ba []), (ba [120, 47, 121]), (ba [122, 126])])) (rfl) (ret_ok [] hs (.inl ⟨2000, by kernel_rfl, rfl⟩))
theorem con54_ (f : List Int → Tree × List Int) (d : Nat) (hd : d < 1000) (H : 0 < d → ∀ l : List Int, Con Tryz.prog I0 54 [.row (.int .i64) l, vi ((d : Nat) - 1)] (.val (.tup [.agg [vi (((f l).1).kind), vb (((f l).1).b), vb (((f l).1).n.neg), .row (.int .u32) (((f l).1).n.m), vi (((f l).1).n.e), vs (((f l).1).s), .row .str (((f l).1).k), .row .tree (((f l).1).v)], .row (.int .i64) (f l).2]))) (l : List Int) : Con Tryz.prog I0 54 [.row (.int .i64) l, vi (d : Int)] (.val (.tup [.agg (encTree ((madeG f d l).1)), .row (.int .i64) ((madeG f d l).2)])) := by
 have hV := vF_ok (vM_in l)
 have hv_ := hV.r
 have hk_ := hV.k
 have hq_ := hV.q
 have h48_ := hV.q48
 have hc_ := hV.c
 have h9_ := hV.m9
 have h5_ := hV.m5
 have hkk := kM_in hV (d : Int)
 have ht9 := txt9 hV
 have hs9 : (ba [97, 98, 99, 34, 92, 10, 195, 169, 122]).size = 9 := rfl
 have hs4 : (ba [0, 255, 97, 98]).size = 4 := rfl
 have hn8 : names8.length = 8 := rfl
 refine con_of Tryz.func54 rfl (Nat.le_of_ble_eq_true rfl) stab (fun w0 fz a hI hs => ?_)
 refine wNs hs hI [] 8 [] [(0, .row (.int .i64) l), (1, vi (d : Int)), (4, .ptr 1000 0)] [(1000, .var zTr)] fun a w hs => ?_
 refine wp_seq ?_
 rcases bq (l.length : Int) (0) with ⟨b1, n1⟩ | ⟨b1, n1⟩
 refine wN hs hI (bz 1 1) 129872918 [q1 b1] .ret [(4, .ptr 1000 0), (5, nilv)] [(1000, .var [vi 1, vb false, vb false, nilv, vi 0, vs (ba []), nilv, nilv])] fun a w hs => ?_
 refine then_ret ?_
 exact rK (.val (.tup [.agg [vi 1, vb false, vb false, rwU ([]), vi 0, vs (ba []), rwS ([]), rwT ([])], .row (.int .i64) ([])])) [] hs (by rw [madeG, if_pos (by omega)]; rfl)
 refine wN hs hI (bz 1 0) 72918 [q1 b1] .norm [(0, .row (.int .i64) l), (1, vi (d : Int)), (4, .ptr 1000 0)] [(1000, .var zTr)] fun a w hs => ?_
 refine then_norm ?_
 refine wLs hs hI [(3, rc [(3, ciV 17 [vi (l.getD 0 (dflt (.int .i64))), vi 1073741824] (vi (vM l)))])] [] 11471 [q4 (0 : Int) l.length] [(0, .row (.int .i64) l), (1, vi (d : Int)), (4, .ptr 1000 0), (6, vi (vM l))] [(1000, .var zTr)] ⟨con17 _ _ (by decide) (by decide), tv⟩ fun a w hs => ?_
 refine wNs hs hI [] 171 [⟨0 ≤ (1 : Int) ∧ (1 : Int) ≤ (l.length : Int) ∧ (l.length : Int) ≤ (l.length : Int) ∧ (l.length : Int) ≤ (l.length : Int), (by (repeat' apply And.intro) <;> (try split) <;> omega)⟩] [(0, .row (.int .i64) (l.drop 1)), (1, vi (d : Int)), (4, .ptr 1000 0), (6, vi (vM l))] [(1000, .var zTr)] fun a w hs => ?_
 refine wNs hs hI [] 171 [q6 12] [(0, .row (.int .i64) (l.drop 1)), (1, vi (d : Int)), (4, .ptr 1000 0), (6, vi (vM l)), (7, vi ((vM l).tmod 12))] [(1000, .var zTr)] fun a w hs => ?_
 refine wp_cut (N := Tryz.f54.ntmps) (w0 := w0) (ow := noO fz) (T := [(0, .row (.int .i64) (l.drop 1)), (1, vi (d : Int)), (4, .ptr 1000 0), (6, vi (vM l)), (7, vi (kM d (vM l)))]) (B := [(1000, .var zTr)]) (True) ?_ ?_
 rcases bd ((d : Int) ≤ 0) with ⟨b2, n2⟩ | ⟨b2, n2⟩
 rcases bd (((vM l).tmod 12) ≥ 6) with ⟨b3, n3⟩ | ⟨b3, n3⟩
 refine wL hs hI [(6, rg [] [3, 4, 1005] [])] (bz 1 1) 177667778 [q1 b2, q1 b2, q1 b2, q1 b3, q3 (((vM l).tmod 12) - 6)] .norm [(0, .row (.int .i64) (l.drop 1)), (1, vi (d : Int)), (4, .ptr 1000 0), (6, vi (vM l)), (7, vi (((vM l).tmod 12) - 6))] [(1000, .var zTr)] tv fun a w hs => ?_
 refine then_norm ⟨trivial, ?_⟩
 (have e0_ : (((vM l).tmod 12) - 6) = (kM d (vM l)) := (by first | rfl | (first | rfl | (unfold kM; rw [if_pos (by omega)]; done) | (unfold kM; rw [if_neg (by omega)]; done) | omega)); exact (hs.cst [(0, .row (.int .i64) (l.drop 1)), (1, vi (d : Int)), (4, .ptr 1000 0), (6, vi (vM l)), (7, vi (kM d (vM l)))] [(1000, .var zTr)] (by first | (rw [e0_]; done) | (simp only [e0_]; done) | rfl | (simp only [e0_]; rfl))).rk [(1000, 1000)])
 refine wL hs hI [(6, rg [] [3, 4, 1005] [])] (bz 1 0) 7667778 [q1 b2, q1 b2, q1 b2, q1 b3] .norm [(0, .row (.int .i64) (l.drop 1)), (1, vi (d : Int)), (4, .ptr 1000 0), (6, vi (vM l)), (7, vi ((vM l).tmod 12))] [(1000, .var zTr)] tv fun a w hs => ?_
 refine then_norm ⟨trivial, ?_⟩
 (have e0_ : ((vM l).tmod 12) = (kM d (vM l)) := (by first | rfl | (first | rfl | (unfold kM; rw [if_pos (by omega)]; done) | (unfold kM; rw [if_neg (by omega)]; done) | omega)); exact (hs.cst [(0, .row (.int .i64) (l.drop 1)), (1, vi (d : Int)), (4, .ptr 1000 0), (6, vi (vM l)), (7, vi (kM d (vM l)))] [(1000, .var zTr)] (by first | (rw [e0_]; done) | (simp only [e0_]; done) | rfl | (simp only [e0_]; rfl))).rk [(1000, 1000)])
 refine wL hs hI [(6, rg [] [] [3, 4, 1005])] (bz 1 0) 7967338 [q1 b2, q1 b2, q1 b2, q0 false] .norm [(0, .row (.int .i64) (l.drop 1)), (1, vi (d : Int)), (4, .ptr 1000 0), (6, vi (vM l)), (7, vi ((vM l).tmod 12))] [(1000, .var zTr)] tv fun a w hs => ?_
 refine then_norm ⟨trivial, ?_⟩
 (have e0_ : ((vM l).tmod 12) = (kM d (vM l)) := (by first | rfl | (first | rfl | (unfold kM; rw [if_pos (by omega)]; done) | (unfold kM; rw [if_neg (by omega)]; done) | omega)); exact (hs.cst [(0, .row (.int .i64) (l.drop 1)), (1, vi (d : Int)), (4, .ptr 1000 0), (6, vi (vM l)), (7, vi (kM d (vM l)))] [(1000, .var zTr)] (by first | (rw [e0_]; done) | (simp only [e0_]; done) | rfl | (simp only [e0_]; rfl))).rk [(1000, 1000)])
 intro hF a w hs
 refine wp_seq ?_
 refine wNs hs hI [] 11 [] [(0, .row (.int .i64) (l.drop 1)), (1, vi (d : Int)), (4, .ptr 1000 0), (6, vi (vM l)), (36, vi (kM d (vM l)))] [(1000, .var zTr)] fun a w hs => ?_
 refine wp_block ?_
 refine wNs hs hI [] 8 [] [(0, .row (.int .i64) (l.drop 1)), (1, vi (d : Int)), (4, .ptr 1000 0), (6, vi (vM l)), (36, vi (kM d (vM l))), (37, vb ((kM d (vM l)) == 0))] [(1000, .var zTr)] fun a w hs => ?_
 refine cond_L (c := 37) hs (b := (kM d (vM l)) == 0) rfl (fun hb => ?_) (fun hb => ?_)
 have b4 := hb
 clear hb
 have n4 := eq_of_beq b4
 refine wN hs hI [] 1608 [] .ret [(4, .ptr 1000 0), (5, .row (.int .i64) (l.drop 1))] [(1000, .var [vi 1, vb false, vb false, nilv, vi 0, vs (ba []), nilv, nilv])] fun a w hs => ?_
 refine inb_ret ?_
 refine then_ret ?_
 exact rK (.val (.tup [.agg [vi 1, vb false, vb false, rwU ([]), vi 0, vs (ba []), rwS ([]), rwT ([])], .row (.int .i64) (l.drop 1)])) [] hs (by rw [madeG, if_neg (by omega), madeV, if_pos (by first | omega | exact b4 | (rw [b4]; decide))]; try rfl)
 have b5 := hb
 clear hb
 have n5 := nB b5
 refine wNs hs hI [] 8 [] [(0, .row (.int .i64) (l.drop 1)), (1, vi (d : Int)), (4, .ptr 1000 0), (6, vi (vM l)), (36, vi (kM d (vM l))), (41, vb ((kM d (vM l)) == 1))] [(1000, .var zTr)] fun a w hs => ?_
 refine cond_L (c := 41) hs (b := (kM d (vM l)) == 1) rfl (fun hb => ?_) (fun hb => ?_)
 have b6 := hb
 clear hb
 have n6 := eq_of_beq b6
 refine wN hs hI [] 16608731 [q5 12 ((vM l).tdiv 12), q6 2] .ret [(4, .ptr 1000 0), (5, .row (.int .i64) (l.drop 1))] [(1000, .var [vi 2, vb ((((vM l).tdiv 12).tmod 2) == 1), vb false, nilv, vi 0, vs (ba []), nilv, nilv])] fun a w hs => ?_
 refine inb_ret ?_
 refine then_ret ?_
 exact rK (.val (.tup [.agg [vi 2, vb ((((vM l).tdiv 12).tmod 2) == 1), vb false, rwU ([]), vi 0, vs (ba []), rwS ([]), rwT ([])], .row (.int .i64) (l.drop 1)])) [] hs (by rw [madeG, if_neg (by omega), madeV, if_neg (by first | omega | exact b5 | (rw [b5]; decide)), if_pos (by first | omega | exact b6 | (rw [b6]; decide))]; try rfl)
 have b7 := hb
 clear hb
 have n7 := nB b7
 refine wp_cut (N := Tryz.f54.ntmps) (w0 := w0) (ow := noO fz) (T := [(0, .row (.int .i64) (l.drop 1)), (1, vi (d : Int)), (4, .ptr 1000 0), (6, vi (vM l)), (36, vi (kM d (vM l))), (49, vb (isNu (kM d (vM l))))]) (B := [(1000, .var zTr)]) (True) ?_ ?_
 rcases bq (kM d (vM l)) (2) with ⟨b8, n8⟩ | ⟨b8, n8⟩
 refine wN hs hI (bz 1 1) 798 [q1 b8] .norm [(0, .row (.int .i64) (l.drop 1)), (1, vi (d : Int)), (4, .ptr 1000 0), (6, vi (vM l)), (36, vi (kM d (vM l))), (49, vb ((kM d (vM l)) == 2))] [(1000, .var zTr)] fun a w hs => ?_
 refine then_norm ⟨trivial, ?_⟩
 (have e0_ : ((kM d (vM l)) == 2) = (isNu (kM d (vM l))) := (by first | rfl | (simp only [isNu, b5, b7, b8]; rfl)); exact (hs.cst [(0, .row (.int .i64) (l.drop 1)), (1, vi (d : Int)), (4, .ptr 1000 0), (6, vi (vM l)), (36, vi (kM d (vM l))), (49, vb (isNu (kM d (vM l))))] [(1000, .var zTr)] (by first | (rw [e0_]; done) | (simp only [e0_]; done) | rfl | (simp only [e0_]; rfl))).rk [(1000, 1000)])
 refine wN hs hI (bz 1 0) 11798 [q1 b8] .norm [(0, .row (.int .i64) (l.drop 1)), (1, vi (d : Int)), (4, .ptr 1000 0), (6, vi (vM l)), (36, vi (kM d (vM l))), (49, vb ((kM d (vM l)) == 3))] [(1000, .var zTr)] fun a w hs => ?_
 refine then_norm ⟨trivial, ?_⟩
 (have e0_ : ((kM d (vM l)) == 3) = (isNu (kM d (vM l))) := (by first | rfl | (simp only [isNu, b5, b7, b8]; rfl)); exact (hs.cst [(0, .row (.int .i64) (l.drop 1)), (1, vi (d : Int)), (4, .ptr 1000 0), (6, vi (vM l)), (36, vi (kM d (vM l))), (49, vb (isNu (kM d (vM l))))] [(1000, .var zTr)] (by first | (rw [e0_]; done) | (simp only [e0_]; done) | rfl | (simp only [e0_]; rfl))).rk [(1000, 1000)])
 intro hF a w hs
 refine cond_L (c := 49) hs (b := isNu (kM d (vM l))) rfl (fun hb => ?_) (fun hb => ?_)
 have b9 := hb
 clear hb
 refine wL hs hI [(15, rc [(2, ciV 110 [vi ((vM l).tdiv 12)] (.agg [vb ((numberN ((vM l).tdiv 12)).neg), rwU ((numberN ((vM l).tdiv 12)).m), vi ((numberN ((vM l).tdiv 12)).e)]))])] [] 129608431 [q5 12 ((vM l).tdiv 12)] .ret [(4, .ptr 1000 0), (5, .row (.int .i64) (l.drop 1))] [(1000, .var [vi 3, vb false, vb ((numberN ((vM l).tdiv 12)).neg), rwU ((numberN ((vM l).tdiv 12)).m), vi ((numberN ((vM l).tdiv 12)).e), vs (ba []), nilv, nilv])] ⟨con110 _ (by omega), tv⟩ fun a w hs => ?_
 refine inb_ret ?_
 refine then_ret ?_
 exact rK (.val (.tup [.agg [vi 3, vb false, vb ((numberN ((vM l).tdiv 12)).neg), rwU ((numberN ((vM l).tdiv 12)).m), vi ((numberN ((vM l).tdiv 12)).e), vs (ba []), rwS ([]), rwT ([])], .row (.int .i64) (l.drop 1)])) [] hs (by rw [madeG, if_neg (by omega), madeV, if_neg (by first | omega | exact b5 | (rw [b5]; decide)), if_neg (by first | omega | exact b7 | (rw [b7]; decide)), if_pos (by first | omega | exact b9 | (rw [b9]; decide))]; try rfl)
 have b10 := hb
 clear hb
 refine wNs hs hI [] 8 [] [(0, .row (.int .i64) (l.drop 1)), (1, vi (d : Int)), (4, .ptr 1000 0), (6, vi (vM l)), (36, vi (kM d (vM l))), (57, vb ((kM d (vM l)) == 4))] [(1000, .var zTr)] fun a w hs => ?_
 refine cond_L (c := 57) hs (b := (kM d (vM l)) == 4) rfl (fun hb => ?_) (fun hb => ?_)
 have b11 := hb
 clear hb
 have n11 := eq_of_beq b11
 refine wN hs hI [] 19661873330 [q5 12 ((vM l).tdiv 12), q6 9, q2 ((0 ≤ (((vM l).tdiv 12).tmod 9) ∧ (((vM l).tdiv 12).tmod 9) < (9 : Nat)) ∧ (((vM l).tdiv 12).tmod 9).toNat * 1 < 9), ⟨0 ≤ (0 : Int) ∧ (0 : Int) ≤ (([0, 1, 2, 3, 4, 5, 6, 8, 9] : List Int).getD ((((vM l).tdiv 12).tmod 9).toNat * 1) 0) ∧ (([0, 1, 2, 3, 4, 5, 6, 8, 9] : List Int).getD ((((vM l).tdiv 12).tmod 9).toNat * 1) 0) ≤ ((ba [97, 98, 99, 34, 92, 10, 195, 169, 122]).size : Int), (by (repeat' apply And.intro) <;> (try split) <;> omega)⟩] .ret [(4, .ptr 1000 0), (5, .row (.int .i64) (l.drop 1))] [(1000, .var [vi 4, vb false, vb false, nilv, vi 0, vs ((ba [97, 98, 99, 34, 92, 10, 195, 169, 122]).extract 0 (([0, 1, 2, 3, 4, 5, 6, 8, 9] : List Int).getD ((((vM l).tdiv 12).tmod 9).toNat * 1) 0).toNat), nilv, nilv])] fun a w hs => ?_
 refine inb_ret ?_
 refine then_ret ?_
 exact rK (.val (.tup [.agg [vi 4, vb false, vb false, rwU ([]), vi 0, vs ((ba [97, 98, 99, 34, 92, 10, 195, 169, 122]).extract 0 (([0, 1, 2, 3, 4, 5, 6, 8, 9] : List Int).getD ((((vM l).tdiv 12).tmod 9).toNat * 1) 0).toNat), rwS ([]), rwT ([])], .row (.int .i64) (l.drop 1)])) [] hs (by rw [madeG, if_neg (by omega), madeV, if_neg (by first | omega | exact b5 | (rw [b5]; decide)), if_neg (by first | omega | exact b7 | (rw [b7]; decide)), if_neg (by first | omega | exact b10 | (rw [b10]; decide)), if_pos (by first | omega | exact b11 | (rw [b11]; decide))]; try rfl)
 have b12 := hb
 clear hb
 have n12 := nB b12
 refine wNs hs hI [] 8 [] [(0, .row (.int .i64) (l.drop 1)), (1, vi (d : Int)), (4, .ptr 1000 0), (6, vi (vM l)), (36, vi (kM d (vM l))), (67, vb ((kM d (vM l)) == 5))] [(1000, .var zTr)] fun a w hs => ?_
 refine cond_L (c := 67) hs (b := (kM d (vM l)) == 5) rfl (fun hb => ?_) (fun hb => ?_)
 have b13 := hb
 clear hb
 have n13 := eq_of_beq b13
 refine wN hs hI [] 166187331 [q5 12 ((vM l).tdiv 12), q6 5, ⟨0 ≤ (0 : Int) ∧ (0 : Int) ≤ (((vM l).tdiv 12).tmod 5) ∧ (((vM l).tdiv 12).tmod 5) ≤ ((ba [0, 255, 97, 98]).size : Int), (by (repeat' apply And.intro) <;> (try split) <;> omega)⟩] .ret [(4, .ptr 1000 0), (5, .row (.int .i64) (l.drop 1))] [(1000, .var [vi 5, vb false, vb false, nilv, vi 0, vs ((ba [0, 255, 97, 98]).extract 0 (((vM l).tdiv 12).tmod 5).toNat), nilv, nilv])] fun a w hs => ?_
 refine inb_ret ?_
 refine then_ret ?_
 exact rK (.val (.tup [.agg [vi 5, vb false, vb false, rwU ([]), vi 0, vs ((ba [0, 255, 97, 98]).extract 0 (((vM l).tdiv 12).tmod 5).toNat), rwS ([]), rwT ([])], .row (.int .i64) (l.drop 1)])) [] hs (by rw [madeG, if_neg (by omega), madeV, if_neg (by first | omega | exact b5 | (rw [b5]; decide)), if_neg (by first | omega | exact b7 | (rw [b7]; decide)), if_neg (by first | omega | exact b10 | (rw [b10]; decide)), if_neg (by first | omega | exact b12 | (rw [b12]; decide)), if_pos (by first | omega | exact b13 | (rw [b13]; decide))]; try rfl)
 have b14 := hb
 clear hb
 have n14 := nB b14
 refine wp_cut (N := Tryz.f54.ntmps) (w0 := w0) (ow := noO fz) (T := [(0, .row (.int .i64) (l.drop 1)), (1, vi (d : Int)), (4, .ptr 1000 0), (6, vi (vM l)), (75, vb (isA (kM d (vM l))))]) (B := [(1000, .var zTr)]) (True) ?_ ?_
 rcases bq (kM d (vM l)) (6) with ⟨b15, n15⟩ | ⟨b15, n15⟩
 refine wN hs hI (bz 1 1) 798 [q1 b15] .norm [(0, .row (.int .i64) (l.drop 1)), (1, vi (d : Int)), (4, .ptr 1000 0), (6, vi (vM l)), (75, vb ((kM d (vM l)) == 6))] [(1000, .var zTr)] fun a w hs => ?_
 refine then_norm ⟨trivial, ?_⟩
 (have e0_ : ((kM d (vM l)) == 6) = (isA (kM d (vM l))) := (by first | rfl | (simp only [isA, b5, b7, b10, b12, b14, b15]; rfl)); exact (hs.cst [(0, .row (.int .i64) (l.drop 1)), (1, vi (d : Int)), (4, .ptr 1000 0), (6, vi (vM l)), (75, vb (isA (kM d (vM l))))] [(1000, .var zTr)] (by first | (rw [e0_]; done) | (simp only [e0_]; done) | rfl | (simp only [e0_]; rfl))).rk [(1000, 1000)])
 rcases bq (kM d (vM l)) (7) with ⟨b16, n16⟩ | ⟨b16, n16⟩
 refine wN hs hI (bz 2 2) 790798 [q1 b15, q1 b16] .norm [(0, .row (.int .i64) (l.drop 1)), (1, vi (d : Int)), (4, .ptr 1000 0), (6, vi (vM l)), (75, vb ((kM d (vM l)) == 7))] [(1000, .var zTr)] fun a w hs => ?_
 refine then_norm ⟨trivial, ?_⟩
 (have e0_ : ((kM d (vM l)) == 7) = (isA (kM d (vM l))) := (by first | rfl | (simp only [isA, b5, b7, b10, b12, b14, b15, b16]; rfl)); exact (hs.cst [(0, .row (.int .i64) (l.drop 1)), (1, vi (d : Int)), (4, .ptr 1000 0), (6, vi (vM l)), (75, vb (isA (kM d (vM l))))] [(1000, .var zTr)] (by first | (rw [e0_]; done) | (simp only [e0_]; done) | rfl | (simp only [e0_]; rfl))).rk [(1000, 1000)])
 refine wN hs hI (bz 2 0) 11790798 [q1 b15, q1 b16] .norm [(0, .row (.int .i64) (l.drop 1)), (1, vi (d : Int)), (4, .ptr 1000 0), (6, vi (vM l)), (75, vb ((kM d (vM l)) == 8))] [(1000, .var zTr)] fun a w hs => ?_
 refine then_norm ⟨trivial, ?_⟩
 (have e0_ : ((kM d (vM l)) == 8) = (isA (kM d (vM l))) := (by first | rfl | (simp only [isA, b5, b7, b10, b12, b14, b15, b16]; rfl)); exact (hs.cst [(0, .row (.int .i64) (l.drop 1)), (1, vi (d : Int)), (4, .ptr 1000 0), (6, vi (vM l)), (75, vb (isA (kM d (vM l))))] [(1000, .var zTr)] (by first | (rw [e0_]; done) | (simp only [e0_]; done) | rfl | (simp only [e0_]; rfl))).rk [(1000, 1000)])
 intro hF a w hs
 refine cond_L (c := 75) hs (b := isA (kM d (vM l))) rfl (fun hb => ?_) (fun hb => ?_)
 have b17 := hb
 clear hb
 have hd_ : 0 < d := dM_a hV d (by assumption)
 refine wNs hs hI [] 18 [] [(0, .row (.int .i64) (l.drop 1)), (1, vi (d : Int)), (4, .ptr 1000 0), (6, vi (vM l)), (8, .ptr 24001 0)] [(1000, .var zTr), (24001, .var [vi 6, vb false, vb false, nilv, vi 0, vs (ba []), nilv, nilv])] fun a w hs => ?_
 refine wp_seq ?_
 refine wNs hs hI [] 11 [] [(0, .row (.int .i64) (l.drop 1)), (1, vi (d : Int)), (4, .ptr 1000 0), (6, vi (vM l)), (8, .ptr 24001 0), (9, vi 0)] [(1000, .var zTr), (24001, .var [vi 6, vb false, vb false, nilv, vi 0, vs (ba []), nilv, nilv])] fun a w hs => ?_
 refine wp_block ?_
 refine loop_L (N := Tryz.f54.ntmps) (w0 := w0) (ow := noO fz) (α := Nat) (fun p => [(0, .row (.int .i64) ((itA f p (l.drop 1)).2)), (1, vi (d : Int)), (4, .ptr 1000 0), (6, vi (vM l)), (8, .ptr 90000001 0), (9, vi (p : Int))]) (fun p => [(1000, .var zTr), (90000001, .var [vi 6, vb false, vb false, nilv, vi 0, vs (ba []), nilv, .own 90000002]), (90000002, .sl 29 .tree ((itA f p (l.drop 1)).1))]) (fun p => p ≤ cM (vM l)) (fun p => cM (vM l) - p) 0 ?_ ?_ ?_
 exact Nat.zero_le _
 (have hs := (hs.nilB 10000005 24001 7 29 .tree [vi 6, vb false, vb false, nilv, vi 0, vs (ba []), nilv, nilv] (by kernel_rfl) (by kernel_rfl) (by decide) (by decide) (by kernel_rfl) (by kernel_rfl)).rmT [(0, .row (.int .i64) (l.drop 1)), (1, vi (d : Int)), (4, .ptr 1000 0), (6, vi (vM l)), (8, .ptr 24001 0), (9, vi 0)] [(1000, .var zTr), (24001, .var [vi 6, vb false, vb false, nilv, vi 0, vs (ba []), nilv, .own 10000005]), (10000005, .sl 29 .tree ([]))] [(1000, 1000), (24001, 24001), (10000005, 10000005)] (by kernel_rfl); exact (hs.cst [(0, .row (.int .i64) ((itA f 0 (l.drop 1)).2)), (1, vi (d : Int)), (4, .ptr 1000 0), (6, vi (vM l)), (8, .ptr 24001 0), (9, vi ((0 : Nat) : Int))] [(1000, .var zTr), (24001, .var [vi 6, vb false, vb false, nilv, vi 0, vs (ba []), nilv, .own 10000005]), (10000005, .sl 29 .tree ((itA f 0 (l.drop 1)).1))] rfl).rk [(1000, 1000), (90000001, 24001), (90000002, 10000005)])
 rintro i hJ a w hs
 have hal := itA_len f i (l.drop 1)
 rcases bd ((i : Int) < (((vM l).tdiv 12).tmod 4)) with ⟨b18, n18⟩ | ⟨b18, n18⟩
 refine wL hs hI [(27, rc [(3, ciV 54 [.row (.int .i64) ((itA f i (l.drop 1)).2), vi ((d : Int) - 1)] (.tup [aTr (((f ((itA f i (l.drop 1)).2)).1)), .row (.int .i64) ((f ((itA f i (l.drop 1)).2)).2)]))])] (bz 1 1) 17168296071896618843097261730 [q5 12 ((vM l).tdiv 12), q6 4, q1 b18, q3 ((d : Int) - 1), q7 (((itA f i (l.drop 1)).1).length) 1 120, q3 ((i : Int) + 1)] .norm [(0, .row (.int .i64) ((f ((itA f i (l.drop 1)).2)).2)), (1, vi (d : Int)), (4, .ptr 1000 0), (6, vi (vM l)), (8, .ptr 90000001 0), (9, vi ((i : Int) + 1))] [(1000, .var zTr), (29004, .sl 29 .tree (((itA f i (l.drop 1)).1) ++ ([(Tree.et ((f ((itA f i (l.drop 1)).2)).1))]))), (90000001, .var [vi 6, vb false, vb false, nilv, vi 0, vs (ba []), nilv, .own 29004])] ⟨H (by omega) _, tv⟩ fun a w hs => ?_
 refine then_norm ⟨i + 1, by omega, by omega, ?_⟩
 (have e0_ : ((f ((itA f i (l.drop 1)).2)).2) = ((itA f (i + 1) (l.drop 1)).2) := (by first | rfl | (first | omega | rfl | (simp only [itA, Tree.eta']; done) | (simp only [itA, Tree.eta']; rfl))); have e1_ : ((i : Int) + 1) = ((((i + 1) : Nat) : Int)) := (by first | rfl | (first | omega | rfl | (simp only [itA, Tree.eta']; done) | (simp only [itA, Tree.eta']; rfl))); have e2_ : (((itA f i (l.drop 1)).1) ++ ([(Tree.et ((f ((itA f i (l.drop 1)).2)).1))])) = ((itA f (i + 1) (l.drop 1)).1) := (by first | rfl | (first | omega | rfl | (simp only [itA, Tree.eta']; done) | (simp only [itA, Tree.eta']; rfl))); exact (hs.cst [(0, .row (.int .i64) ((itA f (i + 1) (l.drop 1)).2)), (1, vi (d : Int)), (4, .ptr 1000 0), (6, vi (vM l)), (8, .ptr 90000001 0), (9, vi (((i + 1) : Nat) : Int))] [(1000, .var zTr), (29004, .sl 29 .tree ((itA f (i + 1) (l.drop 1)).1)), (90000001, .var [vi 6, vb false, vb false, nilv, vi 0, vs (ba []), nilv, .own 29004])] (by first | (rw [e0_, e1_, e2_]; done) | (simp only [e0_, e1_, e2_]; done) | rfl | (simp only [e0_, e1_, e2_]; rfl))).rk [(1000, 1000), (90000001, 90000001), (90000002, 29004)])
 refine wN hs hI (bz 1 0) 7261730 [q5 12 ((vM l).tdiv 12), q6 4, q1 b18] (.exit 1) [(0, .row (.int .i64) ((itA f i (l.drop 1)).2)), (4, .ptr 1000 0), (8, .ptr 90000001 0)] [(1000, .var zTr), (90000001, .var [vi 6, vb false, vb false, nilv, vi 0, vs (ba []), nilv, .own 90000002]), (90000002, .sl 29 .tree ((itA f i (l.drop 1)).1))] fun a w hs => ?_
 refine then_exit ?_
 refine inb_hit ?_
 refine then_norm ?_
 refine wN hs hI [] 1608 [] .ret [(4, .ptr 1000 0), (5, .row (.int .i64) ((itA f i (l.drop 1)).2))] [(1000, .var [vi 6, vb false, vb false, nilv, vi 0, vs (ba []), nilv, .own 90000002]), (90000002, .sl 29 .tree ((itA f i (l.drop 1)).1))] fun a w hs => ?_
 refine inb_ret ?_
 refine then_ret ?_
 exact rK (.val (.tup [.agg [vi 6, vb false, vb false, rwU ([]), vi 0, vs (ba []), rwS ([]), rwT ((itA f i (l.drop 1)).1)], .row (.int .i64) ((itA f i (l.drop 1)).2)])) [90000002] hs (by obtain rfl : i = cM (vM l) := (by omega); rw [madeG, if_neg (by omega), madeV, if_neg (by first | omega | exact b5 | (rw [b5]; decide)), if_neg (by first | omega | exact b7 | (rw [b7]; decide)), if_neg (by first | omega | exact b10 | (rw [b10]; decide)), if_neg (by first | omega | exact b12 | (rw [b12]; decide)), if_neg (by first | omega | exact b14 | (rw [b14]; decide)), if_pos (by first | omega | exact b17 | (rw [b17]; decide))]; try rfl)
 have b19 := hb
 clear hb
 have hd_ : 0 < d := dM_o hV d (by omega) (by omega) (by assumption) (by omega) (by omega)
 refine wN hs hI [] 1 [] .norm [(0, .row (.int .i64) (l.drop 1)), (1, vi (d : Int)), (4, .ptr 1000 0), (6, vi (vM l))] [(1000, .var zTr)] fun a w hs => ?_
 refine inb_norm ?_
 refine then_norm ?_
 refine wNs hs hI [] 18 [] [(0, .row (.int .i64) (l.drop 1)), (1, vi (d : Int)), (4, .ptr 1000 0), (6, vi (vM l)), (12, .ptr 32001 0)] [(1000, .var zTr), (32001, .var [vi 7, vb false, vb false, nilv, vi 0, vs (ba []), nilv, nilv])] fun a w hs => ?_
 refine wp_seq ?_
 refine wNs hs hI [] 11 [] [(0, .row (.int .i64) (l.drop 1)), (1, vi (d : Int)), (4, .ptr 1000 0), (6, vi (vM l)), (12, .ptr 32001 0), (13, vi 0)] [(1000, .var zTr), (32001, .var [vi 7, vb false, vb false, nilv, vi 0, vs (ba []), nilv, nilv])] fun a w hs => ?_
 refine wp_block ?_
 refine loop_L (N := Tryz.f54.ntmps) (w0 := w0) (ow := noO fz) (α := Nat) (fun p => [(0, .row (.int .i64) ((itO f (vM l) p (l.drop 1)).2)), (1, vi (d : Int)), (4, .ptr 1000 0), (6, vi (vM l)), (12, .ptr 90000003 0), (13, vi (p : Int))]) (fun p => [(1000, .var zTr), (90000003, bTr (((itO f (vM l) p (l.drop 1)).1)))]) (fun p => p ≤ cM (vM l)) (fun p => cM (vM l) - p) 0 ?_ ?_ ?_
 exact Nat.zero_le _
 (have hs := (((hs.rowB 32001 3 (.int .u32) [vi 7, vb false, vb false, nilv, vi 0, vs (ba []), nilv, nilv] (by kernel_rfl) (by kernel_rfl)).rowB 32001 6 .str [vi 7, vb false, vb false, rwU ([]), vi 0, vs (ba []), nilv, nilv] (by kernel_rfl) (by kernel_rfl)).rowB 32001 7 .tree [vi 7, vb false, vb false, rwU ([]), vi 0, vs (ba []), rwS ([]), nilv] (by kernel_rfl) (by kernel_rfl)).rmT [(0, .row (.int .i64) (l.drop 1)), (1, vi (d : Int)), (4, .ptr 1000 0), (6, vi (vM l)), (12, .ptr 32001 0), (13, vi 0)] [(1000, .var zTr), (32001, .var [vi 7, vb false, vb false, rwU ([]), vi 0, vs (ba []), rwS ([]), rwT ([])])] [(1000, 1000), (32001, 32001)] (by kernel_rfl); exact (hs.cst [(0, .row (.int .i64) ((itO f (vM l) 0 (l.drop 1)).2)), (1, vi (d : Int)), (4, .ptr 1000 0), (6, vi (vM l)), (12, .ptr 32001 0), (13, vi ((0 : Nat) : Int))] [(1000, .var zTr), (32001, bTr (((itO f (vM l) 0 (l.drop 1)).1)))] rfl).rk [(1000, 1000), (90000003, 32001)])
 rintro i hJ a w hs
 have hn_ := nm8 hV i
 rcases bd ((i : Int) < (((vM l).tdiv 12).tmod 4)) with ⟨b20, n20⟩ | ⟨b20, n20⟩
 refine wL hs hI [(35, rc [(3, ciV 54 [.row (.int .i64) ((itO f (vM l) i (l.drop 1)).2), vi ((d : Int) - 1)] (.tup [aTr (((f ((itO f (vM l) i (l.drop 1)).2)).1)), .row (.int .i64) ((f ((itO f (vM l) i (l.drop 1)).2)).2)]))]), (36, rc [(1, ciV 111 [] (rwS names8)), (11, ciV 22 [aTr (((itO f (vM l) i (l.drop 1)).1)), vs (names8.getD (((((vM l).tdiv 48) + (3 * (i : Int))).tmod 8).toNat) (dflt .str)), aTr (((f ((itO f (vM l) i (l.drop 1)).2)).1))] (aTr ((setT ((itO f (vM l) i (l.drop 1)).1) (names8.getD (((((vM l).tdiv 48) + (3 * (i : Int))).tmod 8).toNat) (dflt .str)) ((f ((itO f (vM l) i (l.drop 1)).2)).1)))))])] (bz 1 1) 1716826660417333714196618843097261730 [q5 12 ((vM l).tdiv 12), q6 4, q1 b20, q3 ((d : Int) - 1), q5 48 ((vM l).tdiv 48), q3 (3 * (i : Int)), q3 (((vM l).tdiv 48) + (3 * (i : Int))), q6 8, q4 ((((vM l).tdiv 48) + (3 * (i : Int))).tmod 8) names8.length, q3 ((i : Int) + 1)] .norm [(0, .row (.int .i64) ((f ((itO f (vM l) i (l.drop 1)).2)).2)), (1, vi (d : Int)), (4, .ptr 1000 0), (6, vi (vM l)), (12, .ptr 90000003 0), (13, vi ((i : Int) + 1))] [(1000, .var zTr), (90000003, bTr ((setT ((itO f (vM l) i (l.drop 1)).1) (names8.getD (((((vM l).tdiv 48) + (3 * (i : Int))).tmod 8).toNat) (dflt .str)) ((f ((itO f (vM l) i (l.drop 1)).2)).1))))] ⟨H (by omega) _, con111.frz, con22 _ _ _ (by have := itO_len f (vM l) i (l.drop 1); omega), tv⟩ fun a w hs => ?_
 refine then_norm ⟨i + 1, by omega, by omega, ?_⟩
 (have e0_ : ((f ((itO f (vM l) i (l.drop 1)).2)).2) = ((itO f (vM l) (i + 1) (l.drop 1)).2) := (by first | rfl | (first | omega | rfl | (simp only [itO, Tree.eta']; done) | (simp only [itO, Tree.eta']; rfl))); have e1_ : ((i : Int) + 1) = ((((i + 1) : Nat) : Int)) := (by first | rfl | (first | omega | rfl | (simp only [itO, Tree.eta']; done) | (simp only [itO, Tree.eta']; rfl))); have e2_ : ((setT ((itO f (vM l) i (l.drop 1)).1) (names8.getD (((((vM l).tdiv 48) + (3 * (i : Int))).tmod 8).toNat) (dflt .str)) ((f ((itO f (vM l) i (l.drop 1)).2)).1))) = (((itO f (vM l) (i + 1) (l.drop 1)).1)) := (by first | rfl | (first | omega | rfl | (simp only [itO, Tree.eta']; done) | (simp only [itO, Tree.eta']; rfl))); exact (hs.cst [(0, .row (.int .i64) ((itO f (vM l) (i + 1) (l.drop 1)).2)), (1, vi (d : Int)), (4, .ptr 1000 0), (6, vi (vM l)), (12, .ptr 90000003 0), (13, vi (((i + 1) : Nat) : Int))] [(1000, .var zTr), (90000003, bTr (((itO f (vM l) (i + 1) (l.drop 1)).1)))] (by first | (rw [e0_, e1_, e2_]; done) | (simp only [e0_, e1_, e2_]; done) | rfl | (simp only [e0_, e1_, e2_]; rfl))).rk [(1000, 1000), (90000003, 90000003)])
 refine wN hs hI (bz 1 0) 7261730 [q5 12 ((vM l).tdiv 12), q6 4, q1 b20] (.exit 3) [(0, .row (.int .i64) ((itO f (vM l) i (l.drop 1)).2)), (4, .ptr 1000 0), (12, .ptr 90000003 0)] [(1000, .var zTr), (90000003, bTr (((itO f (vM l) i (l.drop 1)).1)))] fun a w hs => ?_
 refine then_exit ?_
 refine inb_hit ?_
 refine then_norm ?_
 refine wN hs hI [] 1608 [] .ret [(4, .ptr 1000 0), (5, .row (.int .i64) ((itO f (vM l) i (l.drop 1)).2))] [(1000, bTr (((itO f (vM l) i (l.drop 1)).1)))] fun a w hs => ?_
 exact rK (.val (.tup [aTr (((itO f (vM l) i (l.drop 1)).1)), .row (.int .i64) ((itO f (vM l) i (l.drop 1)).2)])) [] hs (by obtain rfl : i = cM (vM l) := (by omega); rw [madeG, if_neg (by omega), madeV, if_neg (by first | omega | exact b5 | (rw [b5]; decide)), if_neg (by first | omega | exact b7 | (rw [b7]; decide)), if_neg (by first | omega | exact b10 | (rw [b10]; decide)), if_neg (by first | omega | exact b12 | (rw [b12]; decide)), if_neg (by first | omega | exact b14 | (rw [b14]; decide)), if_neg (by first | omega | exact b19 | (rw [b19]; decide))]; try rfl)
theorem con54 : ∀ (d : Nat) (hd : d < 1000) (l : List Int), Con Tryz.prog I0 54 [.row (.int .i64) l, vi (d : Int)] (.val (.tup [.agg [vi (((madeF d l).1).kind), vb (((madeF d l).1).b), vb (((madeF d l).1).n.neg), .row (.int .u32) (((madeF d l).1).n.m), vi (((madeF d l).1).n.e), vs (((madeF d l).1).s), .row .str (((madeF d l).1).k), .row .tree (((madeF d l).1).v)], .row (.int .i64) (madeF d l).2]))
 | 0, hd, l => con54_ (fun _ => (nul, [])) 0 hd (fun h => absurd h (Nat.lt_irrefl _)) l
 | d + 1, hd, l => con54_ (madeF d) (d + 1) hd (fun _ l => by rw [show (((d + 1 : Nat) : Int) - 1) = (d : Int) by omega]; exact con54 d (by omega) l) l
theorem starts_len {a b : List ByteArray} (h : b.length < a.length) : startsF a b = false := by
 unfold startsF; rw [decide_eq_false (by omega)]; rfl
theorem starts_no {a b : List ByteArray} {i : Nat} (h1 : i < a.length) (h2 : i < b.length) (h : eqT (a.getD i (dflt .str)) (b.getD i (dflt .str)) = false) : startsF a b = false := by
 unfold startsF
 rw [Bool.and_eq_false_iff]
 refine .inr (decide_eq_false (fun e => ?_))
 rw [eqT_ne] at h
 apply h
 rw [e, List.getD_eq_getElem?_getD, List.getD_eq_getElem?_getD, List.getElem?_take, if_pos h1]
theorem starts_yes {a b : List ByteArray} (h1 : a.length ≤ b.length) (h : ∀ j, j < a.length → eqT (a.getD j (dflt .str)) (b.getD j (dflt .str)) = true) : startsF a b = true := by
 unfold startsF
 rw [decide_eq_true (by omega), Bool.true_and]
 refine decide_eq_true (list_eq (by rw [List.length_take]; omega) (fun j hj d => ?_))
 have := eqT_iff.1 (h j hj)
 rw [getD_any hj d (dflt .str), this, List.getD_eq_getElem?_getD, List.getD_eq_getElem?_getD, List.getElem?_take, if_pos hj, List.getElem?_eq_getElem (by omega)]; rfl
inductive Inc : List ByteArray → List ByteArray → Prop
 | ne (x y : ByteArray) (p q : List ByteArray) (h : eqT y x = false) : Inc (x :: p) (y :: q)
 | eq (x : ByteArray) (p q : List ByteArray) (h : Inc p q) : Inc (x :: p) (x :: q)
theorem Inc.symm {p q : List ByteArray} (h : Inc p q) : Inc q p := by
 induction h with
 | ne x y p q h => exact .ne y x q p (by rw [eqT_comm]; exact h)
 | eq x p q _ ih => exact .eq x q p ih
theorem keys_rep (x : ByteArray) (v : Tree) : ∀ l : Mem, (repA x v l).map (·.1) = l.map (·.1)
 | [] => rfl
 | (y, u) :: l => by
  simp only [repA]
  split
  rfl
  simp [keys_rep x v l]
theorem look_in {x : ByteArray} : ∀ {l : Mem}, x ∈ l.map (·.1) → (lookA x l).isSome = true
 | [], h => by simp at h
 | (y, u) :: l, h => by
  simp only [lookA]
  split
  rfl
  rename_i hne
  simp only [List.map_cons, List.mem_cons] at h
  rcases h with h | h
  exact absurd (eqT_iff.2 h) hne
  exact look_in h
theorem del_sub (x : ByteArray) : ∀ l : Mem, (delA x l).Sublist l
 | [] => List.Sublist.refl _
 | (y, u) :: l => by
  simp only [delA]
  split
  exact List.sublist_cons_self _ _
  exact (del_sub x l).cons_cons _
theorem starts_iff {a b : List ByteArray} : startsF a b = true ↔ a <+: b := by
 unfold startsF
 rw [Bool.and_eq_true, decide_eq_true_iff, decide_eq_true_iff, List.prefix_iff_eq_take]
 exact ⟨fun h => h.2, fun h => ⟨by have := congrArg List.length h; rw [List.length_take] at this; omega, h⟩⟩
theorem starts_nil (b : List ByteArray) : startsF [] b = true := starts_iff.2 (List.nil_prefix)
theorem starts_self (b : List ByteArray) : startsF b b = true := starts_iff.2 (List.prefix_refl _)
theorem starts_cons {x y : ByteArray} {p q : List ByteArray} : startsF (x :: p) (y :: q) = true ↔ x = y ∧ startsF p q = true := by
 rw [starts_iff, starts_iff, List.cons_prefix_cons]
theorem inc_of : ∀ {p q : List ByteArray}, startsF p q = false → startsF q p = false → Inc p q
 | [], q, h, _ => by rw [starts_nil] at h; cases h
 | _ :: _, [], _, h => by rw [starts_nil] at h; cases h
 | x :: p, y :: q, h1, h2 => by
  cases he : eqT y x with
  | false => exact .ne x y p q he
  | true =>
   rw [eqT_iff] at he
   subst he
   refine .eq _ p q (inc_of ?_ ?_)
   cases h : startsF p q with
   | false => rfl
   | true => rw [starts_cons.2 ⟨rfl, h⟩] at h1; cases h1
   cases h : startsF q p with
   | false => rfl
   | true => rw [starts_cons.2 ⟨rfl, h⟩] at h2; cases h2
theorem Inc.no {p q : List ByteArray} (h : Inc p q) : startsF p q = false := by
 induction h with
 | ne x y p q h =>
  cases hs : startsF (x :: p) (y :: q) with
  | false => rfl
  | true =>
   have := (starts_cons.1 hs).1
   subst this
   rw [eqT_self] at h; cases h
 | eq x p q _ ih =>
  cases hs : startsF (x :: p) (x :: q) with
  | false => rfl
  | true => rw [(starts_cons.1 hs).2] at ih; cases ih
abbrev Le (a b : List ByteArray) : Prop := ¬ cmpS b a < 0
theorem Le.trans {a b c : List ByteArray} (h1 : Le a b) (h2 : Le b c) : Le a c := cmpS_le_trans h2 h1
theorem Le.refl (a : List ByteArray) : Le a a := by unfold Le; rw [cmpS_self]; decide
theorem pre_between : ∀ {x y z : List ByteArray}, startsF x z = true → Le x y → Le y z → startsF x y = true
 | [], y, z, _, _, _ => starts_nil y
 | a :: x, y, [], h, _, _ => by
  have := starts_iff.1 h
  simp at this
 | a :: x, [], b :: z, h, h1, _ => absurd (by simp [cmpS]) h1
 | a :: x, c :: y, b :: z, h, h1, h2 => by
  obtain ⟨rfl, h0⟩ := starts_cons.1 h
  unfold Le at h1 h2
  rw [cmpS] at h1 h2
  rcases ltB_tri a c with h3 | rfl | h3
  rw [cmpB_of_lt h3, if_neg (by decide)] at h2; exact absurd (by decide) h2
  rw [cmpB_self, if_pos rfl] at h1 h2
  exact starts_cons.2 ⟨rfl, pre_between h0 h1 h2⟩
  rw [cmpB_of_lt h3, if_neg (by decide)] at h1; exact absurd (by decide) h1
theorem pre_le : ∀ {x y : List ByteArray}, startsF x y = true → Le x y
 | [], [], _ => Le.refl _
 | [], _ :: _, _ => by unfold Le; simp [cmpS]
 | _ :: _, [], h => by have := starts_iff.1 h; simp at this
 | a :: x, b :: y, h => by
  obtain ⟨rfl, h0⟩ := starts_cons.1 h
  unfold Le
  rw [cmpS, cmpB_self, if_pos rfl]
  exact pre_le h0
theorem step_nil (p : List ByteArray) : normStep [] p = [p] := rfl
theorem step_snoc (i : List (List ByteArray)) (o p : List ByteArray) : normStep (i ++ [o]) p = if startsF o p = true then i ++ [o] else i ++ [o] ++ [p] := by
 have e : (i ++ [o]).getD (((i ++ [o]).length : Int) - 1).toNat (dflt .strs) = o := by
  rw [show (((i ++ [o]).length : Int) - 1).toNat = i.length by simp]
  simp [List.getD]
 unfold normStep
 rw [e, if_pos (by rw [decide_eq_true_iff]; simp)]
theorem fold_inc : ∀ (s i : List (List ByteArray)) (o : List ByteArray), (i ++ [o]).Pairwise Inc → (∀ x ∈ i, Le x o) → (∀ p ∈ s, Le o p) → s.Pairwise Le → (s.foldl normStep (i ++ [o])).Pairwise Inc
 | [], i, o, h, _, _, _ => h
 | p :: s, i, o, h, hi, ho, hs => by
  rw [List.pairwise_cons] at hs
  rw [List.foldl_cons, step_snoc]
  have hop := ho p (by simp)
  split
  exact fold_inc s i o h hi (fun q hq => ho q (by simp [hq])) hs.2
  rename_i hn
  have hn' : startsF o p = false := by simpa using hn
  have hle : ∀ x ∈ i ++ [o], Le x p := fun x hx => by
   rcases List.mem_append.1 hx with hx | hx
   exact (hi x hx).trans hop
   simp at hx; subst hx; exact hop
  refine fold_inc s (i ++ [o]) p ?_ hle hs.1 hs.2
  rw [List.pairwise_append]
  refine ⟨h, List.pairwise_singleton _ _, fun x hx y hy => ?_⟩
  simp at hy
  subst hy
  have h1 : startsF x y = false := by
   cases hxp : startsF x y with
   | false => rfl
   | true =>
    exfalso
    rcases List.mem_append.1 hx with hx | hx
    have h2 := pre_between hxp (hi x hx) hop
    rw [List.pairwise_append] at h
    rw [(h.2.2 x hx o (by simp)).no] at h2; cases h2
    simp at hx; subst hx
    rw [hxp] at hn'; cases hn'
  refine inc_of h1 ?_
  cases h2 : startsF y x with
  | false => rfl
  | true =>
   have := cmpS_anti (xs := y) (ys := x) (hle x hx) (pre_le h2)
   subst this
   rw [starts_self] at h1; cases h1
theorem sortP_le (l : List (List ByteArray)) : (sortP l).Pairwise Le := by
 have h := List.pairwise_mergeSort (le := fun x y : List ByteArray => !decide (cmpS y x < 0)) (fun a b c h1 h2 => by
  simp only [Bool.not_eq_true', decide_eq_false_iff_not] at *; exact cmpS_le_trans h2 h1) (fun a b => by
  by_cases h : cmpS b a < 0
  ·have h2 : ¬ cmpS a b < 0 := fun h3 => by have := cmpS_trans h h3; rw [cmpS_self] at this; exact absurd this (by decide)
   simp [h2]
  ·simp [h]) l
 exact h.imp (fun h => by unfold Le; simpa using h)
theorem normF_inc (l : List (List ByteArray)) : (normF l).Pairwise Inc := by
 unfold normF
 have h := sortP_le l
 cases hs : sortP l with
 | nil => exact List.Pairwise.nil
 | cons p s =>
  rw [hs, List.pairwise_cons] at h
  rw [List.foldl_cons, step_nil]
  exact fold_inc s [] p (List.pairwise_singleton _ _) (fun x hx => by simp at hx) h.1 h.2
structure OneOk (t : Tree) : Prop where
 own : ownO t = true
 bulk : bulk t ≤ 10
 ok : Ok t.n.m
 len : t.n.m.length ≤ 3
 k : t.k.length ≤ 3
 nd : Nodup (mems t)
 sorted : ((mems t).map (·.1)).Pairwise ltB
 texts : ∀ p ∈ mems t, textOk p.1 = true
def GoodT : Nat → Tree → Prop
 | 0, _ => False
 | d + 1, t => OneOk t ∧ t.v.length ≤ 3 ∧ ∀ u ∈ t.v, GoodT d u
theorem nodesL_B {B : Nat} : ∀ {l : List Tree}, (∀ u ∈ l, nodes u ≤ B) → nodesL l ≤ l.length * B
 | [], _ => by simp [nodesL]
 | x :: l, h => by
  have h1 := h x (by simp)
  have h2 := nodesL_B (l := l) (fun u hu => h u (by simp [hu]))
  simp only [nodesL, List.length_cons, Nat.succ_mul]; omega
def mostN : Nat → Nat
 | 0 => 0
 | d + 1 => 1 + 3 * mostN d
theorem good_nodes : ∀ {d : Nat} {t : Tree}, GoodT d t → nodes t ≤ mostN d
 | 0, _, h => h.elim
 | d + 1, t, ⟨h1, h2, h3⟩ => by
  have h := nodesL_B (fun u hu => good_nodes (h3 u hu))
  have h4 := nodes_eq t
  have h5 : t.v.length * mostN d ≤ 3 * mostN d := Nat.mul_le_mul_right _ h2
  simp only [mostN]; omega
theorem mem_cutV {t : Tree} {x : ByteArray} (h : memB t x = true) : memV t x ∈ t.v := by
 have h0 : idxT x (cutK t) ≥ 0 := of_decide_eq_true h
 have h1 := idxT_in x (cutK t)
 have h2 := cut_len t
 rw [(memV_pos h0).1]
 have h3 : (idxT x (cutK t)).toNat < (cutV t).length := by omega
 refine cutV_sub ?_
 rw [List.getD_eq_getElem?_getD, List.getElem?_eq_getElem h3]
 exact List.getElem_mem h3
theorem leaf {d : Nat} {t : Tree} (h : OneOk t) (hv : t.v = []) : GoodT (d + 1) t := ⟨h, by rw [hv]; decide, fun u hu => by rw [hv] at hu; simp at hu⟩
theorem nd_leaf {t : Tree} (h : t.v = []) : Nodup (mems t) := by
 have : (mems t).length = 0 := by
  have h1 : ((mems t).map (·.2)).length = (cutV t).length := by rw [mems_v]
  rw [List.length_map] at h1
  rw [h1]; unfold cutV
  split
  rw [h, List.take_nil]; rfl
  rfl
 rw [List.eq_nil_of_length_eq_zero this]; exact List.nodup_nil
theorem no_mems {t : Tree} (h : t.v = []) : mems t = [] := by
 have : (mems t).length = 0 := by
  have h1 : ((mems t).map (·.2)).length = (cutV t).length := by rw [mems_v]
  rw [List.length_map] at h1
  rw [h1]; unfold cutV
  split
  rw [h, List.take_nil]; rfl
  rfl
 exact List.eq_nil_of_length_eq_zero this
theorem so_leaf {t : Tree} (h : t.v = []) : ((mems t).map (·.1)).Pairwise ltB := by rw [no_mems h]; exact List.Pairwise.nil
theorem te_leaf {t : Tree} (h : t.v = []) : ∀ p ∈ mems t, textOk p.1 = true := by rw [no_mems h]; intro p hp; simp at hp
theorem one_nul : OneOk nul := ⟨by kernel_rfl, by decide, Ok.nil, Nat.zero_le _, Nat.zero_le _, nd_leaf rfl, so_leaf rfl, te_leaf rfl⟩
theorem one_bool (b : Bool) : OneOk (.mk 2 b ⟨false, [], 0⟩ (ba []) [] []) := ⟨by cases b <;> kernel_rfl, by cases b <;> decide, Ok.nil, Nat.zero_le _, Nat.zero_le _, nd_leaf rfl, so_leaf rfl, te_leaf rfl⟩
theorem one_num {n : Num} (h : FineN n) : OneOk (.mk 3 false n (ba []) [] []) := by
 refine ⟨?_, ?_, h.ok, h.len, Nat.zero_le _, nd_leaf rfl, so_leaf rfl, te_leaf rfl⟩
 simp [ownO, truthO, numO, textO, keysO, itemsO, Tree.kind, Tree.b, Tree.n, Tree.s, Tree.k, Tree.v, h.check]
 have := h.len
 rw [bulk_3 rfl]; show 1 + n.m.length ≤ 10; omega
theorem one_text {s : ByteArray} (h : textOk s = true) (h2 : s.size ≤ 9) : OneOk (.mk 4 false ⟨false, [], 0⟩ s [] []) := by
 refine ⟨?_, ?_, Ok.nil, Nat.zero_le _, Nat.zero_le _, nd_leaf rfl, so_leaf rfl, te_leaf rfl⟩
 simp [ownO, truthO, numO, ownN, textO, keysO, itemsO, Tree.kind, Tree.b, Tree.n, Tree.s, Tree.k, Tree.v, h]
 rw [bulk_4 rfl]; show 1 + s.size ≤ 10; omega
theorem one_bytes {s : ByteArray} (h2 : s.size ≤ 9) : OneOk (.mk 5 false ⟨false, [], 0⟩ s [] []) := by
 refine ⟨?_, ?_, Ok.nil, Nat.zero_le _, Nat.zero_le _, nd_leaf rfl, so_leaf rfl, te_leaf rfl⟩
 simp [ownO, truthO, numO, ownN, textO, keysO, itemsO, Tree.kind, Tree.b, Tree.n, Tree.s, Tree.k, Tree.v]; exact decide_eq_true (by omega)
 rw [bulk_5 rfl]; show 1 + s.size ≤ 10; omega
theorem one_arr {v : List Tree} (h : v.length ≤ 3) : OneOk (.mk 6 false ⟨false, [], 0⟩ (ba []) [] v) := by
 have hm : mems (.mk 6 false ⟨false, [], 0⟩ (ba []) [] v) = [] := mems_none (by show ¬ (6 : Int) = 7; decide)
 refine ⟨?_, (by rw [bulk_0 (by show ¬ (6 : Int) = 3; decide) (by show ¬ (6 : Int) = 4; decide) (by show ¬ (6 : Int) = 5; decide)]; decide), Ok.nil, Nat.zero_le _, Nat.zero_le _, ?_, by rw [hm]; exact List.Pairwise.nil, by rw [hm]; intro p hp; simp at hp⟩
 simp [ownO, truthO, numO, ownN, textO, keysO, itemsO, Tree.kind, Tree.b, Tree.n, Tree.s, Tree.k, Tree.v]; exact decide_eq_true (by omega)
 rw [mems_none (by show ¬ (6 : Int) = 7; decide)]; exact List.nodup_nil
theorem txtM_ok {v : Int} (h : VF v) : textOk (txtM v) = true ∧ (txtM v).size ≤ 9 := by
 have h9 := h.m9
 unfold txtM
 generalize hx : ((v.tdiv 12).tmod 9).toNat * 1 = n
 have hn : n < 9 := by omega
 clear hx
 revert hn; revert n; decide +kernel
theorem bytM_ok {v : Int} (h : VF v) : (bytM v).size ≤ 9 := by
 have h5 := h.m5
 unfold bytM
 generalize hx : ((v.tdiv 12).tmod 5).toNat = n
 have hn : n < 5 := by omega
 clear hx
 revert hn; revert n; decide +kernel
theorem nmM_ok {v : Int} (h : VF v) (i : Nat) : textOk (nmM v i) = true := by
 have h8 := nm8 h i
 unfold nmM
 generalize hx : (((v.tdiv 48) + 3 * (i : Int)).tmod 8).toNat = n
 have hn : n < 8 := by omega
 clear hx
 revert hn; revert n; decide +kernel
theorem gtB_iff {a b : ByteArray} : gtB a b = true ↔ ltB b a := by
 unfold gtB
 rcases ltB_tri a b with h | h | h
 rw [ltB_less.2 h]; simp; exact fun h2 => ltB_irrefl _ (ltB_trans h h2)
 subst h; simp [ltB_irrefl]
 have h1 : Op.bytesLess a.toList b.toList = false := by
  cases hb : Op.bytesLess a.toList b.toList with
  | false => rfl
  | true => exact absurd (ltB_trans h (ltB_less.1 hb)) (ltB_irrefl _)
 have h2 : (a.toList == b.toList) = false := by
  cases hb : a.toList == b.toList with
  | false => rfl
  | true => have := toList_inj (eq_of_beq hb); subst this; exact absurd h (ltB_irrefl _)
 rw [h1, h2]; simp [h]
theorem put_mem {x : ByteArray} {v : Tree} {p : ByteArray × Tree} : ∀ {l : Mem}, p ∈ putA x v l → p = (x, v) ∨ p ∈ l
 | [], h => by simp [putA] at h; exact .inl h
 | (y, u) :: l, h => by
  simp only [putA] at h
  split at h
  rcases List.mem_cons.1 h with h | h
  exact .inl h
  exact .inr h
  rcases List.mem_cons.1 h with h | h
  exact .inr (by simp [h])
  rcases put_mem h with h | h
  exact .inl h
  exact .inr (by simp [h])
theorem rep_mem {x : ByteArray} {v : Tree} {p : ByteArray × Tree} : ∀ {l : Mem}, p ∈ repA x v l → p = (x, v) ∨ p ∈ l
 | [], h => by simp [repA] at h
 | (y, u) :: l, h => by
  simp only [repA] at h
  split at h
  rename_i he
  rw [eqT_iff] at he
  subst he
  rcases List.mem_cons.1 h with h | h
  exact .inl h
  exact .inr (by simp [h])
  rcases List.mem_cons.1 h with h | h
  exact .inr (by simp [h])
  rcases rep_mem h with h | h
  exact .inl h
  exact .inr (by simp [h])
theorem ins_mem {x : ByteArray} {v : Tree} {p : ByteArray × Tree} {l : Mem} (h : p ∈ insA x v l) : p = (x, v) ∨ p ∈ l := by
 unfold insA at h
 split at h
 exact rep_mem h
 exact put_mem h
theorem put_sorted {x : ByteArray} {v : Tree} : ∀ {l : Mem}, x ∉ l.map (·.1) → (l.map (·.1)).Pairwise ltB → ((putA x v l).map (·.1)).Pairwise ltB
 | [], _, _ => by simp [putA]
 | (y, u) :: l, hx, h => by
  have hall := h
  simp only [List.map_cons, List.mem_cons, not_or] at hx
  rw [List.map_cons, List.pairwise_cons] at h
  simp only [putA]
  split
  rename_i hg
  rw [gtB_iff] at hg
  rw [List.map_cons, List.pairwise_cons]
  refine ⟨fun z hz => ?_, hall⟩
  rw [List.map_cons, List.mem_cons] at hz
  rcases hz with rfl | hz
  exact hg
  exact ltB_trans hg (h.1 z hz)
  rename_i hg
  rw [List.map_cons, List.pairwise_cons]
  refine ⟨fun z hz => ?_, put_sorted hx.2 h.2⟩
  obtain ⟨p, hp, rfl⟩ := List.mem_map.1 hz
  rcases put_mem hp with rfl | hp
  rcases ltB_tri y x with h3 | h3 | h3
  exact h3
  exact absurd h3.symm hx.1
  exact absurd (gtB_iff.2 h3) hg
  exact h.1 _ (List.mem_map.2 ⟨p, hp, rfl⟩)
theorem ins_sorted {x : ByteArray} {v : Tree} {l : Mem} (h : (l.map (·.1)).Pairwise ltB) : ((insA x v l).map (·.1)).Pairwise ltB := by
 unfold insA
 split
 rw [keys_rep]; exact h
 rename_i hn
 exact put_sorted (fun hm => hn (look_in hm)) h
theorem names_ok {l : List ByteArray} (h1 : ∀ x ∈ l, textOk x = true) (h2 : l.Pairwise ltB) (h3 : l.length ≤ 300) : namesOk l = true := by
 unfold namesOk
 rw [decide_eq_true (by omega), Bool.and_true]
 refine all_yes' (fun j hj => ?_)
 unfold nmOk
 have e : ∀ i (hi : i < l.length), l.getD i (dflt .str) = l[i] := fun i hi => by rw [List.getD_eq_getElem?_getD, List.getElem?_eq_getElem hi]; rfl
 rw [e j hj, h1 _ (List.getElem_mem hj), Bool.true_and]
 cases j with
 | zero => rfl
 | succ j =>
  rw [show ((((j + 1 : Nat) : Int)) - 1).toNat = j by omega, e j (by omega), ltB_less.2 (List.pairwise_iff_getElem.1 h2 j (j + 1) (by omega) hj (by omega)), Bool.or_true]
theorem nodup_sorted {l : List ByteArray} (h : l.Pairwise ltB) : l.Nodup := h.imp (fun h e => by subst e; exact ltB_irrefl _ h)
theorem own_obj {L : Mem} (hl : L.length ≤ 300) (hs : (L.map (·.1)).Pairwise ltB) (ht : ∀ p ∈ L, textOk p.1 = true) : ownO (objM L) = true := by
 have hn : namesOk (L.map (·.1)) = true := names_ok (fun x hx => by obtain ⟨p, hp, rfl⟩ := List.mem_map.1 hx; exact ht p hp) hs (by rw [List.length_map]; omega)
 simp [ownO, truthO, numO, ownN, textO, keysO, itemsO, objM, Tree.kind, Tree.b, Tree.n, Tree.s, Tree.k, Tree.v, hn]; omega
theorem one_obj {L : Mem} (hl : L.length ≤ 3) (hs : (L.map (·.1)).Pairwise ltB) (ht : ∀ p ∈ L, textOk p.1 = true) : OneOk (objM L) := by
 have hn : namesOk (L.map (·.1)) = true := names_ok (fun x hx => by obtain ⟨p, hp, rfl⟩ := List.mem_map.1 hx; exact ht p hp) hs (by rw [List.length_map]; omega)
 refine ⟨?_, ?_, Ok.nil, Nat.zero_le _, by show (L.map (·.1)).length ≤ 3; rw [List.length_map]; exact hl, by unfold Nodup; rw [mems_objM]; exact nodup_sorted hs, by rw [mems_objM]; exact hs, by rw [mems_objM]; exact ht⟩
 simp [ownO, truthO, numO, ownN, textO, keysO, itemsO, objM, Tree.kind, Tree.b, Tree.n, Tree.s, Tree.k, Tree.v, hn]; omega
 rw [bulk_0 (by show ¬ (7 : Int) = 3; decide) (by show ¬ (7 : Int) = 4; decide) (by show ¬ (7 : Int) = 5; decide)]; decide
theorem itO_good {f : List Int → Tree × List Int} {v : Int} {d : Nat} (hv : VF v) (hf : ∀ l, GoodT d (f l).1) : ∀ (n : Nat) (l : List Int), ∃ L : Mem, (itO f v n l).1 = objM L ∧ L.length ≤ n ∧ (L.map (·.1)).Pairwise ltB ∧ (∀ p ∈ L, textOk p.1 = true ∧ GoodT d p.2)
 | 0, l => ⟨[], rfl, Nat.le_refl _, List.Pairwise.nil, fun p hp => by simp at hp⟩
 | n + 1, l => by
  obtain ⟨L, h1, h2, h3, h4⟩ := itO_good hv hf n l
  refine ⟨insA (nmM v n) (f (itO f v n l).2).1 L, ?_, ?_, ins_sorted h3, fun p hp => ?_⟩
  show setT (itO f v n l).1 _ _ = _
  unfold setT; rw [h1, mems_objM]
  have := keys_ins (nmM v n) (f (itO f v n l).2).1 L; omega
  rcases ins_mem hp with rfl | hp
  exact ⟨nmM_ok hv n, hf _⟩
  exact h4 p hp
theorem itA_good {f : List Int → Tree × List Int} {d : Nat} (hf : ∀ l, GoodT d (f l).1) : ∀ (n : Nat) (l : List Int), ∀ u ∈ (itA f n l).1, GoodT d u
 | 0, l, u, h => by simp [itA] at h
 | n + 1, l, u, h => by
  simp only [itA, List.mem_append, List.mem_singleton] at h
  rcases h with h | rfl
  exact itA_good hf n l u h
  exact hf _
theorem good_G {f : List Int → Tree × List Int} {d : Nat} (hf : 0 < d → ∀ l, GoodT d (f l).1) (l : List Int) : GoodT (d + 1) (madeG f d l).1 := by
 unfold madeG
 split
 exact leaf one_nul rfl
 have hv := vF_ok (vM_in l)
 have hc := hv.c.2
 generalize vM l = v at hv hc
 unfold madeV
 split
 exact leaf one_nul rfl
 split
 exact leaf (one_bool _) rfl
 split
 exact leaf (one_num (fineN_number _)) rfl
 split
 exact leaf (one_text (txtM_ok hv).1 (txtM_ok hv).2) rfl
 split
 exact leaf (one_bytes (bytM_ok hv)) rfl
 split
 rename_i ha
 have h0 := dM_a hv d ha
 have hlen : (itA f (cM v) (l.drop 1)).1.length ≤ 3 := by rw [itA_len]; omega
 exact ⟨one_arr hlen, hlen, itA_good (hf h0) _ _⟩
 rename_i h0 h1 h2 h4 h5 h6
 have hd := dM_o hv d h0 h1 (by simpa using h2) h4 h5
 obtain ⟨L, e1, e2, e3, e4⟩ := itO_good hv (hf hd) (cM v) (l.drop 1)
 rw [e1]
 refine ⟨one_obj (by omega) e3 (fun p hp => (e4 p hp).1), ?_, fun u hu => ?_⟩
 show (L.map (·.2)).length ≤ 3; rw [List.length_map]; omega
 obtain ⟨p, hp, rfl⟩ := List.mem_map.1 (show u ∈ L.map (·.2) from hu)
 exact (e4 p hp).2
theorem good_made : ∀ (d : Nat) (l : List Int), GoodT (d + 1) (madeF d l).1
 | 0, l => good_G (f := fun _ => (nul, [])) (d := 0) (fun h => absurd h (Nat.lt_irrefl _)) l
 | d + 1, l => good_G (f := madeF d) (d := d + 1) (fun _ l => good_made d l) l
def manyF (s : ByteArray) : Nat → ByteArray
 | 0 => s
 | i + 1 => manyF s i ++ ba [44, 97]
def wrongs (s : ByteArray) : List ByteArray := [ba [44] ++ s, s ++ ba [44], s ++ ba [46], ba [46] ++ s, s ++ ba [44, 49, 97], s ++ ba [32], manyF s 60]
structure Fine (p : List (List ByteArray)) (n : Int) : Prop where
 smalls : (∀ x ∈ p, smalls x) ∧ p.length < 4294967281 ∧ ∀ x ∈ p, x.length < 4294967296
 size : (textF p).size ≤ 7563840
 some : ((textF p).toList == (ba []).toList) = false
 back : parseF (textF p) = (p, 0)
 none1 : ((parseF ((wrongs (textF p)).getD (n.toNat * 1) ⟨#[]⟩)).1.length : Int) = 0
 none2 : (parseF ((wrongs (textF p)).getD (n.toNat * 1) ⟨#[]⟩)).2 = if n = 6 then 4 else 2
def spl (c : UInt8) : List UInt8 → List (List UInt8)
 | [] => [[]]
 | b :: l => if b = c then [] :: spl c l else match spl c l with
  | [] => [[b]]
  | h :: t => (b :: h) :: t
theorem spl_ne (c : UInt8) : ∀ l, spl c l ≠ []
 | [] => by simp [spl]
 | b :: l => by
  unfold spl
  split
  simp
  split <;> simp
theorem spl_eq (c : UInt8) : ∀ (x y : List UInt8), spl c (x ++ c :: y) = spl c x ++ spl c y
 | [], y => by simp [spl]
 | b :: x, y => by
  have ih := spl_eq c x y
  simp only [List.cons_append, spl]
  by_cases h : b = c
  rw [if_pos h, if_pos h, ih]; rfl
  rw [if_neg h, if_neg h, ih]
  cases hs : spl c x with
  | nil => exact absurd hs (spl_ne c x)
  | cons p q => rfl
theorem spl_free {c : UInt8} : ∀ {x : List UInt8}, c ∉ x → spl c x = [x]
 | [], _ => rfl
 | b :: x, h => by
  simp only [List.mem_cons, not_or] at h
  simp only [spl]
  rw [if_neg (fun e => h.1 e.symm), spl_free h.2]
theorem spl_end {c : UInt8} {y : List UInt8} (hy : c ∉ y) : ∀ X : List UInt8, ∃ z, z ++ y ∈ spl c (X ++ y)
 | [] => ⟨[], by simp [spl_free hy]⟩
 | b :: X => by
  obtain ⟨z, hz⟩ := spl_end hy X
  simp only [List.cons_append, spl]
  by_cases h : b = c
  rw [if_pos h]; exact ⟨z, List.mem_cons_of_mem _ hz⟩
  rw [if_neg h]
  cases hs : spl c (X ++ y) with
  | nil => exact absurd hs (spl_ne _ _)
  | cons p q =>
   rw [hs] at hz
   rcases List.mem_cons.1 hz with e | hz
   exact ⟨b :: z, by rw [← e]; simp⟩
   exact ⟨z, List.mem_cons_of_mem _ hz⟩
theorem spl_begin {c b : UInt8} (h : b ≠ c) (X : List UInt8) : ∃ z, b :: z ∈ spl c (b :: X) := by
 simp only [spl]
 rw [if_neg h]
 cases hs : spl c X with
 | nil => exact absurd hs (spl_ne _ _)
 | cons p q => exact ⟨p, List.mem_cons_self ..⟩
def jt (c : UInt8) (r : List (List UInt8)) : List UInt8 := (r.map (c :: ·)).flatten
def jn (c : UInt8) : List (List UInt8) → List UInt8
 | [] => []
 | x :: r => x ++ jt c r
theorem jt_cons (c : UInt8) (y : List UInt8) (r : List (List UInt8)) : jt c (y :: r) = c :: (y ++ jt c r) := by simp [jt]
theorem spl_jt {c : UInt8} : ∀ (r : List (List UInt8)) (x : List UInt8), c ∉ x → (∀ y ∈ r, c ∉ y) → spl c (x ++ jt c r) = x :: r
 | [], x, hx, _ => by simp [jt, spl_free hx]
 | y :: r, x, hx, hr => by
  rw [jt_cons, spl_eq, spl_free hx, spl_jt r y (hr y (List.mem_cons_self ..)) (fun z hz => hr z (List.mem_cons_of_mem _ hz))]; rfl
theorem spl_jn {c : UInt8} {xs : List (List UInt8)} (h0 : xs ≠ []) (h : ∀ x ∈ xs, c ∉ x) : spl c (jn c xs) = xs := by
 cases xs with
 | nil => exact absurd rfl h0
 | cons x r => exact spl_jt r x (h x (List.mem_cons_self ..)) (fun y hy => h y (List.mem_cons_of_mem _ hy))
theorem jn_free {c d : UInt8} (hd : d ≠ c) {xs : List (List UInt8)} (h : ∀ x ∈ xs, d ∉ x) : d ∉ jn c xs := by
 have ht : ∀ r : List (List UInt8), (∀ y ∈ r, d ∉ y) → d ∉ jt c r := fun r hr hm => by
  simp only [jt, List.mem_flatten, List.mem_map] at hm
  obtain ⟨l, ⟨y, hy, rfl⟩, hl⟩ := hm
  rcases List.mem_cons.1 hl with e | hl
  exact hd e
  exact hr y hy hl
 cases xs with
 | nil => simp [jn]
 | cons x r =>
  simp only [jn, List.mem_append, not_or]
  exact ⟨h x (List.mem_cons_self ..), ht r (fun y hy => h y (List.mem_cons_of_mem _ hy))⟩
theorem ba_data (l : List UInt8) : (ba l).data.toList = l := by simp [ba]
theorem ba_of (s : ByteArray) : ba s.data.toList = s := by simp [ba]
theorem ba_size (l : List UInt8) : (ba l).size = l.length := by rw [Lib.size_eq, ba_data]
theorem idx_hit (c : UInt8) (l : List UInt8) : Lib.index (c :: l) [c] = 0 := by rw [Lib.index]; simp [List.isPrefixOf]
theorem idx_ne (b c : UInt8) (l : List UInt8) (h : b ≠ c) : Lib.index (b :: l) [c] = if Lib.index l [c] == -1 then -1 else Lib.index l [c] + 1 := by
 have hp : ([c] : List UInt8).isPrefixOf (b :: l) = false := by simp [List.isPrefixOf, Ne.symm h]
 rw [Lib.index, hp]; simp
theorem splitK_spl (c : UInt8) : ∀ l : List UInt8, Lib.splitK [c] 0 (Lib.count l [c]) l = spl c l
 | [] => by rw [Lib.count_one]; rfl
 | b :: l => by
  have ih := splitK_spl c l
  by_cases h : b = c
  subst h
  rw [Lib.count_cons_eq, Nat.add_comm, Lib.splitK, idx_hit, if_neg (by decide)]
  simp only [spl, if_pos]
  rw [← ih]; simp
  rw [Lib.count_cons_ne b c l h]
  simp only [spl]
  rw [if_neg h, ← ih]
  cases hk : Lib.count l [c] with
  | zero => rfl
  | succ k =>
   rw [Lib.splitK, Lib.splitK, idx_ne b c l h]
   have hge := Lib.index_ge l [c]
   by_cases hm : Lib.index l [c] = -1
   rw [hm]; rfl
   have hb : (Lib.index l [c] == -1) = false := by simpa using hm
   have hb2 : (Lib.index l [c] + 1 == -1) = false := by simp; omega
   simp only [hb, hb2, Bool.false_eq_true, if_false]
   have e1 : (Lib.index l [c] + 1).toNat = (Lib.index l [c]).toNat + 1 := by omega
   rw [e1]; simp [Nat.add_right_comm]
theorem splitF_spl (c : UInt8) (l : List UInt8) : splitF (ba l) c = (spl c l).map ba := by
 have h1 := Lib.splitB_data (ba [c]) 0 (Lib.countB (ba l) (ba [c])) (ba l)
 have h2 : Lib.countB (ba l) (ba [c]) = Lib.count l [c] := by
  unfold Lib.countB; rw [ba_data, ba_data]
 rw [ba_data, ba_data, h2, splitK_spl] at h1
 rw [← h1, List.map_map]
 unfold splitF
 rw [h2]
 exact (List.map_id _).symm.trans (List.map_congr_left (fun s _ => (ba_of s).symm))
theorem joinF_jn (c : UInt8) (xs : List (List UInt8)) : joinF (xs.map ba) (ba [c]) = ba (jn c xs) := by
 unfold joinF
 rw [List.map_map, ba_data]
 have e : xs.map ((fun s : ByteArray => s.data.toList) ∘ ba) = xs := (List.map_congr_left (fun l _ => ba_data l)).trans (List.map_id _)
 rw [e]
 cases xs with
 | nil => rfl
 | cons x r => rw [Lib.join_cons]; rfl
theorem byteAt_ba {l : List UInt8} {i : Nat} {b : UInt8} (h : l[i]? = some b) : byteAt (ba l) (i : Int) = (b.toNat : Int) := by
 have e : (ba l).data[i]? = some b := by simp [ba, h]
 simp only [byteAt, Int.toNat_natCast, e, Option.getD_some]
theorem nameF_bad {l : List UInt8} {i : Nat} {b : UInt8} (h : l[i]? = some b) (hb : b = 32 ∨ b = 44 ∨ b = 46) : nameF (ba l) = false := by
 have hi : i < l.length := (List.getElem?_eq_some_iff.1 h).1
 refine nameF_no (i := i) (by rw [ba_size]; exact hi) ?_
 simp only [nameOk, byteAt_ba h]
 rcases hb with rfl | rfl | rfl
 have e : (decide (bitsOr .u8 ((32 : UInt8).toNat : Int) 32 ≥ 97) && decide (bitsOr .u8 ((32 : UInt8).toNat : Int) 32 ≤ 122) || ((32 : UInt8).toNat : Int) == 95) = false := by kernel_rfl
 have e2 : (!decide (((32 : UInt8).toNat : Int) < 48) && !decide (((32 : UInt8).toNat : Int) > 57)) = false := by kernel_rfl
 rw [e, e2]; simp
 have e : (decide (bitsOr .u8 ((44 : UInt8).toNat : Int) 32 ≥ 97) && decide (bitsOr .u8 ((44 : UInt8).toNat : Int) 32 ≤ 122) || ((44 : UInt8).toNat : Int) == 95) = false := by kernel_rfl
 have e2 : (!decide (((44 : UInt8).toNat : Int) < 48) && !decide (((44 : UInt8).toNat : Int) > 57)) = false := by kernel_rfl
 rw [e, e2]; simp
 have e : (decide (bitsOr .u8 ((46 : UInt8).toNat : Int) 32 ≥ 97) && decide (bitsOr .u8 ((46 : UInt8).toNat : Int) 32 ≤ 122) || ((46 : UInt8).toNat : Int) == 95) = false := by kernel_rfl
 have e2 : (!decide (((46 : UInt8).toNat : Int) < 48) && !decide (((46 : UInt8).toNat : Int) > 57)) = false := by kernel_rfl
 rw [e, e2]; simp
theorem name_free {l : List UInt8} (h : nameF (ba l) = true) {c : UInt8} (hc : c = 44 ∨ c = 46) : c ∉ l := fun hm => by
 obtain ⟨i, hi, he⟩ := List.getElem_of_mem hm
 have := nameF_bad (i := i) (b := c) (by rw [List.getElem?_eq_getElem hi, he]) (.inr hc)
 rw [h] at this; cases this
theorem name_nil : nameF (ba []) = false := by kernel_rfl
def badL (l : List UInt8) : Bool := (spl 46 l).any fun n => !nameF (ba n)
theorem badPiece_ba (l : List UInt8) : badPiece (ba l) = badL l := by
 unfold badPiece badL
 rw [splitF_spl, List.any_map]; rfl
theorem any_pieces (l : List UInt8) : (splitF (ba l) 44).any badPiece = (spl 44 l).any badL := by
 rw [splitF_spl, List.any_map]
 exact congrArg (fun q => (spl 44 l).any q) (funext fun x => badPiece_ba x)
theorem cutsF_ba (l : List UInt8) : cutsF (ba l) = (spl 44 l).map fun p => (spl 46 p).map ba := by
 unfold cutsF
 rw [splitF_spl, List.map_map]
 exact List.map_congr_left (fun p _ => splitF_spl 46 p)
theorem eq_nil (l : List UInt8) : ((ba l).toList == (ba []).toList) = decide (l = []) := by
 rw [Lib.toList_data, Lib.toList_data, ba_data, ba_data]
 cases l with
 | nil => rfl
 | cons b l => rfl
theorem parse_bad {l : List UInt8} (h0 : l ≠ []) (h : ∃ x ∈ spl 44 l, badL x = true) : parseF (ba l) = ([], 2) := by
 unfold parseF
 rw [eq_nil, any_pieces, if_neg (by simpa using h0), if_pos (List.any_eq_true.2 h)]
theorem badL_of {l n : List UInt8} (hm : n ∈ spl 46 l) (hn : nameF (ba n) = false) : badL l = true := List.any_eq_true.2 ⟨n, hm, by simp [hn]⟩
theorem badL_nil : badL [] = true := badL_of (n := []) (by simp [spl]) name_nil
def unb (p : List (List ByteArray)) : List (List (List UInt8)) := p.map fun q => q.map fun s => s.data.toList
theorem unb_ba (p : List (List ByteArray)) : (unb p).map (fun q => q.map ba) = p := by
 unfold unb
 rw [List.map_map]
 refine (List.map_congr_left (fun q _ => ?_)).trans (List.map_id _)
 simp only [Function.comp_apply, List.map_map]
 exact (List.map_congr_left (fun s _ => ba_of s)).trans (List.map_id _)
def textL (P : List (List (List UInt8))) : List UInt8 := jn 44 (P.map (jn 46))
theorem textF_ba {P : List (List (List UInt8))} (h : checkF (P.map fun q => q.map ba) = true) : textF (P.map fun q => q.map ba) = ba (textL P) := by
 unfold textF textL
 rw [if_pos h, List.map_map, ← joinF_jn, List.map_map]
 congr 1
 exact List.map_congr_left (fun q _ => joinF_jn 46 q)
structure Good (P : List (List (List UInt8))) : Prop where
 ne : P ≠ []
 path : ∀ q ∈ P, q ≠ [] ∧ ∀ n ∈ q, nameF (ba n) = true
theorem good_pieces {P : List (List (List UInt8))} (h : Good P) : (∀ x ∈ P.map (jn 46), (44 : UInt8) ∉ x) ∧ ∀ q ∈ P, spl 46 (jn 46 q) = q := by
 refine ⟨fun x hx => ?_, fun q hq => ?_⟩
 obtain ⟨q, hq, rfl⟩ := List.mem_map.1 hx
 exact jn_free (by decide) (fun n hn => name_free ((h.path q hq).2 n hn) (.inl rfl))
 exact spl_jn (h.path q hq).1 (fun n hn => name_free ((h.path q hq).2 n hn) (.inr rfl))
theorem spl_text {P : List (List (List UInt8))} (h : Good P) : spl 44 (textL P) = P.map (jn 46) := spl_jn (by simpa using h.ne) (good_pieces h).1
theorem good_badL {P : List (List (List UInt8))} (h : Good P) {x : List UInt8} (hx : x ∈ P.map (jn 46)) : badL x = false := by
 obtain ⟨q, hq, rfl⟩ := List.mem_map.1 hx
 unfold badL
 rw [(good_pieces h).2 q hq, List.any_eq_false]
 intro n hn
 simp [(h.path q hq).2 n hn]
theorem jn_ne {c : UInt8} {q : List (List UInt8)} (h0 : q ≠ []) (h : ∀ n ∈ q, n ≠ []) : jn c q ≠ [] := by
 cases q with
 | nil => exact absurd rfl h0
 | cons x r =>
  have := h x (List.mem_cons_self ..)
  simp [jn, this]
theorem text_ne {P : List (List (List UInt8))} (h : Good P) : textL P ≠ [] := jn_ne (by simpa using h.ne) (fun x hx => by
 obtain ⟨q, hq, rfl⟩ := List.mem_map.1 hx
 refine jn_ne (h.path q hq).1 (fun n hn e => ?_)
 have := (h.path q hq).2 n hn
 rw [e, name_nil] at this; cases this)
theorem cuts_text {P : List (List (List UInt8))} (h : Good P) : (P.map (jn 46)).map (fun p => (spl 46 p).map ba) = P.map fun q => q.map ba := by
 rw [List.map_map]
 exact List.map_congr_left (fun q hq => by simp only [Function.comp_apply]; rw [(good_pieces h).2 q hq])
theorem parse_text {P : List (List (List UInt8))} (h : Good P) (hc : checkF (P.map fun q => q.map ba) = true) : parseF (ba (textL P)) = (P.map fun q => q.map ba, 0) := by
 have h1 : (spl 44 (textL P)).any badL = false := by
  rw [spl_text h, List.any_eq_false]
  intro x hx
  simp [good_badL h hx]
 have h2 : cutsF (ba (textL P)) = P.map fun q => q.map ba := by rw [cutsF_ba, spl_text h, cuts_text h]
 unfold parseF
 rw [eq_nil, any_pieces, h1, h2, if_neg (by simpa using text_ne h), if_neg (by decide), if_pos hc]
theorem many_ba (l : List UInt8) : ∀ i, manyF (ba l) i = ba (l ++ jt 44 (List.replicate i [97]))
 | 0 => by simp [manyF, jt]
 | i + 1 => by
  rw [manyF, many_ba l i]
  have e : jt 44 (List.replicate (i + 1) [97]) = jt 44 (List.replicate i [97]) ++ [44, 97] := by
   rw [List.replicate_succ']; simp [jt]
  rw [e]
  show _ = _
  apply ByteArray.ext
  simp [ba, ByteArray.data_append]
theorem ba_app (l m : List UInt8) : ba l ++ ba m = ba (l ++ m) := by
 apply ByteArray.ext
 simp [ba, ByteArray.data_append]
theorem spl_more {P : List (List (List UInt8))} (h : Good P) : ∀ r : List (List UInt8), (∀ y ∈ r, (44 : UInt8) ∉ y) → spl 44 (textL P ++ jt 44 r) = P.map (jn 46) ++ r := by
 intro r
 obtain ⟨q, Q, rfl⟩ : ∃ q Q, P = q :: Q := by
  cases P with
  | nil => exact absurd rfl h.ne
  | cons q Q => exact ⟨q, Q, rfl⟩
 intro hr
 have hg := (good_pieces h).1
 have e : textL (q :: Q) ++ jt 44 r = jn 46 q ++ jt 44 (Q.map (jn 46) ++ r) := by simp [textL, jn, jt]
 rw [e, spl_jt _ _ (hg _ (by simp)) (fun y hy => by
  rcases List.mem_append.1 hy with hy | hy
  ·exact hg y (by simp only [List.map_cons]; exact List.mem_cons_of_mem _ hy)
  ·exact hr y hy)]
 simp
theorem parse_many {P : List (List (List UInt8))} (h : Good P) : parseF (manyF (ba (textL P)) 60) = ([], 4) := by
 rw [many_ba]
 have hs := spl_more h (List.replicate 60 [97]) (fun y hy => by rw [List.eq_of_mem_replicate hy]; decide)
 have h1 : (spl 44 (textL P ++ jt 44 (List.replicate 60 [97]))).any badL = false := by
  rw [hs, List.any_eq_false]
  intro x hx
  rcases List.mem_append.1 hx with hx | hx
  simp [good_badL h hx]
  rw [List.eq_of_mem_replicate hx]
  have : badL [97] = false := by kernel_rfl
  simp [this]
 have h2 : checkF (cutsF (ba (textL P ++ jt 44 (List.replicate 60 [97])))) = false := by
  rw [cutsF_ba, hs]
  have hl : 0 < P.length := List.length_pos_iff.2 h.ne
  unfold checkF
  rw [decide_eq_false (by simp; omega)]; rfl
 unfold parseF
 rw [eq_nil, any_pieces, h1, h2, if_neg (by have := text_ne h; simp [this]), if_neg (by decide), if_neg (by decide)]
theorem parse_wrong {P : List (List (List UInt8))} (h : Good P) : ∀ n, n < 6 → parseF ((wrongs (ba (textL P))).getD n ⟨#[]⟩) = ([], 2)
 | 0, _ => by
  show parseF (ba [44] ++ ba (textL P)) = _
  rw [ba_app]
  exact parse_bad (by simp) ⟨[], by simp [spl], badL_nil⟩
 | 1, _ => by
  show parseF (ba (textL P) ++ ba [44]) = _
  rw [ba_app]
  exact parse_bad (by simp) ⟨[], by rw [spl_eq]; simp [spl], badL_nil⟩
 | 2, _ => by
  show parseF (ba (textL P) ++ ba [46]) = _
  rw [ba_app]
  obtain ⟨z, hz⟩ := spl_end (c := 44) (y := [46]) (by decide) (textL P)
  exact parse_bad (by simp) ⟨_, hz, badL_of (n := []) (by rw [spl_eq]; simp [spl]) name_nil⟩
 | 3, _ => by
  show parseF (ba [46] ++ ba (textL P)) = _
  rw [ba_app]
  obtain ⟨z, hz⟩ := spl_begin (c := 44) (b := 46) (by decide) (textL P)
  exact parse_bad (by simp) ⟨_, hz, badL_of (n := []) (by simp [spl]) name_nil⟩
 | 4, _ => by
  show parseF (ba (textL P) ++ ba [44, 49, 97]) = _
  rw [ba_app]
  refine parse_bad (by simp) ⟨[49, 97], by rw [spl_eq]; simp [spl], by kernel_rfl⟩
 | 5, _ => by
  show parseF (ba (textL P) ++ ba [32]) = _
  rw [ba_app]
  obtain ⟨z, hz⟩ := spl_end (c := 44) (y := [32]) (by decide) (textL P)
  obtain ⟨z', hz'⟩ := spl_end (c := 46) (y := [32]) (by decide) z
  exact parse_bad (by simp) ⟨_, hz, badL_of hz' (nameF_bad (i := z'.length) (b := 32) (by simp) (.inl rfl))⟩
theorem fine_of {p : List (List ByteArray)} (hc : checkF p = true) (h0 : p ≠ []) {n : Int} (hn : 0 ≤ n ∧ n < 7) : Fine p n := by
 have hp := unb_ba p
 obtain ⟨h1, h2⟩ := checkF_in hc
 have hg : Good (unb p) := ⟨fun e => h0 (by rw [← hp, e]; rfl), fun q hq => by
  have hq2 : q.map ba ∈ p := by rw [← hp]; exact List.mem_map.2 ⟨q, hq, rfl⟩
  obtain ⟨_, h4, h5⟩ := h2 _ hq2
  exact ⟨fun e => h4 (by rw [e]; rfl), fun m hm => h5 _ (List.mem_map.2 ⟨m, hm, rfl⟩)⟩⟩
 have hc' : checkF ((unb p).map fun q => q.map ba) = true := by rw [hp]; exact hc
 have ht : textF p = ba (textL (unb p)) := by rw [← textF_ba hc', hp]
 have hsz : (textF p).size ≤ 7563840 := by unfold textF; rw [if_pos hc]; exact text_join hc
 have hsm : ∀ x ∈ p, smalls x := fun x hx => by
  obtain ⟨h3, _, h5⟩ := h2 x hx
  exact ⟨fun y hy => by have := nameF_size (h5 y hy); unfold small; omega, by omega⟩
 refine ⟨⟨hsm, by omega, fun x hx => by have := (h2 x hx).1; omega⟩, hsz, ?_, ?_, ?_, ?_⟩
 ·rw [ht, eq_nil]; simpa using text_ne hg
 ·rw [ht, parse_text hg hc', hp]
 ·rw [ht]
  rcases Int.lt_or_eq_of_le (show n ≤ 6 by omega) with h | rfl
  ·rw [parse_wrong hg _ (by omega)]; rfl
  ·show ((parseF (manyF (ba (textL (unb p))) 60)).1.length : Int) = 0
   rw [parse_many hg]; rfl
 ·rw [ht]
  rcases Int.lt_or_eq_of_le (show n ≤ 6 by omega) with h | rfl
  ·rw [parse_wrong hg _ (by omega), if_neg (by omega)]
  ·show (parseF (manyF (ba (textL (unb p))) 60)).2 = _
   rw [parse_many hg]; rfl
theorem smalls_of {p : List (List ByteArray)} (hc : checkF p = true) : ∀ x ∈ p, smalls x := fun x hx => by
 obtain ⟨h1, h2⟩ := checkF_in hc
 obtain ⟨h3, _, h5⟩ := h2 x hx
 exact ⟨fun y hy => by have := nameF_size (h5 y hy); unfold small; omega, by omega⟩
theorem mems_in {t : Tree} {p : ByteArray × Tree} (h : p ∈ mems t) : p.2 ∈ t.v := by
 refine cutV_sub ?_
 rw [← mems_v]
 exact List.mem_map.2 ⟨p, h, rfl⟩
theorem mems_lev (t : Tree) : (mems t).length ≤ t.v.length := by
 have h : ((mems t).map (·.2)).length = (cutV t).length := by rw [mems_v]
 rw [List.length_map] at h
 rw [h]; unfold cutV
 split
 rw [List.length_take]; omega
 exact Nat.zero_le _
theorem sameN_self (n : Num) : sameN n n = true := by simp [sameN]
mutual
theorem sameT_self : ∀ t : Tree, sameT t t = true
 | .mk k b n s ks v => by
  have h := sameL_self v
  rw [sameT_eq]
  simp only [Tree.kind, Tree.b, Tree.n, Tree.s, Tree.k, Tree.v, if_true, sameN_self, h, beq_self_eq_true, decide_true, Bool.and_self]
  repeat' split
  all_goals rfl
theorem sameL_self : ∀ l : List Tree, sameL l l = true
 | [] => rfl
 | t :: l => by simp only [sameL]; rw [sameT_self t, sameL_self l]; rfl
end
theorem fold_sub : ∀ (s out : List (List ByteArray)), ∃ r, s.foldl normStep out = out ++ r ∧ r.Sublist s
 | [], out => ⟨[], by simp, List.Sublist.refl _⟩
 | p :: s, out => by
  obtain ⟨r, h1, h2⟩ := fold_sub s (normStep out p)
  rw [List.foldl_cons, h1]
  unfold normStep
  split
  split
  exact ⟨r, rfl, h2.cons _⟩
  exact ⟨p :: r, by simp, h2.cons_cons _⟩
  exact ⟨p :: r, by simp, h2.cons_cons _⟩
theorem normF_sorted (l : List (List ByteArray)) : (normF l).Pairwise Le := by
 obtain ⟨r, h1, h2⟩ := fold_sub (sortP l) []
 unfold normF
 rw [h1, List.nil_append]
 exact (sortP_le l).sublist h2
end Go.Proofs.YtondpnipoogoiaaGreatDoor.F
