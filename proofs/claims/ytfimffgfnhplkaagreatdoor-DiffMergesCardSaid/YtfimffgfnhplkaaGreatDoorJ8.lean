import Derived.Test.YtfimffgfnhplkaaGreatDoorJ7
import Derived.Test.YtfimffgfnhplkaaGreatDoorJ1
import Derived.Lib.SlicesCompact
set_option maxRecDepth 100000
set_option linter.unusedVariables false
set_option linter.unusedSimpArgs false
namespace Go.Proofs.YtfimffgfnhplkaaGreatDoor.F
open Go Go.RowKit Go.Proofs.Tryz
def restD (x : ByteArray) (done : Bool) (l : Mem) : Mem := if done = true then l else delA x l
structure DelJ (t : Tree) (x : ByteArray) (i : Nat) (acc : Mem) (done : Bool) : Prop where
 eq : acc ++ restD x done ((mems t).drop i) = delA x (mems t)
 len : acc.length ≤ i
theorem DelJ.start (t : Tree) (x : ByteArray) : DelJ t x 0 [] false := ⟨by simp [restD], Nat.zero_le _⟩
section
variable {t : Tree} {x : ByteArray} {i : Nat} {acc : Mem} {done : Bool} (J : DelJ t x i acc done) (hk : t.kind = 7) (h1 : i < t.k.length) (h2 : i < t.v.length)
include J hk h1 h2
theorem DelJ.hit (hd : done = false) (h : eqT (t.k.getD i (dflt .str)) x = true) : DelJ t x (i + 1) acc true := by
 refine ⟨?_, by have := J.len; omega⟩
 have he := J.eq
 rw [mems_drop hk h1 h2, hd] at he
 rw [← he]
 have e : delA x ((t.k.getD i (dflt .str), t.v.getD i (dflt .tree)) :: (mems t).drop (i + 1)) = (mems t).drop (i + 1) := by
  simp only [delA]; rw [if_pos (by rw [eqT_comm]; exact h)]
 show acc ++ (mems t).drop (i + 1) = acc ++ delA x _
 rw [e]
theorem DelJ.on (h : done = true ∨ eqT (t.k.getD i (dflt .str)) x = false) : DelJ t x (i + 1) (acc ++ [(t.k.getD i (dflt .str), t.v.getD i (dflt .tree))]) done := by
 refine ⟨?_, by have := J.len; simp; omega⟩
 have he := J.eq
 rw [mems_drop hk h1 h2] at he
 rw [← he]
 rcases h with rfl | h
 simp [restD]
 have e : delA x ((t.k.getD i (dflt .str), t.v.getD i (dflt .tree)) :: (mems t).drop (i + 1)) = (t.k.getD i (dflt .str), t.v.getD i (dflt .tree)) :: delA x ((mems t).drop (i + 1)) := by
  simp only [delA]; rw [if_neg (by rw [eqT_comm, h]; decide)]
 cases done with
 | true => simp [restD]
 | false =>
  show (acc ++ [_]) ++ delA x _ = acc ++ delA x _
  rw [e]; simp
end
theorem DelJ.fin {t : Tree} {x : ByteArray} {i : Nat} {acc : Mem} {done : Bool} (J : DelJ t x i acc done) (hb : memB t x = true) (he : (mems t).drop i = []) : unsetT t x = objM acc := by
 have h := J.eq
 rw [he] at h
 have e : restD x done [] = [] := by cases done <;> rfl
 rw [e, List.append_nil] at h
 unfold unsetT; rw [if_pos hb, ← h]
theorem con21 (t : Tree) (x : ByteArray) (hv : t.v.length < 100000000) : Con Tryz.prog I0 54 [.agg (encTree t), vs x] (.val (.agg (encTree (unsetT t x)))) := by
 refine con_of Tryz.func54 rfl (Nat.le_of_ble_eq_true rfl) stab (fun w0 fz a hI hs => ?_)
 refine wNs hs hI [] 8 [] [(1, vs x), (2, .ptr 1000 0), (4, .ptr 1001 0)] [(1000, bTr (t)), (1001, .var zTr)] fun a w hs => ?_
 refine wp_seq ?_
 rcases bt (memB t x) with b1 | b1
 refine wL hs hI [(1, rc [(2, ciV 24 [aTr (t), vs x] (.tup [aTr ((memV t x)), vb (memB t x)]))])] (bz 1 0) 79826618840 [q1 (ng1 b1)] .norm [(1, vs x), (2, .ptr 1000 0), (4, .ptr 1001 0)] [(1000, bTr (t)), (1001, .var zTr)] ⟨con69 _ _ (by omega), tv⟩ fun a w hs => ?_
 refine then_norm ?_
 refine wNs hs hI [] 18 [] [(1, vs x), (2, .ptr 1000 0), (4, .ptr 1001 0), (7, .ptr 5001 0)] [(1000, bTr (t)), (1001, .var zTr), (5001, .var [vi 7, vb false, vb false, nilv, vi 0, vs (ba []), nilv, nilv])] fun a w hs => ?_
 refine wNs hs hI [] 11 [] [(1, vs x), (2, .ptr 1000 0), (4, .ptr 1001 0), (7, .ptr 5001 0), (8, vb false)] [(1000, bTr (t)), (1001, .var zTr), (5001, .var [vi 7, vb false, vb false, nilv, vi 0, vs (ba []), nilv, nilv])] fun a w hs => ?_
 refine wp_seq ?_
 refine wNs hs hI [] 11 [] [(1, vs x), (2, .ptr 1000 0), (4, .ptr 1001 0), (7, .ptr 5001 0), (8, vb false), (9, vi 0)] [(1000, bTr (t)), (1001, .var zTr), (5001, .var [vi 7, vb false, vb false, nilv, vi 0, vs (ba []), nilv, nilv])] fun a w hs => ?_
 refine wp_block ?_
 have hk7 := mem_kind (t := t) (x := x) (by assumption)
 have hbx : memB t x = true := by assumption
 refine loop_L (N := Tryz.f54.ntmps) (w0 := w0) (ow := noO fz) (α := Nat × Mem × Bool) (fun p => [(1, vs x), (2, .ptr 1000 0), (4, .ptr 1001 0), (7, .ptr 90000001 0), (8, vb p.2.2), (9, vi ((p.1 : Nat) : Int))]) (fun p => [(1000, bTr (t)), (1001, .var zTr), (90000001, .var [vi 7, vb false, vb false, nilv, vi 0, vs (ba []), .own 90000002, .own 90000003]), (90000002, .sl 9 .str (mK p.2.1)), (90000003, .sl 28 .tree (mV p.2.1))]) (fun p => (p.1 ≤ t.k.length ∧ p.1 ≤ t.v.length) ∧ DelJ t x p.1 p.2.1 p.2.2) (fun p => t.k.length - p.1) (0, [], false) ?_ ?_ ?_
 exact ⟨⟨Nat.zero_le _, Nat.zero_le _⟩, DelJ.start t x⟩
 (have hs := ((hs.nilB 10000003 5001 6 9 .str [vi 7, vb false, vb false, nilv, vi 0, vs (ba []), nilv, nilv] (by kernel_rfl) (by kernel_rfl) (by decide) (by decide) (by kernel_rfl) (by kernel_rfl)).nilB 10000004 5001 7 28 .tree [vi 7, vb false, vb false, nilv, vi 0, vs (ba []), .own 10000003, nilv] (by kernel_rfl) (by kernel_rfl) (by decide) (by decide) (by kernel_rfl) (by kernel_rfl)).rmT [(1, vs x), (2, .ptr 1000 0), (4, .ptr 1001 0), (7, .ptr 5001 0), (8, vb false), (9, vi 0)] [(1000, bTr (t)), (1001, .var zTr), (5001, .var [vi 7, vb false, vb false, nilv, vi 0, vs (ba []), .own 10000003, .own 10000004]), (10000003, .sl 9 .str ([])), (10000004, .sl 28 .tree ([]))] [(1000, 1000), (1001, 1001), (5001, 5001), (10000003, 10000003), (10000004, 10000004)] (by kernel_rfl); exact (hs.cst [(1, vs x), (2, .ptr 1000 0), (4, .ptr 1001 0), (7, .ptr 5001 0), (8, vb false), (9, vi ((0 : Nat) : Int))] [(1000, bTr (t)), (1001, .var zTr), (5001, .var [vi 7, vb false, vb false, nilv, vi 0, vs (ba []), .own 10000003, .own 10000004]), (10000003, .sl 9 .str (mK ([]))), (10000004, .sl 28 .tree (mV ([])))] rfl).rk [(1000, 1000), (1001, 1001), (90000001, 5001), (90000002, 10000003), (90000003, 10000004)])
 rintro ⟨i, acc, done⟩ hJ a w hs
 try dsimp only at hJ
 obtain ⟨⟨hi, hi2⟩, hJ⟩ := hJ
 have hln := hJ.len
 have hl1 : (mK acc).length = acc.length := List.length_map _
 have hl2 : (mV acc).length = acc.length := List.length_map _
 refine wp_seq ?_
 rcases bd ((i : Int) < (t.k.length : Int)) with ⟨b2, n2⟩ | ⟨b2, n2⟩
 rcases bd ((i : Int) < (t.v.length : Int)) with ⟨b3, n3⟩ | ⟨b3, n3⟩
 refine wL hs hI [(7, rg [] [6, 7, 8, 9, 10, 1011] [])] (bz 1 1) 72666677777788 [q1 b2, q1 b2, q1 b2, q1 b2, q1 b2, q1 b2, q1 b3] .norm [(1, vs x), (2, .ptr 1000 0), (4, .ptr 1001 0), (7, .ptr 90000001 0), (8, vb done), (9, vi (i : Int))] [(1000, bTr (t)), (1001, .var zTr), (90000001, .var [vi 7, vb false, vb false, nilv, vi 0, vs (ba []), .own 90000002, .own 90000003]), (90000002, .sl 9 .str (mK acc)), (90000003, .sl 28 .tree (mV acc))] tv fun a w hs => ?_
 refine then_norm ?_
 rcases bt (done) with b4 | b4
 refine wL hs hI [(9, rg [] [] [3, 4, 5, 6, 7, 8, 9, 1010])] (bz 1 0) 1712966666187171871708972966733333338 [q1 (ng1 b4), q1 (ng1 b4), q1 (ng1 b4), q1 (ng1 b4), q1 (ng1 b4), q1 (ng1 b4), q1 (ng1 b4), q1 (ng1 b4), q0 false, q4 (i : Int) t.k.length, q7 ((mK acc).length) 1 16, q4 (i : Int) t.v.length, q7 ((mV acc).length) 1 120, q3 ((i : Int) + 1)] .norm [(1, vs x), (2, .ptr 1000 0), (4, .ptr 1001 0), (7, .ptr 90000001 0), (8, vb done), (9, vi ((i : Int) + 1))] [(1000, bTr (t)), (1001, .var zTr), (12008, .sl 9 .str ((mK acc) ++ ([(t.k.getD i (dflt .str))]))), (12017, .sl 28 .tree ((mV acc) ++ ([(Tree.et (t.v.getD i (dflt .tree)))]))), (90000001, .var [vi 7, vb false, vb false, nilv, vi 0, vs (ba []), .own 12008, .own 12017])] tv fun a w hs => ?_
 refine then_norm ⟨(i + 1, acc ++ [(t.k.getD i (dflt .str), t.v.getD i (dflt .tree))], done), ⟨⟨by omega, by omega⟩, hJ.on hk7 (by omega) (by omega) (.inl b4)⟩, by omega, ?_⟩
 (have e0_ : ((i : Int) + 1) = ((((i + 1) : Nat) : Int)) := (by first | rfl | (first | rfl | (simp only [mK_add, mV_add, Tree.eta']; rfl) | (simp [mK, mV, Tree.eta']; done))); have e1_ : ((mK acc) ++ ([(t.k.getD i (dflt .str))])) = (mK (acc ++ [(t.k.getD i (dflt .str), t.v.getD i (dflt .tree))])) := (by first | rfl | (first | rfl | (simp only [mK_add, mV_add, Tree.eta']; rfl) | (simp [mK, mV, Tree.eta']; done))); have e2_ : ((mV acc) ++ ([(Tree.et (t.v.getD i (dflt .tree)))])) = (mV (acc ++ [(t.k.getD i (dflt .str), t.v.getD i (dflt .tree))])) := (by first | rfl | (first | rfl | (simp only [mK_add, mV_add, Tree.eta']; rfl) | (simp [mK, mV, Tree.eta']; done))); exact (hs.cst [(1, vs x), (2, .ptr 1000 0), (4, .ptr 1001 0), (7, .ptr 90000001 0), (8, vb done), (9, vi (((i + 1) : Nat) : Int))] [(1000, bTr (t)), (1001, .var zTr), (12008, .sl 9 .str (mK (acc ++ [(t.k.getD i (dflt .str), t.v.getD i (dflt .tree))]))), (12017, .sl 28 .tree (mV (acc ++ [(t.k.getD i (dflt .str), t.v.getD i (dflt .tree))]))), (90000001, .var [vi 7, vb false, vb false, nilv, vi 0, vs (ba []), .own 12008, .own 12017])] (by first | (rw [e0_, e1_, e2_]; done) | (simp only [e0_, e1_, e2_]; done) | rfl | (simp only [e0_, e1_, e2_]; rfl))).rk [(1000, 1000), (1001, 1001), (90000001, 90000001), (90000002, 12008), (90000003, 12017)])
 rcases bq ((t.k.getD i (dflt .str)).toList) (x.toList) with ⟨b5, n5⟩ | ⟨b5, n5⟩
 refine wL hs hI [(9, rg [] [3, 4, 5, 6, 7, 8, 9, 1010] [])] (bz 1 1) 171291217966667777337778 [q1 (ng0 b4), q1 (ng0 b4), q1 (ng0 b4), q1 (ng0 b4), q4 (i : Int) t.k.length, q1 (ng0 b4), q1 (ng0 b4), q1 (ng0 b4), q1 (ng0 b4), q1 b5, q3 ((i : Int) + 1)] .norm [(1, vs x), (2, .ptr 1000 0), (4, .ptr 1001 0), (7, .ptr 90000001 0), (8, vb true), (9, vi ((i : Int) + 1))] [(1000, bTr (t)), (1001, .var zTr), (90000001, .var [vi 7, vb false, vb false, nilv, vi 0, vs (ba []), .own 90000002, .own 90000003]), (90000002, .sl 9 .str (mK acc)), (90000003, .sl 28 .tree (mV acc))] tv fun a w hs => ?_
 refine then_norm ⟨(i + 1, acc, true), ⟨⟨by omega, by omega⟩, hJ.hit hk7 (by omega) (by omega) b4 b5⟩, by omega, ?_⟩
 exact hs.rk [(1000, 1000), (1001, 1001), (90000001, 90000001), (90000002, 90000002), (90000003, 90000003)]
 refine wL hs hI [(9, rg [] [3, 4, 5, 6, 7, 8, 9, 1010] [])] (bz 1 0) 171296666618717187170897966667777337778 [q1 (ng0 b4), q1 (ng0 b4), q1 (ng0 b4), q1 (ng0 b4), q4 (i : Int) t.k.length, q1 (ng0 b4), q1 (ng0 b4), q1 (ng0 b4), q1 (ng0 b4), q1 b5, q4 (i : Int) t.k.length, q7 ((mK acc).length) 1 16, q4 (i : Int) t.v.length, q7 ((mV acc).length) 1 120, q3 ((i : Int) + 1)] .norm [(1, vs x), (2, .ptr 1000 0), (4, .ptr 1001 0), (7, .ptr 90000001 0), (8, vb done), (9, vi ((i : Int) + 1))] [(1000, bTr (t)), (1001, .var zTr), (12008, .sl 9 .str ((mK acc) ++ ([(t.k.getD i (dflt .str))]))), (12017, .sl 28 .tree ((mV acc) ++ ([(Tree.et (t.v.getD i (dflt .tree)))]))), (90000001, .var [vi 7, vb false, vb false, nilv, vi 0, vs (ba []), .own 12008, .own 12017])] tv fun a w hs => ?_
 refine then_norm ⟨(i + 1, acc ++ [(t.k.getD i (dflt .str), t.v.getD i (dflt .tree))], done), ⟨⟨by omega, by omega⟩, hJ.on hk7 (by omega) (by omega) (.inr b5)⟩, by omega, ?_⟩
 (have e0_ : ((i : Int) + 1) = ((((i + 1) : Nat) : Int)) := (by first | rfl | (first | rfl | (simp only [mK_add, mV_add, Tree.eta']; rfl) | (simp [mK, mV, Tree.eta']; done))); have e1_ : ((mK acc) ++ ([(t.k.getD i (dflt .str))])) = (mK (acc ++ [(t.k.getD i (dflt .str), t.v.getD i (dflt .tree))])) := (by first | rfl | (first | rfl | (simp only [mK_add, mV_add, Tree.eta']; rfl) | (simp [mK, mV, Tree.eta']; done))); have e2_ : ((mV acc) ++ ([(Tree.et (t.v.getD i (dflt .tree)))])) = (mV (acc ++ [(t.k.getD i (dflt .str), t.v.getD i (dflt .tree))])) := (by first | rfl | (first | rfl | (simp only [mK_add, mV_add, Tree.eta']; rfl) | (simp [mK, mV, Tree.eta']; done))); exact (hs.cst [(1, vs x), (2, .ptr 1000 0), (4, .ptr 1001 0), (7, .ptr 90000001 0), (8, vb done), (9, vi (((i + 1) : Nat) : Int))] [(1000, bTr (t)), (1001, .var zTr), (12008, .sl 9 .str (mK (acc ++ [(t.k.getD i (dflt .str), t.v.getD i (dflt .tree))]))), (12017, .sl 28 .tree (mV (acc ++ [(t.k.getD i (dflt .str), t.v.getD i (dflt .tree))]))), (90000001, .var [vi 7, vb false, vb false, nilv, vi 0, vs (ba []), .own 12008, .own 12017])] (by first | (rw [e0_, e1_, e2_]; done) | (simp only [e0_, e1_, e2_]; done) | rfl | (simp only [e0_, e1_, e2_]; rfl))).rk [(1000, 1000), (1001, 1001), (90000001, 90000001), (90000002, 12008), (90000003, 12017)])
 refine wL hs hI [(7, rg [] [6, 7, 8, 9, 10, 1011] [])] (bz 1 0) 72666677777788 [q1 b2, q1 b2, q1 b2, q1 b2, q1 b2, q1 b2, q1 b3] (.exit 0) [(4, .ptr 1001 0), (7, .ptr 90000001 0)] [(1001, .var zTr), (90000001, .var [vi 7, vb false, vb false, nilv, vi 0, vs (ba []), .own 90000002, .own 90000003]), (90000002, .sl 9 .str (mK acc)), (90000003, .sl 28 .tree (mV acc))] tv fun a w hs => ?_
 refine then_exit ?_
 refine then_exit ?_
 refine inb_hit ?_
 refine then_norm ?_
 refine wN hs hI [] 198 [] .ret [(4, .ptr 1001 0)] [(1001, .var [vi 7, vb false, vb false, nilv, vi 0, vs (ba []), .own 90000002, .own 90000003]), (90000002, .sl 9 .str (mK acc)), (90000003, .sl 28 .tree (mV acc))] fun a w hs => ?_
 exact rK (.val (.agg [vi 7, vb false, vb false, rwU ([]), vi 0, vs (ba []), rwS (mK acc), rwT (mV acc)])) [90000002, 90000003] hs (by rw [hJ.fin hbx (mems_end (by omega))]; rfl)
 refine wL hs hI [(7, rg [] [] [6, 7, 8, 9, 10, 1011])] (bz 1 0) 766673333388 [q1 b2, q1 b2, q1 b2, q1 b2, q1 b2, q1 b2, q0 false] (.exit 0) [(4, .ptr 1001 0), (7, .ptr 90000001 0)] [(1001, .var zTr), (90000001, .var [vi 7, vb false, vb false, nilv, vi 0, vs (ba []), .own 90000002, .own 90000003]), (90000002, .sl 9 .str (mK acc)), (90000003, .sl 28 .tree (mV acc))] tv fun a w hs => ?_
 refine then_exit ?_
 refine then_exit ?_
 refine inb_hit ?_
 refine then_norm ?_
 refine wN hs hI [] 198 [] .ret [(4, .ptr 1001 0)] [(1001, .var [vi 7, vb false, vb false, nilv, vi 0, vs (ba []), .own 90000002, .own 90000003]), (90000002, .sl 9 .str (mK acc)), (90000003, .sl 28 .tree (mV acc))] fun a w hs => ?_
 exact rK (.val (.agg [vi 7, vb false, vb false, rwU ([]), vi 0, vs (ba []), rwS (mK acc), rwT (mV acc)])) [90000002, 90000003] hs (by rw [hJ.fin hbx (mems_end (by omega))]; rfl)
 refine wL hs hI [(1, rc [(2, ciV 24 [aTr (t), vs x] (.tup [aTr ((memV t x)), vb (memB t x)]))])] (bz 1 1) 19079826618840 [q1 (ng0 b1)] .ret [(4, .ptr 1001 0)] [(1001, bTr (t))] ⟨con69 _ _ (by omega), tv⟩ fun a w hs => ?_
 refine then_ret ?_
 exact rK (.val (aTr (t))) [] hs (by unfold unsetT; rw [if_neg (by rw [b1]; decide)])
abbrev pAt (l : List (List ByteArray)) (i : Nat) : List ByteArray := l.getD i (dflt .strs)
def coverB (l : List (List ByteArray)) (i k : Nat) : Bool := startsF (pAt l k) (pAt l i) && (decide (((pAt l k).length : Int) < ((pAt l i).length : Int)) || decide ((k : Int) < (i : Int)))
def keepF (l : List (List ByteArray)) (i : Nat) : Bool := (List.range l.length).all fun k => !coverB l i k
structure NrmJ (l : List (List ByteArray)) (i : Nat) (m : List (List ByteArray)) : Prop where
 le : i ≤ l.length
 srt : m.Pairwise Le
 nd : m.Nodup
 mem : ∀ x, x ∈ m ↔ ∃ j, j < i ∧ keepF l j = true ∧ pAt l j = x
 len : m.length ≤ i
theorem NrmJ.start (l : List (List ByteArray)) : NrmJ l 0 [] := ⟨Nat.zero_le _, List.Pairwise.nil, List.nodup_nil, fun x => ⟨fun h => by simp at h, fun ⟨j, h, _⟩ => absurd h (Nat.not_lt_zero _)⟩, Nat.le_refl _⟩
theorem NrmJ.skip {l : List (List ByteArray)} {i : Nat} {m : List (List ByteArray)} (h : NrmJ l i m) (hi : i < l.length) (hk : keepF l i = false) : NrmJ l (i + 1) m := by
 refine ⟨by omega, h.srt, h.nd, fun x => ?_, by have := h.len; omega⟩
 rw [h.mem x]
 refine ⟨fun ⟨j, h1, h2, h3⟩ => ⟨j, by omega, h2, h3⟩, fun ⟨j, h1, h2, h3⟩ => ⟨j, ?_, h2, h3⟩⟩
 rcases Nat.lt_succ_iff_lt_or_eq.1 h1 with h4 | h4
 exact h4
 subst h4; rw [hk] at h2; cases h2
theorem keep_yes {l : List (List ByteArray)} {i : Nat} (h : keepF l i = true) {k : Nat} (hk : k < l.length) (hs : startsF (pAt l k) (pAt l i) = true) : ¬ (pAt l k).length < (pAt l i).length ∧ ¬ k < i := by
 have h1 := List.all_eq_true.1 h k (by simpa using hk)
 unfold coverB at h1
 rw [hs, Bool.true_and, Bool.not_eq_true', Bool.or_eq_false_iff] at h1
 have h2 := of_decide_eq_false h1.1
 have h3 := of_decide_eq_false h1.2
 omega
structure InsJ (x : List ByteArray) (m : List (List ByteArray)) (k : Nat) : Prop where
 le : k ≤ m.length
 up : ∀ j, k ≤ j → j < m.length → cmpS x (pAt m j) < 0
theorem InsJ.start (x : List ByteArray) (m : List (List ByteArray)) : InsJ x m m.length := ⟨Nat.le_refl _, fun j h1 h2 => absurd h2 (by omega)⟩
theorem InsJ.on {x : List ByteArray} {m : List (List ByteArray)} {k : Nat} (h : InsJ x m k) (hk : 0 < k) (hl : cmpS x (pAt m (k - 1)) < 0) : InsJ x m (k - 1) := by
 refine ⟨by have := h.le; omega, fun j h1 h2 => ?_⟩
 rcases Nat.lt_or_ge j k with h3 | h3
 rw [show j = k - 1 by omega]; exact hl
 exact h.up j h3 h2
theorem getD_at {m : List (List ByteArray)} {j : Nat} (h : j < m.length) : pAt m j = m[j] := by
 unfold pAt; rw [List.getD_eq_getElem?_getD, List.getElem?_eq_getElem h]; rfl
theorem le_last {m : List (List ByteArray)} (hs : m.Pairwise Le) {j k : Nat} (h : j ≤ k) (hk : k < m.length) : Le (pAt m j) (pAt m k) := by
 rcases Nat.lt_or_eq_of_le h with h1 | h1
 rw [getD_at hk, getD_at (show j < m.length by omega)]
 exact List.pairwise_iff_getElem.1 hs j k (by omega) hk h1
 subst h1; exact Le.refl _
theorem insP_sorted {x : List ByteArray} {m : List (List ByteArray)} {k : Nat} (hs : m.Pairwise Le) (h : InsJ x m k) (h0 : k = 0 ∨ ¬ cmpS x (pAt m (k - 1)) < 0) : (m.take k ++ [x] ++ m.drop k).Pairwise Le := by
 have hle := h.le
 have h1 : ∀ a ∈ m.take k, Le a x := fun a ha => by
  obtain ⟨j, hj, rfl⟩ := List.mem_iff_getElem.1 ha
  rw [List.length_take] at hj
  rcases h0 with h0 | h0
  omega
  have h2 := le_last hs (j := j) (k := k - 1) (by omega) (by omega)
  rw [List.getElem_take, ← getD_at (show j < m.length by omega)]
  exact h2.trans h0
 have h2 : ∀ b ∈ m.drop k, Le x b := fun b hb => by
  obtain ⟨j, hj, rfl⟩ := List.mem_iff_getElem.1 hb
  rw [List.length_drop] at hj
  rw [List.getElem_drop, ← getD_at (show k + j < m.length by omega)]
  have h3 := h.up (k + j) (by omega) (by omega)
  intro h4
  have h5 := cmpS_trans h3 h4
  rw [cmpS_self] at h5
  exact absurd h5 (by decide)
 have hm := hs
 rw [← List.take_append_drop k m, List.pairwise_append] at hm
 rw [List.append_assoc, List.pairwise_append]
 refine ⟨hm.1, ?_, fun a ha b hb => ?_⟩
 rw [List.singleton_append, List.pairwise_cons]
 exact ⟨h2, hm.2.1⟩
 rw [List.singleton_append, List.mem_cons] at hb
 rcases hb with rfl | hb
 exact h1 a ha
 exact hm.2.2 a ha b hb
theorem insP_perm (x : List ByteArray) (m : List (List ByteArray)) (k : Nat) : (m.take k ++ [x] ++ m.drop k).Perm (x :: m) := by
 rw [List.append_assoc, List.singleton_append]
 refine List.perm_middle.trans ?_
 rw [List.take_append_drop]
theorem NrmJ.put {l : List (List ByteArray)} {i k : Nat} {m : List (List ByteArray)} (h : NrmJ l i m) (hi : i < l.length) (hk : keepF l i = true) (hins : InsJ (pAt l i) m k) (h0 : k = 0 ∨ ¬ cmpS (pAt l i) (pAt m (k - 1)) < 0) : NrmJ l (i + 1) (m.take k ++ [pAt l i] ++ m.drop k) := by
 have hp := insP_perm (pAt l i) m k
 refine ⟨by omega, insP_sorted h.srt hins h0, hp.nodup_iff.2 (List.nodup_cons.2 ⟨fun hm => ?_, h.nd⟩), fun x => ?_, by rw [hp.length_eq, List.length_cons]; have := h.len; omega⟩
 obtain ⟨j, h1, h2, h3⟩ := (h.mem _).1 hm
 exact (keep_yes hk (k := j) (by omega) (by rw [h3]; exact starts_self _)).2 h1
 rw [hp.mem_iff, List.mem_cons, h.mem x]
 constructor
 rintro (rfl | ⟨j, h1, h2, h3⟩)
 exact ⟨i, by omega, hk, rfl⟩
 exact ⟨j, by omega, h2, h3⟩
 rintro ⟨j, h1, h2, h3⟩
 rcases Nat.lt_succ_iff_lt_or_eq.1 h1 with h4 | h4
 exact .inr ⟨j, h4, h2, h3⟩
 subst h4; exact .inl h3.symm
theorem first_of {l : List (List ByteArray)} {x : List ByteArray} (h : x ∈ l) : ∃ i, i < l.length ∧ pAt l i = x ∧ ∀ j, j < i → pAt l j ≠ x := by
 induction l with
 | nil => simp at h
 | cons y l ih =>
  by_cases he : y = x
  exact ⟨0, by simp, he, fun j hj => absurd hj (Nat.not_lt_zero _)⟩
  obtain ⟨i, h1, h2, h3⟩ := ih (by rcases List.mem_cons.1 h with h | h; exact absurd h.symm he; exact h)
  refine ⟨i + 1, by simp; omega, h2, fun j hj => ?_⟩
  rcases j with _ | j
  exact he
  exact h3 j (by omega)
theorem NrmJ.fin {l : List (List ByteArray)} {i : Nat} {m : List (List ByteArray)} (h : NrmJ l i m) (hi : i = l.length) : m = normF l := by
 subst hi
 refine List.Perm.eq_of_pairwise (le := Le) (fun a b _ _ h1 h2 => cmpS_anti h2 h1) h.srt (normF_sorted l) ?_
 rw [List.perm_ext_iff_of_nodup h.nd (norm_nodup l)]
 intro x
 rw [h.mem x, norm_iff]
 constructor
 rintro ⟨j, h1, h2, rfl⟩
 refine ⟨getD_mem h1 _, fun y hy hs => ?_⟩
 obtain ⟨k, hk, rfl⟩ := List.mem_iff_getElem.1 hy
 rw [← getD_at hk] at hs ⊢
 have h3 := keep_yes h2 hk hs
 exact (starts_iff.1 hs).eq_of_length_le (by omega)
 rintro ⟨h1, h2⟩
 obtain ⟨j, h3, h4, h5⟩ := first_of h1
 refine ⟨j, h3, ?_, h4⟩
 refine all_yes' (fun k hk => ?_)
 cases hc : coverB l j k with
 | false => rfl
 | true =>
  exfalso
  unfold coverB at hc
  rw [Bool.and_eq_true, h4] at hc
  have h6 := h2 _ (getD_mem hk (dflt .strs)) hc.1
  have h7 := hc.2
  rw [show pAt l k = x from h6] at h7
  simp at h7
  exact h5 k (by omega) h6
structure OneN (n : Nat) (t : Tree) : Prop where
 own : ownO t = true
 ok : Ok t.n.m
 len : t.n.m.length ≤ 3
 k : t.k.length ≤ n
 sorted : ((mems t).map (·.1)).Pairwise ltB
 texts : ∀ p ∈ mems t, textOk p.1 = true
def GoodN (n : Nat) : Nat → Tree → Prop
 | 0, _ => False
 | d + 1, t => OneN n t ∧ t.v.length ≤ n ∧ ∀ u ∈ t.v, GoodN n d u
def MemN (n d : Nat) (t : Tree) : Prop := (mems t).length ≤ n ∧ ((mems t).map (·.1)).Pairwise ltB ∧ ∀ p ∈ mems t, textOk p.1 = true ∧ GoodN n d p.2
theorem goodN_T : ∀ {d : Nat} {t : Tree}, GoodT d t → GoodN 3 d t
 | 0, _, h => h.elim
 | d + 1, t, ⟨h1, h2, h3⟩ => ⟨⟨h1.own, h1.ok, h1.len, h1.k, h1.sorted, h1.texts⟩, h2, fun u hu => goodN_T (h3 u hu)⟩
theorem goodN_mono {n m : Nat} (hn : n ≤ m) : ∀ {d e : Nat} {t : Tree}, d ≤ e → GoodN n d t → GoodN m e t
 | 0, _, _, _, h => h.elim
 | d + 1, 0, _, hd, _ => absurd hd (Nat.not_succ_le_zero d)
 | d + 1, e + 1, t, hd, ⟨h1, h2, h3⟩ => ⟨⟨h1.own, h1.ok, h1.len, Nat.le_trans h1.k hn, h1.sorted, h1.texts⟩, Nat.le_trans h2 hn, fun u hu => goodN_mono hn (Nat.le_of_succ_le_succ hd) (h3 u hu)⟩
theorem goodN_fine {n : Nat} (hn : n < 1000000000) : ∀ {d : Nat} {t : Tree}, GoodN n d t → fineT t
 | 0, _, h => h.elim
 | d + 1, t, ⟨h1, h2, h3⟩ => by
  have hl : ∀ l : List Tree, (∀ u ∈ l, fineT u) → fineL l := by
   intro l
   induction l with
   | nil => intro _; trivial
   | cons x l ih => exact fun h => ⟨h x (by simp), ih (fun u hu => h u (by simp [hu]))⟩
  rw [fine_eq]
  exact ⟨⟨h1.ok, by have := h1.len; omega, by have := h1.k; omega, by omega⟩, hl _ (fun u hu => goodN_fine hn (h3 u hu))⟩
theorem chk_goodN {n : Nat} : ∀ {d : Nat} {t : Tree} {e l : Int}, GoodN n d t → e + d ≤ 65 → (nodes t : Int) ≤ l → (chk t e l).1 = true ∧ (chk t e l).2 = l - nodes t
 | 0, _, _, _, h, _, _ => h.elim
 | d + 1, t, e, l, ⟨h1, h2, h3⟩, he, hl => by
  have hn := nodes_eq t
  have key : ∀ (v : List Tree) (l : Int), (∀ u ∈ v, GoodN n d u) → (nodesL v : Int) ≤ l → (chkL v (e + 1) l).1 = true ∧ (chkL v (e + 1) l).2 = l - nodesL v := by
   intro v
   induction v with
   | nil => intro l _ _; simp [chkL, nodesL]
   | cons x v ih =>
    intro l hv hl
    simp only [nodesL] at hl
    have hx := chk_goodN (e := e + 1) (l := l) (hv x (by simp)) (by omega) (by omega)
    simp only [chkL]
    rw [if_pos hx.1, hx.2]
    have := ih (l - nodes x) (fun u hu => hv u (by simp [hu])) (by omega)
    simp only [nodesL]
    exact ⟨this.1, by rw [this.2]; omega⟩
  rw [chk_eq, if_neg (by
   rintro (h | h | h)
   ·omega
   ·omega
   ·rw [h1.own] at h; cases h)]
  have := key t.v (l - 1) h3 (by omega)
  exact ⟨this.1, by rw [this.2]; omega⟩
theorem goodN_mem {n d : Nat} {t : Tree} (h : GoodN n (d + 1) t) : MemN n d t := ⟨by have := mems_lev t; have := h.2.1; omega, h.1.sorted, fun p hp => ⟨h.1.texts p hp, h.2.2 _ (mems_in hp)⟩⟩
theorem look_mem {x : ByteArray} : ∀ {l : Mem} {u : Tree}, lookA x l = some u → (x, u) ∈ l
 | [], _, h => by simp [lookA] at h
 | (y, z) :: l, u, h => by
  simp only [lookA] at h
  split at h
  rename_i he
  rw [eqT_iff] at he
  subst he
  rw [Option.some.inj h]; exact List.mem_cons_self ..
  exact List.mem_cons_of_mem _ (look_mem h)
theorem obj_goodN {n d : Nat} {L : Mem} (hn : n ≤ 300) (h1 : L.length ≤ n) (h2 : (L.map (·.1)).Pairwise ltB) (h3 : ∀ p ∈ L, textOk p.1 = true ∧ GoodN n d p.2) : GoodN n (d + 1) (objM L) := by
 refine ⟨⟨own_obj (by omega) h2 (fun p hp => (h3 p hp).1), Ok.nil, Nat.zero_le _, ?_, by rw [mems_objM]; exact h2, by rw [mems_objM]; exact fun p hp => (h3 p hp).1⟩, ?_, fun u hu => ?_⟩
 show (L.map (·.1)).length ≤ n; rw [List.length_map]; exact h1
 show (L.map (·.2)).length ≤ n; rw [List.length_map]; exact h1
 obtain ⟨p, hp, rfl⟩ := List.mem_map.1 (show u ∈ L.map (·.2) from hu)
 exact (h3 p hp).2
theorem setN {n d : Nat} {t u : Tree} {x : ByteArray} (hn : n + 1 ≤ 300) (hx : textOk x = true) (h : MemN n d t) (hu : GoodN (n + 1) d u) : GoodN (n + 1) (d + 1) (setT t x u) := by
 unfold setT
 refine obj_goodN hn ?_ (ins_sorted h.2.1) (fun p hp => ?_)
 have := keys_ins x u (mems t)
 have := h.1; omega
 rcases ins_mem hp with rfl | hp
 exact ⟨hx, hu⟩
 have := h.2.2 p hp
 exact ⟨this.1, goodN_mono (Nat.le_succ n) (Nat.le_refl _) this.2⟩
theorem unsetN {n d : Nat} {t : Tree} {x : ByteArray} (hn : n ≤ 300) (h : GoodN n d t) : GoodN n d (unsetT t x) := by
 unfold unsetT
 split
 cases d with
 | zero => exact h.elim
 | succ d =>
  have hm := goodN_mem h
  have hs := del_sub x (mems t)
  refine obj_goodN hn (Nat.le_trans hs.length_le hm.1) (hm.2.1.sublist (hs.map _)) (fun p hp => hm.2.2 p (hs.subset hp))
 exact h
theorem chk_own {t : Tree} {d l : Int} (h : (chk t d l).1 = true) : ownO t = true ∧ (chkL t.v (d + 1) (l - 1)).1 = true := by
 rw [chk_eq] at h
 split at h
 cases h
 rename_i hc
 refine ⟨?_, h⟩
 cases ho : ownO t with
 | true => rfl
 | false => exact absurd (.inr (.inr ho)) hc
theorem chkL_mem : ∀ {v : List Tree} {d l : Int} {c : Tree}, (chkL v d l).1 = true → c ∈ v → ∃ l', (chk c d l').1 = true
 | [], _, _, _, _, h => by simp at h
 | x :: v, d, l, c, h, hc => by
  simp only [chkL] at h
  split at h
  rename_i h1
  rcases List.mem_cons.1 hc with rfl | hc
  exact ⟨l, h1⟩
  exact chkL_mem h hc
  cases h
theorem fineL_of : ∀ {l : List Tree}, (∀ u ∈ l, fineT u) → fineL l
 | [], _ => trivial
 | x :: l, h => ⟨h x (by simp), fineL_of (fun u hu => h u (by simp [hu]))⟩
theorem fine_objM {l : Mem} (hl : l.length < 1000000000) (h : ∀ p ∈ l, fineT p.2) : fineT (objM l) := by
 rw [fine_eq]
 refine ⟨⟨Ok.nil, by show (0 : Nat) < 1000000000; decide, ?_, ?_⟩, fineL_of (fun u hu => ?_)⟩
 show (l.map (·.1)).length < _; rw [List.length_map]; exact hl
 show (l.map (·.2)).length < _; rw [List.length_map]; exact hl
 obtain ⟨p, hp, rfl⟩ := List.mem_map.1 (show u ∈ l.map (·.2) from hu)
 exact h p hp
theorem mems_nodes (t : Tree) : (mems t).length ≤ nodes t := by
 have h1 := mems_lev t
 have h2 := nodes_eq t
 have h3 := nodesL_len t.v; omega
theorem fine_memV {t : Tree} (h : fineT t) (x : ByteArray) : fineT (memV t x) := by
 cases hb : memB t x with
 | true => exact fine_mem ((fine_eq t).1 h).2 (mem_cutV hb)
 | false => rw [memV_zero hb]; exact (fine_eq _).2 ⟨⟨Ok.nil, by decide, by decide, by decide⟩, trivial⟩
theorem fine_setT {t v : Tree} (ht : fineT t) (hv : fineT v) (hn : nodes t < 100000000) (x : ByteArray) : fineT (setT t x v) := by
 have h1 := keys_ins x v (mems t)
 have h2 := mems_nodes t
 refine fine_objM (by omega) (fun p hp => ?_)
 rcases ins_mem hp with rfl | hp
 exact hv
 exact fine_mem ((fine_eq t).1 ht).2 (mems_in hp)
theorem fine_unsetT {t : Tree} (ht : fineT t) (hn : nodes t < 100000000) (x : ByteArray) : fineT (unsetT t x) := by
 unfold unsetT
 split
 have h1 := (del_sub x (mems t)).length_le
 have h2 := mems_nodes t
 exact fine_objM (by omega) (fun p hp => fine_mem ((fine_eq t).1 ht).2 (mems_in ((del_sub x _).subset hp)))
 exact ht
def walkF (t : Tree) (d n : Int) : Int := if (chk t d (2000 - n)).1 = true then 2000 - (chk t d (2000 - n)).2 else -1
structure WalkJ (v : List Tree) (d n0 : Int) (i : Nat) (n : Int) : Prop where
 le : i ≤ v.length
 lo : -1 ≤ n
 hi : n ≤ 2000
 eq : if n ≥ 0 then chkL (v.drop i) (d + 1) (2000 - n) = chkL v (d + 1) (2000 - n0) else (chkL v (d + 1) (2000 - n0)).1 = false
theorem WalkJ.start {v : List Tree} {d n : Int} (h0 : 0 ≤ n) (h1 : n ≤ 2000) : WalkJ v d n 0 n := ⟨Nat.zero_le _, by omega, h1, by rw [if_pos h0]; rfl⟩
theorem walkF_in (t : Tree) {d n : Int} (h : n ≤ 2000) (h0 : 0 ≤ n) : -1 ≤ walkF t d n ∧ walkF t d n ≤ 2000 := by
 unfold walkF
 have h1 := chk_le t d (2000 - n) (by omega)
 split
 rename_i hc
 have := h1.2 hc; omega
 omega
theorem WalkJ.on {v : List Tree} {d n0 n : Int} {i : Nat} (h : WalkJ v d n0 i n) (hi : i < v.length) (hn : n ≥ 0) : WalkJ v d n0 (i + 1) (walkF (v.getD i (dflt .tree)) (d + 1) n) := by
 have hq := walkF_in (v.getD i (dflt .tree)) (d := d + 1) h.hi hn
 refine ⟨by omega, hq.1, hq.2, ?_⟩
 have he := h.eq
 rw [if_pos hn] at he
 unfold walkF
 by_cases hc : (chk (v.getD i (dflt .tree)) (d + 1) (2000 - n)).1 = true
 have h1 := chk_le (v.getD i (dflt .tree)) (d + 1) (2000 - n) (by have := h.hi; omega)
 have h2 := h.hi
 rw [if_pos hc, if_pos (by omega), show 2000 - (2000 - (chk (v.getD i (dflt .tree)) (d + 1) (2000 - n)).2) = (chk (v.getD i (dflt .tree)) (d + 1) (2000 - n)).2 by omega, ← chkL_yes hi hc]
 exact he
 rw [if_neg hc, if_neg (by omega), ← he, chkL_no hi (by simpa using hc)]
theorem WalkJ.fin {t : Tree} {d n0 n : Int} {i : Nat} (h : WalkJ t.v d (n0 + 1) i n) (hi : ¬ (i < t.v.length ∧ n ≥ 0)) (h1 : n0 + 1 ≤ 2000) (h2 : d ≤ 64) (h3 : ownO t = true) : n = walkF t d n0 := by
 have he := h.eq
 unfold walkF
 rw [chk_eq, if_neg (c := 2000 - n0 - 1 < 0 ∨ d > 64 ∨ ownO t = false) (by rintro (a | a | a); omega; omega; rw [h3] at a; cases a), show 2000 - n0 - 1 = 2000 - (n0 + 1) by omega]
 by_cases hn : n ≥ 0
 rw [if_pos hn, List.drop_of_length_le (by omega), chkL] at he
 rw [← he, if_pos rfl]; show n = 2000 - (2000 - n); omega
 rw [if_neg hn] at he
 rw [if_neg (by rw [he]; decide)]
 have := h.lo; omega
def bN (s : ByteArray) (i : Nat) : Nat := ((s.data[i]?).getD 0).toNat
def contB (s : ByteArray) (i : Nat) : Bool := decide (i < s.size) && (bN s i / 64 == 2)
def rune2 (s : ByteArray) (i : Nat) : Nat := bN s i % 32 * 64 + bN s (i + 1) % 64
def rune3 (s : ByteArray) (i : Nat) : Nat := bN s i % 16 * 4096 + bN s (i + 1) % 64 * 64 + bN s (i + 2) % 64
def rune4 (s : ByteArray) (i : Nat) : Nat := bN s i % 8 * 262144 + bN s (i + 1) % 64 * 4096 + bN s (i + 2) % 64 * 64 + bN s (i + 3) % 64
def c2B (s : ByteArray) (i : Nat) : Bool := decide ((bN s i : Int) ≥ 194) && (decide ((bN s i : Int) < 224) && contB s (i + 1))
def c3B (s : ByteArray) (i : Nat) : Bool := decide ((bN s i : Int) ≥ 224) && (decide ((bN s i : Int) < 240) && (contB s (i + 1) && contB s (i + 2)))
def c4B (s : ByteArray) (i : Nat) : Bool := decide ((bN s i : Int) ≥ 240) && (decide ((bN s i : Int) < 245) && (contB s (i + 1) && (contB s (i + 2) && contB s (i + 3))))
def runeF (s : ByteArray) (i : Nat) : Int × Int :=
 if bN s i < 128 then ((bN s i : Int), 1)
 else if c2B s i = true then ((rune2 s i : Int), 2)
 else if c3B s i = true then (if 2048 ≤ rune3 s i ∧ (rune3 s i < 55296 ∨ 57343 < rune3 s i) then ((rune3 s i : Int), 3) else (-1, 1))
 else if c4B s i = true then (if 65536 ≤ rune4 s i ∧ rune4 s i ≤ 1114111 then ((rune4 s i : Int), 4) else (-1, 1))
 else (-1, 1)
theorem rune_in (s : ByteArray) (i : Nat) : 1 ≤ (runeF s i).2 ∧ (runeF s i).2 ≤ 4 := by
 unfold runeF
 (repeat' split) <;> simp
def runesF (s : ByteArray) : Nat → Nat → List Int
 | 0, _ => []
 | b + 1, i => if i < s.size then (runeF s i).1 :: runesF s b (i + (runeF s i).2.toNat) else []
theorem runes_end (s : ByteArray) (b i : Nat) (h : ¬ i < s.size) : runesF s b i = [] := by
 cases b with
 | zero => rfl
 | succ b => rw [runesF, if_neg h]
structure RunJ (s : ByteArray) (i : Nat) (acc : List Int) : Prop where
 len : acc.length ≤ i
 le : i ≤ s.size + 4
 eq : ∃ b, acc ++ runesF s b i = runesF s s.size 0 ∧ s.size ≤ i + b
theorem RunJ.start (s : ByteArray) : RunJ s 0 [] := ⟨Nat.zero_le _, Nat.zero_le _, s.size, rfl, by omega⟩
theorem RunJ.on {s : ByteArray} {i : Nat} {acc : List Int} (h : RunJ s i acc) (hi : i < s.size) : RunJ s (i + (runeF s i).2.toNat) (acc ++ [(runeF s i).1]) := by
 obtain ⟨h1, h2, b, h3, h4⟩ := h
 have hr := rune_in s i
 obtain ⟨c, rfl⟩ : ∃ c, b = c + 1 := ⟨b - 1, by omega⟩
 refine ⟨by simp; omega, by omega, c, ?_, by omega⟩
 rw [runesF, if_pos hi] at h3
 rw [List.append_assoc]; exact h3
theorem RunJ.fin {s : ByteArray} {i : Nat} {acc : List Int} (h : RunJ s i acc) (hi : ¬ i < s.size) : acc = runesF s s.size 0 := by
 obtain ⟨_, _, b, h3, _⟩ := h
 rw [runes_end s b i hi, List.append_nil] at h3; exact h3
theorem p6 : (2 : Nat) ^ 6 = 64 := rfl
def digB (s : ByteArray) (i : Nat) : Bool := !decide (byteAt s (i : Int) < 48) && !decide (byteAt s (i : Int) > 57)
def numTo (s : ByteArray) : Nat → Int
 | 0 => 0
 | i + 1 => 10 * numTo s i + IntKind.wrap .u8 (byteAt s (i : Int) - 48)
def badIx (s : ByteArray) : Bool := (decide ((s.size : Int) < 1) || decide ((s.size : Int) > 4)) || (byteAt s 0 == 48 && decide ((s.size : Int) > 1))
def indexF (s : ByteArray) (m : Int) : Int × Bool :=
 if badIx s = true then (0, false) else if (List.range s.size).all (digB s) = true then (if numTo s s.size > m then (0, false) else (numTo s s.size, true)) else (0, false)
theorem wrap8_in (n : Int) : 0 ≤ IntKind.wrap .u8 n ∧ IntKind.wrap .u8 n ≤ 255 := by
 simp only [IntKind.wrap, IntKind.bits, IntKind.signed]
 simp; omega
theorem numTo_lo (s : ByteArray) : ∀ i, 0 ≤ numTo s i
 | 0 => Int.le_refl _
 | i + 1 => by
  have h := numTo_lo s i
  have h2 := wrap8_in (byteAt s (i : Int) - 48)
  simp only [numTo]; omega
theorem index_in {s : ByteArray} {m : Int} (h : (indexF s m).2 = true) : 0 ≤ (indexF s m).1 ∧ (indexF s m).1 ≤ m := by
 unfold indexF at h ⊢
 split at h
 cases h
 rename_i h1
 rw [if_neg h1]
 split at h
 rename_i h2
 rw [if_pos h2]
 split at h
 cases h
 rename_i h3
 rw [if_neg h3]
 exact ⟨numTo_lo s _, by show numTo s s.size ≤ m; omega⟩
 cases h
def childF (t : Tree) (x : ByteArray) : Tree × Bool :=
 if (t.kind == 6) = true then (if (indexF x ((t.v.length : Int) - 1)).2 = true then (t.v.getD (indexF x ((t.v.length : Int) - 1)).1.toNat (dflt .tree), true) else (memV t x, memB t x)) else (memV t x, memB t x)
def getR : List ByteArray → Tree → Tree × Bool
 | [], t => (t, true)
 | x :: p, t => if (childF t x).2 = true then getR p (childF t x).1 else (Tree.zero, false)
def withV (t : Tree) (l : List Tree) : Tree := .mk t.kind t.b t.n t.s t.k l
def putR : List ByteArray → Tree → Tree → Tree × Bool
  | [], _, v => (v, true)
  | x :: p, t, v =>
    if (childF t x).2 = true then
      (if (putR p (childF t x).1 v).2 = true then
        (if (t.kind == 7) = true then (setT t x (putR p (childF t x).1 v).1, true)
         else (withV t (t.v.set (indexF x ((t.v.length : Int) - 1)).1.toNat (putR p (childF t x).1 v).1), true))
       else (Tree.zero, false))
    else (Tree.zero, false)
theorem child_six {t : Tree} {x : ByteArray} (h : (childF t x).2 = true) (h7 : ¬ t.kind = 7) : t.kind = 6 ∧ (indexF x ((t.v.length : Int) - 1)).2 = true := by
 have hm : memB t x = false := by
  cases hb : memB t x with
  | false => rfl
  | true => exact absurd (mem_kind hb) h7
 unfold childF at h
 split at h
 rename_i h6
 split at h
 rename_i hi; exact ⟨eq_of_beq h6, hi⟩
 rw [hm] at h; cases h
 rw [hm] at h; cases h
def itemsT (l : List Tree) : Tree := .mk 6 false ⟨false, [], 0⟩ (ba []) [] l
abbrev upF (p : List ByteArray) : List ByteArray := p.take ((p.length : Int) - 1).toNat
abbrev lastF (p : List ByteArray) : ByteArray := p.getD ((p.length : Int) - 1).toNat (dflt .str)
def insV (l : List Tree) (n : Nat) (v : Tree) : List Tree := (l.take n ++ [v]) ++ l.drop n
def delV (l : List Tree) (i : Int) : List Tree := l.take i.toNat ++ l.drop (i + 1).toNat
def addR (t : Tree) (p : List ByteArray) (v : Tree) : Tree × Bool :=
  if ((p.length : Int) == 0) = true then (v, true)
  else if (getR (upF p) t).2 = true then
    (if ((getR (upF p) t).1.kind == 7) = true then putR (upF p) t (setT (getR (upF p) t).1 (lastF p) v)
     else if ((getR (upF p) t).1.kind == 6) = true then
       (if ((lastF p).toList == (ba [45]).toList) = true then putR (upF p) t (itemsT (insV (getR (upF p) t).1.v (getR (upF p) t).1.v.length v))
        else if (indexF (lastF p) ((getR (upF p) t).1.v.length : Int)).2 = true then putR (upF p) t (itemsT (insV (getR (upF p) t).1.v (indexF (lastF p) ((getR (upF p) t).1.v.length : Int)).1.toNat v))
        else (Tree.zero, false))
     else (Tree.zero, false))
  else (Tree.zero, false)
def removeR (t : Tree) (p : List ByteArray) : Tree × Bool :=
  if ((p.length : Int) == 0) = true then (Tree.zero, false)
  else if (getR p t).2 = true then
    (if ((getR (upF p) t).1.kind == 7) = true then putR (upF p) t (unsetT (getR (upF p) t).1 (lastF p))
     else putR (upF p) t (itemsT (delV (getR (upF p) t).1.v (indexF (lastF p) (((getR (upF p) t).1.v.length : Int) - 1)).1)))
  else (Tree.zero, false)
def moveR (t : Tree) (a b : List ByteArray) : Tree × Bool :=
  if (getR a t).2 = true then
    (if (startsF a b && decide ((a.length : Int) < (b.length : Int))) = true then (Tree.zero, false)
     else if ((a.length : Int) == (b.length : Int) && startsF a b) = true then (t, true)
     else if (removeR t a).2 = true then addR (removeR t a).1 b (getR a t).1 else (Tree.zero, false))
  else (Tree.zero, false)
def oneR (t : Tree) (k : Int) (p f : List ByteArray) (v : Tree) : Tree × Bool :=
 if (k == 1) = true then addR t p v else if (k == 2) = true then removeR t p else if (k == 3) = true then putR p t v else if (k == 4) = true then moveR t f p
 else if (k == 5) = true then (if (getR f t).2 = true then addR t p (getR f t).1 else (Tree.zero, false))
 else if (k == 6 && ((getR p t).2 && sameT (getR p t).1 v)) = true then (t, true) else (Tree.zero, false)
theorem getR_up : ∀ {p : List ByteArray} {t : Tree}, 0 < p.length → (getR p t).2 = true → (getR (upF p) t).2 = true ∧ childF (getR (upF p) t).1 (lastF p) = getR p t
 | [], t, h, _ => by simp at h
 | [x], t, _, h => by
  show (getR [] t).2 = true ∧ childF (getR [] t).1 x = getR [x] t
  rw [getR] at h
  split at h
  ·rename_i hc
   refine ⟨rfl, ?_⟩
   show childF t x = _
   rw [getR, if_pos hc, getR]
   exact Prod.ext rfl hc
  ·cases h
 | x :: y :: p, t, _, h => by
  have e1 : upF (x :: y :: p) = x :: upF (y :: p) := by
   unfold upF
   rw [show (((x :: y :: p).length : Int) - 1).toNat = (((y :: p).length : Int) - 1).toNat + 1 by simp only [List.length_cons]; omega, List.take_succ_cons]
  have e2 : lastF (x :: y :: p) = lastF (y :: p) := by
   unfold lastF
   rw [show (((x :: y :: p).length : Int) - 1).toNat = (((y :: p).length : Int) - 1).toNat + 1 by simp only [List.length_cons]; omega, List.getD_cons_succ]
  rw [getR] at h
  split at h
  ·rename_i hc
   have ih := getR_up (p := y :: p) (t := (childF t x).1) (by simp) h
   rw [e1, e2, getR, if_pos hc]
   refine ⟨ih.1, ?_⟩
   rw [ih.2]
   conv => rhs; rw [getR, if_pos hc]
  ·cases h
theorem nodesL_app : ∀ (a b : List Tree), nodesL (a ++ b) = nodesL a + nodesL b
 | [], b => by simp [nodesL]
 | x :: a, b => by simp only [List.cons_append, nodesL, nodesL_app a b]; omega
theorem nodesL_cut (l : List Tree) (n : Nat) : nodesL (l.take n) + nodesL (l.drop n) = nodesL l := by rw [← nodesL_app, List.take_append_drop]
theorem remove_ix {t : Tree} {p : List ByteArray} (hp : 0 < p.length) (h : (getR p t).2 = true) (h7 : ¬ (getR (upF p) t).1.kind = 7) : 0 ≤ (indexF (lastF p) (((getR (upF p) t).1.v.length : Int) - 1)).1 ∧ (indexF (lastF p) (((getR (upF p) t).1.v.length : Int) - 1)).1 < ((getR (upF p) t).1.v.length : Int) := by
 obtain ⟨h1, h2⟩ := getR_up hp h
 have h3 := child_six (t := (getR (upF p) t).1) (x := lastF p) (by rw [h2]; exact h) h7
 have h4 := index_in h3.2
 omega
def tokW (v : Int) : ByteArray := ([ba [97], ba [48], ba [45], ba [110, 101, 119], ba [50]] : List ByteArray).getD (((v.tdiv 15).tmod 5).toNat * 1) ⟨#[]⟩
def digW (k : Int) : ByteArray := ([ba [48], ba [49], ba [50], ba [51], ba [52], ba [53], ba [54], ba [55], ba [56], ba [57]] : List ByteArray).getD ((k.tmod 10).toNat * 1) ⟨#[]⟩
def kW (t : Tree) (v : Int) : Int := (v.tdiv 5).tmod (t.v.length : Int)
def stopW (t : Tree) (v : Int) : Bool := ((v.tmod 5 == 0) || ((t.v.length : Int) == 0)) || (t.kind != 7 && t.kind != 6)
def nameW (t : Tree) (v : Int) : ByteArray := if (t.kind == 7) = true then t.k.getD (kW t v).toNat (dflt .str) else digW (kW t v)
def wayG : Nat → Tree → List Int → List ByteArray
 | 0, _, _ => []
 | _ + 1, _, [] => []
 | n + 1, t, x :: l =>
  if stopW t (placeF x 1048576) = true then (if ((placeF x 1048576).tmod 3 == 0) = true then [tokW (placeF x 1048576)] else [])
  else nameW t (placeF x 1048576) :: wayG n (t.v.getD (kW t (placeF x 1048576)).toNat (dflt .tree)) l
def wayF (t : Tree) (l : List Int) : List ByteArray := wayG 4 t l
theorem wayG_at {n i : Nat} {t : Tree} {l : List Int} (h : i < l.length) : wayG (n + 1) t (l.drop i) = if stopW t (placeF (l.getD i (dflt (.int .i64))) 1048576) = true then (if ((placeF (l.getD i (dflt (.int .i64))) 1048576).tmod 3 == 0) = true then [tokW (placeF (l.getD i (dflt (.int .i64))) 1048576)] else []) else nameW t (placeF (l.getD i (dflt (.int .i64))) 1048576) :: wayG n (t.v.getD (kW t (placeF (l.getD i (dflt (.int .i64))) 1048576)).toNat (dflt .tree)) (l.drop (i + 1)) := by
 rw [List.drop_eq_getElem_cons h, wayG]
 have e : l.getD i (dflt (.int .i64)) = l[i] := by rw [List.getD_eq_getElem?_getD, List.getElem?_eq_getElem h]; rfl
 rw [e]
theorem kW_in {t : Tree} {v : Int} (h0 : 0 ≤ v) (h : ((t.v.length : Int) == 0) = false) : 0 ≤ kW t v ∧ kW t v < (t.v.length : Int) := by
 have h1 : (t.v.length : Int) ≠ 0 := beq_eq_false_iff_ne.1 h
 have h2 : 0 ≤ v.tdiv 5 := Int.tdiv_nonneg h0 (by decide)
 unfold kW
 exact ⟨Int.tmod_nonneg _ h2, Int.tmod_lt_of_pos _ (by omega)⟩
theorem own_keys {t : Tree} (h : ownO t = true) (h7 : t.kind = 7) : t.k.length = t.v.length := by
 simp only [ownO, Bool.and_eq_true] at h
 have h1 := h.2.2.2.2.1
 unfold keysO at h1
 rw [if_pos h7, Bool.and_eq_true] at h1
 have := eq_of_beq h1.2; omega
structure WayJ (t : Tree) (l : List Int) (i : Nat) (u : Tree) (acc : List ByteArray) : Prop where
 le : i ≤ l.length
 le4 : i ≤ 4
 eq : acc ++ wayG (4 - i) u (l.drop i) = wayG 4 t l
 own : ∃ d n, (chk u d n).1 = true
 len : acc.length ≤ i
theorem WayJ.start {t : Tree} (l : List Int) (h : ∃ d n, (chk t d n).1 = true) : WayJ t l 0 t [] := ⟨Nat.zero_le _, Nat.zero_le _, rfl, h, Nat.le_refl _⟩
abbrev vW (l : List Int) (i : Nat) : Int := placeF (l.getD i (dflt (.int .i64))) 1048576
theorem vW_in (l : List Int) (i : Nat) : 0 ≤ vW l i ∧ vW l i < 1048576 := placeF_in _ _ (by decide)
theorem WayJ.on {t u : Tree} {l : List Int} {i : Nat} {acc : List ByteArray} (h : WayJ t l i u acc) (hi : i < l.length) (h4 : i < 4) (hs : stopW u (vW l i) = false) : WayJ t l (i + 1) (u.v.getD (kW u (vW l i)).toNat (dflt .tree)) (acc ++ [nameW u (vW l i)]) := by
 obtain ⟨d, n, ho⟩ := h.own
 have h5 : ((u.v.length : Int) == 0) = false := by
  unfold stopW at hs
  simp only [Bool.or_eq_false_iff] at hs
  exact hs.1.2
 have hk := kW_in (t := u) (vW_in l i).1 h5
 have he := h.eq
 obtain ⟨m, hm⟩ : ∃ m, 4 - i = m + 1 := ⟨3 - i, by omega⟩
 rw [hm, wayG_at hi, if_neg (by rw [hs]; decide)] at he
 refine ⟨by omega, by omega, ?_, ?_, by have := h.len; simp; omega⟩
 rw [show 4 - (i + 1) = m by omega, List.append_assoc]; exact he
 obtain ⟨l', h6⟩ := chkL_mem (chk_own ho).2 (getD_mem (l := u.v) (i := (kW u (vW l i)).toNat) (by omega) (dflt .tree))
 exact ⟨_, l', h6⟩
theorem WayJ.stop {t u : Tree} {l : List Int} {i : Nat} {acc : List ByteArray} (h : WayJ t l i u acc) (hi : i < l.length) (h4 : i < 4) (hs : stopW u (vW l i) = true) : wayF t l = acc ++ (if ((vW l i).tmod 3 == 0) = true then [tokW (vW l i)] else []) := by
 have he := h.eq
 obtain ⟨m, hm⟩ : ∃ m, 4 - i = m + 1 := ⟨3 - i, by omega⟩
 rw [hm, wayG_at hi, if_pos hs] at he
 exact he.symm
theorem WayJ.fin {t u : Tree} {l : List Int} {i : Nat} {acc : List ByteArray} (h : WayJ t l i u acc) (hi : ¬ (i < l.length ∧ i < 4)) : wayF t l = acc := by
 have he := h.eq
 have h1 : wayG (4 - i) u (l.drop i) = [] := by
  by_cases h4 : i < 4
  rw [List.drop_of_length_le (by omega)]
  obtain ⟨m, hm⟩ : ∃ m, 4 - i = m + 1 := ⟨3 - i, by omega⟩
  rw [hm]; rfl
  rw [show 4 - i = 0 by omega]; rfl
 rw [h1, List.append_nil] at he
 exact he.symm
theorem own_k_le {t : Tree} (h : ownO t = true) : t.k.length ≤ t.v.length := by
 by_cases h7 : t.kind = 7
 have := own_keys h h7; omega
 simp only [ownO, Bool.and_eq_true] at h
 have h1 := h.2.2.2.2.1
 unfold keysO at h1
 rw [if_neg h7] at h1
 have := eq_of_beq h1; omega
theorem goodN_len {n m : Nat} : ∀ {d : Nat} {t : Tree}, GoodN n d t → nodes t ≤ m + 1 → GoodN m d t
 | 0, _, h, _ => h.elim
 | d + 1, t, ⟨h1, h2, h3⟩, hm => by
  have e1 := nodes_eq t
  have e2 := nodesL_len t.v
  have e3 := own_k_le h1.own
  refine ⟨⟨h1.own, h1.ok, h1.len, by omega, h1.sorted, h1.texts⟩, by omega, fun u hu => goodN_len (h3 u hu) ?_⟩
  obtain ⟨i, hi, e⟩ := List.mem_iff_getElem.1 hu
  have := nodes_at hi
  rw [List.getD_eq_getElem?_getD, List.getElem?_eq_getElem hi, Option.getD_some, e] at this
  omega
theorem depth_mem : ∀ {l : List Tree} {u : Tree}, u ∈ l → depth u ≤ depthL l
 | [], _, h => by simp at h
 | x :: l, u, h => by
  simp only [depthL]
  rcases List.mem_cons.1 h with rfl | h
  exact Nat.le_max_left _ _
  exact Nat.le_trans (depth_mem h) (Nat.le_max_right _ _)
theorem goodN_depth {n : Nat} : ∀ {d e : Nat} {t : Tree}, GoodN n d t → depth t ≤ e → GoodN n e t
 | 0, _, _, h, _ => h.elim
 | d + 1, 0, t, _, h => by rw [depth_eq] at h; omega
 | d + 1, e + 1, t, ⟨h1, h2, h3⟩, h => by
  rw [depth_eq] at h
  exact ⟨h1, h2, fun u hu => goodN_depth (h3 u hu) (by have := depth_mem hu; omega)⟩
theorem depth_goodN {n : Nat} : ∀ {d : Nat} {t : Tree}, GoodN n d t → depth t ≤ d
 | 0, _, h => h.elim
 | d + 1, t, ⟨_, _, h3⟩ => by
  rw [depth_eq]
  have : ∀ l : List Tree, (∀ u ∈ l, depth u ≤ d) → depthL l ≤ d := by
   intro l
   induction l with
   | nil => intro _; exact Nat.zero_le _
   | cons x l ih => exact fun h => Nat.max_le.2 ⟨h x (by simp), ih (fun u hu => h u (by simp [hu]))⟩
  have := this t.v (fun u hu => depth_goodN (h3 u hu))
  omega
theorem good_setT {n D E : Nat} {t u : Tree} {x : ByteArray} (hn : n + 1 ≤ 300) (ht : GoodN n D t) (hx : textOk x = true) (hu : GoodN (n + 1) E u) : GoodN (n + 1) (D + E) (setT t x u) := by
 cases D with
 | zero => exact ht.elim
 | succ D =>
  have h1 : GoodN n (D + E + 1) t := goodN_mono (Nat.le_refl _) (by omega) ht
  have := setN hn hx (goodN_mem h1) (goodN_mono (Nat.le_refl _) (Nat.le_add_left E D) hu)
  rw [show D + 1 + E = D + E + 1 by omega]; exact this
theorem good_child {n d : Nat} {t : Tree} {x : ByteArray} (h : GoodN n (d + 1) t) (hb : (childF t x).2 = true) : GoodN n d (childF t x).1 := by
 unfold childF at hb ⊢
 have mem : memB t x = true → GoodN n d (memV t x) := fun hm => h.2.2 _ (mem_cutV hm)
 split
 rename_i h6
 rw [if_pos h6] at hb
 split
 rename_i hi
 have h1 := index_in hi
 exact h.2.2 _ (getD_mem (by omega) _)
 rename_i hi
 rw [if_neg hi] at hb; exact mem hb
 rename_i h6
 rw [if_neg h6] at hb; exact mem hb
theorem good_getR {n : Nat} : ∀ (p : List ByteArray) {d : Nat} {t : Tree}, GoodN n d t → (getR p t).2 = true → GoodN n d (getR p t).1
 | [], d, t, h, _ => h
 | x :: p, 0, t, h, _ => h.elim
 | x :: p, d + 1, t, h, hb => by
  rw [getR] at hb ⊢
  split
  rename_i hc
  rw [if_pos hc] at hb
  exact goodN_mono (Nat.le_refl _) (Nat.le_succ _) (good_getR p (good_child h hc) hb)
  rename_i hc
  rw [if_neg hc] at hb; cases hb
theorem good_items {n d : Nat} {l : List Tree} (hn : n ≤ 300) (hl : l.length ≤ n) (h : ∀ u ∈ l, GoodN n d u) : GoodN n (d + 1) (itemsT l) := by
 have hm : mems (itemsT l) = [] := mems_none (by show ¬ (6 : Int) = 7; decide)
 refine ⟨⟨?_, Ok.nil, Nat.zero_le _, Nat.zero_le _, by rw [hm]; exact List.Pairwise.nil, by rw [hm]; intro p hp; simp at hp⟩, hl, h⟩
 simp [ownO, truthO, numO, ownN, textO, keysO, itemsO, itemsT, Tree.kind, Tree.b, Tree.n, Tree.s, Tree.k, Tree.v]; exact decide_eq_true (by omega)
theorem good_withV {n d e : Nat} {t : Tree} {l : List Tree} (ht : GoodN n (d + 1) t) (hl : l.length = t.v.length) (h6 : t.kind = 6) (h : ∀ u ∈ l, GoodN n e u) : GoodN n (e + 1) (withV t l) := by
 obtain ⟨h1, h2, h3⟩ := ht
 have hm : mems (withV t l) = [] := mems_none (by show ¬ t.kind = 7; omega)
 refine ⟨⟨?_, h1.ok, h1.len, h1.k, by rw [hm]; exact List.Pairwise.nil, by rw [hm]; intro p hp; simp at hp⟩, by show l.length ≤ n; omega, h⟩
 have h4 := h1.own
 unfold ownO keysO itemsO at h4 ⊢
 show (decide (1 ≤ t.kind ∧ t.kind ≤ 7) && (truthO t && (numO t && (textO t && ((if t.kind = 7 then namesOk t.k && (t.k.length : Int) == (l.length : Int) else (t.k.length : Int) == 0) && (if t.kind = 7 ∨ t.kind = 6 then decide ((l.length : Int) ≤ 300) else (l.length : Int) == 0)))))) = true
 rw [hl]; exact h4
theorem good_putR {n E : Nat} {v : Tree} (hn : n + 1 ≤ 300) (hv : GoodN (n + 1) E v) : ∀ (p : List ByteArray) {D : Nat} {t : Tree}, (∀ x ∈ p, textOk x = true) → GoodN n D t → (putR p t v).2 = true → GoodN (n + 1) (D + E) (putR p t v).1
 | [], D, t, _, _, _ => goodN_mono (Nat.le_refl _) (Nat.le_add_left _ _) hv
 | x :: p, 0, t, _, h, _ => h.elim
 | x :: p, D + 1, t, hx, h, hb => by
  rw [putR] at hb ⊢
  split
  rename_i hc
  rw [if_pos hc] at hb
  split
  rename_i hi
  rw [if_pos hi] at hb
  have ih := good_putR hn hv p (fun y hy => hx y (List.mem_cons_of_mem _ hy)) (good_child h hc) hi
  split
  have hm := goodN_mono (Nat.le_refl n) (show D + 1 ≤ D + E + 1 by omega) h
  have := setN hn (hx x (List.mem_cons_self ..)) (goodN_mem hm) ih
  rw [show D + 1 + E = D + E + 1 by omega]; exact this
  rename_i h7
  have h6 := child_six hc (fun e => h7 (by rw [e]; rfl))
  have h7' := index_in h6.2
  rw [show D + 1 + E = D + E + 1 by omega]
  refine good_withV (goodN_mono (Nat.le_succ n) (Nat.le_refl _) h) (List.length_set ..) h6.1 (fun u hu => ?_)
  rcases List.mem_or_eq_of_mem_set hu with hu | rfl
  exact goodN_mono (Nat.le_succ n) (Nat.le_add_right _ _) (h.2.2 u hu)
  exact ih
  rename_i hi
  rw [if_neg hi] at hb; cases hb
  rename_i hc
  rw [if_neg hc] at hb; cases hb
theorem up_mem {p : List ByteArray} {x : ByteArray} (h : x ∈ upF p) : x ∈ p := List.mem_of_mem_take h
theorem last_mem {p : List ByteArray} (h : ¬ ((p.length : Int) == 0) = true) : lastF p ∈ p := by
 have : p.length ≠ 0 := fun e => h (by rw [e]; rfl)
 exact getD_mem (by omega) _
theorem good_addR {n D E : Nat} {t v : Tree} {p : List ByteArray} (hn : n + 1 ≤ 300) (hp : ∀ x ∈ p, textOk x = true) (ht : GoodN n D t) (hv : GoodN n E v) (h : (addR t p v).2 = true) : ∃ D', GoodN (n + 1) D' (addR t p v).1 := by
 unfold addR at h ⊢
 split
 ·exact ⟨E, goodN_mono (Nat.le_succ n) (Nat.le_refl _) hv⟩
 ·rename_i h0
  rw [if_neg h0] at h
  have hv' := goodN_mono (Nat.le_succ n) (Nat.le_refl E) hv
  have items : ∀ l : List Tree, l.length ≤ n + 1 → (∀ u ∈ l, u = v ∨ u ∈ (getR (upF p) t).1.v) → (getR (upF p) t).2 = true → GoodN (n + 1) (D + E + 1) (itemsT l) := fun l hl hu hg => by
   have hx := good_getR (upF p) ht hg
   refine good_items hn hl (fun u hm => ?_)
   rcases hu u hm with rfl | hm
   ·exact goodN_mono (Nat.le_refl _) (Nat.le_add_left _ _) hv'
   ·cases D with
    | zero => exact hx.elim
    | succ D => exact goodN_mono (Nat.le_succ n) (by omega) (hx.2.2 u hm)
  have ins : ∀ i, (getR (upF p) t).2 = true → GoodN (n + 1) (D + E + 1) (itemsT (insV (getR (upF p) t).1.v i v)) := fun i hg => by
   have hx := good_getR (upF p) ht hg
   have hl : (getR (upF p) t).1.v.length ≤ n := by cases D with
    | zero => exact hx.elim
    | succ D => exact hx.2.1
   refine items _ ?_ (fun u hu => ?_) hg
   ·unfold insV
    simp only [List.length_append, List.length_take, List.length_drop, List.length_cons, List.length_nil]; omega
   ·unfold insV at hu
    rcases List.mem_append.1 hu with hu | hu
    ·rcases List.mem_append.1 hu with hu | hu
     ·exact .inr (List.mem_of_mem_take hu)
     ·exact .inl (by simpa using hu)
    ·exact .inr (List.mem_of_mem_drop hu)
  have put : ∀ {u : Tree} {F : Nat}, GoodN (n + 1) F u → (putR (upF p) t u).2 = true → ∃ D', GoodN (n + 1) D' (putR (upF p) t u).1 := fun hu hb => ⟨_, good_putR hn hu (upF p) (fun x hx => hp x (up_mem hx)) ht hb⟩
  split
  ·rename_i hg
   rw [if_pos hg] at h
   split
   ·rename_i h7
    rw [if_pos h7] at h
    exact put (good_setT hn (good_getR (upF p) ht hg) (hp _ (last_mem h0)) hv') h
   ·rename_i h7
    rw [if_neg h7] at h
    split
    ·rename_i h6
     rw [if_pos h6] at h
     split
     ·rename_i hd
      rw [if_pos hd] at h
      exact put (ins _ hg) h
     ·rename_i hd
      rw [if_neg hd] at h
      split
      ·rename_i hi
       rw [if_pos hi] at h
       exact put (ins _ hg) h
      ·rename_i hi
       rw [if_neg hi] at h; cases h
    ·rename_i h6
     rw [if_neg h6] at h; cases h
  ·rename_i hg
   rw [if_neg hg] at h; cases h
theorem good_removeR {n D : Nat} {t : Tree} {p : List ByteArray} (hn : n + 1 ≤ 300) (hp : ∀ x ∈ p, textOk x = true) (ht : GoodN n D t) (h : (removeR t p).2 = true) : ∃ D', GoodN (n + 1) D' (removeR t p).1 := by
 unfold removeR at h ⊢
 split
 rename_i h0
 rw [if_pos h0] at h; cases h
 rename_i h0
 rw [if_neg h0] at h
 have put : ∀ {u : Tree} {F : Nat}, GoodN (n + 1) F u → (putR (upF p) t u).2 = true → ∃ D', GoodN (n + 1) D' (putR (upF p) t u).1 := fun hu hb => ⟨_, good_putR hn hu (upF p) (fun x hx => hp x (up_mem hx)) ht hb⟩
 split
 rename_i hg
 rw [if_pos hg] at h
 have hx := good_getR (upF p) ht (getR_up (p := p) (t := t) (by have : p.length ≠ 0 := fun e => h0 (by rw [e]; rfl); omega) hg).1
 split
 rename_i h7
 rw [if_pos h7] at h
 exact put (goodN_mono (Nat.le_succ n) (Nat.le_refl _) (unsetN (by omega) hx)) h
 rename_i h7
 rw [if_neg h7] at h
 refine put (F := D) ?_ h
 cases D with
 | zero => exact hx.elim
 | succ D =>
  refine good_items hn ?_ (fun u hu => ?_)
  have := hx.2.1
  have h8 := remove_ix (by have : p.length ≠ 0 := fun e => h0 (by rw [e]; rfl); omega) hg (fun e => h7 (by rw [e]; rfl))
  unfold delV
  simp only [List.length_append, List.length_take, List.length_drop]; omega
  unfold delV at hu
  rcases List.mem_append.1 hu with hu | hu
  exact goodN_mono (Nat.le_succ n) (Nat.le_refl _) (hx.2.2 u (List.mem_of_mem_take hu))
  exact goodN_mono (Nat.le_succ n) (Nat.le_refl _) (hx.2.2 u (List.mem_of_mem_drop hu))
 rename_i hg
 rw [if_neg hg] at h; cases h
theorem good_moveR {n D : Nat} {t : Tree} {a b : List ByteArray} (hn : n + 2 ≤ 300) (ha : ∀ x ∈ a, textOk x = true) (hb : ∀ x ∈ b, textOk x = true) (ht : GoodN n D t) (h : (moveR t a b).2 = true) : ∃ D', GoodN (n + 2) D' (moveR t a b).1 := by
 unfold moveR at h ⊢
 split
 rename_i hg
 rw [if_pos hg] at h
 split
 rename_i hs
 rw [if_pos hs] at h; cases h
 rename_i hs
 rw [if_neg hs] at h
 split
 exact ⟨D, goodN_mono (by omega) (Nat.le_refl _) ht⟩
 rename_i he
 rw [if_neg he] at h
 split
 rename_i hr
 rw [if_pos hr] at h
 obtain ⟨D1, h1⟩ := good_removeR (by omega) ha ht hr
 exact good_addR (n := n + 1) hn hb h1 (goodN_mono (Nat.le_succ n) (Nat.le_refl _) (good_getR a ht hg)) h
 rename_i hr
 rw [if_neg hr] at h; cases h
 rename_i hg
 rw [if_neg hg] at h; cases h
theorem good_oneR {n D E : Nat} {t v : Tree} {k : Int} {p f : List ByteArray} (hn : n + 2 ≤ 300) (hp : ∀ x ∈ p, textOk x = true) (hf : ∀ x ∈ f, textOk x = true) (ht : GoodN n D t) (hv : (k = 1 ∨ k = 3) → GoodN n E v) (h : (oneR t k p f v).2 = true) : ∃ D', GoodN (n + 2) D' (oneR t k p f v).1 := by
 have up : ∀ {u : Tree}, (∃ D', GoodN (n + 1) D' u) → ∃ D', GoodN (n + 2) D' u := fun ⟨D', h⟩ => ⟨D', goodN_mono (by omega) (Nat.le_refl _) h⟩
 unfold oneR at h ⊢
 split
 rename_i h1
 rw [if_pos h1] at h
 exact up (good_addR (by omega) hp ht (hv (.inl (eq_of_beq h1))) h)
 rename_i h1
 rw [if_neg h1] at h
 split
 rename_i h2
 rw [if_pos h2] at h
 exact up (good_removeR (by omega) hp ht h)
 rename_i h2
 rw [if_neg h2] at h
 split
 rename_i h3
 rw [if_pos h3] at h
 exact up ⟨_, good_putR (by omega) (goodN_mono (Nat.le_succ n) (Nat.le_refl _) (hv (.inr (eq_of_beq h3)))) p hp ht h⟩
 rename_i h3
 rw [if_neg h3] at h
 split
 rename_i h4
 rw [if_pos h4] at h
 exact good_moveR hn hf hp ht h
 rename_i h4
 rw [if_neg h4] at h
 split
 rename_i h5
 rw [if_pos h5] at h
 split
 rename_i hg
 rw [if_pos hg] at h
 exact up (good_addR (by omega) hp ht (good_getR f ht hg) h)
 rename_i hg
 rw [if_neg hg] at h; cases h
 rename_i h5
 rw [if_neg h5] at h
 split
 exact ⟨D, goodN_mono (by omega) (Nat.le_refl _) ht⟩
 rename_i h6
 rw [if_neg h6] at h; cases h
theorem tokW_ok (v : Int) : textOk (tokW v) = true := by
 unfold tokW
 generalize ((v.tdiv 15).tmod 5).toNat * 1 = i
 rcases i with _ | _ | _ | _ | _ | i
 kernel_rfl
 kernel_rfl
 kernel_rfl
 kernel_rfl
 kernel_rfl
 rw [List.getD_eq_getElem?_getD, List.getElem?_eq_none (by simp)]; kernel_rfl
theorem digW_ok (k : Int) : textOk (digW k) = true := by
 unfold digW
 generalize (k.tmod 10).toNat * 1 = i
 rcases i with _ | _ | _ | _ | _ | _ | _ | _ | _ | _ | i
 kernel_rfl
 kernel_rfl
 kernel_rfl
 kernel_rfl
 kernel_rfl
 kernel_rfl
 kernel_rfl
 kernel_rfl
 kernel_rfl
 kernel_rfl
 rw [List.getD_eq_getElem?_getD, List.getElem?_eq_none (by simp)]; kernel_rfl
theorem key_ok {n d : Nat} {t : Tree} (h : GoodN n d t) (h7 : t.kind = 7) {x : ByteArray} (hx : x ∈ t.k) : textOk x = true := by
 cases d with
 | zero => exact h.elim
 | succ d =>
  have h1 := own_keys h.1.own h7
  have h2 : (mems t).map (·.1) = t.k := by
   rw [mems_k]; unfold cutK; rw [if_pos h7, List.take_of_length_le (by omega)]
  rw [← h2] at hx
  obtain ⟨p, hp, rfl⟩ := List.mem_map.1 hx
  exact h.1.texts p hp
theorem way_text {n : Nat} : ∀ (f : Nat) (l : List Int) {d : Nat} {t : Tree}, GoodN n d t → ∀ x ∈ wayG f t l, textOk x = true
 | 0, _, _, _, _, x, hx => by simp [wayG] at hx
 | f + 1, [], _, _, _, x, hx => by simp [wayG] at hx
 | f + 1, y :: l, d, t, h, x, hx => by
  rw [wayG] at hx
  split at hx
  split at hx
  simp only [List.mem_singleton] at hx; subst hx; exact tokW_ok _
  simp at hx
  rename_i hs
  have hs' : stopW t (placeF y 1048576) = false := by simpa using hs
  have h5 : ((t.v.length : Int) == 0) = false := by
   unfold stopW at hs'
   simp only [Bool.or_eq_false_iff] at hs'
   exact hs'.1.2
  have hk := kW_in (t := t) (placeF_in y 1048576 (by decide)).1 h5
  cases d with
  | zero => exact h.elim
  | succ d =>
   rcases List.mem_cons.1 hx with rfl | hx
   unfold nameW
   split
   rename_i h7
   have h8 := own_keys h.1.own (eq_of_beq h7)
   exact key_ok h (eq_of_beq h7) (getD_mem (by omega) _)
   exact digW_ok _
   exact way_text f l (h.2.2 _ (getD_mem (by omega) _)) x hx
abbrev kE (l : List Int) (i : Nat) : Int := 1 + (vW l i).tmod 6
def pathE (t : Tree) (l : List Int) (i : Nat) : List ByteArray := wayF t ((l.take ((i : Int) + 4).toNat).drop ((i : Int) + 1).toNat)
def frmE (t : Tree) (l : List Int) (i : Nat) : List ByteArray := if (kE l i == 4) = true then wayF t [l.getD ((i : Int) + 4).toNat (dflt (.int .i64)), l.getD ((i : Int) + 3).toNat (dflt (.int .i64))] else if (kE l i == 5) = true then wayF t [l.getD ((i : Int) + 4).toNat (dflt (.int .i64)), l.getD ((i : Int) + 3).toNat (dflt (.int .i64))] else []
def keepE (t : Tree) (l : List Int) (i : Nat) : Bool := (getR (pathE t l i) t).2 && (decide ((vW l i).tmod 7 > 0) && decide ((nodes (getR (pathE t l i) t).1 : Int) ≤ 20))
def valE (t : Tree) (l : List Int) (i : Nat) : Tree := if (kE l i == 1) = true then (madeF 2 [l.getD ((i : Int) + 4).toNat (dflt (.int .i64)), l.getD ((i : Int) + 3).toNat (dflt (.int .i64)), l.getD ((i : Int) + 2).toNat (dflt (.int .i64))]).1 else if (kE l i == 3) = true then (madeF 2 [l.getD ((i : Int) + 4).toNat (dflt (.int .i64)), l.getD ((i : Int) + 3).toNat (dflt (.int .i64)), l.getD ((i : Int) + 2).toNat (dflt (.int .i64))]).1
 else if (kE l i == 6) = true then (if keepE t l i = true then (getR (pathE t l i) t).1 else (madeF 1 [l.getD ((i : Int) + 4).toNat (dflt (.int .i64))]).1) else Tree.zero
def eOp (t : Tree) (l : List Int) (i : Nat) : Opn := ⟨kE l i, pathE t l i, frmE t l i, valE t l i⟩
abbrev eOne (t : Tree) (l : List Int) (i : Nat) : Tree × Bool := oneR t (eOp t l i).op (eOp t l i).path (eOp t l i).frm (eOp t l i).value
def skipE (t : Tree) (l : List Int) (i : Nat) : Bool := if (eOne t l i).2 = true then decide ((nodes (eOne t l i).1 : Int) > 200) || decide ((depth (eOne t l i).1 : Int) > 20) else decide ((vW l i).tmod 11 > 0)
def nextE (t : Tree) (l : List Int) (i : Nat) : Tree := if (eOne t l i).2 = true then (eOne t l i).1 else t
def edG : Nat → Nat → Tree → List Int → List Opn
 | 0, _, _, _ => []
 | n + 1, i, t, l => if i + 4 < l.length ∧ i < 60 then (if skipE t l i = true then edG n (i + 5) t l else eOp t l i :: edG n (i + 5) (nextE t l i) l) else []
def editsF (t : Tree) (l : List Int) : List Opn := edG 13 0 t l
structure GoodE (t : Tree) : Prop where
 good : GoodN 200 20 t
 few : nodes t ≤ 200
theorem GoodE.fine {t : Tree} (h : GoodE t) : fineT t := goodN_fine (by decide) h.good
theorem GoodE.chk {t : Tree} (h : GoodE t) : ∃ d n, (chk t d n).1 = true := ⟨1, 2000, (chk_goodN h.good (by decide) (by have := h.few; omega)).1⟩
theorem path_good {t : Tree} (h : GoodE t) (l : List Int) : ∀ x ∈ wayF t l, textOk x = true := way_text 4 l h.good
theorem pathE_good {t : Tree} (h : GoodE t) (l : List Int) (i : Nat) : ∀ x ∈ pathE t l i, textOk x = true := path_good h _
theorem frm_good {t : Tree} (h : GoodE t) (l : List Int) (i : Nat) : ∀ x ∈ frmE t l i, textOk x = true := by
 unfold frmE
 split
 exact path_good h _
 split
 exact path_good h _
 intro x hx; simp at hx
theorem val_good {t : Tree} (h : GoodE t) (l : List Int) (i : Nat) : valE t l i = Tree.zero ∨ GoodN 200 20 (valE t l i) := by
 unfold valE
 split
 exact .inr (goodN_mono (by decide) (by decide) (goodN_T (good_made 2 _)))
 split
 exact .inr (goodN_mono (by decide) (by decide) (goodN_T (good_made 2 _)))
 split
 split
 rename_i hk
 unfold keepE at hk
 rw [Bool.and_eq_true] at hk
 exact .inr (good_getR _ h.good hk.1)
 exact .inr (goodN_mono (by decide) (by decide) (goodN_T (good_made 1 _)))
 exact .inl rfl
theorem next_good {t : Tree} (h : GoodE t) {l : List Int} {i : Nat} (hs : skipE t l i = false) : GoodE (nextE t l i) := by
 unfold nextE
 split
 ·rename_i hb
  unfold skipE at hs
  rw [if_pos hb, Bool.or_eq_false_iff, decide_eq_false_iff_not, decide_eq_false_iff_not] at hs
  obtain ⟨D', hg⟩ := good_oneR (n := 200) (E := 20) (p := (eOp t l i).path) (f := (eOp t l i).frm) (k := (eOp t l i).op) (v := (eOp t l i).value) (by decide) (pathE_good h l i) (frm_good h l i) h.good (fun hk => by
   rcases val_good h l i with e | e
   ·exfalso
    have hk' : kE l i = 1 ∨ kE l i = 3 := hk
    have h3 : GoodN 3 3 (valE t l i) := by
     unfold valE
     rcases hk' with hk | hk
     ·rw [if_pos (by rw [hk]; rfl)]; exact goodN_T (good_made 2 _)
     ·split
      ·exact goodN_T (good_made 2 _)
      ·rw [if_pos (by rw [hk]; rfl)]; exact goodN_T (good_made 2 _)
    rw [e] at h3
    have h4 := h3.1.own
    exact absurd h4 (by decide +kernel)
   ·exact e) hb
  exact ⟨goodN_depth (goodN_len hg (by omega)) (by omega), by omega⟩
 ·exact h
structure EdJ (t0 : Tree) (l : List Int) (i : Nat) (t : Tree) (m : List Opn) : Prop where
 ex : ∃ j n, i = 5 * j ∧ j + n = 13 ∧ m ++ edG n i t l = editsF t0 l ∧ m.length ≤ j
 good : GoodE t
theorem EdJ.start {t : Tree} (l : List Int) (h : GoodE t) : EdJ t l 0 t [] := ⟨⟨0, 13, rfl, rfl, rfl, Nat.le_refl _⟩, h⟩
theorem EdJ.le {t0 t : Tree} {l : List Int} {i : Nat} {m : List Opn} (h : EdJ t0 l i t m) : i ≤ 65 ∧ m.length ≤ 13 := by
 obtain ⟨j, n, h1, h2, _, h3⟩ := h.ex; omega
theorem EdJ.pass {t0 t : Tree} {l : List Int} {i : Nat} {m : List Opn} (h : EdJ t0 l i t m) (h1 : i + 4 < l.length) (h2 : i < 60) (hs : skipE t l i = true) : EdJ t0 l (i + 5) t m := by
 obtain ⟨j, n, e1, e2, e3, e4⟩ := h.ex
 obtain ⟨n, rfl⟩ : ∃ n', n = n' + 1 := ⟨n - 1, by omega⟩
 rw [edG, if_pos ⟨h1, h2⟩, if_pos hs] at e3
 exact ⟨⟨j + 1, n, by omega, by omega, e3, by omega⟩, h.good⟩
theorem EdJ.take {t0 t : Tree} {l : List Int} {i : Nat} {m : List Opn} (h : EdJ t0 l i t m) (h1 : i + 4 < l.length) (h2 : i < 60) (hs : skipE t l i = false) : EdJ t0 l (i + 5) (nextE t l i) (m ++ [eOp t l i]) := by
 obtain ⟨j, n, e1, e2, e3, e4⟩ := h.ex
 obtain ⟨n, rfl⟩ : ∃ n', n = n' + 1 := ⟨n - 1, by omega⟩
 rw [edG, if_pos ⟨h1, h2⟩, if_neg (by rw [hs]; decide)] at e3
 exact ⟨⟨j + 1, n, by omega, by omega, by rw [List.append_assoc]; exact e3, by simp; omega⟩, next_good h.good hs⟩
theorem EdJ.fin {t0 t : Tree} {l : List Int} {i : Nat} {m : List Opn} (h : EdJ t0 l i t m) (h1 : ¬ (i + 4 < l.length ∧ i < 60)) : m = editsF t0 l := by
 obtain ⟨j, n, e1, e2, e3, e4⟩ := h.ex
 have : edG n i t l = [] := by
  cases n with
  | zero => rfl
  | succ n => rw [edG, if_neg h1]
 rw [this, List.append_nil] at e3
 exact e3
def insS (x : ByteArray) : List ByteArray → List ByteArray
 | [] => [x]
 | y :: l => if eqT x y = true then y :: l else if gtB y x = true then x :: y :: l else y :: insS x l
def namesU (a b : Tree) : List ByteArray := (a.k ++ b.k).foldr insS []
theorem insS_mem {x y : ByteArray} : ∀ {l : List ByteArray}, y ∈ insS x l ↔ y = x ∨ y ∈ l
 | [] => by simp [insS]
 | z :: l => by
  unfold insS
  split
  rename_i h
  have e := eqT_iff.1 h
  subst e
  simp
  split
  simp
  rw [List.mem_cons, insS_mem (l := l), List.mem_cons]
  constructor
  rintro (h | h | h)
  exact .inr (.inl h)
  exact .inl h
  exact .inr (.inr h)
  rintro (h | h | h)
  exact .inr (.inl h)
  exact .inl h
  exact .inr (.inr h)
theorem insS_sorted {x : ByteArray} : ∀ {l : List ByteArray}, l.Pairwise ltB → (insS x l).Pairwise ltB
 | [], _ => by simp [insS]
 | z :: l, h => by
  have h' := List.pairwise_cons.1 h
  unfold insS
  split
  exact h
  rename_i hne
  split
  rename_i hg
  rw [gtB_iff] at hg
  refine List.pairwise_cons.2 ⟨fun y hy => ?_, h⟩
  rcases List.mem_cons.1 hy with rfl | hy
  exact hg
  exact ltB_trans hg (h'.1 y hy)
  rename_i hg
  refine List.pairwise_cons.2 ⟨fun y hy => ?_, insS_sorted h'.2⟩
  rcases insS_mem.1 hy with rfl | hy
  rcases ltB_tri z y with h3 | h3 | h3
  exact h3
  exact absurd (eqT_iff.2 h3.symm) hne
  exact absurd (gtB_iff.2 h3) hg
  exact h'.1 y hy
theorem namesU_mem {a b : Tree} {x : ByteArray} : x ∈ namesU a b ↔ x ∈ a.k ∨ x ∈ b.k := by
 have : ∀ l : List ByteArray, x ∈ l.foldr insS [] ↔ x ∈ l := by
  intro l
  induction l with
  | nil => simp
  | cons y l ih => rw [List.foldr_cons, insS_mem, ih, List.mem_cons]
 unfold namesU
 rw [this, List.mem_append]
theorem namesU_sorted (a b : Tree) : (namesU a b).Pairwise ltB := by
 have : ∀ l : List ByteArray, (l.foldr insS []).Pairwise ltB := by
  intro l
  induction l with
  | nil => exact List.Pairwise.nil
  | cons y l ih => exact insS_sorted ih
 exact this _
theorem sorted_ext : ∀ {l m : List ByteArray}, l.Pairwise ltB → m.Pairwise ltB → (∀ x, x ∈ l ↔ x ∈ m) → l = m
 | [], [], _, _, _ => rfl
 | [], y :: m, _, _, h => absurd ((h y).2 (List.mem_cons_self ..)) (by simp)
 | x :: l, [], _, _, h => absurd ((h x).1 (List.mem_cons_self ..)) (by simp)
 | x :: l, y :: m, hl, hm, h => by
  have hl' := List.pairwise_cons.1 hl
  have hm' := List.pairwise_cons.1 hm
  have e : x = y := by
   rcases List.mem_cons.1 ((h x).1 (List.mem_cons_self ..)) with e | h1
   ·exact e
   ·rcases List.mem_cons.1 ((h y).2 (List.mem_cons_self ..)) with e | h2
    ·exact e.symm
    ·exact absurd (ltB_trans (hl'.1 y h2) (hm'.1 x h1)) (ltB_irrefl _)
  subst e
  rw [sorted_ext hl'.2 hm'.2 (fun z => ⟨fun hz => by
   rcases List.mem_cons.1 ((h z).1 (List.mem_cons_of_mem _ hz)) with rfl | h1
   ·exact absurd (hl'.1 _ hz) (ltB_irrefl _)
   ·exact h1, fun hz => by
   rcases List.mem_cons.1 ((h z).2 (List.mem_cons_of_mem _ hz)) with rfl | h1
   ·exact absurd (hm'.1 _ hz) (ltB_irrefl _)
   ·exact h1⟩)]
theorem idxT_mem {x : ByteArray} : ∀ {l : List ByteArray}, idxT x l ≥ 0 ↔ x ∈ l
 | [] => by simp [idxT]
 | y :: l => by
  have ih := idxT_mem (x := x) (l := l)
  simp only [idxT]
  split
  rename_i h
  simp [eqT_iff.1 h]
  rename_i h
  have hne : x ≠ y := fun e => h (eqT_iff.2 e)
  rw [List.mem_cons]
  split
  rename_i h0
  constructor
  intro h1; omega
  rintro (e | h1)
  exact absurd e hne
  have := ih.2 h1; omega
  rename_i h0
  constructor
  intro _; exact .inr (ih.1 (by omega))
  intro _; omega
theorem memB_iff {t : Tree} {x : ByteArray} : memB t x = true ↔ x ∈ cutK t := by
 unfold memB memI
 rw [decide_eq_true_eq]
 exact idxT_mem
theorem memB_obj {t : Tree} (ho : ownO t = true) (h7 : t.kind = 7) {x : ByteArray} : memB t x = true ↔ x ∈ t.k := by
 rw [memB_iff]
 unfold cutK
 rw [if_pos h7, List.take_of_length_le (by have := own_keys ho h7; omega)]
def alike (a b : Tree) (x : ByteArray) : Bool := (memB a x == memB b x) && sameT (memV a x) (memV b x)
theorem alike_none {a b : Tree} {x : ByteArray} (h1 : memB a x = false) (h2 : memB b x = false) : alike a b x = true := by
 unfold alike
 rw [h1, h2, memV_zero h1, memV_zero h2, sameT_self]; rfl
def diffN (a b : Tree) : List ByteArray := (namesU a b).filter (fun x => !alike a b x)
def sort8 : List ByteArray := [ba [], ba [97], ba [98], ba [99], ba [100, 100], ba [101], ba [120, 47, 121], ba [122, 126]]
theorem sort8_sorted : sort8.Pairwise ltB := by
 have h : sort8.Pairwise (fun a b => Op.bytesLess a.toList b.toList = true) := by decide +kernel
 exact h.imp (fun h => ltB_less.1 h)
theorem names8_sort {x : ByteArray} (h : x ∈ names8) : x ∈ sort8 := by
 simp only [names8, sort8, List.mem_cons, List.not_mem_nil, or_false] at h ⊢
 rcases h with h | h | h | h | h | h | h | h <;> simp [h]
theorem diff8 {a b : Tree} (ha : ownO a = true) (hb : ownO b = true) (ka : a.kind = 7) (kb : b.kind = 7) (h1 : ∀ x ∈ a.k, x ∈ sort8) (h2 : ∀ x ∈ b.k, x ∈ sort8) : diffN a b = sort8.filter (fun x => !alike a b x) := by
 refine sorted_ext ((namesU_sorted a b).filter _) (sort8_sorted.filter _) (fun x => ?_)
 unfold diffN
 rw [List.mem_filter, List.mem_filter, namesU_mem]
 constructor
 rintro ⟨h | h, h3⟩
 exact ⟨h1 x h, h3⟩
 exact ⟨h2 x h, h3⟩
 rintro ⟨_, h3⟩
 refine ⟨?_, h3⟩
 cases ea : memB a x with
 | true => exact .inl ((memB_obj ha ka).1 ea)
 | false =>
  cases eb : memB b x with
  | true => exact .inr ((memB_obj hb kb).1 eb)
  | false => rw [alike_none ea eb] at h3; cases h3
def valsM (a b : Tree) : Mem := ((diffN a b).filter (fun x => memB b x)).map (fun x => (x, memV b x))
theorem nmM_in (v : Int) (i : Nat) : nmM v i ∈ names8 ∨ nmM v i = ba [] := by
 unfold nmM
 generalize (((v.tdiv 48) + 3 * (i : Int)).tmod 8).toNat = j
 by_cases h : j < names8.length
 exact .inl (getD_mem h _)
 right
 rw [List.getD_eq_getElem?_getD, List.getElem?_eq_none (by omega)]; rfl
theorem setT_keys {t u : Tree} {x y : ByteArray} (h : y ∈ (setT t x u).k) : y = x ∨ y ∈ t.k := by
 obtain ⟨p, hp, rfl⟩ := List.mem_map.1 (show y ∈ (insA x u (mems t)).map (·.1) from h)
 rcases ins_mem hp with rfl | hp
 exact .inl rfl
 right
 have h1 : p.1 ∈ cutK t := by rw [← mems_k]; exact List.mem_map.2 ⟨p, hp, rfl⟩
 unfold cutK at h1
 split at h1
 exact List.mem_of_mem_take h1
 simp at h1
theorem itO_keys {f : List Int → Tree × List Int} (v : Int) : ∀ (n : Nat) (l : List Int), ∀ y ∈ (itO f v n l).1.k, y ∈ sort8
 | 0, l, y, h => by simp [itO, Tree.k] at h
 | n + 1, l, y, h => by
  rcases setT_keys (show y ∈ (setT (itO f v n l).1 (nmM v n) (f (itO f v n l).2).1).k from h) with rfl | h
  rcases nmM_in v n with h | h
  exact names8_sort h
  rw [h]; simp [sort8]
  exact itO_keys v n l y h
theorem madeG_keys (f : List Int → Tree × List Int) (d : Int) (l : List Int) : ∀ y ∈ (madeG f d l).1.k, y ∈ sort8 := by
 have nil : ∀ (k : Int) (b : Bool) (n : Num) (s : ByteArray) (v : List Tree), ∀ y ∈ (Tree.mk k b n s [] v).k, y ∈ sort8 := fun k b n s v y h => by simp [Tree.k] at h
 unfold madeG
 split
 exact nil _ _ _ _ _
 unfold madeV
 split
 exact nil _ _ _ _ _
 split
 exact nil _ _ _ _ _
 split
 exact nil _ _ _ _ _
 split
 exact nil _ _ _ _ _
 split
 exact nil _ _ _ _ _
 split
 exact nil _ _ _ _ _
 exact itO_keys _ _ _
theorem made_keys : ∀ (d : Nat) (l : List Int), ∀ y ∈ (madeF d l).1.k, y ∈ sort8
 | 0, l => madeG_keys _ _ l
 | d + 1, l => madeG_keys _ _ l
theorem itO_kind {f : List Int → Tree × List Int} (v : Int) : ∀ (n : Nat) (l : List Int), (itO f v n l).1.kind = 7
 | 0, l => rfl
 | n + 1, l => rfl
theorem made_45 (d : Nat) (l : List Int) : (madeF (d + 1) (45 :: l)).1.kind = 7 := by
 have hv : vM (45 :: l) = 45 := by
  show placeF 45 1073741824 = 45
  unfold placeF; decide
 show (madeG (madeF d) ((d + 1 : Nat) : Int) (45 :: l)).1.kind = 7
 unfold madeG
 rw [if_neg (by simp; omega), hv]
 have hk : kM ((d + 1 : Nat) : Int) 45 = 9 := by
  unfold kM
  rw [if_neg (by omega)]; decide
 unfold madeV
 rw [hk, if_neg (by decide), if_neg (by decide), if_neg (by decide), if_neg (by decide), if_neg (by decide), if_neg (by decide)]
 exact itO_kind _ _ _
def badN (x : ByteArray) : Bool := eqT x (ba []) || (eqT x (ba [120, 47, 121]) || eqT x (ba [122, 126]))
theorem name8 {x : ByteArray} (h : x ∈ sort8) : nameF x = !badN x := by
 simp only [sort8, List.mem_cons, List.not_mem_nil, or_false] at h
 rcases h with rfl | rfl | rfl | rfl | rfl | rfl | rfl | rfl <;> kernel_rfl
def maskD (a b : Tree) : List (List ByteArray) := (diffN a b).map fun x => [x]
structure Two (a b : Tree) : Prop where
 oa : ownO a = true
 ob : ownO b = true
 ka : a.kind = 7
 kb : b.kind = 7
 na : ∀ x ∈ a.k, x ∈ sort8
 nb : ∀ x ∈ b.k, x ∈ sort8
theorem Two.diff {a b : Tree} (h : Two a b) : diffN a b = sort8.filter (fun x => !alike a b x) := diff8 h.oa h.ob h.ka h.kb h.na h.nb
theorem Two.len {a b : Tree} (h : Two a b) : (diffN a b).length ≤ 8 := by
 rw [h.diff]; exact List.length_filter_le _ sort8
theorem Two.check {a b : Tree} (h : Two a b) : checkF (maskD a b) = !((diffN a b).any badN) := by
 have hl := h.len
 unfold checkF maskD
 rw [decide_eq_true (by rw [List.length_map]; omega), Bool.true_and, List.any_map]
 congr 1
 rw [Bool.eq_iff_iff, List.any_eq_true, List.any_eq_true]
 have one : ∀ x ∈ diffN a b, badPath [x] = badN x := fun x hx => by
  have h8 : x ∈ sort8 := by rw [h.diff] at hx; exact (List.mem_filter.1 hx).1
  unfold badPath
  rw [List.any_cons, List.any_nil, name8 h8, Bool.not_not, Bool.or_false]
  show (false || (false || badN x)) = badN x
  rw [Bool.false_or, Bool.false_or]
 constructor
 rintro ⟨x, hx, hb⟩
 exact ⟨x, hx, (one x hx).symm.trans hb⟩
 rintro ⟨x, hx, hb⟩
 exact ⟨x, hx, (one x hx).trans hb⟩
theorem made_two (l k : List Int) : Two (madeF 3 (45 :: l)).1 (madeF 3 (45 :: k)).1 := by
 have g : ∀ l, ownO (madeF 3 l).1 = true := fun l => (good_made 3 l).1.own
 exact ⟨g _, g _, made_45 2 l, made_45 2 k, made_keys 3 _, made_keys 3 _⟩
def obT (t : Tree) : Tree := if t.kind = 7 then t else objM []
def goM (f : Tree → Tree → Option Tree) (a b : Tree) : List ByteArray → Option Mem
 | [] => some []
 | x :: l => match (if memB b x = true then (if (memV b x).kind = 1 then none else f (memV a x) (memV b x)) else some nul), goM f a b l with
  | some v, some L => some ((x, v) :: L)
  | _, _ => none
def mergedO : Nat → Tree → Tree → Option Tree
 | 0, _, b => if b.kind = 7 then none else some b
 | n + 1, a, b => if b.kind = 7 then (goM (mergedO n) (obT a) b (diffN (obT a) b)).map objM else some b
def stepM (f : Tree → Tree → Tree) (u : Tree) (q : ByteArray × Tree) : Tree := if q.2.kind = 1 then unsetT u q.1 else setT u q.1 (f (if memB u q.1 = true then memV u q.1 else nul) q.2)
def mergeR : Nat → Tree → Tree → Tree
 | 0, _, p => p
 | n + 1, t, p => if p.kind = 7 then (mems p).foldl (stepM (mergeR n)) (obT t) else p
structure ObjT (t : Tree) : Prop where
 kind : t.kind = 7
 len : t.k.length = t.v.length
 sorted : ((mems t).map (·.1)).Pairwise ltB
theorem obj_k {t : Tree} (h : ObjT t) : (mems t).map (·.1) = t.k := by
 rw [mems_k]; unfold cutK; rw [if_pos h.kind, List.take_of_length_le (by have := h.len; omega)]
theorem obj_v {t : Tree} (h : ObjT t) : (mems t).map (·.2) = t.v := by
 rw [mems_v]; unfold cutV; rw [if_pos h.kind, List.take_of_length_le (by have := h.len; omega)]
theorem objT_M {L : Mem} (h : (L.map (·.1)).Pairwise ltB) : ObjT (objM L) := ⟨rfl, by show (L.map (·.1)).length = (L.map (·.2)).length; rw [List.length_map, List.length_map], by rw [mems_objM]; exact h⟩
theorem objT_set {t u : Tree} {x : ByteArray} (h : ObjT t) : ObjT (setT t x u) := objT_M (ins_sorted h.sorted)
theorem objT_unset {t : Tree} {x : ByteArray} (h : ObjT t) : ObjT (unsetT t x) := by
 unfold unsetT
 split
 exact objT_M (h.sorted.sublist ((del_sub x (mems t)).map _))
 exact h
theorem objT_nd {t : Tree} (h : ObjT t) : Nodup (mems t) := nodup_sorted h.sorted
theorem objT_step {f : Tree → Tree → Tree} {u : Tree} {q : ByteArray × Tree} (h : ObjT u) : ObjT (stepM f u q) := by
 unfold stepM
 split
 exact objT_unset h
 exact objT_set h
theorem objT_fold {f : Tree → Tree → Tree} : ∀ (L : Mem) {u : Tree}, ObjT u → ObjT (L.foldl (stepM f) u)
 | [], _, h => h
 | q :: L, _, h => objT_fold L (objT_step h)
theorem step_ne {f : Tree → Tree → Tree} {u : Tree} {q : ByteArray × Tree} {y : ByteArray} (h : eqT y q.1 = false) : lookA y (mems (stepM f u q)) = lookA y (mems u) := by
 unfold stepM
 split
 exact look_unsetT_ne h
 rw [look_setT, if_neg (by rw [h]; decide)]
theorem memV_same {u w : Tree} {y : ByteArray} (h : lookA y (mems u) = lookA y (mems w)) : memB u y = memB w y ∧ memV u y = memV w y := by
 rw [memB_look, memB_look, memV_look, memV_look, h]; exact ⟨rfl, rfl⟩
theorem fold_look {f : Tree → Tree → Tree} {y : ByteArray} : ∀ (L : Mem) {u : Tree}, (L.map (·.1)).Nodup → ObjT u → lookA y (mems (L.foldl (stepM f) u)) = match lookA y L with
  | none => lookA y (mems u)
  | some v => if v.kind = 1 then none else some (f (if memB u y = true then memV u y else nul) v)
 | [], u, _, _ => rfl
 | (x, v) :: L, u, hn, hu => by
  rw [List.map_cons, List.nodup_cons] at hn
  rw [List.foldl_cons, fold_look L hn.2 (objT_step hu)]
  by_cases h : y = x
  ·subst h
   have hl : lookA y L = none := look_notin hn.1
   rw [hl]
   simp only [lookA, eqT_self, if_true]
   unfold stepM
   split
   ·rename_i h1
    exact look_unsetT_self (objT_nd hu)
   ·rename_i h1
    rw [look_setT, if_pos (eqT_self _)]
  ·have hx : eqT y x = false := eqT_ne.2 h
   have hs := step_ne (f := f) (u := u) (q := (x, v)) hx
   simp only [lookA, hx, Bool.false_eq_true, if_false]
   rw [hs, (memV_same hs).1, (memV_same hs).2]
theorem goM_look {f : Tree → Tree → Option Tree} {a b : Tree} {y : ByteArray} : ∀ {l : List ByteArray} {L : Mem}, goM f a b l = some L → L.map (·.1) = l ∧ (y ∈ l → ∃ v, lookA y L = some v ∧ (if memB b y = true then (if (memV b y).kind = 1 then none else f (memV a y) (memV b y)) else some nul) = some v)
 | [], L, h => by
  rw [goM] at h
  obtain rfl := Option.some.inj h
  exact ⟨rfl, fun h => by simp at h⟩
 | x :: l, L, h => by
  rw [goM] at h
  split at h
  rename_i v L' e1 e2
  obtain rfl := Option.some.inj h
  obtain ⟨h1, h2⟩ := goM_look (y := y) e2
  refine ⟨by rw [List.map_cons, h1], fun hy => ?_⟩
  by_cases hx : y = x
  subst hx
  exact ⟨v, by rw [lookA, if_pos (eqT_self _)], e1⟩
  rcases List.mem_cons.1 hy with hy | hy
  exact absurd hy hx
  obtain ⟨v', h3, h4⟩ := h2 hy
  exact ⟨v', by rw [lookA, if_neg (by rw [eqT_ne.2 hx]; decide)]; exact h3, h4⟩
  cases h
theorem mergeR_ob {n : Nat} {t t' p : Tree} (h : obT t = obT t') : mergeR n t p = mergeR n t' p := by
 cases n with
 | zero => rfl
 | succ n => rw [mergeR, mergeR, h]
theorem look_at : ∀ {L : Mem} {i : Nat} (hi : i < L.length), (L.map (·.1)).Nodup → lookA (L[i]).1 L = some (L[i]).2
 | (x, v) :: L, 0, _, _ => by simp [lookA, eqT_self]
 | (x, v) :: L, i + 1, hi, hn => by
  rw [List.map_cons, List.nodup_cons] at hn
  have hi' : i < L.length := by simpa using hi
  have ih := look_at hi' hn.2
  have hne : (L[i]).1 ≠ x := fun e => hn.1 (List.mem_map.2 ⟨L[i], List.getElem_mem hi', e⟩)
  show lookA (L[i]).1 ((x, v) :: L) = some (L[i]).2
  rw [lookA, if_neg (by rw [eqT_ne.2 hne]; decide)]
  exact ih
theorem sameL_of : ∀ {l m : List Tree}, l.length = m.length → (∀ i (h1 : i < l.length) (h2 : i < m.length), sameT l[i] m[i] = true) → sameL l m = true
 | [], m, _, _ => by rw [sameL]
 | x :: l, [], h, _ => by simp at h
 | x :: l, y :: m, h, hs => by
  rw [sameL, Bool.and_eq_true]
  exact ⟨hs 0 (by simp) (by simp), sameL_of (by simpa using h) (fun i h1 h2 => hs (i + 1) (by simpa using h1) (by simpa using h2))⟩
theorem same_of_look {r b : Tree} (hr : ObjT r) (hb : ObjT b) (h : ∀ y, (lookA y (mems r)).isSome = (lookA y (mems b)).isSome ∧ ∀ u v, lookA y (mems r) = some u → lookA y (mems b) = some v → sameT u v = true) : sameT r b = true := by
 have hk : (mems r).map (·.1) = (mems b).map (·.1) := sorted_ext hr.sorted hb.sorted (fun y => by
  constructor
  ·intro hy
   have h1 := (h y).1.symm.trans (look_in hy)
   obtain ⟨v, hv⟩ := Option.isSome_iff_exists.1 h1
   exact List.mem_map.2 ⟨(y, v), look_mem hv, rfl⟩
  ·intro hy
   have h1 := (h y).1.trans (look_in hy)
   obtain ⟨v, hv⟩ := Option.isSome_iff_exists.1 h1
   exact List.mem_map.2 ⟨(y, v), look_mem hv, rfl⟩)
 have hl : (mems r).length = (mems b).length := by have := congrArg List.length hk; rwa [List.length_map, List.length_map] at this
 have ek : r.k = b.k := by rw [← obj_k hr, ← obj_k hb, hk]
 have lv : r.v.length = b.v.length := by rw [← obj_v hr, ← obj_v hb, List.length_map, List.length_map, hl]
 have hs : sameL r.v b.v = true := by
  rw [← obj_v hr, ← obj_v hb]
  refine sameL_of (by rw [List.length_map, List.length_map, hl]) (fun i h1 h2 => ?_)
  rw [List.length_map] at h1 h2
  rw [List.getElem_map, List.getElem_map]
  have e1 := look_at h1 (objT_nd hr)
  have e2 := look_at h2 (objT_nd hb)
  have en : ((mems r)[i]).1 = ((mems b)[i]).1 := by
   have e3 : ((mems r).map (·.1))[i]'(by rw [List.length_map]; exact h1) = ((mems b).map (·.1))[i]'(by rw [List.length_map]; exact h2) := by simp only [hk]
   rwa [List.getElem_map, List.getElem_map] at e3
  rw [en] at e1
  exact (h _).2 _ _ e1 e2
 rw [sameT_eq, if_pos (by rw [hr.kind, hb.kind]), if_neg (by have := hr.kind; omega), if_neg (by have := hr.kind; omega), if_neg (by have := hr.kind; omega), if_neg (by have := hr.kind; omega), if_pos hr.kind, decide_eq_true lv, decide_eq_true (congrArg List.length ek), decide_eq_true ek, hs]; rfl
def AllObj : Nat → Tree → Prop
 | 0, t => t.kind ≠ 7
 | n + 1, t => t.kind = 7 → ownO t = true ∧ ObjT t ∧ ∀ u ∈ t.v, AllObj n u
theorem merge_makes : ∀ (n : Nat) (a b p : Tree), (a.kind = 7 → ownO a = true ∧ ObjT a) → AllObj n b → (AllObj n a ∨ a.kind ≠ 7) → mergedO n a b = some p → sameT (mergeR n a p) b = true
 | 0, a, b, p, ha, hb, _, h => by
  rw [mergedO, if_neg hb] at h
  obtain rfl := Option.some.inj h
  exact sameT_self b
 | n + 1, a, b, p, ha, hb, haa, h => by
  rw [mergedO] at h
  by_cases h7 : b.kind = 7
  ·rw [if_pos h7] at h
   obtain ⟨ob, jb, cb⟩ := hb h7
   obtain ⟨L, hL, rfl⟩ := Option.map_eq_some_iff.1 h
   have ho : ownO (obT a) = true ∧ ObjT (obT a) := by
    unfold obT
    split
    ·rename_i hk; exact ha hk
    ·exact ⟨by kernel_rfl, objT_M List.Pairwise.nil⟩
   have hk7 : (obT a).kind = 7 := ho.2.kind
   have hLk := (goM_look (y := ba []) hL).1
   have hLs : (L.map (·.1)).Pairwise ltB := by rw [hLk]; exact (namesU_sorted _ _).filter _
   rw [mergeR, if_pos (show (objM L).kind = 7 from rfl), mems_objM]
   refine same_of_look (objT_fold L ho.2) jb (fun y => ?_)
   rw [fold_look L (nodup_sorted hLs) ho.2]
   by_cases hy : y ∈ diffN (obT a) b
   ·obtain ⟨v, hv, hf⟩ := (goM_look (y := y) hL).2 hy
    rw [hv]
    dsimp only
    cases hm : memB b y with
    | false =>
     rw [hm, if_neg (by decide)] at hf
     obtain rfl := Option.some.inj hf
     have hn : lookA y (mems b) = none := by
      rw [memB_look] at hm
      cases hq : lookA y (mems b) with
      | none => rfl
      | some _ => rw [hq] at hm; cases hm
     rw [if_pos (show nul.kind = 1 from rfl), hn]
     exact ⟨rfl, fun u v h => by cases h⟩
    | true =>
     rw [hm, if_pos rfl] at hf
     split at hf
     ·cases hf
     ·rename_i hk1
      obtain ⟨w, hw⟩ := Option.isSome_iff_exists.1 (by rw [memB_look] at hm; exact hm)
      have ew : memV b y = w := by rw [memV_look, hw]; rfl
      have hv1 : v.kind ≠ 1 := by
       intro e
       by_cases hw7 : (memV b y).kind = 7
       ·cases n with
        | zero => rw [mergedO, if_pos hw7] at hf; cases hf
        | succ m =>
         rw [mergedO, if_pos hw7] at hf
         obtain ⟨L2, _, rfl⟩ := Option.map_eq_some_iff.1 hf
         exact absurd e (by show ¬ (7 : Int) = 1; decide)
       ·have : v = memV b y := by
         cases n with
         | zero => rw [mergedO, if_neg hw7] at hf; exact (Option.some.inj hf).symm
         | succ m => rw [mergedO, if_neg hw7] at hf; exact (Option.some.inj hf).symm
        rw [this] at e; exact hk1 e
      rw [if_neg hv1, hw]
      refine ⟨rfl, fun u v' hu hv' => ?_⟩
      obtain rfl := Option.some.inj hu
      obtain rfl := Option.some.inj hv'
      have hwb : AllObj n (memV b y) := cb _ (mem_cutV hm)
      have sub : ∀ y, (memB (obT a) y = true ∧ a.kind = 7 ∧ memV (obT a) y ∈ a.v) ∨ memB (obT a) y = false := fun y => by
       cases hq : memB (obT a) y with
       | false => exact .inr rfl
       | true =>
        left
        have h1 := mem_cutV hq
        unfold obT at hq h1 ⊢
        split at h1
        ·rename_i hk
         rw [if_pos hk]
         exact ⟨rfl, hk, h1⟩
        ·simp [objM, Tree.v] at h1
      have ih := merge_makes n (memV (obT a) y) (memV b y) v (fun hk => by
       rcases sub y with ⟨h1, h2, h3⟩ | h1
       ·have hu : AllObj n (memV (obT a) y) := by
         rcases haa with haa | haa
         ·exact (haa h2).2.2 _ h3
         ·exact absurd h2 haa
        cases n with
        | zero => exact absurd hk hu
        | succ m => exact ⟨(hu hk).1, (hu hk).2.1⟩
       ·rw [memV_zero h1] at hk; exact absurd hk (by decide)) hwb (by
       rcases sub y with ⟨h1, h2, h3⟩ | h1
       ·left
        rcases haa with haa | haa
        ·exact (haa h2).2.2 _ h3
        ·exact absurd h2 haa
       ·right; rw [memV_zero h1]; decide) hf
      rw [ew] at ih
      cases hq : memB (obT a) y with
      | true => rw [if_pos rfl]; exact ih
      | false =>
       rw [if_neg (by decide)]
       rw [memV_zero hq] at ih
       rw [mergeR_ob (t := nul) (t' := Tree.zero) rfl]; exact ih
   ·have hl : lookA y L = none := look_notin (by rw [hLk]; exact hy)
    rw [hl]
    have hal : alike (obT a) b y = true := by
     by_cases hn : y ∈ namesU (obT a) b
     ·cases hx : alike (obT a) b y with
      | true => rfl
      | false => exact absurd (List.mem_filter.2 ⟨hn, by rw [hx]; rfl⟩) hy
     ·rw [namesU_mem, not_or] at hn
      have h1 : memB (obT a) y = false := by
       cases hx : memB (obT a) y with
       | false => rfl
       | true => exact absurd ((memB_obj ho.1 hk7).1 hx) hn.1
      have h2 : memB b y = false := by
       cases hx : memB b y with
       | false => rfl
       | true => exact absurd ((memB_obj ob h7).1 hx) hn.2
      exact alike_none h1 h2
    unfold alike at hal
    rw [Bool.and_eq_true, beq_iff_eq, memB_look, memB_look] at hal
    refine ⟨hal.1, fun u v hu hv => ?_⟩
    have h2 := hal.2
    rw [memV_look, memV_look, show lookA y (mems (obT a)) = some u from hu, hv] at h2
    exact h2
  ·rw [if_neg h7] at h
   obtain rfl := Option.some.inj h
   rw [mergeR, if_neg h7]
   exact sameT_self b
theorem merged_in {n : Nat} {a b p : Tree} (h7 : b.kind = 7) (h : mergedO (n + 1) a b = some p) : ∃ L, p = objM L ∧ goM (mergedO n) (obT a) b (diffN (obT a) b) = some L ∧ L.map (·.1) = diffN (obT a) b := by
 rw [mergedO, if_pos h7] at h
 obtain ⟨L, hL, rfl⟩ := Option.map_eq_some_iff.1 h
 exact ⟨L, rfl, hL, (goM_look (y := ba []) hL).1⟩
theorem merged_told {n : Nat} {a b p : Tree} {x : ByteArray} (h7 : b.kind = 7) (h : mergedO (n + 1) a b = some p) : memB p x = true ↔ x ∈ diffN (obT a) b := by
 obtain ⟨L, rfl, hL, hk⟩ := merged_in h7 h
 rw [memB_look, mems_objM]
 constructor
 intro hs
 obtain ⟨v, hv⟩ := Option.isSome_iff_exists.1 hs
 rw [← hk]
 exact List.mem_map.2 ⟨(x, v), look_mem hv, rfl⟩
 intro hx
 rw [← hk] at hx
 exact look_in hx
theorem merged_gone {n : Nat} {a b p : Tree} {x : ByteArray} (h7 : b.kind = 7) (h : mergedO (n + 1) a b = some p) (hx : x ∈ diffN (obT a) b) (hb : memB b x = false) : memV p x = nul := by
 obtain ⟨L, rfl, hL, hk⟩ := merged_in h7 h
 obtain ⟨v, hv, hf⟩ := (goM_look (y := x) hL).2 hx
 rw [hb, if_neg (by decide)] at hf
 rw [memV_look, mems_objM, hv, ← Option.some.inj hf]; rfl
theorem merged_null {n : Nat} {a c : Tree} {x : ByteArray} (h7 : c.kind = 7) (hm : memB c x = true) (hk : (memV c x).kind = 1) (hc : ownO c = true) (h : (mergedO (n + 1) a c).isSome = true) : memB (obT a) x = true ∧ (memV (obT a) x).kind = 1 := by
 obtain ⟨p, hp⟩ := Option.isSome_iff_exists.1 h
 obtain ⟨L, _, hL, _⟩ := merged_in h7 hp
 have hal : alike (obT a) c x = true := by
  cases ha : alike (obT a) c x with
  | true => rfl
  | false =>
   have hx : x ∈ diffN (obT a) c := List.mem_filter.2 ⟨namesU_mem.2 (.inr ((memB_obj hc h7).1 hm)), by rw [ha]; rfl⟩
   obtain ⟨v, _, hf⟩ := (goM_look (y := x) hL).2 hx
   rw [if_pos hm, if_pos hk] at hf
   cases hf
 unfold alike at hal
 rw [Bool.and_eq_true, beq_iff_eq, hm] at hal
 refine ⟨hal.1, ?_⟩
 have h2 := hal.2
 rw [sameT_eq] at h2
 split at h2
 rename_i e; rw [e, hk]
 cases h2
theorem goM_none {f : Tree → Tree → Option Tree} {a b : Tree} : ∀ {l : List ByteArray}, goM f a b l = none ↔ ∃ x ∈ l, (if memB b x = true then (if (memV b x).kind = 1 then none else f (memV a x) (memV b x)) else some nul) = none
 | [] => by simp [goM]
 | x :: l => by
  have ih := goM_none (f := f) (a := a) (b := b) (l := l)
  rw [goM]
  cases h1 : (if memB b x = true then (if (memV b x).kind = 1 then none else f (memV a x) (memV b x)) else some nul) with
  | none => simp [h1]
  | some v =>
   cases h2 : goM f a b l with
   | none =>
    obtain ⟨y, hy, he⟩ := ih.1 h2
    simp only [true_iff]
    exact ⟨y, List.mem_cons_of_mem _ hy, he⟩
   | some L =>
    simp only [reduceCtorEq, false_iff]
    rintro ⟨y, hy, he⟩
    rcases List.mem_cons.1 hy with rfl | hy
    rw [h1] at he; cases he
    have := ih.2 ⟨y, hy, he⟩
    rw [h2] at this; cases this
theorem good_objT {n d : Nat} {t : Tree} (h : GoodN n d t) (h7 : t.kind = 7) : ObjT t := by
 cases d with
 | zero => exact h.elim
 | succ d => exact ⟨h7, own_keys h.1.own h7, h.1.sorted⟩
theorem good_all {n : Nat} : ∀ {d : Nat} {t : Tree}, GoodN n d t → AllObj d t
 | 0, _, h => h.elim
 | d + 1, t, h => fun h7 => ⟨h.1.own, good_objT h h7, fun u hu => good_all (h.2.2 u hu)⟩
theorem merge_good {n m d e : Nat} {a b p : Tree} (ha : GoodN n d a) (hb : GoodN m e b) (hde : d ≤ e) (h : mergedO e a b = some p) : sameT (mergeR e a p) b = true := by
 have ha' := goodN_mono (Nat.le_refl n) hde ha
 refine merge_makes e a b p (fun h7 => ⟨?_, good_objT ha' h7⟩) (good_all hb) (.inl (good_all ha')) h
 cases e with
 | zero => exact ha'.elim
 | succ e => exact ha'.1.own
theorem set_mem (t : Tree) (x : ByteArray) (v : Tree) : memB (setT t x v) x = true ∧ memV (setT t x v) x = v := by
 rw [memB_look, memV_look, look_setT, if_pos (eqT_self _)]; exact ⟨rfl, rfl⟩
theorem ba_data' (l : List UInt8) : (ba l).data.toList = l := by simp [ba]
theorem ba_of' (s : ByteArray) : ba s.data.toList = s := by simp [ba]
abbrev leU (x y : List UInt8) : Bool := decide (x ≤ y)
theorem sortU_sorted (zs : List (List UInt8)) : (zs.mergeSort leU).Pairwise (fun x y => x ≤ y) := by
 have h := List.pairwise_mergeSort (le := leU) (fun a b c h1 h2 => by
  have h1 := of_decide_eq_true h1
  have h2 := of_decide_eq_true h2
  exact decide_eq_true (List.le_trans h1 h2)) (fun a b => by
  rcases List.le_total a b with h | h
  ·simp [leU, h]
  ·simp [leU, h]) zs
 exact h.imp (fun h => of_decide_eq_true h)
theorem at_arr {zs : List (List UInt8)} {j : Nat} (h : j < zs.length) : zs.toArray[j]! = zs[j] := by
 rw [getElem!_pos zs.toArray j (by simpa using h)]; simp
theorem compact_mem (zs : List (List UInt8)) (x : List UInt8) : x ∈ Lib.compact zs ↔ x ∈ zs := by
 unfold Lib.compact Lib.compactUpTo
 rw [List.mem_map]
 constructor
 rintro ⟨j, hj, rfl⟩
 have hl : j < zs.length := by simpa using (List.mem_filter.1 hj).1
 rw [at_arr hl]; exact List.getElem_mem hl
 intro hx
 obtain ⟨j, hj, rfl⟩ := List.mem_iff_getElem.1 hx
 have key : ∀ j, j < zs.length → ∃ i, i ≤ j ∧ Lib.keeps zs.toArray i = true ∧ zs.toArray[i]! = zs.toArray[j]! := by
  intro j
  induction j with
  | zero => intro _; exact ⟨0, Nat.le_refl _, by simp [Lib.keeps], rfl⟩
  | succ j ih =>
   intro hj
   by_cases h : zs.toArray[j + 1]! = zs.toArray[j + 1 - 1]!
   obtain ⟨i, h1, h2, h3⟩ := ih (by omega)
   exact ⟨i, by omega, h2, by rw [h3, h]; rfl⟩
   exact ⟨j + 1, Nat.le_refl _, by simp only [Lib.keeps]; exact decide_eq_true (.inr h), rfl⟩
 obtain ⟨i, h1, h2, h3⟩ := key j hj
 exact ⟨i, List.mem_filter.2 ⟨by simp; omega, h2⟩, by rw [h3, at_arr hj]⟩
theorem compact_sorted {zs : List (List UInt8)} (h : zs.Pairwise (fun x y => x ≤ y)) : (Lib.compact zs).Pairwise (fun x y => x < y) := by
 unfold Lib.compact Lib.compactUpTo
 rw [List.pairwise_map]
 refine List.Pairwise.imp_of_mem ?_ ((List.pairwise_lt_range (n := zs.length)).filter _)
 intro i j hi hj hij
 have li : i < zs.length := by simpa using (List.mem_filter.1 hi).1
 have lj : j < zs.length := by simpa using (List.mem_filter.1 hj).1
 have hk := (List.mem_filter.1 hj).2
 simp only [Lib.keeps, decide_eq_true_eq] at hk
 have hne : zs.toArray[j]! ≠ zs.toArray[j - 1]! := by
  rcases hk with h0 | h0
  omega
  exact h0
 rw [at_arr lj, at_arr (show j - 1 < zs.length by omega)] at hne
 rw [at_arr li, at_arr lj]
 have le1 : zs[i] ≤ zs[j - 1] := by
  by_cases e : i = j - 1
  subst e; exact List.le_refl _
  exact List.pairwise_iff_getElem.1 h i (j - 1) li (by omega) (by omega)
 have le2 : zs[j - 1] ≤ zs[j] := List.pairwise_iff_getElem.1 h (j - 1) j (by omega) lj (by omega)
 have lt2 : zs[j - 1] < zs[j] := by
  by_cases e : zs[j - 1] < zs[j]
  exact e
  exact absurd (List.le_antisymm (List.not_lt.1 e) le2) hne
 exact List.lt_of_le_of_lt le1 lt2
theorem names_lib (a b : Tree) : (Lib.compact (((a.k ++ b.k).map (·.data.toList)).mergeSort leU)).map ba = namesU a b := by
 refine sorted_ext ?_ (namesU_sorted a b) (fun x => ?_)
 rw [List.pairwise_map]
 refine (compact_sorted (sortU_sorted _)).imp (fun {u v} h => ?_)
 unfold ltB
 rw [Lib.toList_data, Lib.toList_data, ba_data', ba_data']
 exact h
 rw [namesU_mem, List.mem_map]
 constructor
 rintro ⟨u, hu, rfl⟩
 rw [compact_mem, (List.mergeSort_perm _ _).mem_iff, List.mem_map] at hu
 obtain ⟨s, hs, rfl⟩ := hu
 rw [ba_of']
 exact List.mem_append.1 hs
 intro hx
 refine ⟨x.data.toList, ?_, ba_of' x⟩
 rw [compact_mem, (List.mergeSort_perm _ _).mem_iff, List.mem_map]
 exact ⟨x, List.mem_append.2 hx, rfl⟩
theorem obT_self {t : Tree} (h : t.kind = 7) : obT t = t := if_pos h
theorem told_no {n : Nat} {a b p : Tree} {x : ByteArray} (ha : a.kind = 7) (hb : b.kind = 7) (h : mergedO (n + 1) a b = some p) (hx : alike a b x = true) : memB p x = false := by
 cases hm : memB p x with
 | false => rfl
 | true =>
  have h1 := (merged_told hb h).1 hm
  rw [obT_self ha] at h1
  have h2 := (List.mem_filter.1 h1).2
  rw [hx] at h2; cases h2
theorem told_yes {n : Nat} {a b p : Tree} {x : ByteArray} (ha : a.kind = 7) (hb : b.kind = 7) (oa : ownO a = true) (ob : ownO b = true) (h : mergedO (n + 1) a b = some p) (hx : alike a b x = false) : memB p x = true ∧ (memB b x = true ∨ (memV p x).kind = 1) := by
 have hin : x ∈ diffN (obT a) b := by
  rw [obT_self ha]
  refine List.mem_filter.2 ⟨?_, by rw [hx]; rfl⟩
  rw [namesU_mem]
  cases h1 : memB a x with
  | true => exact .inl ((memB_obj oa ha).1 h1)
  | false =>
   cases h2 : memB b x with
   | true => exact .inr ((memB_obj ob hb).1 h2)
   | false => rw [alike_none h1 h2] at hx; cases hx
 refine ⟨(merged_told hb h).2 hin, ?_⟩
 cases hm : memB b x with
 | true => exact .inl rfl
 | false => right; rw [merged_gone hb h hin hm]; rfl
theorem can_null {n : Nat} {a b : Tree} {x : ByteArray} (ha : a.kind = 7) (hc : ownO (setT b x nul) = true) (h : (mergedO (n + 1) a (setT b x nul)).isSome = true) : memB a x = true ∧ (memV a x).kind = 1 := by
 obtain ⟨h1, h2⟩ := set_mem b x nul
 have := merged_null (a := a) (c := setT b x nul) (x := x) rfl h1 (by rw [h2]; rfl) hc h
 rw [obT_self ha] at this
 exact this
theorem nul_good2 {n d : Nat} : GoodN n (d + 1) nul := ⟨⟨one_nul.own, one_nul.ok, one_nul.len, Nat.zero_le _, one_nul.sorted, one_nul.texts⟩, Nat.zero_le _, fun u hu => by simp [nul, Tree.v] at hu⟩
theorem set_good (l : List Int) {x : ByteArray} (hx : textOk x = true) : GoodN 4 5 (setT (madeF 3 l).1 x nul) := by
 have h := goodN_T (good_made 3 l)
 exact setN (n := 3) (d := 4) (by decide) hx (goodN_mem (goodN_mono (Nat.le_refl _) (Nat.le_succ _) h)) nul_good2
def stepG (f : Tree → Tree → Option Tree) (a b : Tree) (x : ByteArray) : Option Tree := if memB b x = true then (if (memV b x).kind = 1 then none else f (memV a x) (memV b x)) else some nul
theorem goM_snoc {f : Tree → Tree → Option Tree} {a b : Tree} {x : ByteArray} {v : Tree} : ∀ {l : List ByteArray} {L : Mem}, goM f a b l = some L → stepG f a b x = some v → goM f a b (l ++ [x]) = some (L ++ [(x, v)])
 | [], L, h, hv => by
  rw [goM] at h
  obtain rfl := Option.some.inj h
  show goM f a b [x] = _
  unfold stepG at hv
  rw [goM, hv, goM]; rfl
 | y :: l, L, h, hv => by
  rw [goM] at h
  split at h
  rename_i u L' e1 e2
  obtain rfl := Option.some.inj h
  rw [List.cons_append, goM, e1, goM_snoc e2 hv]; rfl
  cases h
theorem goM_stop {f : Tree → Tree → Option Tree} {a b : Tree} {x : ByteArray} {l l' : List ByteArray} (h : stepG f a b x = none) : goM f a b (l ++ x :: l') = none :=
 goM_none.2 ⟨x, List.mem_append.2 (.inr (List.mem_cons_self ..)), h⟩
def dI (a b : Tree) (i : Nat) : List ByteArray := ((namesU a b).take i).filter (fun x => !alike a b x)
theorem dI_end {a b : Tree} {i : Nat} (h : (namesU a b).length ≤ i) : dI a b i = diffN a b := by
 unfold dI diffN; rw [List.take_of_length_le h]
theorem dI_at {a b : Tree} {i : Nat} (h : i < (namesU a b).length) : dI a b (i + 1) = if alike a b ((namesU a b).getD i (dflt .str)) = true then dI a b i else dI a b i ++ [(namesU a b).getD i (dflt .str)] := by
 unfold dI
 rw [List.take_succ_eq_append_getElem h, List.filter_append]
 have e : (namesU a b).getD i (dflt .str) = (namesU a b)[i] := by rw [List.getD_eq_getElem?_getD, List.getElem?_eq_getElem h]; rfl
 rw [e]
 cases hx : alike a b (namesU a b)[i] with
 | true => rw [if_pos rfl, List.filter_cons, if_neg (by rw [hx]; decide), List.filter_nil, List.append_nil]
 | false => rw [if_neg (by decide), List.filter_cons, if_pos (by rw [hx]; rfl), List.filter_nil]
theorem dI_same {a b : Tree} {i : Nat} (h : i < (namesU a b).length) (hx : alike a b ((namesU a b).getD i (dflt .str)) = true) : dI a b (i + 1) = dI a b i := by rw [dI_at h, if_pos hx]
theorem dI_on {a b : Tree} {i : Nat} (h : i < (namesU a b).length) (hx : alike a b ((namesU a b).getD i (dflt .str)) = false) : dI a b (i + 1) = dI a b i ++ [(namesU a b).getD i (dflt .str)] := by rw [dI_at h, if_neg (by rw [hx]; decide)]
theorem dI_split {a b : Tree} {i : Nat} (h : i < (namesU a b).length) (hx : alike a b ((namesU a b).getD i (dflt .str)) = false) : ∃ l', diffN a b = dI a b i ++ (namesU a b).getD i (dflt .str) :: l' := by
 refine ⟨((namesU a b).drop (i + 1)).filter (fun x => !alike a b x), ?_⟩
 rw [List.append_cons, ← dI_on h hx]
 unfold dI diffN
 rw [← List.filter_append, List.take_append_drop]
theorem dI_len (a b : Tree) (i : Nat) : (dI a b i).length ≤ (namesU a b).length := by
 unfold dI
 exact Nat.le_trans (List.length_filter_le _ _) (by rw [List.length_take]; exact Nat.min_le_right _ _)
theorem insS_len (x : ByteArray) : ∀ l : List ByteArray, (insS x l).length ≤ l.length + 1
 | [] => by simp [insS]
 | y :: l => by
  have := insS_len x l
  unfold insS
  split
  simp
  split
  simp
  simp only [List.length_cons]; omega
theorem namesU_len (a b : Tree) : (namesU a b).length ≤ a.k.length + b.k.length := by
 unfold namesU
 rw [← List.length_append]
 generalize a.k ++ b.k = l
 induction l with
 | nil => simp
 | cons x l ih =>
  have := insS_len x (l.foldr insS [])
  rw [List.foldr_cons, List.length_cons]; omega
structure GoJ (f : Tree → Tree → Option Tree) (a b : Tree) (i : Nat) (L : Mem) : Prop where
 le : i ≤ (namesU a b).length
 go : goM f a b (dI a b i) = some L
theorem GoJ.start (f : Tree → Tree → Option Tree) (a b : Tree) : GoJ f a b 0 [] := ⟨Nat.zero_le _, rfl⟩
section
variable {f : Tree → Tree → Option Tree} {a b : Tree} {i : Nat} {L : Mem}
theorem GoJ.len (h : GoJ f a b i L) : L.length ≤ a.k.length + b.k.length := by
 have h1 := (goM_look (y := ba []) h.go).1
 have h2 := congrArg List.length h1
 rw [List.length_map] at h2
 have h3 := dI_len a b i
 have h4 := namesU_len a b
 omega
theorem GoJ.same (h : GoJ f a b i L) (hi : i < (namesU a b).length) (hx : alike a b ((namesU a b).getD i (dflt .str)) = true) : GoJ f a b (i + 1) L := ⟨hi, by rw [dI_same hi hx]; exact h.go⟩
theorem GoJ.on (h : GoJ f a b i L) (hi : i < (namesU a b).length) (hx : alike a b ((namesU a b).getD i (dflt .str)) = false) {v : Tree} (hv : stepG f a b ((namesU a b).getD i (dflt .str)) = some v) : GoJ f a b (i + 1) (L ++ [((namesU a b).getD i (dflt .str), v)]) := ⟨hi, by rw [dI_on hi hx]; exact goM_snoc h.go hv⟩
theorem GoJ.stop (h : GoJ f a b i L) (hi : i < (namesU a b).length) (hx : alike a b ((namesU a b).getD i (dflt .str)) = false) (hv : stepG f a b ((namesU a b).getD i (dflt .str)) = none) : goM f a b (diffN a b) = none := by
 obtain ⟨l', hl⟩ := dI_split hi hx
 rw [hl]; exact goM_stop hv
theorem GoJ.fin (h : GoJ f a b i L) (hi : (namesU a b).length ≤ i) : goM f a b (diffN a b) = some L := by rw [← dI_end hi]; exact h.go
theorem step_gone {x : ByteArray} (h : memB b x = false) : stepG f a b x = some nul := if_neg (by rw [h]; decide)
theorem step_null {x : ByteArray} (h : memB b x = true) (h1 : (memV b x).kind = 1) : stepG f a b x = none := by unfold stepG; rw [if_pos h, if_pos h1]
theorem step_go {x : ByteArray} (h : memB b x = true) (h1 : ¬ (memV b x).kind = 1) : stepG f a b x = f (memV a x) (memV b x) := by unfold stepG; rw [if_pos h, if_neg h1]
end
theorem mO_leaf {n : Nat} {a b : Tree} (h : ¬ b.kind = 7) : mergedO (n + 1) a b = some b := by rw [mergedO, if_neg h]
theorem mO_obj {n : Nat} {a b : Tree} {L : Mem} (h : b.kind = 7) (hg : goM (mergedO n) (obT a) b (diffN (obT a) b) = some L) : mergedO (n + 1) a b = some (objM L) := by rw [mergedO, if_pos h, hg]; rfl
theorem mO_none {n : Nat} {a b : Tree} (h : b.kind = 7) (hg : goM (mergedO n) (obT a) b (diffN (obT a) b) = none) : mergedO (n + 1) a b = none := by rw [mergedO, if_pos h, hg]; rfl
theorem nul_nodes : nodes nul = 1 := by simp [nul, nodes, nodesL]
theorem nul_fineT : fineT nul := (fine_eq _).2 ⟨⟨Ok.nil, by decide, by decide, by decide⟩, trivial⟩
theorem obT_nodes (t : Tree) : nodes (obT t) ≤ nodes t := by
 unfold obT
 split
 exact Nat.le_refl _
 have h : nodes (objM []) = 1 := by simp [objM, nodes, nodesL]
 have := nodes_eq t; omega
theorem obT_fine {t : Tree} (h : fineT t) : fineT (obT t) := by
 unfold obT
 split
 exact h
 exact (fine_eq _).2 ⟨⟨Ok.nil, by decide, by decide, by decide⟩, trivial⟩
structure OkM (f : Tree → Tree → Tree) : Prop where
 nodes : ∀ t p, nodes (f t p) + 1 ≤ nodes t + 2 * nodes p
 fine : ∀ t p, fineT t → fineT p → F.nodes t + 2 * F.nodes p < 100000000 → fineT (f t p)
section
variable {f : Tree → Tree → Tree}
theorem step_nodes (h : OkM f) (u : Tree) (q : ByteArray × Tree) : nodes (stepM f u q) ≤ nodes u + 2 * nodes q.2 := by
 unfold stepM
 split
 have := unset_less measNodes u q.1
 omega
 cases hm : memB u q.1 with
 | true =>
  rw [if_pos rfl]
  have h1 := h.nodes (memV u q.1) q.2
  have h2 := set_there measNodes hm (f (memV u q.1) q.2)
  omega
 | false =>
  rw [if_neg (by decide)]
  have h1 := h.nodes nul q.2
  have h2 := set_more measNodes u q.1 (f nul q.2)
  have h3 := nul_nodes
  omega
theorem step_fine (h : OkM f) {u : Tree} {q : ByteArray × Tree} (hu : fineT u) (hq : fineT q.2) (hn : nodes u + 2 * nodes q.2 < 100000000) : fineT (stepM f u q) := by
 unfold stepM
 split
 exact fine_unsetT hu (by omega) _
 refine fine_setT hu ?_ (by omega) _
 split
 have := memV_nodes' u q.1
 exact h.fine _ _ (fine_memV hu _) hq (by omega)
 have h1 := nul_nodes
 have h2 := nodes_eq u
 exact h.fine _ _ nul_fineT hq (by omega)
theorem fold_nodes (h : OkM f) : ∀ (L : Mem) (u : Tree), nodes (L.foldl (stepM f) u) ≤ nodes u + 2 * nodesL (L.map (·.2))
 | [], u => by simp [nodesL]
 | q :: L, u => by
  have h1 := step_nodes h u q
  have h2 := fold_nodes h L (stepM f u q)
  simp only [List.foldl_cons, List.map_cons, nodesL]; omega
theorem fold_fine (h : OkM f) : ∀ (L : Mem) (u : Tree), fineT u → (∀ q ∈ L, fineT q.2) → nodes u + 2 * nodesL (L.map (·.2)) < 100000000 → fineT (L.foldl (stepM f) u)
 | [], u, hu, _, _ => hu
 | q :: L, u, hu, hL, hn => by
  simp only [List.map_cons, nodesL] at hn
  have h1 := step_nodes h u q
  exact fold_fine h L _ (step_fine h hu (hL q (List.mem_cons_self ..)) (by omega)) (fun q hq => hL q (List.mem_cons_of_mem _ hq)) (by omega)
end
theorem mems_sum (p : Tree) : nodesL ((mems p).map (·.2)) + 1 ≤ nodes p := by
 have h := nodes_eq p
 rw [mems_v]
 unfold cutV
 split
 have := nodesL_cut p.v (min p.k.length p.v.length); omega
 simp only [nodesL]; omega
theorem mems_fine {p : Tree} (h : fineT p) : ∀ q ∈ mems p, fineT q.2 := fun q hq => fine_mem ((fine_eq p).1 h).2 (mems_in hq)
theorem mergeR_ok : ∀ n, OkM (mergeR n)
 | 0 => ⟨fun t p => by have := nodes_eq t; have := nodes_eq p; show nodes p + 1 ≤ _; omega, fun t p _ hp _ => hp⟩
 | n + 1 => by
  have ih := mergeR_ok n
  refine ⟨fun t p => ?_, fun t p ht hp hn => ?_⟩
  rw [mergeR]
  split
  have h1 := fold_nodes ih (mems p) (obT t)
  have h2 := obT_nodes t
  have h3 := mems_sum p
  omega
  have := nodes_eq t; have := nodes_eq p; omega
  rw [mergeR]
  split
  have h2 := obT_nodes t
  have h3 := mems_sum p
  exact fold_fine ih _ _ (obT_fine ht) (mems_fine hp) (by omega)
  exact hp
structure MgJ (n : Nat) (t p : Tree) (i : Nat) (u : Tree) : Prop where
 le : i ≤ (mems p).length
 go : ((mems p).drop i).foldl (stepM (mergeR n)) u = mergeR (n + 1) t p
 fine : fineT u
 few : nodes u + 2 * nodesL (((mems p).drop i).map (·.2)) < 100000000
theorem MgJ.start {n : Nat} {t p : Tree} (h7 : p.kind = 7) (ht : fineT t) (hn : nodes t + 2 * nodes p < 100000000) : MgJ n t p 0 (obT t) :=
 ⟨Nat.zero_le _, by rw [mergeR, if_pos h7]; rfl, obT_fine ht, by have h2 := obT_nodes t; have h3 := mems_sum p; show nodes (obT t) + 2 * nodesL ((mems p).map (·.2)) < _; omega⟩
section
variable {n : Nat} {t p : Tree} {i : Nat} {u : Tree}
theorem MgJ.on (h : MgJ n t p i u) (h7 : p.kind = 7) (hp : fineT p) (h1 : i < p.k.length) (h2 : i < p.v.length) : MgJ n t p (i + 1) (stepM (mergeR n) u (p.k.getD i (dflt .str), p.v.getD i (dflt .tree))) := by
 have hd := mems_drop h7 h1 h2
 have hf := h.few
 have hg := h.go
 rw [hd] at hf hg
 simp only [List.map_cons, nodesL] at hf
 have hs := step_nodes (mergeR_ok n) u (p.k.getD i (dflt .str), p.v.getD i (dflt .tree))
 refine ⟨by rw [mems_len h7]; omega, hg, step_fine (mergeR_ok n) h.fine (fine_at hp h2 _) (by show nodes u + 2 * nodes (p.v.getD i (dflt .tree)) < _; omega), by simp only at hs; omega⟩
theorem MgJ.fin (h : MgJ n t p i u) (hi : p.k.length ≤ i ∨ p.v.length ≤ i) : u = mergeR (n + 1) t p := by
 rw [← h.go, mems_end (.inr hi)]; rfl
theorem MgJ.at (h : MgJ n t p i u) (h7 : p.kind = 7) (h1 : i < p.k.length) (h2 : i < p.v.length) : nodes u + 2 * nodes (p.v.getD i (dflt .tree)) < 100000000 := by
 have hf := h.few
 rw [mems_drop h7 h1 h2] at hf
 simp only [List.map_cons, nodesL] at hf; omega
end
theorem step_unset {f : Tree → Tree → Tree} {u v : Tree} {x : ByteArray} (h : v.kind = 1) : stepM f u (x, v) = unsetT u x := if_pos h
theorem step_there {f : Tree → Tree → Tree} {u v : Tree} {x : ByteArray} (h : ¬ v.kind = 1) (hm : memB u x = true) : stepM f u (x, v) = setT u x (f (memV u x) v) := by unfold stepM; rw [if_neg h, if_pos hm]
theorem step_new {f : Tree → Tree → Tree} {u v : Tree} {x : ByteArray} (h : ¬ v.kind = 1) (hm : memB u x = false) : stepM f u (x, v) = setT u x (f nul v) := by unfold stepM; rw [if_neg h, if_neg (show ¬ memB u x = true by rw [hm]; decide)]
def maskI (a b : Tree) (i : Nat) : List (List ByteArray) := (dI a b i).map fun x => [x]
def valI (a b : Tree) (i : Nat) : Mem := ((dI a b i).filter (fun x => memB b x)).map (fun x => (x, memV b x))
def vK (a b : Tree) (i : Nat) : List ByteArray := (valI a b i).map (·.1)
def vV (a b : Tree) (i : Nat) : List Tree := (valI a b i).map (·.2)
section
variable {a b : Tree} {i : Nat}
theorem maskI_end (h : (namesU a b).length ≤ i) : maskI a b i = maskD a b := by unfold maskI maskD; rw [dI_end h]
theorem valI_end (h : (namesU a b).length ≤ i) : valI a b i = valsM a b := by unfold valI valsM; rw [dI_end h]
theorem maskI_same (h : i < (namesU a b).length) (hx : alike a b ((namesU a b).getD i (dflt .str)) = true) : maskI a b i = maskI a b (i + 1) := by unfold maskI; rw [dI_same h hx]
theorem maskI_on (h : i < (namesU a b).length) (hx : alike a b ((namesU a b).getD i (dflt .str)) = false) : maskI a b i ++ [[(namesU a b).getD i (dflt .str)]] = maskI a b (i + 1) := by unfold maskI; rw [dI_on h hx, List.map_append]; rfl
theorem valI_same (h : i < (namesU a b).length) (hx : alike a b ((namesU a b).getD i (dflt .str)) = true) : valI a b i = valI a b (i + 1) := by unfold valI; rw [dI_same h hx]
theorem valI_off (h : i < (namesU a b).length) (hx : alike a b ((namesU a b).getD i (dflt .str)) = false) (hm : memB b ((namesU a b).getD i (dflt .str)) = false) : valI a b i = valI a b (i + 1) := by
 unfold valI; rw [dI_on h hx, List.filter_append, List.filter_cons, if_neg (by rw [hm]; decide), List.filter_nil, List.append_nil]
theorem valI_on (h : i < (namesU a b).length) (hx : alike a b ((namesU a b).getD i (dflt .str)) = false) (hm : memB b ((namesU a b).getD i (dflt .str)) = true) : valI a b (i + 1) = valI a b i ++ [((namesU a b).getD i (dflt .str), memV b ((namesU a b).getD i (dflt .str)))] := by
 unfold valI; rw [dI_on h hx, List.filter_append, List.filter_cons, if_pos hm, List.filter_nil, List.map_append]; rfl
theorem vK_same (h : i < (namesU a b).length) (hx : alike a b ((namesU a b).getD i (dflt .str)) = true) : vK a b i = vK a b (i + 1) := by unfold vK; rw [valI_same h hx]
theorem vV_same (h : i < (namesU a b).length) (hx : alike a b ((namesU a b).getD i (dflt .str)) = true) : vV a b i = vV a b (i + 1) := by unfold vV; rw [valI_same h hx]
theorem vK_off (h : i < (namesU a b).length) (hx : alike a b ((namesU a b).getD i (dflt .str)) = false) (hm : memB b ((namesU a b).getD i (dflt .str)) = false) : vK a b i = vK a b (i + 1) := by unfold vK; rw [valI_off h hx hm]
theorem vV_off (h : i < (namesU a b).length) (hx : alike a b ((namesU a b).getD i (dflt .str)) = false) (hm : memB b ((namesU a b).getD i (dflt .str)) = false) : vV a b i = vV a b (i + 1) := by unfold vV; rw [valI_off h hx hm]
theorem vK_on (h : i < (namesU a b).length) (hx : alike a b ((namesU a b).getD i (dflt .str)) = false) (hm : memB b ((namesU a b).getD i (dflt .str)) = true) : vK a b i ++ [(namesU a b).getD i (dflt .str)] = vK a b (i + 1) := by unfold vK; rw [valI_on h hx hm, List.map_append]; rfl
theorem vV_on (h : i < (namesU a b).length) (hx : alike a b ((namesU a b).getD i (dflt .str)) = false) (hm : memB b ((namesU a b).getD i (dflt .str)) = true) : vV a b i ++ [memV b ((namesU a b).getD i (dflt .str))] = vV a b (i + 1) := by unfold vV; rw [valI_on h hx hm, List.map_append]; rfl
end
theorem maskI_len (a b : Tree) (i : Nat) : (maskI a b i).length ≤ a.k.length + b.k.length := by
 have h1 := dI_len a b i
 have h2 := namesU_len a b
 unfold maskI; rw [List.length_map]; omega
theorem valI_len (a b : Tree) (i : Nat) : (valI a b i).length ≤ a.k.length + b.k.length := by
 have h1 := dI_len a b i
 have h2 := namesU_len a b
 have h3 := List.length_filter_le (fun x => memB b x) (dI a b i)
 unfold valI; rw [List.length_map]; omega
theorem vK_len (a b : Tree) (i : Nat) : (vK a b i).length ≤ a.k.length + b.k.length := by unfold vK; rw [List.length_map]; exact valI_len a b i
theorem vV_len (a b : Tree) (i : Nat) : (vV a b i).length ≤ a.k.length + b.k.length := by unfold vV; rw [List.length_map]; exact valI_len a b i
theorem maskI_small {a b : Tree} (i : Nat) (ha : ∀ x ∈ a.k, x.size < 4294967281) (hb : ∀ x ∈ b.k, x.size < 4294967281) : ∀ p ∈ maskI a b i, smalls p := fun p hp => by
 obtain ⟨x, hx, rfl⟩ := List.mem_map.1 hp
 have h1 : x ∈ namesU a b := List.mem_of_mem_take (List.mem_filter.1 hx).1
 refine ⟨fun y hy => ?_, by show (1 : Nat) < _; decide⟩
 rw [List.mem_singleton.1 hy]
 rcases namesU_mem.1 h1 with h | h
 exact ha x h
 exact hb x h
theorem obT_small {a : Tree} (ha : ∀ x ∈ a.k, x.size < 4294967281) : ∀ x ∈ (obT a).k, x.size < 4294967281 := by
 unfold obT
 split
 exact ha
 intro x hx; simp [objM, Tree.k] at hx
theorem own_small {t : Tree} (h : ownO t = true) : ∀ x ∈ t.k, x.size < 4294967281 := fun x hx => by
 unfold ownO at h
 simp only [Bool.and_eq_true] at h
 have hk := h.2.2.2.2.1
 unfold keysO at hk
 split at hk
 rw [Bool.and_eq_true] at hk
 have hn := hk.1
 unfold namesOk at hn
 rw [Bool.and_eq_true, List.all_eq_true] at hn
 obtain ⟨i, hi, rfl⟩ := List.mem_iff_getElem.1 hx
 have h1 := hn.1 i (by simpa using hi)
 unfold nmOk at h1
 rw [Bool.and_eq_true] at h1
 have h2 := h1.1
 unfold textOk at h2
 rw [Bool.and_eq_true, decide_eq_true_eq] at h2
 have e : t.k.getD i (dflt .str) = t.k[i] := by rw [List.getD_eq_getElem?_getD, List.getElem?_eq_getElem hi]; rfl
 rw [e] at h2
 have := h2.1; omega
 rw [show t.k = [] from List.eq_nil_of_length_eq_zero (by have := eq_of_beq hk; omega)] at hx
 simp at hx
theorem valid_small {t : Tree} (h : validT t = true) : ∀ x ∈ t.k, x.size < 4294967281 := own_small (chk_own h).1
def maskG (a b : Tree) : Pat × Bool :=
 if sameT a b = true then (⟨3, [], objM [], []⟩, true)
 else if b.kind ≠ 7 ∨ (a.kind ≠ 7 ∧ b.k.length = 0) then (Pat.zero, false)
 else (⟨3, [], objM (valsM (obT a) b), maskD (obT a) b⟩, checkF (maskD (obT a) b))
theorem maskG_fin {a b : Tree} {i : Nat} (hs : sameT a b = false) (h1 : ¬ (b.kind ≠ 7 ∨ (a.kind ≠ 7 ∧ b.k.length = 0))) (hi : (namesU (obT a) b).length ≤ i) : maskG a b = (⟨3, [], .mk 7 false ⟨false, [], 0⟩ (ba []) (vK (obT a) b i) (vV (obT a) b i), maskI (obT a) b i⟩, checkF (maskI (obT a) b i)) := by
 unfold maskG
 rw [if_neg (by rw [hs]; decide), if_neg h1, maskI_end hi]
 unfold vK vV
 rw [valI_end hi]; rfl
def theM (r : Option Tree) : Tree := r.getD Tree.zero
def canF (n : Nat) (a b : Tree) (lang : Int) : Bool := validT a && (validT b && (if lang = 2 then (mergedO n a b).isSome else if lang = 3 then (maskG a b).2 else lang == 1))
def diffP (n : Nat) (a b : Tree) (lang : Int) : Pat × Int :=
 if (validT a && validT b) = true then (if canF n a b lang = true then (if lang = 2 then ⟨2, [], theM (mergedO n a b), []⟩ else (maskG a b).1, 0) else (Pat.zero, 7)) else (Pat.zero, 1)
end Go.Proofs.YtfimffgfnhplkaaGreatDoor.F
