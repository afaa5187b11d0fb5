/- MaskAll: for any text, any paths, any trees, any weight the program's Parse, Apply, Name, Check, Text and Norm of masks answer as the document's own answer. -/
import Derived.Test.YtondpnipoogoiaaGreatDoorA9
import Derived.Test.YtondpnipoogoiaaGreatDoorA8
import Derived.Test.YtondpnipoogoiaaGreatDoorA11
import Derived.Test.YtondpnipoogoiaaGreatDoorA4
set_option maxRecDepth 100000
set_option linter.unusedVariables false
set_option linter.unusedSimpArgs false
namespace Go.Proofs.YtondpnipoogoiaaGreatDoor.F
open Go Go.RowKit
theorem ba_ext {a b : ByteArray} (h : a.data.toList = b.data.toList) : a = b := by
 obtain ⟨⟨a⟩⟩ := a
 obtain ⟨⟨b⟩⟩ := b
 simp at h
 rw [h]
theorem data_cat (a b : ByteArray) : (a ++ b).data.toList = a.data.toList ++ b.data.toList := by simp [ByteArray.append_eq]
theorem index_no {c : UInt8} : ∀ {l : List UInt8}, c ∉ l → Lib.index l [c] = -1
 | [], _ => by simp [Lib.index]
 | b :: l, h => by
  have hb : b ≠ c := fun e => h (by simp [e])
  have ih := index_no (l := l) (fun hc => h (List.mem_cons_of_mem _ hc))
  have hp : ([c] : List UInt8).isPrefixOf (b :: l) = false := by simp [List.isPrefixOf, Ne.symm hb]
  rw [Lib.index, hp, ih]; simp
theorem index_at {c : UInt8} : ∀ {l r : List UInt8}, c ∉ l → Lib.index (l ++ c :: r) [c] = l.length
 | [], r, _ => by rw [List.nil_append, Lib.index]; simp [List.isPrefixOf]
 | b :: l, r, h => by
  have hb : b ≠ c := fun e => h (by simp [e])
  have ih := index_at (l := l) (r := r) (fun hc => h (List.mem_cons_of_mem _ hc))
  have hp : ([c] : List UInt8).isPrefixOf (b :: (l ++ c :: r)) = false := by simp [List.isPrefixOf, Ne.symm hb]
  rw [List.cons_append, Lib.index, hp, ih]
  simp only [Bool.false_eq_true, if_false, List.length_cons]
  rw [if_neg (fun e => by have := eq_of_beq e; omega)]; omega
theorem byteAt_L {s : ByteArray} {k : Nat} {b : UInt8} (h : s.data.toList[k]? = some b) : byteAt s (k : Int) = b.toNat := by
 unfold byteAt
 rw [Int.toNat_natCast]
 have : s.data[k]? = some b := by rw [← Array.getElem?_toList]; exact h
 rw [this]; rfl
theorem lt_of_get {s : ByteArray} {k : Nat} (h : k < s.size) : ∃ b, s.data.toList[k]? = some b := ⟨_, List.getElem?_eq_getElem (by rw [← Lib.size_eq]; exact h)⟩
def cutR (s : ByteArray) (c : Int) : Nat → Nat → Nat → List ByteArray
 | 0, fr, i => [s.extract fr i]
 | f + 1, fr, i => if byteAt s (i : Int) = c then s.extract fr i :: cutR s c f (i + 1) (i + 1) else cutR s c f fr (i + 1)
theorem cut_eq {s : ByteArray} {c : UInt8} : ∀ (f fr i : Nat), i + f = s.size → fr ≤ i → (∀ k, fr ≤ k → k < i → byteAt s (k : Int) ≠ c.toNat) → cutR s c.toNat f fr i = splitF (s.extract fr s.size) c
 | 0, fr, i, h, hf, hn => by
  have hi : i = s.size := by omega
  subst hi
  have h0 : Lib.indexB (s.extract fr s.size) (ba [c]) = -1 := by
   show Lib.index (s.extract fr s.size).data.toList [c] = -1
   rw [Lib.extract_to_end]
   refine index_no (fun hc => ?_)
   obtain ⟨k, hk⟩ := List.mem_iff_getElem?.1 hc
   rw [List.getElem?_drop] at hk
   have hl := (List.getElem?_eq_some_iff.1 hk).1
   rw [← Lib.size_eq] at hl
   exact hn (fr + k) (by omega) hl (byteAt_L hk)
  unfold splitF
  rw [Lib.countB_miss _ _ h0]; rfl
 | f + 1, fr, i, h, hf, hn => by
  rw [cutR]
  split
  ·rename_i he
   obtain ⟨b, hb⟩ := lt_of_get (s := s) (k := i) (by omega)
   have hbc : b = c := by
    have := byteAt_L hb
    rw [he] at this
    exact (UInt8.toNat_inj.1 (by omega)).symm
   subst hbc
   have hd : s.data.toList.drop fr = (s.data.toList.drop fr).take (i - fr) ++ b :: s.data.toList.drop (i + 1) := by
    have h1 := (List.take_append_drop (i - fr) (s.data.toList.drop fr)).symm
    rw [List.drop_drop, show fr + (i - fr) = i by omega] at h1
    have h2 := (List.getElem?_eq_some_iff.1 hb)
    obtain ⟨h3, h4⟩ := h2
    rw [List.drop_eq_getElem_cons h3, h4] at h1
    exact h1
   have hlen : ((s.data.toList.drop fr).take (i - fr)).length = i - fr := by
    rw [List.length_take, List.length_drop, ← Lib.size_eq]; omega
   have h0 : Lib.indexB (s.extract fr s.size) (ba [b]) = ((i - fr : Nat) : Int) := by
    show Lib.index (s.extract fr s.size).data.toList [b] = _
    rw [Lib.extract_to_end, hd, index_at, hlen]
    intro hc
    obtain ⟨k, hk⟩ := List.mem_iff_getElem?.1 hc
    have hl := (List.getElem?_eq_some_iff.1 hk).1
    rw [hlen] at hl
    rw [List.getElem?_take_of_lt hl, List.getElem?_drop] at hk
    exact hn (fr + k) (by omega) (by omega) (byteAt_L hk)
   have ih := cut_eq (s := s) (c := b) f (i + 1) (i + 1) (by omega) (Nat.le_refl _) (fun k h1 h2 => absurd h2 (by omega))
   have e1 : (s.extract fr s.size).extract 0 (i - fr + 0) = s.extract fr i := ba_ext (by
    rw [Lib.extract_from_zero, Lib.extract_to_end, Lib.extract_data]; rfl)
   have e2 : (s.extract fr s.size).extract (i - fr + (ba [b]).size) (s.extract fr s.size).size = s.extract (i + 1) s.size := ba_ext (by
    rw [Lib.extract_to_end, Lib.extract_to_end, Lib.extract_to_end, List.drop_drop]
    rw [show (ba [b]).size = 1 from rfl, show fr + (i - fr + 1) = i + 1 by omega])
   rw [ih]
   unfold splitF
   have hc := Lib.countB_hit (s.extract fr s.size) (ba [b]) (i - fr) (Nat.le_refl _) h0
   rw [hc, Nat.add_comm 1, Lib.splitB_hit _ _ _ _ _ h0, e1, e2]
  ·rename_i he
   exact cut_eq f fr (i + 1) (by omega) (by omega) (fun k h1 h2 => by
    rcases Nat.lt_succ_iff_lt_or_eq.1 h2 with h3 | h3
    ·exact hn k h1 h3
    ·subst h3; exact he)
theorem cut_all (s : ByteArray) (c : UInt8) : cutR s c.toNat s.size 0 0 = splitF s c := by
 have h := cut_eq (s := s) (c := c) s.size 0 0 (by omega) (Nat.le_refl _) (fun k h1 h2 => absurd h2 (by omega))
 have e : s.extract 0 s.size = s := ba_ext (by rw [Lib.extract_to_end]; rfl)
 rw [e] at h; exact h
structure CutJ (s : ByteArray) (c : Int) (i fr : Nat) (acc : List ByteArray) : Prop where
 le : i ≤ s.size + 1
 frl : fr ≤ i
 len : acc.length ≤ i
 eq : (i ≤ s.size ∧ acc ++ cutR s c (s.size - i) fr i = cutR s c s.size 0 0) ∨ (i = s.size + 1 ∧ acc = cutR s c s.size 0 0)
theorem CutJ.start (s : ByteArray) (c : Int) : CutJ s c 0 0 [] := ⟨Nat.zero_le _, Nat.le_refl _, Nat.le_refl _, .inl ⟨Nat.zero_le _, rfl⟩⟩
theorem CutJ.on {s : ByteArray} {c : Int} {i fr : Nat} {acc : List ByteArray} (h : CutJ s c i fr acc) (hi : i < s.size) (hb : byteAt s (i : Int) ≠ c) : CutJ s c (i + 1) fr acc := by
 refine ⟨by omega, by have := h.frl; omega, by have := h.len; omega, .inl ⟨by omega, ?_⟩⟩
 rcases h.eq with ⟨_, he⟩ | ⟨h1, _⟩
 ·obtain ⟨f, hf⟩ : ∃ f, s.size - i = f + 1 := ⟨s.size - i - 1, by omega⟩
  rw [hf, cutR, if_neg hb] at he
  rw [show s.size - (i + 1) = f by omega]; exact he
 ·omega
theorem CutJ.hit {s : ByteArray} {c : Int} {i fr : Nat} {acc : List ByteArray} (h : CutJ s c i fr acc) (hi : i < s.size) (hb : byteAt s (i : Int) = c) : CutJ s c (i + 1) (i + 1) (acc ++ [s.extract fr i]) := by
 refine ⟨by omega, Nat.le_refl _, by have := h.len; simp; omega, .inl ⟨by omega, ?_⟩⟩
 rcases h.eq with ⟨_, he⟩ | ⟨h1, _⟩
 ·obtain ⟨f, hf⟩ : ∃ f, s.size - i = f + 1 := ⟨s.size - i - 1, by omega⟩
  rw [hf, cutR, if_pos hb] at he
  rw [show s.size - (i + 1) = f by omega, List.append_assoc]; exact he
 ·omega
theorem CutJ.last {s : ByteArray} {c : Int} {i fr : Nat} {acc : List ByteArray} (h : CutJ s c i fr acc) (hi : ¬ i < s.size) (hi2 : i ≤ s.size) : CutJ s c (i + 1) (i + 1) (acc ++ [s.extract fr i]) := by
 refine ⟨by omega, Nat.le_refl _, by have := h.len; simp; omega, .inr ⟨by omega, ?_⟩⟩
 rcases h.eq with ⟨_, he⟩ | ⟨h1, _⟩
 ·rw [show s.size - i = 0 by omega] at he; exact he
 ·omega
theorem CutJ.fin {s : ByteArray} {c : UInt8} {i fr : Nat} {acc : List ByteArray} (h : CutJ s c.toNat i fr acc) (hi : ¬ i ≤ s.size) : acc = splitF s c := by
 rcases h.eq with ⟨h1, _⟩ | ⟨_, he⟩
 ·omega
 ·rw [he, cut_all]
theorem join_snoc (xs : List ByteArray) (x sep : ByteArray) (h : 0 < xs.length) : joinF (xs ++ [x]) sep = (joinF xs sep ++ sep) ++ x := by
 refine ba_ext ?_
 rw [data_cat, data_cat]
 cases xs with
 | nil => simp at h
 | cons y r =>
  show Lib.join (((y :: r) ++ [x]).map (·.data.toList)) sep.data.toList = Lib.join ((y :: r).map (·.data.toList)) sep.data.toList ++ _ ++ _
  rw [List.cons_append, List.map_cons, List.map_cons, Lib.join_cons, Lib.join_cons, List.map_append, Lib.joinTail, Lib.joinTail]
  simp [List.append_assoc]
theorem join_one' (x sep : ByteArray) : joinF [x] sep = x := ba_ext (by
 show Lib.join ([x].map (·.data.toList)) sep.data.toList = _
 rw [List.map_cons, List.map_nil, Lib.join_one])
theorem ba_nil_cat (x : ByteArray) : ba [] ++ x = x := ba_ext (by rw [data_cat]; rfl)
theorem ba_cat_assoc (x y z : ByteArray) : x ++ y ++ z = x ++ (y ++ z) := ba_ext (by simp only [data_cat, List.append_assoc])
theorem join_nil' (sep : ByteArray) : joinF [] sep = ba [] := rfl
def txF (l : List (List ByteArray)) (i : Nat) : ByteArray := joinF ((l.take i).map dotF) (ba [44])
def inT (l : List (List ByteArray)) (i k : Nat) : ByteArray := if k = 0 then txF l i else txF l i ++ ((if i = 0 then ba [] else ba [44]) ++ joinF ((l.getD i (dflt .strs)).take k) (ba [46]))
theorem take_snocB {l : List ByteArray} {k : Nat} (h : k < l.length) : l.take (k + 1) = l.take k ++ [l.getD k (dflt .str)] := by
 rw [List.take_succ_eq_append_getElem h, List.getD_eq_getElem?_getD, List.getElem?_eq_getElem h]; rfl
theorem in_first {l : List (List ByteArray)} {i : Nat} (h : 0 < (l.getD i (dflt .strs)).length) (hi : i = 0) : inT l i 0 ++ (l.getD i (dflt .strs)).getD 0 (dflt .str) = inT l i 1 := by
 subst hi
 unfold inT
 rw [if_pos rfl, if_neg (by decide), take_snocB h, List.take_zero, List.nil_append, join_one', if_pos rfl, ba_nil_cat]
theorem in_next {l : List (List ByteArray)} {i : Nat} (h : 0 < (l.getD i (dflt .strs)).length) (hi : 0 < i) : (inT l i 0 ++ ba [44]) ++ (l.getD i (dflt .strs)).getD 0 (dflt .str) = inT l i 1 := by
 unfold inT
 rw [if_pos rfl, if_neg (by decide), take_snocB h, List.take_zero, List.nil_append, join_one', if_neg (by omega), ba_cat_assoc]
theorem in_more {l : List (List ByteArray)} {i k : Nat} (h : k < (l.getD i (dflt .strs)).length) (hk : 0 < k) : (inT l i k ++ ba [46]) ++ (l.getD i (dflt .strs)).getD k (dflt .str) = inT l i (k + 1) := by
 unfold inT
 rw [if_neg (c := k = 0) (by omega), if_neg (c := k + 1 = 0) (by omega), take_snocB h, join_snoc _ _ _ (by rw [List.length_take]; omega)]
 simp only [ba_cat_assoc]
theorem in_end {l : List (List ByteArray)} {i k : Nat} (hi : i < l.length) (h : 0 < (l.getD i (dflt .strs)).length) (hk : (l.getD i (dflt .strs)).length ≤ k) : inT l i k = txF l (i + 1) := by
 unfold inT txF
 rw [if_neg (by omega), List.take_of_length_le hk, List.take_succ_eq_append_getElem hi, List.map_append, List.map_cons, List.map_nil]
 have e : l.getD i (dflt .strs) = l[i] := by rw [List.getD_eq_getElem?_getD, List.getElem?_eq_getElem hi]; rfl
 rw [e]
 by_cases h0 : i = 0
 ·subst h0
  rw [if_pos rfl, List.take_zero, List.map_nil, List.nil_append, join_one', join_nil', ba_nil_cat, ba_nil_cat]; rfl
 ·rw [if_neg h0, join_snoc _ _ _ (by rw [List.length_map, List.length_take]; omega), ba_cat_assoc]; rfl
theorem size_cat (a b : ByteArray) : (a ++ b).size = a.size + b.size := by rw [Lib.size_eq, Lib.size_eq, Lib.size_eq, data_cat, List.length_append]
theorem in_room {l : List (List ByteArray)} {i k : Nat} (hc : checkF l = true) (hi : i < l.length) : (inT l i k).size ≤ 7700000 := by
 obtain ⟨h1, h2⟩ := checkF_in hc
 have ht : (txF l i).size ≤ 7563840 := by
  have h3 := joinF_size ((l.take i).map dotF) (ba [44])
  have h4 := sum_le (xs := (l.take i).map dotF) (b := 126063) (fun x hx => by
   obtain ⟨p, hp, rfl⟩ := List.mem_map.1 hx
   have hp := List.mem_of_mem_take hp
   exact path_join (h2 p hp).1 (h2 p hp).2.2)
  have h5 : (ba [44]).size = 1 := rfl
  rw [h5] at h3
  rw [List.length_map, List.length_take] at h3 h4
  unfold txF; omega
 unfold inT
 split
 ·omega
 ·have hp := h2 _ (getD_mem hi (dflt .strs))
  have h3 := path_join (p := (l.getD i (dflt .strs)).take k) (by rw [List.length_take]; omega) (fun n hn => hp.2.2 n (List.mem_of_mem_take hn))
  unfold dotF at h3
  rw [size_cat, size_cat]
  have h6 : (if i = 0 then ba [] else ba [44]).size ≤ 1 := by split <;> decide
  omega
theorem name_room {l : List (List ByteArray)} {i k : Nat} (hc : checkF l = true) (hi : i < l.length) (hk : k < (l.getD i (dflt .strs)).length) : ((l.getD i (dflt .strs)).getD k (dflt .str)).size ≤ 2000 :=
 nameF_size (((checkF_in hc).2 _ (getD_mem hi (dflt .strs))).2.2 _ (getD_mem hk _))
theorem path_pos {l : List (List ByteArray)} {i : Nat} (hc : checkF l = true) (hi : i < l.length) : 0 < (l.getD i (dflt .strs)).length :=
 List.length_pos_iff.2 (((checkF_in hc).2 _ (getD_mem hi (dflt .strs))).2.1)
open Go.Proofs.Tryz
theorem con85 (s : ByteArray) (c : UInt8) (n : Int) (hc : n = c.toNat) (hs : s.size < 4294967281) : Con Tryz.prog I0 85 [vs s, .lit (.int .u8 n)] (.own 9 .str (splitF s c)) := by
 refine con_of Tryz.func85 rfl (Nat.le_of_ble_eq_true rfl) stab (fun w0 fz a hI hs => ?_)
 refine wp_seq ?_
 refine wN hs hI [] [0, 1] [] (True ∧ True) .norm [(0, vs s), (1, .lit (.int .u8 n))] [] (by kernel_rfl) ⟨tv, tv⟩ (fun a w hs => ?_)
 refine then_norm ?_
 refine wp_seq ?_
 refine wN hs hI [] [0, 1, 5] [] (True ∧ True) .norm [(0, vs s), (1, .lit (.int .u8 n)), (5, nilv)] [] (by kernel_rfl) ⟨tv, tv⟩ (fun a w hs => ?_)
 refine then_norm ?_
 refine wp_seq ?_
 refine wN hs hI [] [0, 1, 5, 6] [] (True ∧ True) .norm [(0, vs s), (1, .lit (.int .u8 n)), (5, nilv), (6, vi 0)] [] (by kernel_rfl) ⟨tv, tv⟩ (fun a w hs => ?_)
 refine then_norm ?_
 refine wp_seq ?_
 refine wp_seq ?_
 refine wN hs hI [] [0, 1, 5, 6, 7] [] (True ∧ True) .norm [(0, vs s), (1, .lit (.int .u8 n)), (5, nilv), (6, vi 0), (7, vi 0)] [] (by kernel_rfl) ⟨tv, tv⟩ (fun a w hs => ?_)
 refine then_norm ?_
 refine wp_block ?_
 refine loop_L (N := Tryz.f85.ntmps) (w0 := w0) (ow := noO fz) (α := Nat × Nat × List ByteArray) (fun p => [(0, vs s), (1, .lit (.int .u8 n)), (5, .own 90000001), (6, vi ((p.2.1 : Nat) : Int)), (7, vi ((p.1 : Nat) : Int))]) (fun p => [(90000001, .sl 9 .str p.2.2)]) (fun p => CutJ s n p.1 p.2.1 p.2.2) (fun p => s.size + 1 - p.1) (0, 0, []) ?_ ?_ ?_
 ·exact CutJ.start s n
 ·(have hs := (hs.nil 10000005 5 9 .str (by kernel_rfl) (by decide) (by kernel_rfl) (by kernel_rfl)).rmT [(0, vs s), (1, .lit (.int .u8 n)), (5, .own 10000005), (6, vi 0), (7, vi 0)] [(10000005, .sl 9 .str ([]))] [(10000005, 10000005)] (by kernel_rfl); exact (hs.cst [(0, vs s), (1, .lit (.int .u8 n)), (5, .own 10000005), (6, vi ((0 : Nat) : Int)), (7, vi ((0 : Nat) : Int))] [(10000005, .sl 9 .str ([]))] rfl).rm [(90000001, 10000005)] (by kernel_rfl))
 rintro ⟨i, fr, acc⟩ hJ a w hs
 try dsimp only at hJ
 have hle := hJ.le
 have hfr := hJ.frl
 have hln := hJ.len
 rcases bt (decide ((i : Int) ≤ (s.size : Int))) with b1 | b1
 ·skip
  have n1 := of_decide_eq_true b1
  rcases bt (decide ((i : Int) < (s.size : Int))) with b2 | b2
  ·skip
   have n2 := of_decide_eq_true b2
   rcases bt ((byteAt s (i : Int)) != n) with b3 | b3
   ·skip
    have n3 := bne_iff_ne.1 b3
    refine wL hs hI [(6, ⟨[], gg [5, 6, 7, 8, 9, 1010] [], []⟩)] [true, true] [0, 1, 5, 6, 7] [90000001] (((tr 4 True) ∧ (ty b1) ∧ True) ∧ (((tr 5 (rp 2 b2 ((ty b2) ∧ (0 ≤ (i : Int) ∧ (i : Int) < s.size) ∧ (rp 2 b2 ((ty b2) ∧ True))))) ∧ (ty b3) ∧ True) ∧ True ∧ (InR .i64 ((i : Int) + 1)) ∧ True ∧ True)) .norm [(0, vs s), (1, .lit (.int .u8 n)), (5, .own 90000001), (6, vi (fr : Int)), (7, vi ((i : Int) + 1))] [(90000001, .sl 9 .str acc)] ⟨tv, tv⟩ (by kernel_rfl) ⟨⟨tr_mk tv 4, b1, tv⟩, ⟨tr_mk (rp_mk (⟨b2, (by omega), rp_mk (⟨b2, tv⟩) 2⟩) 2) 5, b3, tv⟩, tv, (inR64 (by omega) (by omega)), tv, tv⟩ (fun a w hs => ?_)
    refine then_norm ⟨(i + 1, fr, acc), hJ.on (by omega) (bne_iff_ne.1 b3), by omega, ?_⟩
    (have e0_ : ((i : Int) + 1) = ((((i + 1) : Nat) : Int)) := (by first | rfl | (omega)); exact (hs.cst [(0, vs s), (1, .lit (.int .u8 n)), (5, .own 90000001), (6, vi (fr : Int)), (7, vi (((i + 1) : Nat) : Int))] [(90000001, .sl 9 .str acc)] (by first | rfl | (rw [e0_]; done) | (simp only [e0_]; done) | (simp only [e0_]; rfl))).rm [(90000001, 90000001)] (by kernel_rfl))
   ·skip
    have n3 := bne_eq_false_iff_eq.1 b3
    refine wL hs hI [(6, ⟨[], gg [5, 6, 7, 8, 9, 1010] [], []⟩)] [true, false] [0, 1, 5, 6, 7] [8006] (((tr 4 True) ∧ (ty b1) ∧ True) ∧ ((((tr 5 (rp 2 b2 ((ty b2) ∧ (0 ≤ (i : Int) ∧ (i : Int) < s.size) ∧ (rp 2 b2 ((ty b2) ∧ True))))) ∧ (ty b3) ∧ True) ∧ (tr 4 ((0 ≤ (fr : Int) ∧ (fr : Int) ≤ (i : Int) ∧ (i : Int) ≤ (s.size : Int)) ∧ True ∧ (((acc.length + 1) * 16 : Nat) ≤ 140737488355328 ∧ acc.length + 1 ≤ 140737488355328) ∧ True ∧ True)) ∧ True ∧ (InR .i64 ((i : Int) + 1)) ∧ True ∧ True) ∧ True ∧ (InR .i64 ((i : Int) + 1)) ∧ True ∧ True)) .norm [(0, vs s), (1, .lit (.int .u8 n)), (5, .own 8006), (6, vi ((i : Int) + 1)), (7, vi ((i : Int) + 1))] [(8006, .sl 9 .str (acc ++ ([s.extract fr i])))] ⟨tv, tv⟩ (by kernel_rfl) ⟨⟨tr_mk tv 4, b1, tv⟩, ⟨⟨tr_mk (rp_mk (⟨b2, (by omega), rp_mk (⟨b2, tv⟩) 2⟩) 2) 5, b3, tv⟩, tr_mk (⟨(by (repeat' apply And.intro) <;> (try split) <;> omega), tv, (by omega), tv, tv⟩) 4, tv, (inR64 (by omega) (by omega)), tv, tv⟩, tv, (inR64 (by omega) (by omega)), tv, tv⟩ (fun a w hs => ?_)
    refine then_norm ⟨(i + 1, i + 1, acc ++ [s.extract fr i]), hJ.hit (by omega) (bne_eq_false_iff_eq.1 b3), by omega, ?_⟩
    (have e0_ : ((i : Int) + 1) = ((((i + 1) : Nat) : Int)) := (by first | rfl | (omega)); exact (hs.cst [(0, vs s), (1, .lit (.int .u8 n)), (5, .own 8006), (6, vi (((i + 1) : Nat) : Int)), (7, vi (((i + 1) : Nat) : Int))] [(8006, .sl 9 .str (acc ++ [s.extract fr i]))] (by first | rfl | (rw [e0_]; done) | (simp only [e0_]; done) | (simp only [e0_]; rfl))).rm [(90000001, 8006)] (by kernel_rfl))
  ·skip
   have n2 := of_decide_eq_false b2
   refine wL hs hI [(6, ⟨[], gg [] [5, 6, 7, 8, 9, 1010], []⟩)] [true, false] [0, 1, 5, 6, 7] [8006] (((tr 4 True) ∧ (ty b1) ∧ True) ∧ ((((tr 5 ((ty b2) ∧ (ty b2) ∧ (ty b2) ∧ (ty b2) ∧ (ty b2) ∧ (ty b2) ∧ True)) ∧ (false = false) ∧ True) ∧ (tr 4 ((0 ≤ (fr : Int) ∧ (fr : Int) ≤ (i : Int) ∧ (i : Int) ≤ (s.size : Int)) ∧ True ∧ (((acc.length + 1) * 16 : Nat) ≤ 140737488355328 ∧ acc.length + 1 ≤ 140737488355328) ∧ True ∧ True)) ∧ True ∧ (InR .i64 ((i : Int) + 1)) ∧ True ∧ True) ∧ True ∧ (InR .i64 ((i : Int) + 1)) ∧ True ∧ True)) .norm [(0, vs s), (1, .lit (.int .u8 n)), (5, .own 8006), (6, vi ((i : Int) + 1)), (7, vi ((i : Int) + 1))] [(8006, .sl 9 .str (acc ++ ([s.extract fr i])))] ⟨tv, tv⟩ (by kernel_rfl) ⟨⟨tr_mk tv 4, b1, tv⟩, ⟨⟨tr_mk (⟨b2, b2, b2, b2, b2, b2, tv⟩) 5, rfl, tv⟩, tr_mk (⟨(by (repeat' apply And.intro) <;> (try split) <;> omega), tv, (by omega), tv, tv⟩) 4, tv, (inR64 (by omega) (by omega)), tv, tv⟩, tv, (inR64 (by omega) (by omega)), tv, tv⟩ (fun a w hs => ?_)
   refine then_norm ⟨(i + 1, i + 1, acc ++ [s.extract fr i]), hJ.last (by omega) (by omega), by omega, ?_⟩
   (have e0_ : ((i : Int) + 1) = ((((i + 1) : Nat) : Int)) := (by first | rfl | (omega)); exact (hs.cst [(0, vs s), (1, .lit (.int .u8 n)), (5, .own 8006), (6, vi (((i + 1) : Nat) : Int)), (7, vi (((i + 1) : Nat) : Int))] [(8006, .sl 9 .str (acc ++ [s.extract fr i]))] (by first | rfl | (rw [e0_]; done) | (simp only [e0_]; done) | (simp only [e0_]; rfl))).rm [(90000001, 8006)] (by kernel_rfl))
 ·skip
  have n1 := of_decide_eq_false b1
  refine wN hs hI [false] [5] [90000001] ((tr 4 True) ∧ ((ty b1) ∧ True)) (.exit 0) [(5, .own 90000001)] [(90000001, .sl 9 .str acc)] (by kernel_rfl) ⟨tr_mk tv 4, b1, tv⟩ (fun a w hs => ?_)
  refine then_exit ?_
  refine inb_hit ?_
  refine then_norm ?_
  refine wN hs hI [] [4] [90000001] ((True ∧ True ∧ True) ∧ True) .ret [(4, .own 90000001)] [(90000001, .sl 9 .str acc)] (by kernel_rfl) ⟨⟨tv, tv, tv⟩, tv⟩ (fun a w hs => ?_)
  exact FnQ_cast (out := .own 9 .str acc) (by subst hc; rw [hJ.fin (by omega)]) (ret_ok [] hs (.inl ⟨90000001, by kernel_rfl, rfl⟩))
def longP (p : ByteArray) : Bool := decide (((splitF p 46).length : Int) > 63)
def bigTo (s : ByteArray) (i : Nat) : Bool := decide (((splitF s 44).length : Int) > 60) || ((splitF s 44).take i).any longP
theorem bigTo_succ {s : ByteArray} {i : Nat} (h : i < (splitF s 44).length) : bigTo s (i + 1) = (bigTo s i || longP ((splitF s 44).getD i (dflt .str))) := by
 unfold bigTo
 rw [take_snocB h, List.any_append]
 simp [Bool.or_assoc]
theorem bigTo_zero (s : ByteArray) : bigTo s 0 = decide (((splitF s 44).length : Int) > 60) := by unfold bigTo; simp
theorem piece_ok {p : ByteArray} (h : ∀ k, k < (splitF p 46).length → nameF ((splitF p 46).getD k (dflt .str)) = true) : badPiece p = false := by
 unfold badPiece
 rw [List.any_eq_false]
 intro x hx
 obtain ⟨j, hj, rfl⟩ := List.mem_iff_getElem.1 hx
 have := h j hj
 rw [List.getD_eq_getElem?_getD, List.getElem?_eq_getElem hj] at this
 simpa using this
theorem piece_no {p : ByteArray} {k : Nat} (hk : k < (splitF p 46).length) (h : nameF ((splitF p 46).getD k (dflt .str)) = false) : badPiece p = true :=
 List.any_eq_true.2 ⟨_, getD_mem hk (dflt .str), by rw [h]; rfl⟩
theorem split_pos (s : ByteArray) (c : UInt8) : 0 < (splitF s c).length := by
 unfold splitF
 rw [Lib.splitB_all (ba [c]) (Nat.le_refl _) 0 _ s rfl]; omega
theorem cuts_check {s : ByteArray} (h : (splitF s 44).any badPiece = false) : checkF (cutsF s) = !bigTo s (splitF s 44).length := by
 unfold checkF bigTo cutsF
 rw [List.take_length, List.length_map, List.any_map]
 have e : ((splitF s 44).any (badPath ∘ fun p => splitF p 46)) = (splitF s 44).any longP := by
  suffices key : ∀ p ∈ splitF s 44, badPath (splitF p 46) = longP p by
   rw [Bool.eq_iff_iff, List.any_eq_true, List.any_eq_true]
   exact ⟨fun ⟨p, hp, hq⟩ => ⟨p, hp, by rw [← key p hp]; exact hq⟩, fun ⟨p, hp, hq⟩ => ⟨p, hp, by show badPath (splitF p 46) = true; rw [key p hp]; exact hq⟩⟩
  intro p hp
  have h1 := List.any_eq_false.1 h p hp
  have h2 : ((splitF p 46).any fun n => !nameF n) = false := by simpa [badPiece] using h1
  have h3 := split_pos p 46
  unfold badPath longP
  rw [h2]
  have h4 : (((splitF p 46).length : Int) == 0) = false := by rw [beq_eq_false_iff_ne]; omega
  simp [h4]
 rw [e]
 rw [show decide (((splitF s 44).length : Int) ≤ 60) = !decide (((splitF s 44).length : Int) > 60) from by rw [Bool.eq_iff_iff]; simp]
 cases (splitF s 44).any longP <;> cases decide (((splitF s 44).length : Int) > 60) <;> rfl
theorem con32 (s : ByteArray) (hs0 : s.size < 4294960000) : Con Tryz.prog I0 32 [vs s] (.val (.tup [.row .strs ((parseF s).1), vi ((parseF s).2)])) := by
 refine con_of Tryz.func32 rfl (Nat.le_of_ble_eq_true rfl) stab (fun w0 fz a hI hs => ?_)
 refine wp_seq ?_
 refine wN hs hI [] [0] [] (True ∧ (True ∧ True)) .norm [(0, vs s)] [] (by kernel_rfl) ⟨tv, tv, tv⟩ (fun a w hs => ?_)
 refine then_norm ?_
 refine wp_seq ?_
 rcases bt (s.toList == (ba []).toList) with b1 | b1
 ·skip
  have n1 := eq_of_beq b1
  refine wN hs hI [true] [2, 3] [] ((True ∧ True ∧ True) ∧ ((ty b1) ∧ (True ∧ True ∧ True) ∧ True)) .ret [(2, nilv), (3, vi 0)] [] (by kernel_rfl) ⟨⟨tv, tv, tv⟩, b1, ⟨tv, tv, tv⟩, tv⟩ (fun a w hs => ?_)
  refine then_ret ?_
  exact FnQ_cast (out := .val (.tup [.row .strs ([]), vi 0])) (by simp only [parseF]; rw [if_pos b1]) (ret_ok [] hs ⟨by kernel_rfl, rfl⟩)
 ·skip
  have n1 := beq_eq_false_iff_ne.1 b1
  refine wN hs hI [false] [0] [] ((True ∧ True ∧ True) ∧ ((ty b1) ∧ True)) .norm [(0, vs s)] [] (by kernel_rfl) ⟨⟨tv, tv, tv⟩, b1, tv⟩ (fun a w hs => ?_)
  refine then_norm ?_
  refine wp_seq ?_
  refine wN hs hI [] [0, 4] [] (True ∧ True) .norm [(0, vs s), (4, nilv)] [] (by kernel_rfl) ⟨tv, tv⟩ (fun a w hs => ?_)
  refine then_norm ?_
  refine wp_seq ?_
  refine wL hs hI [(4, ⟨[(1, ciA 85 [vs s, .lit (.int .u8 44)] [] [] (.own 9 .str (splitF s 44)))], [], []⟩)] [] [4, 5] [5001] (True ∧ ((okArgs [vs s, .lit (.int .u8 44)]) ∧ True ∧ True)) .norm [(4, nilv), (5, .own 5001)] [(5001, .sl 9 .str (splitF s 44))] ⟨⟨⟨ent85, con85 _ 44 44 rfl (by first | omega | (have := sz_at hs0 (c := 44) (i := i) (by omega) (dflt .str); omega))⟩, tv⟩, tv⟩ (by kernel_rfl) ⟨tv, rfl, tv, tv⟩ (fun a w hs => ?_)
  refine then_norm ?_
  refine wp_seq ?_
  refine wN hs hI [] [4, 5, 6] [5001] (tr 4 True) .norm [(4, nilv), (5, .own 5001), (6, vb (decide (((splitF s 44).length : Int) > 60)))] [(5001, .sl 9 .str (splitF s 44))] (by kernel_rfl) (tr_mk tv 4) (fun a w hs => ?_)
  refine then_norm ?_
  refine wp_seq ?_
  refine wp_seq ?_
  refine wN hs hI [] [4, 5, 6, 7] [5001] (True ∧ True) .norm [(4, nilv), (5, .own 5001), (6, vb (decide (((splitF s 44).length : Int) > 60))), (7, vi 0)] [(5001, .sl 9 .str (splitF s 44))] (by kernel_rfl) ⟨tv, tv⟩ (fun a w hs => ?_)
  refine then_norm ?_
  refine wp_block ?_
  refine loop_L (N := Tryz.f32.ntmps) (w0 := w0) (ow := noO fz) (α := Nat) (fun p => [(4, .own 90000001), (5, .own 5001), (6, vb (bigTo s p)), (7, vi (p : Int))]) (fun p => [(5001, .sl 9 .str (splitF s 44)), (90000001, .sl 26 .strs (((splitF s 44).take p).map (fun p => splitF p 46)))]) (fun p => p ≤ (splitF s 44).length ∧ ∀ j, j < p → ∀ d, badPiece ((splitF s 44).getD j d) = false) (fun p => (splitF s 44).length - p) 0 ?_ ?_ ?_
  ·exact ⟨Nat.zero_le _, fun j hj => absurd hj (Nat.not_lt_zero _)⟩
  ·(have hs := (hs.nil 10000006 4 26 .strs (by kernel_rfl) (by decide) (by kernel_rfl) (by kernel_rfl)).rmT [(4, .own 10000006), (5, .own 5001), (6, vb (decide (((splitF s 44).length : Int) > 60))), (7, vi 0)] [(5001, .sl 9 .str (splitF s 44)), (10000006, .sl 26 .strs ([]))] [(5001, 5001), (10000006, 10000006)] (by kernel_rfl); have e0_ : (decide (((splitF s 44).length : Int) > 60)) = (bigTo s 0) := (by first | rfl | (first | rfl | exact (bigTo_zero s).symm)); have e1_ : (0) = (((0 : Nat) : Int)) := (by first | rfl | (first | rfl | exact (bigTo_zero s).symm)); have e2_ : ([]) = (((splitF s 44).take 0).map (fun p => splitF p 46)) := (by first | rfl | (first | rfl | exact (bigTo_zero s).symm)); exact (hs.cst [(4, .own 10000006), (5, .own 5001), (6, vb (bigTo s 0)), (7, vi ((0 : Nat) : Int))] [(5001, .sl 9 .str (splitF s 44)), (10000006, .sl 26 .strs (((splitF s 44).take 0).map (fun p => splitF p 46)))] (by first | rfl | (rw [e0_, e1_, e2_]; done) | (simp only [e0_, e1_, e2_]; done) | (simp only [e0_, e1_, e2_]; rfl))).rm [(5001, 5001), (90000001, 10000006)] (by kernel_rfl))
  rintro i hJ a w hs
  obtain ⟨hi, hall⟩ := hJ
  have hspl := split_len s 44
  have htk := take_map_len (f := fun p => splitF p 46) hi
  refine wp_seq ?_
  rcases bt (decide ((i : Int) < ((splitF s 44).length : Int))) with b2 | b2
  ·skip
   have n2 := of_decide_eq_true b2
   refine wN hs hI [true] [4, 5, 6, 7] [5001, 90000001] ((tr 4 True) ∧ ((ty b2) ∧ True)) .norm [(4, .own 90000001), (5, .own 5001), (6, vb (bigTo s i)), (7, vi (i : Int))] [(5001, .sl 9 .str (splitF s 44)), (90000001, .sl 26 .strs (((splitF s 44).take i).map (fun p => splitF p 46)))] (by kernel_rfl) ⟨tr_mk tv 4, b2, tv⟩ (fun a w hs => ?_)
   refine then_norm ?_
   refine wp_seq ?_
   refine wp_block ?_
   refine wp_seq ?_
   refine wL hs hI [(9, ⟨[(4, ciA 85 [vs ((splitF s 44).getD i (dflt .str)), .lit (.int .u8 46)] [] [] (.own 9 .str (splitF ((splitF s 44).getD i (dflt .str)) 46)))], [], []⟩)] [] [4, 5, 6, 7, 8] [5001, 10004, 90000001] (True ∧ (True ∧ (0 ≤ (i : Int) ∧ (i : Int) < (splitF s 44).length) ∧ (i < (splitF s 44).length) ∧ (okArgs [vs ((splitF s 44).getD i (dflt .str)), .lit (.int .u8 46)]) ∧ True ∧ True)) .norm [(4, .own 90000001), (5, .own 5001), (6, vb (bigTo s i)), (7, vi (i : Int)), (8, .own 10004)] [(5001, .sl 9 .str (splitF s 44)), (10004, .sl 9 .str (splitF ((splitF s 44).getD i (dflt .str)) 46)), (90000001, .sl 26 .strs (((splitF s 44).take i).map (fun p => splitF p 46)))] ⟨⟨⟨ent85, con85 _ 46 46 rfl (by first | omega | (have := sz_at hs0 (c := 44) (i := i) (by omega) (dflt .str); omega))⟩, tv⟩, tv⟩ (by kernel_rfl) ⟨tv, tv, (by omega), (by omega), rfl, tv, tv⟩ (fun a w hs => ?_)
   refine then_norm ?_
   refine wp_seq ?_
   refine wp_seq ?_
   refine wN hs hI [] [4, 5, 6, 7, 8, 9] [5001, 10004, 90000001] (True ∧ True) .norm [(4, .own 90000001), (5, .own 5001), (6, vb (bigTo s i)), (7, vi (i : Int)), (8, .own 10004), (9, vi 0)] [(5001, .sl 9 .str (splitF s 44)), (10004, .sl 9 .str (splitF ((splitF s 44).getD i (dflt .str)) 46)), (90000001, .sl 26 .strs (((splitF s 44).take i).map (fun p => splitF p 46)))] (by kernel_rfl) ⟨tv, tv⟩ (fun a w hs => ?_)
   refine then_norm ?_
   refine wp_block ?_
   have hsp2 := split_len ((splitF s 44).getD i (dflt .str)) 46
   have hsz2 := sz_at hs0 (c := 44) (i := i) (by omega) (dflt .str)
   refine loop_L (N := Tryz.f32.ntmps) (w0 := w0) (ow := noO fz) (α := Nat) (fun p => [(4, .own 90000001), (5, .own 5001), (6, vb (bigTo s i)), (7, vi (i : Int)), (8, .own 10004), (9, vi (p : Int))]) (fun p => [(5001, .sl 9 .str (splitF s 44)), (10004, .sl 9 .str (splitF ((splitF s 44).getD i (dflt .str)) 46)), (90000001, .sl 26 .strs (((splitF s 44).take i).map (fun p => splitF p 46)))]) (fun p => p ≤ (splitF ((splitF s 44).getD i (dflt .str)) 46).length ∧ ∀ j, j < p → nameF ((splitF ((splitF s 44).getD i (dflt .str)) 46).getD j (dflt .str)) = true) (fun p => (splitF ((splitF s 44).getD i (dflt .str)) 46).length - p) 0 ?_ ?_ ?_
   ·exact ⟨Nat.zero_le _, fun j hj => absurd hj (Nat.not_lt_zero _)⟩
   ·(have e0_ : (0) = (((0 : Nat) : Int)) := (by first | rfl | (rfl)); exact (hs.cst [(4, .own 90000001), (5, .own 5001), (6, vb (bigTo s i)), (7, vi (i : Int)), (8, .own 10004), (9, vi ((0 : Nat) : Int))] [(5001, .sl 9 .str (splitF s 44)), (10004, .sl 9 .str (splitF ((splitF s 44).getD i (dflt .str)) 46)), (90000001, .sl 26 .strs (((splitF s 44).take i).map (fun p => splitF p 46)))] (by first | rfl | (rw [e0_]; done) | (simp only [e0_]; done) | (simp only [e0_]; rfl))).rm [(5001, 5001), (10004, 10004), (90000001, 90000001)] (by kernel_rfl))
   rintro k hJ a w hs
   obtain ⟨hk, hin⟩ := hJ
   rcases bt (decide ((k : Int) < ((splitF ((splitF s 44).getD i (dflt .str)) 46).length : Int))) with b3 | b3
   ·skip
    have n3 := of_decide_eq_true b3
    rcases bt (nameF ((splitF ((splitF s 44).getD i (dflt .str)) 46).getD k (dflt .str))) with b4 | b4
    ·skip
     refine wL hs hI [(13, ⟨[(4, ciA 38 [vs ((splitF ((splitF s 44).getD i (dflt .str)) 46).getD k (dflt .str))] [] [] (.val (vb (nameF ((splitF ((splitF s 44).getD i (dflt .str)) 46).getD k (dflt .str))))))], [], []⟩)] [true, false] [4, 5, 6, 7, 8, 9] [5001, 10004, 90000001] (((tr 4 True) ∧ (ty b3) ∧ True) ∧ (((True ∧ True ∧ (0 ≤ (k : Int) ∧ (k : Int) < (splitF ((splitF s 44).getD i (dflt .str)) 46).length) ∧ (k < (splitF ((splitF s 44).getD i (dflt .str)) 46).length) ∧ (okArgs [vs ((splitF ((splitF s 44).getD i (dflt .str)) 46).getD k (dflt .str))]) ∧ True ∧ True) ∧ (ty (ng1 b4)) ∧ True) ∧ True ∧ (InR .i64 ((k : Int) + 1)) ∧ True ∧ True)) .norm [(4, .own 90000001), (5, .own 5001), (6, vb (bigTo s i)), (7, vi (i : Int)), (8, .own 10004), (9, vi ((k : Int) + 1))] [(5001, .sl 9 .str (splitF s 44)), (10004, .sl 9 .str (splitF ((splitF s 44).getD i (dflt .str)) 46)), (90000001, .sl 26 .strs (((splitF s 44).take i).map (fun p => splitF p 46)))] ⟨⟨⟨ent38, con38 _ (by have h1 := sz_at hs0 (c := 44) (i := i) (by omega) (dflt .str); have h2 := sz_at h1 (c := 46) (i := k) (by omega) (dflt .str); omega)⟩, tv⟩, tv⟩ (by kernel_rfl) ⟨⟨tr_mk tv 4, b3, tv⟩, ⟨⟨tv, tv, (by omega), (by omega), rfl, tv, tv⟩, (ng1 b4), tv⟩, tv, (inR64 (by omega) (by omega)), tv, tv⟩ (fun a w hs => ?_)
     refine then_norm ⟨k + 1, ⟨by omega, fun j hj => by rcases Nat.lt_succ_iff_lt_or_eq.1 hj with h | h; exact hin j h; subst h; exact b4⟩, by omega, ?_⟩
     (have e0_ : ((k : Int) + 1) = ((((k + 1) : Nat) : Int)) := (by first | rfl | (omega)); exact (hs.cst [(4, .own 90000001), (5, .own 5001), (6, vb (bigTo s i)), (7, vi (i : Int)), (8, .own 10004), (9, vi (((k + 1) : Nat) : Int))] [(5001, .sl 9 .str (splitF s 44)), (10004, .sl 9 .str (splitF ((splitF s 44).getD i (dflt .str)) 46)), (90000001, .sl 26 .strs (((splitF s 44).take i).map (fun p => splitF p 46)))] (by first | rfl | (rw [e0_]; done) | (simp only [e0_]; done) | (simp only [e0_]; rfl))).rm [(5001, 5001), (10004, 10004), (90000001, 90000001)] (by kernel_rfl))
    ·skip
     refine wL hs hI [(13, ⟨[(4, ciA 38 [vs ((splitF ((splitF s 44).getD i (dflt .str)) 46).getD k (dflt .str))] [] [] (.val (vb (nameF ((splitF ((splitF s 44).getD i (dflt .str)) 46).getD k (dflt .str))))))], [], []⟩)] [true, true] [2, 3] [] (((tr 4 True) ∧ (ty b3) ∧ True) ∧ ((True ∧ True ∧ (0 ≤ (k : Int) ∧ (k : Int) < (splitF ((splitF s 44).getD i (dflt .str)) 46).length) ∧ (k < (splitF ((splitF s 44).getD i (dflt .str)) 46).length) ∧ (okArgs [vs ((splitF ((splitF s 44).getD i (dflt .str)) 46).getD k (dflt .str))]) ∧ True ∧ True) ∧ (ty (ng0 b4)) ∧ (True ∧ True ∧ True) ∧ True)) .ret [(2, nilv), (3, vi 2)] [] ⟨⟨⟨ent38, con38 _ (by have h1 := sz_at hs0 (c := 44) (i := i) (by omega) (dflt .str); have h2 := sz_at h1 (c := 46) (i := k) (by omega) (dflt .str); omega)⟩, tv⟩, tv⟩ (by kernel_rfl) ⟨⟨tr_mk tv 4, b3, tv⟩, ⟨tv, tv, (by omega), (by omega), rfl, tv, tv⟩, (ng0 b4), ⟨tv, tv, tv⟩, tv⟩ (fun a w hs => ?_)
     refine then_ret ?_
     refine inb_ret ?_
     refine then_ret ?_
     refine inb_ret ?_
     refine then_ret ?_
     refine then_ret ?_
     refine inb_ret ?_
     refine then_ret ?_
     exact FnQ_cast (out := .val (.tup [.row .strs ([]), vi 2])) (by have h1 : (splitF s 44).any badPiece = true := any_at (by omega) (dflt .str) (piece_no (k := k) (by omega) b4); simp only [parseF]; rw [if_neg (by rw [b1]; decide), if_pos h1]) (ret_ok [] hs ⟨by kernel_rfl, rfl⟩)
   ·skip
    have n3 := of_decide_eq_false b3
    refine wN hs hI [false] [4, 5, 6, 7, 8] [5001, 10004, 90000001] ((tr 4 True) ∧ ((ty b3) ∧ True)) (.exit 2) [(4, .own 90000001), (5, .own 5001), (6, vb (bigTo s i)), (7, vi (i : Int)), (8, .own 10004)] [(5001, .sl 9 .str (splitF s 44)), (10004, .sl 9 .str (splitF ((splitF s 44).getD i (dflt .str)) 46)), (90000001, .sl 26 .strs (((splitF s 44).take i).map (fun p => splitF p 46)))] (by kernel_rfl) ⟨tr_mk tv 4, b3, tv⟩ (fun a w hs => ?_)
    refine then_exit ?_
    refine inb_hit ?_
    refine then_norm ?_
    rcases bt (bigTo s i) with b5 | b5
    ·skip
     refine wL hs hI [(15, ⟨[], gg [1005] [2, 3, 4], []⟩)] [] [4, 5, 6, 7] [5001, 17003] ((True ∧ True ∧ (ty b5) ∧ (ty b5) ∧ (ty b5) ∧ (ty b5) ∧ True ∧ True) ∧ (tr 3 (((((((splitF s 44).take i).map (fun p => splitF p 46)).length + 1) * 24 : Nat) ≤ 140737488355328 ∧ (((splitF s 44).take i).map (fun p => splitF p 46)).length + 1 ≤ 140737488355328) ∧ True ∧ True))) .norm [(4, .own 17003), (5, .own 5001), (6, vb true), (7, vi (i : Int))] [(5001, .sl 9 .str (splitF s 44)), (17003, .sl 26 .strs ((((splitF s 44).take i).map (fun p => splitF p 46)) ++ ([splitF ((splitF s 44).getD i (dflt .str)) 46])))] ⟨tv, tv⟩ (by kernel_rfl) ⟨⟨tv, tv, b5, b5, b5, b5, tv, tv⟩, tr_mk (⟨(by omega), tv, tv⟩) 3⟩ (fun a w hs => ?_)
     refine inb_norm ?_
     refine then_norm ?_
     refine wN hs hI [] [4, 5, 6, 7] [5001, 17003] (True ∧ ((InR .i64 ((i : Int) + 1)) ∧ True ∧ True)) .norm [(4, .own 17003), (5, .own 5001), (6, vb true), (7, vi ((i : Int) + 1))] [(5001, .sl 9 .str (splitF s 44)), (17003, .sl 26 .strs ((((splitF s 44).take i).map (fun p => splitF p 46)) ++ ([splitF ((splitF s 44).getD i (dflt .str)) 46])))] (by kernel_rfl) ⟨tv, (inR64 (by omega) (by omega)), tv, tv⟩ (fun a w hs => ?_)
     refine then_norm ⟨i + 1, ⟨by omega, fun j hj d => by rcases Nat.lt_succ_iff_lt_or_eq.1 hj with h | h; exact hall j h d; subst h; rw [getD_any (by omega) d (dflt .str)]; exact piece_ok (fun k hk => hin k (by omega))⟩, by omega, ?_⟩
     (have e0_ : (true) = (bigTo s (i + 1)) := (by first | rfl | (rw [bigTo_succ (by omega), b5]; rfl)); have e1_ : ((i : Int) + 1) = ((((i + 1) : Nat) : Int)) := (by first | rfl | (omega)); have e2_ : ((((splitF s 44).take i).map (fun p => splitF p 46)) ++ ([splitF ((splitF s 44).getD i (dflt .str)) 46])) = (((splitF s 44).take (i + 1)).map (fun p => splitF p 46)) := (by first | rfl | (exact take_map_succ (f := fun p => splitF p 46) (by omega) _)); exact (hs.cst [(4, .own 17003), (5, .own 5001), (6, vb (bigTo s (i + 1))), (7, vi (((i + 1) : Nat) : Int))] [(5001, .sl 9 .str (splitF s 44)), (17003, .sl 26 .strs (((splitF s 44).take (i + 1)).map (fun p => splitF p 46)))] (by first | rfl | (rw [e0_, e1_, e2_]; done) | (simp only [e0_, e1_, e2_]; done) | (simp only [e0_, e1_, e2_]; rfl))).rm [(5001, 5001), (90000001, 17003)] (by kernel_rfl))
    ·skip
     refine wL hs hI [(15, ⟨[], gg [2, 3, 4] [1005], []⟩)] [] [4, 5, 6, 7] [5001, 17003] ((True ∧ True ∧ (rp 4 b5 True)) ∧ (tr 3 (((((((splitF s 44).take i).map (fun p => splitF p 46)).length + 1) * 24 : Nat) ≤ 140737488355328 ∧ (((splitF s 44).take i).map (fun p => splitF p 46)).length + 1 ≤ 140737488355328) ∧ True ∧ True))) .norm [(4, .own 17003), (5, .own 5001), (6, vb (decide (((splitF ((splitF s 44).getD i (dflt .str)) 46).length : Int) > 63))), (7, vi (i : Int))] [(5001, .sl 9 .str (splitF s 44)), (17003, .sl 26 .strs ((((splitF s 44).take i).map (fun p => splitF p 46)) ++ ([splitF ((splitF s 44).getD i (dflt .str)) 46])))] ⟨tv, tv⟩ (by kernel_rfl) ⟨⟨tv, tv, rp_mk (tv) 4⟩, tr_mk (⟨(by omega), tv, tv⟩) 3⟩ (fun a w hs => ?_)
     refine inb_norm ?_
     refine then_norm ?_
     refine wN hs hI [] [4, 5, 6, 7] [5001, 17003] (True ∧ ((InR .i64 ((i : Int) + 1)) ∧ True ∧ True)) .norm [(4, .own 17003), (5, .own 5001), (6, vb (decide (((splitF ((splitF s 44).getD i (dflt .str)) 46).length : Int) > 63))), (7, vi ((i : Int) + 1))] [(5001, .sl 9 .str (splitF s 44)), (17003, .sl 26 .strs ((((splitF s 44).take i).map (fun p => splitF p 46)) ++ ([splitF ((splitF s 44).getD i (dflt .str)) 46])))] (by kernel_rfl) ⟨tv, (inR64 (by omega) (by omega)), tv, tv⟩ (fun a w hs => ?_)
     refine then_norm ⟨i + 1, ⟨by omega, fun j hj d => by rcases Nat.lt_succ_iff_lt_or_eq.1 hj with h | h; exact hall j h d; subst h; rw [getD_any (by omega) d (dflt .str)]; exact piece_ok (fun k hk => hin k (by omega))⟩, by omega, ?_⟩
     (have e0_ : (decide (((splitF ((splitF s 44).getD i (dflt .str)) 46).length : Int) > 63)) = (bigTo s (i + 1)) := (by first | rfl | (rw [bigTo_succ (by omega), b5]; rfl)); have e1_ : ((i : Int) + 1) = ((((i + 1) : Nat) : Int)) := (by first | rfl | (omega)); have e2_ : ((((splitF s 44).take i).map (fun p => splitF p 46)) ++ ([splitF ((splitF s 44).getD i (dflt .str)) 46])) = (((splitF s 44).take (i + 1)).map (fun p => splitF p 46)) := (by first | rfl | (exact take_map_succ (f := fun p => splitF p 46) (by omega) _)); exact (hs.cst [(4, .own 17003), (5, .own 5001), (6, vb (bigTo s (i + 1))), (7, vi (((i + 1) : Nat) : Int))] [(5001, .sl 9 .str (splitF s 44)), (17003, .sl 26 .strs (((splitF s 44).take (i + 1)).map (fun p => splitF p 46)))] (by first | rfl | (rw [e0_, e1_, e2_]; done) | (simp only [e0_, e1_, e2_]; done) | (simp only [e0_, e1_, e2_]; rfl))).rm [(5001, 5001), (90000001, 17003)] (by kernel_rfl))
  ·skip
   have n2 := of_decide_eq_false b2
   refine wN hs hI [false] [4, 6] [90000001] ((tr 4 True) ∧ ((ty b2) ∧ True)) (.exit 0) [(4, .own 90000001), (6, vb (bigTo s i))] [(90000001, .sl 26 .strs (((splitF s 44).take i).map (fun p => splitF p 46)))] (by kernel_rfl) ⟨tr_mk tv 4, b2, tv⟩ (fun a w hs => ?_)
   refine then_exit ?_
   refine then_exit ?_
   refine inb_hit ?_
   refine then_norm ?_
   rcases bt (bigTo s i) with b6 | b6
   ·skip
    refine wN hs hI [true] [2, 3] [] ((True ∧ True) ∧ ((ty b6) ∧ (True ∧ True ∧ True) ∧ True)) .ret [(2, nilv), (3, vi 4)] [] (by kernel_rfl) ⟨⟨tv, tv⟩, b6, ⟨tv, tv, tv⟩, tv⟩ (fun a w hs => ?_)
    exact FnQ_cast (out := .val (.tup [.row .strs ([]), vi 4])) (by have h1 : (splitF s 44).any badPiece = false := any_no (fun j hj d => hall j (by omega) d); have h2 : i = (splitF s 44).length := (by omega); subst h2; have h3 := cuts_check h1; rw [b6] at h3; simp only [parseF]; rw [if_neg (by rw [b1]; decide), if_neg (by rw [h1]; decide), if_neg (by rw [h3]; decide)]) (ret_ok [] hs ⟨by kernel_rfl, rfl⟩)
   ·skip
    refine wN hs hI [false] [2, 3] [90000001] (((True ∧ True) ∧ (ty b6) ∧ True) ∧ ((tr 3 True) ∧ True)) .ret [(2, .own 90000001), (3, vi 0)] [(90000001, .sl 26 .strs (((splitF s 44).take i).map (fun p => splitF p 46)))] (by kernel_rfl) ⟨⟨⟨tv, tv⟩, b6, tv⟩, tr_mk tv 3, tv⟩ (fun a w hs => ?_)
    exact FnQ_cast (out := .val (.tup [.row .strs (((splitF s 44).take i).map (fun p => splitF p 46)), vi 0])) (by have h1 : (splitF s 44).any badPiece = false := any_no (fun j hj d => hall j (by omega) d); have h2 : i = (splitF s 44).length := (by omega); subst h2; have h3 := cuts_check h1; rw [b6] at h3; simp only [parseF]; rw [if_neg (by rw [b1]; decide), if_neg (by rw [h1]; decide), if_pos (by rw [h3]; rfl), List.take_length]; rfl) (ret_ok [90000001] hs ⟨by kernel_rfl, rfl⟩)
theorem con42 (l : List (List ByteArray)) (hsm : ∀ p ∈ l, ∀ x ∈ p, x.size < 4294967281) (hll : l.length < 4294967296) (hlp : ∀ p ∈ l, p.length < 4294967296) : Con Tryz.prog I0 42 [.row .strs l] (.val (vs (textF l))) := by
 refine con_of Tryz.func42 rfl (Nat.le_of_ble_eq_true rfl) stab (fun w0 fz a hI hs => ?_)
 refine wp_seq ?_
 refine wN hs hI [] [0] [] (True ∧ True) .norm [(0, .row .strs l)] [] (by kernel_rfl) ⟨tv, tv⟩ (fun a w hs => ?_)
 refine then_norm ?_
 refine wp_seq ?_
 rcases bt (checkF l) with b1 | b1
 ·skip
  refine wL hs hI [(1, ⟨[(1, ciA 40 [.row .strs l] [] [] (.val (vb (checkF l))))], [], []⟩)] [false] [0] [] ((True ∧ (okArgs [.row .strs l]) ∧ True ∧ True) ∧ ((ty (ng1 b1)) ∧ True)) .norm [(0, .row .strs l)] [] ⟨⟨⟨ent40, con40 _ hsm hll hlp⟩, tv⟩, tv⟩ (by kernel_rfl) ⟨⟨tv, rfl, tv, tv⟩, (ng1 b1), tv⟩ (fun a w hs => ?_)
  refine then_norm ?_
  refine wp_seq ?_
  refine wN hs hI [] [0, 3] [] (True ∧ True) .norm [(0, .row .strs l), (3, vs (ba []))] [] (by kernel_rfl) ⟨tv, tv⟩ (fun a w hs => ?_)
  refine then_norm ?_
  refine wp_seq ?_
  refine wp_seq ?_
  refine wN hs hI [] [0, 3, 4] [] (True ∧ True) .norm [(0, .row .strs l), (3, vs (ba [])), (4, vi 0)] [] (by kernel_rfl) ⟨tv, tv⟩ (fun a w hs => ?_)
  refine then_norm ?_
  refine wp_block ?_
  have hck : checkF l = true := by simpa using b1
  have hxl := (checkF_in hck).1
  refine loop_L (N := Tryz.f42.ntmps) (w0 := w0) (ow := noO fz) (α := Nat) (fun p => [(0, .row .strs l), (3, vs (txF l p)), (4, vi (p : Int))]) (fun p => []) (fun p => p ≤ l.length) (fun p => l.length - p) 0 ?_ ?_ ?_
  ·exact Nat.zero_le _
  ·exact (hs.cst [(0, .row .strs l), (3, vs (txF l 0)), (4, vi ((0 : Nat) : Int))] [] rfl).rm [] (by kernel_rfl)
  rintro i hJ a w hs
  refine wp_seq ?_
  rcases bt (decide ((i : Int) < (l.length : Int))) with b2 | b2
  ·skip
   have n2 := of_decide_eq_true b2
   refine wN hs hI [true] [0, 3, 4] [] ((tr 4 True) ∧ ((ty b2) ∧ True)) .norm [(0, .row .strs l), (3, vs (txF l i)), (4, vi (i : Int))] [] (by kernel_rfl) ⟨tr_mk tv 4, b2, tv⟩ (fun a w hs => ?_)
   refine then_norm ?_
   refine wp_seq ?_
   refine wp_block ?_
   refine wp_seq ?_
   refine wN hs hI [] [0, 3, 4, 5] [] (True ∧ True) .norm [(0, .row .strs l), (3, vs (txF l i)), (4, vi (i : Int)), (5, vi 0)] [] (by kernel_rfl) ⟨tv, tv⟩ (fun a w hs => ?_)
   refine then_norm ?_
   refine wp_block ?_
   have hpl := ((checkF_in hck).2 _ (getD_mem (l := l) (i := i) (by omega) (dflt .strs))).1
   refine loop_L (N := Tryz.f42.ntmps) (w0 := w0) (ow := noO fz) (α := Nat) (fun p => [(0, .row .strs l), (3, vs (inT l i p)), (4, vi (i : Int)), (5, vi (p : Int))]) (fun p => []) (fun p => p ≤ (l.getD i (dflt .strs)).length) (fun p => (l.getD i (dflt .strs)).length - p) 0 ?_ ?_ ?_
   ·exact Nat.zero_le _
   ·exact (hs.cst [(0, .row .strs l), (3, vs (inT l i 0)), (4, vi (i : Int)), (5, vi ((0 : Nat) : Int))] [] rfl).rm [] (by kernel_rfl)
   rintro k hJ a w hs
   have hro := in_room (k := k) hck (i := i) (by omega)
   rcases bt (decide ((k : Int) < ((l.getD i (dflt .strs)).length : Int))) with b3 | b3
   ·skip
    have n3 := of_decide_eq_true b3
    rcases bt (decide ((k : Int) > 0)) with b4 | b4
    ·skip
     have n4 := of_decide_eq_true b4
     refine wN hs hI [true, true] [0, 3, 4, 5] [] (((tr 3 ((0 ≤ (i : Int) ∧ (i : Int) < l.length) ∧ (tr 3 True))) ∧ (ty b3) ∧ True) ∧ ((((True ∧ True ∧ True) ∧ (ty b4) ∧ True ∧ ((((inT l i k).size + 1 : Nat) : Int) ≤ IntKind.i64.max) ∧ True ∧ True) ∧ (tr 3 ((0 ≤ (i : Int) ∧ (i : Int) < l.length) ∧ True ∧ True ∧ (0 ≤ (k : Int) ∧ (k : Int) < (l.getD i (dflt .strs)).length) ∧ True ∧ (((((inT l i k) ++ (ba [46])).size + ((l.getD i (dflt .strs)).getD k (dflt .str)).size : Nat) : Int) ≤ IntKind.i64.max) ∧ True ∧ True))) ∧ True ∧ (InR .i64 ((k : Int) + 1)) ∧ True ∧ True)) .norm [(0, .row .strs l), (3, vs (((inT l i k) ++ (ba [46])) ++ ((l.getD i (dflt .strs)).getD k (dflt .str)))), (4, vi (i : Int)), (5, vi ((k : Int) + 1))] [] (by kernel_rfl) ⟨⟨tr_mk (⟨(by omega), tr_mk tv 3⟩) 3, b3, tv⟩, ⟨⟨⟨tv, tv, tv⟩, b4, tv, (by have hnr := name_room hck (i := i) (k := k) (by omega) (by omega); (try simp only [size_cat, show (ba [46]).size = 1 from rfl, show (ba [44]).size = 1 from rfl]); have e1 : IntKind.max .i64 = 9223372036854775807 := rfl; omega), tv, tv⟩, tr_mk (⟨(by omega), tv, tv, (by omega), tv, (by have hnr := name_room hck (i := i) (k := k) (by omega) (by omega); (try simp only [size_cat, show (ba [46]).size = 1 from rfl, show (ba [44]).size = 1 from rfl]); have e1 : IntKind.max .i64 = 9223372036854775807 := rfl; omega), tv, tv⟩) 3⟩, tv, (inR64 (by omega) (by omega)), tv, tv⟩ (fun a w hs => ?_)
     refine then_norm ⟨k + 1, by omega, by omega, ?_⟩
     (have e0_ : (((inT l i k) ++ (ba [46])) ++ ((l.getD i (dflt .strs)).getD k (dflt .str))) = (inT l i (k + 1)) := (by first | rfl | (first | exact in_more (by omega) (by omega) | (obtain rfl : k = 0 := (by omega); exact in_next (by omega) (by omega)) | (obtain rfl : k = 0 := (by omega); exact in_first (by omega) (by omega)))); have e1_ : ((k : Int) + 1) = ((((k + 1) : Nat) : Int)) := (by first | rfl | (omega)); exact (hs.cst [(0, .row .strs l), (3, vs (inT l i (k + 1))), (4, vi (i : Int)), (5, vi (((k + 1) : Nat) : Int))] [] (by first | rfl | (rw [e0_, e1_]; done) | (simp only [e0_, e1_]; done) | (simp only [e0_, e1_]; rfl))).rm [] (by kernel_rfl))
    ·skip
     have n4 := of_decide_eq_false b4
     rcases bt (decide ((i : Int) > 0)) with b5 | b5
     ·skip
      have n5 := of_decide_eq_true b5
      refine wN hs hI [true, false, true] [0, 3, 4, 5] [] (((tr 3 ((0 ≤ (i : Int) ∧ (i : Int) < l.length) ∧ (tr 3 True))) ∧ (ty b3) ∧ True) ∧ ((((True ∧ True ∧ True) ∧ (ty b4) ∧ (True ∧ True ∧ True) ∧ (ty b5) ∧ True ∧ ((((inT l i k).size + 1 : Nat) : Int) ≤ IntKind.i64.max) ∧ True ∧ True) ∧ (tr 3 ((0 ≤ (i : Int) ∧ (i : Int) < l.length) ∧ True ∧ True ∧ (0 ≤ (k : Int) ∧ (k : Int) < (l.getD i (dflt .strs)).length) ∧ True ∧ (((((inT l i k) ++ (ba [44])).size + ((l.getD i (dflt .strs)).getD k (dflt .str)).size : Nat) : Int) ≤ IntKind.i64.max) ∧ True ∧ True))) ∧ True ∧ (InR .i64 ((k : Int) + 1)) ∧ True ∧ True)) .norm [(0, .row .strs l), (3, vs (((inT l i k) ++ (ba [44])) ++ ((l.getD i (dflt .strs)).getD k (dflt .str)))), (4, vi (i : Int)), (5, vi ((k : Int) + 1))] [] (by kernel_rfl) ⟨⟨tr_mk (⟨(by omega), tr_mk tv 3⟩) 3, b3, tv⟩, ⟨⟨⟨tv, tv, tv⟩, b4, ⟨tv, tv, tv⟩, b5, tv, (by have hnr := name_room hck (i := i) (k := k) (by omega) (by omega); (try simp only [size_cat, show (ba [46]).size = 1 from rfl, show (ba [44]).size = 1 from rfl]); have e1 : IntKind.max .i64 = 9223372036854775807 := rfl; omega), tv, tv⟩, tr_mk (⟨(by omega), tv, tv, (by omega), tv, (by have hnr := name_room hck (i := i) (k := k) (by omega) (by omega); (try simp only [size_cat, show (ba [46]).size = 1 from rfl, show (ba [44]).size = 1 from rfl]); have e1 : IntKind.max .i64 = 9223372036854775807 := rfl; omega), tv, tv⟩) 3⟩, tv, (inR64 (by omega) (by omega)), tv, tv⟩ (fun a w hs => ?_)
      refine then_norm ⟨k + 1, by omega, by omega, ?_⟩
      (have e0_ : (((inT l i k) ++ (ba [44])) ++ ((l.getD i (dflt .strs)).getD k (dflt .str))) = (inT l i (k + 1)) := (by first | rfl | (first | exact in_more (by omega) (by omega) | (obtain rfl : k = 0 := (by omega); exact in_next (by omega) (by omega)) | (obtain rfl : k = 0 := (by omega); exact in_first (by omega) (by omega)))); have e1_ : ((k : Int) + 1) = ((((k + 1) : Nat) : Int)) := (by first | rfl | (omega)); exact (hs.cst [(0, .row .strs l), (3, vs (inT l i (k + 1))), (4, vi (i : Int)), (5, vi (((k + 1) : Nat) : Int))] [] (by first | rfl | (rw [e0_, e1_]; done) | (simp only [e0_, e1_]; done) | (simp only [e0_, e1_]; rfl))).rm [] (by kernel_rfl))
     ·skip
      have n5 := of_decide_eq_false b5
      refine wN hs hI [true, false, false] [0, 3, 4, 5] [] (((tr 3 ((0 ≤ (i : Int) ∧ (i : Int) < l.length) ∧ (tr 3 True))) ∧ (ty b3) ∧ True) ∧ ((((True ∧ True ∧ True) ∧ (ty b4) ∧ (True ∧ True ∧ True) ∧ (ty b5) ∧ True) ∧ (tr 3 ((0 ≤ (i : Int) ∧ (i : Int) < l.length) ∧ True ∧ True ∧ (0 ≤ (k : Int) ∧ (k : Int) < (l.getD i (dflt .strs)).length) ∧ True ∧ ((((inT l i k).size + ((l.getD i (dflt .strs)).getD k (dflt .str)).size : Nat) : Int) ≤ IntKind.i64.max) ∧ True ∧ True))) ∧ True ∧ (InR .i64 ((k : Int) + 1)) ∧ True ∧ True)) .norm [(0, .row .strs l), (3, vs ((inT l i k) ++ ((l.getD i (dflt .strs)).getD k (dflt .str)))), (4, vi (i : Int)), (5, vi ((k : Int) + 1))] [] (by kernel_rfl) ⟨⟨tr_mk (⟨(by omega), tr_mk tv 3⟩) 3, b3, tv⟩, ⟨⟨⟨tv, tv, tv⟩, b4, ⟨tv, tv, tv⟩, b5, tv⟩, tr_mk (⟨(by omega), tv, tv, (by omega), tv, (by have hnr := name_room hck (i := i) (k := k) (by omega) (by omega); (try simp only [size_cat, show (ba [46]).size = 1 from rfl, show (ba [44]).size = 1 from rfl]); have e1 : IntKind.max .i64 = 9223372036854775807 := rfl; omega), tv, tv⟩) 3⟩, tv, (inR64 (by omega) (by omega)), tv, tv⟩ (fun a w hs => ?_)
      refine then_norm ⟨k + 1, by omega, by omega, ?_⟩
      (have e0_ : ((inT l i k) ++ ((l.getD i (dflt .strs)).getD k (dflt .str))) = (inT l i (k + 1)) := (by first | rfl | (first | exact in_more (by omega) (by omega) | (obtain rfl : k = 0 := (by omega); exact in_next (by omega) (by omega)) | (obtain rfl : k = 0 := (by omega); exact in_first (by omega) (by omega)))); have e1_ : ((k : Int) + 1) = ((((k + 1) : Nat) : Int)) := (by first | rfl | (omega)); exact (hs.cst [(0, .row .strs l), (3, vs (inT l i (k + 1))), (4, vi (i : Int)), (5, vi (((k + 1) : Nat) : Int))] [] (by first | rfl | (rw [e0_, e1_]; done) | (simp only [e0_, e1_]; done) | (simp only [e0_, e1_]; rfl))).rm [] (by kernel_rfl))
   ·skip
    have n3 := of_decide_eq_false b3
    refine wN hs hI [false] [0, 3, 4] [] ((tr 3 ((0 ≤ (i : Int) ∧ (i : Int) < l.length) ∧ (tr 3 True))) ∧ ((ty b3) ∧ True)) (.exit 2) [(0, .row .strs l), (3, vs (inT l i k)), (4, vi (i : Int))] [] (by kernel_rfl) ⟨tr_mk (⟨(by omega), tr_mk tv 3⟩) 3, b3, tv⟩ (fun a w hs => ?_)
    refine then_exit ?_
    refine inb_hit ?_
    refine inb_norm ?_
    refine then_norm ?_
    refine wN hs hI [] [0, 3, 4] [] (True ∧ ((InR .i64 ((i : Int) + 1)) ∧ True ∧ True)) .norm [(0, .row .strs l), (3, vs (inT l i k)), (4, vi ((i : Int) + 1))] [] (by kernel_rfl) ⟨tv, (inR64 (by omega) (by omega)), tv, tv⟩ (fun a w hs => ?_)
    refine then_norm ⟨i + 1, by omega, by omega, ?_⟩
    (have e0_ : (inT l i k) = (txF l (i + 1)) := (by first | rfl | (exact in_end (by omega) (path_pos hck (by omega)) (by omega))); have e1_ : ((i : Int) + 1) = ((((i + 1) : Nat) : Int)) := (by first | rfl | (omega)); exact (hs.cst [(0, .row .strs l), (3, vs (txF l (i + 1))), (4, vi (((i + 1) : Nat) : Int))] [] (by first | rfl | (rw [e0_, e1_]; done) | (simp only [e0_, e1_]; done) | (simp only [e0_, e1_]; rfl))).rm [] (by kernel_rfl))
  ·skip
   have n2 := of_decide_eq_false b2
   refine wN hs hI [false] [3] [] ((tr 4 True) ∧ ((ty b2) ∧ True)) (.exit 0) [(3, vs (txF l i))] [] (by kernel_rfl) ⟨tr_mk tv 4, b2, tv⟩ (fun a w hs => ?_)
   refine then_exit ?_
   refine then_exit ?_
   refine inb_hit ?_
   refine then_norm ?_
   refine wN hs hI [] [2] [] ((True ∧ True ∧ True) ∧ True) .ret [(2, vs (txF l i))] [] (by kernel_rfl) ⟨⟨tv, tv, tv⟩, tv⟩ (fun a w hs => ?_)
   exact FnQ_cast (out := .val (vs (txF l i))) (by obtain rfl : i = l.length := (by omega); simp only [textF, txF]; rw [if_pos hck, List.take_length]) (ret_ok [] hs ⟨by kernel_rfl, rfl⟩)
 ·skip
  refine wL hs hI [(1, ⟨[(1, ciA 40 [.row .strs l] [] [] (.val (vb (checkF l))))], [], []⟩)] [true] [2] [] ((True ∧ (okArgs [.row .strs l]) ∧ True ∧ True) ∧ ((ty (ng0 b1)) ∧ (True ∧ True) ∧ True)) .ret [(2, vs (ba []))] [] ⟨⟨⟨ent40, con40 _ hsm hll hlp⟩, tv⟩, tv⟩ (by kernel_rfl) ⟨⟨tv, rfl, tv, tv⟩, (ng0 b1), ⟨tv, tv⟩, tv⟩ (fun a w hs => ?_)
  refine then_ret ?_
  exact FnQ_cast (out := .val (vs (ba []))) (by simp only [textF]; rw [if_neg (by simp_all)]) (ret_ok [] hs ⟨by kernel_rfl, rfl⟩)
mutual
theorem light_fineS : ∀ (t : Tree) (m : Int), 0 ≤ lightF t m → fineS t
 | .mk k b n s ks v, m, h => by
  rw [lightF_eq] at h
  split at h
  ·omega
  ·rename_i h1
   split at h
   ·omega
   ·rename_i h2
    simp only [Tree.n, Tree.k, Tree.v, Tree.s] at h1
    refine (fineS_eq _).2 ⟨⟨?_, fun x hx => ?_⟩, lightL_fineS v (m - 1) h⟩
    ·show s.size < _; omega
    ·have h4 : ¬ ((x.size : Int) > 2100) := fun hb => h2 (List.any_eq_true.2 ⟨x, hx, decide_eq_true hb⟩)
     omega
theorem lightL_fineS : ∀ (l : List Tree) (m : Int), 0 ≤ lightL l m → fineSL l
 | [], m, _ => trivial
 | t :: l, m, h => by
  simp only [lightL] at h
  split at h
  ·have hp : 0 ≤ lightF t m := by
    by_cases hq : 0 ≤ lightF t m
    ·exact hq
    ·rw [lightL_end (.inr (by omega))] at h; omega
   exact ⟨light_fineS t m hp, lightL_fineS l (lightF t m) h⟩
  ·omega
end
theorem parse_in (s : ByteArray) : (parseF s).1.length ≤ s.size + 1 ∧ ∀ p ∈ (parseF s).1, p.length ≤ s.size + 1 := by
 have h0 : ∀ x : Int, (([] : List (List ByteArray)), x).1.length ≤ s.size + 1 ∧ ∀ p ∈ (([] : List (List ByteArray)), x).1, p.length ≤ s.size + 1 := fun x => ⟨Nat.zero_le _, fun p hp => by simp at hp⟩
 unfold parseF
 split
 ·exact h0 0
 ·split
  ·exact h0 2
  ·split
   ·refine ⟨?_, fun p hp => ?_⟩
    ·show (cutsF s).length ≤ _
     unfold cutsF
     rw [List.length_map]
     exact split_len s 44
    ·obtain ⟨q, hq, rfl⟩ := List.mem_map.1 (show p ∈ cutsF s from hp)
     have h1 := split_len q 46
     have h2 := split_size (s := s) (c := 44) q hq
     omega
   ·exact h0 4
theorem con35S (p : List (List ByteArray)) (hl : p.length < 4294967296) (hp : ∀ x ∈ p, x.length < 4294967296) : Con Tryz.prog I0 35 [.row .strs p, .row .strs p] (.val (vb true)) := by
 have h := con35 p p hl hp
 rw [sameP_self] at h
 exact h
theorem con36S (t : Tree) (h : fineT t) : Con Tryz.prog I0 36 [.agg (encTree t), .agg (encTree t)] (.val (vb true)) := by
 have h := con36 t t h
 rw [eqR_self] at h
 exact h
theorem con6 (s : ByteArray) (l : List (List ByteArray)) (t v : Tree) (wt : Int) (hot : okT t) (hov : okT v) : Con Tryz.prog I0 6 [vs s, .row .strs l, .agg (encTree t), .agg (encTree v), vi wt] (.val (vb true)) := by
 refine con_of Tryz.func6 rfl (Nat.le_of_ble_eq_true rfl) stab (fun w0 fz a hI hs => ?_)
 rcases bt (decide ((s.size : Int) > 3000)) with b1 | b1
 ·skip
  have n1 := of_decide_eq_true b1
  refine wL hs hI [(1, ⟨[], gg [1007, 1012, 1017] [4, 5, 6, 9, 10, 11, 14, 15, 16], []⟩), (2, ⟨[(0, ciA 23 [] [] [] (.val (vb true)))], [], []⟩)] [true] [10] [] ((tr 3 True) ∧ ((tr 4 ((ty b1) ∧ (ty b1) ∧ (ty b1) ∧ (ty b1) ∧ True ∧ (true = true) ∧ (true = true) ∧ (true = true) ∧ (true = true) ∧ True ∧ (true = true) ∧ (true = true) ∧ (true = true) ∧ (true = true) ∧ True)) ∧ (true = true) ∧ ((okArgs []) ∧ True ∧ True) ∧ True)) .ret [(10, vb true)] [] ⟨tv, ⟨⟨⟨ent23, con23⟩, tv⟩, tv⟩⟩ (by kernel_rfl) ⟨tr_mk tv 3, tr_mk (⟨b1, b1, b1, b1, tv, rfl, rfl, rfl, rfl, tv, rfl, rfl, rfl, rfl, tv⟩) 4, rfl, ⟨rfl, tv, tv⟩, tv⟩ (fun a w hs => ?_)
  exact FnQ_cast (out := .val (vb true)) (rfl) (ret_ok [] hs ⟨by kernel_rfl, rfl⟩)
 ·skip
  have n1 := of_decide_eq_false b1
  rcases bt (shortF l) with b2 | b2
  ·skip
   have hsh := short_in (by assumption : shortF l = true)
   have hl70 := hsh.1
   have hsm : ∀ x ∈ l, smalls x := fun x hx => ⟨fun y hy => by have := (hsh.2 x hx).2 y hy; unfold small; omega, by have := (hsh.2 x hx).1; omega⟩
   have hsx : ∀ p ∈ l, ∀ x ∈ p, x.size < 4294967281 := fun p hp x hx => by have := (hsh.2 p hp).2 x hx; omega
   rcases bt (decide (lightF t 80 ≥ 0)) with b3 | b3
   ·skip
    have n3 := of_decide_eq_true b3
    have hlt : 0 ≤ lightF t 80 := of_decide_eq_true (by assumption)
    have hft := (light_fine t 80 hot hlt).1
    have hst := light_fineS t 80 hlt
    rcases bt (decide (lightF v 80 ≥ 0)) with b4 | b4
    ·skip
     have n4 := of_decide_eq_true b4
     have hlv : 0 ≤ lightF v 80 := of_decide_eq_true (by assumption)
     have hfv := (light_fine v 80 hov hlv).1
     have hsv := light_fineS v 80 hlv
     have b5 : (((parseF s).2) == ((parseF s).2)) = true := by simp
     have b6 : (((applyF t l (normF l) v wt).2) == ((applyF t l (normF l) v wt).2)) = true := by simp
     have b7 : ((nameF s) == (nameF s)) = true := by simp
     have b8 : ((checkF l) == (checkF l)) = true := by simp
     have b9 : ((textF l).toList == (textF l).toList) = true := by simp
     refine wL hs hI [(1, ⟨[(5, ciA 30 [.row .strs l] [] [] (.val (vb (shortF l)))), (10, ciA 10 [.agg (encTree t), vi 80] [] [] (.val (vb (decide (lightF t 80 ≥ 0))))), (15, ciA 10 [.agg (encTree v), vi 80] [] [] (.val (vb (decide (lightF v 80 ≥ 0)))))], gg [4, 5, 6, 9, 10, 11, 14, 15, 16] [1007, 1012, 1017], []⟩), (3, ⟨[(1, ciA 31 [vs s] [] [] (.val (.tup [.row .strs ((parseF s).1), vi ((parseF s).2)])))], [], []⟩), (4, ⟨[(1, ciA 32 [vs s] [] [] (.val (.tup [.row .strs ((parseF s).1), vi ((parseF s).2)])))], [], []⟩), (5, ⟨[(1, ciA 20 [.agg (encTree t)] [] [] (.val (.agg (encTree t)))), (3, ciA 33 [.row .strs l] [] [] (.val (.row .strs l))), (5, ciA 20 [.agg (encTree v)] [] [] (.val (.agg (encTree v)))), (7, ciA 26 [.agg (encTree t), .row .strs l, .agg (encTree v), vi wt] [] [] (.val (.tup [.agg (encTree ((applyF t l (normF l) v wt).1)), vi ((applyF t l (normF l) v wt).2)])))], [], []⟩), (6, ⟨[(4, ciA 34 [.agg (encTree t), .row .strs l, .agg (encTree v), vi wt] [] [] (.val (.tup [.agg (encTree ((applyF t l (normF l) v wt).1)), vi ((applyF t l (normF l) v wt).2)])))], [], []⟩), (7, ⟨[(2, ciA 35 [.row .strs ((parseF s).1), .row .strs ((parseF s).1)] [] [] (.val (vb true))), (11, ciA 36 [.agg (encTree ((applyF t l (normF l) v wt).1)), .agg (encTree ((applyF t l (normF l) v wt).1))] [] [] (.val (vb true))), (20, ciA 37 [vs s] [] [] (.val (vb (nameF s)))), (22, ciA 38 [vs s] [] [] (.val (vb (nameF s)))), (27, ciA 33 [.row .strs l] [] [] (.val (.row .strs l))), (28, ciA 39 [.row .strs l] [] [] (.val (vb (checkF l)))), (30, ciA 40 [.row .strs l] [] [] (.val (vb (checkF l)))), (35, ciA 33 [.row .strs l] [] [] (.val (.row .strs l))), (36, ciA 41 [.row .strs l] [] [] (.val (vs (textF l)))), (38, ciA 42 [.row .strs l] [] [] (.val (vs (textF l)))), (43, ciA 33 [.row .strs l] [] [] (.val (.row .strs l))), (44, ciA 24 [.row .strs l] [] [] (.val (.row .strs (normF l)))), (46, ciA 43 [.row .strs l] [] [] (.val (.row .strs (normF l)))), (47, ciA 35 [.row .strs (normF l), .row .strs (normF l)] [] [] (.val (vb true))), (50, ciA 23 [] [] [] (.val (vb true)))], gg [4, 5, 6, 1007, 9, 10, 11, 1012, 14, 15, 16, 1017, 19, 20, 21, 22, 23, 1024, 26, 27, 28, 29, 30, 31, 1032, 34, 35, 36, 37, 38, 39, 1040, 42, 43, 44, 45, 46, 47, 1048, 50, 1051] [], []⟩)] [false] [10] [] ((tr 3 True) ∧ (((tr 4 ((ty b1) ∧ True ∧ (ty b1) ∧ (okArgs [.row .strs l]) ∧ (rp 2 b1 ((ty (ng1 b2)) ∧ True ∧ (ty (ng1 b2)) ∧ (okArgs [.agg (encTree t), vi 80]) ∧ (rp 2 (ng1 b2) ((ty (ng1 b3)) ∧ True ∧ (ty (ng1 b3)) ∧ (okArgs [.agg (encTree v), vi 80]) ∧ (ty (ng1 b3)) ∧ True ∧ (ty (ng1 b3)) ∧ True)))))) ∧ (ty (ng1 b4)) ∧ True) ∧ (True ∧ (okArgs [vs s]) ∧ (tr 5 True)) ∧ (True ∧ (okArgs [vs s]) ∧ (tr 5 True)) ∧ (True ∧ (okArgs [.agg (encTree t)]) ∧ True ∧ (okArgs [.row .strs l]) ∧ True ∧ (okArgs [.agg (encTree v)]) ∧ True ∧ (okArgs [.agg (encTree t), .row .strs l, .agg (encTree v), vi wt]) ∧ (tr 6 True)) ∧ (tr 4 ((okArgs [.agg (encTree t), .row .strs l, .agg (encTree v), vi wt]) ∧ (tr 6 True))) ∧ (True ∧ True ∧ (okArgs [.row .strs ((parseF s).1), .row .strs ((parseF s).1)]) ∧ True ∧ (true = true) ∧ True ∧ (true = true) ∧ True ∧ (true = true) ∧ True ∧ (true = true) ∧ True ∧ (rp 2 b5 ((ty b5) ∧ (okArgs [.agg (encTree ((applyF t l (normF l) v wt).1)), .agg (encTree ((applyF t l (normF l) v wt).1))]) ∧ (ty b5) ∧ True ∧ (true = true) ∧ True ∧ (true = true) ∧ True ∧ (true = true) ∧ True ∧ (true = true) ∧ True ∧ (ty b6) ∧ True ∧ (ty b6) ∧ (okArgs [vs s]) ∧ (ty b6) ∧ True ∧ (ty b6) ∧ (okArgs [vs s]) ∧ (rp 2 b6 ((ty b7) ∧ True ∧ (ty b7) ∧ (okArgs [.row .strs l]) ∧ (ty b7) ∧ (okArgs [.row .strs l]) ∧ (ty b7) ∧ True ∧ (ty b7) ∧ (okArgs [.row .strs l]) ∧ (rp 2 b7 ((ty b8) ∧ True ∧ (ty b8) ∧ (okArgs [.row .strs l]) ∧ (ty b8) ∧ (okArgs [.row .strs l]) ∧ (ty b8) ∧ True ∧ (ty b8) ∧ (okArgs [.row .strs l]) ∧ (rp 2 b8 ((ty b9) ∧ True ∧ (ty b9) ∧ (okArgs [.row .strs l]) ∧ (ty b9) ∧ (okArgs [.row .strs l]) ∧ (ty b9) ∧ True ∧ (ty b9) ∧ (okArgs [.row .strs l]) ∧ (ty b9) ∧ (okArgs [.row .strs (normF l), .row .strs (normF l)]) ∧ (ty b9) ∧ True ∧ (true = true) ∧ (okArgs []) ∧ (true = true) ∧ True ∧ True))))))))) ∧ True)) .ret [(10, vb true)] [] ⟨⟨⟨ent30, con30 l⟩, ⟨⟨ent10, con10 _ 80 (by decide) (by decide)⟩, ⟨⟨ent10, con10 _ 80 (by decide) (by decide)⟩, tv⟩⟩⟩, ⟨⟨⟨ent31, con31 s (by omega)⟩, tv⟩, ⟨⟨⟨ent32, con32 s (by omega)⟩, tv⟩, ⟨⟨⟨ent20, con20 _ (by assumption)⟩, ⟨⟨ent33, (con33 l (by omega) (fun p hp => by have := (hsh.2 p hp).1; omega)).frz⟩, ⟨⟨ent20, con20 _ (by assumption)⟩, ⟨⟨ent26, con26 t v l wt hft hfv hsm (by omega)⟩, tv⟩⟩⟩⟩, ⟨⟨⟨ent34, con34 t v l wt hft hfv hst hsv hsx (by omega) (fun p hp => by have := (hsh.2 p hp).1; omega)⟩, tv⟩, ⟨⟨⟨ent35, con35S _ (by have := (parse_in s).1; omega) (fun p hp => by have := (parse_in s).2 p hp; omega)⟩, ⟨⟨ent36, con36S _ (fine_apply hft hfv l wt)⟩, ⟨⟨ent37, con37 s (by omega)⟩, ⟨⟨ent38, con38 s (by omega)⟩, ⟨⟨ent33, (con33 l (by omega) (fun p hp => by have := (hsh.2 p hp).1; omega)).frz⟩, ⟨⟨ent39, con39 l hsm (by omega)⟩, ⟨⟨ent40, con40 l hsx (by omega) (fun p hp => by have := (hsh.2 p hp).1; omega)⟩, ⟨⟨ent33, (con33 l (by omega) (fun p hp => by have := (hsh.2 p hp).1; omega)).frz⟩, ⟨⟨ent41, con41 l hsm (by omega)⟩, ⟨⟨ent42, con42 l hsx (by omega) (fun p hp => by have := (hsh.2 p hp).1; omega)⟩, ⟨⟨ent33, (con33 l (by omega) (fun p hp => by have := (hsh.2 p hp).1; omega)).frz⟩, ⟨⟨ent24, (con24 l (by omega) (fun p hp => by have := (hsh.2 p hp).1; omega)).frz⟩, ⟨⟨ent43, con43 l (by omega) (fun p hp => by have := (hsh.2 p hp).1; omega)⟩, ⟨⟨ent35, con35S _ (by have := normF_len l; omega) (fun p hp => by have := (hsh.2 p (normF_mem hp)).1; omega)⟩, ⟨⟨ent23, con23⟩, tv⟩⟩⟩⟩⟩⟩⟩⟩⟩⟩⟩⟩⟩⟩⟩, tv⟩⟩⟩⟩⟩⟩ (by kernel_rfl) ⟨tr_mk tv 3, ⟨tr_mk (⟨b1, tv, b1, rfl, rp_mk (⟨(ng1 b2), tv, (ng1 b2), rfl, rp_mk (⟨(ng1 b3), tv, (ng1 b3), rfl, (ng1 b3), tv, (ng1 b3), tv⟩) 2⟩) 2⟩) 4, (ng1 b4), tv⟩, ⟨tv, rfl, tr_mk tv 5⟩, ⟨tv, rfl, tr_mk tv 5⟩, ⟨tv, rfl, tv, rfl, tv, rfl, tv, rfl, tr_mk tv 6⟩, tr_mk (⟨rfl, tr_mk tv 6⟩) 4, ⟨tv, tv, rfl, tv, rfl, tv, rfl, tv, rfl, tv, rfl, tv, rp_mk (⟨b5, rfl, b5, tv, rfl, tv, rfl, tv, rfl, tv, rfl, tv, b6, tv, b6, rfl, b6, tv, b6, rfl, rp_mk (⟨b7, tv, b7, rfl, b7, rfl, b7, tv, b7, rfl, rp_mk (⟨b8, tv, b8, rfl, b8, rfl, b8, tv, b8, rfl, rp_mk (⟨b9, tv, b9, rfl, b9, rfl, b9, tv, b9, rfl, b9, rfl, b9, tv, rfl, rfl, rfl, tv, tv⟩) 2⟩) 2⟩) 2⟩) 2⟩, tv⟩ (fun a w hs => ?_)
     exact FnQ_cast (out := .val (vb true)) (rfl) (ret_ok [] hs ⟨by kernel_rfl, rfl⟩)
    ·skip
     have n4 := of_decide_eq_false b4
     refine wL hs hI [(1, ⟨[(5, ciA 30 [.row .strs l] [] [] (.val (vb (shortF l)))), (10, ciA 10 [.agg (encTree t), vi 80] [] [] (.val (vb (decide (lightF t 80 ≥ 0))))), (15, ciA 10 [.agg (encTree v), vi 80] [] [] (.val (vb (decide (lightF v 80 ≥ 0)))))], gg [4, 5, 6, 9, 10, 11, 14, 15, 16] [1007, 1012, 1017], []⟩), (2, ⟨[(0, ciA 23 [] [] [] (.val (vb true)))], [], []⟩)] [true] [10] [] ((tr 3 True) ∧ ((tr 4 ((ty b1) ∧ True ∧ (ty b1) ∧ (okArgs [.row .strs l]) ∧ (rp 2 b1 ((ty (ng1 b2)) ∧ True ∧ (ty (ng1 b2)) ∧ (okArgs [.agg (encTree t), vi 80]) ∧ (rp 2 (ng1 b2) ((ty (ng1 b3)) ∧ True ∧ (ty (ng1 b3)) ∧ (okArgs [.agg (encTree v), vi 80]) ∧ (ty (ng1 b3)) ∧ True ∧ (ty (ng1 b3)) ∧ True)))))) ∧ (ty (ng0 b4)) ∧ ((okArgs []) ∧ True ∧ True) ∧ True)) .ret [(10, vb true)] [] ⟨⟨⟨ent30, con30 l⟩, ⟨⟨ent10, con10 _ 80 (by decide) (by decide)⟩, ⟨⟨ent10, con10 _ 80 (by decide) (by decide)⟩, tv⟩⟩⟩, ⟨⟨⟨ent23, con23⟩, tv⟩, tv⟩⟩ (by kernel_rfl) ⟨tr_mk tv 3, tr_mk (⟨b1, tv, b1, rfl, rp_mk (⟨(ng1 b2), tv, (ng1 b2), rfl, rp_mk (⟨(ng1 b3), tv, (ng1 b3), rfl, (ng1 b3), tv, (ng1 b3), tv⟩) 2⟩) 2⟩) 4, (ng0 b4), ⟨rfl, tv, tv⟩, tv⟩ (fun a w hs => ?_)
     exact FnQ_cast (out := .val (vb true)) (rfl) (ret_ok [] hs ⟨by kernel_rfl, rfl⟩)
   ·skip
    have n3 := of_decide_eq_false b3
    refine wL hs hI [(1, ⟨[(5, ciA 30 [.row .strs l] [] [] (.val (vb (shortF l)))), (10, ciA 10 [.agg (encTree t), vi 80] [] [] (.val (vb (decide (lightF t 80 ≥ 0)))))], gg [4, 5, 6, 9, 10, 11, 1017] [1007, 1012, 14, 15, 16], []⟩), (2, ⟨[(0, ciA 23 [] [] [] (.val (vb true)))], [], []⟩)] [true] [10] [] ((tr 3 True) ∧ ((tr 4 ((ty b1) ∧ True ∧ (ty b1) ∧ (okArgs [.row .strs l]) ∧ (rp 2 b1 ((ty (ng1 b2)) ∧ True ∧ (ty (ng1 b2)) ∧ (okArgs [.agg (encTree t), vi 80]) ∧ (rp 2 (ng1 b2) ((ty (ng0 b3)) ∧ (ty (ng0 b3)) ∧ (ty (ng0 b3)) ∧ (ty (ng0 b3)) ∧ True)))))) ∧ (true = true) ∧ ((okArgs []) ∧ True ∧ True) ∧ True)) .ret [(10, vb true)] [] ⟨⟨⟨ent30, con30 l⟩, ⟨⟨ent10, con10 _ 80 (by decide) (by decide)⟩, tv⟩⟩, ⟨⟨⟨ent23, con23⟩, tv⟩, tv⟩⟩ (by kernel_rfl) ⟨tr_mk tv 3, tr_mk (⟨b1, tv, b1, rfl, rp_mk (⟨(ng1 b2), tv, (ng1 b2), rfl, rp_mk (⟨(ng0 b3), (ng0 b3), (ng0 b3), (ng0 b3), tv⟩) 2⟩) 2⟩) 4, rfl, ⟨rfl, tv, tv⟩, tv⟩ (fun a w hs => ?_)
    exact FnQ_cast (out := .val (vb true)) (rfl) (ret_ok [] hs ⟨by kernel_rfl, rfl⟩)
  ·skip
   refine wL hs hI [(1, ⟨[(5, ciA 30 [.row .strs l] [] [] (.val (vb (shortF l))))], gg [4, 5, 6, 1012, 1017] [1007, 9, 10, 11, 14, 15, 16], []⟩), (2, ⟨[(0, ciA 23 [] [] [] (.val (vb true)))], [], []⟩)] [true] [10] [] ((tr 3 True) ∧ ((tr 4 ((ty b1) ∧ True ∧ (ty b1) ∧ (okArgs [.row .strs l]) ∧ (rp 2 b1 ((ty (ng0 b2)) ∧ (ty (ng0 b2)) ∧ (ty (ng0 b2)) ∧ (ty (ng0 b2)) ∧ True ∧ (true = true) ∧ (true = true) ∧ (true = true) ∧ (true = true) ∧ True)))) ∧ (true = true) ∧ ((okArgs []) ∧ True ∧ True) ∧ True)) .ret [(10, vb true)] [] ⟨⟨⟨ent30, con30 l⟩, tv⟩, ⟨⟨⟨ent23, con23⟩, tv⟩, tv⟩⟩ (by kernel_rfl) ⟨tr_mk tv 3, tr_mk (⟨b1, tv, b1, rfl, rp_mk (⟨(ng0 b2), (ng0 b2), (ng0 b2), (ng0 b2), tv, rfl, rfl, rfl, rfl, tv⟩) 2⟩) 4, rfl, ⟨rfl, tv, tv⟩, tv⟩ (fun a w hs => ?_)
   exact FnQ_cast (out := .val (vb true)) (rfl) (ret_ok [] hs ⟨by kernel_rfl, rfl⟩)
theorem law_MaskAll (s : ByteArray) (l : List (List ByteArray)) (t v : Tree) (wt : Int) (hot : okT t) (hov : okT v) : Con Tryz.prog I0 6 [vs s, .row .strs l, .agg (encTree t), .agg (encTree v), vi wt] (.val (vb true)) := con6 s l t v wt hot hov
end Go.Proofs.YtondpnipoogoiaaGreatDoor.F
namespace Go.Proofs.YtondpnipoogoiaaGreatDoor.X
open Go.ChangeShapes Go.WideShapes Go.ChangeAt Go.RowKit
mutual
theorem okT_of : ∀ {t : Go.Proofs.YtondpnipoogoiaaGreatDoor.F.Tree}, WfT t → Go.Proofs.YtondpnipoogoiaaGreatDoor.F.okT t
 | .mk k b n s ks v, h => ⟨h.1.2.1.1, okL_of h.2⟩
theorem okL_of : ∀ {l : List Go.Proofs.YtondpnipoogoiaaGreatDoor.F.Tree}, WfL l → Go.Proofs.YtondpnipoogoiaaGreatDoor.F.okL l
 | [], _ => trivial
 | t :: l, h => ⟨okT_of h.1, okL_of h.2⟩
end
theorem rl_maskAll {W : World} {fz : Nat → Prop} {η : Nat → Option Value} {a0 : ByteArray} {v1 : Value} {l1 : List (List ByteArray)} (y1 : Go.Proofs.YtondpnipoogoiaaGreatDoor.F.R W fz η v1 (.row .strs l1)) {v2 : Value} {l2 : Go.Proofs.YtondpnipoogoiaaGreatDoor.F.Tree} (y2 : Go.Proofs.YtondpnipoogoiaaGreatDoor.F.R W fz η v2 (.agg (Go.Proofs.YtondpnipoogoiaaGreatDoor.F.encTree l2))) {v3 : Value} {l3 : Go.Proofs.YtondpnipoogoiaaGreatDoor.F.Tree} (y3 : Go.Proofs.YtondpnipoogoiaaGreatDoor.F.R W fz η v3 (.agg (Go.Proofs.YtondpnipoogoiaaGreatDoor.F.encTree l3))) {a4 : Int} : Go.Proofs.YtondpnipoogoiaaGreatDoor.F.RL W fz η #[.string a0, v1, v2, v3, .int .i64 a4] [.lit (.string a0), .row .strs l1, .agg (Go.Proofs.YtondpnipoogoiaaGreatDoor.F.encTree l2), .agg (Go.Proofs.YtondpnipoogoiaaGreatDoor.F.encTree l3), .lit (.int .i64 a4)] := by
 refine ⟨rfl, fun j v a hv ha => ?_⟩
 rcases j with _ | j
 ·simp only [List.getElem?_toArray, List.getElem?_cons_zero, List.getElem?_cons_succ, Option.some.injEq] at hv ha
  subst hv ha
  exact .lit _
 rcases j with _ | j
 ·simp only [List.getElem?_toArray, List.getElem?_cons_zero, List.getElem?_cons_succ, Option.some.injEq] at hv ha
  subst hv ha
  exact y1
 rcases j with _ | j
 ·simp only [List.getElem?_toArray, List.getElem?_cons_zero, List.getElem?_cons_succ, Option.some.injEq] at hv ha
  subst hv ha
  exact y2
 rcases j with _ | j
 ·simp only [List.getElem?_toArray, List.getElem?_cons_zero, List.getElem?_cons_succ, Option.some.injEq] at hv ha
  subst hv ha
  exact y3
 rcases j with _ | j
 ·simp only [List.getElem?_toArray, List.getElem?_cons_zero, List.getElem?_cons_succ, Option.some.injEq] at hv ha
  subst hv ha
  exact .lit _
 ·simp at ha
theorem contractMaskAll (H : Type) (enc : TypeId × Value → H) (W : World) (base : Nat) (args : Array Value) (ds gs : List (DataW H)) (before : List MemPlace)
  (hval : ∀ (j : Nat) t v, Tryz.f6.params[j]? = some t → args[j]? = some v → Value.okWide Tryz.prog W .any base t v)
  (hW : DataW.Whole enc Tryz.prog Tryz.f6.params.toList Rows.maskAllSpec.vars false W args.toList ds gs before) (hL : laidMetH Tryz.prog Rows.maskAllRow.laid W) (hS : W.ShapedOpen Tryz.prog) :
  Calls Tryz.prog 6 args W fun e W' => ∃ v, e = .returned v ∧ Rows.maskAllSpec.post enc Tryz.prog Tryz.f6 false true false false W args v W' := by
 have hW' := hW
 obtain ⟨p, q, hA0, hV, rfl, hfz, hnd⟩ := hW
 have hA : DataW.TrodAll enc Tryz.prog W 0 (fun _ => true) true Tryz.f6.params.toList args.toList ds p := hA0
 rw [Tryz.params6] at hA hval
 obtain ⟨v0, vs0, d0, ds0, p0, q0, hargs, rfl, rfl, h0, r0⟩ := trodAll_cons hA
 obtain ⟨v1, vs1, d1, ds1, p1, q1, rfl, rfl, rfl, h1, r1⟩ := trodAll_cons r0
 obtain ⟨v2, vs2, d2, ds2, p2, q2, rfl, rfl, rfl, h2, r2⟩ := trodAll_cons r1
 obtain ⟨v3, vs3, d3, ds3, p3, q3, rfl, rfl, rfl, h3, r3⟩ := trodAll_cons r2
 obtain ⟨v4, vs4, d4, ds4, p4, q4, rfl, rfl, rfl, h4, r4⟩ := trodAll_cons r3
 obtain ⟨rfl, rfl, rfl⟩ := trodAll_nil r4
 obtain rfl : args = #[v0, v1, v2, v3, v4] := by cases args; simp_all
 obtain ⟨rfl, rfl⟩ := trodVars_none hV
 obtain ⟨a0, rfl, rfl, rfl, y0⟩ := Go.ChangeMaps.open_string Tryz.underlying9 (hval 0 9 v0 rfl rfl) h0
 have k1 := h1
 have lt1 : ∀ x ∈ p1, x.block < W.heap.size := by obtain ⟨m, hm⟩ := k1; exact DataW.trod_lt m _ _ _ hm
 obtain ⟨a1, y1, w1⟩ := open_paths (hval 1 33 v1 rfl rfl) h1
 have k2 := h2
 have lt2 : ∀ x ∈ p2, x.block < W.heap.size := by obtain ⟨m, hm⟩ := k2; exact DataW.trod_lt m _ _ _ hm
 obtain ⟨a2, y2, w2⟩ := open_tree (hval 2 29 v2 rfl rfl) h2
 have k3 := h3
 have lt3 : ∀ x ∈ p3, x.block < W.heap.size := by obtain ⟨m, hm⟩ := k3; exact DataW.trod_lt m _ _ _ hm
 obtain ⟨a3, y3, w3⟩ := open_tree (hval 3 29 v3 rfl rfl) h3
 obtain ⟨a4, rfl, rfl, rfl, w4⟩ := open_int Tryz.underlying3 (hval 4 3 v4 rfl rfl) h4
 clear hA0
 have hv1 : Go.Proofs.YtondpnipoogoiaaGreatDoor.F.RL W (fun k => k < W.heap.size) Go.Proofs.YtondpnipoogoiaaGreatDoor.F.noη #[.string a0, v1, v2, v3, .int .i64 a4] [.lit (.string a0), .row .strs a1, .agg (Go.Proofs.YtondpnipoogoiaaGreatDoor.F.encTree a2), .agg (Go.Proofs.YtondpnipoogoiaaGreatDoor.F.encTree a3), .lit (.int .i64 a4)] := rl_maskAll y1 y2 y3
 refine (Go.Proofs.YtondpnipoogoiaaGreatDoor.F.law_MaskAll a0 a1 a2 a3 a4 (okT_of w2) (okT_of w3) W _ _ (laid_of hL hS) (fun k h => h) hv1).mono fun e W' hp => ?_
 obtain ⟨⟨v, rfl, hR⟩, bel⟩ := hp
 obtain rfl := hR.lit_inv
 exact ⟨_, rfl, _, _, _, [], _, [], hW', trodAll_mk1 (shut_bool Tryz.underlying4 _), (trodAll_cons_mk (Go.ChangeMaps.shut_string Tryz.underlying9 y0) (trodAll_cons_mk (Below.trod laidOut (by kernel_rfl) (of_decide_eq_true (by kernel_rfl)) k1 bel lt1) (trodAll_cons_mk (Below.trod laidOut (by kernel_rfl) (of_decide_eq_true (by kernel_rfl)) k2 bel lt2) (trodAll_cons_mk (Below.trod laidOut (by kernel_rfl) (of_decide_eq_true (by kernel_rfl)) k3 bel lt3) (trodAll_cons_mk (shut_int Tryz.underlying3 w4) trodAll_mk0))))), rfl, bel.frame _, fun h => by cases h⟩
theorem readsMaskAll (os : Os) {H : Type} (enc : TypeId × Value → H) : ∃ places, DataW.whole enc Tryz.prog ((laidWorld os).forCall (fun _ _ => 0) ⟨#[], #[.string ⟨#[]⟩, .slice none 0 0, .agg #[.int .i64 0, .bool false, .bool false, .slice none 0 0, .int .i64 0, .string ⟨#[]⟩, .slice none 0 0, .slice none 0 0], .agg #[.int .i64 0, .bool false, .bool false, .slice none 0 0, .int .i64 0, .string ⟨#[]⟩, .slice none 0 0, .slice none 0 0], .int .i64 0], []⟩).memory Tryz.f6.params.toList Rows.maskAllSpec.vars false #[Value.string ⟨#[]⟩, Value.slice none 0 0, Value.agg #[.int .i64 0, .bool false, .bool false, .slice none 0 0, .int .i64 0, .string ⟨#[]⟩, .slice none 0 0, .slice none 0 0], Value.agg #[.int .i64 0, .bool false, .bool false, .slice none 0 0, .int .i64 0, .string ⟨#[]⟩, .slice none 0 0, .slice none 0 0], Value.int .i64 0].toList 8 = some ([.lit (.string []), .nil, .agg [.lit (.int .i64 0), .lit (.bool false), .agg [.lit (.bool false), .nil, .lit (.int .i64 0)], .lit (.string []), .nil, .nil], .agg [.lit (.int .i64 0), .lit (.bool false), .agg [.lit (.bool false), .nil, .lit (.int .i64 0)], .lit (.string []), .nil, .nil], .lit (.int .i64 0)], [], places) :=
 ⟨[], by kernel_rfl⟩
theorem metMaskAll (os : Os) : laidMet Tryz.prog Rows.maskAllRow.laid ((laidWorld os).forCall (fun _ _ => 0) ⟨#[], #[.string ⟨#[]⟩, .slice none 0 0, .agg #[.int .i64 0, .bool false, .bool false, .slice none 0 0, .int .i64 0, .string ⟨#[]⟩, .slice none 0 0, .slice none 0 0], .agg #[.int .i64 0, .bool false, .bool false, .slice none 0 0, .int .i64 0, .string ⟨#[]⟩, .slice none 0 0, .slice none 0 0], .int .i64 0], []⟩).memory :=
 laidMet_of_run' 8 (by kernel_rfl) (by kernel_rfl)
theorem liftedMaskAll (os : Os) (started : os.Started) (H : Type) (enc : TypeId × Value → H) (F : Stop.Interp) :
  ReturnsInHanded {} Tryz.checked os 6 .any ((OpenSpec.ofChange Rows.maskAllSpec).preRow enc Tryz.prog Tryz.f6 Rows.maskAllRow.domain false Rows.maskAllRow.laid) (((OpenSpec.ofChange Rows.maskAllSpec).at F).post enc Tryz.prog Tryz.f6 false true false false) := by
 obtain ⟨places, hx⟩ := readsMaskAll os enc
 refine returnsInHanded_of_row (C := Tryz.checked) (s := OpenSpec.ofChange Rows.maskAllSpec) own started (by kernel_rfl) Tryz.func6
  (witness_row_at (enc := enc) (C := Tryz.checked) false (laidWorld os) #[.string ⟨#[]⟩, .slice none 0 0, .agg #[.int .i64 0, .bool false, .bool false, .slice none 0 0, .int .i64 0, .string ⟨#[]⟩, .slice none 0 0, .slice none 0 0], .agg #[.int .i64 0, .bool false, .bool false, .slice none 0 0, .int .i64 0, .string ⟨#[]⟩, .slice none 0 0, .slice none 0 0], .int .i64 0] rfl (by kernel_rfl) (by kernel_rfl) (by kernel_rfl)
   (OpenSpec.preRow_of_cond 8 hx (by kernel_rfl) (fun k hk => by cases hk) (by kernel_rfl) (metMaskAll os))) ?_
 intro W base args ds gs before hval hW _ _ _ hL hS _
 exact contractMaskAll H enc W base args ds gs before hval hW hL hS
theorem saidMaskAll : Rows.MaskAllSaid :=
 OpenClaim.holds_of_cond 6 Tryz.f6 rfl rfl rfl rfl rfl rfl rfl ⟨rfl, rfl, rfl, rfl, rfl⟩ rfl rfl rfl rfl rfl (by kernel_rfl) Tryz.func6 (by kernel_rfl)
  (of_decide_eq_true (by kernel_rfl)) (by unfold Func.isWrapper; first | (rw [if_pos (by decide +kernel)]; kernel_rfl) | (rw [if_neg (by decide +kernel)]; exact ⟨rfl, rfl⟩))
  (fun os started H enc _ F => by rw [OpenClaim.pre_eq_preRow]; exact liftedMaskAll os started H enc F)
theorem plainMaskAll (f : FuncId) (fn : Func) (hf : Tryz.pinned.checked.prog.funcNamed "erratum/erratumlaw17.MaskAll" = some f) (hfn : Tryz.pinned.checked.prog.funcs[f]? = some fn) :
  true = Tryz.pinned.checked.prog.looks [] ∧ ∀ (j : Nat) t, fn.params[j]? = some t → Tryz.pinned.checked.prog.wantsStandIn t = false := by
 obtain rfl : f = 6 := Option.some.inj ((show Tryz.prog.funcNamed "erratum/erratumlaw17.MaskAll" = some 6 by kernel_rfl).symm.trans hf) |>.symm
 obtain rfl : fn = Tryz.f6 := (Option.some.inj (Tryz.func6.symm.trans hfn)).symm
 refine ⟨by kernel_rfl, fun j t ht => ?_⟩
 rw [Tryz.params6] at ht
 have hm : t = 9 ∨ t = 33 ∨ t = 29 ∨ t = 29 ∨ t = 3 := by simpa using Array.mem_of_getElem? ht
 rcases hm with rfl | rfl | rfl | rfl | rfl
 ·exact (show Tryz.prog.wantsStandIn 9 = false by kernel_rfl)
 ·exact (show Tryz.prog.wantsStandIn 33 = false by kernel_rfl)
 ·exact (show Tryz.prog.wantsStandIn 29 = false by kernel_rfl)
 ·exact (show Tryz.prog.wantsStandIn 29 = false by kernel_rfl)
 ·exact (show Tryz.prog.wantsStandIn 3 = false by kernel_rfl)
theorem cardMaskAll : Rows.MaskAllCardSaid :=
 Claim7.holds_tied_plain_at .later [] _ _ _ _ saidMaskAll (fun _ h => by cases h) (by kernel_rfl) (fun _ h => by cases h) maskAll_row_tie rfl ⟨rfl, rfl⟩ (by kernel_rfl) rfl plainMaskAll (by kernel_rfl)
end Go.Proofs.YtondpnipoogoiaaGreatDoor.X
