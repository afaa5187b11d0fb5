import Derived.Test.YtondpnipoogoiaaGreatDoorE4
import Derived.LoopIn
import Derived.WalkMore
import Derived.Laws.RangeAny
import Derived.Test.YtondpnipoogoiaaGreatDoorE1
import Derived.Lib.TrimUEq
import Derived.Sort.Walk0
import Derived.Sort.LotA
import Derived.Lib.Walk
import Derived.WalkKit
import Derived.Laws.Cover1
import Derived.Shelf.SlSortCmp.NoneTotal
import Derived.Shelf.SlGeneric
import Derived.Ground.SlsfProg
import Derived.Test.YtondpnipoogoiaaGreatDoorProg
set_option maxRecDepth 100000
set_option linter.unusedVariables false
set_option linter.unusedSimpArgs false
namespace Go.Proofs.YtondpnipoogoiaaGreatDoor.F
open Go Go.RowKit Go.Proofs.Tryz
def bulk (t : Tree) : Nat := 1 + if t.kind = 3 then t.n.m.length else if t.kind = 4 then t.s.size else if t.kind = 5 then t.s.size else 0
mutual
def weight : Tree → Nat
 | .mk kind b n s k v => bulk (.mk kind b n s k v) + weightL v
def weightL : List Tree → Nat
 | [] => 0
 | t :: l => weight t + weightL l
end
theorem weight_eq (t : Tree) : weight t = bulk t + weightL t.v := by cases t; rfl
theorem weightL_take : ∀ (l : List Tree) (i : Nat), i < l.length → weightL (l.take (i + 1)) = weightL (l.take i) + weight (l.getD i (dflt .tree))
 | [], i, h => by simp at h
 | t :: l, 0, h => by simp [weightL]
 | t :: l, i + 1, h => by
  simp only [List.take_succ_cons, weightL, List.getD_cons_succ]
  rw [weightL_take l i (by simpa using h)]; omega
theorem weightL_le : ∀ (l : List Tree) (i : Nat), weightL (l.take i) ≤ weightL l
 | [], i => by simp
 | t :: l, 0 => by simp [weightL]
 | t :: l, i + 1 => by simp only [List.take_succ_cons, weightL]; have := weightL_le l i; omega
theorem bulk_3 {t : Tree} (h : t.kind = 3) : bulk t = 1 + t.n.m.length := by simp [bulk, h]
theorem bulk_4 {t : Tree} (h : t.kind = 4) : bulk t = 1 + t.s.size := by simp [bulk, h]
theorem bulk_5 {t : Tree} (h : t.kind = 5) : bulk t = 1 + t.s.size := by simp [bulk, h]
theorem bulk_0 {t : Tree} (h : ¬ t.kind = 3) (h' : ¬ t.kind = 4) (h2 : ¬ t.kind = 5) : bulk t = 1 := by simp [bulk, h, h', h2]
mutual
def nodes : Tree → Nat
 | .mk _ _ _ _ _ v => 1 + nodesL v
def nodesL : List Tree → Nat
 | [] => 0
 | t :: l => nodes t + nodesL l
end
theorem nodes_eq (t : Tree) : nodes t = 1 + nodesL t.v := by cases t; rfl
theorem nodes_at : ∀ {l : List Tree} {i : Nat}, i < l.length → nodes (l.getD i (dflt .tree)) ≤ nodesL l
 | [], i, h => by simp at h
 | t :: l, 0, h => by simp [nodesL]
 | t :: l, i + 1, h => by
  simp only [nodesL, List.getD_cons_succ]
  have := @nodes_at l i (by simpa using h); omega
theorem nodesL_take : ∀ (l : List Tree) (i : Nat), i < l.length → nodesL (l.take (i + 1)) = nodesL (l.take i) + nodes (l.getD i (dflt .tree))
 | [], i, h => by simp at h
 | t :: l, 0, h => by simp [nodesL]
 | t :: l, i + 1, h => by
  simp only [List.take_succ_cons, nodesL, List.getD_cons_succ]
  rw [nodesL_take l i (by simpa using h)]; omega
theorem nodesL_le : ∀ (l : List Tree) (i : Nat), nodesL (l.take i) ≤ nodesL l
 | [], i => by simp
 | t :: l, 0 => by simp [nodesL]
 | t :: l, i + 1 => by simp only [List.take_succ_cons, nodesL]; have := nodesL_le l i; omega
theorem nodesL_len : ∀ (l : List Tree), l.length ≤ nodesL l
 | [] => by simp
 | t :: l => by simp only [List.length_cons, nodesL]; have := nodesL_len l; have := nodes_eq t; omega
mutual
def depth : Tree → Nat
 | .mk _ _ _ _ _ v => 1 + depthL v
def depthL : List Tree → Nat
 | [] => 0
 | t :: l => max (depth t) (depthL l)
end
theorem depth_eq (t : Tree) : depth t = 1 + depthL t.v := by cases t; rfl
theorem depthL_take : ∀ (l : List Tree) (i : Nat), i < l.length → depthL (l.take (i + 1)) = max (depthL (l.take i)) (depth (l.getD i (dflt .tree)))
 | [], i, h => by simp at h
 | t :: l, 0, h => by simp [depthL]
 | t :: l, i + 1, h => by
  simp only [List.take_succ_cons, depthL, List.getD_cons_succ]
  rw [depthL_take l i (by simpa using h)]; omega
mutual
theorem depth_le : ∀ t : Tree, depth t ≤ nodes t
 | .mk _ _ _ _ _ v => by simp only [depth, nodes]; have := depthL_le v; omega
theorem depthL_le : ∀ l : List Tree, depthL l ≤ nodesL l
 | [] => by simp [depthL]
 | t :: l => by simp only [depthL, nodesL]; have := depth_le t; have := depthL_le l; omega
end
def cutK (t : Tree) : List ByteArray := if t.kind = 7 then t.k.take (min t.k.length t.v.length) else []
def cutV (t : Tree) : List Tree := if t.kind = 7 then t.v.take (min t.k.length t.v.length) else []
theorem cut_len (t : Tree) : (cutK t).length = (cutV t).length := by unfold cutK cutV; split <;> simp <;> omega
def eqT (a b : ByteArray) : Bool := a.toList == b.toList
def idxT (x : ByteArray) : List ByteArray → Int
 | [] => -1
 | y :: l => if eqT x y = true then 0 else if idxT x l < 0 then -1 else idxT x l + 1
theorem idxT_no {x : ByteArray} : ∀ {l : List ByteArray}, (∀ j, j < l.length → ∀ d, eqT x (l.getD j d) = false) → idxT x l = -1
 | [], _ => rfl
 | y :: l, h => by
  have h0 : eqT x y = false := h 0 (by simp) y
  have h1 := idxT_no (l := l) (fun j hj d => h (j + 1) (by simpa using hj) d)
  simp [idxT, h0, h1]
theorem idxT_at {x : ByteArray} : ∀ {l : List ByteArray} {i : Nat} (d : ByteArray), i < l.length → eqT x (l.getD i d) = true → (∀ j, j < i → ∀ d, eqT x (l.getD j d) = false) → idxT x l = (i : Int)
 | [], _, _, h, _, _ => by simp at h
 | y :: l, 0, d, h, hq, _ => by
  have hq' : eqT x y = true := hq
  simp [idxT, hq']
 | y :: l, i + 1, d, h, hq, hn => by
  have h0 : eqT x y = false := hn 0 (by omega) y
  have h1 := idxT_at (l := l) (i := i) d (by simpa using h) hq (fun j hj d => hn (j + 1) (by omega) d)
  simp only [idxT, h0, h1]
  rw [if_neg (by decide), if_neg (by omega)]
  omega
theorem idxT_in (x : ByteArray) : ∀ l : List ByteArray, -1 ≤ idxT x l ∧ idxT x l < l.length
 | [] => by simp [idxT]
 | y :: l => by
  have := idxT_in x l
  simp only [idxT, List.length_cons]
  split
  omega
  split <;> omega
theorem getD_any' {α : Type} {l : List α} {i : Nat} (h : i < l.length) (d d' : α) : l.getD i d = l.getD i d' := by
 rw [List.getD_eq_getElem?_getD, List.getD_eq_getElem?_getD, List.getElem?_eq_getElem h]; rfl
def memI (t : Tree) (x : ByteArray) : Int := idxT x (cutK t)
def memV (t : Tree) (x : ByteArray) : Tree := if memI t x ≥ 0 then (cutV t).getD (memI t x).toNat (dflt .tree) else Tree.zero
def memB (t : Tree) (x : ByteArray) : Bool := decide (memI t x ≥ 0)
theorem memV_pos {t : Tree} {x : ByteArray} (h : idxT x (cutK t) ≥ 0) : memV t x = (cutV t).getD (idxT x (cutK t)).toNat (dflt .tree) ∧ memB t x = true := ⟨if_pos h, decide_eq_true h⟩
theorem memV_neg {t : Tree} {x : ByteArray} (h : ¬ idxT x (cutK t) ≥ 0) : memV t x = Tree.zero ∧ memB t x = false := ⟨if_neg h, decide_eq_false h⟩
theorem con173 (t : Tree) : Con Tryz.prog I0 173 [.agg (encTree t)] (.val (.tup [.row .str (cutK t), .row .tree (cutV t)])) := by
 refine con_of Tryz.func173 rfl (Nat.le_of_ble_eq_true rfl) stab (fun w0 fz a hI hs => ?_)
 rcases bt (t.kind != 7) with b1 | b1
 have n1 := bne_iff_ne.1 b1
 refine wN hs hI (bz 1 1) 190729182918 [q1 b1] .ret [(2, nilv), (3, nilv)] [] fun a w hs => ?_
 exact rK (.val (.tup [rwS ([]), rwT ([])])) [] hs (by have b1 := b1; simp at b1; simp [cutK, cutV, b1]; try omega)
 have n1 := bne_eq_false_iff_eq.1 b1
 refine wN hs hI (bz 1 0) 1666078718668889729182918 [q1 b1, ⟨0 ≤ (0 : Int) ∧ (0 : Int) ≤ (min (t.k.length : Int) (t.v.length : Int)) ∧ (min (t.k.length : Int) (t.v.length : Int)) ≤ (min (t.k.length : Int) (t.v.length : Int)) ∧ (min (t.k.length : Int) (t.v.length : Int)) ≤ (t.k.length : Int), (by (repeat' apply And.intro) <;> (try split) <;> omega)⟩, ⟨0 ≤ (0 : Int) ∧ (0 : Int) ≤ (min (t.k.length : Int) (t.v.length : Int)) ∧ (min (t.k.length : Int) (t.v.length : Int)) ≤ (min (t.k.length : Int) (t.v.length : Int)) ∧ (min (t.k.length : Int) (t.v.length : Int)) ≤ (t.v.length : Int), (by (repeat' apply And.intro) <;> (try split) <;> omega)⟩] .ret [(2, rwS (t.k.take (min (t.k.length : Int) (t.v.length : Int)).toNat)), (3, rwT (t.v.take (min (t.k.length : Int) (t.v.length : Int)).toNat))] [] fun a w hs => ?_
 exact rK (.val (.tup [rwS (t.k.take (min (t.k.length : Int) (t.v.length : Int)).toNat), rwT (t.v.take (min (t.k.length : Int) (t.v.length : Int)).toNat)])) [] hs (by have b1 := b1; simp at b1; simp [cutK, cutV, b1]; try omega)
theorem con171 (xs : List ByteArray) (x : ByteArray) (hx : xs.length < 4611686018427387904) : Con Tryz.prog I0 171 [.row .str xs, vs x] (.val (vi (idxT x xs))) := by
 refine con_of Tryz.func171 rfl (Nat.le_of_ble_eq_true rfl) stab (fun w0 fz a hI hs => ?_)
 refine wNs hs hI [] 11 [] [(0, rwS xs), (1, vs x)] [] fun a w hs => ?_
 refine wp_seq ?_
 refine wNs hs hI [] 18 [] [(0, rwS xs), (1, vs x), (7, vi (xs.length : Int)), (8, vi 0)] [] fun a w hs => ?_
 refine wp_block ?_
 refine loop_L (N := Tryz.f171.ntmps) (w0 := w0) (ow := noO fz) (α := Nat) (fun p => [(0, rwS xs), (1, vs x), (7, vi (xs.length : Int)), (8, vi (p : Int))]) (fun p => []) (fun p => p ≤ xs.length ∧ ∀ j, j < p → ∀ d, eqT x (xs.getD j d) = false) (fun p => xs.length - p) 0 ?_ ?_ ?_
 exact ⟨Nat.zero_le _, fun j hj => absurd hj (Nat.not_lt_zero _)⟩
 exact hs.rk []
 rintro i hJ a w hs
 obtain ⟨hi, hall⟩ := hJ
 rcases bd ((i : Int) < (xs.length : Int)) with ⟨b1, n1⟩ | ⟨b1, n1⟩
 rcases bq (x.toList) ((xs.getD i (dflt .str)).toList) with ⟨b2, n2⟩ | ⟨b2, n2⟩
 refine wN hs hI (bz 2 3) 190796078982720 [q1 b1, q4 (i : Int) xs.length, q1 b2] .ret [(4, vi (i : Int))] [] fun a w hs => ?_
 refine then_ret ?_
 refine inb_ret ?_
 refine then_ret ?_
 exact rK (.val (vi (i : Int))) [] hs (by rw [idxT_at (i := i) (dflt .str) (by omega) b2 (fun j hj d => hall j hj d)])
 refine wN hs hI (bz 2 1) 1729796078982720 [q1 b1, q4 (i : Int) xs.length, q1 b2, q3 ((i : Int) + 1)] .norm [(0, rwS xs), (1, vs x), (7, vi (xs.length : Int)), (8, vi ((i : Int) + 1))] [] fun a w hs => ?_
 refine then_norm ⟨i + 1, ⟨by omega, fun j hj d => by rcases Nat.lt_succ_iff_lt_or_eq.1 hj with h | h; exact hall j h d; subst h; rw [getD_any' (by omega) d (dflt .str)]; exact b2⟩, by omega, ?_⟩
 exact hs.rk []
 refine wN hs hI (bz 1 0) 720 [q1 b1] (.exit 0) [] [] fun a w hs => ?_
 refine then_exit ?_
 refine inb_hit ?_
 refine then_norm ?_
 refine wN hs hI [] 120 [] .ret [(4, vi (-1))] [] fun a w hs => ?_
 exact rK (.val (vi (-1))) [] hs (by rw [idxT_no (fun j hj d => hall j (by omega) d)])
theorem con122 (t : Tree) (x : ByteArray) (hx : (cutK t).length < 4611686018427387904) : Con Tryz.prog I0 122 [.agg (encTree t), vs x] (.val (.tup [.agg (encTree (memV t x)), vb (memB t x)])) := by
 have hx1 := idxT_in x (cutK t)
 have hcl := cut_len t
 refine con_of Tryz.func122 rfl (Nat.le_of_ble_eq_true rfl) stab (fun w0 fz a hI hs => ?_)
 rcases bd ((idxT x (cutK t)) ≥ 0) with ⟨b1, n1⟩ | ⟨b1, n1⟩
 refine wL hs hI [(1, rc [(1, ciV 173 [aTr (t)] (.tup [rwS (cutK t), rwT (cutV t)]))]), (2, rc [(2, ciV 171 [rwS (cutK t), vs x] (vi (idxT x (cutK t))))])] (bz 1 1) 196871798604029688412918 [q1 b1, q4 (idxT x (cutK t)) ((cutV t).length)] .ret [(4, .ptr 1001 0), (5, vb true)] [(1001, bTr (((cutV t).getD ((idxT x (cutK t)).toNat) (dflt .tree))))] ⟨con173 _, con171 _ _ hx, tv⟩ fun a w hs => ?_
 exact rK (.val (.tup [aTr (((cutV t).getD ((idxT x (cutK t)).toNat) (dflt .tree))), vb true])) [] hs (by have h := memV_pos (by assumption); rw [h.1, h.2])
 refine wL hs hI [(1, rc [(1, ciV 173 [aTr (t)] (.tup [rwS (cutK t), rwT (cutV t)]))]), (2, rc [(2, ciV 171 [rwS (cutK t), vs x] (vi (idxT x (cutK t))))])] (bz 1 0) 1291829798604029688412918 [q1 b1] .ret [(4, .ptr 1001 0), (5, vb false)] [(1001, .var zTr)] ⟨con173 _, con171 _ _ hx, tv⟩ fun a w hs => ?_
 exact rK (.val (.tup [.agg [vi 0, vb false, vb false, rwU ([]), vi 0, vs (ba []), rwS ([]), rwT ([])], vb false])) [] hs (by have h := memV_neg (by assumption); rw [h.1, h.2]; rfl)
theorem nodesL_mem : ∀ {l : List Tree} {x : Tree}, x ∈ l → nodes x ≤ nodesL l
 | [], _, h => by simp at h
 | t :: l, x, h => by
  simp only [nodesL]
  rcases List.mem_cons.1 h with rfl | h
  omega
  have := nodesL_mem h; omega
theorem cutV_sub {t y : Tree} (h : y ∈ cutV t) : y ∈ t.v := by
 unfold cutV at h
 split at h
 exact List.mem_of_mem_take h
 simp at h
theorem memV_nodes {t : Tree} {x : ByteArray} (h : memB t x = true) : nodes (memV t x) ≤ nodes t := by
 have h0 : idxT x (cutK t) ≥ 0 := of_decide_eq_true h
 have h1 := idxT_in x (cutK t)
 have h2 := cut_len t
 rw [(memV_pos h0).1]
 have h3 : (idxT x (cutK t)).toNat < (cutV t).length := by omega
 have hm : (cutV t).getD (idxT x (cutK t)).toNat (dflt .tree) ∈ t.v := by
  refine cutV_sub ?_
  rw [List.getD_eq_getElem?_getD, List.getElem?_eq_getElem h3]
  exact List.getElem_mem h3
 have := nodesL_mem hm
 have := nodes_eq t
 omega
theorem eqT_iff {a b : ByteArray} : eqT a b = true ↔ a = b := by
 unfold eqT
 rw [beq_iff_eq]
 refine ⟨fun h => ?_, fun h => by rw [h]⟩
 rw [Lib.toList_data, Lib.toList_data] at h
 obtain ⟨⟨a⟩⟩ := a
 obtain ⟨⟨b⟩⟩ := b
 simp at h
 rw [h]
theorem eqT_ne {a b : ByteArray} : eqT a b = false ↔ a ≠ b := by
 cases h : eqT a b with
 | true => simp [eqT_iff.1 h]
 | false => simp only [true_iff]; intro e; rw [eqT_iff.2 e] at h; cases h
theorem eqT_self (a : ByteArray) : eqT a a = true := eqT_iff.2 rfl
abbrev Mem := List (ByteArray × Tree)
def lookA (x : ByteArray) : Mem → Option Tree
 | [] => none
 | (y, v) :: l => if eqT x y = true then some v else lookA x l
def gtB (a b : ByteArray) : Bool := !(Op.bytesLess a.toList b.toList || a.toList == b.toList)
def putA (x : ByteArray) (v : Tree) : Mem → Mem
 | [] => [(x, v)]
 | (y, u) :: l => if gtB y x = true then (x, v) :: (y, u) :: l else (y, u) :: putA x v l
def repA (x : ByteArray) (v : Tree) : Mem → Mem
 | [] => []
 | (y, u) :: l => if eqT x y = true then (y, v) :: l else (y, u) :: repA x v l
def insA (x : ByteArray) (v : Tree) (l : Mem) : Mem := if (lookA x l).isSome then repA x v l else putA x v l
def delA (x : ByteArray) : Mem → Mem
 | [] => []
 | (y, u) :: l => if eqT x y = true then l else (y, u) :: delA x l
def Nodup (l : Mem) : Prop := (l.map (·.1)).Nodup
def mems (t : Tree) : Mem := (cutK t).zip (cutV t)
theorem mems_k (t : Tree) : (mems t).map (·.1) = cutK t := by
 unfold mems
 rw [List.map_fst_zip (Nat.le_of_eq (cut_len t))]
theorem mems_v (t : Tree) : (mems t).map (·.2) = cutV t := by
 unfold mems
 rw [List.map_snd_zip (Nat.le_of_eq (cut_len t).symm)]
def objM (l : Mem) : Tree := .mk 7 false ⟨false, [], 0⟩ (ba []) (l.map (·.1)) (l.map (·.2))
theorem mems_objM (l : Mem) : mems (objM l) = l := by
 unfold mems cutK cutV objM
 simp only [Tree.kind, Tree.k, Tree.v, if_true, List.length_map, Nat.min_self]
 rw [List.take_of_length_le (by simp), List.take_of_length_le (by simp)]
 induction l with
 | nil => rfl
 | cons p l ih => simp [List.zip_cons_cons, ih]
theorem idxT_look (x : ByteArray) : ∀ l : Mem, (idxT x (l.map (·.1)) ≥ 0 ↔ (lookA x l).isSome = true) ∧ (idxT x (l.map (·.1)) ≥ 0 → lookA x l = some ((l.map (·.2)).getD (idxT x (l.map (·.1))).toNat (dflt .tree)))
 | [] => by simp [idxT, lookA]
 | (y, v) :: l => by
  obtain ⟨h1, h2⟩ := idxT_look x l
  simp only [List.map_cons, idxT, lookA]
  by_cases h : eqT x y = true
  simp [h]
  simp only [h]
  by_cases h0 : idxT x (l.map (·.1)) < 0
  have hn : ¬ (lookA x l).isSome = true := fun hh => by have := h1.2 hh; omega
  simp only [h0, if_true, Bool.false_eq_true, if_false]
  exact ⟨⟨fun hh => by omega, fun hh => absurd hh hn⟩, fun hh => by omega⟩
  have hp : idxT x (l.map (·.1)) ≥ 0 := by omega
  simp only [h0, if_false, Bool.false_eq_true]
  refine ⟨⟨fun _ => h1.1 hp, fun _ => by omega⟩, fun _ => ?_⟩
  rw [h2 hp, show (idxT x (l.map (·.1)) + 1).toNat = (idxT x (l.map (·.1))).toNat + 1 by omega, List.getD_cons_succ]
theorem memB_look (t : Tree) (x : ByteArray) : memB t x = (lookA x (mems t)).isSome := by
 have h := (idxT_look x (mems t)).1
 rw [mems_k] at h
 unfold memB memI
 rw [Bool.eq_iff_iff, decide_eq_true_iff]; exact h
theorem memV_look (t : Tree) (x : ByteArray) : memV t x = (lookA x (mems t)).getD Tree.zero := by
 have h := idxT_look x (mems t)
 rw [mems_k, mems_v] at h
 unfold memV memI
 by_cases h0 : idxT x (cutK t) ≥ 0
 rw [if_pos h0, h.2 h0]; rfl
 rw [if_neg h0]
 have hn : lookA x (mems t) = none := by
  cases hl : lookA x (mems t) with
  | none => rfl
  | some v => exact absurd (h.1.2 (by rw [hl]; rfl)) h0
 rw [hn]; rfl
def setT (t : Tree) (x : ByteArray) (v : Tree) : Tree := objM (insA x v (mems t))
def unsetT (t : Tree) (x : ByteArray) : Tree := if memB t x = true then objM (delA x (mems t)) else t
end Go.Proofs.YtondpnipoogoiaaGreatDoor.F
namespace Go.Proofs.YtondpnipoogoiaaGreatDoor.X
open Go Go.RowKit
structure Hide0 (p : Prop) : Prop where
 out : p
theorem nt_Valid : Tryz.f249.ntmps = 24 := rfl
def validAt (s : ByteArray) : Nat → Nat → Bool
 | 0, _ => true
 | b + 1, i => if i < s.size then (if (Utf8.decode s i).1 = 65533 then (if (Utf8.decode s i).2 = 1 then false else validAt s b (i + (Utf8.decode s i).2)) else validAt s b (i + (Utf8.decode s i).2)) else true
theorem validAt_end (s : ByteArray) (b i : Nat) (h : ¬ i < s.size) : validAt s b i = true := by
 cases b with
 | zero => rfl
 | succ b => simp [validAt, h]
theorem run_next_at {P : Program} (W : World) (n : Nat) (s : ByteArray) (pos : Nat) (ty : TypeId) (hi : W.heap[n]? = some (.stringIter s pos)) (h : pos < s.size) :
  (Instr.next (.pointer (some ⟨n, 0, none⟩)) true ty).run P W = .ok (.tuple #[.bool true, .int .i64 pos, .int .i32 (Utf8.decode s pos).1]) { W with heap := W.heap.setIfInBounds n (.stringIter s (pos + (Utf8.decode s pos).2)) } := by
 simp only [Instr.next, getObj, setObj, Sem.run_bind, Sem.run, hi, Result.andThen, h, if_true]
 simp [goInt]
theorem run_next_at_end {P : Program} (W : World) (n : Nat) (s : ByteArray) (pos : Nat) (ty : TypeId) (hi : W.heap[n]? = some (.stringIter s pos)) (h : ¬ pos < s.size) :
  (Instr.next (.pointer (some ⟨n, 0, none⟩)) true ty).run P W = .ok (.tuple #[.bool false]) W := by
 simp [Instr.next, getObj, Sem.run, hi, h]
theorem decodeGo_from (s : ByteArray) (pos : Nat) (h : pos < s.size) : Lib.decodeGo (s.extract pos s.size) = Utf8.decode s pos := by
 have hx : (s.extract pos s.size).data.toList = s.data.toList.drop pos := by
  rw [Lib.extract_data, List.take_of_length_le (by rw [List.length_drop, ← Lib.size_eq]; omega)]
 have hsz : (s.extract pos s.size).size ≠ 0 := by rw [Lib.size_eq, hx, List.length_drop, ← Lib.size_eq]; omega
 unfold Lib.decodeGo
 rw [if_neg hsz, ← Lib.decodeL_drop s pos, ← hx]
 rfl
def World.turned (W : World) (n : Nat) (s : ByteArray) (p : Nat) : World := { W with heap := W.heap.setIfInBounds n (.stringIter s p) }
theorem turned_at {W : World} {n : Nat} {s s0 : ByteArray} {p q : Nat} (h : W.heap[n]? = some (.stringIter s0 q)) : (World.turned W n s p).heap[n]? = some (.stringIter s p) := by
 obtain ⟨hn, _⟩ := Array.getElem?_eq_some_iff.1 h
 show (W.heap.setIfInBounds n _)[n]? = _
 simp [Array.getElem?_setIfInBounds, hn]
theorem turned_below {B : Nat} {a W : World} {n : Nat} {s : ByteArray} {p : Nat} (h : Below B a W) (hn : B ≤ n) : Below B a (World.turned W n s p) :=
 ⟨h.os, h.tape, h.output, by show _ ≤ (W.heap.setIfInBounds n _).size; rw [Array.size_setIfInBounds]; exact h.size, fun k hk => by
  show (W.heap.setIfInBounds n _)[k]? = _
  rw [Array.getElem?_setIfInBounds_ne (by omega)]
  exact h.block k hk⟩
theorem run_next_on {P : Program} (W : World) (n : Nat) (s : ByteArray) (pos : Nat) (ty : TypeId) (hi : W.heap[n]? = some (.stringIter s pos)) (h : pos < s.size) :
  (Instr.next (.pointer (some ⟨n, 0, none⟩)) true ty).run P W = .ok (.tuple #[.bool true, .int .i64 pos, .int .i32 (Utf8.decode s pos).1]) (World.turned W n s (pos + (Utf8.decode s pos).2)) := run_next_at W n s pos ty hi h
def utf_Valid.f (s : ByteArray) : Option Bool := some (validAt s s.size 0)
set_option maxHeartbeats 8000000 in
theorem utf_Valid.calls (s : ByteArray) (r : Bool) (w : World) (hL : Laid w) (h : utf_Valid.f s = some r) :
  Calls Tryz.prog 249 #[.string s] w fun e w' => e = .returned (.bool r) ∧ Below w.heap.size w w' := by
 obtain rfl := Option.some.inj h
 clear h
 replace hL := Hide0.mk hL
 go_enter Tryz.func249, nt_Valid
 go_wp2
 refine wp_scope_straight ?_
 refine wp_seq ?_
 refine wp_label ?_
 go_wp2
 go_loopw [3] (fun n w' => ∃ (pos b : Nat), w'.heap[w.heap.size]? = some (.stringIter s pos) ∧ Below w.heap.size w w' ∧ Hide0 (validAt s b pos = validAt s s.size 0) ∧ s.size ≤ pos + b) (fun _ w' => s.size - w'.iterPos w.heap.size)
 case atStart => exact ⟨0, s.size, World.iter_heap w s 0, (Below.refl _ _).alloc (Nat.le_refl _) _, ⟨rfl⟩, by omega⟩
 case round =>
  obtain ⟨pos, b, hi, hB, hc, hb⟩ := hrel
  have hHI := Hide0.mk hi
  have hHB := Hide0.mk hB
  by_cases hp : pos < s.size
  ·have hnx : ∀ ty, (Instr.next (.pointer (some ⟨w.heap.size, 0, none⟩)) true ty).run Tryz.prog wr = _ := fun ty => run_next_on wr _ s pos ty hi hp
   have hK : 1 ≤ (Utf8.decode s pos).2 := Lib.width_pos s pos
   have hG := decodeGo_from s pos hp
   have hit := Hide0.mk (turned_at (s := s) (p := pos + (Utf8.decode s pos).2) hi)
   have hBt := Hide0.mk (turned_below (s := s) (p := pos + (Utf8.decode s pos).2) hB (Nat.le_refl _))
   have hip : (World.turned wr w.heap.size s (pos + (Utf8.decode s pos).2)).iterPos w.heap.size = pos + (Utf8.decode s pos).2 := by unfold World.iterPos; rw [hit.out]
   have hip0 : wr.iterPos w.heap.size = pos := by unfold World.iterPos; rw [hi]
   rcases b with _ | b
   ·omega
   have hv : validAt s (b + 1) pos = if (Utf8.decode s pos).1 = 65533 then (if (Utf8.decode s pos).2 = 1 then false else validAt s b (pos + (Utf8.decode s pos).2)) else validAt s b (pos + (Utf8.decode s pos).2) := by rw [validAt, if_pos hp]
   clear hi hB
   generalize hRe : (Utf8.decode s pos).1 = R at *
   generalize hKe : (Utf8.decode s pos).2 = K at *
   have hRK : Utf8.decode s pos = (R, K) := by rw [← hRe, ← hKe]
   by_cases hr : R = 65533
   ·subst hr
    rw [if_pos rfl] at hv
    by_cases hk : K = 1
    ·subst hk
     rw [if_pos rfl] at hv
     go_wp2_with (go_at_fn 231; done)
     refine (Tryz.utf8_DecodeRuneInString _ _ (hL.out.below hBt.out).utf8).mono ?_
     rintro e w' ⟨rfl, hb'⟩
     rw [hG, hRK]
     have hB2 := Hide0.mk (hBt.out.trans (hb'.mono hBt.out.size))
     clear hb' hit hip
     go_wp2
     (try rw [Exit.noGoto_ret])
     go_ret
     rw [← hc.out, hv]
     exact ⟨rfl, hB2.out⟩
    ·rw [if_neg hk] at hv
     have hk' : ¬ ((K : Int) = 1) := by omega
     go_wp2_with (go_at_fn 231; done)
     refine (Tryz.utf8_DecodeRuneInString _ _ (hL.out.below hBt.out).utf8).mono ?_
     rintro e w' ⟨rfl, hb'⟩
     rw [hG, hRK]
     have hB2 := Hide0.mk (hBt.out.trans (hb'.mono hBt.out.size))
     have hlt : w.heap.size < (World.turned wr w.heap.size s (pos + K)).heap.size := (Array.getElem?_eq_some_iff.1 hit.out).1
     have hit2 := Hide0.mk ((hb'.block _ hlt).trans hit.out)
     have hip2 : w'.iterPos w.heap.size = pos + K := by unfold World.iterPos; rw [hit2.out]
     clear hb' hit hip
     go_wp2
     go_roundw
     case rel => exact ⟨pos + K, b, hit2.out, hB2.out, ⟨hv.symm.trans hc.out⟩, by omega⟩
     case measure => rw [hip2, hip0]; omega
   ·have hr' : ¬ ((R : Int) = 65533) := by omega
    rw [if_neg hr] at hv
    go_wp2
    go_roundw
    case rel => exact ⟨pos + K, b, hit.out, hBt.out, ⟨hv.symm.trans hc.out⟩, by omega⟩
    case measure => rw [hip, hip0]; omega
  ·have hnx : ∀ ty, (Instr.next (.pointer (some ⟨w.heap.size, 0, none⟩)) true ty).run Tryz.prog wr = _ := fun ty => run_next_at_end wr _ s pos ty hi hp
   clear hi hB
   go_wp2
   (try rw [Exit.noGoto_ret])
   go_ret
   rw [← hc.out, validAt_end s b pos hp]
   exact ⟨rfl, hHB.out⟩
end Go.Proofs.YtondpnipoogoiaaGreatDoor.X
namespace Go.Proofs.YtondpnipoogoiaaGreatDoor.F
open Go Go.RowKit Go.Proofs.Tryz
theorem con_lits {P : Program} {I : World → Prop} {f : FuncId} {args : List Value} {r : Value} (h : ∀ w, I w → Calls P f args.toArray w fun e w' => e = .returned r ∧ Below w.heap.size w w') : Con P I f (args.map .lit) (.val (.lit r)) := by
 intro w fz vs hI hfz hR
 have hv : vs = args.toArray := by
  refine Array.ext (by simpa using hR.1) (fun i h1 h2 => ?_)
  have h3 : i < args.length := by simpa using h2
  have := (hR.2 i vs[i] (.lit args[i]) (Array.getElem?_eq_getElem h1) (by rw [List.getElem?_map, List.getElem?_eq_getElem h3]; rfl)).lit_inv
  simpa using this
 subst hv
 exact (h w hI).mono fun e w' hh => ⟨⟨_, hh.1, .lit _⟩, hh.2⟩
theorem conValid (s : ByteArray) {r : Bool} (h : X.validAt s s.size 0 = r) : Con Tryz.prog I0 249 [vs s] (.val (vb r)) :=
 con_lits (args := [.string s]) (fun w hI => X.utf_Valid.calls s r w hI (by rw [← h]; rfl))
def splitF (s : ByteArray) (c : UInt8) : List ByteArray := Lib.splitB (ba [c]) 0 (Lib.countB s (ba [c])) s
def joinF (xs : List ByteArray) (sep : ByteArray) : ByteArray := ⟨(Lib.join (xs.map (·.data.toList)) sep.data.toList).toArray⟩
theorem RL_two {w : World} {fz : Nat → Prop} {η : Nat → Option Value} {vs : Array Value} {a b : AV} (h : RL w fz η vs [a, b]) : ∃ u v, vs = #[u, v] ∧ R w fz η u a ∧ R w fz η v b := by
 obtain ⟨hl, h⟩ := h
 have h0 : 0 < vs.size := by simp at hl; omega
 have h1 : 1 < vs.size := by simp at hl; omega
 refine ⟨vs[0], vs[1], Array.ext (by simpa using hl) (fun i p q => ?_), h 0 _ a (Array.getElem?_eq_getElem h0) rfl, h 1 _ b (Array.getElem?_eq_getElem h1) rfl⟩
 have hi : i < 2 := by simpa using q
 rcases i with _ | _ | i
 rfl
 rfl
 omega
theorem conSplit (s : ByteArray) (c : UInt8) (hs : s.size < 4294967281) : Con Tryz.prog I0 82 [vs s, vs (ba [c])] (.own 9 .str (splitF s c)) := by
 intro w fz vs hI hfz hR
 obtain ⟨u, v, rfl, h1, h2⟩ := RL_two hR
 obtain rfl := h1.lit_inv
 obtain rfl := h2.lit_inv
 obtain ⟨m, hm⟩ := X.Laid.long hI
 have h1 : 1 ≤ (ba [c]).size := Nat.le_refl _
 refine (Tryz.strings_Split s (ba [c]) m w hs hm h1).mono ?_
 rintro e w' ⟨rfl, rfl⟩
 have hlen := Lib.splitB_all (ba [c]) h1 0 (Lib.countB s (ba [c])) s rfl
 have hle : Lib.countB s (ba [c]) ≤ s.size := Lib.countB_le (ba [c]) h1 s.size s (Nat.le_refl _)
 have hmx : Lib.countB s (ba [c]) + 1 ≤ maxLen := by unfold maxLen; omega
 refine ⟨⟨_, rfl, fun k hk => ?_, (splitF s c).map Value.string, ?_, fun i x j y hx hy => ?_⟩, (Below.refl _ _).alloc (Nat.le_refl _) _⟩
 simp only [blk, Option.some.injEq] at hk
 subst hk
 exact ⟨Nat.le_refl _, by show _ < (w.heap.push _).size; rw [Array.size_push]; omega⟩
 have hl2 : (splitF s c).length = Lib.countB s (ba [c]) + 1 := hlen
 rw [hl2]
 refine ⟨by rw [List.length_map, hl2]; simp [sz], .inr ⟨w.heap.size, _, _, rfl, Nat.zero_le _, heap_alloc_new w _, Nat.le_refl _, hmx, ?_, ?_⟩⟩
 rw [List.size_toArray, List.length_map, hlen]; simp [sz]
 simp only [sz, Nat.mul_one]
 exact List.take_of_length_le (by rw [List.length_map, hlen]; exact Nat.le_refl _)
 rcases j with _ | j
 simp only [enc, List.getElem?_cons_zero, Option.some.injEq] at hy
 subst hy
 exact ⟨.string x, by simp [sz, hx], .lit _⟩
 simp [enc] at hy
theorem plain_cell {w : World} {ad : Addr} {u : Value} (h : w.cell? ad = some u) : ∃ b o, ad = ⟨b, o, none⟩ := by
 obtain ⟨b, o, s⟩ := ad
 cases s with
 | none => exact ⟨b, o, rfl⟩
 | some s => simp [World.cell?] at h; split at h <;> simp at h
theorem conJoin (xs : List ByteArray) (sep : ByteArray) (hlen : (joinF xs sep).size ≤ 140737488355328) (hl : xs.length ≤ 140737488355328) : Con Tryz.prog I0 92 [.row .str xs, vs sep] (.val (vs (joinF xs sep))) := by
 intro w fz vs hI hfz hR
 obtain ⟨u, v, rfl, h1, h2⟩ := RL_two hR
 obtain ⟨A, c, rfl, hc, hm, hel⟩ := h1.row_inv
 obtain rfl := h2.lit_inv
 have fin : ∀ e w', (e = .returned (.string (joinF xs sep)) ∧ Below w.heap.size w w') → Post w fz w' e (.val (vs (joinF xs sep))) ∧ Below w.heap.size w w' := fun e w' h => ⟨⟨_, h.1, .lit _⟩, h.2⟩
 cases xs with
 | nil =>
  refine (Tryz.strings_Join_none A c sep w).mono ?_
  rintro e w' ⟨rfl, rfl⟩
  exact fin _ _ ⟨by rfl, Below.refl _ _⟩
 | cons y ys =>
  obtain ⟨ad, rfl, _, hlt, hcell⟩ := hel 0 y rfl
  obtain ⟨u, hu, _⟩ := hcell 0 (vs y) rfl
  have e0 : ad.add (0 * sz .str + 0) = ad := by simp [Addr.add]
  rw [e0] at hu
  obtain ⟨b, o, rfl⟩ := plain_cell hu
  refine (Tryz.strings_Join b o c (y :: ys) sep w (fun j x hx => ?_) hlt hl hc (by simpa [joinF, ByteArray.size] using hlen)).mono fin
  obtain ⟨ad, hA, _, _, hcell⟩ := hel j x hx
  injection hA with hA
  subst hA
  obtain ⟨u, hu, hr⟩ := hcell 0 (vs x) rfl
  obtain rfl := hr.lit_inv
  have e1 : (⟨b, o, none⟩ : Addr).add (j * sz .str + 0) = ⟨b, o + j, none⟩ := by
   simp only [sz, Nat.mul_one, Nat.add_zero]
   unfold Addr.add
   split
   rename_i hz; subst hz; rfl
   rfl
  rw [e1] at hu
  exact hu
def nameOk (s : ByteArray) (i : Nat) : Bool :=
 ((decide (bitsOr .u8 (byteAt s (i : Int)) 32 ≥ 97) && decide (bitsOr .u8 (byteAt s (i : Int)) 32 ≤ 122)) || byteAt s (i : Int) == 95) || (!((i : Int) == 0) && (!decide (byteAt s (i : Int) < 48) && !decide (byteAt s (i : Int) > 57)))
def nameF (s : ByteArray) : Bool := (List.range s.size).all (nameOk s) && (decide (s.size ≠ 0) && decide ((s.size : Int) ≤ 2000))
theorem all_no {n : Nat} {q : Nat → Bool} {i : Nat} (h : i < n) (hn : q i = false) : (List.range n).all q = false := List.all_eq_false.2 ⟨i, by simpa using h, by simp [hn]⟩
theorem nameF_no {s : ByteArray} {i : Nat} (h : i < s.size) (hn : nameOk s i = false) : nameF s = false := by
 have : (List.range s.size).all (nameOk s) = false := List.all_eq_false.2 ⟨i, by simpa using h, by simp [hn]⟩
 simp [nameF, this]
theorem nameF_yes {s : ByteArray} (h : ∀ j, j < s.size → nameOk s j = true) : nameF s = (decide (s.size ≠ 0) && decide ((s.size : Int) ≤ 2000)) := by
 have : (List.range s.size).all (nameOk s) = true := List.all_eq_true.2 (fun j hj => h j (by simpa using hj))
 simp [nameF, this]
theorem ba_nil_ne (s : ByteArray) : (!(s.toList == (ba []).toList)) = decide (s.size ≠ 0) := by
 have h1 : (ba []).toList = [] := by rw [Lib.toList_data]
 have h2 : s.toList = s.data.toList := Lib.toList_data s
 have h3 := Lib.size_eq s
 rw [h1, h2, h3]
 cases s.data.toList with
 | nil => rfl
 | cons x l => rfl
theorem con37 (s : ByteArray) (hs0 : s.size < 4294967281) : Con Tryz.prog I0 37 [vs s] (.val (vb (nameF s))) := by
 refine con_of Tryz.func37 rfl (Nat.le_of_ble_eq_true rfl) stab (fun w0 fz a hI hs => ?_)
 refine wNs hs hI [] 11 [] [(0, vs s)] [] fun a w hs => ?_
 refine wp_seq ?_
 refine wNs hs hI [] 18 [] [(0, vs s), (7, vi (s.size : Int)), (8, vi 0)] [] fun a w hs => ?_
 refine wp_block ?_
 refine loop_L (N := Tryz.f37.ntmps) (w0 := w0) (ow := noO fz) (α := Nat) (fun p => [(0, vs s), (7, vi (s.size : Int)), (8, vi (p : Int))]) (fun p => []) (fun p => p ≤ s.size ∧ ∀ j, j < p → nameOk s j = true) (fun p => s.size - p) 0 ?_ ?_ ?_
 exact ⟨Nat.zero_le _, fun j hj => absurd hj (Nat.not_lt_zero _)⟩
 exact hs.rk []
 rintro i hJ a w hs
 obtain ⟨hi, hall⟩ := hJ
 refine wNs hs hI [] 11 [] [(0, vs s), (7, vi (s.size : Int)), (8, vi (i : Int)), (9, vb (decide ((i : Int) < (s.size : Int))))] [] fun a w hs => ?_
 refine wp_seq ?_
 rcases bd ((i : Int) < (s.size : Int)) with ⟨b1, n1⟩ | ⟨b1, n1⟩
 refine wN hs hI (bz 1 1) 7 [q1 b1] .norm [(0, vs s), (7, vi (s.size : Int)), (8, vi (i : Int))] [] fun a w hs => ?_
 refine then_norm ?_
 rcases bd ((bitsOr .u8 (byteAt s (i : Int)) 32) ≥ 97) with ⟨b2, n2⟩ | ⟨b2, n2⟩
 rcases bd ((bitsOr .u8 (byteAt s (i : Int)) 32) ≤ 122) with ⟨b3, n3⟩ | ⟨b3, n3⟩
 refine wL hs hI [(5, rg [] [3, 4, 1005, 1011] [7, 8, 9, 10]), (6, rg [] [] [3, 4, 5, 10, 11, 16, 1017])] (bz 1 0) 172679666673873873382966617333377782607098 [q4 (i : Int) s.size, q1 b2, q1 b2, q1 b2, q1 b3, q1 b3, q1 b3, q1 b3, q1 b3, q0 false, q0 false, q0 false, q0 false, q0 false, q0 false, q0 false, q0 false, q3 ((i : Int) + 1)] .norm [(0, vs s), (7, vi (s.size : Int)), (8, vi ((i : Int) + 1))] [] tv fun a w hs => ?_
 refine then_norm ⟨i + 1, ⟨by omega, fun j hj => by rcases Nat.lt_succ_iff_lt_or_eq.1 hj with h | rfl; exact hall j h; simp only [nameOk, b1, b2, b3]; rfl⟩, by omega, ?_⟩
 exact hs.rk []
 rcases bq (byteAt s (i : Int)) (95) with ⟨b4, n4⟩ | ⟨b4, n4⟩
 refine wL hs hI [(5, rg [] [3, 4, 1005, 7, 8, 9, 10] [1011]), (6, rg [] [] [3, 4, 5, 10, 11, 16, 1017])] (bz 1 0) 17267966667387387338296666177337777782607098 [q4 (i : Int) s.size, q1 b2, q1 b2, q1 b2, q1 b3, q1 b3, q1 b3, q4 (i : Int) s.size, q1 b3, q1 b3, q1 (ng1 b4), q1 (ng1 b4), q1 (ng1 b4), q1 (ng1 b4), q1 (ng1 b4), q1 (ng1 b4), q1 (ng1 b4), q0 false, q3 ((i : Int) + 1)] .norm [(0, vs s), (7, vi (s.size : Int)), (8, vi ((i : Int) + 1))] [] tv fun a w hs => ?_
 refine then_norm ⟨i + 1, ⟨by omega, fun j hj => by rcases Nat.lt_succ_iff_lt_or_eq.1 hj with h | rfl; exact hall j h; simp only [nameOk, b1, b2, b3, b4]; rfl⟩, by omega, ?_⟩
 exact hs.rk []
 rcases bq (i : Int) (0) with ⟨b5, n5⟩ | ⟨b5, n5⟩
 refine wL hs hI [(5, rg [] [3, 4, 1005, 7, 8, 9, 10] [1011]), (6, rg [] [3, 4, 5, 10, 1010, 11, 16, 1016, 1017] [6, 7, 8, 9, 12, 13, 14, 15])] (bz 1 1) 1217666666733333373333337778296666177337777782607098 [q4 (i : Int) s.size, q1 b2, q1 b2, q1 b2, q1 b3, q1 b3, q1 b3, q4 (i : Int) s.size, q1 b3, q1 b3, q1 (ng0 b4), q1 (ng0 b4), q1 (ng0 b4), q1 b5, q1 b5, q1 b5, q1 b5, q1 (ng0 b4), q1 b5, q1 (ng0 b4), q0 true, q0 true, q0 true, q0 true, q1 (ng0 b4), q0 true, q1 (ng0 b4), q0 true] .ret [(2, vb false)] [] tv fun a w hs => ?_
 refine then_ret ?_
 refine inb_ret ?_
 refine then_ret ?_
 exact rK (.val (vb false)) [] hs (by rw [nameF_no (s := s) (i := i) (by omega) (by simp only [nameOk, b1, b2, b3, b4, b5]; rfl)])
 rcases bd ((byteAt s (i : Int)) < 48) with ⟨b6, n6⟩ | ⟨b6, n6⟩
 refine wL hs hI [(5, rg [] [3, 4, 1005, 7, 8, 9, 10] [1011]), (6, rg [] [3, 4, 5, 6, 7, 8, 9, 10, 11, 16, 1016, 1017] [1010, 12, 13, 14, 15])] (bz 1 1) 121766666667333333733733777778296666177337777782607098 [q4 (i : Int) s.size, q1 b2, q1 b2, q1 b2, q1 b3, q1 b3, q1 b3, q4 (i : Int) s.size, q1 b3, q1 b3, q1 (ng0 b4), q1 (ng0 b4), q1 (ng0 b4), q1 b5, q1 b5, q1 b5, q4 (i : Int) s.size, q1 b5, q1 (ng0 b4), q1 b5, q1 (ng0 b4), q1 b6, q1 b6, q1 b6, q1 b6, q1 (ng0 b4), q1 b6, q1 (ng0 b4), q0 true] .ret [(2, vb false)] [] tv fun a w hs => ?_
 refine then_ret ?_
 refine inb_ret ?_
 refine then_ret ?_
 exact rK (.val (vb false)) [] hs (by rw [nameF_no (s := s) (i := i) (by omega) (by simp only [nameOk, b1, b2, b3, b4, b5, b6]; rfl)])
 rcases bd ((byteAt s (i : Int)) > 57) with ⟨b7, n7⟩ | ⟨b7, n7⟩
 refine wL hs hI [(5, rg [] [3, 4, 1005, 7, 8, 9, 10] [1011]), (6, rg [] [3, 4, 5, 6, 7, 8, 9, 10, 11, 12, 13, 14, 15, 16, 1017] [1010, 1016])] (bz 1 1) 12176666666673373377733733777778296666177337777782607098 [q4 (i : Int) s.size, q1 b2, q1 b2, q1 b2, q1 b3, q1 b3, q1 b3, q4 (i : Int) s.size, q1 b3, q1 b3, q1 (ng0 b4), q1 (ng0 b4), q1 (ng0 b4), q1 b5, q1 b5, q1 b5, q4 (i : Int) s.size, q1 b5, q1 (ng0 b4), q1 b5, q1 (ng0 b4), q1 b6, q1 b6, q1 b6, q4 (i : Int) s.size, q1 b6, q1 (ng0 b4), q1 b6, q1 (ng0 b4), q1 b7] .ret [(2, vb false)] [] tv fun a w hs => ?_
 refine then_ret ?_
 refine inb_ret ?_
 refine then_ret ?_
 exact rK (.val (vb false)) [] hs (by rw [nameF_no (s := s) (i := i) (by omega) (by simp only [nameOk, b1, b2, b3, b4, b5, b6, b7]; rfl)])
 refine wL hs hI [(5, rg [] [3, 4, 1005, 7, 8, 9, 10] [1011]), (6, rg [] [3, 4, 5, 6, 7, 8, 9, 10, 11, 12, 13, 14, 15, 16, 1017] [1010, 1016])] (bz 1 0) 172676666666673373377733733777778296666177337777782607098 [q4 (i : Int) s.size, q1 b2, q1 b2, q1 b2, q1 b3, q1 b3, q1 b3, q4 (i : Int) s.size, q1 b3, q1 b3, q1 (ng0 b4), q1 (ng0 b4), q1 (ng0 b4), q1 b5, q1 b5, q1 b5, q4 (i : Int) s.size, q1 b5, q1 (ng0 b4), q1 b5, q1 (ng0 b4), q1 b6, q1 b6, q1 b6, q4 (i : Int) s.size, q1 b6, q1 (ng0 b4), q1 b6, q1 (ng0 b4), q1 b7, q3 ((i : Int) + 1)] .norm [(0, vs s), (7, vi (s.size : Int)), (8, vi ((i : Int) + 1))] [] tv fun a w hs => ?_
 refine then_norm ⟨i + 1, ⟨by omega, fun j hj => by rcases Nat.lt_succ_iff_lt_or_eq.1 hj with h | rfl; exact hall j h; simp only [nameOk, b1, b2, b3, b4, b5, b6, b7]; rfl⟩, by omega, ?_⟩
 exact hs.rk []
 rcases bq (byteAt s (i : Int)) (95) with ⟨b8, n8⟩ | ⟨b8, n8⟩
 refine wL hs hI [(5, rg [] [7, 8, 9, 10] [3, 4, 1005, 1011]), (6, rg [] [] [3, 4, 5, 10, 11, 16, 1017])] (bz 1 0) 1726796666738738733826666177337773382607098 [q4 (i : Int) s.size, q1 b2, q1 b2, q1 b2, q0 false, q0 false, q0 false, q4 (i : Int) s.size, q0 false, q0 false, q1 (ng1 b8), q1 (ng1 b8), q1 (ng1 b8), q1 (ng1 b8), q1 (ng1 b8), q1 (ng1 b8), q1 (ng1 b8), q0 false, q3 ((i : Int) + 1)] .norm [(0, vs s), (7, vi (s.size : Int)), (8, vi ((i : Int) + 1))] [] tv fun a w hs => ?_
 refine then_norm ⟨i + 1, ⟨by omega, fun j hj => by rcases Nat.lt_succ_iff_lt_or_eq.1 hj with h | rfl; exact hall j h; simp only [nameOk, b1, b2, b8]; rfl⟩, by omega, ?_⟩
 exact hs.rk []
 rcases bq (i : Int) (0) with ⟨b9, n9⟩ | ⟨b9, n9⟩
 refine wL hs hI [(5, rg [] [7, 8, 9, 10] [3, 4, 1005, 1011]), (6, rg [] [3, 4, 5, 10, 1010, 11, 16, 1016, 1017] [6, 7, 8, 9, 12, 13, 14, 15])] (bz 1 1) 121766666673333337333333777826666177337773382607098 [q4 (i : Int) s.size, q1 b2, q1 b2, q1 b2, q0 false, q0 false, q0 false, q4 (i : Int) s.size, q0 false, q0 false, q1 (ng0 b8), q1 (ng0 b8), q1 (ng0 b8), q1 b9, q1 b9, q1 b9, q1 b9, q1 (ng0 b8), q1 b9, q1 (ng0 b8), q0 true, q0 true, q0 true, q0 true, q1 (ng0 b8), q0 true, q1 (ng0 b8), q0 true] .ret [(2, vb false)] [] tv fun a w hs => ?_
 refine then_ret ?_
 refine inb_ret ?_
 refine then_ret ?_
 exact rK (.val (vb false)) [] hs (by rw [nameF_no (s := s) (i := i) (by omega) (by simp only [nameOk, b1, b2, b8, b9]; rfl)])
 rcases bd ((byteAt s (i : Int)) < 48) with ⟨b10, n10⟩ | ⟨b10, n10⟩
 refine wL hs hI [(5, rg [] [7, 8, 9, 10] [3, 4, 1005, 1011]), (6, rg [] [3, 4, 5, 6, 7, 8, 9, 10, 11, 16, 1016, 1017] [1010, 12, 13, 14, 15])] (bz 1 1) 12176666666733333373373377777826666177337773382607098 [q4 (i : Int) s.size, q1 b2, q1 b2, q1 b2, q0 false, q0 false, q0 false, q4 (i : Int) s.size, q0 false, q0 false, q1 (ng0 b8), q1 (ng0 b8), q1 (ng0 b8), q1 b9, q1 b9, q1 b9, q4 (i : Int) s.size, q1 b9, q1 (ng0 b8), q1 b9, q1 (ng0 b8), q1 b10, q1 b10, q1 b10, q1 b10, q1 (ng0 b8), q1 b10, q1 (ng0 b8), q0 true] .ret [(2, vb false)] [] tv fun a w hs => ?_
 refine then_ret ?_
 refine inb_ret ?_
 refine then_ret ?_
 exact rK (.val (vb false)) [] hs (by rw [nameF_no (s := s) (i := i) (by omega) (by simp only [nameOk, b1, b2, b8, b9, b10]; rfl)])
 rcases bd ((byteAt s (i : Int)) > 57) with ⟨b11, n11⟩ | ⟨b11, n11⟩
 refine wL hs hI [(5, rg [] [7, 8, 9, 10] [3, 4, 1005, 1011]), (6, rg [] [3, 4, 5, 6, 7, 8, 9, 10, 11, 12, 13, 14, 15, 16, 1017] [1010, 1016])] (bz 1 1) 1217666666667337337773373377777826666177337773382607098 [q4 (i : Int) s.size, q1 b2, q1 b2, q1 b2, q0 false, q0 false, q0 false, q4 (i : Int) s.size, q0 false, q0 false, q1 (ng0 b8), q1 (ng0 b8), q1 (ng0 b8), q1 b9, q1 b9, q1 b9, q4 (i : Int) s.size, q1 b9, q1 (ng0 b8), q1 b9, q1 (ng0 b8), q1 b10, q1 b10, q1 b10, q4 (i : Int) s.size, q1 b10, q1 (ng0 b8), q1 b10, q1 (ng0 b8), q1 b11] .ret [(2, vb false)] [] tv fun a w hs => ?_
 refine then_ret ?_
 refine inb_ret ?_
 refine then_ret ?_
 exact rK (.val (vb false)) [] hs (by rw [nameF_no (s := s) (i := i) (by omega) (by simp only [nameOk, b1, b2, b8, b9, b10, b11]; rfl)])
 refine wL hs hI [(5, rg [] [7, 8, 9, 10] [3, 4, 1005, 1011]), (6, rg [] [3, 4, 5, 6, 7, 8, 9, 10, 11, 12, 13, 14, 15, 16, 1017] [1010, 1016])] (bz 1 0) 17267666666667337337773373377777826666177337773382607098 [q4 (i : Int) s.size, q1 b2, q1 b2, q1 b2, q0 false, q0 false, q0 false, q4 (i : Int) s.size, q0 false, q0 false, q1 (ng0 b8), q1 (ng0 b8), q1 (ng0 b8), q1 b9, q1 b9, q1 b9, q4 (i : Int) s.size, q1 b9, q1 (ng0 b8), q1 b9, q1 (ng0 b8), q1 b10, q1 b10, q1 b10, q4 (i : Int) s.size, q1 b10, q1 (ng0 b8), q1 b10, q1 (ng0 b8), q1 b11, q3 ((i : Int) + 1)] .norm [(0, vs s), (7, vi (s.size : Int)), (8, vi ((i : Int) + 1))] [] tv fun a w hs => ?_
 refine then_norm ⟨i + 1, ⟨by omega, fun j hj => by rcases Nat.lt_succ_iff_lt_or_eq.1 hj with h | rfl; exact hall j h; simp only [nameOk, b1, b2, b8, b9, b10, b11]; rfl⟩, by omega, ?_⟩
 exact hs.rk []
 refine wN hs hI (bz 1 0) 7 [q1 b1] (.exit 0) [(0, vs s)] [] fun a w hs => ?_
 refine then_exit ?_
 refine then_exit ?_
 refine inb_hit ?_
 refine then_norm ?_
 rcases bq (s.toList) ((ba []).toList) with ⟨b12, n12⟩ | ⟨b12, n12⟩
 refine wL hs hI [(9, rg [] [] [3, 4, 5, 1006])] [] 166173338 [q1 (ng1 b12), q1 (ng1 b12), q1 (ng1 b12), q1 (ng1 b12)] .ret [(2, vb false)] [] tv fun a w hs => ?_
 exact rK (.val (vb false)) [] hs (by rw [nameF_yes (s := s) (fun j hj => hall j (by omega)), ← ba_nil_ne]; simp only [b1, b12]; try rfl)
 refine wL hs hI [(9, rg [] [3, 4, 5, 1006] [])] [] 12966177778 [q1 (ng0 b12), q1 (ng0 b12), q1 (ng0 b12), q1 (ng0 b12)] .ret [(2, vb (decide ((s.size : Int) ≤ 2000)))] [] tv fun a w hs => ?_
 exact rK (.val (vb (decide ((s.size : Int) ≤ 2000)))) [] hs (by rw [nameF_yes (s := s) (fun j hj => hall j (by omega)), ← ba_nil_ne]; simp only [b1, b12]; try rfl)
def idxF {α : Type} (q : α → Bool) : List α → Int
 | [] => -1
 | x :: l => if q x = true then 0 else if idxF q l < 0 then -1 else idxF q l + 1
theorem idxF_no {α : Type} {q : α → Bool} : ∀ {l : List α}, (∀ j, j < l.length → ∀ d, q (l.getD j d) = false) → idxF q l = -1
 | [], _ => rfl
 | x :: l, h => by
  have h0 : q x = false := h 0 (by simp) x
  have h1 := idxF_no (l := l) (fun j hj d => h (j + 1) (by simpa using hj) d)
  simp [idxF, h0, h1]
theorem idxF_at {α : Type} {q : α → Bool} : ∀ {l : List α} {i : Nat} (d : α), i < l.length → q (l.getD i d) = true → (∀ j, j < i → ∀ d, q (l.getD j d) = false) → idxF q l = (i : Int)
 | [], _, _, h, _, _ => by simp at h
 | x :: l, 0, d, h, hq, _ => by
  have hq' : q x = true := hq
  simp [idxF, hq']
 | x :: l, i + 1, d, h, hq, hn => by
  have h0 : q x = false := hn 0 (by omega) x
  have h1 := idxF_at (l := l) (i := i) d (by simpa using h) hq (fun j hj d => hn (j + 1) (by omega) d)
  simp only [idxF, h0, h1]
  rw [if_neg (by decide), if_neg (by omega)]
  omega
theorem idxF_any {α : Type} (q : α → Bool) : ∀ l : List α, decide (idxF q l ≥ 0) = l.any q
 | [] => rfl
 | x :: l => by
  have h1 := idxF_any q l
  by_cases hq : q x = true
  have e : idxF q (x :: l) = 0 := by simp [idxF, hq]
  rw [decide_eq_true (by omega), List.any_cons, hq]; rfl
  have hq' : q x = false := by simpa using hq
  by_cases hn : idxF q l < 0
  have e : idxF q (x :: l) = -1 := by simp [idxF, hq', hn]
  rw [List.any_cons, ← h1, hq', decide_eq_false (by omega), decide_eq_false (by omega)]; rfl
  have e : idxF q (x :: l) = idxF q l + 1 := by simp [idxF, hq', hn]
  rw [List.any_cons, ← h1, hq', decide_eq_true (by omega), decide_eq_true (by omega)]; rfl
theorem getD_mem {α : Type} {l : List α} {i : Nat} (h : i < l.length) (d : α) : l.getD i d ∈ l := by
 rw [List.getD_eq_getElem?_getD, List.getElem?_eq_getElem h]; exact List.getElem_mem h
theorem getD_any {α : Type} {l : List α} {i : Nat} (h : i < l.length) (d d' : α) : l.getD i d = l.getD i d' := by
 rw [List.getD_eq_getElem?_getD, List.getD_eq_getElem?_getD, List.getElem?_eq_getElem h]; rfl
def small (s : ByteArray) : Prop := s.size < 4294967281
def badPath (p : List ByteArray) : Bool := ((p.length : Int) == 0) || (decide ((p.length : Int) > 63) || p.any fun n => !nameF n)
def checkF (l : List (List ByteArray)) : Bool := decide ((l.length : Int) ≤ 60) && !(l.any badPath)
theorem con84 (s : ByteArray) (hs0 : s.size < 4294967281) : Con Tryz.prog I0 84 [vs s] (.val (vb (!nameF s))) := by
 refine con_of Tryz.func84 rfl (Nat.le_of_ble_eq_true rfl) stab (fun w0 fz a hI hs => ?_)
 refine wL hs hI [(1, rc [(1, ciV 37 [vs s] (vb (nameF s)))])] [] 1684120 [] .ret [(2, vb (!(nameF s)))] [] ⟨con37 _ (by assumption), tv⟩ fun a w hs => ?_
 exact rK (.val (vb (!(nameF s)))) [] hs rfl
theorem con91 (s : ByteArray) (hs0 : s.size < 4294967281) : Con Tryz.prog I0 91 [vs s] (.val (vb (!nameF s))) := by
 refine con_of Tryz.func91 rfl (Nat.le_of_ble_eq_true rfl) stab (fun w0 fz a hI hs => ?_)
 refine wL hs hI [(1, rc [(1, ciV 37 [vs s] (vb (nameF s)))])] [] 1684120 [] .ret [(2, vb (!(nameF s)))] [] ⟨con37 _ (by assumption), tv⟩ fun a w hs => ?_
 exact rK (.val (vb (!(nameF s)))) [] hs rfl
theorem con140_84 (xs : List ByteArray) (hxs : ∀ x ∈ xs, small x) (hlen : xs.length < 4294967281) : Con Tryz.prog I0 140 [.row .str xs, .lit (.func (.func 84) #[] #[])] (.val (vi (idxF (fun n => !nameF n) xs))) := by
 refine con_of Tryz.func140 rfl (Nat.le_of_ble_eq_true rfl) stab (fun w0 fz a hI hs => ?_)
 refine wNs hs hI [] 11 [] [(0, rwS xs), (1, .lit (.func (.func 84) #[] #[]))] [] fun a w hs => ?_
 refine wp_seq ?_
 refine wNs hs hI [] 18 [] [(0, rwS xs), (1, .lit (.func (.func 84) #[] #[])), (7, vi (xs.length : Int)), (8, vi 0)] [] fun a w hs => ?_
 refine wp_block ?_
 refine loop_L (N := Tryz.f140.ntmps) (w0 := w0) (ow := noO fz) (α := Nat) (fun p => [(0, rwS xs), (1, .lit (.func (.func 84) #[] #[])), (7, vi (xs.length : Int)), (8, vi (p : Int))]) (fun p => []) (fun p => p ≤ xs.length ∧ ∀ j, j < p → ∀ d, (fun n => !nameF n) (xs.getD j d) = false) (fun p => xs.length - p) 0 ?_ ?_ ?_
 exact ⟨Nat.zero_le _, fun j hj => absurd hj (Nat.not_lt_zero _)⟩
 exact hs.rk []
 rintro i hJ a w hs
 obtain ⟨hi, hall⟩ := hJ
 rcases bd ((i : Int) < (xs.length : Int)) with ⟨b1, n1⟩ | ⟨b1, n1⟩
 rcases bt (!nameF (xs.getD i (dflt .str))) with b2 | b2
 refine wL hs hI [(4, rc [(5, ciV 84 [vs (xs.getD i (dflt .str))] (vb (!nameF (xs.getD i (dflt .str)))))])] (bz 2 3) 1907961478982720 [q1 b1, q4 (i : Int) xs.length, q1 b2] .ret [(4, vi (i : Int))] [] ⟨con84 _ (hxs _ (getD_mem (by omega) _)), tv⟩ fun a w hs => ?_
 refine then_ret ?_
 refine inb_ret ?_
 refine then_ret ?_
 exact rK (.val (vi (i : Int))) [] hs (by rw [idxF_at (q := (fun n => !nameF n)) (i := i) (dflt .str) (by omega) (by first | exact b2 | (simp only [b2]; rfl)) (fun j hj d => hall j hj d)])
 refine wL hs hI [(4, rc [(5, ciV 84 [vs (xs.getD i (dflt .str))] (vb (!nameF (xs.getD i (dflt .str)))))])] (bz 2 1) 17297961478982720 [q1 b1, q4 (i : Int) xs.length, q1 b2, q3 ((i : Int) + 1)] .norm [(0, rwS xs), (1, .lit (.func (.func 84) #[] #[])), (7, vi (xs.length : Int)), (8, vi ((i : Int) + 1))] [] ⟨con84 _ (hxs _ (getD_mem (by omega) _)), tv⟩ fun a w hs => ?_
 refine then_norm ⟨i + 1, ⟨by omega, fun j hj d => by rcases Nat.lt_succ_iff_lt_or_eq.1 hj with h | h; exact hall j h d; subst h; rw [getD_any (by omega) d (dflt .str)]; exact b2⟩, by omega, ?_⟩
 exact hs.rk []
 refine wN hs hI (bz 1 0) 720 [q1 b1] (.exit 0) [] [] fun a w hs => ?_
 refine then_exit ?_
 refine inb_hit ?_
 refine then_norm ?_
 refine wN hs hI [] 120 [] .ret [(4, vi (-1))] [] fun a w hs => ?_
 exact rK (.val (vi (-1))) [] hs (by rw [idxF_no (q := (fun n => !nameF n)) (fun j hj d => hall j (by omega) d)])
theorem con83_84 (xs : List ByteArray) (hxs : ∀ x ∈ xs, small x) (hlen : xs.length < 4294967281) : Con Tryz.prog I0 83 [.row .str xs, .lit (.func (.func 84) #[] #[])] (.val (vb (xs.any (fun n => !nameF n)))) := by
 refine con_of Tryz.func83 rfl (Nat.le_of_ble_eq_true rfl) stab (fun w0 fz a hI hs => ?_)
 refine wL hs hI [(1, rc [(2, ciV 140 [rwS xs, .lit (.func (.func 84) #[] #[])] (vi (idxF (fun n => !nameF n) xs)))])] [] 12684020 [] .ret [(4, vb (decide ((idxF (fun n => !nameF n) xs) ≥ 0)))] [] ⟨con140_84 _ hxs hlen, tv⟩ fun a w hs => ?_
 exact rK (.val (vb (decide ((idxF (fun n => !nameF n) xs) ≥ 0)))) [] hs (by rw [← idxF_any])
theorem con140_91 (xs : List ByteArray) (hxs : ∀ x ∈ xs, small x) (hlen : xs.length < 4294967281) : Con Tryz.prog I0 140 [.row .str xs, .lit (.func (.func 91) #[] #[])] (.val (vi (idxF (fun n => !nameF n) xs))) := by
 refine con_of Tryz.func140 rfl (Nat.le_of_ble_eq_true rfl) stab (fun w0 fz a hI hs => ?_)
 refine wNs hs hI [] 11 [] [(0, rwS xs), (1, .lit (.func (.func 91) #[] #[]))] [] fun a w hs => ?_
 refine wp_seq ?_
 refine wNs hs hI [] 18 [] [(0, rwS xs), (1, .lit (.func (.func 91) #[] #[])), (7, vi (xs.length : Int)), (8, vi 0)] [] fun a w hs => ?_
 refine wp_block ?_
 refine loop_L (N := Tryz.f140.ntmps) (w0 := w0) (ow := noO fz) (α := Nat) (fun p => [(0, rwS xs), (1, .lit (.func (.func 91) #[] #[])), (7, vi (xs.length : Int)), (8, vi (p : Int))]) (fun p => []) (fun p => p ≤ xs.length ∧ ∀ j, j < p → ∀ d, (fun n => !nameF n) (xs.getD j d) = false) (fun p => xs.length - p) 0 ?_ ?_ ?_
 exact ⟨Nat.zero_le _, fun j hj => absurd hj (Nat.not_lt_zero _)⟩
 exact hs.rk []
 rintro i hJ a w hs
 obtain ⟨hi, hall⟩ := hJ
 rcases bd ((i : Int) < (xs.length : Int)) with ⟨b1, n1⟩ | ⟨b1, n1⟩
 rcases bt (!nameF (xs.getD i (dflt .str))) with b2 | b2
 refine wL hs hI [(4, rc [(5, ciV 91 [vs (xs.getD i (dflt .str))] (vb (!nameF (xs.getD i (dflt .str)))))])] (bz 2 3) 1907961478982720 [q1 b1, q4 (i : Int) xs.length, q1 b2] .ret [(4, vi (i : Int))] [] ⟨con91 _ (hxs _ (getD_mem (by omega) _)), tv⟩ fun a w hs => ?_
 refine then_ret ?_
 refine inb_ret ?_
 refine then_ret ?_
 exact rK (.val (vi (i : Int))) [] hs (by rw [idxF_at (q := (fun n => !nameF n)) (i := i) (dflt .str) (by omega) (by first | exact b2 | (simp only [b2]; rfl)) (fun j hj d => hall j hj d)])
 refine wL hs hI [(4, rc [(5, ciV 91 [vs (xs.getD i (dflt .str))] (vb (!nameF (xs.getD i (dflt .str)))))])] (bz 2 1) 17297961478982720 [q1 b1, q4 (i : Int) xs.length, q1 b2, q3 ((i : Int) + 1)] .norm [(0, rwS xs), (1, .lit (.func (.func 91) #[] #[])), (7, vi (xs.length : Int)), (8, vi ((i : Int) + 1))] [] ⟨con91 _ (hxs _ (getD_mem (by omega) _)), tv⟩ fun a w hs => ?_
 refine then_norm ⟨i + 1, ⟨by omega, fun j hj d => by rcases Nat.lt_succ_iff_lt_or_eq.1 hj with h | h; exact hall j h d; subst h; rw [getD_any (by omega) d (dflt .str)]; exact b2⟩, by omega, ?_⟩
 exact hs.rk []
 refine wN hs hI (bz 1 0) 720 [q1 b1] (.exit 0) [] [] fun a w hs => ?_
 refine then_exit ?_
 refine inb_hit ?_
 refine then_norm ?_
 refine wN hs hI [] 120 [] .ret [(4, vi (-1))] [] fun a w hs => ?_
 exact rK (.val (vi (-1))) [] hs (by rw [idxF_no (q := (fun n => !nameF n)) (fun j hj d => hall j (by omega) d)])
theorem con83_91 (xs : List ByteArray) (hxs : ∀ x ∈ xs, small x) (hlen : xs.length < 4294967281) : Con Tryz.prog I0 83 [.row .str xs, .lit (.func (.func 91) #[] #[])] (.val (vb (xs.any (fun n => !nameF n)))) := by
 refine con_of Tryz.func83 rfl (Nat.le_of_ble_eq_true rfl) stab (fun w0 fz a hI hs => ?_)
 refine wL hs hI [(1, rc [(2, ciV 140 [rwS xs, .lit (.func (.func 91) #[] #[])] (vi (idxF (fun n => !nameF n) xs)))])] [] 12684020 [] .ret [(4, vb (decide ((idxF (fun n => !nameF n) xs) ≥ 0)))] [] ⟨con140_91 _ hxs hlen, tv⟩ fun a w hs => ?_
 exact rK (.val (vb (decide ((idxF (fun n => !nameF n) xs) ≥ 0)))) [] hs (by rw [← idxF_any])
theorem con90 (xs : List ByteArray) (hxs : ∀ x ∈ xs, small x) (hlen : xs.length < 4294967281) : Con Tryz.prog I0 90 [.row .str xs] (.val (vb (badPath xs))) := by
 refine con_of Tryz.func90 rfl (Nat.le_of_ble_eq_true rfl) stab (fun w0 fz a hI hs => ?_)
 rcases bq (xs.length : Int) (0) with ⟨b1, n1⟩ | ⟨b1, n1⟩
 refine wL hs hI [(1, rg [] [1007, 1011] [4, 5, 6, 9, 10])] [] 12666173373331820 [q1 b1, q1 b1, q1 b1, q1 b1, q0 true, q0 true, q0 true] .ret [(2, vb true)] [] tv fun a w hs => ?_
 exact rK (.val (vb true)) [] hs (by simp only [badPath, b1]; try rfl)
 rcases bd ((xs.length : Int) > 63) with ⟨b2, n2⟩ | ⟨b2, n2⟩
 refine wL hs hI [(1, rg [] [4, 5, 6, 1011] [1007, 9, 10])] [] 16666173377771820 [q1 b1, q1 b1, q1 b1, q1 b1, q1 b2, q1 b2, q1 b2] .ret [(2, vb true)] [] tv fun a w hs => ?_
 exact rK (.val (vb true)) [] hs (by simp only [badPath, b1, b2]; try rfl)
 refine wL hs hI [(1, rg [(10, ciV 83 [rwS xs, .lit (.func (.func 91) #[] #[])] (vb (xs.any (fun n => !nameF n))))] [4, 5, 6, 9, 10] [1007, 1011])] [] 1966661743777771820 [q1 b1, q1 b1, q1 b1, q1 b1, q1 b2, q1 b2, q1 b2] .ret [(2, vb (xs.any (fun n => !nameF n)))] [] ⟨con83_91 _ hxs hlen, tv⟩ fun a w hs => ?_
 exact rK (.val (vb (xs.any (fun n => !nameF n)))) [] hs (by simp only [badPath, b1, b2]; try rfl)
def smalls (p : List ByteArray) : Prop := (∀ x ∈ p, small x) ∧ p.length < 4294967281
theorem con146 (xs : List (List ByteArray)) (hxs : ∀ x ∈ xs, smalls x) (hlen : xs.length < 4294967281) : Con Tryz.prog I0 146 [.row .strs xs, .lit (.func (.func 90) #[] #[])] (.val (vi (idxF badPath xs))) := by
 refine con_of Tryz.func146 rfl (Nat.le_of_ble_eq_true rfl) stab (fun w0 fz a hI hs => ?_)
 refine wNs hs hI [] 11 [] [(0, .row .strs xs), (1, .lit (.func (.func 90) #[] #[]))] [] fun a w hs => ?_
 refine wp_seq ?_
 refine wNs hs hI [] 18 [] [(0, .row .strs xs), (1, .lit (.func (.func 90) #[] #[])), (7, vi (xs.length : Int)), (8, vi 0)] [] fun a w hs => ?_
 refine wp_block ?_
 refine loop_L (N := Tryz.f146.ntmps) (w0 := w0) (ow := noO fz) (α := Nat) (fun p => [(0, .row .strs xs), (1, .lit (.func (.func 90) #[] #[])), (7, vi (xs.length : Int)), (8, vi (p : Int))]) (fun p => []) (fun p => p ≤ xs.length ∧ ∀ j, j < p → ∀ d, badPath (xs.getD j d) = false) (fun p => xs.length - p) 0 ?_ ?_ ?_
 exact ⟨Nat.zero_le _, fun j hj => absurd hj (Nat.not_lt_zero _)⟩
 exact hs.rk []
 rintro i hJ a w hs
 obtain ⟨hi, hall⟩ := hJ
 rcases bd ((i : Int) < (xs.length : Int)) with ⟨b1, n1⟩ | ⟨b1, n1⟩
 rcases bt (badPath (xs.getD i (dflt .strs))) with b2 | b2
 refine wL hs hI [(4, rc [(5, ciV 90 [rwS (xs.getD i (dflt .strs))] (vb (badPath (xs.getD i (dflt .strs)))))])] (bz 2 3) 1907961478982720 [q1 b1, q4 (i : Int) xs.length, q1 b2] .ret [(4, vi (i : Int))] [] ⟨con90 _ (hxs _ (getD_mem (by omega) _)).1 (hxs _ (getD_mem (by omega) _)).2, tv⟩ fun a w hs => ?_
 refine then_ret ?_
 refine inb_ret ?_
 refine then_ret ?_
 exact rK (.val (vi (i : Int))) [] hs (by rw [idxF_at (q := badPath) (i := i) (dflt .strs) (by omega) b2 (fun j hj d => hall j hj d)])
 refine wL hs hI [(4, rc [(5, ciV 90 [rwS (xs.getD i (dflt .strs))] (vb (badPath (xs.getD i (dflt .strs)))))])] (bz 2 1) 17297961478982720 [q1 b1, q4 (i : Int) xs.length, q1 b2, q3 ((i : Int) + 1)] .norm [(0, .row .strs xs), (1, .lit (.func (.func 90) #[] #[])), (7, vi (xs.length : Int)), (8, vi ((i : Int) + 1))] [] ⟨con90 _ (hxs _ (getD_mem (by omega) _)).1 (hxs _ (getD_mem (by omega) _)).2, tv⟩ fun a w hs => ?_
 refine then_norm ⟨i + 1, ⟨by omega, fun j hj d => by rcases Nat.lt_succ_iff_lt_or_eq.1 hj with h | h; exact hall j h d; subst h; rw [getD_any (by omega) d (dflt .strs)]; exact b2⟩, by omega, ?_⟩
 exact hs.rk []
 refine wN hs hI (bz 1 0) 720 [q1 b1] (.exit 0) [] [] fun a w hs => ?_
 refine then_exit ?_
 refine inb_hit ?_
 refine then_norm ?_
 refine wN hs hI [] 120 [] .ret [(4, vi (-1))] [] fun a w hs => ?_
 exact rK (.val (vi (-1))) [] hs (by rw [idxF_no (q := badPath) (fun j hj d => hall j (by omega) d)])
theorem con89 (xs : List (List ByteArray)) (hxs : ∀ x ∈ xs, smalls x) (hlen : xs.length < 4294967281) : Con Tryz.prog I0 89 [.row .strs xs, .lit (.func (.func 90) #[] #[])] (.val (vb (xs.any badPath))) := by
 refine con_of Tryz.func89 rfl (Nat.le_of_ble_eq_true rfl) stab (fun w0 fz a hI hs => ?_)
 refine wL hs hI [(1, rc [(2, ciV 146 [.row .strs xs, .lit (.func (.func 90) #[] #[])] (vi (idxF badPath xs)))])] [] 12684020 [] .ret [(4, vb (decide ((idxF badPath xs) ≥ 0)))] [] ⟨con146 _ hxs hlen, tv⟩ fun a w hs => ?_
 exact rK (.val (vb (decide ((idxF badPath xs) ≥ 0)))) [] hs (by rw [← idxF_any])
theorem con39 (xs : List (List ByteArray)) (hxs : ∀ x ∈ xs, smalls x) (hlen : xs.length < 4294967281) : Con Tryz.prog I0 39 [.row .strs xs] (.val (vb (checkF xs))) := by
 refine con_of Tryz.func39 rfl (Nat.le_of_ble_eq_true rfl) stab (fun w0 fz a hI hs => ?_)
 rcases bd ((xs.length : Int) ≤ 60) with ⟨b1, n1⟩ | ⟨b1, n1⟩
 refine wL hs hI [(1, rg [(5, ciV 89 [.row .strs xs, .lit (.func (.func 90) #[] #[])] (vb (xs.any badPath)))] [4, 5, 6, 1007] [])] [] 16661774371820 [q1 b1, q1 b1, q1 b1, q1 b1] .ret [(2, vb (!(xs.any badPath)))] [] ⟨con89 _ hxs hlen, tv⟩ fun a w hs => ?_
 exact rK (.val (vb (!(xs.any badPath)))) [] hs (by simp only [checkF, b1]; try rfl)
 refine wL hs hI [(1, rg [] [] [4, 5, 6, 1007])] [] 1266173331820 [q1 b1, q1 b1, q1 b1, q1 b1] .ret [(2, vb false)] [] tv fun a w hs => ?_
 exact rK (.val (vb false)) [] hs (by simp only [checkF, b1]; try rfl)
theorem memV_nodes' (t : Tree) (x : ByteArray) : nodes (memV t x) ≤ nodes t := by
 cases h : memB t x with
 | true => exact memV_nodes h
 | false =>
  have h0 : ¬ idxT x (cutK t) ≥ 0 := of_decide_eq_false h
  rw [(memV_neg h0).1, show nodes Tree.zero = 1 from by simp [Tree.zero, nodes, nodesL]]
  have := nodes_eq t; omega
def cmpB (a b : ByteArray) : Int := if Op.bytesLess a.toList b.toList = true then -1 else if gtB a b = true then 1 else 0
def cmpS : List ByteArray → List ByteArray → Int
 | [], [] => 0
 | [], _ :: _ => -1
 | _ :: _, [] => 1
 | x :: xs, y :: ys => if cmpB x y = 0 then cmpS xs ys else cmpB x y
def startsF (a b : List ByteArray) : Bool := decide ((a.length : Int) ≤ (b.length : Int)) && decide (a = b.take a.length)
theorem list_eq {a b : List ByteArray} (hl : a.length = b.length) (h : ∀ j, j < a.length → ∀ d, a.getD j d = b.getD j d) : a = b := by
 refine List.ext_getElem hl (fun i h1 h2 => ?_)
 have := h i h1 (dflt .str)
 rw [List.getD_eq_getElem?_getD, List.getD_eq_getElem?_getD, List.getElem?_eq_getElem h1, List.getElem?_eq_getElem h2] at this
 exact this
theorem con134 (xs ys : List ByteArray) (h : xs.length < 1000000000) (h2 : ys.length < 1000000000) : Con Tryz.prog I0 134 [.row .str xs, .row .str ys] (.val (vb (decide (xs = ys)))) := by
 refine con_of Tryz.func134 rfl (Nat.le_of_ble_eq_true rfl) stab (fun w0 fz a hI hs => ?_)
 refine wNs hs hI [] 11 [] [(0, rwS xs), (1, rwS ys)] [] fun a w hs => ?_
 refine wp_seq ?_
 rcases bt ((xs.length : Int) != (ys.length : Int)) with b1 | b1
 have n1 := bne_iff_ne.1 b1
 refine wN hs hI (bz 1 1) 12172688 [q1 b1] .ret [(4, vb false)] [] fun a w hs => ?_
 refine then_ret ?_
 exact rK (.val (vb false)) [] hs (by rw [decide_eq_false (fun e => by subst e; omega)])
 have n1 := bne_eq_false_iff_eq.1 b1
 refine wN hs hI (bz 1 0) 72688 [q1 b1] .norm [(0, rwS xs), (1, rwS ys)] [] fun a w hs => ?_
 refine then_norm ?_
 refine wp_seq ?_
 refine wNs hs hI [] 18 [] [(0, rwS xs), (1, rwS ys), (12, vi (xs.length : Int)), (13, vi 0)] [] fun a w hs => ?_
 refine wp_block ?_
 refine loop_L (N := Tryz.f134.ntmps) (w0 := w0) (ow := noO fz) (α := Nat) (fun p => [(0, rwS xs), (1, rwS ys), (12, vi (xs.length : Int)), (13, vi (p : Int))]) (fun p => []) (fun p => p ≤ xs.length ∧ ∀ j, j < p → ∀ d, xs.getD j d = ys.getD j d) (fun p => xs.length - p) 0 ?_ ?_ ?_
 exact ⟨Nat.zero_le _, fun j hj => absurd hj (Nat.not_lt_zero _)⟩
 exact (hs.cst [(0, rwS xs), (1, rwS ys), (12, vi (xs.length : Int)), (13, vi ((0 : Nat) : Int))] [] rfl).rk []
 rintro i hJ a w hs
 obtain ⟨hi, hall⟩ := hJ
 rcases bd ((i : Int) < (xs.length : Int)) with ⟨b2, n2⟩ | ⟨b2, n2⟩
 rcases bq ((xs.getD i (dflt .str)).toList) ((ys.getD i (dflt .str)).toList) with ⟨b3, n3⟩ | ⟨b3, n3⟩
 refine wN hs hI (bz 2 1) 1729726607070982720 [q1 b2, q4 (i : Int) xs.length, q4 (i : Int) ys.length, q1 (ng1 b3), q3 ((i : Int) + 1)] .norm [(0, rwS xs), (1, rwS ys), (12, vi (xs.length : Int)), (13, vi ((i : Int) + 1))] [] fun a w hs => ?_
 refine then_norm ⟨i + 1, ⟨by omega, fun j hj d => by rcases Nat.lt_succ_iff_lt_or_eq.1 hj with h | h; exact hall j h d; subst h; rw [getD_any (by omega) d (dflt .str), getD_any (l := ys) (by omega) d (dflt .str)]; exact eqT_iff.1 b3⟩, by omega, ?_⟩
 exact hs.rk []
 refine wN hs hI (bz 2 3) 121726607070982720 [q1 b2, q4 (i : Int) xs.length, q4 (i : Int) ys.length, q1 (ng0 b3)] .ret [(4, vb false)] [] fun a w hs => ?_
 refine then_ret ?_
 refine inb_ret ?_
 refine then_ret ?_
 exact rK (.val (vb false)) [] hs (by rw [decide_eq_false (fun e => by subst e; exact absurd (eqT_self _) (by rw [show eqT _ _ = false from b3]; decide))])
 refine wN hs hI (bz 1 0) 720 [q1 b2] (.exit 0) [] [] fun a w hs => ?_
 refine then_exit ?_
 refine inb_hit ?_
 refine then_norm ?_
 refine wN hs hI [] 120 [] .ret [(4, vb true)] [] fun a w hs => ?_
 exact rK (.val (vb true)) [] hs (by rw [decide_eq_true (list_eq (by omega) (fun j hj d => hall j (by omega) d))])
def ltB (a b : ByteArray) : Prop := a.toList < b.toList
theorem ltB_irrefl (a : ByteArray) : ¬ ltB a a := List.lt_irrefl _
theorem ltB_trans {a b c : ByteArray} (h1 : ltB a b) (h2 : ltB b c) : ltB a c := List.lt_trans h1 h2
theorem toList_inj {a b : ByteArray} (h : a.toList = b.toList) : a = b := eqT_iff.1 (by unfold eqT; rw [h]; simp)
theorem ltB_tri (a b : ByteArray) : ltB a b ∨ a = b ∨ ltB b a := by
 by_cases h1 : a.toList < b.toList
 exact .inl h1
 by_cases h2 : b.toList < a.toList
 exact .inr (.inr h2)
 exact .inr (.inl (toList_inj (List.le_antisymm (List.not_lt.1 h2) (List.not_lt.1 h1))))
theorem ltB_less {a b : ByteArray} : Op.bytesLess a.toList b.toList = true ↔ ltB a b := by rw [bytesLess_eq]; exact decide_eq_true_iff
theorem cmpB_of_lt {a b : ByteArray} (h : ltB a b) : cmpB a b = -1 := if_pos (ltB_less.2 h)
theorem cmpB_self (a : ByteArray) : cmpB a a = 0 := by
 unfold cmpB gtB
 rw [if_neg (fun h => ltB_irrefl a (ltB_less.1 h))]
 simp
theorem cmpB_of_gt {a b : ByteArray} (h : ltB b a) : cmpB a b = 1 := by
 have h1 : ¬ ltB a b := fun h2 => ltB_irrefl _ (ltB_trans h h2)
 have h2 : Op.bytesLess a.toList b.toList = false := by
  cases hb : Op.bytesLess a.toList b.toList with
  | false => rfl
  | true => exact absurd (ltB_less.1 hb) h1
 have h3 : (a.toList == b.toList) = false := by
  cases hb : a.toList == b.toList with
  | false => rfl
  | true =>
   have := toList_inj (eq_of_beq hb)
   subst this; exact absurd h h1
 unfold cmpB gtB
 rw [h2, h3]; rfl
theorem cmpB_neg {a b : ByteArray} : cmpB a b < 0 ↔ ltB a b := by
 rcases ltB_tri a b with h | h | h
 rw [cmpB_of_lt h]; simp [h]
 subst h; rw [cmpB_self]; simp [ltB_irrefl]
 rw [cmpB_of_gt h]; exact ⟨fun h => absurd h (by decide), fun h2 => absurd (ltB_trans h h2) (ltB_irrefl _)⟩
theorem cmpB_zero {a b : ByteArray} : cmpB a b = 0 ↔ a = b := by
 rcases ltB_tri a b with h | h | h
 rw [cmpB_of_lt h]; exact ⟨fun h => absurd h (by decide), fun e => by subst e; exact absurd h (ltB_irrefl _)⟩
 subst h; simp [cmpB_self]
 rw [cmpB_of_gt h]; exact ⟨fun h => absurd h (by decide), fun e => by subst e; exact absurd h (ltB_irrefl _)⟩
theorem cmpB_pos {a b : ByteArray} : 0 < cmpB a b ↔ ltB b a := by
 rcases ltB_tri a b with h | h | h
 rw [cmpB_of_lt h]; exact ⟨fun h => absurd h (by decide), fun h2 => absurd (ltB_trans h h2) (ltB_irrefl _)⟩
 subst h; rw [cmpB_self]; simp [ltB_irrefl]
 rw [cmpB_of_gt h]; simp [h]
theorem cmpS_self : ∀ xs : List ByteArray, cmpS xs xs = 0
 | [] => rfl
 | x :: xs => by rw [cmpS, cmpB_self, if_pos rfl, cmpS_self xs]
theorem cmpS_zero : ∀ {xs ys : List ByteArray}, cmpS xs ys = 0 → xs = ys
 | [], [], _ => rfl
 | [], _ :: _, h => absurd h (by simp [cmpS])
 | _ :: _, [], h => absurd h (by simp [cmpS])
 | x :: xs, y :: ys, h => by
  rw [cmpS] at h
  split at h
  rename_i e
  rw [cmpB_zero.1 e, cmpS_zero h]
  rename_i e; exact absurd h e
theorem cmpS_swap : ∀ (xs ys : List ByteArray), cmpS xs ys < 0 ↔ 0 < cmpS ys xs
 | [], [] => by simp [cmpS]
 | [], _ :: _ => by simp [cmpS]
 | _ :: _, [] => by simp [cmpS]
 | x :: xs, y :: ys => by
  rw [cmpS, cmpS]
  by_cases e : x = y
  subst e
  rw [cmpB_self, if_pos rfl, if_pos rfl]; exact cmpS_swap xs ys
  rw [if_neg (fun h => e (cmpB_zero.1 h)), if_neg (fun h => e (cmpB_zero.1 h).symm), cmpB_neg, cmpB_pos]
theorem cmpS_trans : ∀ {xs ys zs : List ByteArray}, cmpS xs ys < 0 → cmpS ys zs < 0 → cmpS xs zs < 0
 | [], [], _, h, _ => absurd h (by simp [cmpS])
 | _ :: _, [], _, h, _ => absurd h (by simp [cmpS])
 | _, _ :: _, [], _, h => absurd h (by simp [cmpS])
 | [], _ :: _, _ :: _, _, _ => by simp [cmpS]
 | x :: xs, y :: ys, z :: zs, h1, h2 => by
  rw [cmpS] at h1 h2 ⊢
  by_cases e1 : x = y
  subst e1
  rw [cmpB_self, if_pos rfl] at h1
  by_cases e2 : x = z
  subst e2
  rw [cmpB_self, if_pos rfl] at h2 ⊢
  exact cmpS_trans h1 h2
  rw [if_neg (fun h => e2 (cmpB_zero.1 h))] at h2 ⊢
  exact h2
  rw [if_neg (fun h => e1 (cmpB_zero.1 h)), cmpB_neg] at h1
  by_cases e2 : y = z
  subst e2
  rw [if_neg (fun h => e1 (cmpB_zero.1 h)), cmpB_neg]; exact h1
  rw [if_neg (fun h => e2 (cmpB_zero.1 h)), cmpB_neg] at h2
  have h3 := ltB_trans h1 h2
  rw [if_neg (fun h => by rw [cmpB_zero.1 h] at h3; exact ltB_irrefl _ h3), cmpB_neg]; exact h3
theorem cmpS_le_trans {xs ys zs : List ByteArray} (h1 : ¬ cmpS xs ys < 0) (h2 : ¬ cmpS ys zs < 0) : ¬ cmpS xs zs < 0 := by
 intro h
 rcases Int.lt_trichotomy (cmpS xs ys) 0 with a | a | a
 exact h1 a
 rw [cmpS_zero a] at h; exact h2 h
 have := cmpS_trans ((cmpS_swap _ _).2 a) h
 exact h2 this
theorem cmpS_anti {xs ys : List ByteArray} (h1 : ¬ cmpS xs ys < 0) (h2 : ¬ cmpS ys xs < 0) : xs = ys := by
 rcases Int.lt_trichotomy (cmpS xs ys) 0 with a | a | a
 exact absurd a h1
 exact cmpS_zero a
 exact absurd ((cmpS_swap _ _).2 a) h2
open Go.Proofs Go.Sort
def sortP (l : List (List ByteArray)) : List (List ByteArray) := l.mergeSort (fun x y => !decide (cmpS y x < 0))
structure It (w : World) (fz : Nat → Prop) (η : Nat → Option Value) where
 v : Value
 xs : List ByteArray
 hr : R w fz η v (.row .str xs)
 len : xs.length < 1000000000
section
variable {w : World} {fz : Nat → Prop} {η : Nat → Option Value}
instance : Inhabited (It w fz η) := ⟨⟨.slice none 0 0, [], .row none 0 .str [] (fun _ _ => .bool false) (Nat.le_refl _) (Nat.zero_le _) (fun i x h => by simp at h) (fun i x j y h => by simp at h), by decide⟩⟩
theorem its : ∀ (xs : List (List ByteArray)) (cs : List Value), cs.length = xs.length → (∀ (i : Nat) (x : List ByteArray) (v : Value), xs[i]? = some x → cs[i]? = some v → R w fz η v (.row .str x)) → (∀ x ∈ xs, x.length < 1000000000) → ∃ l : List (It w fz η), l.map It.v = cs ∧ l.map It.xs = xs
 | [], [], _, _, _ => ⟨[], rfl, rfl⟩
 | [], _ :: _, h, _, _ => by simp at h
 | _ :: _, [], h, _, _ => by simp at h
 | x :: xs, c :: cs, h, hr, hl => by
  obtain ⟨l, h1, h2⟩ := its xs cs (by simpa using h) (fun i x v hx hv => hr (i + 1) x v (by simpa using hx) (by simpa using hv)) (fun x hx => hl x (by simp [hx]))
  exact ⟨⟨c, x, hr 0 x c rfl rfl, hl x (by simp)⟩ :: l, by simp [h1], by simp [h2]⟩
end
def textOk (s : ByteArray) : Bool := decide ((s.size : Int) ≤ 2000) && X.validAt s s.size 0
theorem con215 (s : ByteArray) : Con Tryz.prog I0 215 [vs s] (.val (vb (textOk s))) := by
 refine con_of Tryz.func215 rfl (Nat.le_of_ble_eq_true rfl) stab (fun w0 fz a hI hs => ?_)
 rcases bd ((s.size : Int) ≤ 2000) with ⟨b1, n1⟩ | ⟨b1, n1⟩
 refine wL hs hI [(1, rg [(5, ciV 249 [vs s] (vb (X.validAt s s.size 0)))] [4, 5, 1006] [])] [] 1966174371820 [q1 b1, q1 b1, q1 b1] .ret [(2, vb (X.validAt s s.size 0))] [] ⟨conValid _ rfl, tv⟩ fun a w hs => ?_
 exact rK (.val (vb (X.validAt s s.size 0))) [] hs (by simp only [textOk]; rw [b1]; rfl)
 refine wL hs hI [(1, rg [] [] [4, 5, 1006])] [] 16617331820 [q1 b1, q1 b1, q1 b1] .ret [(2, vb false)] [] tv fun a w hs => ?_
 exact rK (.val (vb false)) [] hs (by simp only [textOk]; rw [b1]; rfl)
def nmOk (l : List ByteArray) (i : Nat) : Bool := textOk (l.getD i (dflt .str)) && (!(decide ((i : Int) > 0)) || Op.bytesLess (l.getD ((i : Int) - 1).toNat (dflt .str)).toList (l.getD i (dflt .str)).toList)
def namesOk (l : List ByteArray) : Bool := (List.range l.length).all (nmOk l) && decide ((l.length : Int) ≤ 300)
theorem all_no' {n : Nat} {q : Nat → Bool} {i : Nat} (h : i < n) (hn : q i = false) : (List.range n).all q = false := List.all_eq_false.2 ⟨i, by simpa using h, by simp [hn]⟩
theorem all_yes' {n : Nat} {q : Nat → Bool} (h : ∀ j, j < n → q j = true) : (List.range n).all q = true := List.all_eq_true.2 (fun j hj => h j (by simpa using hj))
theorem con216 (l : List ByteArray) (hl : l.length < 4611686018427387904) : Con Tryz.prog I0 216 [.row .str l] (.val (vb (namesOk l))) := by
 refine con_of Tryz.func216 rfl (Nat.le_of_ble_eq_true rfl) stab (fun w0 fz a hI hs => ?_)
 refine wNs hs hI [] 11 [] [(0, rwS l)] [] fun a w hs => ?_
 refine wp_seq ?_
 refine wNs hs hI [] 18 [] [(0, rwS l), (5, rwS l), (6, vi (l.length : Int)), (7, vi 0)] [] fun a w hs => ?_
 refine wp_block ?_
 refine loop_L (N := Tryz.f216.ntmps) (w0 := w0) (ow := noO fz) (α := Nat) (fun p => [(0, rwS l), (5, rwS l), (6, vi (l.length : Int)), (7, vi (p : Int))]) (fun p => []) (fun p => p ≤ l.length ∧ ∀ j, j < p → nmOk l j = true) (fun p => l.length - p) 0 ?_ ?_ ?_
 exact ⟨Nat.zero_le _, fun j hj => absurd hj (Nat.not_lt_zero _)⟩
 exact hs.rk []
 rintro i hJ a w hs
 obtain ⟨hi, hall⟩ := hJ
 rcases bd ((i : Int) < (l.length : Int)) with ⟨b1, n1⟩ | ⟨b1, n1⟩
 rcases bt (textOk (l.getD i (dflt .str))) with b2 | b2
 rcases bd ((i : Int) > 0) with ⟨b3, n3⟩ | ⟨b3, n3⟩
 rcases bt (Op.bytesLess (l.getD (((i : Int) - 1).toNat) (dflt .str)).toList (l.getD i (dflt .str)).toList) with b4 | b4
 refine wL hs hI [(4, rg [(1, ciV 215 [vs (l.getD i (dflt .str))] (vb (textOk (l.getD i (dflt .str)))))] [4, 5, 6, 7, 8, 9, 10, 11, 12, 13, 14, 1014] [1015])] (bz 2 1) 1729729666666733777333377777041268712720 [q1 b1, q4 (i : Int) l.length, q1 (ng1 b2), q1 (ng1 b2), q1 (ng1 b2), q1 b3, q1 b3, q1 b3, q3 ((i : Int) - 1), q1 b3, q4 ((i : Int) - 1) l.length, q1 b3, q1 b3, q1 b3, q1 (ng1 b2), q1 b3, q1 (ng1 b2), q1 (ng1 b4), q3 ((i : Int) + 1)] .norm [(0, rwS l), (5, rwS l), (6, vi (l.length : Int)), (7, vi ((i : Int) + 1))] [] ⟨con215 _, tv⟩ fun a w hs => ?_
 refine then_norm ⟨i + 1, ⟨by omega, fun j hj => by rcases Nat.lt_succ_iff_lt_or_eq.1 hj with h | h; exact hall j h; subst h; simp only [nmOk, b1, b2, b3, b4]; rfl⟩, by omega, ?_⟩
 exact hs.rk []
 refine wL hs hI [(4, rg [(1, ciV 215 [vs (l.getD i (dflt .str))] (vb (textOk (l.getD i (dflt .str)))))] [4, 5, 6, 7, 8, 9, 10, 11, 12, 13, 14, 1014] [1015])] (bz 2 3) 121729666666733777333377777041268712720 [q1 b1, q4 (i : Int) l.length, q1 (ng1 b2), q1 (ng1 b2), q1 (ng1 b2), q1 b3, q1 b3, q1 b3, q3 ((i : Int) - 1), q1 b3, q4 ((i : Int) - 1) l.length, q1 b3, q1 b3, q1 b3, q1 (ng1 b2), q1 b3, q1 (ng1 b2), q1 (ng0 b4)] .ret [(2, vb false)] [] ⟨con215 _, tv⟩ fun a w hs => ?_
 refine then_ret ?_
 refine inb_ret ?_
 refine then_ret ?_
 exact rK (.val (vb false)) [] hs (by simp only [namesOk]; rw [all_no' (i := i) (by omega) (by simp only [nmOk, b1, b2, b3, b4]; rfl)]; rfl)
 refine wL hs hI [(4, rg [(1, ciV 215 [vs (l.getD i (dflt .str))] (vb (textOk (l.getD i (dflt .str)))))] [4, 5, 6, 14] [7, 8, 9, 10, 11, 12, 13, 1014, 1015])] (bz 2 1) 17297666667333333333777041268712720 [q1 b1, q4 (i : Int) l.length, q1 (ng1 b2), q1 (ng1 b2), q1 (ng1 b2), q1 b3, q1 b3, q1 b3, q1 b3, q1 b3, q1 b3, q1 b3, q1 (ng1 b2), q1 b3, q1 (ng1 b2), q0 false, q3 ((i : Int) + 1)] .norm [(0, rwS l), (5, rwS l), (6, vi (l.length : Int)), (7, vi ((i : Int) + 1))] [] ⟨con215 _, tv⟩ fun a w hs => ?_
 refine then_norm ⟨i + 1, ⟨by omega, fun j hj => by rcases Nat.lt_succ_iff_lt_or_eq.1 hj with h | h; exact hall j h; subst h; simp only [nmOk, b1, b2, b3]; rfl⟩, by omega, ?_⟩
 exact hs.rk []
 refine wL hs hI [(4, rg [(1, ciV 215 [vs (l.getD i (dflt .str))] (vb (textOk (l.getD i (dflt .str)))))] [1015] [4, 5, 6, 14])] (bz 2 3) 121766667388733041268712720 [q1 b1, q4 (i : Int) l.length, q1 (ng0 b2), q1 (ng0 b2), q1 (ng0 b2), q1 (ng0 b2), q1 (ng0 b2), q0 true] .ret [(2, vb false)] [] ⟨con215 _, tv⟩ fun a w hs => ?_
 refine then_ret ?_
 refine inb_ret ?_
 refine then_ret ?_
 exact rK (.val (vb false)) [] hs (by simp only [namesOk]; rw [all_no' (i := i) (by omega) (by simp only [nmOk, b1, b2]; rfl)]; rfl)
 refine wN hs hI (bz 1 0) 720 [q1 b1] (.exit 0) [(0, rwS l)] [] fun a w hs => ?_
 refine then_exit ?_
 refine inb_hit ?_
 refine then_norm ?_
 refine wN hs hI [] 1608 [] .ret [(2, vb (decide ((l.length : Int) ≤ 300)))] [] fun a w hs => ?_
 exact rK (.val (vb (decide ((l.length : Int) ≤ 300)))) [] hs (by simp only [namesOk]; rw [all_yes' (fun j hj => hall j (by omega))]; rfl)
theorem con270 (l : List Int) (hl : l.length < 1000000000) : Con Tryz.prog I0 270 [.row (.int .u32) l] (.own 160 (.int .u32) (trimF l)) := by
 refine con_of Tryz.func270 rfl (Nat.le_of_ble_eq_true rfl) stab (fun w0 fz a hI hs => ?_)
 refine wNs hs hI [] 11 [] [(0, rwU l)] [] fun a w hs => ?_
 refine wNs hs hI [] 18 [] [(0, rwU l), (3, vi (l.length : Int))] [] fun a w hs => ?_
 refine wp_seq ?_
 refine wp_block ?_
 refine loop_L (N := Tryz.f270.ntmps) (w0 := w0) (ow := noO fz) (α := Nat) (fun p => [(0, rwU l), (3, vi (p : Int))]) (fun p => []) (fun p => p ≤ l.length ∧ trimF (l.take p) = trimF l) (fun p => p) l.length ?_ ?_ ?_
 exact ⟨Nat.le_refl _, by rw [List.take_length]⟩
 exact (hs.cst [(0, rwU l), (3, vi ((l.length : Nat) : Int))] [] rfl).rk []
 rintro n hJ a w hs
 obtain ⟨hn, ht⟩ := hJ
 rcases bd ((n : Int) > 0) with ⟨b1, n1⟩ | ⟨b1, n1⟩
 rcases bq (l.getD (((n : Int) - 1).toNat) (dflt (.int .u32))) (0) with ⟨b2, n2⟩ | ⟨b2, n2⟩
 refine wL hs hI [(2, rg [] [3, 4, 5, 6, 7, 8, 1009] [])] (bz 1 1) 1719766667773333778 [q1 b1, q1 b1, q1 b1, q3 ((n : Int) - 1), q1 b1, q4 ((n : Int) - 1) l.length, q1 b1, q1 b1, q1 b1, q1 b2, q3 ((n : Int) - 1)] .norm [(0, rwU l), (3, vi ((n : Int) - 1))] [] tv fun a w hs => ?_
 refine then_norm ⟨n - 1, ⟨by omega, by obtain ⟨m, rfl⟩ : ∃ m, n = m + 1 := ⟨n - 1, by omega⟩; rw [← ht, trimF_zero (n := m) (by omega) (by have h := eq_of_beq b2; rw [← h]; congr 1; omega)]; rfl⟩, by omega, ?_⟩
 (have e0_ : ((n : Int) - 1) = ((((n - 1) : Nat) : Int)) := (by first | rfl | (omega)); exact (hs.cst [(0, rwU l), (3, vi (((n - 1) : Nat) : Int))] [] (by first | (rw [e0_]; done) | (simp only [e0_]; done) | rfl | (simp only [e0_]; rfl))).rk [])
 refine wL hs hI [(2, rg [] [3, 4, 5, 6, 7, 8, 1009] [])] (bz 1 0) 766667773333778 [q1 b1, q1 b1, q1 b1, q3 ((n : Int) - 1), q1 b1, q4 ((n : Int) - 1) l.length, q1 b1, q1 b1, q1 b1, q1 b2] (.exit 0) [(0, rwU l), (3, vi (n : Int))] [] tv fun a w hs => ?_
 refine then_exit ?_
 refine inb_hit ?_
 refine then_norm ?_
 rcases bq (n : Int) (0) with ⟨b3, n3⟩ | ⟨b3, n3⟩
 refine wN hs hI (bz 1 1) 121798 [q1 b3] .ret [(2, nilv)] [] fun a w hs => ?_
 exact FnQ_cast (out := .own 160 (.int .u32) ([])) (by obtain rfl : n = 0 := (by omega); rw [← ht]; rfl) (ret_ok [] hs (.inr ⟨by kernel_rfl, rfl⟩))
 refine wN hs hI (bz 1 0) 1982918291719798 [q1 b3, q2 ((n : Int) = (n : Int) ∧ 0 ≤ (n : Int) ∧ (4 : Nat) * (n : Int) ≤ 281474976710656 ∧ (n : Int) ≤ 9223372036854775807)] .ret [(2, .own 7001)] [(7001, .sl 160 (.int .u32) (l.take (List.replicate n (dflt (.int .u32))).length ++ (List.replicate n (dflt (.int .u32))).drop l.length))] fun a w hs => ?_
 exact FnQ_cast (out := .own 160 (.int .u32) (l.take (List.replicate n (dflt (.int .u32))).length ++ (List.replicate n (dflt (.int .u32))).drop l.length)) (by obtain ⟨m, rfl⟩ : ∃ m, n = m + 1 := ⟨n - 1, by omega⟩; rw [← ht, trimF_stop (n := m) (by omega) (by have h := beq_eq_false_iff_ne.1 b2; rwa [show (((m + 1 : Nat) : Int) - 1).toNat = m by omega] at h), List.length_replicate, List.drop_of_length_le (by rw [List.length_replicate]; omega), List.append_nil]) (ret_ok [] hs (.inl ⟨7001, by kernel_rfl, rfl⟩))
 refine wL hs hI [(2, rg [] [] [3, 4, 5, 6, 7, 8, 1009])] (bz 1 0) 796673333338 [q1 b1, q1 b1, q1 b1, q1 b1, q1 b1, q1 b1, q1 b1, q0 false] (.exit 0) [(0, rwU l), (3, vi (n : Int))] [] tv fun a w hs => ?_
 refine then_exit ?_
 refine inb_hit ?_
 refine then_norm ?_
 rcases bq (n : Int) (0) with ⟨b4, n4⟩ | ⟨b4, n4⟩
 refine wN hs hI (bz 1 1) 121798 [q1 b4] .ret [(2, nilv)] [] fun a w hs => ?_
 exact FnQ_cast (out := .own 160 (.int .u32) ([])) (by obtain rfl : n = 0 := (by omega); rw [← ht]; rfl) (ret_ok [] hs (.inr ⟨by kernel_rfl, rfl⟩))
 refine wN hs hI (bz 1 0) 1982918291719798 [q1 b4, q2 ((n : Int) = (n : Int) ∧ 0 ≤ (n : Int) ∧ (4 : Nat) * (n : Int) ≤ 281474976710656 ∧ (n : Int) ≤ 9223372036854775807)] .ret [(2, .own 7001)] [(7001, .sl 160 (.int .u32) (l.take (List.replicate n (dflt (.int .u32))).length ++ (List.replicate n (dflt (.int .u32))).drop l.length))] fun a w hs => ?_
 exact FnQ_cast (out := .own 160 (.int .u32) (l.take (List.replicate n (dflt (.int .u32))).length ++ (List.replicate n (dflt (.int .u32))).drop l.length)) (by exfalso; omega) (ret_ok [] hs (.inl ⟨7001, by kernel_rfl, rfl⟩))
theorem wrapU64 {n : Int} (h0 : 0 ≤ n) (h1 : n < 18446744073709551616) : IntKind.wrap .u64 n = n := by
 simp only [IntKind.wrap, IntKind.bits, IntKind.signed]
 simp; omega
theorem wrapU32 {n : Int} (h0 : 0 ≤ n) (h1 : n < 4294967296) : IntKind.wrap .u32 n = n := by
 simp only [IntKind.wrap, IntKind.bits, IntKind.signed]
 simp; omega
theorem stepX {r x : Int} (r0 : 0 ≤ r) (r1 : r < 4294967296) (x0 : 0 ≤ x) (x1 : x < 4294967296) : bitsOr .u64 (IntKind.wrap .u64 (r * 2 ^ 32)) (IntKind.wrap .u64 x) = r * 4294967296 + x := by
 obtain ⟨r, rfl⟩ : ∃ n : Nat, r = (n : Int) := ⟨r.toNat, by omega⟩
 obtain ⟨x, rfl⟩ : ∃ n : Nat, x = (n : Int) := ⟨x.toNat, by omega⟩
 have e1 : ((r : Int) * 2 ^ 32) = ((r * 4294967296 : Nat) : Int) := by omega
 rw [wrapU64 (by omega) (by omega), wrapU64 (by omega) (by omega), e1]
 unfold bitsOr
 have hb : IntKind.bits .u64 = 64 := rfl
 rw [hb]
 have e2 : (BitVec.ofInt 64 ((r * 4294967296 : Nat) : Int) ||| BitVec.ofInt 64 (x : Int)).toNat = r * 4294967296 + x := by
  rw [BitVec.ofInt_natCast, BitVec.ofInt_natCast, BitVec.toNat_or, BitVec.toNat_ofNat, BitVec.toNat_ofNat, Nat.mod_eq_of_lt (by omega), Nat.mod_eq_of_lt (by omega)]
  have := Nat.shiftLeft_add_eq_or_of_lt (i := 32) (b := x) (by omega) r
  rw [Nat.shiftLeft_eq] at this
  exact this.symm
 rw [e2, wrapU64 (by omega) (by omega)]
 omega
theorem val_set {l : List Int} {m : Nat} {x : Int} (h : m < l.length) : val ((l.set m x).drop m) = x.toNat + 4294967296 * val (l.drop (m + 1)) := by
 rw [List.drop_eq_getElem_cons (by simpa using h), val, List.getElem_set_self, List.drop_set_of_lt (by omega)]
structure SmallJ (a : List Int) (d : Int) (m : Nat) (out : List Int) (r : Int) : Prop where
 le : m ≤ a.length
 len : out.length = a.length
 ok : Ok out
 r0 : 0 ≤ r
 r1 : r < d
 eq : val (a.drop m) = d.toNat * val (out.drop m) + r.toNat
theorem SmallJ.start {a : List Int} {d : Int} (hd : 0 < d) : SmallJ a d a.length (List.replicate a.length (dflt (.int .u32))) 0 := by
 refine ⟨Nat.le_refl _, List.length_replicate, Ok.rep _, Int.le_refl _, hd, ?_⟩
 rw [List.drop_of_length_le (Nat.le_refl _), List.drop_of_length_le (by simp)]
 simp [val]
theorem SmallJ.step {a : List Int} {d : Int} {m : Nat} {out : List Int} {r : Int} (ha : Ok a) (hd : 0 < d) (hd1 : d < 4294967296) (h : SmallJ a d m out r) (hm : (m : Int) - 1 ≥ 0) :
  SmallJ a d (m - 1) (out.set ((m : Int) - 1).toNat (IntKind.wrap .u32 (IntKind.wrap .u64 ((bitsOr .u64 (IntKind.wrap .u64 (r * 2 ^ 32)) (IntKind.wrap .u64 (a.getD ((m : Int) - 1).toNat (dflt (.int .u32))))).tdiv d))))
   ((bitsOr .u64 (IntKind.wrap .u64 (r * 2 ^ 32)) (IntKind.wrap .u64 (a.getD ((m : Int) - 1).toNat (dflt (.int .u32))))).tmod d) := by
 obtain ⟨k, rfl⟩ : ∃ k, m = k + 1 := ⟨m - 1, by omega⟩
 have hk : k < a.length := h.le
 have e1 : (((k + 1 : Nat) : Int) - 1).toNat = k := by omega
 have e2 : k + 1 - 1 = k := rfl
 rw [e1, e2]
 have hx := ha.rdk (k : Int)
 have hxe : a.getD k (dflt (.int .u32)) = rd a k := rfl
 rw [hxe]
 generalize hX : rd a k = x at *
 rw [stepX h.r0 (by have := h.r1; omega) hx.1 hx.2]
 have r0 := h.r0
 have r1 := h.r1
 have hX0 : 0 ≤ r * 4294967296 + x := by omega
 rw [Int.tdiv_eq_ediv_of_nonneg hX0, Int.tmod_eq_emod_of_nonneg hX0]
 have hq : (r * 4294967296 + x) / d < 4294967296 := Int.ediv_lt_of_lt_mul hd (by
  have : r + 1 ≤ d := by omega
  have := Int.mul_le_mul_of_nonneg_right this (show (0 : Int) ≤ 4294967296 by decide)
  rw [Int.mul_comm 4294967296 d]; omega)
 have hq0 : 0 ≤ (r * 4294967296 + x) / d := Int.ediv_nonneg hX0 (by omega)
 rw [wrapU64 hq0 (by omega), wrapU32 hq0 hq]
 refine ⟨by omega, by rw [List.length_set]; exact h.len, h.ok.set _ hq0 hq, Int.emod_nonneg _ (by omega), Int.emod_lt_of_pos _ hd, ?_⟩
 rw [val_set (by rw [h.len]; exact hk), val_drop hk, hX, h.eq]
 have hdm := Int.mul_ediv_add_emod (r * 4294967296 + x) d
 have hm0 := Int.emod_nonneg (r * 4294967296 + x) (show d ≠ 0 by omega)
 obtain ⟨d, rfl⟩ : ∃ n : Nat, d = (n : Int) := ⟨d.toNat, by omega⟩
 obtain ⟨r, rfl⟩ : ∃ n : Nat, r = (n : Int) := ⟨r.toNat, by omega⟩
 obtain ⟨x, rfl⟩ : ∃ n : Nat, x = (n : Int) := ⟨x.toNat, by omega⟩
 simp only [Int.toNat_natCast] at *
 have hc : ((r : Int) * 4294967296 + x) = ((r * 4294967296 + x : Nat) : Int) := by omega
 have e3 : ((r : Int) * 4294967296 + x) / d = ((r * 4294967296 + x) / d : Nat) := by rw [hc]; exact (Int.natCast_ediv _ _).symm
 have e4 : ((r : Int) * 4294967296 + x) % d = ((r * 4294967296 + x) % d : Nat) := by rw [hc]; exact (Int.natCast_emod _ _).symm
 have e5 : (((r : Int) * 4294967296 + x) / d).toNat = (r * 4294967296 + x) / d := by rw [e3]; exact Int.toNat_natCast _
 have e6 : (((r : Int) * 4294967296 + x) % d).toNat = (r * 4294967296 + x) % d := by rw [e4]; exact Int.toNat_natCast _
 rw [e5, e6]
 clear e5 e6 e3 e4 hc
 have hdn := Nat.div_add_mod (r * 4294967296 + x) d
 generalize (r * 4294967296 + x) / d = q at *
 generalize (r * 4294967296 + x) % d = s at *
 generalize val (out.drop (k + 1)) = V at *
 have h9 : d * (q + 4294967296 * V) = d * q + 4294967296 * (d * V) := by rw [Nat.mul_add, Nat.mul_left_comm]
 rw [h9]
 generalize d * V = DV at *
 omega
theorem SmallJ.stop {a : List Int} {d : Int} {out : List Int} {r : Int} (ha : Ok a) (hd : 0 < d) (h : SmallJ a d 0 out r) : trimF out = lim (val a / d.toNat) ∧ r = ((val a % d.toNat : Nat) : Int) := by
 have he := h.eq
 have r0 := h.r0
 have r1 := h.r1
 simp only [List.drop_zero] at he
 rw [trim_lim h.ok]
 have h1 : val a / d.toNat = val out := by
  rw [he, Nat.mul_add_div (by omega), Nat.div_eq_of_lt (by omega), Nat.add_zero]
 have h2 : val a % d.toNat = r.toNat := by
  rw [he, Nat.mul_add_mod, Nat.mod_eq_of_lt (by omega)]
 rw [h1, h2]
 exact ⟨rfl, by omega⟩
theorem con271_10 (l : List Int) (ha : Ok l) (hl : l.length < 1000000000) : Con Tryz.prog I0 271 [.row (.int .u32) l, .lit (.int .u32 10)] (.val (.tup [.row (.int .u32) (lim (val l / 10)), .lit (.int .u32 ((val l % 10 : Nat) : Int))])) := by
 refine con_of Tryz.func271 rfl (Nat.le_of_ble_eq_true rfl) stab (fun w0 fz a hI hs => ?_)
 refine wNs hs hI [] 8 [] [(0, rwU l), (1, .lit (.int .u32 10))] [] fun a w hs => ?_
 refine wNs hs hI [] 170 [q2 ((l.length : Int) = (l.length : Int) ∧ 0 ≤ (l.length : Int) ∧ (4 : Nat) * (l.length : Int) ≤ 281474976710656 ∧ (l.length : Int) ≤ 9223372036854775807)] [(0, rwU l), (1, .lit (.int .u32 10)), (6, .own 2002)] [(2002, .sl 160 (.int .u32) (List.replicate l.length (dflt (.int .u32))))] fun a w hs => ?_
 refine wNs hs hI [] 11 [] [(0, rwU l), (1, .lit (.int .u32 10)), (6, .own 2002), (7, .lit (.int .u64 0))] [(2002, .sl 160 (.int .u32) (List.replicate l.length (dflt (.int .u32))))] fun a w hs => ?_
 refine wp_seq ?_
 refine wNs hs hI [] 170 [q3 ((l.length : Int) - 1)] [(0, rwU l), (1, .lit (.int .u32 10)), (6, .own 2002), (7, .lit (.int .u64 0)), (8, vi ((l.length : Int) - 1))] [(2002, .sl 160 (.int .u32) (List.replicate l.length (dflt (.int .u32))))] fun a w hs => ?_
 refine wp_block ?_
 refine loop_L (N := Tryz.f271.ntmps) (w0 := w0) (ow := noO fz) (α := Nat × List Int × Int) (fun p => [(0, rwU l), (1, .lit (.int .u32 10)), (6, .own 90000001), (7, .lit (.int .u64 p.2.2)), (8, vi (((p.1 : Nat) : Int) - 1))]) (fun p => [(90000001, .sl 160 (.int .u32) p.2.1)]) (fun p => SmallJ l 10 p.1 p.2.1 p.2.2) (fun p => p.1) (l.length, List.replicate l.length (dflt (.int .u32)), 0) ?_ ?_ ?_
 exact SmallJ.start (by decide)
 exact (hs.cst [(0, rwU l), (1, .lit (.int .u32 10)), (6, .own 2002), (7, .lit (.int .u64 0)), (8, vi (((l.length : Nat) : Int) - 1))] [(2002, .sl 160 (.int .u32) (List.replicate l.length (dflt (.int .u32))))] rfl).rk [(90000001, 2002)]
 rintro ⟨m, out, r⟩ hJ a w hs
 try dsimp only at hJ
 have hm := hJ.le
 have hln := hJ.len
 rcases bd (((m : Int) - 1) ≥ 0) with ⟨b1, n1⟩ | ⟨b1, n1⟩
 refine wN hs hI (bz 1 1) 1712968826673188266187189798 [q1 b1, q4 ((m : Int) - 1) l.length, q4 ((m : Int) - 1) out.length, q2 (((m : Int) - 1).toNat < out.length), q3 (((m : Int) - 1) - 1)] .norm [(0, rwU l), (1, .lit (.int .u32 10)), (6, .own 90000001), (7, .lit (.int .u64 ((bitsOr .u64 (IntKind.wrap .u64 (r * 2 ^ 32)) (IntKind.wrap .u64 (l.getD (((m : Int) - 1).toNat) (dflt (.int .u32))))).tmod 10))), (8, vi (((m : Int) - 1) - 1))] [(90000001, .sl 160 (.int .u32) (out.set (((m : Int) - 1).toNat) (IntKind.wrap .u32 (IntKind.wrap .u64 ((bitsOr .u64 (IntKind.wrap .u64 (r * 2 ^ 32)) (IntKind.wrap .u64 (l.getD (((m : Int) - 1).toNat) (dflt (.int .u32))))).tdiv 10)))))] fun a w hs => ?_
 refine then_norm ⟨(m - 1, out.set (((m : Int) - 1).toNat) (IntKind.wrap .u32 (IntKind.wrap .u64 ((bitsOr .u64 (IntKind.wrap .u64 (r * 2 ^ 32)) (IntKind.wrap .u64 (l.getD (((m : Int) - 1).toNat) (dflt (.int .u32))))).tdiv 10))), (bitsOr .u64 (IntKind.wrap .u64 (r * 2 ^ 32)) (IntKind.wrap .u64 (l.getD (((m : Int) - 1).toNat) (dflt (.int .u32))))).tmod 10), hJ.step ha (by decide) (by decide) (by omega), by omega, ?_⟩
 (have e0_ : ((bitsOr .u64 (IntKind.wrap .u64 (r * 2 ^ 32)) (IntKind.wrap .u64 (l.getD (((m : Int) - 1).toNat) (dflt (.int .u32))))).tmod 10) = (((bitsOr .u64 (IntKind.wrap .u64 (r * 2 ^ 32)) (IntKind.wrap .u64 (l.getD (((m : Int) - 1).toNat) (dflt (.int .u32))))).tmod 10)) := (by first | rfl | (omega)); have e1_ : (((m : Int) - 1) - 1) = ((((m - 1) : Nat) : Int) - 1) := (by first | rfl | (omega)); have e2_ : (out.set (((m : Int) - 1).toNat) (IntKind.wrap .u32 (IntKind.wrap .u64 ((bitsOr .u64 (IntKind.wrap .u64 (r * 2 ^ 32)) (IntKind.wrap .u64 (l.getD (((m : Int) - 1).toNat) (dflt (.int .u32))))).tdiv 10)))) = ((out.set (((m : Int) - 1).toNat) (IntKind.wrap .u32 (IntKind.wrap .u64 ((bitsOr .u64 (IntKind.wrap .u64 (r * 2 ^ 32)) (IntKind.wrap .u64 (l.getD (((m : Int) - 1).toNat) (dflt (.int .u32))))).tdiv 10))))) := (by first | rfl | (omega)); exact (hs.cst [(0, rwU l), (1, .lit (.int .u32 10)), (6, .own 90000001), (7, .lit (.int .u64 ((bitsOr .u64 (IntKind.wrap .u64 (r * 2 ^ 32)) (IntKind.wrap .u64 (l.getD (((m : Int) - 1).toNat) (dflt (.int .u32))))).tmod 10))), (8, vi ((((m - 1) : Nat) : Int) - 1))] [(90000001, .sl 160 (.int .u32) (out.set (((m : Int) - 1).toNat) (IntKind.wrap .u32 (IntKind.wrap .u64 ((bitsOr .u64 (IntKind.wrap .u64 (r * 2 ^ 32)) (IntKind.wrap .u64 (l.getD (((m : Int) - 1).toNat) (dflt (.int .u32))))).tdiv 10)))))] (by first | (rw [e0_, e1_, e2_]; done) | (simp only [e0_, e1_, e2_]; done) | rfl | (simp only [e0_, e1_, e2_]; rfl))).rk [(90000001, 90000001)])
 refine wN hs hI (bz 1 0) 798 [q1 b1] (.exit 0) [(6, .own 90000001), (7, .lit (.int .u64 r))] [(90000001, .sl 160 (.int .u32) out)] fun a w hs => ?_
 refine then_exit ?_
 refine inb_hit ?_
 refine then_norm ?_
 refine wL hs hI [(9, rc [(1, ciA 270 [rwU out] [] [90000001] (.own 160 (.int .u32) (trimF out)))])] [] 1960841 [] .ret [(4, .own 10001), (5, .lit (.int .u32 (IntKind.wrap .u32 r)))] [(10001, .sl 160 (.int .u32) (trimF out))] ⟨con270 _ (by have := hJ.len; omega), tv⟩ fun a w hs => ?_
 exact rK (.val (.tup [rwU (trimF out), .lit (.int .u32 (IntKind.wrap .u32 r))])) [10001] hs (by obtain rfl : m = 0 := (by omega); obtain ⟨h1, h2⟩ := hJ.stop ha (by decide); have r0 := hJ.r0; have r1 := hJ.r1; rw [h1, wrapU32 r0 (by omega), h2]; rfl)
theorem tz_iter {n : Nat} (h0 : n ≠ 0) (h1 : n % 10 = 0) {m c : Nat} (h : tz m = ((tz n).1, c + (tz n).2)) : tz m = ((tz (n / 10)).1, c + 1 + (tz (n / 10)).2) := by
 rw [h, tz_ten h0 h1]; simp only [Prod.mk.injEq, true_and]; omega
theorem tz_end {n : Nat} (h1 : n % 10 ≠ 0 ∨ n = 0) {m c : Nat} (h : tz m = ((tz n).1, c + (tz n).2)) : tz m = (n, c) := by
 rcases h1 with h1 | rfl
 rw [h, tz_self h1]; rfl
 rw [h, tz_zero]; rfl
theorem lim_len {n : Nat} {l : List Int} (hl : Ok l) (h : n ≤ val l) : (lim n).length ≤ l.length := lim_len_le (Nat.lt_of_le_of_lt h (val_lt hl))
theorem tz_small {l : List Int} (hl : Ok l) (h : l.length < 1000000000) : (tz (val l)).2 ≤ 32000000000 := by
 have := tz_limbs (val_lt hl); omega
theorem last_split {l : List Int} (h : l.length ≠ 0) : l = l.take (l.length - 1) ++ [rd l ((l.length : Int) - 1)] := by
 have h1 := take_snoc' l (l.length - 1) (by omega)
 rw [show l.length - 1 + 1 = l.length by omega, List.take_of_length_le (Nat.le_refl _)] at h1
 rw [show ((l.length : Int) - 1) = ((l.length - 1 : Nat) : Int) by omega]
 exact h1
theorem trim_len (l : List Int) : (trimF l).length ≤ l.length := by
 unfold trimF
 rw [List.length_reverse]
 exact Nat.le_trans (List.dropWhile_sublist _).length_le (by rw [List.length_reverse]; exact Nat.le_refl _)
theorem lim_last {n : Nat} (h : (lim n).length ≠ 0) : rd (lim n) (((lim n).length : Int) - 1) ≠ 0 := by
 intro hz
 have h1 := last_split h
 have h2 := lim_trim n
 generalize lim n = l at *
 rw [hz] at h1
 rw [h1, trimF_snoc, if_pos rfl] at h2
 have h3 := trim_len (l.take (l.length - 1))
 rw [h2, List.length_append] at h3
 simp at h3
 omega
theorem top_lim {l : List Int} (hl : Ok l) (h : l.length ≠ 0) (h0 : rd l ((l.length : Int) - 1) ≠ 0) : l = lim (val l) := by
 have h1 := last_split h
 have h2 := trim_lim hl
 rw [h1, trimF_snoc, if_neg h0, ← h1] at h2
 exact h2
theorem tz_two_zero {n : Nat} (h : n ≠ 0) : (tz n).2 = 0 ↔ n % 10 ≠ 0 := by
 constructor
 intro hz hm
 rw [tz_ten h hm] at hz
 simp at hz
 intro hm
 rw [tz_self hm]
theorem val_zero_of {l : List Int} (hl : Ok l) (h : l.length ≠ 0) (h0 : rd l ((l.length : Int) - 1) ≠ 0) : val l ≠ 0 := by
 intro hz
 have := top_lim hl h h0
 rw [hz, lim_zero] at this
 rw [this] at h
 exact h rfl
def checkN (n : Num) : Bool :=
 if n.m.length = 0 then (!n.neg && n.e == 0) else if n.m.length > 90 then false else if rd n.m ((n.m.length : Int) - 1) = 0 then false else if n.e < -1200 then false else if n.e > 1200 then false else decide (val n.m % 10 ≠ 0)
theorem tzB {l : List Int} (hl : Ok l) (h : l.length ≠ 0) (h0 : rd l ((l.length : Int) - 1) ≠ 0) : ((((tz (val l)).2 : Nat) : Int) == 0) = decide (val l % 10 ≠ 0) := by
 have := tz_two_zero (val_zero_of hl h h0)
 rw [Bool.eq_iff_iff, beq_iff_eq, decide_eq_true_iff, ← this]; omega
theorem con251 (l : List Int) (ha : Ok l) (hl : l.length < 1000000000) : Con Tryz.prog I0 251 [.row (.int .u32) l] (.val (.tup [.row (.int .u32) (lim (tz (val l)).1), vi (((tz (val l)).2 : Nat) : Int)])) := by
 refine con_of Tryz.func251 rfl (Nat.le_of_ble_eq_true rfl) stab (fun w0 fz a hI hs => ?_)
 refine wNs hs hI [] 8 [] [(0, rwU l)] [] fun a w hs => ?_
 refine wp_scope_straight ?_
 refine wLs hs hI [(1, rc [(1, ciV 270 [rwU l] (rwU (lim (val l))))])] [] 1141 [] [(0, rwU (lim (val l)))] [] ⟨(trim_lim ha ▸ (con270 _ (by omega)).frz), tv⟩ fun a w hs => ?_
 refine wNs hs hI [] 11 [] [(0, rwU (lim (val l))), (4, vi 0)] [] fun a w hs => ?_
 refine wNs hs hI [] 1 [] [(0, rwU (lim (val l))), (4, vi 0)] [] fun a w hs => ?_
 refine wp_seq ?_
 refine wp_block ?_
 refine loop_L (N := Tryz.f251.ntmps) (w0 := w0) (ow := noO fz) (α := Nat × Nat) (fun p => [(0, rwU (lim p.1)), (4, vi ((p.2 : Nat) : Int))]) (fun p => []) (fun p => p.1 ≤ val l ∧ tz (val l) = ((tz p.1).1, p.2 + (tz p.1).2)) (fun p => p.1) (val l, 0) ?_ ?_ ?_
 exact ⟨Nat.le_refl _, by simp⟩
 exact (hs.cst [(0, rwU (lim (val l))), (4, vi ((0 : Nat) : Int))] [] rfl).rk []
 rintro ⟨n, c⟩ hJ a w hs
 try dsimp only at hJ
 obtain ⟨hn, hz⟩ := hJ
 have hln := lim_len ha hn
 have htz := tz_small ha hl
 rw [hz] at htz
 have hl0 := lim_len_zero n
 have hvl := val_lim n
 rcases bd (((lim n).length : Int) > 0) with ⟨b1, n1⟩ | ⟨b1, n1⟩
 rcases bt (((val (lim n) % 10 : Nat) : Int) != 0) with b2 | b2
 have n2 := bne_iff_ne.1 b2
 refine wL hs hI [(4, rc [(1, ciV 271 [rwU (lim n), .lit (.int .u32 10)] (.tup [rwU (lim (val (lim n) / 10)), .lit (.int .u32 ((val (lim n) % 10 : Nat) : Int))]))])] (bz 2 3) 7982968841972918 [q1 b1, q1 b2] (.exit 0) [(0, rwU (lim n)), (4, vi (c : Int))] [] ⟨con271_10 _ (lim_ok n) (by omega), tv⟩ fun a w hs => ?_
 refine then_exit ?_
 refine inb_hit ?_
 refine then_norm ?_
 refine wN hs hI [] 1608 [] .ret [(2, rwU (lim n)), (3, vi (c : Int))] [] fun a w hs => ?_
 refine ng_ret ?_
 exact rK (.val (.tup [rwU (lim n), vi (c : Int)])) [] hs (by have h := bne_iff_ne.1 b2; rw [hvl] at h; rw [tz_end (.inl (by omega)) hz])
 have n2 := bne_eq_false_iff_eq.1 b2
 refine wL hs hI [(4, rc [(1, ciV 271 [rwU (lim n), .lit (.int .u32 10)] (.tup [rwU (lim (val (lim n) / 10)), .lit (.int .u32 ((val (lim n) % 10 : Nat) : Int))]))])] (bz 2 1) 1719897982968841972918 [q1 b1, q1 b2, q3 ((c : Int) + 1)] .norm [(0, rwU (lim (val (lim n) / 10))), (4, vi ((c : Int) + 1))] [] ⟨con271_10 _ (lim_ok n) (by omega), tv⟩ fun a w hs => ?_
 refine then_norm ⟨(n / 10, c + 1), ⟨by omega, tz_iter (by omega) (by have h := bne_eq_false_iff_eq.1 b2; rw [hvl] at h; omega) hz⟩, by omega, ?_⟩
 (have e0_ : (lim (val (lim n) / 10)) = (lim (n / 10)) := (by first | rfl | (rw [hvl])); have e1_ : ((c : Int) + 1) = ((((c + 1) : Nat) : Int)) := (by first | rfl | (omega)); exact (hs.cst [(0, rwU (lim (n / 10))), (4, vi (((c + 1) : Nat) : Int))] [] (by first | (rw [e0_, e1_]; done) | (simp only [e0_, e1_]; done) | rfl | (simp only [e0_, e1_]; rfl))).rk [])
 refine wN hs hI (bz 1 0) 72918 [q1 b1] (.exit 0) [(0, rwU (lim n)), (4, vi (c : Int))] [] fun a w hs => ?_
 refine then_exit ?_
 refine inb_hit ?_
 refine then_norm ?_
 refine wN hs hI [] 1608 [] .ret [(2, rwU (lim n)), (3, vi (c : Int))] [] fun a w hs => ?_
 refine ng_ret ?_
 exact rK (.val (.tup [rwU (lim n), vi (c : Int)])) [] hs (by rw [tz_end (.inr (by omega)) hz])
theorem con214 (n : Num) (ha : Ok n.m) (hl : n.m.length < 1000000000) : Con Tryz.prog I0 214 [.agg [vb n.neg, .row (.int .u32) n.m, vi n.e]] (.val (vb (checkN n))) := by
 refine con_of Tryz.func214 rfl (Nat.le_of_ble_eq_true rfl) stab (fun w0 fz a hI hs => ?_)
 rcases bq (n.m.length : Int) (0) with ⟨b1, n1⟩ | ⟨b1, n1⟩
 rcases bt (n.neg) with b2 | b2
 refine wL hs hI [(3, rg [] [] [4, 5, 6, 1007])] (bz 1 1) 126617333879860898 [q1 b1, q1 (ng1 b2), q1 (ng1 b2), q1 (ng1 b2), q1 (ng1 b2)] .ret [(2, vb false)] [] tv fun a w hs => ?_
 exact rK (.val (vb false)) [] hs (by rw [checkN, if_pos (by omega), b2]; rfl)
 refine wL hs hI [(3, rg [] [4, 5, 6, 1007] [])] (bz 1 1) 166617777879860898 [q1 b1, q1 (ng0 b2), q1 (ng0 b2), q1 (ng0 b2), q1 (ng0 b2)] .ret [(2, vb (n.e == 0))] [] tv fun a w hs => ?_
 exact rK (.val (vb (n.e == 0))) [] hs (by rw [checkN, if_pos (by omega), b2]; rfl)
 rcases bd ((n.m.length : Int) > 90) with ⟨b3, n3⟩ | ⟨b3, n3⟩
 refine wL hs hI [(4, rg [] [1010, 1015, 1020] [3, 4, 5, 6, 7, 8, 9, 12, 13, 14, 17, 18, 19])] (bz 2 2) 121726666673337333733333338979860898 [q1 b1, q1 b3, q1 b3, q1 b3, q1 b3, q1 b3, q1 b3, q1 b3, q1 b3, q0 true, q0 true, q0 true, q0 true, q0 true, q0 true, q0 true, q0 true, q0 true] .ret [(2, vb false)] [] tv fun a w hs => ?_
 exact rK (.val (vb false)) [] hs (by rw [checkN, if_neg (by omega), if_pos (by omega)])
 rcases bq (n.m.getD (((n.m.length : Int) - 1).toNat) (dflt (.int .u32))) (0) with ⟨b4, n4⟩ | ⟨b4, n4⟩
 refine wL hs hI [(4, rg [] [3, 4, 5, 6, 7, 8, 9, 1015, 1020] [1010, 12, 13, 14, 17, 18, 19])] (bz 2 2) 121766666667333733377733337778979860898 [q1 b1, q1 b3, q1 b3, q1 b3, q1 b3, q3 ((n.m.length : Int) - 1), q1 b3, q4 ((n.m.length : Int) - 1) n.m.length, q1 b3, q1 b3, q1 b3, q1 b4, q1 b4, q1 b4, q1 b4, q0 true, q0 true, q0 true, q0 true, q0 true] .ret [(2, vb false)] [] tv fun a w hs => ?_
 exact rK (.val (vb false)) [] hs (by rw [checkN, if_neg (by omega), if_neg (by omega), if_pos (show rd n.m _ = 0 from eq_of_beq b4)])
 rcases bd (n.e < (-1200)) with ⟨b5, n5⟩ | ⟨b5, n5⟩
 refine wL hs hI [(4, rg [] [3, 4, 5, 6, 7, 8, 9, 12, 13, 14, 1020] [1010, 1015, 17, 18, 19])] (bz 2 2) 12172966666667333777777733337778979860898 [q1 b1, q1 b3, q1 b3, q1 b3, q1 b3, q3 ((n.m.length : Int) - 1), q1 b3, q4 ((n.m.length : Int) - 1) n.m.length, q1 b3, q1 b3, q1 b3, q1 b4, q1 b4, q1 b4, q1 b4, q1 b5, q1 b5, q1 b5, q1 b5, q0 true] .ret [(2, vb false)] [] tv fun a w hs => ?_
 exact rK (.val (vb false)) [] hs (by rw [checkN, if_neg (by omega), if_neg (by omega), if_neg (show ¬ rd n.m _ = 0 from beq_eq_false_iff_ne.1 b4), if_pos (by omega)])
 rcases bd (n.e > 1200) with ⟨b6, n6⟩ | ⟨b6, n6⟩
 refine wL hs hI [(4, rg [] [3, 4, 5, 6, 7, 8, 9, 12, 13, 14, 17, 18, 19] [1010, 1015, 1020])] (bz 2 2) 12179666666667777777777733337778979860898 [q1 b1, q1 b3, q1 b3, q1 b3, q1 b3, q3 ((n.m.length : Int) - 1), q1 b3, q4 ((n.m.length : Int) - 1) n.m.length, q1 b3, q1 b3, q1 b3, q1 b4, q1 b4, q1 b4, q1 b4, q1 b5, q1 b5, q1 b5, q1 b5, q1 b6] .ret [(2, vb false)] [] tv fun a w hs => ?_
 exact rK (.val (vb false)) [] hs (by rw [checkN, if_neg (by omega), if_neg (by omega), if_neg (show ¬ rd n.m _ = 0 from beq_eq_false_iff_ne.1 b4), if_neg (by omega), if_pos (by omega)])
 refine wL hs hI [(6, rc [(2, ciV 251 [rwU n.m] (.tup [rwU (lim (tz (val n.m)).1), vi (((tz (val n.m)).2 : Nat) : Int)]))]), (4, rg [] [3, 4, 5, 6, 7, 8, 9, 12, 13, 14, 17, 18, 19] [1010, 1015, 1020])] (bz 2 0) 12918668840979666666667777777777733337778979860898 [q1 b1, q1 b3, q1 b3, q1 b3, q1 b3, q3 ((n.m.length : Int) - 1), q1 b3, q4 ((n.m.length : Int) - 1) n.m.length, q1 b3, q1 b3, q1 b3, q1 b4, q1 b4, q1 b4, q1 b4, q1 b5, q1 b5, q1 b5, q1 b5, q1 b6] .ret [(2, vb ((((tz (val n.m)).2 : Nat) : Int) == 0))] [] ⟨con251 _ ha (by omega), tv⟩ fun a w hs => ?_
 exact rK (.val (vb ((((tz (val n.m)).2 : Nat) : Int) == 0))) [] hs (by rw [checkN, if_neg (by omega), if_neg (by omega), if_neg (show ¬ rd n.m _ = 0 from beq_eq_false_iff_ne.1 b4), if_neg (by omega), if_neg (by omega), tzB ha (by omega) (show ¬ rd n.m _ = 0 from beq_eq_false_iff_ne.1 b4)])
end Go.Proofs.YtondpnipoogoiaaGreatDoor.F
