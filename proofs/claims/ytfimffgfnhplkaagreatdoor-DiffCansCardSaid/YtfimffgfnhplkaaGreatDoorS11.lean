import Derived.Test.YtfimffgfnhplkaaGreatDoorS10
import Derived.Lib.SlicesCompact
import Derived.Test.YtfimffgfnhplkaaGreatDoorS1
import Derived.Test.YtfimffgfnhplkaaGreatDoorS5
import Derived.Test.YtfimffgfnhplkaaGreatDoorS6
import Derived.Shelf.Slices.In.SortNone
import Derived.Shelf.Slices.In.CompactS
import Derived.Ground.NamesProg
import Derived.Test.YtfimffgfnhplkaaGreatDoorProg
import Derived.Sort.OwnSorted
import Derived.Recover
set_option maxRecDepth 100000
set_option linter.unusedVariables false
set_option linter.unusedSimpArgs false
namespace Go.Proofs.YtfimffgfnhplkaaGreatDoor.F
open Go Go.RowKit
def obT (t : Tree) : Tree := if t.kind = 7 then t else objM []
def goM (f : Tree → Tree → Option Tree) (a b : Tree) : List ByteArray → Option Mem
 | [] => some []
 | x :: l => match (if memB b x = true then (if (memV b x).kind = 1 then none else f (memV a x) (memV b x)) else some nul), goM f a b l with
  | some v, some L => some ((x, v) :: L)
  | _, _ => none
def mergedO : Nat → Tree → Tree → Option Tree
 | 0, _, b => if b.kind = 7 then none else some b
 | n + 1, a, b => if b.kind = 7 then (goM (mergedO n) (obT a) b (diffN (obT a) b)).map objM else some b
def stepM (f : Tree → Tree → Tree) (u : Tree) (q : ByteArray × Tree) : Tree := if q.2.kind = 1 then unsetT u q.1 else setT u q.1 (f (if memB u q.1 = true then memV u q.1 else nul) q.2)
def mergeR : Nat → Tree → Tree → Tree
 | 0, _, p => p
 | n + 1, t, p => if p.kind = 7 then (mems p).foldl (stepM (mergeR n)) (obT t) else p
structure ObjT (t : Tree) : Prop where
 kind : t.kind = 7
 len : t.k.length = t.v.length
 sorted : ((mems t).map (·.1)).Pairwise ltB
theorem objT_M {L : Mem} (h : (L.map (·.1)).Pairwise ltB) : ObjT (objM L) := ⟨rfl, by show (L.map (·.1)).length = (L.map (·.2)).length; rw [List.length_map, List.length_map], by rw [mems_objM]; exact h⟩
theorem objT_set {t u : Tree} {x : ByteArray} (h : ObjT t) : ObjT (setT t x u) := objT_M (ins_sorted h.sorted)
theorem objT_unset {t : Tree} {x : ByteArray} (h : ObjT t) : ObjT (unsetT t x) := by
 unfold unsetT
 split
 exact objT_M (h.sorted.sublist ((del_sub x (mems t)).map _))
 exact h
theorem objT_nd {t : Tree} (h : ObjT t) : Nodup (mems t) := nodup_sorted h.sorted
theorem objT_step {f : Tree → Tree → Tree} {u : Tree} {q : ByteArray × Tree} (h : ObjT u) : ObjT (stepM f u q) := by
 unfold stepM
 split
 exact objT_unset h
 exact objT_set h
theorem objT_fold {f : Tree → Tree → Tree} : ∀ (L : Mem) {u : Tree}, ObjT u → ObjT (L.foldl (stepM f) u)
 | [], _, h => h
 | q :: L, _, h => objT_fold L (objT_step h)
theorem step_ne {f : Tree → Tree → Tree} {u : Tree} {q : ByteArray × Tree} {y : ByteArray} (h : eqT y q.1 = false) : lookA y (mems (stepM f u q)) = lookA y (mems u) := by
 unfold stepM
 split
 exact look_unsetT_ne h
 rw [look_setT, if_neg (by rw [h]; decide)]
theorem memV_same {u w : Tree} {y : ByteArray} (h : lookA y (mems u) = lookA y (mems w)) : memB u y = memB w y ∧ memV u y = memV w y := by
 rw [memB_look, memB_look, memV_look, memV_look, h]; exact ⟨rfl, rfl⟩
theorem fold_look {f : Tree → Tree → Tree} {y : ByteArray} : ∀ (L : Mem) {u : Tree}, (L.map (·.1)).Nodup → ObjT u → lookA y (mems (L.foldl (stepM f) u)) = match lookA y L with
  | none => lookA y (mems u)
  | some v => if v.kind = 1 then none else some (f (if memB u y = true then memV u y else nul) v)
 | [], u, _, _ => rfl
 | (x, v) :: L, u, hn, hu => by
  rw [List.map_cons, List.nodup_cons] at hn
  rw [List.foldl_cons, fold_look L hn.2 (objT_step hu)]
  by_cases h : y = x
  ·subst h
   have hl : lookA y L = none := look_notin hn.1
   rw [hl]
   simp only [lookA, eqT_self, if_true]
   unfold stepM
   split
   ·rename_i h1
    exact look_unsetT_self (objT_nd hu)
   ·rename_i h1
    rw [look_setT, if_pos (eqT_self _)]
  ·have hx : eqT y x = false := eqT_ne.2 h
   have hs := step_ne (f := f) (u := u) (q := (x, v)) hx
   simp only [lookA, hx, Bool.false_eq_true, if_false]
   rw [hs, (memV_same hs).1, (memV_same hs).2]
theorem goM_look {f : Tree → Tree → Option Tree} {a b : Tree} {y : ByteArray} : ∀ {l : List ByteArray} {L : Mem}, goM f a b l = some L → L.map (·.1) = l ∧ (y ∈ l → ∃ v, lookA y L = some v ∧ (if memB b y = true then (if (memV b y).kind = 1 then none else f (memV a y) (memV b y)) else some nul) = some v)
 | [], L, h => by
  rw [goM] at h
  obtain rfl := Option.some.inj h
  exact ⟨rfl, fun h => by simp at h⟩
 | x :: l, L, h => by
  rw [goM] at h
  split at h
  rename_i v L' e1 e2
  obtain rfl := Option.some.inj h
  obtain ⟨h1, h2⟩ := goM_look (y := y) e2
  refine ⟨by rw [List.map_cons, h1], fun hy => ?_⟩
  by_cases hx : y = x
  subst hx
  exact ⟨v, by rw [lookA, if_pos (eqT_self _)], e1⟩
  rcases List.mem_cons.1 hy with hy | hy
  exact absurd hy hx
  obtain ⟨v', h3, h4⟩ := h2 hy
  exact ⟨v', by rw [lookA, if_neg (by rw [eqT_ne.2 hx]; decide)]; exact h3, h4⟩
  cases h
theorem mergeR_ob {n : Nat} {t t' p : Tree} (h : obT t = obT t') : mergeR n t p = mergeR n t' p := by
 cases n with
 | zero => rfl
 | succ n => rw [mergeR, mergeR, h]
theorem look_at : ∀ {L : Mem} {i : Nat} (hi : i < L.length), (L.map (·.1)).Nodup → lookA (L[i]).1 L = some (L[i]).2
 | (x, v) :: L, 0, _, _ => by simp [lookA, eqT_self]
 | (x, v) :: L, i + 1, hi, hn => by
  rw [List.map_cons, List.nodup_cons] at hn
  have hi' : i < L.length := by simpa using hi
  have ih := look_at hi' hn.2
  have hne : (L[i]).1 ≠ x := fun e => hn.1 (List.mem_map.2 ⟨L[i], List.getElem_mem hi', e⟩)
  show lookA (L[i]).1 ((x, v) :: L) = some (L[i]).2
  rw [lookA, if_neg (by rw [eqT_ne.2 hne]; decide)]
  exact ih
def AllObj : Nat → Tree → Prop
 | 0, t => t.kind ≠ 7
 | n + 1, t => t.kind = 7 → ownO t = true ∧ ObjT t ∧ ∀ u ∈ t.v, AllObj n u
theorem goM_none {f : Tree → Tree → Option Tree} {a b : Tree} : ∀ {l : List ByteArray}, goM f a b l = none ↔ ∃ x ∈ l, (if memB b x = true then (if (memV b x).kind = 1 then none else f (memV a x) (memV b x)) else some nul) = none
 | [] => by simp [goM]
 | x :: l => by
  have ih := goM_none (f := f) (a := a) (b := b) (l := l)
  rw [goM]
  cases h1 : (if memB b x = true then (if (memV b x).kind = 1 then none else f (memV a x) (memV b x)) else some nul) with
  | none => simp [h1]
  | some v =>
   cases h2 : goM f a b l with
   | none =>
    obtain ⟨y, hy, he⟩ := ih.1 h2
    simp only [true_iff]
    exact ⟨y, List.mem_cons_of_mem _ hy, he⟩
   | some L =>
    simp only [reduceCtorEq, false_iff]
    rintro ⟨y, hy, he⟩
    rcases List.mem_cons.1 hy with rfl | hy
    rw [h1] at he; cases he
    have := ih.2 ⟨y, hy, he⟩
    rw [h2] at this; cases this
theorem good_objT {n d : Nat} {t : Tree} (h : GoodN n d t) (h7 : t.kind = 7) : ObjT t := by
 cases d with
 | zero => exact h.elim
 | succ d => exact ⟨h7, own_keys h.1.own h7, h.1.sorted⟩
theorem good_all {n : Nat} : ∀ {d : Nat} {t : Tree}, GoodN n d t → AllObj d t
 | 0, _, h => h.elim
 | d + 1, t, h => fun h7 => ⟨h.1.own, good_objT h h7, fun u hu => good_all (h.2.2 u hu)⟩
theorem ba_data' (l : List UInt8) : (ba l).data.toList = l := by simp [ba]
theorem ba_of' (s : ByteArray) : ba s.data.toList = s := by simp [ba]
abbrev leU (x y : List UInt8) : Bool := decide (x ≤ y)
theorem sortU_sorted (zs : List (List UInt8)) : (zs.mergeSort leU).Pairwise (fun x y => x ≤ y) := by
 have h := List.pairwise_mergeSort (le := leU) (fun a b c h1 h2 => by
  have h1 := of_decide_eq_true h1
  have h2 := of_decide_eq_true h2
  exact decide_eq_true (List.le_trans h1 h2)) (fun a b => by
  rcases List.le_total a b with h | h
  ·simp [leU, h]
  ·simp [leU, h]) zs
 exact h.imp (fun h => of_decide_eq_true h)
theorem at_arr {zs : List (List UInt8)} {j : Nat} (h : j < zs.length) : zs.toArray[j]! = zs[j] := by
 rw [getElem!_pos zs.toArray j (by simpa using h)]; simp
theorem compact_mem (zs : List (List UInt8)) (x : List UInt8) : x ∈ Lib.compact zs ↔ x ∈ zs := by
 unfold Lib.compact Lib.compactUpTo
 rw [List.mem_map]
 constructor
 rintro ⟨j, hj, rfl⟩
 have hl : j < zs.length := by simpa using (List.mem_filter.1 hj).1
 rw [at_arr hl]; exact List.getElem_mem hl
 intro hx
 obtain ⟨j, hj, rfl⟩ := List.mem_iff_getElem.1 hx
 have key : ∀ j, j < zs.length → ∃ i, i ≤ j ∧ Lib.keeps zs.toArray i = true ∧ zs.toArray[i]! = zs.toArray[j]! := by
  intro j
  induction j with
  | zero => intro _; exact ⟨0, Nat.le_refl _, by simp [Lib.keeps], rfl⟩
  | succ j ih =>
   intro hj
   by_cases h : zs.toArray[j + 1]! = zs.toArray[j + 1 - 1]!
   obtain ⟨i, h1, h2, h3⟩ := ih (by omega)
   exact ⟨i, by omega, h2, by rw [h3, h]; rfl⟩
   exact ⟨j + 1, Nat.le_refl _, by simp only [Lib.keeps]; exact decide_eq_true (.inr h), rfl⟩
 obtain ⟨i, h1, h2, h3⟩ := key j hj
 exact ⟨i, List.mem_filter.2 ⟨by simp; omega, h2⟩, by rw [h3, at_arr hj]⟩
theorem compact_sorted {zs : List (List UInt8)} (h : zs.Pairwise (fun x y => x ≤ y)) : (Lib.compact zs).Pairwise (fun x y => x < y) := by
 unfold Lib.compact Lib.compactUpTo
 rw [List.pairwise_map]
 refine List.Pairwise.imp_of_mem ?_ ((List.pairwise_lt_range (n := zs.length)).filter _)
 intro i j hi hj hij
 have li : i < zs.length := by simpa using (List.mem_filter.1 hi).1
 have lj : j < zs.length := by simpa using (List.mem_filter.1 hj).1
 have hk := (List.mem_filter.1 hj).2
 simp only [Lib.keeps, decide_eq_true_eq] at hk
 have hne : zs.toArray[j]! ≠ zs.toArray[j - 1]! := by
  rcases hk with h0 | h0
  omega
  exact h0
 rw [at_arr lj, at_arr (show j - 1 < zs.length by omega)] at hne
 rw [at_arr li, at_arr lj]
 have le1 : zs[i] ≤ zs[j - 1] := by
  by_cases e : i = j - 1
  subst e; exact List.le_refl _
  exact List.pairwise_iff_getElem.1 h i (j - 1) li (by omega) (by omega)
 have le2 : zs[j - 1] ≤ zs[j] := List.pairwise_iff_getElem.1 h (j - 1) j (by omega) lj (by omega)
 have lt2 : zs[j - 1] < zs[j] := by
  by_cases e : zs[j - 1] < zs[j]
  exact e
  exact absurd (List.le_antisymm (List.not_lt.1 e) le2) hne
 exact List.lt_of_le_of_lt le1 lt2
theorem names_lib (a b : Tree) : (Lib.compact (((a.k ++ b.k).map (·.data.toList)).mergeSort leU)).map ba = namesU a b := by
 refine sorted_ext ?_ (namesU_sorted a b) (fun x => ?_)
 rw [List.pairwise_map]
 refine (compact_sorted (sortU_sorted _)).imp (fun {u v} h => ?_)
 unfold ltB
 rw [Lib.toList_data, Lib.toList_data, ba_data', ba_data']
 exact h
 rw [namesU_mem, List.mem_map]
 constructor
 rintro ⟨u, hu, rfl⟩
 rw [compact_mem, (List.mergeSort_perm _ _).mem_iff, List.mem_map] at hu
 obtain ⟨s, hs, rfl⟩ := hu
 rw [ba_of']
 exact List.mem_append.1 hs
 intro hx
 refine ⟨x.data.toList, ?_, ba_of' x⟩
 rw [compact_mem, (List.mergeSort_perm _ _).mem_iff, List.mem_map]
 exact ⟨x, List.mem_append.2 hx, rfl⟩
def stepG (f : Tree → Tree → Option Tree) (a b : Tree) (x : ByteArray) : Option Tree := if memB b x = true then (if (memV b x).kind = 1 then none else f (memV a x) (memV b x)) else some nul
theorem goM_snoc {f : Tree → Tree → Option Tree} {a b : Tree} {x : ByteArray} {v : Tree} : ∀ {l : List ByteArray} {L : Mem}, goM f a b l = some L → stepG f a b x = some v → goM f a b (l ++ [x]) = some (L ++ [(x, v)])
 | [], L, h, hv => by
  rw [goM] at h
  obtain rfl := Option.some.inj h
  show goM f a b [x] = _
  unfold stepG at hv
  rw [goM, hv, goM]; rfl
 | y :: l, L, h, hv => by
  rw [goM] at h
  split at h
  rename_i u L' e1 e2
  obtain rfl := Option.some.inj h
  rw [List.cons_append, goM, e1, goM_snoc e2 hv]; rfl
  cases h
theorem goM_stop {f : Tree → Tree → Option Tree} {a b : Tree} {x : ByteArray} {l l' : List ByteArray} (h : stepG f a b x = none) : goM f a b (l ++ x :: l') = none :=
 goM_none.2 ⟨x, List.mem_append.2 (.inr (List.mem_cons_self ..)), h⟩
def dI (a b : Tree) (i : Nat) : List ByteArray := ((namesU a b).take i).filter (fun x => !alike a b x)
theorem dI_end {a b : Tree} {i : Nat} (h : (namesU a b).length ≤ i) : dI a b i = diffN a b := by
 unfold dI diffN; rw [List.take_of_length_le h]
theorem dI_at {a b : Tree} {i : Nat} (h : i < (namesU a b).length) : dI a b (i + 1) = if alike a b ((namesU a b).getD i (dflt .str)) = true then dI a b i else dI a b i ++ [(namesU a b).getD i (dflt .str)] := by
 unfold dI
 rw [List.take_succ_eq_append_getElem h, List.filter_append]
 have e : (namesU a b).getD i (dflt .str) = (namesU a b)[i] := by rw [List.getD_eq_getElem?_getD, List.getElem?_eq_getElem h]; rfl
 rw [e]
 cases hx : alike a b (namesU a b)[i] with
 | true => rw [if_pos rfl, List.filter_cons, if_neg (by rw [hx]; decide), List.filter_nil, List.append_nil]
 | false => rw [if_neg (by decide), List.filter_cons, if_pos (by rw [hx]; rfl), List.filter_nil]
theorem dI_same {a b : Tree} {i : Nat} (h : i < (namesU a b).length) (hx : alike a b ((namesU a b).getD i (dflt .str)) = true) : dI a b (i + 1) = dI a b i := by rw [dI_at h, if_pos hx]
theorem dI_on {a b : Tree} {i : Nat} (h : i < (namesU a b).length) (hx : alike a b ((namesU a b).getD i (dflt .str)) = false) : dI a b (i + 1) = dI a b i ++ [(namesU a b).getD i (dflt .str)] := by rw [dI_at h, if_neg (by rw [hx]; decide)]
theorem dI_split {a b : Tree} {i : Nat} (h : i < (namesU a b).length) (hx : alike a b ((namesU a b).getD i (dflt .str)) = false) : ∃ l', diffN a b = dI a b i ++ (namesU a b).getD i (dflt .str) :: l' := by
 refine ⟨((namesU a b).drop (i + 1)).filter (fun x => !alike a b x), ?_⟩
 rw [List.append_cons, ← dI_on h hx]
 unfold dI diffN
 rw [← List.filter_append, List.take_append_drop]
theorem dI_len (a b : Tree) (i : Nat) : (dI a b i).length ≤ (namesU a b).length := by
 unfold dI
 exact Nat.le_trans (List.length_filter_le _ _) (by rw [List.length_take]; exact Nat.min_le_right _ _)
theorem insS_len (x : ByteArray) : ∀ l : List ByteArray, (insS x l).length ≤ l.length + 1
 | [] => by simp [insS]
 | y :: l => by
  have := insS_len x l
  unfold insS
  split
  simp
  split
  simp
  simp only [List.length_cons]; omega
theorem namesU_len (a b : Tree) : (namesU a b).length ≤ a.k.length + b.k.length := by
 unfold namesU
 rw [← List.length_append]
 generalize a.k ++ b.k = l
 induction l with
 | nil => simp
 | cons x l ih =>
  have := insS_len x (l.foldr insS [])
  rw [List.foldr_cons, List.length_cons]; omega
structure GoJ (f : Tree → Tree → Option Tree) (a b : Tree) (i : Nat) (L : Mem) : Prop where
 le : i ≤ (namesU a b).length
 go : goM f a b (dI a b i) = some L
theorem GoJ.start (f : Tree → Tree → Option Tree) (a b : Tree) : GoJ f a b 0 [] := ⟨Nat.zero_le _, rfl⟩
section
variable {f : Tree → Tree → Option Tree} {a b : Tree} {i : Nat} {L : Mem}
theorem GoJ.len (h : GoJ f a b i L) : L.length ≤ a.k.length + b.k.length := by
 have h1 := (goM_look (y := ba []) h.go).1
 have h2 := congrArg List.length h1
 rw [List.length_map] at h2
 have h3 := dI_len a b i
 have h4 := namesU_len a b
 omega
theorem GoJ.same (h : GoJ f a b i L) (hi : i < (namesU a b).length) (hx : alike a b ((namesU a b).getD i (dflt .str)) = true) : GoJ f a b (i + 1) L := ⟨hi, by rw [dI_same hi hx]; exact h.go⟩
theorem GoJ.on (h : GoJ f a b i L) (hi : i < (namesU a b).length) (hx : alike a b ((namesU a b).getD i (dflt .str)) = false) {v : Tree} (hv : stepG f a b ((namesU a b).getD i (dflt .str)) = some v) : GoJ f a b (i + 1) (L ++ [((namesU a b).getD i (dflt .str), v)]) := ⟨hi, by rw [dI_on hi hx]; exact goM_snoc h.go hv⟩
theorem GoJ.stop (h : GoJ f a b i L) (hi : i < (namesU a b).length) (hx : alike a b ((namesU a b).getD i (dflt .str)) = false) (hv : stepG f a b ((namesU a b).getD i (dflt .str)) = none) : goM f a b (diffN a b) = none := by
 obtain ⟨l', hl⟩ := dI_split hi hx
 rw [hl]; exact goM_stop hv
theorem GoJ.fin (h : GoJ f a b i L) (hi : (namesU a b).length ≤ i) : goM f a b (diffN a b) = some L := by rw [← dI_end hi]; exact h.go
theorem step_gone {x : ByteArray} (h : memB b x = false) : stepG f a b x = some nul := if_neg (by rw [h]; decide)
theorem step_null {x : ByteArray} (h : memB b x = true) (h1 : (memV b x).kind = 1) : stepG f a b x = none := by unfold stepG; rw [if_pos h, if_pos h1]
theorem step_go {x : ByteArray} (h : memB b x = true) (h1 : ¬ (memV b x).kind = 1) : stepG f a b x = f (memV a x) (memV b x) := by unfold stepG; rw [if_pos h, if_neg h1]
end
theorem mO_leaf {n : Nat} {a b : Tree} (h : ¬ b.kind = 7) : mergedO (n + 1) a b = some b := by rw [mergedO, if_neg h]
theorem mO_obj {n : Nat} {a b : Tree} {L : Mem} (h : b.kind = 7) (hg : goM (mergedO n) (obT a) b (diffN (obT a) b) = some L) : mergedO (n + 1) a b = some (objM L) := by rw [mergedO, if_pos h, hg]; rfl
theorem mO_none {n : Nat} {a b : Tree} (h : b.kind = 7) (hg : goM (mergedO n) (obT a) b (diffN (obT a) b) = none) : mergedO (n + 1) a b = none := by rw [mergedO, if_pos h, hg]; rfl
theorem nul_nodes : nodes nul = 1 := by simp [nul, nodes, nodesL]
theorem nul_fineT : fineT nul := (fine_eq _).2 ⟨⟨Ok.nil, by decide, by decide, by decide⟩, trivial⟩
theorem obT_nodes (t : Tree) : nodes (obT t) ≤ nodes t := by
 unfold obT
 split
 exact Nat.le_refl _
 have h : nodes (objM []) = 1 := by simp [objM, nodes, nodesL]
 have := nodes_eq t; omega
theorem obT_fine {t : Tree} (h : fineT t) : fineT (obT t) := by
 unfold obT
 split
 exact h
 exact (fine_eq _).2 ⟨⟨Ok.nil, by decide, by decide, by decide⟩, trivial⟩
structure OkM (f : Tree → Tree → Tree) : Prop where
 nodes : ∀ t p, nodes (f t p) + 1 ≤ nodes t + 2 * nodes p
 fine : ∀ t p, fineT t → fineT p → F.nodes t + 2 * F.nodes p < 100000000 → fineT (f t p)
section
variable {f : Tree → Tree → Tree}
theorem step_nodes (h : OkM f) (u : Tree) (q : ByteArray × Tree) : nodes (stepM f u q) ≤ nodes u + 2 * nodes q.2 := by
 unfold stepM
 split
 have := unset_less measNodes u q.1
 omega
 cases hm : memB u q.1 with
 | true =>
  rw [if_pos rfl]
  have h1 := h.nodes (memV u q.1) q.2
  have h2 := set_there measNodes hm (f (memV u q.1) q.2)
  omega
 | false =>
  rw [if_neg (by decide)]
  have h1 := h.nodes nul q.2
  have h2 := set_more measNodes u q.1 (f nul q.2)
  have h3 := nul_nodes
  omega
theorem step_fine (h : OkM f) {u : Tree} {q : ByteArray × Tree} (hu : fineT u) (hq : fineT q.2) (hn : nodes u + 2 * nodes q.2 < 100000000) : fineT (stepM f u q) := by
 unfold stepM
 split
 exact fine_unsetT hu (by omega) _
 refine fine_setT hu ?_ (by omega) _
 split
 have := memV_nodes' u q.1
 exact h.fine _ _ (fine_memV hu _) hq (by omega)
 have h1 := nul_nodes
 have h2 := nodes_eq u
 exact h.fine _ _ nul_fineT hq (by omega)
theorem fold_nodes (h : OkM f) : ∀ (L : Mem) (u : Tree), nodes (L.foldl (stepM f) u) ≤ nodes u + 2 * nodesL (L.map (·.2))
 | [], u => by simp [nodesL]
 | q :: L, u => by
  have h1 := step_nodes h u q
  have h2 := fold_nodes h L (stepM f u q)
  simp only [List.foldl_cons, List.map_cons, nodesL]; omega
theorem fold_fine (h : OkM f) : ∀ (L : Mem) (u : Tree), fineT u → (∀ q ∈ L, fineT q.2) → nodes u + 2 * nodesL (L.map (·.2)) < 100000000 → fineT (L.foldl (stepM f) u)
 | [], u, hu, _, _ => hu
 | q :: L, u, hu, hL, hn => by
  simp only [List.map_cons, nodesL] at hn
  have h1 := step_nodes h u q
  exact fold_fine h L _ (step_fine h hu (hL q (List.mem_cons_self ..)) (by omega)) (fun q hq => hL q (List.mem_cons_of_mem _ hq)) (by omega)
end
theorem mems_sum (p : Tree) : nodesL ((mems p).map (·.2)) + 1 ≤ nodes p := by
 have h := nodes_eq p
 rw [mems_v]
 unfold cutV
 split
 have := nodesL_cut p.v (min p.k.length p.v.length); omega
 simp only [nodesL]; omega
theorem mems_fine {p : Tree} (h : fineT p) : ∀ q ∈ mems p, fineT q.2 := fun q hq => fine_mem ((fine_eq p).1 h).2 (mems_in hq)
theorem mergeR_ok : ∀ n, OkM (mergeR n)
 | 0 => ⟨fun t p => by have := nodes_eq t; have := nodes_eq p; show nodes p + 1 ≤ _; omega, fun t p _ hp _ => hp⟩
 | n + 1 => by
  have ih := mergeR_ok n
  refine ⟨fun t p => ?_, fun t p ht hp hn => ?_⟩
  rw [mergeR]
  split
  have h1 := fold_nodes ih (mems p) (obT t)
  have h2 := obT_nodes t
  have h3 := mems_sum p
  omega
  have := nodes_eq t; have := nodes_eq p; omega
  rw [mergeR]
  split
  have h2 := obT_nodes t
  have h3 := mems_sum p
  exact fold_fine ih _ _ (obT_fine ht) (mems_fine hp) (by omega)
  exact hp
structure MgJ (n : Nat) (t p : Tree) (i : Nat) (u : Tree) : Prop where
 le : i ≤ (mems p).length
 go : ((mems p).drop i).foldl (stepM (mergeR n)) u = mergeR (n + 1) t p
 fine : fineT u
 few : nodes u + 2 * nodesL (((mems p).drop i).map (·.2)) < 100000000
theorem MgJ.start {n : Nat} {t p : Tree} (h7 : p.kind = 7) (ht : fineT t) (hn : nodes t + 2 * nodes p < 100000000) : MgJ n t p 0 (obT t) :=
 ⟨Nat.zero_le _, by rw [mergeR, if_pos h7]; rfl, obT_fine ht, by have h2 := obT_nodes t; have h3 := mems_sum p; show nodes (obT t) + 2 * nodesL ((mems p).map (·.2)) < _; omega⟩
section
variable {n : Nat} {t p : Tree} {i : Nat} {u : Tree}
theorem MgJ.on (h : MgJ n t p i u) (h7 : p.kind = 7) (hp : fineT p) (h1 : i < p.k.length) (h2 : i < p.v.length) : MgJ n t p (i + 1) (stepM (mergeR n) u (p.k.getD i (dflt .str), p.v.getD i (dflt .tree))) := by
 have hd := mems_drop h7 h1 h2
 have hf := h.few
 have hg := h.go
 rw [hd] at hf hg
 simp only [List.map_cons, nodesL] at hf
 have hs := step_nodes (mergeR_ok n) u (p.k.getD i (dflt .str), p.v.getD i (dflt .tree))
 refine ⟨by rw [mems_len h7]; omega, hg, step_fine (mergeR_ok n) h.fine (fine_at hp h2 _) (by show nodes u + 2 * nodes (p.v.getD i (dflt .tree)) < _; omega), by simp only at hs; omega⟩
theorem MgJ.fin (h : MgJ n t p i u) (hi : p.k.length ≤ i ∨ p.v.length ≤ i) : u = mergeR (n + 1) t p := by
 rw [← h.go, mems_end (.inr hi)]; rfl
theorem MgJ.at (h : MgJ n t p i u) (h7 : p.kind = 7) (h1 : i < p.k.length) (h2 : i < p.v.length) : nodes u + 2 * nodes (p.v.getD i (dflt .tree)) < 100000000 := by
 have hf := h.few
 rw [mems_drop h7 h1 h2] at hf
 simp only [List.map_cons, nodesL] at hf; omega
end
theorem step_unset {f : Tree → Tree → Tree} {u v : Tree} {x : ByteArray} (h : v.kind = 1) : stepM f u (x, v) = unsetT u x := if_pos h
theorem step_there {f : Tree → Tree → Tree} {u v : Tree} {x : ByteArray} (h : ¬ v.kind = 1) (hm : memB u x = true) : stepM f u (x, v) = setT u x (f (memV u x) v) := by unfold stepM; rw [if_neg h, if_pos hm]
theorem step_new {f : Tree → Tree → Tree} {u v : Tree} {x : ByteArray} (h : ¬ v.kind = 1) (hm : memB u x = false) : stepM f u (x, v) = setT u x (f nul v) := by unfold stepM; rw [if_neg h, if_neg (show ¬ memB u x = true by rw [hm]; decide)]
def maskI (a b : Tree) (i : Nat) : List (List ByteArray) := (dI a b i).map fun x => [x]
def valI (a b : Tree) (i : Nat) : Mem := ((dI a b i).filter (fun x => memB b x)).map (fun x => (x, memV b x))
def vK (a b : Tree) (i : Nat) : List ByteArray := (valI a b i).map (·.1)
def vV (a b : Tree) (i : Nat) : List Tree := (valI a b i).map (·.2)
section
variable {a b : Tree} {i : Nat}
theorem maskI_end (h : (namesU a b).length ≤ i) : maskI a b i = maskD a b := by unfold maskI maskD; rw [dI_end h]
theorem valI_end (h : (namesU a b).length ≤ i) : valI a b i = valsM a b := by unfold valI valsM; rw [dI_end h]
theorem maskI_same (h : i < (namesU a b).length) (hx : alike a b ((namesU a b).getD i (dflt .str)) = true) : maskI a b i = maskI a b (i + 1) := by unfold maskI; rw [dI_same h hx]
theorem maskI_on (h : i < (namesU a b).length) (hx : alike a b ((namesU a b).getD i (dflt .str)) = false) : maskI a b i ++ [[(namesU a b).getD i (dflt .str)]] = maskI a b (i + 1) := by unfold maskI; rw [dI_on h hx, List.map_append]; rfl
theorem valI_same (h : i < (namesU a b).length) (hx : alike a b ((namesU a b).getD i (dflt .str)) = true) : valI a b i = valI a b (i + 1) := by unfold valI; rw [dI_same h hx]
theorem valI_off (h : i < (namesU a b).length) (hx : alike a b ((namesU a b).getD i (dflt .str)) = false) (hm : memB b ((namesU a b).getD i (dflt .str)) = false) : valI a b i = valI a b (i + 1) := by
 unfold valI; rw [dI_on h hx, List.filter_append, List.filter_cons, if_neg (by rw [hm]; decide), List.filter_nil, List.append_nil]
theorem valI_on (h : i < (namesU a b).length) (hx : alike a b ((namesU a b).getD i (dflt .str)) = false) (hm : memB b ((namesU a b).getD i (dflt .str)) = true) : valI a b (i + 1) = valI a b i ++ [((namesU a b).getD i (dflt .str), memV b ((namesU a b).getD i (dflt .str)))] := by
 unfold valI; rw [dI_on h hx, List.filter_append, List.filter_cons, if_pos hm, List.filter_nil, List.map_append]; rfl
theorem vK_same (h : i < (namesU a b).length) (hx : alike a b ((namesU a b).getD i (dflt .str)) = true) : vK a b i = vK a b (i + 1) := by unfold vK; rw [valI_same h hx]
theorem vV_same (h : i < (namesU a b).length) (hx : alike a b ((namesU a b).getD i (dflt .str)) = true) : vV a b i = vV a b (i + 1) := by unfold vV; rw [valI_same h hx]
theorem vK_off (h : i < (namesU a b).length) (hx : alike a b ((namesU a b).getD i (dflt .str)) = false) (hm : memB b ((namesU a b).getD i (dflt .str)) = false) : vK a b i = vK a b (i + 1) := by unfold vK; rw [valI_off h hx hm]
theorem vV_off (h : i < (namesU a b).length) (hx : alike a b ((namesU a b).getD i (dflt .str)) = false) (hm : memB b ((namesU a b).getD i (dflt .str)) = false) : vV a b i = vV a b (i + 1) := by unfold vV; rw [valI_off h hx hm]
theorem vK_on (h : i < (namesU a b).length) (hx : alike a b ((namesU a b).getD i (dflt .str)) = false) (hm : memB b ((namesU a b).getD i (dflt .str)) = true) : vK a b i ++ [(namesU a b).getD i (dflt .str)] = vK a b (i + 1) := by unfold vK; rw [valI_on h hx hm, List.map_append]; rfl
theorem vV_on (h : i < (namesU a b).length) (hx : alike a b ((namesU a b).getD i (dflt .str)) = false) (hm : memB b ((namesU a b).getD i (dflt .str)) = true) : vV a b i ++ [memV b ((namesU a b).getD i (dflt .str))] = vV a b (i + 1) := by unfold vV; rw [valI_on h hx hm, List.map_append]; rfl
end
theorem maskI_len (a b : Tree) (i : Nat) : (maskI a b i).length ≤ a.k.length + b.k.length := by
 have h1 := dI_len a b i
 have h2 := namesU_len a b
 unfold maskI; rw [List.length_map]; omega
theorem valI_len (a b : Tree) (i : Nat) : (valI a b i).length ≤ a.k.length + b.k.length := by
 have h1 := dI_len a b i
 have h2 := namesU_len a b
 have h3 := List.length_filter_le (fun x => memB b x) (dI a b i)
 unfold valI; rw [List.length_map]; omega
theorem vK_len (a b : Tree) (i : Nat) : (vK a b i).length ≤ a.k.length + b.k.length := by unfold vK; rw [List.length_map]; exact valI_len a b i
theorem vV_len (a b : Tree) (i : Nat) : (vV a b i).length ≤ a.k.length + b.k.length := by unfold vV; rw [List.length_map]; exact valI_len a b i
theorem maskI_small {a b : Tree} (i : Nat) (ha : ∀ x ∈ a.k, x.size < 4294967281) (hb : ∀ x ∈ b.k, x.size < 4294967281) : ∀ p ∈ maskI a b i, smalls p := fun p hp => by
 obtain ⟨x, hx, rfl⟩ := List.mem_map.1 hp
 have h1 : x ∈ namesU a b := List.mem_of_mem_take (List.mem_filter.1 hx).1
 refine ⟨fun y hy => ?_, by show (1 : Nat) < _; decide⟩
 rw [List.mem_singleton.1 hy]
 rcases namesU_mem.1 h1 with h | h
 exact ha x h
 exact hb x h
theorem obT_small {a : Tree} (ha : ∀ x ∈ a.k, x.size < 4294967281) : ∀ x ∈ (obT a).k, x.size < 4294967281 := by
 unfold obT
 split
 exact ha
 intro x hx; simp [objM, Tree.k] at hx
theorem own_small {t : Tree} (h : ownO t = true) : ∀ x ∈ t.k, x.size < 4294967281 := fun x hx => by
 unfold ownO at h
 simp only [Bool.and_eq_true] at h
 have hk := h.2.2.2.2.1
 unfold keysO at hk
 split at hk
 rw [Bool.and_eq_true] at hk
 have hn := hk.1
 unfold namesOk at hn
 rw [Bool.and_eq_true, List.all_eq_true] at hn
 obtain ⟨i, hi, rfl⟩ := List.mem_iff_getElem.1 hx
 have h1 := hn.1 i (by simpa using hi)
 unfold nmOk at h1
 rw [Bool.and_eq_true] at h1
 have h2 := h1.1
 unfold textOk at h2
 rw [Bool.and_eq_true, decide_eq_true_eq] at h2
 have e : t.k.getD i (dflt .str) = t.k[i] := by rw [List.getD_eq_getElem?_getD, List.getElem?_eq_getElem hi]; rfl
 rw [e] at h2
 have := h2.1; omega
 rw [show t.k = [] from List.eq_nil_of_length_eq_zero (by have := eq_of_beq hk; omega)] at hx
 simp at hx
theorem valid_small {t : Tree} (h : validT t = true) : ∀ x ∈ t.k, x.size < 4294967281 := own_small (chk_own h).1
def maskG (a b : Tree) : Pat × Bool :=
 if sameT a b = true then (⟨3, [], objM [], []⟩, true)
 else if b.kind ≠ 7 ∨ (a.kind ≠ 7 ∧ b.k.length = 0) then (Pat.zero, false)
 else (⟨3, [], objM (valsM (obT a) b), maskD (obT a) b⟩, checkF (maskD (obT a) b))
theorem maskG_fin {a b : Tree} {i : Nat} (hs : sameT a b = false) (h1 : ¬ (b.kind ≠ 7 ∨ (a.kind ≠ 7 ∧ b.k.length = 0))) (hi : (namesU (obT a) b).length ≤ i) : maskG a b = (⟨3, [], .mk 7 false ⟨false, [], 0⟩ (ba []) (vK (obT a) b i) (vV (obT a) b i), maskI (obT a) b i⟩, checkF (maskI (obT a) b i)) := by
 unfold maskG
 rw [if_neg (by rw [hs]; decide), if_neg h1, maskI_end hi]
 unfold vK vV
 rw [valI_end hi]; rfl
def theM (r : Option Tree) : Tree := r.getD Tree.zero
def canF (n : Nat) (a b : Tree) (lang : Int) : Bool := validT a && (validT b && (if lang = 2 then (mergedO n a b).isSome else if lang = 3 then (maskG a b).2 else lang == 1))
def diffP (n : Nat) (a b : Tree) (lang : Int) : Pat × Int :=
 if (validT a && validT b) = true then (if canF n a b lang = true then (if lang = 2 then ⟨2, [], theM (mergedO n a b), []⟩ else (maskG a b).1, 0) else (Pat.zero, 7)) else (Pat.zero, 1)
open Go.Proofs.Tryz
theorem check_lim {n : Num} (ha : Ok n.m) (h : checkN n = true) : n.m = lim (val n.m) := by
 unfold checkN at h
 split at h
 rename_i h0
 rw [List.eq_nil_of_length_eq_zero h0]; simp [val, lim_zero]
 rename_i h0
 split at h
 cases h
 split at h
 cases h
 rename_i h1
 exact top_lim ha h0 h1
theorem isN_lim {n : Num} (ha : Ok n.m) : (isN n).m = lim (val (isN n).m) := by
 unfold isN
 split
 rename_i h; exact check_lim ha h
 simp [val, lim_zero]
theorem sameN_eq {n k : Num} (ha : Ok n.m) (hb : Ok k.m) : sameN n k = ((isN n).neg == (isN k).neg && ((isN n).e == (isN k).e && decide ((isN n).m = (isN k).m))) := by
 unfold sameN
 congr 2
 rw [Bool.eq_iff_iff, beq_iff_eq, decide_eq_true_iff]
 constructor
 intro h; rw [isN_lim ha, isN_lim hb, h]
 intro h; rw [h]
theorem limbs_eq {a b : List Int} (hl : a.length = b.length) (h : ∀ j, j < a.length → a.getD j (dflt (.int .u32)) = b.getD j (dflt (.int .u32))) : a = b := by
 refine List.ext_getElem hl (fun i h1 h2 => ?_)
 have := h i h1
 rw [List.getD_eq_getElem?_getD, List.getD_eq_getElem?_getD, List.getElem?_eq_getElem h1, List.getElem?_eq_getElem h2] at this
 exact this
theorem conEqU (xs ys : List Int) (h : xs.length < 1000000000) (h2 : ys.length < 1000000000) : Con Tryz.prog I0 137 [.row (.int .u32) xs, .row (.int .u32) ys] (.val (vb (decide (xs = ys)))) := by
 refine con_of Tryz.func137 rfl (Nat.le_of_ble_eq_true rfl) stab (fun w0 fz a hI hs => ?_)
 refine wNs hs hI [] 11 [] [(0, rwU xs), (1, rwU ys)] [] fun a w hs => ?_
 refine wp_seq ?_
 rcases bt ((xs.length : Int) != (ys.length : Int)) with b1 | b1
 have n1 := bne_iff_ne.1 b1
 refine wN hs hI (bz 1 1) 12172688 [q1 b1] .ret [(4, vb false)] [] fun a w hs => ?_
 refine then_ret ?_
 exact rK (.val (vb false)) [] hs (by rw [decide_eq_false (fun e => by subst e; simp at b1)])
 have n1 := bne_eq_false_iff_eq.1 b1
 refine wN hs hI (bz 1 0) 72688 [q1 b1] .norm [(0, rwU xs), (1, rwU ys)] [] fun a w hs => ?_
 refine then_norm ?_
 refine wp_seq ?_
 refine wNs hs hI [] 18 [] [(0, rwU xs), (1, rwU ys), (12, vi (xs.length : Int)), (13, vi 0)] [] fun a w hs => ?_
 refine wp_block ?_
 refine loop_L (N := Tryz.f137.ntmps) (w0 := w0) (ow := noO fz) (α := Nat) (fun p => [(0, rwU xs), (1, rwU ys), (12, vi (xs.length : Int)), (13, vi (p : Int))]) (fun p => []) (fun p => p ≤ xs.length ∧ ∀ j, j < p → xs.getD j (dflt (.int .u32)) = ys.getD j (dflt (.int .u32))) (fun p => xs.length - p) 0 ?_ ?_ ?_
 exact ⟨Nat.zero_le _, fun j hj => absurd hj (Nat.not_lt_zero _)⟩
 exact (hs.cst [(0, rwU xs), (1, rwU ys), (12, vi (xs.length : Int)), (13, vi ((0 : Nat) : Int))] [] rfl).rk []
 rintro i hJ a w hs
 obtain ⟨hi, hall⟩ := hJ
 rcases bd ((i : Int) < (xs.length : Int)) with ⟨b2, n2⟩ | ⟨b2, n2⟩
 rcases bt ((xs.getD i (dflt (.int .u32))) != (ys.getD i (dflt (.int .u32)))) with b3 | b3
 have n3 := bne_iff_ne.1 b3
 refine wN hs hI (bz 2 3) 121726607070982720 [q1 b2, q4 (i : Int) xs.length, q4 (i : Int) ys.length, q1 b3] .ret [(4, vb false)] [] fun a w hs => ?_
 refine then_ret ?_
 refine inb_ret ?_
 refine then_ret ?_
 exact rK (.val (vb false)) [] hs (by rw [decide_eq_false (fun e => by subst e; simp at b3)])
 have n3 := bne_eq_false_iff_eq.1 b3
 refine wN hs hI (bz 2 1) 1729726607070982720 [q1 b2, q4 (i : Int) xs.length, q4 (i : Int) ys.length, q1 b3, q3 ((i : Int) + 1)] .norm [(0, rwU xs), (1, rwU ys), (12, vi (xs.length : Int)), (13, vi ((i : Int) + 1))] [] fun a w hs => ?_
 refine then_norm ⟨i + 1, ⟨by omega, fun j hj => by rcases Nat.lt_succ_iff_lt_or_eq.1 hj with h | h; exact hall j h; subst h; exact (by simpa using b3)⟩, by omega, ?_⟩
 exact hs.rk []
 refine wN hs hI (bz 1 0) 720 [q1 b2] (.exit 0) [] [] fun a w hs => ?_
 refine then_exit ?_
 refine inb_hit ?_
 refine then_norm ?_
 refine wN hs hI [] 120 [] .ret [(4, vb true)] [] fun a w hs => ?_
 exact rK (.val (vb true)) [] hs (by rw [decide_eq_true (limbs_eq (by omega) (fun j hj => hall j (by omega)))])
theorem conOf (n : Num) (ha : Ok n.m) (hl : n.m.length < 1000000000) : Con Tryz.prog I0 136 [.agg [vb n.neg, .row (.int .u32) n.m, vi n.e]] (.val (.agg [vb ((isN n).neg), .row (.int .u32) ((isN n).m), vi ((isN n).e)])) := by
 refine con_of Tryz.func136 rfl (Nat.le_of_ble_eq_true rfl) stab (fun w0 fz a hI hs => ?_)
 rcases bt (checkN n) with b1 | b1
 refine wL hs hI [(1, rc [(1, ciV 138 [.agg [vb n.neg, rwU n.m, vi n.e]] (vb (checkN n)))])] (bz 1 0) 198972904198 [q1 (ng1 b1)] .ret [(2, .ptr 1001 0)] [(1001, .var [vb n.neg, rwU n.m, vi n.e])] ⟨con214 _ ha hl, tv⟩ fun a w hs => ?_
 exact rK (.val (.agg [vb n.neg, rwU n.m, vi n.e])) [] hs (by rw [isN, if_pos b1])
 refine wL hs hI [(1, rc [(1, ciV 138 [.agg [vb n.neg, rwU n.m, vi n.e]] (vb (checkN n)))])] (bz 1 1) 19072904198 [q1 (ng0 b1)] .ret [(2, .ptr 1001 0)] [(1001, .var [vb false, nilv, vi 0])] ⟨con214 _ ha hl, tv⟩ fun a w hs => ?_
 exact rK (.val (.agg [vb false, rwU ([]), vi 0])) [] hs (by rw [isN, if_neg (by rw [b1]; decide)])
theorem conSameN (n k : Num) (ha : Ok n.m) (hb : Ok k.m) (hl : n.m.length < 1000000000) (hm : k.m.length < 1000000000) : Con Tryz.prog I0 98 [.agg [vb n.neg, .row (.int .u32) n.m, vi n.e], .agg [vb k.neg, .row (.int .u32) k.m, vi k.e]] (.val (vb (sameN n k))) := by
 refine con_of Tryz.func98 rfl (Nat.le_of_ble_eq_true rfl) stab (fun w0 fz a hI hs => ?_)
 refine wNs hs hI [] 18 [] [(2, .ptr 1000 0), (3, .ptr 1001 0)] [(1000, .var [vb n.neg, rwU n.m, vi n.e]), (1001, .var [vb k.neg, rwU k.m, vi k.e])] fun a w hs => ?_
 refine wLs hs hI [(1, rc [(1, ciV 136 [.agg [vb n.neg, rwU n.m, vi n.e]] (.agg [vb ((isN n).neg), rwU ((isN n).m), vi ((isN n).e)])), (3, ciV 136 [.agg [vb k.neg, rwU k.m, vi k.e]] (.agg [vb ((isN k).neg), rwU ((isN k).m), vi ((isN k).e)]))])] [] 84141 [] [(2, .ptr 1000 0), (3, .ptr 1001 0)] [(1000, .var [vb ((isN n).neg), rwU ((isN n).m), vi ((isN n).e)]), (1001, .var [vb ((isN k).neg), rwU ((isN k).m), vi ((isN k).e)])] ⟨conOf _ (by assumption) (by assumption), conOf _ (by assumption) (by assumption), tv⟩ fun a w hs => ?_
 rcases bq ((isN n).neg) ((isN k).neg) with ⟨b1, n1⟩ | ⟨b1, n1⟩
 rcases bq ((isN n).e) ((isN k).e) with ⟨b2, n2⟩ | ⟨b2, n2⟩
 refine wL hs hI [(2, rg [(17, ciV 137 [rwU ((isN n).m), rwU ((isN k).m)] (vb (decide ((isN n).m = (isN k).m))))] [6, 7, 8, 9, 10, 1011, 13, 14, 15, 16, 17, 1018] [])] [] 1966666661743777777777788 [q1 b1, q1 b1, q1 b1, q1 b1, q1 b1, q1 b1, q1 b2, q1 b2, q1 b2, q1 b2, q1 b2, q1 b2] .ret [(4, vb (decide ((isN n).m = (isN k).m)))] [] ⟨conEqU _ _ (isN_len hl) (isN_len hm), tv⟩ fun a w hs => ?_
 exact rK (.val (vb (decide ((isN n).m = (isN k).m)))) [] hs (by rw [sameN_eq ha hb]; simp only [b1, b2]; first | done | rfl)
 refine wL hs hI [(2, rg [] [6, 7, 8, 9, 10, 1011] [13, 14, 15, 16, 17, 1018])] [] 12666666173333377777788 [q1 b1, q1 b1, q1 b1, q1 b1, q1 b1, q1 b1, q1 b2, q1 b2, q1 b2, q1 b2, q1 b2, q1 b2] .ret [(4, vb false)] [] tv fun a w hs => ?_
 exact rK (.val (vb false)) [] hs (by rw [sameN_eq ha hb]; simp only [b1, b2]; first | done | rfl)
 refine wL hs hI [(2, rg [] [] [6, 7, 8, 9, 10, 1011, 13, 14, 15, 16, 17, 1018])] [] 166666173333373333388 [q1 b1, q1 b1, q1 b1, q1 b1, q1 b1, q1 b1, q0 false, q0 false, q0 false, q0 false, q0 false, q0 false] .ret [(4, vb false)] [] tv fun a w hs => ?_
 exact rK (.val (vb false)) [] hs (by rw [sameN_eq ha hb]; simp only [b1]; first | done | rfl)
theorem conEqF (xs ys : List Tree) (H : ∀ t u, t ∈ xs → u ∈ ys → Con Tryz.prog I0 55 [.agg (encTree t), .agg (encTree u)] (.val (vb (sameT t u)))) (h : xs.length < 1000000000) (h2 : ys.length < 1000000000) : Con Tryz.prog I0 100 [.row .tree xs, .row .tree ys, .lit (.func (.func 55) #[] #[])] (.val (vb (decide (xs.length = ys.length) && sameL xs ys))) := by
 refine con_of Tryz.func100 rfl (Nat.le_of_ble_eq_true rfl) stab (fun w0 fz a hI hs => ?_)
 refine wNs hs hI [] 11 [] [(0, rwT xs), (1, rwT ys), (2, .lit (.func (.func 55) #[] #[]))] [] fun a w hs => ?_
 refine wp_seq ?_
 rcases bt ((xs.length : Int) != (ys.length : Int)) with b1 | b1
 have n1 := bne_iff_ne.1 b1
 refine wN hs hI (bz 1 1) 12172688 [q1 b1] .ret [(6, vb false)] [] fun a w hs => ?_
 refine then_ret ?_
 exact rK (.val (vb false)) [] hs (by rw [decide_eq_false (by omega)]; rfl)
 have n1 := bne_eq_false_iff_eq.1 b1
 refine wN hs hI (bz 1 0) 72688 [q1 b1] .norm [(0, rwT xs), (1, rwT ys), (2, .lit (.func (.func 55) #[] #[]))] [] fun a w hs => ?_
 refine then_norm ?_
 refine wp_seq ?_
 refine wNs hs hI [] 18 [] [(1, rwT ys), (2, .lit (.func (.func 55) #[] #[])), (15, rwT xs), (16, vi (xs.length : Int)), (17, vi 0)] [] fun a w hs => ?_
 refine wp_block ?_
 refine loop_L (N := Tryz.f100.ntmps) (w0 := w0) (ow := noO fz) (α := Nat) (fun p => [(1, rwT ys), (2, .lit (.func (.func 55) #[] #[])), (15, rwT xs), (16, vi (xs.length : Int)), (17, vi (p : Int))]) (fun p => []) (fun p => p ≤ xs.length ∧ sameL (xs.drop p) (ys.drop p) = sameL xs ys) (fun p => xs.length - p) 0 ?_ ?_ ?_
 exact ⟨Nat.zero_le _, rfl⟩
 exact (hs.cst [(1, rwT ys), (2, .lit (.func (.func 55) #[] #[])), (15, rwT xs), (16, vi (xs.length : Int)), (17, vi ((0 : Nat) : Int))] [] rfl).rk []
 rintro i hJ a w hs
 obtain ⟨hi, hd⟩ := hJ
 rcases bd ((i : Int) < (xs.length : Int)) with ⟨b2, n2⟩ | ⟨b2, n2⟩
 rcases bt (sameT (xs.getD i (dflt .tree)) (ys.getD i (dflt .tree))) with b3 | b3
 refine wL hs hI [(7, rc [(3, ciV 55 [aTr ((xs.getD i (dflt .tree))), aTr ((ys.getD i (dflt .tree)))] (vb (sameT (xs.getD i (dflt .tree)) (ys.getD i (dflt .tree)))))])] (bz 2 1) 176726048968709618712720 [q1 b2, q4 (i : Int) xs.length, q4 (i : Int) ys.length, q1 (ng1 b3), q3 ((i : Int) + 1)] .norm [(1, rwT ys), (2, .lit (.func (.func 55) #[] #[])), (15, rwT xs), (16, vi (xs.length : Int)), (17, vi ((i : Int) + 1))] [] ⟨H _ _ (getD_mem (by omega) _) (getD_mem (by omega) _), tv⟩ fun a w hs => ?_
 refine then_norm ⟨i + 1, ⟨by omega, by rw [← hd, sameL_drop (i := i) (by omega) (by omega), b3]; rfl⟩, by omega, ?_⟩
 exact hs.rk []
 refine wL hs hI [(7, rc [(3, ciV 55 [aTr ((xs.getD i (dflt .tree))), aTr ((ys.getD i (dflt .tree)))] (vb (sameT (xs.getD i (dflt .tree)) (ys.getD i (dflt .tree)))))])] (bz 2 3) 121726048968709618712720 [q1 b2, q4 (i : Int) xs.length, q4 (i : Int) ys.length, q1 (ng0 b3)] .ret [(6, vb false)] [] ⟨H _ _ (getD_mem (by omega) _) (getD_mem (by omega) _), tv⟩ fun a w hs => ?_
 refine then_ret ?_
 refine inb_ret ?_
 refine then_ret ?_
 exact rK (.val (vb false)) [] hs (by rw [decide_eq_true (by omega), ← hd, sameL_drop (i := i) (by omega) (by omega), b3]; rfl)
 refine wN hs hI (bz 1 0) 720 [q1 b2] (.exit 0) [] [] fun a w hs => ?_
 refine then_exit ?_
 refine inb_hit ?_
 refine then_norm ?_
 refine wN hs hI [] 120 [] .ret [(6, vb true)] [] fun a w hs => ?_
 exact rK (.val (vb true)) [] hs (by rw [decide_eq_true (by omega), ← hd, List.drop_of_length_le (by omega)]; rfl)
theorem conSame_ : ∀ (n : Nat) (t u : Tree), nodes t < n → fineT t → fineT u → Con Tryz.prog I0 55 [.agg (encTree t), .agg (encTree u)] (.val (vb (sameT t u))) := by
 intro n
 induction n
 case zero => intro t u hn; omega
 rename_i n ih
 intro t u hn hft hfu
 obtain ⟨⟨hf1, hf2, hf3, hf4⟩, hf5⟩ := (fine_eq t).1 hft
 obtain ⟨⟨hg1, hg2, hg3, hg4⟩, hg5⟩ := (fine_eq u).1 hfu
 refine con_of Tryz.func55 rfl (Nat.le_of_ble_eq_true rfl) stab (fun w0 fz a hI hs => ?_)
 rcases bt (t.kind != u.kind) with b1 | b1
 have n1 := bne_iff_ne.1 b1
 refine wN hs hI (bz 1 1) 121726882918 [q1 b1] .ret [(4, vb false)] [] fun a w hs => ?_
 exact rK (.val (vb false)) [] hs (by rw [sameT_eq]; (repeat (first | rw [if_pos (by omega)] | rw [if_neg (by omega)])))
 have n1 := bne_eq_false_iff_eq.1 b1
 rcases bq (t.kind) (2) with ⟨b2, n2⟩ | ⟨b2, n2⟩
 refine wN hs hI (bz 2 2) 1961889798989726882918 [q1 b1, q1 b2] .ret [(4, vb (t.b == u.b))] [] fun a w hs => ?_
 exact rK (.val (vb (t.b == u.b))) [] hs (by rw [sameT_eq]; (repeat (first | rw [if_pos (by omega)] | rw [if_neg (by omega)])))
 rcases bq (t.kind) (3) with ⟨b3, n3⟩ | ⟨b3, n3⟩
 refine wL hs hI [(11, rc [(4, ciV 98 [.agg [vb t.n.neg, rwU t.n.m, vi t.n.e], .agg [vb u.n.neg, rwU u.n.m, vi u.n.e]] (vb (sameN t.n u.n)))])] (bz 3 4) 1960418297989798989726882918 [q1 b1, q1 b2, q1 b3] .ret [(4, vb (sameN t.n u.n))] [] ⟨conSameN _ _ hf1 hg1 hf2 hg2, tv⟩ fun a w hs => ?_
 exact rK (.val (vb (sameN t.n u.n))) [] hs (by rw [sameT_eq]; (repeat (first | rw [if_pos (by omega)] | rw [if_neg (by omega)])))
 rcases bq (t.kind) (4) with ⟨b4, n4⟩ | ⟨b4, n4⟩
 refine wN hs hI (bz 4 8) 196188679897989798989726882918 [q1 b1, q1 b2, q1 b3, q1 b4] .ret [(4, vb (t.s.toList == u.s.toList))] [] fun a w hs => ?_
 exact rK (.val (vb (t.s.toList == u.s.toList))) [] hs (by rw [sameT_eq]; (repeat (first | rw [if_pos (by omega)] | rw [if_neg (by omega)])))
 rcases bq (t.kind) (5) with ⟨b5, n5⟩ | ⟨b5, n5⟩
 refine wN hs hI (bz 5 16) 19618826798979897989798989726882918 [q1 b1, q1 b2, q1 b3, q1 b4, q1 b5] .ret [(4, vb (t.s.toList == u.s.toList))] [] fun a w hs => ?_
 exact rK (.val (vb (t.s.toList == u.s.toList))) [] hs (by rw [sameT_eq]; (repeat (first | rw [if_pos (by omega)] | rw [if_neg (by omega)])))
 rcases bq (t.kind) (7) with ⟨b6, n6⟩ | ⟨b6, n6⟩
 rcases bd (t.k = u.k) with ⟨b7, n7⟩ | ⟨b7, n7⟩
 refine wL hs hI [(13, rg [(4, ciV 99 [rwS t.k, rwS u.k] (vb (decide (t.k = u.k)))), (10, ciV 100 [rwT t.v, rwT u.v, .lit (.func (.func 55) #[] #[])] (vb (decide (t.v.length = u.v.length) && sameL t.v u.v)))] [6, 7, 8, 9, 10, 1011] [])] (bz 6 32) 196666174377771418967989798979897989798989726882918 [q1 b1, q1 b2, q1 b3, q1 b4, q1 b5, q1 b6, q1 b7, q1 b7, q1 b7, q1 b7, q1 b7, q1 b7] .ret [(4, vb (decide (t.v.length = u.v.length) && sameL t.v u.v))] [] ⟨con134 _ _ (by omega) (by omega), conEqF _ _ (fun x y hx hy => ih x y (by have h1 := nodes_eq t; have h2 := nodesL_mem hx; omega) (fine_mem hf5 hx) (fine_mem hg5 hy)) (by omega) (by omega), tv⟩ fun a w hs => ?_
 exact rK (.val (vb (decide (t.v.length = u.v.length) && sameL t.v u.v))) [] hs (by rw [sameT_eq]; (repeat (first | rw [if_pos (by omega)] | rw [if_neg (by omega)])); rw [b7, decide_eq_true (congrArg List.length (of_decide_eq_true b7))]; rfl)
 refine wL hs hI [(13, rg [(4, ciV 99 [rwS t.k, rwS u.k] (vb (decide (t.k = u.k))))] [] [6, 7, 8, 9, 10, 1011])] (bz 6 32) 1266617333331418967989798979897989798989726882918 [q1 b1, q1 b2, q1 b3, q1 b4, q1 b5, q1 b6, q1 b7, q1 b7, q1 b7, q1 b7, q1 b7, q1 b7] .ret [(4, vb false)] [] ⟨con134 _ _ (by omega) (by omega), tv⟩ fun a w hs => ?_
 exact rK (.val (vb false)) [] hs (by rw [sameT_eq]; (repeat (first | rw [if_pos (by omega)] | rw [if_neg (by omega)])); rw [b7]; simp)
 rcases bq (t.kind) (6) with ⟨b8, n8⟩ | ⟨b8, n8⟩
 refine wL hs hI [(14, rc [(4, ciV 100 [rwT t.v, rwT u.v, .lit (.func (.func 55) #[] #[])] (vb (decide (t.v.length = u.v.length) && sameL t.v u.v)))])] (bz 7 64) 196041829679897989798979897989798989726882918 [q1 b1, q1 b2, q1 b3, q1 b4, q1 b5, q1 b6, q1 b8] .ret [(4, vb (decide (t.v.length = u.v.length) && sameL t.v u.v))] [] ⟨conEqF _ _ (fun x y hx hy => ih x y (by have h1 := nodes_eq t; have h2 := nodesL_mem hx; omega) (fine_mem hf5 hx) (fine_mem hg5 hy)) (by omega) (by omega), tv⟩ fun a w hs => ?_
 exact rK (.val (vb (decide (t.v.length = u.v.length) && sameL t.v u.v))) [] hs (by rw [sameT_eq]; (repeat (first | rw [if_pos (by omega)] | rw [if_neg (by omega)])))
 refine wN hs hI (bz 7 0) 1209129679897989798979897989798989726882918 [q1 b1, q1 b2, q1 b3, q1 b4, q1 b5, q1 b6, q1 b8] .ret [(4, vb true)] [] fun a w hs => ?_
 exact rK (.val (vb true)) [] hs (by rw [sameT_eq]; (repeat (first | rw [if_pos (by omega)] | rw [if_neg (by omega)])))
theorem conSame (t u : Tree) (ht : fineT t) (hu : fineT u) : Con Tryz.prog I0 55 [.agg (encTree t), .agg (encTree u)] (.val (vb (sameT t u))) := conSame_ (nodes t + 1) t u (Nat.lt_succ_self _) ht hu
end Go.Proofs.YtfimffgfnhplkaaGreatDoor.F
namespace Go.Proofs
open Go.Shelf
def Tryz.laysSortS_ren : Go.Shelf.Ren := ⟨fun | 190 => 105 | 125 => 143 | 258 => 142 | 128 => 164 | 129 => 165 | 302 => 155 | 303 => 156 | 304 => 157 | 305 => 158 | 306 => 159 | 307 => 160 | 308 => 161 | 309 => 162 | 310 => 163 | 333 => 172 | 329 => 173 | 330 => 174 | 334 => 175 | 335 => 176 | 336 => 177 | 344 => 184 | n => n, fun | 31 => 25 | 9 => 9 | 3 => 3 | 46 => 148 | 0 => 0 | 51 => 144 | 53 => 140 | 4 => 4 | 183 => 157 | 182 => 156 | 131 => 134 | 5 => 5 | 218 => 170 | 222 => 96 | 228 => 181 | 229 => 182 | n => n, fun | n => n⟩
theorem Tryz.laysSortS : Go.Proofs.Lays.n190 Tryz.prog Tryz.laysSortS_ren := {
 mixed := by kernel_rfl
 f125 := Tryz.func143.trans (congrArg some (by kernel_rfl))
 f128 := Tryz.func164.trans (congrArg some (by kernel_rfl))
 f129 := Tryz.func165.trans (congrArg some (by kernel_rfl))
 f190 := Tryz.func105.trans (congrArg some (by kernel_rfl))
 f258 := Tryz.func142.trans (congrArg some (by kernel_rfl))
 f302 := Tryz.func155.trans (congrArg some (by kernel_rfl))
 f303 := Tryz.func156.trans (congrArg some (by kernel_rfl))
 f304 := Tryz.func157.trans (congrArg some (by kernel_rfl))
 f305 := Tryz.func158.trans (congrArg some (by kernel_rfl))
 f306 := Tryz.func159.trans (congrArg some (by kernel_rfl))
 f307 := Tryz.func160.trans (congrArg some (by kernel_rfl))
 f308 := Tryz.func161.trans (congrArg some (by kernel_rfl))
 f309 := Tryz.func162.trans (congrArg some (by kernel_rfl))
 f310 := Tryz.func163.trans (congrArg some (by kernel_rfl))
 f329 := Tryz.func173.trans (congrArg some (by kernel_rfl))
 f330 := Tryz.func174.trans (congrArg some (by kernel_rfl))
 f333 := Tryz.func172.trans (congrArg some (by kernel_rfl))
 f334 := Tryz.func175.trans (congrArg some (by kernel_rfl))
 f335 := Tryz.func176.trans (congrArg some (by kernel_rfl))
 f336 := Tryz.func177.trans (congrArg some (by kernel_rfl))
 f344 := Tryz.func184.trans (congrArg some (by kernel_rfl))
 t0 := Tryz.underlying0
 a0 := Tryz.isAgg0
 z0 := Tryz.sizeOf0
 v0 := Tryz.zeroValue0
 t3 := Tryz.underlying3
 a3 := Tryz.isAgg3
 z3 := Tryz.sizeOf3
 v3 := Tryz.zeroValue3
 t4 := Tryz.underlying4
 a4 := Tryz.isAgg4
 z4 := Tryz.sizeOf4
 v4 := Tryz.zeroValue4
 t5 := Tryz.underlying5
 a5 := Tryz.isAgg5
 z5 := Tryz.sizeOf5
 v5 := Tryz.zeroValue5
 t9 := Tryz.underlying9
 a9 := Tryz.isAgg9
 z9 := Tryz.sizeOf9
 v9 := Tryz.zeroValue9
 t31 := Tryz.underlying25
 a31 := Tryz.isAgg25
 z31 := Tryz.sizeOf25
 v31 := Tryz.zeroValue25
 t46 := Tryz.underlying148
 a46 := Tryz.isAgg148
 z46 := Tryz.sizeOf148
 v46 := Tryz.zeroValue148
 t51 := Tryz.underlying144
 a51 := Tryz.isAgg144
 z51 := Tryz.sizeOf144
 v51 := Tryz.zeroValue144
 t53 := Tryz.underlying140
 a53 := Tryz.isAgg140
 z53 := Tryz.sizeOf140
 v53 := Tryz.zeroValue140
 t131 := Tryz.underlying134
 a131 := Tryz.isAgg134
 z131 := Tryz.sizeOf134
 v131 := Tryz.zeroValue134
 t182 := Tryz.underlying156
 a182 := Tryz.isAgg156
 z182 := Tryz.sizeOf156
 v182 := Tryz.zeroValue156
 t183 := Tryz.underlying157
 a183 := Tryz.isAgg157
 z183 := Tryz.sizeOf157
 v183 := Tryz.zeroValue157
 t218 := Tryz.underlying170
 a218 := Tryz.isAgg170
 z218 := Tryz.sizeOf170
 v218 := Tryz.zeroValue170
 t222 := Tryz.underlying96
 a222 := Tryz.isAgg96
 z222 := Tryz.sizeOf96
 v222 := Tryz.zeroValue96
 t228 := Tryz.underlying181
 a228 := Tryz.isAgg181
 z228 := Tryz.sizeOf181
 v228 := Tryz.zeroValue181
 t229 := Tryz.underlying182
 a229 := Tryz.isAgg182
 z229 := Tryz.sizeOf182
 v229 := Tryz.zeroValue182 }
def Tryz.laysCompactS_ren : Go.Shelf.Ren := ⟨fun | 194 => 106 | n => n, fun | 31 => 25 | 9 => 9 | 3 => 3 | 4 => 4 | 0 => 0 | n => n, fun | n => n⟩
theorem Tryz.laysCompactS : Go.Proofs.Lays.n194 Tryz.prog Tryz.laysCompactS_ren := {
 mixed := by kernel_rfl
 f194 := Tryz.func106.trans (congrArg some (by kernel_rfl))
 t0 := Tryz.underlying0
 a0 := Tryz.isAgg0
 z0 := Tryz.sizeOf0
 v0 := Tryz.zeroValue0
 t3 := Tryz.underlying3
 a3 := Tryz.isAgg3
 z3 := Tryz.sizeOf3
 v3 := Tryz.zeroValue3
 t4 := Tryz.underlying4
 a4 := Tryz.isAgg4
 z4 := Tryz.sizeOf4
 v4 := Tryz.zeroValue4
 t9 := Tryz.underlying9
 a9 := Tryz.isAgg9
 z9 := Tryz.sizeOf9
 v9 := Tryz.zeroValue9
 t31 := Tryz.underlying25
 a31 := Tryz.isAgg25
 z31 := Tryz.sizeOf25
 v31 := Tryz.zeroValue25 }
end Go.Proofs
namespace Go.Proofs.YtfimffgfnhplkaaGreatDoor.F
open Go Go.RowKit Go.Proofs Go.Sort
abbrev dS (xs : List ByteArray) : List (List UInt8) := xs.map (·.data.toList)
def sortS (xs : List ByteArray) : List ByteArray := ((dS xs).mergeSort leU).map ba
def compS (xs : List ByteArray) : List ByteArray := (Lib.compact (dS xs)).map ba
theorem dS_ba (l : List (List UInt8)) : dS (l.map ba) = l := by
 rw [dS, List.map_map]
 exact (List.map_congr_left (fun x _ => ba_data' x)).trans (List.map_id _)
theorem encS_map (xs : List ByteArray) : (dS xs).map encStr = xs.map Value.string := by
 rw [List.map_map]
 exact List.map_congr_left (fun s _ => congrArg Value.string (ba_of' s))
theorem encS_ba (l : List (List UInt8)) : l.map encStr = (l.map ba).map Value.string := by
 rw [← encS_map, dS_ba]
theorem sortS_len (xs : List ByteArray) : (sortS xs).length = xs.length := by
 unfold sortS; rw [List.length_map, List.length_mergeSort, List.length_map]
theorem compS_len (xs : List ByteArray) : (compS xs).length ≤ xs.length := by
 unfold compS Lib.compact Lib.compactUpTo
 rw [List.length_map, List.length_map]
 refine Nat.le_trans (List.length_filter_le _ _) ?_
 rw [List.length_range]; simp
theorem names_is (a b : Tree) : compS (sortS (a.k ++ b.k)) = namesU a b := by
 unfold compS sortS
 rw [dS_ba]; exact names_lib a b
theorem strs_box {w : World} {fz : Nat → Prop} {η : Nat → Option Value} {u : Value} {e : TypeId} {xs : List ByteArray} (h : BoxR w fz η u (.sl e .str xs)) :
  (xs = [] ∧ u = .slice none 0 0) ∨ ∃ (g cap : Nat) (cur : Array Value), u = .slice (some ⟨g, 0, none⟩) xs.length cap ∧ w.heap[g]? = some (.cells cur e (0, 0)) ∧ xs.length ≤ cap ∧ cap ≤ maxLen ∧ cur.size = cap ∧ cur.toList.take xs.length = xs.map Value.string := by
 obtain ⟨cs, ⟨hlen, ⟨rfl, hn⟩ | ⟨g, cap, cur, rfl, _, hcur, hnc, hcm, hcs, htake⟩⟩, hR⟩ := h
 ·exact .inl ⟨List.eq_nil_of_length_eq_zero hn, rfl⟩
 ·refine .inr ⟨g, cap, cur, rfl, hcur, hnc, hcm, by simpa [sz] using hcs, ?_⟩
  have htk : cur.toList.take xs.length = cs := by rw [← htake]; simp [sz]
  rw [htk]
  have hcl : cs.length = xs.length := by rw [hlen]; simp [sz]
  refine List.ext_getElem (by rw [hcl, List.length_map]) (fun i h1 h2 => ?_)
  have hi : i < xs.length := by rw [← hcl]; exact h1
  obtain ⟨v, hv, hr⟩ := hR i xs[i] 0 (vs xs[i]) (List.getElem?_eq_getElem hi) rfl
  rw [show i * sz Ty.str + 0 = i by simp [sz], List.getElem?_eq_getElem h1] at hv
  rw [Option.some.inj hv, hr.lit_inv, List.getElem_map]
theorem strs_own {w : World} {fz : Nat → Prop} {η : Nat → Option Value} {e : TypeId} {ys : List ByteArray} {g cap : Nat} {C : Array Value} (hC : w.heap[g]? = some (.cells C e (0, 0))) (hn : ys.length ≤ cap) (hm : cap ≤ maxLen) (hs : C.size = cap) (ht : C.toList.take ys.length = ys.map Value.string) : BoxR w fz η (.slice (some ⟨g, 0, none⟩) ys.length cap) (.sl e .str ys) := by
 refine ⟨ys.map Value.string, ⟨by rw [List.length_map]; simp [sz], .inr ⟨g, cap, C, rfl, Nat.zero_le _, hC, hn, hm, by simpa [sz] using hs, by rw [show ys.length * sz Ty.str = ys.length by simp [sz]]; exact ht⟩⟩, fun i x j a hx ha => ?_⟩
 rcases j with _ | j
 simp only [enc, List.getElem?_cons_zero, Option.some.injEq] at ha
 subst ha
 exact ⟨.string x, by simp [sz, hx], .lit _⟩
 simp [enc] at ha
theorem putCells_takeS (d : List (List UInt8)) (c : Array Value) (h : d.length ≤ c.size) : (putCells encStr 0 d.toArray c).toList.take d.length = d.map encStr := by
 refine List.ext_getElem? (fun i => ?_)
 rw [List.getElem?_take, List.getElem?_map]
 by_cases hi : i < d.length
 rw [if_pos hi]
 simp only [putCells, Array.getElem?_toList, Array.getElem?_mapIdx]
 rw [Array.getElem?_eq_getElem (show i < c.size by omega), List.getElem?_eq_getElem hi]
 simp only [Option.map_some]
 rw [if_pos ⟨Nat.zero_le _, by simp; omega⟩, Nat.sub_zero, getElem!_pos d.toArray i (by simpa using hi)]
 simp
 rw [if_neg hi, List.getElem?_eq_none (by omega)]; rfl
theorem args_one {w : World} {fz : Nat → Prop} {η : Nat → Option Value} {vs : Array Value} {u : Value} (h : RL w fz η vs [.own 0]) (hu : η 0 = some u) : vs = #[u] := by
 obtain ⟨hsz, hel⟩ := h
 have h2 : vs.size = 1 := hsz
 have e0 := (hel 0 vs[0] _ (Array.getElem?_eq_getElem (by omega)) rfl).own_inv hu
 refine Array.ext h2 (fun i hi hi2 => ?_)
 match i, hi2 with
 | 0, _ => exact e0
section
variable {w : World} {g k : Nat} {d : Array (List UInt8)} {m : Nat} {os : Array Obj}
theorem put_old (hk : k < w.heap.size) (hn : g ≠ k) : (grow (putRow encStr (Sort.ahead w m) g 0 d) os).heap[k]? = w.heap[k]? := by
 rw [heap_grow_old _ _ (by rw [size_putRow, heap_ahead]; exact hk)]
 simp [putRow, mapBlock, Array.getElem?_modify, hn]
theorem put_new {cur : Array Value} {e : TypeId} (hg : g < w.heap.size) (hcur : w.heap[g]? = some (.cells cur e (0, 0))) : (grow (putRow encStr (Sort.ahead w m) g 0 d) os).heap[g]? = some (.cells (putCells encStr 0 d cur) e (0, 0)) := by
 rw [heap_grow_old _ _ (by rw [size_putRow, heap_ahead]; exact hg)]
 simp [putRow, mapBlock, Array.getElem?_modify, hcur, onCells]
theorem put_size : w.heap.size ≤ (grow (putRow encStr (Sort.ahead w m) g 0 d) os).heap.size := by rw [size_grow, size_putRow, heap_ahead]; omega
end
theorem conSortS (xs : List ByteArray) (hl : xs.length < 4000000000) : ConB Tryz.prog I0 105 [.own 0] [(0, .sl 9 .str xs)] (.val (.tup [])) [(0, .sl 9 .str (sortS xs))] := by
 intro w fz η vs hI hfz hdom hbox hblk hdis hargs
 obtain ⟨u, hu, hb⟩ := hbox 0 _ rfl
 have hvs := args_one hargs hu
 subst hvs
 have hdom' : ∀ (xs' : List ByteArray) b u, η b = some u → (lkp [(0, Box.sl 9 .str xs')] b).isSome = true := fun xs' b u h => by
  have := hdom b u h
  simp only [lkp] at this ⊢
  split
  ·rfl
  ·rename_i hne
   rw [if_neg hne] at this; cases this
 have fin : ∀ (w' : World), w'.os = w.os → w'.tape = w.tape → w'.output = w.output → w.heap.size ≤ w'.heap.size → (∀ k, k < w.heap.size → ¬ Bk η k → w'.heap[k]? = w.heap[k]?) → (BoxR w' (FzB w fz η η) η u (.sl 9 .str (sortS xs))) → PostB w fz η [(0, .sl 9 .str xs)] w' (.returned (.tuple #[])) (.val (.tup [])) [(0, .sl 9 .str (sortS xs))] := by
  intro w' h1 h2 h3 h4 h5 h6
  refine ⟨⟨h1, h2, h3, h4, h5⟩, .inr ⟨η, hdom' _, fun b _ u u' h h' => by rw [h] at h'; exact (Option.some.inj h').symm, fun b u k h hk => ⟨Nat.lt_of_lt_of_le (hblk b u k h hk).1 h4, .inr ⟨b, u, h, hk⟩⟩, hdis, fun b B hb => ?_, ⟨.tuple #[], rfl, .tup #[] [] rfl (fun j v a h => by simp at h)⟩⟩⟩
  simp only [lkp] at hb
  split at hb
  ·rename_i he
   simp only [Option.some.injEq] at hb
   subst hb he
   exact ⟨u, hu, h6⟩
  ·cases hb
 rcases strs_box hb with ⟨rfl, rfl⟩ | ⟨g, cap, cur, rfl, hcur, hnc, hcm, hcs, htake⟩
 ·refine (calls_of_every_depth (fun D => AnyS.slices_Sort_string_none_alone Tryz.laysSortS D none 0 w)).mono ?_
  rintro e w' ⟨rfl, rfl⟩
  exact fin _ rfl rfl rfl (Nat.le_refl _) (fun _ _ _ => rfl) ⟨[], ⟨by simp [sortS], .inl ⟨rfl, by simp [sortS]⟩⟩, fun i x j a hx => by simp [sortS] at hx⟩
 ·have hgb : Bk η g := ⟨0, _, hu, rfl⟩
  have hg : g < w.heap.size := (hblk 0 _ g hu rfl).1
  have hdl : (dS xs).length = xs.length := List.length_map _
  have hH : Holds encStr w g 0 (dS xs).toArray := holds_of_block hcur (by rw [hdl, htake, encS_map])
  have hs := calls_of_every_depth (fun D => AnyS.slices_Sort_string_alone Tryz.laysSortS D g 0 cap (dS xs) w hH hg (by omega))
  rw [hdl] at hs
  refine hs.mono ?_
  rintro e w' ⟨rfl, n, os, rfl⟩
  have hml : ((dS xs).mergeSort leU).length = xs.length := by rw [List.length_mergeSort, hdl]
  refine fin _ rfl rfl rfl put_size (fun k hk hn => put_old hk (fun e => hn (e ▸ hgb))) ?_
  have hb := strs_own (fz := FzB w fz η η) (η := η) (e := 9) (ys := sortS xs) (put_new (m := n) (os := os) (d := ((dS xs).mergeSort leU).toArray) hg hcur) (by rw [sortS_len]; exact hnc) hcm (by rw [← hcs]; simp [putCells]) (by
   rw [sortS_len, ← hml, putCells_takeS _ _ (by omega), encS_ba]; rfl)
  rw [sortS_len] at hb
  exact hb
theorem conCompS (xs : List ByteArray) (hl : xs.length < 4000000000) : ConB Tryz.prog I0 106 [.own 0] [(0, .sl 9 .str xs)] (.val (.own 1)) [(1, .sl 9 .str (compS xs))] := by
 intro w fz η vs hI hfz hdom hbox hblk hdis hargs
 obtain ⟨u, hu, hb⟩ := hbox 0 _ rfl
 have hvs := args_one hargs hu
 subst hvs
 have fin : ∀ (w' : World) (v : Value), w'.os = w.os → w'.tape = w.tape → w'.output = w.output → w.heap.size ≤ w'.heap.size → (∀ k, k < w.heap.size → ¬ Bk η k → w'.heap[k]? = w.heap[k]?) → (∀ k, blk v = some k → k < w.heap.size ∧ Bk η k) → (∀ fz' η', BoxR w' fz' η' v (.sl 9 .str (compS xs))) → PostB w fz η [(0, .sl 9 .str xs)] w' (.returned v) (.val (.own 1)) [(1, .sl 9 .str (compS xs))] := by
  intro w' v h1 h2 h3 h4 h5 h6 h7
  have key : ∀ b u, (fun b => if b = 1 then some v else none : Nat → Option Value) b = some u → b = 1 ∧ u = v := fun b u h => by
   by_cases e : b = 1
   simp only [e, if_true, Option.some.injEq] at h; exact ⟨e, h.symm⟩
   simp [e] at h
  refine ⟨⟨h1, h2, h3, h4, h5⟩, .inr ⟨fun b => if b = 1 then some v else none, fun b u h => ?_, fun b hb u u' h h' => ?_, fun b u k h hk => ?_, fun b b' u u' k h h' _ _ => ?_, fun b B hb => ?_, ⟨v, rfl, .own v 1 (fun u h => (key 1 u h).2.symm)⟩⟩⟩
  obtain ⟨rfl, rfl⟩ := key b u h; rfl
  obtain ⟨rfl, rfl⟩ := key b u' h'; simp [lkp] at hb
  obtain ⟨rfl, rfl⟩ := key b u h
  exact ⟨Nat.lt_of_lt_of_le (h6 k hk).1 h4, .inr (h6 k hk).2⟩
  rw [(key b u h).1, (key b' u' h').1]
  simp only [lkp] at hb
  split at hb
  rename_i he
  simp only [Option.some.injEq] at hb
  subst hb he
  exact ⟨v, by simp, h7 _ _⟩
  cases hb
 rcases strs_box hb with ⟨rfl, rfl⟩ | ⟨g, cap, cur, rfl, hcur, hnc, hcm, hcs, htake⟩
 refine (calls_of_every_depth (fun D => AnyS.slices_Compact_string_empty_in Tryz.laysCompactS D none 0 w)).mono ?_
 rintro e w' ⟨rfl, rfl⟩
 have he : compS [] = [] := List.eq_nil_of_length_eq_zero (Nat.le_zero.1 (compS_len []))
 exact fin _ _ rfl rfl rfl (Nat.le_refl _) (fun _ _ _ => rfl) (fun k hk => by cases hk) (fun _ _ => by rw [he]; exact ⟨[], ⟨rfl, .inl ⟨rfl, rfl⟩⟩, fun i x j a hx => by simp at hx⟩)
 have hgb : Bk η g := ⟨0, _, hu, rfl⟩
 have hg : g < w.heap.size := (hblk 0 _ g hu rfl).1
 have hdl : (dS xs).length = xs.length := List.length_map _
 have hH : Holds encStr w g 0 (dS xs).toArray := holds_of_block hcur (by rw [hdl, htake, encS_map])
 have hs := calls_of_every_depth (fun D => AnyS.slices_Compact_string_in Tryz.laysCompactS D g 0 cap (dS xs) w hH (by omega) (by omega))
 rw [hdl] at hs
 refine hs.mono ?_
 rintro e w' ⟨rfl, q, rfl⟩
 have hle := compS_len xs
 have hcl : (Lib.compact (dS xs)).length = (compS xs).length := by unfold compS; rw [List.length_map]
 rw [← grow_empty (putRow _ _ _ _ _), hcl]
 refine fin _ _ rfl rfl rfl put_size (fun k hk hn => put_old hk (fun e => hn (e ▸ hgb))) (fun k hk => by cases hk; exact ⟨hg, hgb⟩) (fun fz' η' => ?_)
 refine strs_own (e := 9) (ys := compS xs) (put_new (m := q) (os := #[]) hg hcur) (by omega) hcm (by rw [← hcs]; simp [putCells]) ?_
 have ht := putCells_takeS (Lib.compact (dS xs) ++ List.replicate (xs.length - (compS xs).length) []) cur (by rw [List.length_append, List.length_replicate, hcl]; omega)
 have h2 := congrArg (List.take (compS xs).length) ht
 rw [List.take_take, List.map_append, List.take_left' (by rw [List.length_map, hcl]), Nat.min_eq_left (by rw [List.length_append, hcl]; omega)] at h2
 rw [h2, encS_ba]; rfl
abbrev thrown (v : Value) : PanicEntry := { v, recovered := false }
abbrev caught (v : Value) : PanicEntry := { v, recovered := true }
def CloD (P : Program) (I : World → Prop) (f : FuncId) (args : List AV) (v : Value) (bi bo : BL) : Prop :=
 ∀ (w : World) (fz : Nat → Prop) (η : Nat → Option Value) (vs : Array Value), (∀ w', Fr (ownB fz η) w w' → I w') → (∀ k, fz k → k < w.heap.size) → (∀ b u, η b = some u → (lkp bi b).isSome = true) → (∀ b B, lkp bi b = some B → ∃ u, η b = some u ∧ BoxR w fz η u B) →
  (∀ b u k, η b = some u → blk u = some k → k < w.heap.size ∧ ¬ fz k) → (∀ b b' u u' k, η b = some u → η b' = some u' → blk u = some k → blk u' = some k → b = b') → RL w fz η vs args →
  CallsD P f vs (.panicking [thrown v]) w fun e u' w' => u' = .panicking [caught v] ∧ PostB w fz η bi w' e (.val (.tup [])) bo
def CloI (P : Program) (I : World → Prop) (f : FuncId) (n : Nat) : Prop :=
 ∀ (w : World) (vs : Array Value), (∀ w', Below w.heap.size w w' → I w') → vs.size = n → CallsD P f vs .returning w fun e u' w' => (∃ v, e = .returned v) ∧ u' = .returning ∧ Below w.heap.size w w'
def dO (fz : Nat → Prop) (us : List Value) (d : Deferred) : Own := ⟨fun _ => False, fz, fun b => if 900 ≤ b ∧ b < 1000 then us[b - 900]? else none, [d]⟩
def FnD (P : Program) (fn : Func) (w0 : World) (fz : Nat → Prop) (out : COut) : Exit → Act → World → Prop := bodyPostD P fn (fun e w' => Post w0 fz w' e out ∧ Below w0.heap.size w0 w')
def DefOk (P : Program) (f : FuncId) (us : List Value) (d : Deferred) : Prop := (∃ fv cap, d.target = .fn fv cap) ∧ ∀ w, (invoke d.target d.args).run P w = .ok (.enter f us.toArray) w
section
variable {P : Program} {I : World → Prop} {w w' w0 : World} {fz : Nat → Prop} {N : Nat} {T : TL} {B : BL} {a : Act}
theorem rec_region {Q : Exit → Act → List Frame → World → Prop} {id : Nat} {o1 o2 : Oper} {t5 t2 : Nat} {cs cs' : List Frame} {v : Value} (h1 : o1.op = .call { callee := .builtin .recover, args := #[], argTypes := #[] }) (d1 : o1.dst = some t5) (g1 : o1.guard = none)
  (h2 : o2.op = .assign (.tmp t5)) (d2 : o2.dst = some t2) (g2 : o2.guard = none) (hl : t5 < a.tmps.size) (hr : (match recoverD cs with | some p => p | none => (Value.nilIface, cs)) = (v, cs')) (hk : Q .normal ((a.put (some t5) v).put (some t2) v) cs' w) : (Code.region id #[o1, o2] false).wpS P Q a cs w := by
 refine wpS_region ?_
 show wpOpsS P #[o1, o2] Q [0, 1] a cs w
 have e1 : (execOp a.eval o1).run P w = .ok .recover w := by simp [execOp, h1, resolve, invoke, builtin]
 have e2 : (execOp (a.put (some t5) v).eval o2).run P w = .ok (.value v) w := by
  have hv : (a.put (some t5) v).eval (.tmp t5) = v := by simp [Act.eval, Act.put, hl]
  simp [execOp, h2, hv]
 have two : ∀ cs2, Q .normal ((a.put (some t5) v).put (some t2) v) cs2 w → wpOpsS P #[o1, o2] Q [1] (a.put (some t5) v) cs2 w := by
  intro cs2 hq
  rw [wpOpsS]
  rw [show (#[o1, o2] : Array Oper)[1]? = some o2 from rfl]
  simp only
  rw [if_pos (by simp [Region.wanted, g2]), e2]
  simp only [Oper.upon, d2]
  exact hq
 rw [wpOpsS]
 rw [show (#[o1, o2] : Array Oper)[0]? = some o1 from rfl]
 simp only
 rw [if_pos (by simp [Region.wanted, g1]), e1]
 simp only [d1]
 split
 ·rename_i v1 cs1 hrec
  rw [hrec] at hr
  simp only [Prod.mk.injEq] at hr
  obtain ⟨rfl, rfl⟩ := hr
  exact two cs1 hk
 ·rename_i hrec
  rw [hrec] at hr
  simp only [Prod.mk.injEq] at hr
  obtain ⟨rfl, rfl⟩ := hr
  exact two _ hk
theorem lkp_upd2 {T : TL} {t5 t2 : Nat} {v : Value} : upd (upd (lkp T) (some t5) (some (.lit v))) (some t2) (some (.lit v)) = lkp ((t2, .lit v) :: (t5, .lit v) :: T) := by
 funext t
 simp only [upd, lkp, Option.some.injEq]
 by_cases h2 : t = t2
 simp [h2]
 rw [if_neg (fun h => h2 h.symm), if_neg h2]
 by_cases h5 : t = t5
 simp [h5]
 rw [if_neg (fun h => h5 h.symm), if_neg h5]
theorem cloD_of {f : FuncId} {fn : Func} {c : Code} {id : Nat} {o1 o2 : Oper} {t5 t2 : Nat} {args : List AV} {v : Value} {bi bo : BL} (hf : P.funcs[f]? = some fn) (hb : fn.body = some (.seq (.region id #[o1, o2] false) c)) (h1 : o1.op = .call { callee := .builtin .recover, args := #[], argTypes := #[] }) (d1 : o1.dst = some t5) (g1 : o1.guard = none)
  (h2 : o2.op = .assign (.tmp t5)) (d2 : o2.dst = some t2) (g2 : o2.guard = none) (hN : args.length ≤ fn.ntmps) (h5 : t5 < fn.ntmps) (h2n : t2 < fn.ntmps) (hk : (bi.map (·.1)).all (· < 1000) = true)
  (h : ∀ (w0 : World) (fz : Nat → Prop) (η : Nat → Option Value) (a : Act), (∀ w', Fr (ownB fz η) w0 w' → I w') → SimL fn.ntmps w0 (ownB fz η) ((t2, .lit v) :: (t5, .lit v) :: num 0 args) bi a w0 → c.wp P (FnQB P fn w0 fz η bi (.val (.tup [])) bo) a w0) : CloD P I f args v bi bo := by
 intro w fz η vs hI hfz hd hbx hnew hap hR
 have hun : ∀ k, fz k → k < w.heap.size → Fz (Amb w (ownB fz η)) η k := fun k h1 _ => ⟨.inl h1, fun b u hb hk => (hnew b u k hb hk).2 h1⟩
 have s0 : Sim fn.ntmps w (ownB fz η) η (lkp (num 0 args)) (lkp bi) { tmps := vs ++ Array.replicate (fn.ntmps - vs.size) undef, defers := [] } w := by
  refine ⟨?_, rfl, Fr.refl _ _, fun t av ht => ?_, fun b B h => ?_, fun b u k h1 h2 => ⟨(hnew b u k h1 h2).1, .inr ⟨b, u, h1, h2⟩⟩, hap, fun b u u' h1 h2 => ?_, fun b u h => ?_⟩
  ·have := hR.1; simp; omega
  ·obtain ⟨_, h1⟩ := num_at ht
   rw [Nat.sub_zero] at h1
   have hlt : t < vs.size := by have := (List.getElem?_eq_some_iff.1 h1).1; have := hR.1; omega
   refine ⟨vs[t], ?_, ?_⟩
   ·show (vs ++ Array.replicate (fn.ntmps - vs.size) undef)[t]? = some vs[t]
    rw [Array.getElem?_append_left hlt]; exact Array.getElem?_eq_getElem hlt
   ·exact (hR.2 t _ av (Array.getElem?_eq_getElem hlt) h1).step (Nat.le_refl _) (fun _ _ _ => rfl) hun (fun b u _ h => h)
  ·obtain ⟨u, hu, hr⟩ := hbx b B h
   exact ⟨u, hu, BoxR_up hun (fun _ _ _ h => h) hr⟩
  ·have h1' : η b = some u := h1
   rw [h2] at h1'; injection h1'
  ·obtain ⟨X, hX⟩ := Option.isSome_iff_exists.1 (hd b u h)
   have := List.all_eq_true.1 hk b (List.mem_map.2 ⟨(b, X), lkp_mem hX, rfl⟩)
   simpa using this
 have s1 := (s0.put (d := some t5) (v := v) (av := some (.lit v)) (fun t ht => by injection ht with ht; omega) (fun x hx => by injection hx with hx; subst hx; exact .lit _)).put (d := some t2) (v := v) (av := some (.lit v)) (fun t ht => by injection ht with ht; omega) (fun x hx => by injection hx with hx; subst hx; exact .lit _)
 rw [lkp_upd2] at s1
 have hw := h w fz η _ hI ⟨η, s1⟩
 refine callsD_of_wpS hf hb fun c₀ cs hu => ?_
 refine wpS_seq (rec_region h1 d1 g1 h2 d2 g2 (by rw [s0.size]; exact h5) (v := v) (cs' := { c₀ with mode := .panicking [caught v] } :: cs) (by simp only [recoverD, hu]) ?_)
 refine wpS_of_wp (wp_mono hw (fun e a w' he => ?_))
 cases e with
 | normal => exact ⟨he.1, _, rfl, he.2.elim fun x hx => ⟨x, hx.1, rfl, hx.2⟩⟩
 | ret => exact ⟨he.1, _, rfl, he.2.elim fun x hx => ⟨x, hx.1, rfl, hx.2⟩⟩
 | panic ch => exact ⟨he.1, _, rfl, rfl, he.2⟩
 | outgrown => exact ⟨_, rfl, he⟩
 | exit id => exact he
 | goto l => exact he
theorem cloI_of {f : FuncId} {fn : Func} {c : Code} {id n : Nat} {o1 o2 : Oper} {t5 t2 : Nat} (hf : P.funcs[f]? = some fn) (hb : fn.body = some (.seq (.region id #[o1, o2] false) c)) (h1 : o1.op = .call { callee := .builtin .recover, args := #[], argTypes := #[] }) (d1 : o1.dst = some t5) (g1 : o1.guard = none)
  (h2 : o2.op = .assign (.tmp t5)) (d2 : o2.dst = some t2) (g2 : o2.guard = none) (hN : n ≤ fn.ntmps) (h5 : t5 < fn.ntmps) (h2n : t2 < fn.ntmps)
  (h : ∀ (w0 : World) (fz : Nat → Prop) (a : Act), (∀ w', Fr (noO fz) w0 w' → I w') → SimL fn.ntmps w0 (noO fz) [(t2, .lit .nilIface), (t5, .lit .nilIface)] [] a w0 → c.wp P (FnQ P fn w0 (noO fz) (.val (.tup []))) a w0) : CloI P I f n := by
 intro w vs hI hn
 have s0 : Sim fn.ntmps w (noO fun _ => False) noη (lkp []) (lkp []) { tmps := vs ++ Array.replicate (fn.ntmps - vs.size) undef, defers := [] } w :=
  ⟨by simp; omega, rfl, Fr.refl _ _, (fun t av ht => by cases ht), (fun b B h => by cases h), (fun b u k h => by cases h), (fun b b' u u' k h => by cases h), (fun b u u' h => by cases h), (fun b u h => by cases h)⟩
 have s1 := (s0.put (d := some t5) (v := .nilIface) (av := some (.lit .nilIface)) (fun t ht => by injection ht with ht; omega) (fun x hx => by injection hx with hx; subst hx; exact .lit _)).put (d := some t2) (v := .nilIface) (av := some (.lit .nilIface)) (fun t ht => by injection ht with ht; omega) (fun x hx => by injection hx with hx; subst hx; exact .lit _)
 rw [lkp_upd2] at s1
 have hw := h w (fun _ => False) _ (fun w' hfr => hI w' (hfr.below (fun _ h => h))) ⟨noη, s1⟩
 refine callsD_of_wpS hf hb fun c₀ cs hu => ?_
 refine wpS_seq (rec_region h1 d1 g1 h2 d2 g2 (by rw [s0.size]; exact h5) (v := .nilIface) (cs' := c₀ :: cs) (by simp only [recoverD, hu]) ?_)
 have hc : ({ c₀ with mode := .returning } : Frame) = c₀ := by cases c₀; simp only at hu; subst hu; rfl
 refine wpS_of_wp (wp_mono hw (fun e a w' he => ?_))
 cases e with
 | normal => exact ⟨he.1, .returning, by rw [hc], he.2.elim fun x hx => ⟨x, hx.1, ⟨x, rfl⟩, rfl, hx.2.2⟩⟩
 | ret => exact ⟨he.1, .returning, by rw [hc], he.2.elim fun x hx => ⟨x, hx.1, ⟨x, rfl⟩, rfl, hx.2.2⟩⟩
 | panic ch => obtain ⟨_, ⟨x, hx, _⟩, _⟩ := he; cases hx
 | outgrown => obtain ⟨⟨x, hx, _⟩, _⟩ := he; cases hx
 | exit id => exact he
 | goto l => exact he
theorem con_ofD {f : FuncId} {fn : Func} {c : Code} {args : List AV} {out : COut} (hf : P.funcs[f]? = some fn) (hb : fn.body = some c) (hN : args.length ≤ fn.ntmps) (hI0 : ∀ w w', I w → Below w.heap.size w w' → I w')
  (h : ∀ (w0 : World) (fz : Nat → Prop) (a : Act), (∀ w', Fr (noO fz) w0 w' → I w') → SimL fn.ntmps w0 (noO fz) (num 0 args) [] a w0 → c.wp P (FnD P fn w0 fz out) a w0) : Con P I f args out := by
 intro w fz vs hI hfz hR
 refine calls_of_wp_defers hf hb (h w fz _ (fun w' hfr => hI0 w w' hI (hfr.below (fun _ h => h))) ⟨noη, ?_⟩)
 refine ⟨?_, rfl, Fr.refl _ _, fun t av ht => ?_, (fun b B h => by cases h), (fun b u k h => by cases h), (fun b b' u u' k h => by cases h), (fun b u u' h => by cases h), (fun b u h => by cases h)⟩
 ·have := hR.1; simp; omega
 ·obtain ⟨_, h1⟩ := num_at ht
  rw [Nat.sub_zero] at h1
  have hlt : t < vs.size := by have := (List.getElem?_eq_some_iff.1 h1).1; have := hR.1; omega
  refine ⟨vs[t], ?_, ?_⟩
  ·show (vs ++ Array.replicate (fn.ntmps - vs.size) undef)[t]? = some vs[t]
   rw [Array.getElem?_append_left hlt]; exact Array.getElem?_eq_getElem hlt
  ·exact (hR.2 t _ av (Array.getElem?_eq_getElem hlt) h1).step (Nat.le_refl _) (fun _ _ _ => rfl) (fun k hk _ => ⟨.inl hk, fun b u h => by cases h⟩) (fun b u _ h => h)
end
def isLit : AV → Bool
 | .lit _ => true
 | _ => false
def isJunk : AV → Bool
 | .junk => true
 | _ => false
def biOk (bi B : BL) : Bool := bi.all fun p => match p.2, lkp B (900 + p.1) with
 | .var l, some (.var m) => l.all isJunk && m.length == l.length
 | _, _ => false
def boOk (n : Nat) (bo : BL) : Bool := bo.all fun p => decide (p.1 < n) && (match p.2 with
 | .var l => l.all isLit
 | _ => false)
def up9 (bo : BL) : BL := bo.map fun p => (900 + p.1, p.2)
def isPtr9 (n : Nat) : AV → Bool
 | .ptr b _ => decide (900 ≤ b) && decide (b < 900 + n)
 | _ => false
theorem lkp_up9 : ∀ {bo : BL} {b : Nat} {X : Box}, lkp (up9 bo) b = some X → 900 ≤ b ∧ lkp bo (b - 900) = some X
 | [], b, X, h => by cases h
 | (i, Y) :: bo, b, X, h => by
  simp only [up9, List.map_cons, lkp] at h
  split at h
  rename_i e
  subst e
  refine ⟨by omega, ?_⟩
  simp only [lkp]
  rw [if_pos (by omega)]; exact h
  rename_i e
  obtain ⟨h1, h2⟩ := lkp_up9 (bo := bo) h
  refine ⟨h1, ?_⟩
  simp only [lkp]
  rw [if_neg (by omega)]; exact h2
section
variable {P : Program} {I : World → Prop} {w w' w0 : World} {fz : Nat → Prop} {N : Nat} {T : TL} {B : BL} {a : Act} {ow : Own}
theorem ret_core {fn : Func} {out : COut} (del : List Nat) (hs : SimL N w0 ow T B a w) (ho : ∀ k, ¬ ow.o k) (h : retOk P fn T B del out) : ∃ v, (results fn a.tmps).run P w = .ok v w ∧ Post w0 ow.f w (.returned v) out ∧ Below w0.heap.size w0 w := by
 obtain ⟨η, s⟩ := hs
 have hbel : Below w0.heap.size w0 w := s.frame.below ho
 have amb : ∀ k, Amb w0 ow k → ow.f k ∨ w0.heap.size ≤ k := fun k hk => by
  rcases hk with h | h | h
  exact .inl h
  exact (ho k h).elim
  exact .inr h
 cases out with
 | val r =>
  obtain ⟨h1, h2⟩ := h
  rw [Option.map_eq_some_iff] at h1
  obtain ⟨x, hx, hr⟩ := h1
  obtain ⟨v, hrun, hR⟩ := resA_ok s hx
  refine ⟨v, hrun, ⟨v, rfl, ?_⟩, hbel⟩
  have h3 := R_fit2 (b := r) (R_frz2 s hR del)
  rw [hr] at h3
  exact h3.step (Nat.le_refl _) (fun _ _ _ => rfl) (fun k hk _ => amb k hk.1) (fun b u hb _ => by rw [ment_none h2] at hb; cases hb)
 | own e τ xs =>
  rcases h with ⟨b, h1, h2⟩ | ⟨h1, rfl⟩
  obtain ⟨v, hrun, hR⟩ := resA_ok s h1
  obtain ⟨u, hu, cs, q1, q2⟩ := s.dom b _ h2
  have hv := hR.own_inv hu
  subst hv
  refine ⟨v, hrun, ⟨v, rfl, fun k hk => ?_, cs, q1, fun i x j y hx hy => ?_⟩, hbel⟩
  obtain ⟨h3, h4⟩ := s.new b v k hu hk
  exact ⟨h4.resolve_right (ho k), h3⟩
  obtain ⟨vv, h3, h4⟩ := q2 i x j y hx hy
  exact ⟨vv, h3, h4.step (Nat.le_refl _) (fun _ _ _ => rfl) (fun k hk _ => ⟨amb k hk.1, fun he => hk.2 b v hu he⟩) (fun b u hb _ => by rw [enc_ment' hy] at hb; cases hb)⟩
  obtain ⟨v, hrun, hR⟩ := resA_ok s h1
  have hv := hR.lit_inv
  subst hv
  exact ⟨_, hrun, ⟨_, rfl, fun k hk => by simp [blk] at hk, [], World.ownsRow_nil w 0 e _, fun i x j y hx => by simp at hx⟩, hbel⟩
 | thr v => exact h.elim
theorem SimL.ren0 {T' : TL} {B' : BL} (hs : SimL N w0 (noO fz) T B a w) (ρ : List (Nat × Nat)) (hok : (injOk ρ && T'.all (fun p => plain ρ p.2) && B'.all (fun p => (lkp ρ p.1).isSome && plainB ρ p.2)) = true) (hT : T'.map (fun p => lkp T p.1) = T'.map (fun p => some (rn ρ p.2))) (hB : B'.map (fun p => lkp B (rnk ρ p.1)) = B'.map (fun p => some (rnB ρ p.2))) : SimL N w0 (noO fz) T' B' a w := by
 obtain ⟨η, s⟩ := hs
 simp only [Bool.and_eq_true] at hok
 obtain ⟨⟨h1, h2⟩, h3⟩ := hok
 have hinj : (ρ.map (·.2)).Nodup := by simpa [injOk] using h1
 have map_at : ∀ {α β : Type} (l : List (Nat × α)) (f g : Nat × α → β), l.map f = l.map g → ∀ p ∈ l, f p = g p := fun l f g h p hp => by
  induction l with
  | nil => simp at hp
  | cons q l ih =>
   simp only [List.map_cons, List.cons.injEq] at h
   rcases List.mem_cons.1 hp with rfl | hp
   ·exact h.1
   ·exact ih h.2 hp
 have sub : ∀ b u, rnη ρ η b = some u → ∃ c, lkp ρ b = some c ∧ η c = some u := fun b u h => by
  simp only [rnη] at h
  split at h
  ·rename_i c hc; exact ⟨c, hc, h⟩
  ·cases h
 have hf : ∀ k, Fz (Amb w0 (noO fz)) η k → k < w.heap.size → Fz (Amb w0 (noO fz)) (rnη ρ η) k := fun k hk _ => ⟨hk.1, fun b u hb => by
  obtain ⟨c, _, hc⟩ := sub b u hb
  exact hk.2 c u hc⟩
 refine ⟨rnη ρ η, s.size, s.nod, s.frame, fun t av ht => ?_, fun b Bx hBx => ?_, fun b u k hb hk => ?_, fun b b' u u' k hb hb' hk hk' => ?_, (fun b u u' hp hb => by cases hp), s.pinlt⟩
 ·have hm := lkp_mem ht
  have he := map_at T' _ _ hT (t, av) hm
  obtain ⟨v, hv, hr⟩ := s.tmp t _ he
  exact ⟨v, hv, R_rn hf (List.all_eq_true.1 h2 (t, av) hm) hr⟩
 ·have hm := lkp_mem hBx
  have he := map_at B' _ _ hB (b, Bx) hm
  have hp := List.all_eq_true.1 h3 (b, Bx) hm
  simp only [Bool.and_eq_true] at hp
  obtain ⟨c, hc⟩ := Option.isSome_iff_exists.1 hp.1
  have hrk : rnk ρ b = c := by simp [rnk, hc]
  simp only [hrk] at he
  obtain ⟨u, hu, hr⟩ := s.dom c _ he
  refine ⟨u, by simp [rnη, hc, hu], ?_⟩
  cases Bx with
  | any => exact hr
  | var l =>
   obtain ⟨g, C, e, rfl, q1, q2, q3⟩ := hr
   refine ⟨g, C, e, rfl, q1, by simpa using q2, fun j v x hv hx => ?_⟩
   exact R_rn1 hf (List.all_eq_true.1 hp.2 x (List.mem_of_getElem? hx)) (q3 j v _ hv (by rw [List.getElem?_map, hx]; rfl))
  | sl e τ xs =>
   obtain ⟨cs, q1, q2⟩ := hr
   refine ⟨cs, q1, fun i x j y hx hy => ?_⟩
   obtain ⟨v, hv, hr⟩ := q2 i x j y hx hy
   exact ⟨v, hv, hr.step (Nat.le_refl _) (fun _ _ _ => rfl) hf (fun b u hb _ => by rw [enc_ment' hy] at hb; cases hb)⟩
  | full e τ xs =>
   obtain ⟨⟨cs, q1, q2⟩, qc⟩ := hr
   refine ⟨⟨cs, q1, fun i x j y hx hy => ?_⟩, qc⟩
   obtain ⟨v, hv, hr⟩ := q2 i x j y hx hy
   exact ⟨v, hv, hr.step (Nat.le_refl _) (fun _ _ _ => rfl) hf (fun b u hb _ => by rw [enc_ment' hy] at hb; cases hb)⟩
 ·obtain ⟨c, _, hc⟩ := sub b u hb
  exact s.new c u k hc hk
 ·obtain ⟨c, hbc, hc⟩ := sub b u hb
  obtain ⟨c', hbc', hc'⟩ := sub b' u' hb'
  have := s.apart c c' u u' k hc hc' hk hk'
  subst this
  exact nodup_inj hinj hbc hbc'
theorem SimL.defer {d : Deferred} {us : List Value} {a' : Act} (hs : SimL N w0 (noO fz) T B a w) (n : Nat) (hn : us.length = n) (hu : ∀ i, i < n → ∃ x u, lkp T x = some (.ptr (900 + i) 0) ∧ us[i]? = some u ∧ a.tmps[x]? = some u) (hB : (List.range n).all (fun i => match lkp B (900 + i) with | some (.var _) => true | _ => false) = true)
  (hsz : a'.tmps.size = a.tmps.size) (hd : a'.defers = [d]) (ht : ∀ t av, lkp T t = some av → a'.tmps[t]? = a.tmps[t]?) : SimL N w0 (dO fz us d) T B a' w := by
 obtain ⟨η, s⟩ := hs
 have key : ∀ i, i < n → ∃ u, us[i]? = some u ∧ η (900 + i) = some u := fun i hi => by
  obtain ⟨x, u, hx, h1, h2⟩ := hu i hi
  have h3 := List.all_eq_true.1 hB i (by simp [hi])
  split at h3
  ·rename_i l hl
   obtain ⟨u', hu', g, C, e, rfl, _⟩ := s.dom _ _ hl
   obtain ⟨v, hv, hr⟩ := s.tmp x _ hx
   obtain ⟨g', hg, rfl⟩ := hr.ptr_inv hu'
   rw [h2] at hv
   injection hv with hv
   injection hg with hg
   injection hg with hg
   injection hg with hg
   subst hg hv
   exact ⟨_, h1, hu'⟩
  ·cases h3
 refine ⟨η, hsz.trans s.size, hd, ⟨s.frame.os, s.frame.tape, s.frame.output, s.frame.size, s.frame.block⟩, fun t av h => ?_, s.dom, s.new, s.apart, fun b u u' hp hb => ?_, fun b u hp => ?_⟩
 ·obtain ⟨v, hv, hr⟩ := s.tmp t av h
  exact ⟨v, by rw [ht t av h]; exact hv, hr⟩
 ·simp only [dO] at hp
  split at hp
  ·rename_i hb9
   have hlt : b - 900 < n := by have := (List.getElem?_eq_some_iff.1 hp).1; omega
   obtain ⟨u2, h1, h2⟩ := key (b - 900) hlt
   rw [show 900 + (b - 900) = b by omega, hb] at h2
   rw [hp] at h1
   injection h1 with h1
   injection h2 with h2
   rw [h1, h2]
  ·cases hp
 ·simp only [dO] at hp
  split at hp
  ·rename_i hb9; exact hb9.2
  ·cases hp
theorem defer_L {id t6 : Nat} {o1 o2 : Oper} {f : FuncId} {tys : Array TypeId} {Q : Exit → Act → World → Prop} (xs : List Nat) (hs : SimL N w0 (noO fz) T B a w) (hent : Ent P f) (h1 : o1.op = .makeFunc (.func f) #[] (xs.map Operand.tmp).toArray) (d1 : o1.dst = some t6) (g1 : o1.guard = none) (h2 : o2.op = .defer { callee := .value (.tmp t6), args := #[], argTypes := tys }) (d2 : o2.dst = none) (g2 : o2.guard = none)
  (h6 : t6 < N) (hx : xs.map (fun x => lkp T x) = (List.range xs.length).map (fun i => some (.ptr (900 + i) 0))) (hB : (List.range xs.length).all (fun i => match lkp B (900 + i) with | some (.var _) => true | _ => false) = true) (hT6 : lkp T t6 = none)
  (h : ∀ us d a, us.length = xs.length → DefOk P f us d → SimL N w0 (dO fz us d) T B a w → Q .normal a w) : (Code.region id #[o1, o2] false).wp P Q a w := by
 have hsz : a.tmps.size = N := by obtain ⟨η, s⟩ := hs; exact s.size
 have hnod : a.defers = [] := by obtain ⟨η, s⟩ := hs; exact s.nod
 refine wp_region_list ?_
 show wpList P #[o1, o2] Q [o1, o2] a w
 obtain ⟨us, hus⟩ : ∃ us, us = xs.map (fun x => a.eval (.tmp x)) := ⟨_, rfl⟩
 have e1 : (execOp a.eval o1).run P w = .ok (.value (.func (.func f) #[] us.toArray)) w := by
  simp [execOp, h1, Instr.makeFunc, hus, Function.comp_def]
 rw [wpList, if_pos (by simp [Region.wanted, g1])]
 refine .inl ?_
 unfold Oper.wp
 rw [e1]
 simp only [Oper.upon, d1]
 have hv : (a.put (some t6) (.func (.func f) #[] us.toArray)).eval (.tmp t6) = .func (.func f) #[] us.toArray := by simp [Act.eval, Act.put, hsz, h6]
 have e2 : (execOp (a.put (some t6) (.func (.func f) #[] us.toArray)).eval o2).run P w = .ok (.defer { target := .fn (.func f) us.toArray, args := #[] }) w := by
  simp [execOp, h2, resolve, hv, Deferred.ofValue]
 rw [wpList, if_pos (by simp [Region.wanted, g2])]
 refine .inl ?_
 unfold Oper.wp
 rw [e2]
 simp only [Oper.upon, d2]
 rw [wpList]
 have he := hent
 have hlen : us.length = xs.length := by rw [hus, List.length_map]
 refine h us { target := .fn (.func f) us.toArray, args := #[] } _ hlen ⟨⟨_, _, rfl⟩, fun w => by have := hent us.toArray w; simp [invoke, this]⟩ (hs.defer xs.length hlen (fun i hi => ?_) hB ?_ ?_ ?_)
 ·have hxi : xs[i]? = some xs[i] := List.getElem?_eq_getElem hi
  have h5 : (xs.map (fun x => lkp T x))[i]? = some (lkp T xs[i]) := by rw [List.getElem?_map, hxi]; rfl
  rw [hx, List.getElem?_map, List.getElem?_range hi] at h5
  simp only [Option.map_some, Option.some.injEq] at h5
  obtain ⟨η, s⟩ := hs
  obtain ⟨v, hv2, _⟩ := s.tmp _ _ h5.symm
  refine ⟨xs[i], v, h5.symm, ?_, hv2⟩
  rw [hus, List.getElem?_map, hxi]
  simp [Act.eval, hv2]
 ·simp [Act.put]
 ·simp [Act.put, hnod]
 ·intro t av ht
  have hne : t6 ≠ t := fun e => by rw [e, ht] at hT6; cases hT6
  simp only [Act.put]
  rw [Array.getElem?_setIfInBounds_ne hne]
theorem ret_okD {fn : Func} {f : FuncId} {us : List Value} {d : Deferred} {out : COut} (del : List Nat) (hs : SimL N w0 (dO fz us d) T B a w) (n : Nat) (hn : us.length = n) (hd : DefOk P f us d) (hi : CloI P I f n) (hI : ∀ w', Fr (dO fz us d) w0 w' → I w') (h : retOk P fn T B del out) : FnD P fn w0 fz out .ret a w := by
 obtain ⟨η, s⟩ := hs
 have hnod : a.defers = [d] := s.nod
 show Leaves P fn a.tmps _ a.defers .returning w
 rw [hnod]
 obtain ⟨⟨fv, cap, ht⟩, hinv⟩ := hd
 refine ⟨by simp, fv, cap, f, us.toArray, ht, hinv w, (hi w _ (fun w' hb => hI w' ⟨hb.os.trans s.frame.os, hb.tape.trans s.frame.tape, hb.output.trans s.frame.output, Nat.le_trans s.frame.size hb.size, fun k hk ho => (hb.block k (Nat.lt_of_lt_of_le hk s.frame.size)).trans (s.frame.block k hk ho)⟩) (by simpa using hn)).mono ?_⟩
 rintro e u' w' ⟨⟨v, rfl⟩, rfl, hb⟩
 exact ret_core del ⟨η, s.below hb⟩ (fun _ h => h) h
theorem FnD_cast {fn : Func} {out out' : COut} {e : Exit} (h : out = out') (hq : FnD P fn w0 fz out e a w) : FnD P fn w0 fz out' e a w := h ▸ hq
theorem thr_okD {fn : Func} {f : FuncId} {us : List Value} {d : Deferred} {out : COut} {v : Value} {bi bo : BL} (T2 : TL) (hs : SimL N w0 (dO fz us d) T B a w) (n : Nat) (hn : us.length = n) (hn2 : n < 100) (hd : DefOk P f us d) (hc : CloD P I f ((List.range n).map fun i => .ptr i 0) v bi bo) (hI : ∀ w', Fr (dO fz us d) w0 w' → I w')
  (hbk : bi.map (·.1) = List.range n) (hbi : biOk bi B = true) (hbo : boOk n bo = true) (hT : T2.map (fun p => lkp T p.1) = T2.map (fun p => some p.2)) (hTp : T2.all (fun p => isPtr9 n p.2) = true) (h : retOk P fn T2 (up9 bo) [] out) : FnD P fn w0 fz out (.panic [{ v, recovered := false }]) a w := by
 obtain ⟨η, s⟩ := hs
 have hnod : a.defers = [d] := s.nod
 show Leaves P fn a.tmps _ a.defers (.panicking [thrown v]) w
 rw [hnod]
 obtain ⟨⟨fv, cap, ht⟩, hinv⟩ := hd
 have inbi : ∀ i, i < n → ∃ X, lkp bi i = some X := fun i hi => by
  have h1 : i ∈ bi.map (·.1) := by rw [hbk]; simpa using hi
  obtain ⟨⟨j, X⟩, hm, rfl⟩ := List.mem_map.1 h1
  have h2 := lkp_isSome hm
  exact Option.isSome_iff_exists.1 h2
 have bilt : ∀ i X, lkp bi i = some X → i < n := fun i X h => by
  have : i ∈ bi.map (·.1) := List.mem_map.2 ⟨(i, X), lkp_mem h, rfl⟩
  rw [hbk] at this; simpa using this
 have key : ∀ i X, lkp bi i = some X → ∃ l m g C e, X = .var l ∧ l.all isJunk = true ∧ us[i]? = some (.pointer (some ⟨g, 0, none⟩)) ∧ η (900 + i) = some (.pointer (some ⟨g, 0, none⟩)) ∧ w.heap[g]? = some (.cells C e (0, 0)) ∧ C.size = m ∧ m = l.length := fun i X hX => by
  have h1 := List.all_eq_true.1 hbi (i, X) (lkp_mem hX)
  cases X with
  | var l =>
   cases hm : lkp B (900 + i) with
   | none => simp [hm] at h1
   | some Y =>
    cases Y with
    | var m =>
     simp only [hm, Bool.and_eq_true, beq_iff_eq] at h1
     obtain ⟨u, hu, g, C, e, rfl, q1, q2, _⟩ := s.dom _ _ hm
     have hi := bilt i _ hX
     have hui : us[i]? = some us[i] := List.getElem?_eq_getElem (by omega)
     have hp : (dO fz us d).pin (900 + i) = some us[i] := by
      simp only [dO]
      rw [if_pos (by omega), show 900 + i - 900 = i by omega]; exact hui
     have h3 := s.pin _ _ _ hp hu
     exact ⟨l, m.length, g, C, e, rfl, h1.1, by rw [hui, ← h3], hu, q1, q2, h1.2⟩
    | _ => simp [hm] at h1
  | _ => simp at h1
 obtain ⟨ηc, hηc⟩ : ∃ ηc : Nat → Option Value, ∀ b, ηc b = if (lkp bi b).isSome then us[b]? else none := ⟨_, fun _ => rfl⟩
 have ηc_some : ∀ b u, ηc b = some u → ∃ X g, lkp bi b = some X ∧ u = .pointer (some ⟨g, 0, none⟩) ∧ η (900 + b) = some u := fun b u hb => by
  rw [hηc] at hb
  split at hb
  ·rename_i h1
   obtain ⟨X, hX⟩ := Option.isSome_iff_exists.1 h1
   obtain ⟨l, m, g, C, e, _, _, h4, h5, _⟩ := key b X hX
   rw [h4] at hb
   injection hb with hb
   subst hb
   exact ⟨X, g, hX, rfl, h5⟩
  ·cases hb
 have ηc_of : ∀ i X u, lkp bi i = some X → us[i]? = some u → ηc i = some u := fun i X u hX hu => by rw [hηc, hX]; exact hu
 have hcall := hc w (fun _ => False) ηc us.toArray (fun w' hfr => hI w' ⟨hfr.os.trans s.frame.os, hfr.tape.trans s.frame.tape, hfr.output.trans s.frame.output, Nat.le_trans s.frame.size hfr.size, fun k hk ho => by
   rw [← s.frame.block k hk ho]
   refine hfr.block k (Nat.lt_of_lt_of_le hk s.frame.size) ?_
   rintro ⟨b, u, hb, hbk2⟩
   obtain ⟨X, g, _, _, h5⟩ := ηc_some b u hb
   rcases (s.new _ u k h5 hbk2).2 with h6 | h6
   ·omega
   ·exact h6⟩) (fun k hk => hk.elim) (fun b u hb => by obtain ⟨X, _, hX, _⟩ := ηc_some b u hb; rw [hX]; rfl) (fun b X hX => by
   obtain ⟨l, m, g, C, e, rfl, hl, h4, h5, q1, q2, q3⟩ := key b X hX
   refine ⟨_, ηc_of b _ _ hX h4, g, C, e, rfl, q1, by omega, fun j v x hv hx => ?_⟩
   have hj := List.all_eq_true.1 hl x (List.mem_of_getElem? hx)
   cases x <;> simp [isJunk] at hj
   exact .junk _) (fun b u k hb hk => by
   obtain ⟨X, g, _, _, h5⟩ := ηc_some b u hb
   exact ⟨(s.new _ u k h5 hk).1, fun h => h⟩) (fun b b' u u' k hb hb' hk hk' => by
   obtain ⟨_, _, _, _, h5⟩ := ηc_some b u hb
   obtain ⟨_, _, _, _, h6⟩ := ηc_some b' u' hb'
   have := s.apart _ _ u u' k h5 h6 hk hk'
   omega) ⟨by simp [hn], fun j u y hu hy => by
   have hjn : j < n := by have := (List.getElem?_eq_some_iff.1 hy).1; simpa using this
   rw [List.getElem?_map, List.getElem?_range hjn] at hy
   simp only [Option.map_some, Option.some.injEq] at hy
   subst hy
   refine .ptr _ _ _ (fun u' hu' => ?_)
   obtain ⟨X, g, hX, rfl, _⟩ := ηc_some j u' hu'
   have h7 : us[j]? = some u := by rw [← hu]; simp
   have := ηc_of j X u hX h7
   rw [hu'] at this
   injection this with this
   exact ⟨g, rfl, this.symm⟩⟩
 refine ⟨by simp, fv, cap, f, us.toArray, ht, hinv w, hcall.mono ?_⟩
 rintro e u' w' ⟨rfl, ⟨p1, p2, p3, p4, p5⟩, hpost⟩
 rcases hpost with ⟨vt, hout, _⟩ | ⟨η', r1, r2, r3, r4, r5, r6⟩
 ·cases hout
 obtain ⟨vr, rfl, _⟩ := r6
 have back : ∀ i u, i < n → η' i = some u → ηc i = some u ∧ η (900 + i) = some u := fun i u hi hu => by
  obtain ⟨X, hX⟩ := inbi i hi
  obtain ⟨l, m, g, C, e, _, _, h4, h5, _⟩ := key i X hX
  have h6 := ηc_of i X _ hX h4
  have := r2 i (by rw [hX]; rfl) _ _ h6 hu
  subst this
  exact ⟨h6, h5⟩
 obtain ⟨η2, hη2⟩ : ∃ η2 : Nat → Option Value, ∀ b, η2 b = if 900 ≤ b ∧ b < 900 + n then η' (b - 900) else none := ⟨_, fun _ => rfl⟩
 have η2_some : ∀ b u, η2 b = some u → 900 ≤ b ∧ b < 900 + n ∧ η' (b - 900) = some u ∧ ηc (b - 900) = some u ∧ η b = some u := fun b u hb => by
  rw [hη2] at hb
  split at hb
  ·rename_i h9
   obtain ⟨h1, h2⟩ := back (b - 900) u (by omega) hb
   rw [show 900 + (b - 900) = b by omega] at h2
   exact ⟨h9.1, h9.2, hb, h1, h2⟩
  ·cases hb
 have map_at : ∀ (l : TL) (f g : Nat × AV → Option AV), l.map f = l.map g → ∀ p ∈ l, f p = g p := fun l f g h p hp => by
  induction l with
  | nil => simp at hp
  | cons q l ih =>
   simp only [List.map_cons, List.cons.injEq] at h
   rcases List.mem_cons.1 hp with rfl | hp
   ·exact h.1
   ·exact ih h.2 hp
 refine ret_core [] (T := T2) (B := up9 bo) (ow := dO fz us d) (N := N) ⟨η2, s.size, s.nod, ⟨p1.trans s.frame.os, p2.trans s.frame.tape, p3.trans s.frame.output, Nat.le_trans s.frame.size p4, fun k hk ho => ?_⟩, fun t av htv => ?_, fun b X hX => ?_, fun b u k hb hk => ?_, fun b b' u u' k hb hb' hk hk' => ?_, fun b u u' hp hb => ?_, s.pinlt⟩ (fun _ h => h) h
 ·rw [← s.frame.block k hk ho]
  refine p5 k (Nat.lt_of_lt_of_le hk s.frame.size) ?_
  rintro ⟨b, u, hb, hbk2⟩
  obtain ⟨X, g, _, _, h5⟩ := ηc_some b u hb
  rcases (s.new _ u k h5 hbk2).2 with h6 | h6
  ·omega
  ·exact h6
 ·have hm := lkp_mem htv
  have he := map_at T2 _ _ hT (t, av) hm
  have hp := List.all_eq_true.1 hTp (t, av) hm
  obtain ⟨v0, hv0, hr⟩ := s.tmp t _ he
  refine ⟨v0, hv0, ?_⟩
  cases av <;> simp [isPtr9] at hp
  exact .ptr _ _ _ (fun u hu => hr.ptr_inv (η2_some _ u hu).2.2.2.2)
 ·obtain ⟨h1, h2⟩ := lkp_up9 hX
  have h3 := List.all_eq_true.1 hbo (b - 900, X) (lkp_mem h2)
  simp only [Bool.and_eq_true, decide_eq_true_eq] at h3
  obtain ⟨u, hu, hr⟩ := r5 _ _ h2
  refine ⟨u, by rw [hη2, if_pos ⟨h1, by omega⟩]; exact hu, ?_⟩
  have h4 := h3.2
  cases X with
  | var l =>
   simp only at h4
   obtain ⟨g, C, e, rfl, q1, q2, q3⟩ := hr
   refine ⟨g, C, e, rfl, q1, q2, fun j v x hv hx => ?_⟩
   have hj := List.all_eq_true.1 h4 x (List.mem_of_getElem? hx)
   cases x <;> simp [isLit] at hj
   have := (q3 j v _ hv hx).lit_inv
   subst this
   exact .lit _
  | _ => simp at h4
 ·obtain ⟨_, _, _, _, h5⟩ := η2_some b u hb
  obtain ⟨h6, h7⟩ := s.new b u k h5 hk
  exact ⟨Nat.lt_of_lt_of_le h6 p4, h7⟩
 ·exact s.apart b b' u u' k (η2_some b u hb).2.2.2.2 (η2_some b' u' hb').2.2.2.2 hk hk'
 ·exact s.pin b u u' hp (η2_some b u' hb).2.2.2.2
end
open Go.Proofs.Tryz
abbrev noneV : Value := .iface 98 (.agg #[])
def outM (r : Option Tree) : COut := match r with
 | some t => .val (.agg (encTree t))
 | none => .thr noneV
theorem outM_y {P : Program} {I : World → Prop} {f : FuncId} {xs : List AV} {r : Option Tree} (h : Con P I f xs (outM r)) (e : r.isSome = true) : Con P I f xs (.val (.agg (encTree (theM r)))) := by
 cases r with
 | none => cases e
 | some t => exact h
theorem outM_n {P : Program} {I : World → Prop} {f : FuncId} {xs : List AV} {r : Option Tree} (h : Con P I f xs (outM r)) (e : r.isSome = false) : Con P I f xs (.thr noneV) := by
 cases r with
 | none => exact h
 | some t => cases e
theorem theM_some {r : Option Tree} (e : r.isSome = true) : r = some (theM r) := by
 cases r with
 | none => cases e
 | some t => rfl
theorem cutK_le (t : Tree) : (cutK t).length ≤ t.k.length := by
 unfold cutK
 split
 rw [List.length_take]; omega
 simp
theorem setLast (us : List Tree) (z v : Tree) : (us ++ [z]).set us.length v = us ++ [v] := by simp
theorem isSome_no {r : Option Tree} (e : r.isSome = false) : r = none := by
 cases r with
 | none => rfl
 | some t => cases e
theorem conObT (t : Tree) : Con Tryz.prog I0 65 [.agg (encTree t)] (.val (.agg (encTree (obT t)))) := by
 refine con_of Tryz.func65 rfl (Nat.le_of_ble_eq_true rfl) stab (fun w0 fz a hI hs => ?_)
 rcases bt (t.kind != 7) with b1 | b1
 have n1 := bne_iff_ne.1 b1
 refine wN hs hI (bz 1 1) 1907291898 [q1 b1] .ret [(2, .ptr 1001 0)] [(1001, .var [vi 7, vb false, vb false, nilv, vi 0, vs (ba []), nilv, nilv])] fun a w hs => ?_
 exact rK (.val (.agg [vi 7, vb false, vb false, rwU ([]), vi 0, vs (ba []), rwS ([]), rwT ([])])) [] hs (by rw [obT, if_neg (by omega)]; rfl)
 have n1 := bne_eq_false_iff_eq.1 b1
 refine wN hs hI (bz 1 0) 19897291898 [q1 b1] .ret [(2, .ptr 1001 0)] [(1001, bTr (t))] fun a w hs => ?_
 exact rK (.val (aTr (t))) [] hs (by rw [obT, if_pos (by omega)])
theorem conNames (ta tb : Tree) (ha : ta.k.length < 1000000000) (hb : tb.k.length < 1000000000) : Con Tryz.prog I0 66 [.agg (encTree ta), .agg (encTree tb)] (.own 9 .str (namesU ta tb)) := by
 refine con_of Tryz.func66 rfl (Nat.le_of_ble_eq_true rfl) stab (fun w0 fz a hI hs => ?_)
 refine wL hs hI [(1, rc [(5, ciA 104 [.row .strs ([ta.k, tb.k])] [] [2004] (.own 9 .str (ta.k ++ tb.k)))]), (2, rc [(1, ciB 105 [.own 0] [] (.val (.tup [])) [(0, .sl 9 .str (ta.k ++ tb.k))] [(0, .sl 9 .str (sortS (ta.k ++ tb.k)))] [(0, 2005)])]), (3, rc [(1, ciB 106 [.own 0] [] (.val (.own 1)) [(0, .sl 9 .str (sortS (ta.k ++ tb.k)))] [(1, .sl 9 .str (compS (sortS (ta.k ++ tb.k))))] [(0, 2005), (1, 4001)])])] [] 129041914129604082918 [] .ret [(4, .own 4001)] [(4001, .sl 9 .str (compS (sortS (ta.k ++ tb.k))))] ⟨con_cat_str _ _ (by omega), conSortS _ (by rw [List.length_append]; omega), conCompS _ (by rw [sortS_len, List.length_append]; omega), tv⟩ fun a w hs => ?_
 exact FnQ_cast (out := .own 9 .str (compS (sortS (ta.k ++ tb.k)))) (by rw [names_is]) (ret_ok [] hs (.inl ⟨4001, by kernel_rfl, rfl⟩))
theorem conAlike (ta tb : Tree) (x : ByteArray) (ha : fineT ta) (hb : fineT tb) : Con Tryz.prog I0 67 [.agg (encTree ta), .agg (encTree tb), vs x] (.val (.tup [.agg (encTree (memV ta x)), vb (alike ta tb x)])) := by
 have ha1 := ((fine_eq ta).1 ha).1.2.2.1
 have hb1 := ((fine_eq tb).1 hb).1.2.2.1
 have ha2 := cutK_le ta
 have hb2 := cutK_le tb
 have hnl := namesU_len (obT ta) tb
 refine con_of Tryz.func67 rfl (Nat.le_of_ble_eq_true rfl) stab (fun w0 fz a hI hs => ?_)
 rcases bq (memB ta x) (memB tb x) with ⟨b1, n1⟩ | ⟨b1, n1⟩
 refine wL hs hI [(1, rc [(2, ciV 57 [aTr (ta), vs x] (.tup [aTr ((memV ta x)), vb (memB ta x)]))]), (2, rc [(2, ciV 57 [aTr (tb), vs x] (.tup [aTr ((memV tb x)), vb (memB tb x)]))]), (3, rg [(7, ciV 55 [aTr ((memV ta x)), aTr ((memV tb x))] (vb (sameT (memV ta x) (memV tb x))))] [5, 6, 7, 1008] [])] [] 12966072432727082661884026618840608 [q1 b1, q1 b1, q1 b1, q1 b1] .ret [(6, .ptr 1002 0), (7, vb (sameT (memV ta x) (memV tb x)))] [(1002, bTr ((memV ta x)))] ⟨con122 _ _ (by omega), con122 _ _ (by omega), conSame _ _ (fine_memV ha _) (fine_memV hb _), tv⟩ fun a w hs => ?_
 exact rK (.val (.tup [aTr ((memV ta x)), vb (sameT (memV ta x) (memV tb x))])) [] hs (by simp only [alike, b1]; first | done | rfl)
 refine wL hs hI [(1, rc [(2, ciV 57 [aTr (ta), vs x] (.tup [aTr ((memV ta x)), vb (memB ta x)]))]), (2, rc [(2, ciV 57 [aTr (tb), vs x] (.tup [aTr ((memV tb x)), vb (memB tb x)]))]), (3, rg [] [] [5, 6, 7, 1008])] [] 1296607333082661884026618840608 [q1 b1, q1 b1, q1 b1, q1 b1] .ret [(6, .ptr 1002 0), (7, vb false)] [(1002, bTr ((memV ta x)))] ⟨con122 _ _ (by omega), con122 _ _ (by omega), tv⟩ fun a w hs => ?_
 exact rK (.val (.tup [aTr ((memV ta x)), vb false])) [] hs (by simp only [alike, b1]; first | done | rfl)
theorem depth_mem1 {b : Tree} {n : Nat} {x : ByteArray} (hd : depth b ≤ n + 1) (hm : memB b x = true) : depth (memV b x) ≤ n := by
 have h1 := depth_eq b
 have h2 := depth_mem (mem_cutV hm)
 omega
theorem conPut (x : ByteArray) (v : Tree) (ks : List ByteArray) (us : List Tree) (hk : ks.length < 4000000000) (hu : us.length < 4000000000) : ConB Tryz.prog I0 68 [.ptr 0 0, vs x, .agg (encTree v)] [(0, .var [vi 7, vb false, vb false, nilv, vi 0, vs (ba []), .own 1, .own 2]), (1, .sl 9 .str ks), (2, .sl 28 .tree us)] (.val (.tup [])) [(0, .var [vi 7, vb false, vb false, nilv, vi 0, vs (ba []), .own 2007, .own 3007]), (2007, .sl 9 .str (ks ++ [x])), (3007, .sl 28 .tree (us ++ [v]))] := by
 refine con_ofB Tryz.func68 rfl (Nat.le_of_ble_eq_true rfl) (by kernel_rfl) (fun w0 fz η a hI hs => ?_)
 refine wN hs hI [] 873318829668718820 [q7 ks.length 1 16, q7 us.length 1 120, ⟨0 ≤ (us.length : Int) ∧ (us.length : Int) < (us ++ ([(Tree.mk 0 false ⟨false, [], 0⟩ (ba []) ([]) ([]))])).length, (by first | omega | (simp; done) | (simp; omega))⟩, ⟨us.length < (us ++ ([(Tree.mk 0 false ⟨false, [], 0⟩ (ba []) ([]) ([]))])).length, (by first | omega | (simp; done) | (simp; omega))⟩] .norm [] [(0, .var [vi 7, vb false, vb false, nilv, vi 0, vs (ba []), .own 2007, .own 3007]), (2007, .sl 9 .str (ks ++ ([x]))), (3007, .sl 28 .tree ((us ++ ([(Tree.mk 0 false ⟨false, [], 0⟩ (ba []) ([]) ([]))])).set us.length (Tree.et v)))] fun a w hs => ?_
 exact FnQB_cast (out := .val (.tup [])) (bo := [(0, .var [vi 7, vb false, vb false, nilv, vi 0, vs (ba []), .own 2007, .own 3007]), (2007, .sl 9 .str (ks ++ ([x]))), (3007, .sl 28 .tree ((us ++ ([(Tree.mk 0 false ⟨false, [], 0⟩ (ba []) ([]) ([]))])).set us.length (Tree.et v)))]) (rfl) (by simp only [Tree.eta', setLast]) (norm_okB _ hs (by kernel_rfl) (by kernel_rfl))
theorem conMerged_ : ∀ (n : Nat) (ta tb : Tree), depth tb ≤ n → fineT ta → fineT tb → Con Tryz.prog I0 64 [.agg (encTree ta), .agg (encTree tb)] (outM (mergedO n ta tb)) := by
 intro n
 induction n
 case zero => intro ta tb hd; have := depth_eq tb; omega
 rename_i n ih
 intro ta tb hd hfa hfb
 have hfo := obT_fine hfa
 have ha1 := ((fine_eq (obT ta)).1 hfo).1.2.2.1
 have hb1 := ((fine_eq tb).1 hfb).1.2.2.1
 have hb2 := cutK_le tb
 have hnl := namesU_len (obT ta) tb
 refine con_of Tryz.func64 rfl (Nat.le_of_ble_eq_true rfl) stab (fun w0 fz a hI hs => ?_)
 refine wNs hs hI [] 18 [] [(2, .ptr 1000 0), (3, .ptr 1001 0), (4, .ptr 1002 0)] [(1000, bTr (ta)), (1001, bTr (tb)), (1002, .var zTr)] fun a w hs => ?_
 refine wp_scope_straight ?_
 refine wp_seq ?_
 rcases bt (tb.kind != 7) with b1 | b1
 have n1 := bne_iff_ne.1 b1
 refine wN hs hI (bz 1 1) 19072918 [q1 b1] .ret [(4, .ptr 1002 0)] [(1002, bTr (tb))] fun a w hs => ?_
 refine then_ret ?_
 refine ng_ret ?_
 exact rK (.val (aTr (tb))) [] hs (by rw [mO_leaf (by omega)]; rfl)
 have n1 := bne_eq_false_iff_eq.1 b1
 refine wN hs hI (bz 1 0) 72918 [q1 b1] .norm [(2, .ptr 1000 0), (3, .ptr 1001 0), (4, .ptr 1002 0)] [(1000, bTr (ta)), (1001, bTr (tb)), (1002, .var zTr)] fun a w hs => ?_
 refine then_norm ?_
 refine wLs hs hI [(3, rc [(1, ciV 65 [aTr (ta)] (aTr ((obT ta))))])] [] 1141 [] [(2, .ptr 1000 0), (3, .ptr 1001 0), (4, .ptr 1002 0)] [(1000, bTr ((obT ta))), (1001, bTr (tb)), (1002, .var zTr)] ⟨conObT _, tv⟩ fun a w hs => ?_
 refine wNs hs hI [] 18 [] [(2, .ptr 1000 0), (3, .ptr 1001 0), (4, .ptr 1002 0), (5, .ptr 5001 0)] [(1000, bTr ((obT ta))), (1001, bTr (tb)), (1002, .var zTr), (5001, .var [vi 7, vb false, vb false, nilv, vi 0, vs (ba []), nilv, nilv])] fun a w hs => ?_
 refine wNs hs hI [] 1 [] [(2, .ptr 1000 0), (3, .ptr 1001 0), (4, .ptr 1002 0), (5, .ptr 5001 0)] [(1000, bTr ((obT ta))), (1001, bTr (tb)), (1002, .var zTr), (5001, .var [vi 7, vb false, vb false, nilv, vi 0, vs (ba []), nilv, nilv])] fun a w hs => ?_
 refine wp_seq ?_
 refine wLs hs hI [(5, rc [(2, ciV 66 [aTr ((obT ta)), aTr (tb)] (rwS (namesU (obT ta) tb)))])] [] 840 [] [(2, .ptr 1000 0), (3, .ptr 1001 0), (4, .ptr 1002 0), (5, .ptr 5001 0), (21, rwS (namesU (obT ta) tb)), (22, vi ((namesU (obT ta) tb).length : Int)), (23, vi 0)] [(1000, bTr ((obT ta))), (1001, bTr (tb)), (1002, .var zTr), (5001, .var [vi 7, vb false, vb false, nilv, vi 0, vs (ba []), nilv, nilv])] ⟨(conNames _ _ (by omega) (by omega)).frz, tv⟩ fun a w hs => ?_
 refine wp_block ?_
 refine loop_L (N := Tryz.f64.ntmps) (w0 := w0) (ow := noO fz) (α := Nat × Mem) (fun p => [(2, .ptr 1000 0), (3, .ptr 1001 0), (4, .ptr 1002 0), (5, .ptr 90000001 0), (21, rwS (namesU (obT ta) tb)), (22, vi ((namesU (obT ta) tb).length : Int)), (23, vi ((p.1 : Nat) : Int))]) (fun p => [(1000, bTr ((obT ta))), (1001, bTr (tb)), (1002, .var zTr), (90000001, .var [vi 7, vb false, vb false, nilv, vi 0, vs (ba []), .own 90000002, .own 90000003]), (90000002, .sl 9 .str (mK p.2)), (90000003, .sl 28 .tree (mV p.2))]) (fun p => GoJ (mergedO n) (obT ta) tb p.1 p.2) (fun p => (namesU (obT ta) tb).length - p.1) (0, []) ?_ ?_ ?_
 exact GoJ.start _ _ _
 (have hs := ((hs.nilB 10000003 5001 6 9 .str [vi 7, vb false, vb false, nilv, vi 0, vs (ba []), nilv, nilv] (by kernel_rfl) (by kernel_rfl) (by decide) (by decide) (by kernel_rfl) (by kernel_rfl)).nilB 10000004 5001 7 28 .tree [vi 7, vb false, vb false, nilv, vi 0, vs (ba []), .own 10000003, nilv] (by kernel_rfl) (by kernel_rfl) (by decide) (by decide) (by kernel_rfl) (by kernel_rfl)).rmT [(2, .ptr 1000 0), (3, .ptr 1001 0), (4, .ptr 1002 0), (5, .ptr 5001 0), (21, rwS (namesU (obT ta) tb)), (22, vi ((namesU (obT ta) tb).length : Int)), (23, vi 0)] [(1000, bTr ((obT ta))), (1001, bTr (tb)), (1002, .var zTr), (5001, .var [vi 7, vb false, vb false, nilv, vi 0, vs (ba []), .own 10000003, .own 10000004]), (10000003, .sl 9 .str ([])), (10000004, .sl 28 .tree ([]))] [(1000, 1000), (1001, 1001), (1002, 1002), (5001, 5001), (10000003, 10000003), (10000004, 10000004)] (by kernel_rfl); exact (hs.cst [(2, .ptr 1000 0), (3, .ptr 1001 0), (4, .ptr 1002 0), (5, .ptr 5001 0), (21, rwS (namesU (obT ta) tb)), (22, vi ((namesU (obT ta) tb).length : Int)), (23, vi ((0 : Nat) : Int))] [(1000, bTr ((obT ta))), (1001, bTr (tb)), (1002, .var zTr), (5001, .var [vi 7, vb false, vb false, nilv, vi 0, vs (ba []), .own 10000003, .own 10000004]), (10000003, .sl 9 .str (mK ([]))), (10000004, .sl 28 .tree (mV ([])))] rfl).rk [(1000, 1000), (1001, 1001), (1002, 1002), (90000001, 5001), (90000002, 10000003), (90000003, 10000004)])
 rintro ⟨i, L⟩ hJ a w hs
 try dsimp only at hJ
 have hi := hJ.le
 have hln := hJ.len
 have hkl : (mK L).length = L.length := List.length_map _
 have hvl : (mV L).length = L.length := List.length_map _
 rcases bd ((i : Int) < ((namesU (obT ta) tb).length : Int)) with ⟨b2, n2⟩ | ⟨b2, n2⟩
 rcases bt (alike (obT ta) tb ((namesU (obT ta) tb).getD i (dflt .str))) with b3 | b3
 refine wL hs hI [(8, rc [(3, ciV 67 [aTr ((obT ta)), aTr (tb), vs ((namesU (obT ta) tb).getD i (dflt .str))] (.tup [aTr ((memV (obT ta) ((namesU (obT ta) tb).getD i (dflt .str)))), vb (alike (obT ta) tb ((namesU (obT ta) tb).getD i (dflt .str)))]))]), (9, rc [(2, ciV 57 [aTr (tb), vs ((namesU (obT ta) tb).getD i (dflt .str))] (.tup [aTr ((memV tb ((namesU (obT ta) tb).getD i (dflt .str)))), vb (memB tb ((namesU (obT ta) tb).getD i (dflt .str)))]))])] (bz 2 3) 1726798266188409661884829072720 [q1 b2, q4 (i : Int) ((namesU (obT ta) tb).length), q1 b3, q3 ((i : Int) + 1)] .norm [(2, .ptr 1000 0), (3, .ptr 1001 0), (4, .ptr 1002 0), (5, .ptr 90000001 0), (21, rwS (namesU (obT ta) tb)), (22, vi ((namesU (obT ta) tb).length : Int)), (23, vi ((i : Int) + 1))] [(1000, bTr ((obT ta))), (1001, bTr (tb)), (1002, .var zTr), (90000001, .var [vi 7, vb false, vb false, nilv, vi 0, vs (ba []), .own 90000002, .own 90000003]), (90000002, .sl 9 .str (mK L)), (90000003, .sl 28 .tree (mV L))] ⟨conAlike _ _ _ hfo hfb, con122 _ _ (by omega), tv⟩ fun a w hs => ?_
 refine then_norm ⟨(i + 1, L), hJ.same (by omega) b3, by omega, ?_⟩
 exact hs.rk [(1000, 1000), (1001, 1001), (1002, 1002), (90000001, 90000001), (90000002, 90000002), (90000003, 90000003)]
 rcases bt (memB tb ((namesU (obT ta) tb).getD i (dflt .str))) with b4 | b4
 rcases bq ((memV tb ((namesU (obT ta) tb).getD i (dflt .str))).kind) (1) with ⟨b5, n5⟩ | ⟨b5, n5⟩
 refine wL hs hI [(8, rc [(3, ciV 67 [aTr ((obT ta)), aTr (tb), vs ((namesU (obT ta) tb).getD i (dflt .str))] (.tup [aTr ((memV (obT ta) ((namesU (obT ta) tb).getD i (dflt .str)))), vb (alike (obT ta) tb ((namesU (obT ta) tb).getD i (dflt .str)))]))]), (9, rc [(2, ciV 57 [aTr (tb), vs ((namesU (obT ta) tb).getD i (dflt .str))] (.tup [aTr ((memV tb ((namesU (obT ta) tb).getD i (dflt .str)))), vb (memB tb ((namesU (obT ta) tb).getD i (dflt .str)))]))])] (bz 4 9) 1176187298798266188409661884829072720 [q1 b2, q4 (i : Int) ((namesU (obT ta) tb).length), q1 b3, q1 (ng1 b4), q1 b5] (.thr (.iface 98 (.agg #[]))) [] [] ⟨conAlike _ _ _ hfo hfb, con122 _ _ (by omega), tv⟩ fun a w hs => ?_
 refine then_thr ?_
 refine inb_thr ?_
 refine then_thr ?_
 refine ng_thr ?_
 exact tK (.iface 98 (.agg #[])) hs (by rw [mO_none (by omega) (hJ.stop (by omega) b3 (step_null b4 (by omega)))]; rfl)
 rcases bt ((mergedO n (memV (obT ta) ((namesU (obT ta) tb).getD i (dflt .str))) (memV tb ((namesU (obT ta) tb).getD i (dflt .str)))).isSome) with b6 | b6
 refine wL hs hI [(8, rc [(3, ciV 67 [aTr ((obT ta)), aTr (tb), vs ((namesU (obT ta) tb).getD i (dflt .str))] (.tup [aTr ((memV (obT ta) ((namesU (obT ta) tb).getD i (dflt .str)))), vb (alike (obT ta) tb ((namesU (obT ta) tb).getD i (dflt .str)))]))]), (9, rc [(2, ciV 57 [aTr (tb), vs ((namesU (obT ta) tb).getD i (dflt .str))] (.tup [aTr ((memV tb ((namesU (obT ta) tb).getD i (dflt .str)))), vb (memB tb ((namesU (obT ta) tb).getD i (dflt .str)))]))]), (10, rc [(3, ciV 64 [aTr ((memV (obT ta) ((namesU (obT ta) tb).getD i (dflt .str)))), aTr ((memV tb ((namesU (obT ta) tb).getD i (dflt .str))))] (aTr ((theM (mergedO n (memV (obT ta) ((namesU (obT ta) tb).getD i (dflt .str))) (memV tb ((namesU (obT ta) tb).getD i (dflt .str)))))))), (4, ciB 68 [.ptr 0 0, vs ((namesU (obT ta) tb).getD i (dflt .str)), aTr ((theM (mergedO n (memV (obT ta) ((namesU (obT ta) tb).getD i (dflt .str))) (memV tb ((namesU (obT ta) tb).getD i (dflt .str))))))] [] (.val (.tup [])) [(0, .var [vi 7, vb false, vb false, nilv, vi 0, vs (ba []), .own 1, .own 2]), (1, .sl 9 .str (mK L)), (2, .sl 28 .tree (mV L))] [(0, .var [vi 7, vb false, vb false, nilv, vi 0, vs (ba []), .own 2007, .own 3007]), (2007, .sl 9 .str ((mK L) ++ [((namesU (obT ta) tb).getD i (dflt .str))])), (3007, .sl 28 .tree ((mV L) ++ [(theM (mergedO n (memV (obT ta) ((namesU (obT ta) tb).getD i (dflt .str))) (memV tb ((namesU (obT ta) tb).getD i (dflt .str)))))]))] [(0, 90000001), (1, 90000002), (2, 90000003), (2007, 11004), (3007, 1011004)])])] (bz 4 1) 179666144076187298798266188409661884829072720 [q1 b2, q4 (i : Int) ((namesU (obT ta) tb).length), q1 b3, q1 (ng1 b4), q1 b5, q3 ((i : Int) + 1)] .norm [(2, .ptr 1000 0), (3, .ptr 1001 0), (4, .ptr 1002 0), (5, .ptr 90000001 0), (21, rwS (namesU (obT ta) tb)), (22, vi ((namesU (obT ta) tb).length : Int)), (23, vi ((i : Int) + 1))] [(1000, bTr ((obT ta))), (1001, bTr (tb)), (1002, .var zTr), (11004, .sl 9 .str ((mK L) ++ [((namesU (obT ta) tb).getD i (dflt .str))])), (1011004, .sl 28 .tree ((mV L) ++ [(theM (mergedO n (memV (obT ta) ((namesU (obT ta) tb).getD i (dflt .str))) (memV tb ((namesU (obT ta) tb).getD i (dflt .str)))))])), (90000001, .var [vi 7, vb false, vb false, nilv, vi 0, vs (ba []), .own 11004, .own 1011004])] ⟨conAlike _ _ _ hfo hfb, con122 _ _ (by omega), outM_y (ih _ _ (depth_mem1 hd (by assumption)) (fine_memV hfo _) (fine_memV hfb _)) (by assumption), conPut _ _ _ _ (by first | omega | (simp; omega)) (by first | omega | (simp; omega)), tv⟩ fun a w hs => ?_
 refine then_norm ⟨(i + 1, L ++ [(((namesU (obT ta) tb).getD i (dflt .str)), theM (mergedO n (memV (obT ta) ((namesU (obT ta) tb).getD i (dflt .str))) (memV tb ((namesU (obT ta) tb).getD i (dflt .str)))))]), hJ.on (by omega) b3 (by rw [step_go b4 (by omega)]; exact theM_some b6), by omega, ?_⟩
 (have e0_ : ((i : Int) + 1) = ((((i + 1) : Nat) : Int)) := (by first | rfl | (omega)); have e1_ : ((mK L) ++ [((namesU (obT ta) tb).getD i (dflt .str))]) = (mK (L ++ [(((namesU (obT ta) tb).getD i (dflt .str)), theM (mergedO n (memV (obT ta) ((namesU (obT ta) tb).getD i (dflt .str))) (memV tb ((namesU (obT ta) tb).getD i (dflt .str)))))])) := (by first | rfl | (simp [mK])); have e2_ : ((mV L) ++ [(theM (mergedO n (memV (obT ta) ((namesU (obT ta) tb).getD i (dflt .str))) (memV tb ((namesU (obT ta) tb).getD i (dflt .str)))))]) = (mV (L ++ [(((namesU (obT ta) tb).getD i (dflt .str)), theM (mergedO n (memV (obT ta) ((namesU (obT ta) tb).getD i (dflt .str))) (memV tb ((namesU (obT ta) tb).getD i (dflt .str)))))])) := (by first | rfl | (simp [mV])); exact (hs.cst [(2, .ptr 1000 0), (3, .ptr 1001 0), (4, .ptr 1002 0), (5, .ptr 90000001 0), (21, rwS (namesU (obT ta) tb)), (22, vi ((namesU (obT ta) tb).length : Int)), (23, vi (((i + 1) : Nat) : Int))] [(1000, bTr ((obT ta))), (1001, bTr (tb)), (1002, .var zTr), (11004, .sl 9 .str (mK (L ++ [(((namesU (obT ta) tb).getD i (dflt .str)), theM (mergedO n (memV (obT ta) ((namesU (obT ta) tb).getD i (dflt .str))) (memV tb ((namesU (obT ta) tb).getD i (dflt .str)))))]))), (1011004, .sl 28 .tree (mV (L ++ [(((namesU (obT ta) tb).getD i (dflt .str)), theM (mergedO n (memV (obT ta) ((namesU (obT ta) tb).getD i (dflt .str))) (memV tb ((namesU (obT ta) tb).getD i (dflt .str)))))]))), (90000001, .var [vi 7, vb false, vb false, nilv, vi 0, vs (ba []), .own 11004, .own 1011004])] (by first | (rw [e0_, e1_, e2_]; done) | (simp only [e0_, e1_, e2_]; done) | rfl | (simp only [e0_, e1_, e2_]; rfl))).rk [(1000, 1000), (1001, 1001), (1002, 1002), (90000001, 90000001), (90000002, 11004), (90000003, 1011004)])
 refine wL hs hI [(8, rc [(3, ciV 67 [aTr ((obT ta)), aTr (tb), vs ((namesU (obT ta) tb).getD i (dflt .str))] (.tup [aTr ((memV (obT ta) ((namesU (obT ta) tb).getD i (dflt .str)))), vb (alike (obT ta) tb ((namesU (obT ta) tb).getD i (dflt .str)))]))]), (9, rc [(2, ciV 57 [aTr (tb), vs ((namesU (obT ta) tb).getD i (dflt .str))] (.tup [aTr ((memV tb ((namesU (obT ta) tb).getD i (dflt .str)))), vb (memB tb ((namesU (obT ta) tb).getD i (dflt .str)))]))]), (10, rc [(3, ciA 64 [aTr ((memV (obT ta) ((namesU (obT ta) tb).getD i (dflt .str)))), aTr ((memV tb ((namesU (obT ta) tb).getD i (dflt .str))))] [] [] (.thr (noneV)))])] (bz 4 1) 4076187298798266188409661884829072720 [q1 b2, q4 (i : Int) ((namesU (obT ta) tb).length), q1 b3, q1 (ng1 b4), q1 b5] (.thr (noneV)) [] [] ⟨conAlike _ _ _ hfo hfb, con122 _ _ (by omega), outM_n (ih _ _ (depth_mem1 hd (by assumption)) (fine_memV hfo _) (fine_memV hfb _)) (by assumption), tv⟩ fun a w hs => ?_
 refine then_thr ?_
 refine inb_thr ?_
 refine then_thr ?_
 refine ng_thr ?_
 exact tK (noneV) hs (by rw [mO_none (by omega) (hJ.stop (by omega) b3 ((by rw [step_go b4 (by omega)]; exact isSome_no b6)))]; rfl)
 refine wL hs hI [(8, rc [(3, ciV 67 [aTr ((obT ta)), aTr (tb), vs ((namesU (obT ta) tb).getD i (dflt .str))] (.tup [aTr ((memV (obT ta) ((namesU (obT ta) tb).getD i (dflt .str)))), vb (alike (obT ta) tb ((namesU (obT ta) tb).getD i (dflt .str)))]))]), (9, rc [(2, ciV 57 [aTr (tb), vs ((namesU (obT ta) tb).getD i (dflt .str))] (.tup [aTr ((memV tb ((namesU (obT ta) tb).getD i (dflt .str)))), vb (memB tb ((namesU (obT ta) tb).getD i (dflt .str)))]))]), (13, rc [(2, ciB 68 [.ptr 0 0, vs ((namesU (obT ta) tb).getD i (dflt .str)), aTr (nul)] [] (.val (.tup [])) [(0, .var [vi 7, vb false, vb false, nilv, vi 0, vs (ba []), .own 1, .own 2]), (1, .sl 9 .str (mK L)), (2, .sl 28 .tree (mV L))] [(0, .var [vi 7, vb false, vb false, nilv, vi 0, vs (ba []), .own 2007, .own 3007]), (2007, .sl 9 .str ((mK L) ++ [((namesU (obT ta) tb).getD i (dflt .str))])), (3007, .sl 28 .tree ((mV L) ++ [nul]))] [(0, 90000001), (1, 90000002), (2, 90000003), (2007, 14002), (3007, 1014002)])])] (bz 3 5) 179661417298798266188409661884829072720 [q1 b2, q4 (i : Int) ((namesU (obT ta) tb).length), q1 b3, q1 (ng0 b4), q3 ((i : Int) + 1)] .norm [(2, .ptr 1000 0), (3, .ptr 1001 0), (4, .ptr 1002 0), (5, .ptr 90000001 0), (21, rwS (namesU (obT ta) tb)), (22, vi ((namesU (obT ta) tb).length : Int)), (23, vi ((i : Int) + 1))] [(1000, bTr ((obT ta))), (1001, bTr (tb)), (1002, .var zTr), (14002, .sl 9 .str ((mK L) ++ [((namesU (obT ta) tb).getD i (dflt .str))])), (1014002, .sl 28 .tree ((mV L) ++ [nul])), (90000001, .var [vi 7, vb false, vb false, nilv, vi 0, vs (ba []), .own 14002, .own 1014002])] ⟨conAlike _ _ _ hfo hfb, con122 _ _ (by omega), conPut _ _ _ _ (by first | omega | (simp; omega)) (by first | omega | (simp; omega)), tv⟩ fun a w hs => ?_
 refine then_norm ⟨(i + 1, L ++ [(((namesU (obT ta) tb).getD i (dflt .str)), nul)]), hJ.on (by omega) b3 (step_gone b4), by omega, ?_⟩
 (have e0_ : ((i : Int) + 1) = ((((i + 1) : Nat) : Int)) := (by first | rfl | (omega)); have e1_ : ((mK L) ++ [((namesU (obT ta) tb).getD i (dflt .str))]) = (mK (L ++ [(((namesU (obT ta) tb).getD i (dflt .str)), nul)])) := (by first | rfl | (simp [mK])); have e2_ : ((mV L) ++ [nul]) = (mV (L ++ [(((namesU (obT ta) tb).getD i (dflt .str)), nul)])) := (by first | rfl | (simp [mV])); exact (hs.cst [(2, .ptr 1000 0), (3, .ptr 1001 0), (4, .ptr 1002 0), (5, .ptr 90000001 0), (21, rwS (namesU (obT ta) tb)), (22, vi ((namesU (obT ta) tb).length : Int)), (23, vi (((i + 1) : Nat) : Int))] [(1000, bTr ((obT ta))), (1001, bTr (tb)), (1002, .var zTr), (14002, .sl 9 .str (mK (L ++ [(((namesU (obT ta) tb).getD i (dflt .str)), nul)]))), (1014002, .sl 28 .tree (mV (L ++ [(((namesU (obT ta) tb).getD i (dflt .str)), nul)]))), (90000001, .var [vi 7, vb false, vb false, nilv, vi 0, vs (ba []), .own 14002, .own 1014002])] (by first | (rw [e0_, e1_, e2_]; done) | (simp only [e0_, e1_, e2_]; done) | rfl | (simp only [e0_, e1_, e2_]; rfl))).rk [(1000, 1000), (1001, 1001), (1002, 1002), (90000001, 90000001), (90000002, 14002), (90000003, 1014002)])
 refine wN hs hI (bz 1 0) 720 [q1 b2] (.exit 0) [(4, .ptr 1002 0), (5, .ptr 90000001 0)] [(1002, .var zTr), (90000001, .var [vi 7, vb false, vb false, nilv, vi 0, vs (ba []), .own 90000002, .own 90000003]), (90000002, .sl 9 .str (mK L)), (90000003, .sl 28 .tree (mV L))] fun a w hs => ?_
 refine then_exit ?_
 refine inb_hit ?_
 refine then_norm ?_
 refine wN hs hI [] 198 [] .ret [(4, .ptr 1002 0)] [(1002, .var [vi 7, vb false, vb false, nilv, vi 0, vs (ba []), .own 90000002, .own 90000003]), (90000002, .sl 9 .str (mK L)), (90000003, .sl 28 .tree (mV L))] fun a w hs => ?_
 refine ng_ret ?_
 exact rK (.val (.agg [vi 7, vb false, vb false, rwU ([]), vi 0, vs (ba []), rwS (mK L), rwT (mV L)])) [90000002, 90000003] hs (by rw [mO_obj (by omega) (hJ.fin (by omega))]; rfl)
theorem clDm  : CloD Tryz.prog I0 63 [.ptr 0 0, .ptr 1 0] (.iface 98 (.agg #[])) [(0, .var [.junk, .junk, .junk, .junk, .junk, .junk, .junk, .junk]), (1, .var [.junk])] [(0, .var [vi 0, vb false, vb false, nilv, vi 0, vs (ba []), nilv, nilv]), (1, .var [vb false])] := by
 refine cloD_of Tryz.func63 rfl rfl rfl rfl rfl rfl rfl (Nat.le_of_ble_eq_true rfl) (Nat.le_of_ble_eq_true rfl) (Nat.le_of_ble_eq_true rfl) (by kernel_rfl) (fun w0 fz η a hI hs => ?_)
 refine wN hs hI (bz 2 1) 182979866088798 [q0 true, q0 false] .norm [] [(0, .var zTr), (1, .var [vb false])] fun a w hs => ?_
 exact FnQB_cast (out := .val (.tup [])) (bo := [(0, .var zTr), (1, .var [vb false])]) (rfl) (rfl) (norm_okB _ hs (by kernel_rfl) (by kernel_rfl))
theorem clIm : CloI Tryz.prog I0 63 2 := by
 refine cloI_of Tryz.func63 rfl rfl rfl rfl rfl rfl rfl (Nat.le_of_ble_eq_true rfl) (Nat.le_of_ble_eq_true rfl) (Nat.le_of_ble_eq_true rfl) (fun w0 fz a hI hs => ?_)
 refine wN hs hI (bz 1 0) 798 [q0 false] .norm [] [] fun a w hs => ?_
 exact nK (.val (.tup [])) [] hs rfl
theorem conMerge (n : Nat) (ta tb : Tree) (hdp : depth tb ≤ n) (hfa : fineT ta) (hfb : fineT tb) : Con Tryz.prog I0 34 [.agg (encTree ta), .agg (encTree tb)] (.val (.tup [.agg (encTree (theM (mergedO n ta tb))), vb (mergedO n ta tb).isSome])) := by
 refine con_ofD Tryz.func34 rfl (Nat.le_of_ble_eq_true rfl) stab (fun w0 fz a hI hs => ?_)
 refine wNs hs hI [] 118 [] [(2, .ptr 1000 0), (3, .ptr 1001 0), (4, .ptr 1002 0), (5, .ptr 1003 0)] [(1000, bTr (ta)), (1001, bTr (tb)), (1002, .var zTr), (1003, .var [vb false])] fun a w hs => ?_
 refine wp_seq ?_
 have hs := hs.ren0 (T' := [(2, .ptr 1000 0), (3, .ptr 1001 0), (4, .ptr 900 0), (5, .ptr 901 0)]) (B' := [(900, .var zTr), (901, .var [vb false]), (1000, bTr (ta)), (1001, bTr (tb))]) [(1000, 1000), (1001, 1001), (900, 1002), (901, 1003)] (by kernel_rfl) rfl rfl
 refine defer_L [4, 5] hs ent63 rfl rfl rfl rfl rfl rfl (Nat.le_of_ble_eq_true rfl) rfl rfl rfl (fun us d a hus hd hs => ?_)
 have hI : ∀ w', Fr (dO fz us d) w0 w' → I0 w' := fun w' h => hI w' ⟨h.os, h.tape, h.output, h.size, h.block⟩
 refine then_norm ?_
 rcases bt ((mergedO n ta tb).isSome) with b1 | b1
 refine wL hs hI [(2, rc [(2, ciV 64 [aTr (ta), aTr (tb)] (aTr ((theM (mergedO n ta tb)))))])] [] 126840 [] .ret [(4, .ptr 900 0), (5, .ptr 901 0)] [(900, bTr ((theM (mergedO n ta tb)))), (901, .var [vb true])] ⟨outM_y (conMerged_ n ta tb hdp hfa hfb) (by assumption), tv⟩ fun a w hs => ?_
 exact FnD_cast (out := .val (.tup [aTr ((theM (mergedO n ta tb))), vb true])) (by rw [b1]; first | done | rfl) (ret_okD [] hs 2 hus hd clIm hI ⟨by kernel_rfl, rfl⟩)
 refine wL hs hI [(2, rc [(2, ciA 64 [aTr (ta), aTr (tb)] [] [] (.thr (noneV)))])] [] 40 [] (.thr (noneV)) [(4, .ptr 900 0), (5, .ptr 901 0)] [(900, .var zTr), (901, .var [vb false])] ⟨outM_n (conMerged_ n ta tb hdp hfa hfb) (by assumption), tv⟩ fun a w hs => ?_
 exact FnD_cast (out := .val (.tup [.agg [vi 0, vb false, vb false, rwU ([]), vi 0, vs (ba []), rwS ([]), rwT ([])], vb false])) (by rw [isSome_no b1]; first | done | rfl) (thr_okD [(4, .ptr 900 0), (5, .ptr 901 0)] hs 2 hus (by decide) hd (clDm) hI rfl (by kernel_rfl) (by kernel_rfl) rfl (by kernel_rfl) ⟨by kernel_rfl, rfl⟩)
end Go.Proofs.YtfimffgfnhplkaaGreatDoor.F
