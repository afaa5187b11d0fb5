import Derived.Test.YtfimffgfnhplkaaGreatDoorS5
import Derived.Test.YtfimffgfnhplkaaGreatDoorS6
set_option maxRecDepth 100000
set_option linter.unusedVariables false
set_option linter.unusedSimpArgs false
namespace Go.Proofs.YtfimffgfnhplkaaGreatDoor.F
open Go Go.RowKit Go.Proofs.Tryz
theorem eqT_comm (a b : ByteArray) : eqT a b = eqT b a := by
 cases h : eqT a b with
 | true => rw [eqT_iff] at h; subst h; exact (eqT_self a).symm
 | false => rw [eqT_ne] at h; exact (eqT_ne.2 (Ne.symm h)).symm
theorem cut_length {t : Tree} (hk : t.kind = 7) : (cutK t).length = min t.k.length t.v.length := by
 unfold cutK; rw [if_pos hk, List.length_take]; omega
theorem cutK_at {t : Tree} (hk : t.kind = 7) {i : Nat} (h1 : i < t.k.length) (h2 : i < t.v.length) (d : ByteArray) : (cutK t).getD i d = t.k.getD i d := by
 unfold cutK; rw [if_pos hk, List.getD_eq_getElem?_getD, List.getElem?_take, if_pos (by omega), ← List.getD_eq_getElem?_getD]
theorem cutV_at {t : Tree} (hk : t.kind = 7) {i : Nat} (h1 : i < t.k.length) (h2 : i < t.v.length) (d : Tree) : (cutV t).getD i d = t.v.getD i d := by
 unfold cutV; rw [if_pos hk, List.getD_eq_getElem?_getD, List.getElem?_take, if_pos (by omega), ← List.getD_eq_getElem?_getD]
theorem mem_found {t : Tree} {x : ByteArray} {i : Nat} (hk : t.kind = 7) (h1 : i < t.k.length) (h2 : i < t.v.length) (hall : ∀ j, j < i → eqT (t.k.getD j (dflt .str)) x = false) (he : eqT (t.k.getD i (dflt .str)) x = true) : memV t x = t.v.getD i (dflt .tree) ∧ memB t x = true := by
 have hl := cut_length hk
 have h := idxT_at (x := x) (l := cutK t) (i := i) (dflt .str) (by omega) (by rw [cutK_at hk h1 h2, eqT_comm]; exact he) (fun j hj d => by rw [getD_any' (by omega) d (dflt .str), cutK_at hk (by omega) (by omega), eqT_comm]; exact hall j hj)
 have hp := memV_pos (t := t) (x := x) (by rw [h]; omega)
 rw [h, Int.toNat_natCast, cutV_at hk h1 h2] at hp
 exact hp
theorem mem_none {t : Tree} {x : ByteArray} {i : Nat} (h : ¬ (t.kind = 7) ∨ (min t.k.length t.v.length ≤ i ∧ ∀ j, j < i → eqT (t.k.getD j (dflt .str)) x = false)) : memV t x = Tree.zero ∧ memB t x = false := by
 refine memV_neg ?_
 rw [idxT_no]
 decide
 intro j hj d
 by_cases hk : t.kind = 7
 rcases h with h | ⟨h, hall⟩
 exact absurd hk h
 have hl := cut_length hk
 rw [getD_any' hj d (dflt .str), cutK_at hk (by omega) (by omega), eqT_comm]
 exact hall j (by omega)
 unfold cutK at hj
 rw [if_neg hk] at hj; simp at hj
theorem mems_none {t : Tree} (hk : ¬ t.kind = 7) : mems t = [] := by unfold mems cutK; rw [if_neg hk]; rfl
theorem mems_len {t : Tree} (hk : t.kind = 7) : (mems t).length = min t.k.length t.v.length := by
 have h : ((mems t).map (·.1)).length = (cutK t).length := by rw [mems_k]
 rw [List.length_map] at h; rw [h, cut_length hk]
theorem mems_drop {t : Tree} (hk : t.kind = 7) {i : Nat} (h1 : i < t.k.length) (h2 : i < t.v.length) : (mems t).drop i = (t.k.getD i (dflt .str), t.v.getD i (dflt .tree)) :: (mems t).drop (i + 1) := by
 have hl := mems_len hk
 rw [List.drop_eq_getElem_cons (by omega)]
 congr 1
 have e1 : ((mems t).map (·.1)).getD i (dflt .str) = t.k.getD i (dflt .str) := by rw [mems_k, cutK_at hk h1 h2]
 have e2 : ((mems t).map (·.2)).getD i (dflt .tree) = t.v.getD i (dflt .tree) := by rw [mems_v, cutV_at hk h1 h2]
 have hi : i < (mems t).length := by omega
 rw [List.getD_eq_getElem?_getD, List.getElem?_map, List.getElem?_eq_getElem hi] at e1 e2
 exact Prod.ext e1 e2
theorem mems_end {t : Tree} {i : Nat} (h : ¬ t.kind = 7 ∨ t.k.length ≤ i ∨ t.v.length ≤ i) : (mems t).drop i = [] := by
 by_cases hk : t.kind = 7
 exact List.drop_of_length_le (by rw [mems_len hk]; omega)
 rw [mems_none hk]; simp
def restS (x : ByteArray) (v : Tree) (has done : Bool) (l : Mem) : Mem := if done = true then l else if has = true then repA x v l else putA x v l
theorem restS_done {x : ByteArray} {v : Tree} {has : Bool} (l : Mem) : restS x v has true l = l := rfl
theorem rest_hit {x : ByteArray} {v : Tree} {has : Bool} {k : ByteArray} {u : Tree} {l : Mem} (hh : has = true) (h : eqT k x = true) : restS x v has false ((k, u) :: l) = (x, v) :: restS x v has true l := by
 subst hh
 rw [eqT_iff] at h; subst h
 simp [restS, repA, eqT_self]
theorem rest_put {x : ByteArray} {v : Tree} {k : ByteArray} {u : Tree} {l : Mem} (h : gtB k x = true) : restS x v false false ((k, u) :: l) = (x, v) :: (k, u) :: restS x v false true l := by
 simp [restS, putA, h]
theorem rest_on {x : ByteArray} {v : Tree} {has done : Bool} {k : ByteArray} {u : Tree} {l : Mem} (h : done = true ∨ (has = true ∧ eqT k x = false) ∨ (has = false ∧ gtB k x = false)) : restS x v has done ((k, u) :: l) = (k, u) :: restS x v has done l := by
 rcases h with rfl | ⟨rfl, h⟩ | ⟨rfl, h⟩
 rfl
 cases done <;> simp [restS, repA, eqT_comm x k, h]
 cases done <;> simp [restS, putA, h]
def mK (l : Mem) : List ByteArray := l.map (·.1)
def mV (l : Mem) : List Tree := l.map (·.2)
theorem mK_add (l m : Mem) : mK (l ++ m) = mK l ++ mK m := List.map_append
theorem mV_add (l m : Mem) : mV (l ++ m) = mV l ++ mV m := List.map_append
theorem objM_snoc (l : Mem) (x : ByteArray) (v : Tree) : objM (l ++ [(x, v)]) = .mk 7 false ⟨false, [], 0⟩ (ba []) (mK l ++ [x]) (mV l ++ [v]) := by simp [objM, mK, mV]
structure SetJ (t : Tree) (x : ByteArray) (v : Tree) (i : Nat) (acc : Mem) (done : Bool) : Prop where
 eq : acc ++ restS x v (memB t x) done ((mems t).drop i) = insA x v (mems t)
 has : memB t x = true → done = false → (lookA x ((mems t).drop i)).isSome = true
 none : memB t x = false → done = false → ∀ j, j < i → t.kind = 7 → eqT (t.k.getD j (dflt .str)) x = false
 len : acc.length ≤ i + done.toNat
theorem SetJ.start (t : Tree) (x : ByteArray) (v : Tree) : SetJ t x v 0 [] false := by
 refine ⟨?_, fun h _ => ?_, fun _ _ j hj => absurd hj (Nat.not_lt_zero _), Nat.zero_le _⟩
 rw [List.nil_append, List.drop_zero, memB_look]; rfl
 rw [List.drop_zero, ← memB_look]; exact h
theorem memB_key {t : Tree} {x : ByteArray} {i : Nat} (hk : t.kind = 7) (h1 : i < t.k.length) (h2 : i < t.v.length) (h : eqT (t.k.getD i (dflt .str)) x = true) : memB t x = true := by
 rw [memB_look]
 cases hn : lookA x (mems t) with
 | some u => rfl
 | none =>
  exfalso
  have hd := mems_drop hk h1 h2
  have hm : (t.k.getD i (dflt .str), t.v.getD i (dflt .tree)) ∈ mems t := List.mem_of_mem_drop (by rw [hd]; exact List.mem_cons_self ..)
  have key : ∀ l : Mem, lookA x l = none → (t.k.getD i (dflt .str), t.v.getD i (dflt .tree)) ∈ l → False := by
   intro l
   induction l with
   | nil => intro _ h; simp at h
   | cons p l ih =>
    obtain ⟨y, u⟩ := p
    intro hl hm
    simp only [lookA] at hl
    split at hl
    cases hl
    rename_i e
    rcases List.mem_cons.1 hm with hm | hm
    injection hm with e1 e2
    rw [← e1, eqT_comm] at e
    exact e h
    exact ih hl hm
  exact key _ hn hm
section
variable {t : Tree} {x : ByteArray} {v : Tree} {i : Nat} {acc : Mem} {done : Bool} (J : SetJ t x v i acc done) (hk : t.kind = 7) (h1 : i < t.k.length) (h2 : i < t.v.length)
include J hk h1 h2
theorem SetJ.hit (hd : done = false) (h : eqT (t.k.getD i (dflt .str)) x = true) : SetJ t x v (i + 1) (acc ++ [(x, v)]) true := by
 have hb := memB_key hk h1 h2 h
 refine ⟨?_, fun _ h => (by cases h), fun _ h => (by cases h), by have := J.len; subst hd; simp at *; omega⟩
 have he := J.eq
 rw [mems_drop hk h1 h2, hd, rest_hit hb h] at he
 rw [← he]; simp
theorem SetJ.put (hd : done = false) (hh : memB t x = false) (h : gtB (t.k.getD i (dflt .str)) x = true) : SetJ t x v (i + 1) (acc ++ [(x, v)] ++ [(t.k.getD i (dflt .str), t.v.getD i (dflt .tree))]) true := by
 refine ⟨?_, fun _ h => (by cases h), fun _ h => (by cases h), ?_⟩
 have he := J.eq
 rw [mems_drop hk h1 h2, hd, hh, rest_put h] at he
 rw [← he]; simp [restS]
 have := J.len; subst hd; simp at *; omega
theorem SetJ.on (h : done = true ∨ (memB t x = true ∧ eqT (t.k.getD i (dflt .str)) x = false) ∨ (memB t x = false ∧ eqT (t.k.getD i (dflt .str)) x = false ∧ gtB (t.k.getD i (dflt .str)) x = false)) : SetJ t x v (i + 1) (acc ++ [(t.k.getD i (dflt .str), t.v.getD i (dflt .tree))]) done := by
 have hr : done = true ∨ (memB t x = true ∧ eqT (t.k.getD i (dflt .str)) x = false) ∨ (memB t x = false ∧ gtB (t.k.getD i (dflt .str)) x = false) := by
  rcases h with h | h | ⟨a, _, c⟩
  exact .inl h
  exact .inr (.inl h)
  exact .inr (.inr ⟨a, c⟩)
 refine ⟨?_, fun hb hd => ?_, fun hb hd j hj hk' => ?_, by have := J.len; simp; omega⟩
 have he := J.eq
 rw [mems_drop hk h1 h2, rest_on hr] at he
 rw [← he]; simp
 have hs := J.has hb hd
 rw [mems_drop hk h1 h2] at hs
 rcases h with h | ⟨_, h⟩ | ⟨h, _⟩
 rw [hd] at h; cases h
 simp only [lookA] at hs
 rw [if_neg (by rw [eqT_comm, h]; decide)] at hs
 exact hs
 rw [hb] at h; cases h
 rcases Nat.lt_succ_iff_lt_or_eq.1 hj with hj | rfl
 exact J.none hb hd j hj hk'
 rcases h with h | ⟨h, _⟩ | ⟨_, h, _⟩
 rw [hd] at h; cases h
 rw [hb] at h; cases h
 exact h
end
theorem SetJ.fin_done {t : Tree} {x : ByteArray} {v : Tree} {i : Nat} {acc : Mem} {done : Bool} (J : SetJ t x v i acc done) (hd : done = true) (he : (mems t).drop i = []) : setT t x v = objM acc := by
 have h := J.eq
 rw [he, hd, restS_done, List.append_nil] at h
 unfold setT; rw [← h]
theorem SetJ.fin_not {t : Tree} {x : ByteArray} {v : Tree} {i : Nat} {acc : Mem} {done : Bool} (J : SetJ t x v i acc done) (hd : done = false) (he : (mems t).drop i = []) : setT t x v = objM (acc ++ [(x, v)]) := by
 have h := J.eq
 cases hb : memB t x with
 | true =>
  have := J.has hb hd
  rw [he] at this; simp [lookA] at this
 | false =>
  rw [he, hd, hb] at h
  unfold setT; rw [← h]; rfl
theorem con69 (t : Tree) (x : ByteArray) (hv : t.v.length < 4611686018427387904) : Con Tryz.prog I0 24 [.agg (encTree t), vs x] (.val (.tup [.agg (encTree (memV t x)), vb (memB t x)])) := by
 refine con_of Tryz.func24 rfl (Nat.le_of_ble_eq_true rfl) stab (fun w0 fz a hI hs => ?_)
 refine wNs hs hI [] 18 [] [(1, vs x), (2, .ptr 1000 0), (4, .ptr 1001 0)] [(1000, bTr (t)), (1001, .var zTr)] fun a w hs => ?_
 refine wp_seq ?_
 refine wNs hs hI [] 11 [] [(1, vs x), (2, .ptr 1000 0), (4, .ptr 1001 0), (6, vi 0)] [(1000, bTr (t)), (1001, .var zTr)] fun a w hs => ?_
 refine wp_block ?_
 refine loop_L (N := Tryz.f24.ntmps) (w0 := w0) (ow := noO fz) (α := Nat) (fun p => [(1, vs x), (2, .ptr 1000 0), (4, .ptr 1001 0), (6, vi (p : Int))]) (fun p => [(1000, bTr (t)), (1001, .var zTr)]) (fun p => (p ≤ t.k.length ∧ p ≤ t.v.length) ∧ ∀ j, j < p → eqT (t.k.getD j (dflt .str)) x = false) (fun p => t.k.length - p) 0 ?_ ?_ ?_
 exact ⟨⟨Nat.zero_le _, Nat.zero_le _⟩, fun j hj => absurd hj (Nat.not_lt_zero _)⟩
 exact (hs.cst [(1, vs x), (2, .ptr 1000 0), (4, .ptr 1001 0), (6, vi ((0 : Nat) : Int))] [(1000, bTr (t)), (1001, .var zTr)] rfl).rk [(1000, 1000), (1001, 1001)]
 rintro i hJ a w hs
 obtain ⟨⟨hi, hi2⟩, hall⟩ := hJ
 refine wp_seq ?_
 rcases bd ((i : Int) < (t.k.length : Int)) with ⟨b1, n1⟩ | ⟨b1, n1⟩
 rcases bd ((i : Int) < (t.v.length : Int)) with ⟨b2, n2⟩ | ⟨b2, n2⟩
 rcases bq (t.kind) (7) with ⟨b3, n3⟩ | ⟨b3, n3⟩
 refine wL hs hI [(2, rg [] [6, 7, 8, 9, 10, 1011, 13, 14, 15, 1016] [])] (bz 1 1) 72666666777777777788 [q1 b1, q1 b1, q1 b1, q1 b1, q1 b1, q1 b1, q1 b2, q1 b2, q1 b2, q1 b2, q1 b3] .norm [(1, vs x), (2, .ptr 1000 0), (4, .ptr 1001 0), (6, vi (i : Int))] [(1000, bTr (t)), (1001, .var zTr)] tv fun a w hs => ?_
 refine then_norm ?_
 rcases bq ((t.k.getD i (dflt .str)).toList) (x.toList) with ⟨b4, n4⟩ | ⟨b4, n4⟩
 refine wN hs hI (bz 1 1) 12968707296878 [q4 (i : Int) t.k.length, q1 b4, q4 (i : Int) t.v.length] .ret [(4, .ptr 1001 0), (5, vb true)] [(1001, bTr ((t.v.getD i (dflt .tree))))] fun a w hs => ?_
 refine then_ret ?_
 refine inb_ret ?_
 refine then_ret ?_
 exact rK (.val (.tup [aTr ((t.v.getD i (dflt .tree))), vb true])) [] hs (by have h := mem_found (x := x) (i := i) (by omega) (by omega) (by omega) hall b4; rw [h.1, h.2])
 refine wN hs hI (bz 1 0) 17197296878 [q4 (i : Int) t.k.length, q1 b4, q3 ((i : Int) + 1)] .norm [(1, vs x), (2, .ptr 1000 0), (4, .ptr 1001 0), (6, vi ((i : Int) + 1))] [(1000, bTr (t)), (1001, .var zTr)] fun a w hs => ?_
 refine then_norm ⟨i + 1, ⟨⟨by omega, by omega⟩, fun j hj => by rcases Nat.lt_succ_iff_lt_or_eq.1 hj with h | h; exact hall j h; subst h; exact b4⟩, by omega, ?_⟩
 exact hs.rk [(1000, 1000), (1001, 1001)]
 refine wL hs hI [(2, rg [] [6, 7, 8, 9, 10, 1011, 13, 14, 15, 1016] [])] (bz 1 0) 72666666777777777788 [q1 b1, q1 b1, q1 b1, q1 b1, q1 b1, q1 b1, q1 b2, q1 b2, q1 b2, q1 b2, q1 b3] (.exit 0) [(4, .ptr 1001 0)] [(1001, .var zTr)] tv fun a w hs => ?_
 refine then_exit ?_
 refine then_exit ?_
 refine inb_hit ?_
 refine then_norm ?_
 refine wN hs hI [] 12918 [] .ret [(4, .ptr 1001 0), (5, vb false)] [(1001, .var zTr)] fun a w hs => ?_
 exact rK (.val (.tup [.agg [vi 0, vb false, vb false, rwU ([]), vi 0, vs (ba []), rwS ([]), rwT ([])], vb false])) [] hs (by have h := mem_none (t := t) (x := x) (i := i) (by first | exact .inl (by omega) | exact .inr ⟨by omega, hall⟩); rw [h.1, h.2]; rfl)
 refine wL hs hI [(2, rg [] [6, 7, 8, 9, 10, 1011] [13, 14, 15, 1016])] (bz 1 0) 7966666733377777788 [q1 b1, q1 b1, q1 b1, q1 b1, q1 b1, q1 b1, q1 b2, q1 b2, q1 b2, q1 b2, q0 false] (.exit 0) [(4, .ptr 1001 0)] [(1001, .var zTr)] tv fun a w hs => ?_
 refine then_exit ?_
 refine then_exit ?_
 refine inb_hit ?_
 refine then_norm ?_
 refine wN hs hI [] 12918 [] .ret [(4, .ptr 1001 0), (5, vb false)] [(1001, .var zTr)] fun a w hs => ?_
 exact rK (.val (.tup [.agg [vi 0, vb false, vb false, rwU ([]), vi 0, vs (ba []), rwS ([]), rwT ([])], vb false])) [] hs (by have h := mem_none (t := t) (x := x) (i := i) (by first | exact .inl (by omega) | exact .inr ⟨by omega, hall⟩); rw [h.1, h.2]; rfl)
 refine wL hs hI [(2, rg [] [] [6, 7, 8, 9, 10, 1011, 13, 14, 15, 1016])] (bz 1 0) 726666733373333388 [q1 b1, q1 b1, q1 b1, q1 b1, q1 b1, q1 b1, q0 false, q0 false, q0 false, q0 false, q0 false] (.exit 0) [(4, .ptr 1001 0)] [(1001, .var zTr)] tv fun a w hs => ?_
 refine then_exit ?_
 refine then_exit ?_
 refine inb_hit ?_
 refine then_norm ?_
 refine wN hs hI [] 12918 [] .ret [(4, .ptr 1001 0), (5, vb false)] [(1001, .var zTr)] fun a w hs => ?_
 exact rK (.val (.tup [.agg [vi 0, vb false, vb false, rwU ([]), vi 0, vs (ba []), rwS ([]), rwT ([])], vb false])) [] hs (by have h := mem_none (t := t) (x := x) (i := i) (by first | exact .inl (by omega) | exact .inr ⟨by omega, hall⟩); rw [h.1, h.2]; rfl)
theorem con22 (t : Tree) (x : ByteArray) (v : Tree) (hv : t.v.length < 100000000) : Con Tryz.prog I0 25 [.agg (encTree t), vs x, .agg (encTree v)] (.val (.agg (encTree (setT t x v)))) := by
 refine con_of Tryz.func25 rfl (Nat.le_of_ble_eq_true rfl) stab (fun w0 fz a hI hs => ?_)
 refine wNs hs hI [] 18 [] [(1, vs x), (3, .ptr 1000 0), (5, .ptr 1001 0), (6, .ptr 1002 0)] [(1000, bTr (t)), (1001, bTr (v)), (1002, .var zTr)] fun a w hs => ?_
 refine wNs hs hI [] 18 [] [(1, vs x), (3, .ptr 1000 0), (5, .ptr 1001 0), (6, .ptr 1002 0), (7, .ptr 2001 0)] [(1000, bTr (t)), (1001, bTr (v)), (1002, .var zTr), (2001, .var [vi 7, vb false, vb false, nilv, vi 0, vs (ba []), nilv, nilv])] fun a w hs => ?_
 refine wNs hs hI [] 11 [] [(1, vs x), (3, .ptr 1000 0), (5, .ptr 1001 0), (6, .ptr 1002 0), (7, .ptr 2001 0), (8, vb false)] [(1000, bTr (t)), (1001, bTr (v)), (1002, .var zTr), (2001, .var [vi 7, vb false, vb false, nilv, vi 0, vs (ba []), nilv, nilv])] fun a w hs => ?_
 refine wLs hs hI [(3, rc [(2, ciV 24 [aTr (t), vs x] (.tup [aTr ((memV t x)), vb (memB t x)]))])] [] 18840 [] [(1, vs x), (3, .ptr 1000 0), (5, .ptr 1001 0), (6, .ptr 1002 0), (7, .ptr 2001 0), (8, vb false), (10, vb (memB t x))] [(1000, bTr (t)), (1001, bTr (v)), (1002, .var zTr), (2001, .var [vi 7, vb false, vb false, nilv, vi 0, vs (ba []), nilv, nilv])] ⟨con69 _ _ (by omega), tv⟩ fun a w hs => ?_
 refine wp_seq ?_
 refine wNs hs hI [] 11 [] [(1, vs x), (3, .ptr 1000 0), (5, .ptr 1001 0), (6, .ptr 1002 0), (7, .ptr 2001 0), (8, vb false), (10, vb (memB t x)), (11, vi 0)] [(1000, bTr (t)), (1001, bTr (v)), (1002, .var zTr), (2001, .var [vi 7, vb false, vb false, nilv, vi 0, vs (ba []), nilv, nilv])] fun a w hs => ?_
 refine wp_block ?_
 refine loop_L (N := Tryz.f25.ntmps) (w0 := w0) (ow := noO fz) (α := Nat × Mem × Bool) (fun p => [(1, vs x), (3, .ptr 1000 0), (5, .ptr 1001 0), (6, .ptr 1002 0), (7, .ptr 90000001 0), (8, vb p.2.2), (10, vb (memB t x)), (11, vi ((p.1 : Nat) : Int))]) (fun p => [(1000, bTr (t)), (1001, bTr (v)), (1002, .var zTr), (90000001, .var [vi 7, vb false, vb false, nilv, vi 0, vs (ba []), .own 90000002, .own 90000003]), (90000002, .sl 9 .str (mK p.2.1)), (90000003, .sl 28 .tree (mV p.2.1))]) (fun p => (p.1 ≤ t.k.length ∧ p.1 ≤ t.v.length) ∧ SetJ t x v p.1 p.2.1 p.2.2) (fun p => t.k.length - p.1) (0, [], false) ?_ ?_ ?_
 exact ⟨⟨Nat.zero_le _, Nat.zero_le _⟩, SetJ.start t x v⟩
 (have hs := ((hs.nilB 10000003 2001 6 9 .str [vi 7, vb false, vb false, nilv, vi 0, vs (ba []), nilv, nilv] (by kernel_rfl) (by kernel_rfl) (by decide) (by decide) (by kernel_rfl) (by kernel_rfl)).nilB 10000004 2001 7 28 .tree [vi 7, vb false, vb false, nilv, vi 0, vs (ba []), .own 10000003, nilv] (by kernel_rfl) (by kernel_rfl) (by decide) (by decide) (by kernel_rfl) (by kernel_rfl)).rmT [(1, vs x), (3, .ptr 1000 0), (5, .ptr 1001 0), (6, .ptr 1002 0), (7, .ptr 2001 0), (8, vb false), (10, vb (memB t x)), (11, vi 0)] [(1000, bTr (t)), (1001, bTr (v)), (1002, .var zTr), (2001, .var [vi 7, vb false, vb false, nilv, vi 0, vs (ba []), .own 10000003, .own 10000004]), (10000003, .sl 9 .str ([])), (10000004, .sl 28 .tree ([]))] [(1000, 1000), (1001, 1001), (1002, 1002), (2001, 2001), (10000003, 10000003), (10000004, 10000004)] (by kernel_rfl); exact (hs.cst [(1, vs x), (3, .ptr 1000 0), (5, .ptr 1001 0), (6, .ptr 1002 0), (7, .ptr 2001 0), (8, vb false), (10, vb (memB t x)), (11, vi ((0 : Nat) : Int))] [(1000, bTr (t)), (1001, bTr (v)), (1002, .var zTr), (2001, .var [vi 7, vb false, vb false, nilv, vi 0, vs (ba []), .own 10000003, .own 10000004]), (10000003, .sl 9 .str (mK ([]))), (10000004, .sl 28 .tree (mV ([])))] rfl).rk [(1000, 1000), (1001, 1001), (1002, 1002), (90000001, 2001), (90000002, 10000003), (90000003, 10000004)])
 rintro ⟨i, acc, done⟩ hJ a w hs
 try dsimp only at hJ
 obtain ⟨⟨hi, hi2⟩, hJ⟩ := hJ
 have hln := hJ.len
 have hdn : done.toNat ≤ 1 := by cases done <;> decide
 have hl1 : (mK acc).length = acc.length := List.length_map _
 have hl2 : (mV acc).length = acc.length := List.length_map _
 refine wp_seq ?_
 rcases bd ((i : Int) < (t.k.length : Int)) with ⟨b1, n1⟩ | ⟨b1, n1⟩
 rcases bd ((i : Int) < (t.v.length : Int)) with ⟨b2, n2⟩ | ⟨b2, n2⟩
 rcases bq (t.kind) (7) with ⟨b3, n3⟩ | ⟨b3, n3⟩
 refine wL hs hI [(5, rg [] [6, 7, 8, 9, 10, 1011, 13, 14, 15, 1016] [])] (bz 1 1) 72666666777777777788 [q1 b1, q1 b1, q1 b1, q1 b1, q1 b1, q1 b1, q1 b2, q1 b2, q1 b2, q1 b2, q1 b3] .norm [(1, vs x), (3, .ptr 1000 0), (5, .ptr 1001 0), (6, .ptr 1002 0), (7, .ptr 90000001 0), (8, vb done), (10, vb (memB t x)), (11, vi (i : Int))] [(1000, bTr (t)), (1001, bTr (v)), (1002, .var zTr), (90000001, .var [vi 7, vb false, vb false, nilv, vi 0, vs (ba []), .own 90000002, .own 90000003]), (90000002, .sl 9 .str (mK acc)), (90000003, .sl 28 .tree (mV acc))] tv fun a w hs => ?_
 refine then_norm ?_
 rcases bt (done) with b4 | b4
 refine wL hs hI [(7, rg [] [] [3, 4, 5, 6, 7, 8, 9, 1010]), (10, rg [] [] [3, 4, 1005, 7, 8, 9, 10, 11, 12, 13, 1014])] (bz 2 0) 1712966666187171871708676666173333333733076661733333338 [q1 (ng1 b4), q1 (ng1 b4), q1 (ng1 b4), q1 (ng1 b4), q1 (ng1 b4), q1 (ng1 b4), q1 (ng1 b4), q1 (ng1 b4), q0 false, q1 (ng1 b4), q1 (ng1 b4), q1 (ng1 b4), q0 false, q0 false, q0 false, q0 false, q0 false, q0 false, q0 false, q0 false, q0 false, q4 (i : Int) t.k.length, q7 ((mK acc).length) 1 16, q4 (i : Int) t.v.length, q7 ((mV acc).length) 1 120, q3 ((i : Int) + 1)] .norm [(1, vs x), (3, .ptr 1000 0), (5, .ptr 1001 0), (6, .ptr 1002 0), (7, .ptr 90000001 0), (8, vb done), (10, vb (memB t x)), (11, vi ((i : Int) + 1))] [(1000, bTr (t)), (1001, bTr (v)), (1002, .var zTr), (14008, .sl 9 .str ((mK acc) ++ ([(t.k.getD i (dflt .str))]))), (14017, .sl 28 .tree ((mV acc) ++ ([(Tree.et (t.v.getD i (dflt .tree)))]))), (90000001, .var [vi 7, vb false, vb false, nilv, vi 0, vs (ba []), .own 14008, .own 14017])] tv fun a w hs => ?_
 refine then_norm ⟨(i + 1, acc ++ [(t.k.getD i (dflt .str), t.v.getD i (dflt .tree))], done), ⟨⟨by omega, by omega⟩, hJ.on (by omega) (by omega) (by omega) (.inl b4)⟩, by omega, ?_⟩
 (have e0_ : ((i : Int) + 1) = ((((i + 1) : Nat) : Int)) := (by first | rfl | (first | rfl | (simp only [mK_add, mV_add, Tree.eta']; rfl) | (simp [mK, mV, Tree.eta']; done))); have e1_ : ((mK acc) ++ ([(t.k.getD i (dflt .str))])) = (mK (acc ++ [(t.k.getD i (dflt .str), t.v.getD i (dflt .tree))])) := (by first | rfl | (first | rfl | (simp only [mK_add, mV_add, Tree.eta']; rfl) | (simp [mK, mV, Tree.eta']; done))); have e2_ : ((mV acc) ++ ([(Tree.et (t.v.getD i (dflt .tree)))])) = (mV (acc ++ [(t.k.getD i (dflt .str), t.v.getD i (dflt .tree))])) := (by first | rfl | (first | rfl | (simp only [mK_add, mV_add, Tree.eta']; rfl) | (simp [mK, mV, Tree.eta']; done))); exact (hs.cst [(1, vs x), (3, .ptr 1000 0), (5, .ptr 1001 0), (6, .ptr 1002 0), (7, .ptr 90000001 0), (8, vb done), (10, vb (memB t x)), (11, vi (((i + 1) : Nat) : Int))] [(1000, bTr (t)), (1001, bTr (v)), (1002, .var zTr), (14008, .sl 9 .str (mK (acc ++ [(t.k.getD i (dflt .str), t.v.getD i (dflt .tree))]))), (14017, .sl 28 .tree (mV (acc ++ [(t.k.getD i (dflt .str), t.v.getD i (dflt .tree))]))), (90000001, .var [vi 7, vb false, vb false, nilv, vi 0, vs (ba []), .own 14008, .own 14017])] (by first | (rw [e0_, e1_, e2_]; done) | (simp only [e0_, e1_, e2_]; done) | rfl | (simp only [e0_, e1_, e2_]; rfl))).rk [(1000, 1000), (1001, 1001), (1002, 1002), (90000001, 90000001), (90000002, 14008), (90000003, 14017)])
 rcases bq ((t.k.getD i (dflt .str)).toList) (x.toList) with ⟨b5, n5⟩ | ⟨b5, n5⟩
 refine wL hs hI [(7, rg [] [3, 4, 5, 6, 7, 8, 9, 1010] [])] (bz 1 1) 17161209666187878729666617777337778 [q1 (ng0 b4), q1 (ng0 b4), q1 (ng0 b4), q1 (ng0 b4), q4 (i : Int) t.k.length, q1 (ng0 b4), q1 (ng0 b4), q1 (ng0 b4), q1 (ng0 b4), q1 b5, q7 ((mK acc).length) 1 16, q7 ((mV acc).length) 1 120, q3 ((i : Int) + 1)] .norm [(1, vs x), (3, .ptr 1000 0), (5, .ptr 1001 0), (6, .ptr 1002 0), (7, .ptr 90000001 0), (8, vb true), (10, vb (memB t x)), (11, vi ((i : Int) + 1))] [(1000, bTr (t)), (1001, bTr (v)), (1002, .var zTr), (9004, .sl 9 .str ((mK acc) ++ ([x]))), (9009, .sl 28 .tree ((mV acc) ++ ([(Tree.et v)]))), (90000001, .var [vi 7, vb false, vb false, nilv, vi 0, vs (ba []), .own 9004, .own 9009])] tv fun a w hs => ?_
 refine then_norm ⟨(i + 1, acc ++ [(x, v)], true), ⟨⟨by omega, by omega⟩, hJ.hit (by omega) (by omega) (by omega) b4 b5⟩, by omega, ?_⟩
 (have e0_ : ((i : Int) + 1) = ((((i + 1) : Nat) : Int)) := (by first | rfl | (first | rfl | (simp only [mK_add, mV_add, Tree.eta']; rfl) | (simp [mK, mV, Tree.eta']; done))); have e1_ : ((mK acc) ++ ([x])) = (mK (acc ++ [(x, v)])) := (by first | rfl | (first | rfl | (simp only [mK_add, mV_add, Tree.eta']; rfl) | (simp [mK, mV, Tree.eta']; done))); have e2_ : ((mV acc) ++ ([(Tree.et v)])) = (mV (acc ++ [(x, v)])) := (by first | rfl | (first | rfl | (simp only [mK_add, mV_add, Tree.eta']; rfl) | (simp [mK, mV, Tree.eta']; done))); exact (hs.cst [(1, vs x), (3, .ptr 1000 0), (5, .ptr 1001 0), (6, .ptr 1002 0), (7, .ptr 90000001 0), (8, vb true), (10, vb (memB t x)), (11, vi (((i + 1) : Nat) : Int))] [(1000, bTr (t)), (1001, bTr (v)), (1002, .var zTr), (9004, .sl 9 .str (mK (acc ++ [(x, v)]))), (9009, .sl 28 .tree (mV (acc ++ [(x, v)]))), (90000001, .var [vi 7, vb false, vb false, nilv, vi 0, vs (ba []), .own 9004, .own 9009])] (by first | (rw [e0_, e1_, e2_]; done) | (simp only [e0_, e1_, e2_]; done) | rfl | (simp only [e0_, e1_, e2_]; rfl))).rk [(1000, 1000), (1001, 1001), (1002, 1002), (90000001, 90000001), (90000002, 9004), (90000003, 9009)])
 rcases bt (memB t x) with b6 | b6
 refine wL hs hI [(7, rg [] [3, 4, 5, 6, 7, 8, 9, 1010] []), (10, rg [] [3, 4, 1005] [7, 8, 9, 10, 11, 12, 13, 1014])] (bz 2 0) 171296666618717187170867966661733333337770729666617777337778 [q1 (ng0 b4), q1 (ng0 b4), q1 (ng0 b4), q1 (ng0 b4), q4 (i : Int) t.k.length, q1 (ng0 b4), q1 (ng0 b4), q1 (ng0 b4), q1 (ng0 b4), q1 b5, q1 (ng0 b4), q1 (ng0 b4), q1 (ng0 b4), q1 (ng1 b6), q1 (ng1 b6), q1 (ng1 b6), q1 (ng1 b6), q1 (ng1 b6), q1 (ng1 b6), q1 (ng1 b6), q1 (ng1 b6), q0 false, q4 (i : Int) t.k.length, q7 ((mK acc).length) 1 16, q4 (i : Int) t.v.length, q7 ((mV acc).length) 1 120, q3 ((i : Int) + 1)] .norm [(1, vs x), (3, .ptr 1000 0), (5, .ptr 1001 0), (6, .ptr 1002 0), (7, .ptr 90000001 0), (8, vb done), (10, vb (memB t x)), (11, vi ((i : Int) + 1))] [(1000, bTr (t)), (1001, bTr (v)), (1002, .var zTr), (14008, .sl 9 .str ((mK acc) ++ ([(t.k.getD i (dflt .str))]))), (14017, .sl 28 .tree ((mV acc) ++ ([(Tree.et (t.v.getD i (dflt .tree)))]))), (90000001, .var [vi 7, vb false, vb false, nilv, vi 0, vs (ba []), .own 14008, .own 14017])] tv fun a w hs => ?_
 refine then_norm ⟨(i + 1, acc ++ [(t.k.getD i (dflt .str), t.v.getD i (dflt .tree))], done), ⟨⟨by omega, by omega⟩, hJ.on (by omega) (by omega) (by omega) (.inr (.inl ⟨b6, b5⟩))⟩, by omega, ?_⟩
 (have e0_ : ((i : Int) + 1) = ((((i + 1) : Nat) : Int)) := (by first | rfl | (first | rfl | (simp only [mK_add, mV_add, Tree.eta']; rfl) | (simp [mK, mV, Tree.eta']; done))); have e1_ : ((mK acc) ++ ([(t.k.getD i (dflt .str))])) = (mK (acc ++ [(t.k.getD i (dflt .str), t.v.getD i (dflt .tree))])) := (by first | rfl | (first | rfl | (simp only [mK_add, mV_add, Tree.eta']; rfl) | (simp [mK, mV, Tree.eta']; done))); have e2_ : ((mV acc) ++ ([(Tree.et (t.v.getD i (dflt .tree)))])) = (mV (acc ++ [(t.k.getD i (dflt .str), t.v.getD i (dflt .tree))])) := (by first | rfl | (first | rfl | (simp only [mK_add, mV_add, Tree.eta']; rfl) | (simp [mK, mV, Tree.eta']; done))); exact (hs.cst [(1, vs x), (3, .ptr 1000 0), (5, .ptr 1001 0), (6, .ptr 1002 0), (7, .ptr 90000001 0), (8, vb done), (10, vb (memB t x)), (11, vi (((i + 1) : Nat) : Int))] [(1000, bTr (t)), (1001, bTr (v)), (1002, .var zTr), (14008, .sl 9 .str (mK (acc ++ [(t.k.getD i (dflt .str), t.v.getD i (dflt .tree))]))), (14017, .sl 28 .tree (mV (acc ++ [(t.k.getD i (dflt .str), t.v.getD i (dflt .tree))]))), (90000001, .var [vi 7, vb false, vb false, nilv, vi 0, vs (ba []), .own 14008, .own 14017])] (by first | (rw [e0_, e1_, e2_]; done) | (simp only [e0_, e1_, e2_]; done) | rfl | (simp only [e0_, e1_, e2_]; rfl))).rk [(1000, 1000), (1001, 1001), (1002, 1002), (90000001, 90000001), (90000002, 14008), (90000003, 14017)])
 rcases bt (Op.bytesLess (t.k.getD i (dflt .str)).toList x.toList || (t.k.getD i (dflt .str)).toList == x.toList) with b7 | b7
 refine wL hs hI [(7, rg [] [3, 4, 5, 6, 7, 8, 9, 1010] []), (10, rg [] [3, 4, 1005, 7, 8, 9, 10, 11, 12, 13, 1014] [])] (bz 2 0) 171296666618717187170867266666617777337777770729666617777337778 [q1 (ng0 b4), q1 (ng0 b4), q1 (ng0 b4), q1 (ng0 b4), q4 (i : Int) t.k.length, q1 (ng0 b4), q1 (ng0 b4), q1 (ng0 b4), q1 (ng0 b4), q1 b5, q1 (ng0 b4), q1 (ng0 b4), q1 (ng0 b4), q1 (ng0 b6), q1 (ng0 b6), q1 (ng0 b6), q1 (ng0 b6), q4 (i : Int) t.k.length, q1 (ng0 b6), q1 (ng0 b6), q1 (ng0 b6), q1 (ng0 b6), q1 (ng1 b7), q4 (i : Int) t.k.length, q7 ((mK acc).length) 1 16, q4 (i : Int) t.v.length, q7 ((mV acc).length) 1 120, q3 ((i : Int) + 1)] .norm [(1, vs x), (3, .ptr 1000 0), (5, .ptr 1001 0), (6, .ptr 1002 0), (7, .ptr 90000001 0), (8, vb done), (10, vb (memB t x)), (11, vi ((i : Int) + 1))] [(1000, bTr (t)), (1001, bTr (v)), (1002, .var zTr), (14008, .sl 9 .str ((mK acc) ++ ([(t.k.getD i (dflt .str))]))), (14017, .sl 28 .tree ((mV acc) ++ ([(Tree.et (t.v.getD i (dflt .tree)))]))), (90000001, .var [vi 7, vb false, vb false, nilv, vi 0, vs (ba []), .own 14008, .own 14017])] tv fun a w hs => ?_
 refine then_norm ⟨(i + 1, acc ++ [(t.k.getD i (dflt .str), t.v.getD i (dflt .tree))], done), ⟨⟨by omega, by omega⟩, hJ.on (by omega) (by omega) (by omega) (.inr (.inr ⟨b6, b5, by unfold gtB; rw [b7]; rfl⟩))⟩, by omega, ?_⟩
 (have e0_ : ((i : Int) + 1) = ((((i + 1) : Nat) : Int)) := (by first | rfl | (first | rfl | (simp only [mK_add, mV_add, Tree.eta']; rfl) | (simp [mK, mV, Tree.eta']; done))); have e1_ : ((mK acc) ++ ([(t.k.getD i (dflt .str))])) = (mK (acc ++ [(t.k.getD i (dflt .str), t.v.getD i (dflt .tree))])) := (by first | rfl | (first | rfl | (simp only [mK_add, mV_add, Tree.eta']; rfl) | (simp [mK, mV, Tree.eta']; done))); have e2_ : ((mV acc) ++ ([(Tree.et (t.v.getD i (dflt .tree)))])) = (mV (acc ++ [(t.k.getD i (dflt .str), t.v.getD i (dflt .tree))])) := (by first | rfl | (first | rfl | (simp only [mK_add, mV_add, Tree.eta']; rfl) | (simp [mK, mV, Tree.eta']; done))); exact (hs.cst [(1, vs x), (3, .ptr 1000 0), (5, .ptr 1001 0), (6, .ptr 1002 0), (7, .ptr 90000001 0), (8, vb done), (10, vb (memB t x)), (11, vi (((i + 1) : Nat) : Int))] [(1000, bTr (t)), (1001, bTr (v)), (1002, .var zTr), (14008, .sl 9 .str (mK (acc ++ [(t.k.getD i (dflt .str), t.v.getD i (dflt .tree))]))), (14017, .sl 28 .tree (mV (acc ++ [(t.k.getD i (dflt .str), t.v.getD i (dflt .tree))]))), (90000001, .var [vi 7, vb false, vb false, nilv, vi 0, vs (ba []), .own 14008, .own 14017])] (by first | (rw [e0_, e1_, e2_]; done) | (simp only [e0_, e1_, e2_]; done) | rfl | (simp only [e0_, e1_, e2_]; rfl))).rk [(1000, 1000), (1001, 1001), (1002, 1002), (90000001, 90000001), (90000002, 14008), (90000003, 14017)])
 refine wL hs hI [(7, rg [] [3, 4, 5, 6, 7, 8, 9, 1010] []), (10, rg [] [3, 4, 1005, 7, 8, 9, 10, 11, 12, 13, 1014] [])] (bz 2 2) 171296666618717187170896096661878787266666617777337777770729666617777337778 [q1 (ng0 b4), q1 (ng0 b4), q1 (ng0 b4), q1 (ng0 b4), q4 (i : Int) t.k.length, q1 (ng0 b4), q1 (ng0 b4), q1 (ng0 b4), q1 (ng0 b4), q1 b5, q1 (ng0 b4), q1 (ng0 b4), q1 (ng0 b4), q1 (ng0 b6), q1 (ng0 b6), q1 (ng0 b6), q1 (ng0 b6), q4 (i : Int) t.k.length, q1 (ng0 b6), q1 (ng0 b6), q1 (ng0 b6), q1 (ng0 b6), q1 (ng0 b7), q7 ((mK acc).length) 1 16, q7 ((mV acc).length) 1 120, q4 (i : Int) t.k.length, ⟨((((mK acc) ++ ([x])).length + 1) * 16 : Nat) ≤ 140737488355328 ∧ ((mK acc) ++ ([x])).length + 1 ≤ 140737488355328, (by simp only [List.length_append, List.length_cons, List.length_nil]; omega)⟩, q4 (i : Int) t.v.length, ⟨((((mV acc) ++ ([(Tree.et v)])).length + 1) * 120 : Nat) ≤ 140737488355328 ∧ ((mV acc) ++ ([(Tree.et v)])).length + 1 ≤ 140737488355328, (by simp only [List.length_append, List.length_cons, List.length_nil]; omega)⟩, q3 ((i : Int) + 1)] .norm [(1, vs x), (3, .ptr 1000 0), (5, .ptr 1001 0), (6, .ptr 1002 0), (7, .ptr 90000001 0), (8, vb true), (10, vb (memB t x)), (11, vi ((i : Int) + 1))] [(1000, bTr (t)), (1001, bTr (v)), (1002, .var zTr), (14008, .sl 9 .str (((mK acc) ++ ([x])) ++ ([(t.k.getD i (dflt .str))]))), (14017, .sl 28 .tree (((mV acc) ++ ([(Tree.et v)])) ++ ([(Tree.et (t.v.getD i (dflt .tree)))]))), (90000001, .var [vi 7, vb false, vb false, nilv, vi 0, vs (ba []), .own 14008, .own 14017])] tv fun a w hs => ?_
 refine then_norm ⟨(i + 1, acc ++ [(x, v)] ++ [(t.k.getD i (dflt .str), t.v.getD i (dflt .tree))], true), ⟨⟨by omega, by omega⟩, hJ.put (by omega) (by omega) (by omega) b4 b6 (by unfold gtB; rw [b7]; rfl)⟩, by omega, ?_⟩
 (have e0_ : ((i : Int) + 1) = ((((i + 1) : Nat) : Int)) := (by first | rfl | (first | rfl | (simp only [mK_add, mV_add, Tree.eta']; rfl) | (simp [mK, mV, Tree.eta']; done))); have e1_ : (((mK acc) ++ ([x])) ++ ([(t.k.getD i (dflt .str))])) = (mK (acc ++ [(x, v)] ++ [(t.k.getD i (dflt .str), t.v.getD i (dflt .tree))])) := (by first | rfl | (first | rfl | (simp only [mK_add, mV_add, Tree.eta']; rfl) | (simp [mK, mV, Tree.eta']; done))); have e2_ : (((mV acc) ++ ([(Tree.et v)])) ++ ([(Tree.et (t.v.getD i (dflt .tree)))])) = (mV (acc ++ [(x, v)] ++ [(t.k.getD i (dflt .str), t.v.getD i (dflt .tree))])) := (by first | rfl | (first | rfl | (simp only [mK_add, mV_add, Tree.eta']; rfl) | (simp [mK, mV, Tree.eta']; done))); exact (hs.cst [(1, vs x), (3, .ptr 1000 0), (5, .ptr 1001 0), (6, .ptr 1002 0), (7, .ptr 90000001 0), (8, vb true), (10, vb (memB t x)), (11, vi (((i + 1) : Nat) : Int))] [(1000, bTr (t)), (1001, bTr (v)), (1002, .var zTr), (14008, .sl 9 .str (mK (acc ++ [(x, v)] ++ [(t.k.getD i (dflt .str), t.v.getD i (dflt .tree))]))), (14017, .sl 28 .tree (mV (acc ++ [(x, v)] ++ [(t.k.getD i (dflt .str), t.v.getD i (dflt .tree))]))), (90000001, .var [vi 7, vb false, vb false, nilv, vi 0, vs (ba []), .own 14008, .own 14017])] (by first | (rw [e0_, e1_, e2_]; done) | (simp only [e0_, e1_, e2_]; done) | rfl | (simp only [e0_, e1_, e2_]; rfl))).rk [(1000, 1000), (1001, 1001), (1002, 1002), (90000001, 90000001), (90000002, 14008), (90000003, 14017)])
 refine wL hs hI [(5, rg [] [6, 7, 8, 9, 10, 1011, 13, 14, 15, 1016] [])] (bz 1 0) 72666666777777777788 [q1 b1, q1 b1, q1 b1, q1 b1, q1 b1, q1 b1, q1 b2, q1 b2, q1 b2, q1 b2, q1 b3] (.exit 0) [(1, vs x), (5, .ptr 1001 0), (6, .ptr 1002 0), (7, .ptr 90000001 0), (8, vb done)] [(1001, bTr (v)), (1002, .var zTr), (90000001, .var [vi 7, vb false, vb false, nilv, vi 0, vs (ba []), .own 90000002, .own 90000003]), (90000002, .sl 9 .str (mK acc)), (90000003, .sl 28 .tree (mV acc))] tv fun a w hs => ?_
 refine then_exit ?_
 refine then_exit ?_
 refine inb_hit ?_
 refine then_norm ?_
 rcases bt (done) with b8 | b8
 refine wN hs hI (bz 1 0) 1989798 [q1 (ng1 b8)] .ret [(6, .ptr 1002 0)] [(1002, .var [vi 7, vb false, vb false, nilv, vi 0, vs (ba []), .own 90000002, .own 90000003]), (90000002, .sl 9 .str (mK acc)), (90000003, .sl 28 .tree (mV acc))] fun a w hs => ?_
 exact rK (.val (.agg [vi 7, vb false, vb false, rwU ([]), vi 0, vs (ba []), rwS (mK acc), rwT (mV acc)])) [90000002, 90000003] hs (by rw [hJ.fin_done b8 (mems_end (by omega))]; rfl)
 refine wN hs hI (bz 1 1) 1986666187878798 [q1 (ng0 b8), q7 ((mK acc).length) 1 16, q7 ((mV acc).length) 1 120] .ret [(6, .ptr 1002 0)] [(1002, .var [vi 7, vb false, vb false, nilv, vi 0, vs (ba []), .own 16004, .own 16009]), (16004, .sl 9 .str ((mK acc) ++ ([x]))), (16009, .sl 28 .tree ((mV acc) ++ ([(Tree.et v)])))] fun a w hs => ?_
 exact rK (.val (.agg [vi 7, vb false, vb false, rwU ([]), vi 0, vs (ba []), rwS ((mK acc) ++ ([x])), rwT ((mV acc) ++ ([(Tree.et v)]))])) [16004, 16009] hs (by rw [Tree.eta', hJ.fin_not b8 (mems_end (by omega)), objM_snoc]; rfl)
 refine wL hs hI [(5, rg [] [6, 7, 8, 9, 10, 1011] [13, 14, 15, 1016])] (bz 1 0) 7966666733377777788 [q1 b1, q1 b1, q1 b1, q1 b1, q1 b1, q1 b1, q1 b2, q1 b2, q1 b2, q1 b2, q0 false] (.exit 0) [(1, vs x), (5, .ptr 1001 0), (6, .ptr 1002 0), (7, .ptr 90000001 0), (8, vb done)] [(1001, bTr (v)), (1002, .var zTr), (90000001, .var [vi 7, vb false, vb false, nilv, vi 0, vs (ba []), .own 90000002, .own 90000003]), (90000002, .sl 9 .str (mK acc)), (90000003, .sl 28 .tree (mV acc))] tv fun a w hs => ?_
 refine then_exit ?_
 refine then_exit ?_
 refine inb_hit ?_
 refine then_norm ?_
 rcases bt (done) with b9 | b9
 refine wN hs hI (bz 1 0) 1989798 [q1 (ng1 b9)] .ret [(6, .ptr 1002 0)] [(1002, .var [vi 7, vb false, vb false, nilv, vi 0, vs (ba []), .own 90000002, .own 90000003]), (90000002, .sl 9 .str (mK acc)), (90000003, .sl 28 .tree (mV acc))] fun a w hs => ?_
 exact rK (.val (.agg [vi 7, vb false, vb false, rwU ([]), vi 0, vs (ba []), rwS (mK acc), rwT (mV acc)])) [90000002, 90000003] hs (by rw [hJ.fin_done b9 (mems_end (by omega))]; rfl)
 refine wN hs hI (bz 1 1) 1986666187878798 [q1 (ng0 b9), q7 ((mK acc).length) 1 16, q7 ((mV acc).length) 1 120] .ret [(6, .ptr 1002 0)] [(1002, .var [vi 7, vb false, vb false, nilv, vi 0, vs (ba []), .own 16004, .own 16009]), (16004, .sl 9 .str ((mK acc) ++ ([x]))), (16009, .sl 28 .tree ((mV acc) ++ ([(Tree.et v)])))] fun a w hs => ?_
 exact rK (.val (.agg [vi 7, vb false, vb false, rwU ([]), vi 0, vs (ba []), rwS ((mK acc) ++ ([x])), rwT ((mV acc) ++ ([(Tree.et v)]))])) [16004, 16009] hs (by rw [Tree.eta', hJ.fin_not b9 (mems_end (by omega)), objM_snoc]; rfl)
 refine wL hs hI [(5, rg [] [] [6, 7, 8, 9, 10, 1011, 13, 14, 15, 1016])] (bz 1 0) 726666733373333388 [q1 b1, q1 b1, q1 b1, q1 b1, q1 b1, q1 b1, q0 false, q0 false, q0 false, q0 false, q0 false] (.exit 0) [(1, vs x), (5, .ptr 1001 0), (6, .ptr 1002 0), (7, .ptr 90000001 0), (8, vb done)] [(1001, bTr (v)), (1002, .var zTr), (90000001, .var [vi 7, vb false, vb false, nilv, vi 0, vs (ba []), .own 90000002, .own 90000003]), (90000002, .sl 9 .str (mK acc)), (90000003, .sl 28 .tree (mV acc))] tv fun a w hs => ?_
 refine then_exit ?_
 refine then_exit ?_
 refine inb_hit ?_
 refine then_norm ?_
 rcases bt (done) with b10 | b10
 refine wN hs hI (bz 1 0) 1989798 [q1 (ng1 b10)] .ret [(6, .ptr 1002 0)] [(1002, .var [vi 7, vb false, vb false, nilv, vi 0, vs (ba []), .own 90000002, .own 90000003]), (90000002, .sl 9 .str (mK acc)), (90000003, .sl 28 .tree (mV acc))] fun a w hs => ?_
 exact rK (.val (.agg [vi 7, vb false, vb false, rwU ([]), vi 0, vs (ba []), rwS (mK acc), rwT (mV acc)])) [90000002, 90000003] hs (by rw [hJ.fin_done b10 (mems_end (by omega))]; rfl)
 refine wN hs hI (bz 1 1) 1986666187878798 [q1 (ng0 b10), q7 ((mK acc).length) 1 16, q7 ((mV acc).length) 1 120] .ret [(6, .ptr 1002 0)] [(1002, .var [vi 7, vb false, vb false, nilv, vi 0, vs (ba []), .own 16004, .own 16009]), (16004, .sl 9 .str ((mK acc) ++ ([x]))), (16009, .sl 28 .tree ((mV acc) ++ ([(Tree.et v)])))] fun a w hs => ?_
 exact rK (.val (.agg [vi 7, vb false, vb false, rwU ([]), vi 0, vs (ba []), rwS ((mK acc) ++ ([x])), rwT ((mV acc) ++ ([(Tree.et v)]))])) [16004, 16009] hs (by rw [Tree.eta', hJ.fin_not b10 (mems_end (by omega)), objM_snoc]; rfl)
def makeN (neg : Bool) (n : Nat) (e : Int) : Num × Bool :=
 if (lim (tz n).1).length = 0 then (⟨false, [], 0⟩, true)
 else if (lim (tz n).1).length > 90 ∨ e < -1099511627776 ∨ e > 1099511627776 ∨ (((tz n).2 : Nat) : Int) > 1099511627776 ∨ e + (((tz n).2 : Nat) : Int) < -1200 ∨ e + (((tz n).2 : Nat) : Int) > 1200 then (⟨false, [], 0⟩, false)
 else (⟨neg, lim (tz n).1, e + (((tz n).2 : Nat) : Int)⟩, true)
theorem makeN_check (neg : Bool) (n : Nat) (e : Int) : checkN (makeN neg n e).1 = true := by
 unfold makeN
 split
 rfl
 rename_i h0
 split
 rfl
 rename_i h
 simp only [not_or] at h
 have hn : (tz n).1 ≠ 0 := fun hz => h0 (by rw [hz, lim_zero]; rfl)
 have hn2 : n ≠ 0 := fun hz => hn (by rw [hz, tz_zero])
 show checkN ⟨neg, lim (tz n).1, e + (((tz n).2 : Nat) : Int)⟩ = true
 unfold checkN
 rw [if_neg h0, if_neg (show ¬ (lim (tz n).1).length > 90 by omega), if_neg (lim_last h0), if_neg (by show ¬ e + _ < _; omega), if_neg (by show ¬ e + _ > _; omega)]
 show decide (val (lim (tz n).1) % 10 ≠ 0) = true
 rw [val_lim]
 exact decide_eq_true (tz_mod hn2)
theorem makeN_ok (neg : Bool) (n : Nat) (e : Int) : Ok (makeN neg n e).1.m := by
 unfold makeN
 split
 exact Ok.nil
 split
 exact Ok.nil
 exact lim_ok _
theorem makeN_len (neg : Bool) {l : List Int} (hl : Ok l) (e : Int) : (makeN neg (val l) e).1.m.length ≤ l.length := by
 unfold makeN
 split
 exact Nat.zero_le _
 split
 exact Nat.zero_le _
 exact lim_len hl (tz_le _)
theorem wrap32_in (x : Int) : 0 ≤ IntKind.wrap .u32 x ∧ IntKind.wrap .u32 x < 4294967296 := by
 simp only [IntKind.wrap, IntKind.bits, IntKind.signed]
 simp
 omega
theorem ok1 {x : Int} (h : 0 ≤ x ∧ x < 4294967296) : Ok [x] := Ok.cons h.1 h.2 Ok.nil
theorem ok2 {x y : Int} (h : 0 ≤ x ∧ x < 4294967296) (h2 : 0 ≤ y ∧ y < 4294967296) : Ok [x, y] := Ok.cons h.1 h.2 (ok1 h2)
theorem ok3 {x y z : Int} (h : 0 ≤ x ∧ x < 4294967296) (h2 : 0 ≤ y ∧ y < 4294967296) (h3 : 0 ≤ z ∧ z < 4294967296) : Ok [x, y, z] := Ok.cons h.1 h.2 (ok2 h2 h3)
structure FineN (n : Num) : Prop where
 check : checkN n = true
 ok : Ok n.m
 len : n.m.length ≤ 3
theorem fineN_make {neg : Bool} {l : List Int} (hl : Ok l) (h3 : l.length ≤ 3) (e : Int) : FineN (makeN neg (val l) e).1 := ⟨makeN_check _ _ _, makeN_ok _ _ _, Nat.le_trans (makeN_len _ hl _) h3⟩
def uabs (v : Int) : Int := if decide (v < 0) = true then IntKind.wrap .u64 (0 - IntKind.wrap .u64 v) else IntKind.wrap .u64 v
def ofN (v : Int) : Num := (makeN (decide (v < 0)) (val [IntKind.wrap .u32 (uabs v), IntKind.wrap .u32 ((uabs v).fdiv (2 ^ 32))]) 0).1
theorem fineN_of (v : Int) : FineN (ofN v) := fineN_make (ok2 (wrap32_in _) (wrap32_in _)) (Nat.le_of_ble_eq_true rfl) 0
def numberN (v : Int) : Num :=
 if v.tmod 5 = 0 then ofN ((v.tdiv 5).tmod 60 - 20)
 else if v.tmod 5 = 1 then (makeN ((v.tdiv 5).tmod 2 == 1) (val [IntKind.wrap .u32 ((v.tdiv 10).tmod 2000)]) ((v.tdiv 7).tmod 9 - 5)).1
 else if v.tmod 5 = 2 then (makeN false (val [IntKind.wrap .u32 v, IntKind.wrap .u32 (v.tdiv 3), IntKind.wrap .u32 (v.tmod 7)]) 0).1
 else if v.tmod 5 = 3 then (makeN (v.tmod 2 == 1) (val [5, IntKind.wrap .u32 v]) (IntKind.wrap .i64 (0 - (v.tdiv 5).tmod 30))).1
 else ofN v
theorem fineN_number (v : Int) : FineN (numberN v) := by
 unfold numberN
 repeat' split
 exact fineN_of _
 exact fineN_make (ok1 (wrap32_in _)) (Nat.le_of_ble_eq_true rfl) _
 exact fineN_make (ok3 (wrap32_in _) (wrap32_in _) (wrap32_in _)) (Nat.le_of_ble_eq_true rfl) _
 exact fineN_make (ok2 ⟨by decide, by decide⟩ (wrap32_in _)) (Nat.le_of_ble_eq_true rfl) _
 exact fineN_of _
theorem td {a : Int} (h : -9223372036854775808 ≤ a ∧ a ≤ 9223372036854775807) (k : Int) (hk : 2 ≤ k) : -9223372036854775808 < a.tdiv k ∧ a.tdiv k ≤ 9223372036854775807 := by
 have h1 : (a.tdiv k).natAbs = a.natAbs / k.natAbs := Int.natAbs_tdiv a k
 have h2 : a.natAbs / k.natAbs ≤ a.natAbs / 2 := Nat.div_le_div_left (by omega) (by omega)
 omega
theorem tm {a : Int} (k : Int) (hk : 0 < k) : -k < a.tmod k ∧ a.tmod k < k := ⟨Int.lt_tmod_of_pos a hk, Int.tmod_lt_of_pos a hk⟩
theorem con212 (l : List Int) (ha : Ok l) (hl : l.length < 1000000000) : Con Tryz.prog I0 152 [.row (.int .u32) l] (.val (.tup [.row (.int .u32) (lim (tz (val l)).1), vi (((tz (val l)).2 : Nat) : Int)])) := by
 refine con_of Tryz.func152 rfl (Nat.le_of_ble_eq_true rfl) stab (fun w0 fz a hI hs => ?_)
 refine wNs hs hI [] 8 [] [(0, rwU l)] [] fun a w hs => ?_
 refine wLs hs hI [(1, rc [(1, ciV 168 [rwU l] (rwU (lim (val l))))])] [] 1141 [] [(4, rwU (lim (val l)))] [] ⟨(trim_lim ha ▸ (con250 _ (by omega)).frz), tv⟩ fun a w hs => ?_
 refine wNs hs hI [] 11 [] [(4, rwU (lim (val l))), (5, vi 0)] [] fun a w hs => ?_
 refine wp_seq ?_
 refine wp_block ?_
 refine loop_L (N := Tryz.f152.ntmps) (w0 := w0) (ow := noO fz) (α := Nat × Nat) (fun p => [(4, rwU (lim p.1)), (5, vi ((p.2 : Nat) : Int))]) (fun p => []) (fun p => p.1 ≤ val l ∧ tz (val l) = ((tz p.1).1, p.2 + (tz p.1).2)) (fun p => p.1) (val l, 0) ?_ ?_ ?_
 exact ⟨Nat.le_refl _, by simp⟩
 exact (hs.cst [(4, rwU (lim (val l))), (5, vi ((0 : Nat) : Int))] [] rfl).rk []
 rintro ⟨n, c⟩ hJ a w hs
 try dsimp only at hJ
 obtain ⟨hn, hz⟩ := hJ
 have hln := lim_len ha hn
 have htz := tz_small ha hl
 rw [hz] at htz
 have hl0 := lim_len_zero n
 have hvl := val_lim n
 rcases bd (((lim n).length : Int) > 0) with ⟨b1, n1⟩ | ⟨b1, n1⟩
 rcases bt (((val (lim n) % 10 : Nat) : Int) != 0) with b2 | b2
 have n2 := bne_iff_ne.1 b2
 refine wL hs hI [(4, rc [(1, ciV 151 [rwU (lim n), .lit (.int .u32 10)] (.tup [rwU (lim (val (lim n) / 10)), .lit (.int .u32 ((val (lim n) % 10 : Nat) : Int))]))])] (bz 2 3) 7982968841972918 [q1 b1, q1 b2] (.exit 0) [(4, rwU (lim n)), (5, vi (c : Int))] [] ⟨con218_10 _ (lim_ok n) (by omega), tv⟩ fun a w hs => ?_
 refine then_exit ?_
 refine inb_hit ?_
 refine then_norm ?_
 refine wN hs hI [] 1608 [] .ret [(2, rwU (lim n)), (3, vi (c : Int))] [] fun a w hs => ?_
 exact rK (.val (.tup [rwU (lim n), vi (c : Int)])) [] hs (by have h := bne_iff_ne.1 b2; rw [hvl] at h; rw [tz_end (.inl (by omega)) hz])
 have n2 := bne_eq_false_iff_eq.1 b2
 refine wL hs hI [(4, rc [(1, ciV 151 [rwU (lim n), .lit (.int .u32 10)] (.tup [rwU (lim (val (lim n) / 10)), .lit (.int .u32 ((val (lim n) % 10 : Nat) : Int))]))])] (bz 2 1) 1719897982968841972918 [q1 b1, q1 b2, q3 ((c : Int) + 1)] .norm [(4, rwU (lim (val (lim n) / 10))), (5, vi ((c : Int) + 1))] [] ⟨con218_10 _ (lim_ok n) (by omega), tv⟩ fun a w hs => ?_
 refine then_norm ⟨(n / 10, c + 1), ⟨by omega, tz_iter (by omega) (by have h := bne_eq_false_iff_eq.1 b2; rw [hvl] at h; omega) hz⟩, by omega, ?_⟩
 (have e0_ : (lim (val (lim n) / 10)) = (lim (n / 10)) := (by first | rfl | (rw [hvl])); have e1_ : ((c : Int) + 1) = ((((c + 1) : Nat) : Int)) := (by first | rfl | (omega)); exact (hs.cst [(4, rwU (lim (n / 10))), (5, vi (((c + 1) : Nat) : Int))] [] (by first | (rw [e0_, e1_]; done) | (simp only [e0_, e1_]; done) | rfl | (simp only [e0_, e1_]; rfl))).rk [])
 refine wN hs hI (bz 1 0) 72918 [q1 b1] (.exit 0) [(4, rwU (lim n)), (5, vi (c : Int))] [] fun a w hs => ?_
 refine then_exit ?_
 refine inb_hit ?_
 refine then_norm ?_
 refine wN hs hI [] 1608 [] .ret [(2, rwU (lim n)), (3, vi (c : Int))] [] fun a w hs => ?_
 exact rK (.val (.tup [rwU (lim n), vi (c : Int)])) [] hs (by rw [tz_end (.inr (by omega)) hz])
theorem con167 (neg : Bool) (l : List Int) (e : Int) (ha : Ok l) (hl : l.length < 1000000000) : Con Tryz.prog I0 135 [vb neg, .row (.int .u32) l, vi e] (.val (.tup [.agg [vb (((makeN neg (val l) e).1).neg), .row (.int .u32) (((makeN neg (val l) e).1).m), vi (((makeN neg (val l) e).1).e)], vb ((makeN neg (val l) e).2)])) := by
 refine con_of Tryz.func135 rfl (Nat.le_of_ble_eq_true rfl) stab (fun w0 fz a hI hs => ?_)
 refine wNs hs hI [] 8 [] [(0, vb neg), (1, rwU l), (2, vi e), (6, .ptr 1000 0)] [(1000, .var [vb false, nilv, vi 0])] fun a w hs => ?_
 refine wLs hs hI [(1, rc [(1, ciV 152 [rwU l] (.tup [rwU (lim (tz (val l)).1), vi (((tz (val l)).2 : Nat) : Int)]))])] [] 8841 [] [(0, vb neg), (2, vi e), (6, .ptr 1000 0), (8, rwU (lim (tz (val l)).1)), (9, vi (((tz (val l)).2 : Nat) : Int))] [(1000, .var [vb false, nilv, vi 0])] ⟨con212 _ ha hl, tv⟩ fun a w hs => ?_
 refine wp_seq ?_
 rcases bq ((lim (tz (val l)).1).length : Int) (0) with ⟨b1, n1⟩ | ⟨b1, n1⟩
 refine wN hs hI (bz 1 1) 129872918 [q1 b1] .ret [(6, .ptr 1000 0), (7, vb true)] [(1000, .var [vb false, nilv, vi 0])] fun a w hs => ?_
 refine then_ret ?_
 exact rK (.val (.tup [.agg [vb false, rwU ([]), vi 0], vb true])) [] hs (by rw [makeN, if_pos (by omega)])
 refine wN hs hI (bz 1 0) 72918 [q1 b1] .norm [(0, vb neg), (2, vi e), (6, .ptr 1000 0), (8, rwU (lim (tz (val l)).1)), (9, vi (((tz (val l)).2 : Nat) : Int))] [(1000, .var [vb false, nilv, vi 0])] fun a w hs => ?_
 refine then_norm ?_
 rcases bd (((lim (tz (val l)).1).length : Int) > 90) with ⟨b2, n2⟩ | ⟨b2, n2⟩
 refine wL hs hI [(4, rg [] [1006, 1010, 1014, 1020, 1026] [4, 5, 8, 9, 12, 13, 16, 17, 18, 19, 22, 23, 24, 25])] (bz 1 1) 1298729666666733337333373373373318 [q1 b2, q1 b2, q1 b2, q0 true, q0 true, q0 true, q0 true, q0 true, q0 true, q0 true, q0 true, q0 true, q0 true, q0 true, q0 true, q0 true, q0 true, q0 true, q0 true, q0 true] .ret [(6, .ptr 1000 0), (7, vb false)] [(1000, .var [vb false, nilv, vi 0])] tv fun a w hs => ?_
 exact rK (.val (.tup [.agg [vb false, rwU ([]), vi 0], vb false])) [] hs (by rw [makeN, if_neg (by omega), if_pos (by omega)])
 rcases bd (e < (-1099511627776)) with ⟨b3, n3⟩ | ⟨b3, n3⟩
 refine wL hs hI [(4, rg [] [4, 5, 1010, 1014, 1020, 1026] [1006, 8, 9, 12, 13, 16, 17, 18, 19, 22, 23, 24, 25])] (bz 1 1) 1298726666666733337333373373377718 [q1 b2, q1 b2, q1 b2, q1 b3, q1 b3, q1 b3, q0 true, q0 true, q0 true, q0 true, q0 true, q0 true, q0 true, q0 true, q0 true, q0 true, q0 true, q0 true, q0 true, q0 true] .ret [(6, .ptr 1000 0), (7, vb false)] [(1000, .var [vb false, nilv, vi 0])] tv fun a w hs => ?_
 exact rK (.val (.tup [.agg [vb false, rwU ([]), vi 0], vb false])) [] hs (by rw [makeN, if_neg (by omega), if_pos (by omega)])
 rcases bd (e > 1099511627776) with ⟨b4, n4⟩ | ⟨b4, n4⟩
 refine wL hs hI [(4, rg [] [4, 5, 8, 9, 1014, 1020, 1026] [1006, 1010, 12, 13, 16, 17, 18, 19, 22, 23, 24, 25])] (bz 1 1) 12987296666666733337333373377777718 [q1 b2, q1 b2, q1 b2, q1 b3, q1 b3, q1 b3, q1 b4, q1 b4, q1 b4, q0 true, q0 true, q0 true, q0 true, q0 true, q0 true, q0 true, q0 true, q0 true, q0 true, q0 true] .ret [(6, .ptr 1000 0), (7, vb false)] [(1000, .var [vb false, nilv, vi 0])] tv fun a w hs => ?_
 exact rK (.val (.tup [.agg [vb false, rwU ([]), vi 0], vb false])) [] hs (by rw [makeN, if_neg (by omega), if_pos (by omega)])
 rcases bd ((((tz (val l)).2 : Nat) : Int) > 1099511627776) with ⟨b5, n5⟩ | ⟨b5, n5⟩
 refine wL hs hI [(4, rg [] [4, 5, 8, 9, 12, 13, 1020, 1026] [1006, 1010, 1014, 16, 17, 18, 19, 22, 23, 24, 25])] (bz 1 1) 12987266666666733337333377777777718 [q1 b2, q1 b2, q1 b2, q1 b3, q1 b3, q1 b3, q1 b4, q1 b4, q1 b4, q1 b5, q1 b5, q1 b5, q1 b5, q1 b5, q0 true, q0 true, q0 true, q0 true, q0 true, q0 true] .ret [(6, .ptr 1000 0), (7, vb false)] [(1000, .var [vb false, nilv, vi 0])] tv fun a w hs => ?_
 exact rK (.val (.tup [.agg [vb false, rwU ([]), vi 0], vb false])) [] hs (by rw [makeN, if_neg (by omega), if_pos (by omega)])
 rcases bd ((e + (((tz (val l)).2 : Nat) : Int)) < (-1200)) with ⟨b6, n6⟩ | ⟨b6, n6⟩
 refine wL hs hI [(4, rg [] [4, 5, 8, 9, 12, 13, 16, 17, 18, 19, 1026] [1006, 1010, 1014, 1020, 22, 23, 24, 25])] (bz 1 1) 1298726666666667333377337777777777718 [q1 b2, q1 b2, q1 b2, q1 b3, q1 b3, q1 b3, q1 b4, q1 b4, q1 b4, q1 b5, q1 b5, q1 b5, q3 (e + (((tz (val l)).2 : Nat) : Int)), q1 b5, q1 b5, q1 b6, q1 b6, q1 b6, q1 b6, q1 b6, q0 true] .ret [(6, .ptr 1000 0), (7, vb false)] [(1000, .var [vb false, nilv, vi 0])] tv fun a w hs => ?_
 exact rK (.val (.tup [.agg [vb false, rwU ([]), vi 0], vb false])) [] hs (by rw [makeN, if_neg (by omega), if_pos (by omega)])
 rcases bd ((e + (((tz (val l)).2 : Nat) : Int)) > 1200) with ⟨b7, n7⟩ | ⟨b7, n7⟩
 refine wL hs hI [(4, rg [] [4, 5, 8, 9, 12, 13, 16, 17, 18, 19, 22, 23, 24, 25] [1006, 1010, 1014, 1020, 1026])] (bz 1 1) 129872666666666677337777337777777777718 [q1 b2, q1 b2, q1 b2, q1 b3, q1 b3, q1 b3, q1 b4, q1 b4, q1 b4, q1 b5, q1 b5, q1 b5, q3 (e + (((tz (val l)).2 : Nat) : Int)), q1 b5, q1 b5, q1 b6, q1 b6, q1 b6, q3 (e + (((tz (val l)).2 : Nat) : Int)), q1 b6, q1 b6, q1 b7] .ret [(6, .ptr 1000 0), (7, vb false)] [(1000, .var [vb false, nilv, vi 0])] tv fun a w hs => ?_
 exact rK (.val (.tup [.agg [vb false, rwU ([]), vi 0], vb false])) [] hs (by rw [makeN, if_neg (by omega), if_pos (by omega)])
 refine wL hs hI [(4, rg [] [4, 5, 8, 9, 12, 13, 16, 17, 18, 19, 22, 23, 24, 25] [1006, 1010, 1014, 1020, 1026])] (bz 1 0) 1668718972666666666677337777337777777777718 [q1 b2, q1 b2, q1 b2, q1 b3, q1 b3, q1 b3, q1 b4, q1 b4, q1 b4, q1 b5, q1 b5, q1 b5, q3 (e + (((tz (val l)).2 : Nat) : Int)), q1 b5, q1 b5, q1 b6, q1 b6, q1 b6, q3 (e + (((tz (val l)).2 : Nat) : Int)), q1 b6, q1 b6, q1 b7, q3 (e + (((tz (val l)).2 : Nat) : Int))] .ret [(6, .ptr 1000 0), (7, vb true)] [(1000, .var [vb neg, rwU (lim (tz (val l)).1), vi (e + (((tz (val l)).2 : Nat) : Int))])] tv fun a w hs => ?_
 exact rK (.val (.tup [.agg [vb neg, rwU (lim (tz (val l)).1), vi (e + (((tz (val l)).2 : Nat) : Int))], vb true])) [] hs (by rw [makeN, if_neg (by omega), if_neg (by omega)])
theorem con166 (v : Int) : Con Tryz.prog I0 134 [vi v] (.val (.agg [vb ((ofN v).neg), .row (.int .u32) ((ofN v).m), vi ((ofN v).e)])) := by
 refine con_of Tryz.func134 rfl (Nat.le_of_ble_eq_true rfl) stab (fun w0 fz a hI hs => ?_)
 rcases bd (v < 0) with ⟨b1, n1⟩ | ⟨b1, n1⟩
 refine wL hs hI [(4, rc [(8, ciA 135 [vb (decide (v < 0)), rwU ([IntKind.wrap .u32 (IntKind.wrap .u64 (0 - (IntKind.wrap .u64 v))), IntKind.wrap .u32 ((IntKind.wrap .u64 (0 - (IntKind.wrap .u64 v))).fdiv (2 ^ 32))]), vi 0] [] [5007] (.val (.tup [.agg [vb (((makeN (decide (v < 0)) (val ([IntKind.wrap .u32 (IntKind.wrap .u64 (0 - (IntKind.wrap .u64 v))), IntKind.wrap .u32 ((IntKind.wrap .u64 (0 - (IntKind.wrap .u64 v))).fdiv (2 ^ 32))])) 0).1).neg), rwU (((makeN (decide (v < 0)) (val ([IntKind.wrap .u32 (IntKind.wrap .u64 (0 - (IntKind.wrap .u64 v))), IntKind.wrap .u32 ((IntKind.wrap .u64 (0 - (IntKind.wrap .u64 v))).fdiv (2 ^ 32))])) 0).1).m), vi (((makeN (decide (v < 0)) (val ([IntKind.wrap .u32 (IntKind.wrap .u64 (0 - (IntKind.wrap .u64 v))), IntKind.wrap .u32 ((IntKind.wrap .u64 (0 - (IntKind.wrap .u64 v))).fdiv (2 ^ 32))])) 0).1).e)], vb ((makeN (decide (v < 0)) (val ([IntKind.wrap .u32 (IntKind.wrap .u64 (0 - (IntKind.wrap .u64 v))), IntKind.wrap .u32 ((IntKind.wrap .u64 (0 - (IntKind.wrap .u64 v))).fdiv (2 ^ 32))])) 0).2)])))])] (bz 1 1) 198296661884088268798291820 [q1 b1] .ret [(2, .ptr 1000 0)] [(1000, .var [vb (((makeN (decide (v < 0)) (val ([IntKind.wrap .u32 (IntKind.wrap .u64 (0 - (IntKind.wrap .u64 v))), IntKind.wrap .u32 ((IntKind.wrap .u64 (0 - (IntKind.wrap .u64 v))).fdiv (2 ^ 32))])) 0).1).neg), rwU (((makeN (decide (v < 0)) (val ([IntKind.wrap .u32 (IntKind.wrap .u64 (0 - (IntKind.wrap .u64 v))), IntKind.wrap .u32 ((IntKind.wrap .u64 (0 - (IntKind.wrap .u64 v))).fdiv (2 ^ 32))])) 0).1).m), vi (((makeN (decide (v < 0)) (val ([IntKind.wrap .u32 (IntKind.wrap .u64 (0 - (IntKind.wrap .u64 v))), IntKind.wrap .u32 ((IntKind.wrap .u64 (0 - (IntKind.wrap .u64 v))).fdiv (2 ^ 32))])) 0).1).e)])] ⟨con167 _ _ _ (ok2 (by first | exact wrap32_in _ | decide) (wrap32_in _)) (Nat.le_of_ble_eq_true rfl), tv⟩ fun a w hs => ?_
 exact rK (.val (.agg [vb (((makeN (decide (v < 0)) (val ([IntKind.wrap .u32 (IntKind.wrap .u64 (0 - (IntKind.wrap .u64 v))), IntKind.wrap .u32 ((IntKind.wrap .u64 (0 - (IntKind.wrap .u64 v))).fdiv (2 ^ 32))])) 0).1).neg), rwU (((makeN (decide (v < 0)) (val ([IntKind.wrap .u32 (IntKind.wrap .u64 (0 - (IntKind.wrap .u64 v))), IntKind.wrap .u32 ((IntKind.wrap .u64 (0 - (IntKind.wrap .u64 v))).fdiv (2 ^ 32))])) 0).1).m), vi (((makeN (decide (v < 0)) (val ([IntKind.wrap .u32 (IntKind.wrap .u64 (0 - (IntKind.wrap .u64 v))), IntKind.wrap .u32 ((IntKind.wrap .u64 (0 - (IntKind.wrap .u64 v))).fdiv (2 ^ 32))])) 0).1).e)])) [] hs (by unfold ofN uabs; rw [if_pos b1])
 refine wL hs hI [(4, rc [(8, ciA 135 [vb (decide (v < 0)), rwU ([IntKind.wrap .u32 (IntKind.wrap .u64 v), IntKind.wrap .u32 ((IntKind.wrap .u64 v).fdiv (2 ^ 32))]), vi 0] [] [5007] (.val (.tup [.agg [vb (((makeN (decide (v < 0)) (val ([IntKind.wrap .u32 (IntKind.wrap .u64 v), IntKind.wrap .u32 ((IntKind.wrap .u64 v).fdiv (2 ^ 32))])) 0).1).neg), rwU (((makeN (decide (v < 0)) (val ([IntKind.wrap .u32 (IntKind.wrap .u64 v), IntKind.wrap .u32 ((IntKind.wrap .u64 v).fdiv (2 ^ 32))])) 0).1).m), vi (((makeN (decide (v < 0)) (val ([IntKind.wrap .u32 (IntKind.wrap .u64 v), IntKind.wrap .u32 ((IntKind.wrap .u64 v).fdiv (2 ^ 32))])) 0).1).e)], vb ((makeN (decide (v < 0)) (val ([IntKind.wrap .u32 (IntKind.wrap .u64 v), IntKind.wrap .u32 ((IntKind.wrap .u64 v).fdiv (2 ^ 32))])) 0).2)])))])] (bz 1 0) 1982966618840889798291820 [q1 b1] .ret [(2, .ptr 1000 0)] [(1000, .var [vb (((makeN (decide (v < 0)) (val ([IntKind.wrap .u32 (IntKind.wrap .u64 v), IntKind.wrap .u32 ((IntKind.wrap .u64 v).fdiv (2 ^ 32))])) 0).1).neg), rwU (((makeN (decide (v < 0)) (val ([IntKind.wrap .u32 (IntKind.wrap .u64 v), IntKind.wrap .u32 ((IntKind.wrap .u64 v).fdiv (2 ^ 32))])) 0).1).m), vi (((makeN (decide (v < 0)) (val ([IntKind.wrap .u32 (IntKind.wrap .u64 v), IntKind.wrap .u32 ((IntKind.wrap .u64 v).fdiv (2 ^ 32))])) 0).1).e)])] ⟨con167 _ _ _ (ok2 (by first | exact wrap32_in _ | decide) (wrap32_in _)) (Nat.le_of_ble_eq_true rfl), tv⟩ fun a w hs => ?_
 exact rK (.val (.agg [vb (((makeN (decide (v < 0)) (val ([IntKind.wrap .u32 (IntKind.wrap .u64 v), IntKind.wrap .u32 ((IntKind.wrap .u64 v).fdiv (2 ^ 32))])) 0).1).neg), rwU (((makeN (decide (v < 0)) (val ([IntKind.wrap .u32 (IntKind.wrap .u64 v), IntKind.wrap .u32 ((IntKind.wrap .u64 v).fdiv (2 ^ 32))])) 0).1).m), vi (((makeN (decide (v < 0)) (val ([IntKind.wrap .u32 (IntKind.wrap .u64 v), IntKind.wrap .u32 ((IntKind.wrap .u64 v).fdiv (2 ^ 32))])) 0).1).e)])) [] hs (by unfold ofN uabs; rw [if_neg (by rw [b1]; decide)])
theorem con110 (v : Int) (hv : -9223372036854775808 ≤ v ∧ v ≤ 9223372036854775807) : Con Tryz.prog I0 97 [vi v] (.val (.agg [vb ((numberN v).neg), .row (.int .u32) ((numberN v).m), vi ((numberN v).e)])) := by
 have a1 := td hv 3 (by decide)
 have a2 := td hv 5 (by decide)
 have a3 := td hv 7 (by decide)
 have a4 := td hv 10 (by decide)
 have b1 := tm (a := v.tdiv 5) 60 (by decide)
 have b2 := tm (a := v.tdiv 7) 9 (by decide)
 have b3 := tm (a := v.tdiv 5) 30 (by decide)
 refine con_of Tryz.func97 rfl (Nat.le_of_ble_eq_true rfl) stab (fun w0 fz a hI hs => ?_)
 rcases bq (v.tmod 5) (0) with ⟨b1, n1⟩ | ⟨b1, n1⟩
 refine wL hs hI [(3, rc [(4, ciV 134 [vi (((v.tdiv 5).tmod 60) - 20)] (.agg [vb ((ofN (((v.tdiv 5).tmod 60) - 20)).neg), rwU ((ofN (((v.tdiv 5).tmod 60) - 20)).m), vi ((ofN (((v.tdiv 5).tmod 60) - 20)).e)]))])] (bz 1 1) 1960433379897120 [q6 5, q1 b1, ⟨(5 : Int) ≠ 0 ∧ InR .i64 (v.tdiv 5), (by first | exact inR64 (by omega) (by omega) | exact ⟨by decide, inR64 (by omega) (by omega)⟩)⟩, q6 60, ⟨InR .i64 (((v.tdiv 5).tmod 60) - 20), (by first | exact inR64 (by omega) (by omega) | exact ⟨by decide, inR64 (by omega) (by omega)⟩)⟩] .ret [(2, .ptr 1000 0)] [(1000, .var [vb ((ofN (((v.tdiv 5).tmod 60) - 20)).neg), rwU ((ofN (((v.tdiv 5).tmod 60) - 20)).m), vi ((ofN (((v.tdiv 5).tmod 60) - 20)).e)])] ⟨con166 _, tv⟩ fun a w hs => ?_
 exact rK (.val (.agg [vb ((ofN (((v.tdiv 5).tmod 60) - 20)).neg), rwU ((ofN (((v.tdiv 5).tmod 60) - 20)).m), vi ((ofN (((v.tdiv 5).tmod 60) - 20)).e)])) [] hs (by rw [numberN, if_pos (by omega)])
 rcases bq (v.tmod 5) (1) with ⟨b2, n2⟩ | ⟨b2, n2⟩
 refine wL hs hI [(5, rc [(13, ciA 135 [vb (((v.tdiv 5).tmod 2) == 1), rwU ([IntKind.wrap .u32 ((v.tdiv 10).tmod 2000)]), vi (((v.tdiv 7).tmod 9) - 5)] [] [6008] (.val (.tup [.agg [vb (((makeN (((v.tdiv 5).tmod 2) == 1) (val ([IntKind.wrap .u32 ((v.tdiv 10).tmod 2000)])) (((v.tdiv 7).tmod 9) - 5)).1).neg), rwU (((makeN (((v.tdiv 5).tmod 2) == 1) (val ([IntKind.wrap .u32 ((v.tdiv 10).tmod 2000)])) (((v.tdiv 7).tmod 9) - 5)).1).m), vi (((makeN (((v.tdiv 5).tmod 2) == 1) (val ([IntKind.wrap .u32 ((v.tdiv 10).tmod 2000)])) (((v.tdiv 7).tmod 9) - 5)).1).e)], vb ((makeN (((v.tdiv 5).tmod 2) == 1) (val ([IntKind.wrap .u32 ((v.tdiv 10).tmod 2000)])) (((v.tdiv 7).tmod 9) - 5)).2)])))])] (bz 2 2) 19866666188433307317379079897120 [q6 5, q1 b1, q1 b2, ⟨(5 : Int) ≠ 0 ∧ InR .i64 (v.tdiv 5), (by first | exact inR64 (by omega) (by omega) | exact ⟨by decide, inR64 (by omega) (by omega)⟩)⟩, q6 2, ⟨(10 : Int) ≠ 0 ∧ InR .i64 (v.tdiv 10), (by first | exact inR64 (by omega) (by omega) | exact ⟨by decide, inR64 (by omega) (by omega)⟩)⟩, q6 2000, ⟨(7 : Int) ≠ 0 ∧ InR .i64 (v.tdiv 7), (by first | exact inR64 (by omega) (by omega) | exact ⟨by decide, inR64 (by omega) (by omega)⟩)⟩, q6 9, ⟨InR .i64 (((v.tdiv 7).tmod 9) - 5), (by first | exact inR64 (by omega) (by omega) | exact ⟨by decide, inR64 (by omega) (by omega)⟩)⟩] .ret [(2, .ptr 1000 0)] [(1000, .var [vb (((makeN (((v.tdiv 5).tmod 2) == 1) (val ([IntKind.wrap .u32 ((v.tdiv 10).tmod 2000)])) (((v.tdiv 7).tmod 9) - 5)).1).neg), rwU (((makeN (((v.tdiv 5).tmod 2) == 1) (val ([IntKind.wrap .u32 ((v.tdiv 10).tmod 2000)])) (((v.tdiv 7).tmod 9) - 5)).1).m), vi (((makeN (((v.tdiv 5).tmod 2) == 1) (val ([IntKind.wrap .u32 ((v.tdiv 10).tmod 2000)])) (((v.tdiv 7).tmod 9) - 5)).1).e)])] ⟨con167 _ _ _ (ok1 (wrap32_in _)) (Nat.le_of_ble_eq_true rfl), tv⟩ fun a w hs => ?_
 exact rK (.val (.agg [vb (((makeN (((v.tdiv 5).tmod 2) == 1) (val ([IntKind.wrap .u32 ((v.tdiv 10).tmod 2000)])) (((v.tdiv 7).tmod 9) - 5)).1).neg), rwU (((makeN (((v.tdiv 5).tmod 2) == 1) (val ([IntKind.wrap .u32 ((v.tdiv 10).tmod 2000)])) (((v.tdiv 7).tmod 9) - 5)).1).m), vi (((makeN (((v.tdiv 5).tmod 2) == 1) (val ([IntKind.wrap .u32 ((v.tdiv 10).tmod 2000)])) (((v.tdiv 7).tmod 9) - 5)).1).e)])) [] hs (by rw [numberN, if_neg (by omega), if_pos (by omega)])
 rcases bq (v.tmod 5) (2) with ⟨b3, n3⟩ | ⟨b3, n3⟩
 refine wL hs hI [(8, rc [(9, ciA 135 [vb false, rwU ([IntKind.wrap .u32 v, IntKind.wrap .u32 (v.tdiv 3), IntKind.wrap .u32 (v.tmod 7)]), vi 0] [] [9008] (.val (.tup [.agg [vb (((makeN false (val ([IntKind.wrap .u32 v, IntKind.wrap .u32 (v.tdiv 3), IntKind.wrap .u32 (v.tmod 7)])) 0).1).neg), rwU (((makeN false (val ([IntKind.wrap .u32 v, IntKind.wrap .u32 (v.tdiv 3), IntKind.wrap .u32 (v.tmod 7)])) 0).1).m), vi (((makeN false (val ([IntKind.wrap .u32 v, IntKind.wrap .u32 (v.tdiv 3), IntKind.wrap .u32 (v.tmod 7)])) 0).1).e)], vb ((makeN false (val ([IntKind.wrap .u32 v, IntKind.wrap .u32 (v.tdiv 3), IntKind.wrap .u32 (v.tmod 7)])) 0).2)])))])] (bz 3 4) 198666618841717079079079897120 [q6 5, q1 b1, q1 b2, q1 b3, ⟨(3 : Int) ≠ 0 ∧ InR .i64 (v.tdiv 3), (by first | exact inR64 (by omega) (by omega) | exact ⟨by decide, inR64 (by omega) (by omega)⟩)⟩, q6 7] .ret [(2, .ptr 1000 0)] [(1000, .var [vb (((makeN false (val ([IntKind.wrap .u32 v, IntKind.wrap .u32 (v.tdiv 3), IntKind.wrap .u32 (v.tmod 7)])) 0).1).neg), rwU (((makeN false (val ([IntKind.wrap .u32 v, IntKind.wrap .u32 (v.tdiv 3), IntKind.wrap .u32 (v.tmod 7)])) 0).1).m), vi (((makeN false (val ([IntKind.wrap .u32 v, IntKind.wrap .u32 (v.tdiv 3), IntKind.wrap .u32 (v.tmod 7)])) 0).1).e)])] ⟨con167 _ _ _ (ok3 (wrap32_in _) (wrap32_in _) (wrap32_in _)) (Nat.le_of_ble_eq_true rfl), tv⟩ fun a w hs => ?_
 exact rK (.val (.agg [vb (((makeN false (val ([IntKind.wrap .u32 v, IntKind.wrap .u32 (v.tdiv 3), IntKind.wrap .u32 (v.tmod 7)])) 0).1).neg), rwU (((makeN false (val ([IntKind.wrap .u32 v, IntKind.wrap .u32 (v.tdiv 3), IntKind.wrap .u32 (v.tmod 7)])) 0).1).m), vi (((makeN false (val ([IntKind.wrap .u32 v, IntKind.wrap .u32 (v.tdiv 3), IntKind.wrap .u32 (v.tmod 7)])) 0).1).e)])) [] hs (by rw [numberN, if_neg (by omega), if_neg (by omega), if_pos (by omega)])
 rcases bq (v.tmod 5) (3) with ⟨b4, n4⟩ | ⟨b4, n4⟩
 refine wL hs hI [(11, rc [(10, ciA 135 [vb ((v.tmod 2) == 1), rwU ([5, IntKind.wrap .u32 v]), vi (IntKind.wrap .i64 (0 - ((v.tdiv 5).tmod 30)))] [] [12005] (.val (.tup [.agg [vb (((makeN ((v.tmod 2) == 1) (val ([5, IntKind.wrap .u32 v])) (IntKind.wrap .i64 (0 - ((v.tdiv 5).tmod 30)))).1).neg), rwU (((makeN ((v.tmod 2) == 1) (val ([5, IntKind.wrap .u32 v])) (IntKind.wrap .i64 (0 - ((v.tdiv 5).tmod 30)))).1).m), vi (((makeN ((v.tmod 2) == 1) (val ([5, IntKind.wrap .u32 v])) (IntKind.wrap .i64 (0 - ((v.tdiv 5).tmod 30)))).1).e)], vb ((makeN ((v.tmod 2) == 1) (val ([5, IntKind.wrap .u32 v])) (IntKind.wrap .i64 (0 - ((v.tdiv 5).tmod 30)))).2)])))])] (bz 4 8) 1982666618847318779079079079897120 [q6 5, q1 b1, q1 b2, q1 b3, q1 b4, q6 2, ⟨(5 : Int) ≠ 0 ∧ InR .i64 (v.tdiv 5), (by first | exact inR64 (by omega) (by omega) | exact ⟨by decide, inR64 (by omega) (by omega)⟩)⟩, q6 30] .ret [(2, .ptr 1000 0)] [(1000, .var [vb (((makeN ((v.tmod 2) == 1) (val ([5, IntKind.wrap .u32 v])) (IntKind.wrap .i64 (0 - ((v.tdiv 5).tmod 30)))).1).neg), rwU (((makeN ((v.tmod 2) == 1) (val ([5, IntKind.wrap .u32 v])) (IntKind.wrap .i64 (0 - ((v.tdiv 5).tmod 30)))).1).m), vi (((makeN ((v.tmod 2) == 1) (val ([5, IntKind.wrap .u32 v])) (IntKind.wrap .i64 (0 - ((v.tdiv 5).tmod 30)))).1).e)])] ⟨con167 _ _ _ (ok2 (by first | exact wrap32_in _ | decide) (wrap32_in _)) (Nat.le_of_ble_eq_true rfl), tv⟩ fun a w hs => ?_
 exact rK (.val (.agg [vb (((makeN ((v.tmod 2) == 1) (val ([5, IntKind.wrap .u32 v])) (IntKind.wrap .i64 (0 - ((v.tdiv 5).tmod 30)))).1).neg), rwU (((makeN ((v.tmod 2) == 1) (val ([5, IntKind.wrap .u32 v])) (IntKind.wrap .i64 (0 - ((v.tdiv 5).tmod 30)))).1).m), vi (((makeN ((v.tmod 2) == 1) (val ([5, IntKind.wrap .u32 v])) (IntKind.wrap .i64 (0 - ((v.tdiv 5).tmod 30)))).1).e)])) [] hs (by rw [numberN, if_neg (by omega), if_neg (by omega), if_neg (by omega), if_pos (by omega)])
 refine wL hs hI [(13, rc [(1, ciV 134 [vi v] (.agg [vb ((ofN v).neg), rwU ((ofN v).m), vi ((ofN v).e)]))])] (bz 4 0) 12904126679079079079897120 [q6 5, q1 b1, q1 b2, q1 b3, q1 b4] .ret [(2, .ptr 1000 0)] [(1000, .var [vb ((ofN v).neg), rwU ((ofN v).m), vi ((ofN v).e)])] ⟨con166 _, tv⟩ fun a w hs => ?_
 exact rK (.val (.agg [vb ((ofN v).neg), rwU ((ofN v).m), vi ((ofN v).e)])) [] hs (by rw [numberN, if_neg (by omega), if_neg (by omega), if_neg (by omega), if_neg (by omega)])
theorem take_map_succ {α β : Type} {f : α → β} {l : List α} {i : Nat} (h : i < l.length) (d : α) : (l.take i).map f ++ [f (l.getD i d)] = (l.take (i + 1)).map f := by
 rw [List.take_succ_eq_append_getElem h, List.map_append, List.getD_eq_getElem?_getD, List.getElem?_eq_getElem h]; rfl
theorem take_map_len {α β : Type} {f : α → β} {l : List α} {i : Nat} (h : i ≤ l.length) : ((l.take i).map f).length = i := by simp; omega
def placeF (n k : Int) : Int := if n.tmod k < 0 then n.tmod k + k else n.tmod k
theorem placeF_in (n k : Int) (hk : 0 < k) : 0 ≤ placeF n k ∧ placeF n k < k := by
 unfold placeF
 have h1 := Int.lt_tmod_of_pos n hk
 have h2 := Int.tmod_lt_of_pos n hk
 split <;> omega
theorem con17 (n k : Int) (hk : 0 < k) (hk2 : k < 4294967296) : Con Tryz.prog I0 18 [vi n, vi k] (.val (vi (placeF n k))) := by
 refine con_of Tryz.func18 rfl (Nat.le_of_ble_eq_true rfl) stab (fun w0 fz a hI hs => ?_)
 rcases bd ((n.tmod k) < 0) with ⟨b1, n1⟩ | ⟨b1, n1⟩
 refine wN hs hI (bz 1 1) 19896171798617020 [q2 (k ≠ 0), q1 b1, ⟨InR .i64 ((n.tmod k) + k), (by exact inR64 (by have := Int.lt_tmod_of_pos n hk; omega) (by have := Int.tmod_lt_of_pos n hk; omega))⟩] .ret [(4, vi ((n.tmod k) + k))] [] fun a w hs => ?_
 exact rK (.val (vi ((n.tmod k) + k))) [] hs (by simp only [placeF]; rw [if_pos (by omega)])
 refine wN hs hI (bz 1 0) 1989798617020 [q2 (k ≠ 0), q1 b1] .ret [(4, vi (n.tmod k))] [] fun a w hs => ?_
 exact rK (.val (vi (n.tmod k))) [] hs (by simp only [placeF]; rw [if_neg (by omega)])
theorem td_in {v b : Int} (h : 0 ≤ v) (hb : 0 < b) : 0 ≤ v.tdiv b ∧ v.tdiv b ≤ v := ⟨Int.tdiv_nonneg h (by omega), Int.tdiv_le_self _ h⟩
section
variable {N : Nat} {w0 : World} {T : TL} {B : BL} {a : Act} {w : World}
theorem SimL.rowB {ow : Own} (hs : SimL N w0 ow T B a w) (b j : Nat) (τ : Ty) (l : List AV) (hb : lkp B b = some (.var l)) (hl : l[j]? = some nilv) : SimL N w0 ow T ((b, .var (l.set j (.row τ []))) :: B) a w := by
 obtain ⟨η, s⟩ := hs
 refine ⟨η, s.size, s.nod, s.frame, s.tmp, fun c X h => ?_, s.new, s.apart, s.pin, s.pinlt⟩
 rw [lkp] at h
 split at h
 rename_i he
 simp only [Option.some.injEq] at h
 subst h he
 obtain ⟨u, hu, hr⟩ := s.dom _ (.var l) hb
 obtain ⟨g, C, ee, rfl, q1, q2, q3⟩ := hr
 refine ⟨_, hu, g, C, ee, rfl, q1, by rw [List.length_set]; exact q2, fun i v x hv hx => ?_⟩
 rw [List.getElem?_set] at hx
 split at hx
 rename_i hij
 subst hij
 split at hx
 simp only [Option.some.injEq] at hx
 subst hx
 have hvn := (q3 j v _ hv hl).lit_inv
 rw [hvn]
 exact .row none 0 τ [] (fun _ _ => .bool false) (Nat.le_refl _) (Nat.zero_le _) (fun i x h => by simp at h) (fun i x j y h => by simp at h)
 cases hx
 exact q3 i v x hv hx
 exact s.dom c X h
end
def nul : Tree := .mk 1 false ⟨false, [], 0⟩ (ba []) [] []
def vM (l : List Int) : Int := placeF (l.getD 0 (dflt (.int .i64))) 1073741824
def kM (d v : Int) : Int := if d ≤ 0 ∧ 6 ≤ v.tmod 12 then v.tmod 12 - 6 else v.tmod 12
def cM (v : Int) : Nat := ((v.tdiv 12).tmod 4).toNat
def isNu (k : Int) : Bool := k == 2 || k == 3
def isA (k : Int) : Bool := k == 6 || (k == 7 || k == 8)
def txtM (v : Int) : ByteArray := (ba [97, 98, 99, 34, 92, 10, 195, 169, 122]).extract 0 (([0, 1, 2, 3, 4, 5, 6, 8, 9] : List Int).getD (((v.tdiv 12).tmod 9).toNat * 1) 0).toNat
def bytM (v : Int) : ByteArray := (ba [0, 255, 97, 98]).extract 0 ((v.tdiv 12).tmod 5).toNat
def names8 : List ByteArray := [(ba [97]), (ba [98]), (ba [99]), (ba [100, 100]), (ba [101]), (ba []), (ba [120, 47, 121]), (ba [122, 126])]
def nmM (v : Int) (i : Nat) : ByteArray := names8.getD (((v.tdiv 48) + 3 * (i : Int)).tmod 8).toNat (dflt .str)
def itA (f : List Int → Tree × List Int) : Nat → List Int → List Tree × List Int
 | 0, l => ([], l)
 | n + 1, l => ((itA f n l).1 ++ [(f (itA f n l).2).1], (f (itA f n l).2).2)
def itO (f : List Int → Tree × List Int) (v : Int) : Nat → List Int → Tree × List Int
 | 0, l => (.mk 7 false ⟨false, [], 0⟩ (ba []) [] [], l)
 | n + 1, l => (setT (itO f v n l).1 (nmM v n) (f (itO f v n l).2).1, (f (itO f v n l).2).2)
def madeV (f : List Int → Tree × List Int) (d v : Int) (l : List Int) : Tree × List Int :=
 if kM d v = 0 then (nul, l) else
 if kM d v = 1 then (.mk 2 ((v.tdiv 12).tmod 2 == 1) ⟨false, [], 0⟩ (ba []) [] [], l) else
 if isNu (kM d v) = true then (.mk 3 false (numberN (v.tdiv 12)) (ba []) [] [], l) else
 if kM d v = 4 then (.mk 4 false ⟨false, [], 0⟩ (txtM v) [] [], l) else
 if kM d v = 5 then (.mk 5 false ⟨false, [], 0⟩ (bytM v) [] [], l) else
 if isA (kM d v) = true then (.mk 6 false ⟨false, [], 0⟩ (ba []) [] (itA f (cM v) l).1, (itA f (cM v) l).2) else
 itO f v (cM v) l
def madeG (f : List Int → Tree × List Int) (d : Int) (l : List Int) : Tree × List Int :=
 if (l.length : Int) = 0 then (nul, []) else madeV f d (vM l) (l.drop 1)
def madeF : Nat → List Int → Tree × List Int
 | 0, l => madeG (fun _ => (nul, [])) 0 l
 | d + 1, l => madeG (madeF d) ((d + 1 : Nat) : Int) l
structure VF (v : Int) : Prop where
 r : 0 ≤ v ∧ v < 1073741824
 k : 0 ≤ v.tmod 12 ∧ v.tmod 12 < 12
 q : 0 ≤ v.tdiv 12 ∧ v.tdiv 12 < 1073741824
 q48 : 0 ≤ v.tdiv 48 ∧ v.tdiv 48 < 1073741824
 c : (v.tdiv 12).tmod 4 = ((cM v : Nat) : Int) ∧ cM v < 4
 m9 : 0 ≤ (v.tdiv 12).tmod 9 ∧ (v.tdiv 12).tmod 9 < 9
 m5 : 0 ≤ (v.tdiv 12).tmod 5 ∧ (v.tdiv 12).tmod 5 < 5
theorem tmn {a : Int} (h : 0 ≤ a) (k : Int) (hk : 0 < k) : 0 ≤ a.tmod k ∧ a.tmod k < k := ⟨Int.tmod_nonneg _ h, Int.tmod_lt_of_pos a hk⟩
theorem vM_in (l : List Int) : 0 ≤ vM l ∧ vM l < 1073741824 := placeF_in _ _ (by decide)
theorem vF_ok {v : Int} (h : 0 ≤ v ∧ v < 1073741824) : VF v := by
 have hq := td_in h.1 (b := 12) (by decide)
 have h48 := td_in h.1 (b := 48) (by decide)
 have h4 := tmn hq.1 4 (by decide)
 refine ⟨h, tmn h.1 12 (by decide), ⟨hq.1, by omega⟩, ⟨h48.1, by omega⟩, ?_, tmn hq.1 9 (by decide), tmn hq.1 5 (by decide)⟩
 unfold cM
 generalize (v.tdiv 12).tmod 4 = x at *
 omega
theorem kM_in {v : Int} (h : VF v) (d : Int) : 0 ≤ kM d v ∧ kM d v < 12 ∧ (d ≤ 0 → kM d v < 6) := by
 have := h.k
 unfold kM
 split <;> omega
theorem nm8 {v : Int} (h : VF v) (i : Nat) : 0 ≤ ((v.tdiv 48) + 3 * (i : Int)).tmod 8 ∧ ((v.tdiv 48) + 3 * (i : Int)).tmod 8 < 8 := tmn (by have := h.q48; omega) 8 (by decide)
theorem txt9 {v : Int} (h : VF v) : 0 ≤ ([0, 1, 2, 3, 4, 5, 6, 8, 9] : List Int).getD (((v.tdiv 12).tmod 9).toNat * 1) 0 ∧ ([0, 1, 2, 3, 4, 5, 6, 8, 9] : List Int).getD (((v.tdiv 12).tmod 9).toNat * 1) 0 ≤ 9 := by
 have h9 := h.m9
 generalize hx : ((v.tdiv 12).tmod 9).toNat * 1 = n
 have hn : n < 9 := by omega
 clear hx
 revert hn; revert n; decide
theorem dM_a {v : Int} (h : VF v) (d : Nat) (ha : isA (kM d v) = true) : 0 < d := by
 have := kM_in h d
 simp only [isA, Bool.or_eq_true, beq_iff_eq] at ha
 omega
theorem dM_o {v : Int} (h : VF v) (d : Nat) (h0 : kM d v ≠ 0) (h1 : kM d v ≠ 1) (h2 : isNu (kM d v) = false) (h4 : kM d v ≠ 4) (h5 : kM d v ≠ 5) : 0 < d := by
 have := kM_in h d
 simp only [isNu, Bool.or_eq_false_iff, beq_eq_false_iff_ne] at h2
 omega
theorem keys_ins (x : ByteArray) (v : Tree) (l : Mem) : (insA x v l).length ≤ l.length + 1 := by
 have h1 : ∀ l : Mem, (putA x v l).length = l.length + 1 := by
  intro l; induction l with
  | nil => rfl
  | cons p l ih => obtain ⟨y, u⟩ := p; simp only [putA]; split <;> simp [ih]
 have h2 : ∀ l : Mem, (repA x v l).length = l.length := by
  intro l; induction l with
  | nil => rfl
  | cons p l ih => obtain ⟨y, u⟩ := p; simp only [repA]; split <;> simp [ih]
 unfold insA
 split
 rw [h2]; omega
 rw [h1]; omega
theorem mems_le (t : Tree) : (mems t).length ≤ t.k.length := by
 by_cases hk : t.kind = 7
 rw [mems_len hk]; omega
 rw [mems_none hk]; exact Nat.zero_le _
theorem setT_len (t : Tree) (x : ByteArray) (v : Tree) : (setT t x v).k.length ≤ t.k.length + 1 ∧ (setT t x v).v.length ≤ t.k.length + 1 := by
 have h := keys_ins x v (mems t)
 have h2 := mems_le t
 show ((insA x v (mems t)).map (·.1)).length ≤ _ ∧ ((insA x v (mems t)).map (·.2)).length ≤ _
 rw [List.length_map, List.length_map]; omega
theorem itO_len (f : List Int → Tree × List Int) (v : Int) : ∀ (n : Nat) (l : List Int), (itO f v n l).1.k.length ≤ n ∧ (itO f v n l).1.v.length ≤ n
 | 0, l => ⟨Nat.le_refl _, Nat.le_refl _⟩
 | n + 1, l => by
  have ih := itO_len f v n l
  have h := setT_len (itO f v n l).1 (nmM v n) (f (itO f v n l).2).1
  show (setT (itO f v n l).1 (nmM v n) (f (itO f v n l).2).1).k.length ≤ n + 1 ∧ (setT (itO f v n l).1 (nmM v n) (f (itO f v n l).2).1).v.length ≤ n + 1
  omega
theorem itA_len (f : List Int → Tree × List Int) : ∀ (n : Nat) (l : List Int), (itA f n l).1.length = n
 | 0, l => rfl
 | n + 1, l => by simp [itA, itA_len f n l]
theorem con111  : Con Tryz.prog I0 23 [] (.own 9 .str names8) := by
 refine con_of Tryz.func23 rfl (Nat.le_of_ble_eq_true rfl) stab (fun w0 fz a hI hs => ?_)
 refine wN hs hI [] 19820 [] .ret [(0, .own 2000)] [(2000, .sl 9 .str ([(ba [97]), (ba [98]), (ba [99]), (ba [100, 100]), (ba [101]), (ba []), (ba [120, 47, 121]), (ba [122, 126])]))] fun a w hs => ?_
 exact FnQ_cast (out := .own 9 .str ([(ba [97]), (ba [98]), (ba [99]), (ba [100, 100]), (ba [101]), (ba []), (ba [120, 47, 121]), (ba [122, 126])])) (rfl) (ret_ok [] hs (.inl ⟨2000, by kernel_rfl, rfl⟩))
theorem con54_ (f : List Int → Tree × List Int) (d : Nat) (hd : d < 1000) (H : 0 < d → ∀ l : List Int, Con Tryz.prog I0 53 [.row (.int .i64) l, vi ((d : Nat) - 1)] (.val (.tup [.agg [vi (((f l).1).kind), vb (((f l).1).b), vb (((f l).1).n.neg), .row (.int .u32) (((f l).1).n.m), vi (((f l).1).n.e), vs (((f l).1).s), .row .str (((f l).1).k), .row .tree (((f l).1).v)], .row (.int .i64) (f l).2]))) (l : List Int) : Con Tryz.prog I0 53 [.row (.int .i64) l, vi (d : Int)] (.val (.tup [.agg (encTree ((madeG f d l).1)), .row (.int .i64) ((madeG f d l).2)])) := by
 have hV := vF_ok (vM_in l)
 have hv_ := hV.r
 have hk_ := hV.k
 have hq_ := hV.q
 have h48_ := hV.q48
 have hc_ := hV.c
 have h9_ := hV.m9
 have h5_ := hV.m5
 have hkk := kM_in hV (d : Int)
 have ht9 := txt9 hV
 have hs9 : (ba [97, 98, 99, 34, 92, 10, 195, 169, 122]).size = 9 := rfl
 have hs4 : (ba [0, 255, 97, 98]).size = 4 := rfl
 have hn8 : names8.length = 8 := rfl
 refine con_of Tryz.func53 rfl (Nat.le_of_ble_eq_true rfl) stab (fun w0 fz a hI hs => ?_)
 refine wNs hs hI [] 8 [] [(0, .row (.int .i64) l), (1, vi (d : Int)), (4, .ptr 1000 0)] [(1000, .var zTr)] fun a w hs => ?_
 refine wp_seq ?_
 rcases bq (l.length : Int) (0) with ⟨b1, n1⟩ | ⟨b1, n1⟩
 refine wN hs hI (bz 1 1) 129872918 [q1 b1] .ret [(4, .ptr 1000 0), (5, nilv)] [(1000, .var [vi 1, vb false, vb false, nilv, vi 0, vs (ba []), nilv, nilv])] fun a w hs => ?_
 refine then_ret ?_
 exact rK (.val (.tup [.agg [vi 1, vb false, vb false, rwU ([]), vi 0, vs (ba []), rwS ([]), rwT ([])], .row (.int .i64) ([])])) [] hs (by rw [madeG, if_pos (by omega)]; rfl)
 refine wN hs hI (bz 1 0) 72918 [q1 b1] .norm [(0, .row (.int .i64) l), (1, vi (d : Int)), (4, .ptr 1000 0)] [(1000, .var zTr)] fun a w hs => ?_
 refine then_norm ?_
 refine wLs hs hI [(3, rc [(3, ciV 18 [vi (l.getD 0 (dflt (.int .i64))), vi 1073741824] (vi (vM l)))])] [] 11471 [q4 (0 : Int) l.length] [(0, .row (.int .i64) l), (1, vi (d : Int)), (4, .ptr 1000 0), (6, vi (vM l))] [(1000, .var zTr)] ⟨con17 _ _ (by decide) (by decide), tv⟩ fun a w hs => ?_
 refine wNs hs hI [] 171 [⟨0 ≤ (1 : Int) ∧ (1 : Int) ≤ (l.length : Int) ∧ (l.length : Int) ≤ (l.length : Int) ∧ (l.length : Int) ≤ (l.length : Int), (by (repeat' apply And.intro) <;> (try split) <;> omega)⟩] [(0, .row (.int .i64) (l.drop 1)), (1, vi (d : Int)), (4, .ptr 1000 0), (6, vi (vM l))] [(1000, .var zTr)] fun a w hs => ?_
 refine wNs hs hI [] 171 [q6 12] [(0, .row (.int .i64) (l.drop 1)), (1, vi (d : Int)), (4, .ptr 1000 0), (6, vi (vM l)), (7, vi ((vM l).tmod 12))] [(1000, .var zTr)] fun a w hs => ?_
 refine wp_cut (N := Tryz.f53.ntmps) (w0 := w0) (ow := noO fz) (T := [(0, .row (.int .i64) (l.drop 1)), (1, vi (d : Int)), (4, .ptr 1000 0), (6, vi (vM l)), (7, vi (kM d (vM l)))]) (B := [(1000, .var zTr)]) (True) ?_ ?_
 rcases bd ((d : Int) ≤ 0) with ⟨b2, n2⟩ | ⟨b2, n2⟩
 rcases bd (((vM l).tmod 12) ≥ 6) with ⟨b3, n3⟩ | ⟨b3, n3⟩
 refine wL hs hI [(6, rg [] [3, 4, 1005] [])] (bz 1 1) 177667778 [q1 b2, q1 b2, q1 b2, q1 b3, q3 (((vM l).tmod 12) - 6)] .norm [(0, .row (.int .i64) (l.drop 1)), (1, vi (d : Int)), (4, .ptr 1000 0), (6, vi (vM l)), (7, vi (((vM l).tmod 12) - 6))] [(1000, .var zTr)] tv fun a w hs => ?_
 refine then_norm ⟨trivial, ?_⟩
 (have e0_ : (((vM l).tmod 12) - 6) = (kM d (vM l)) := (by first | rfl | (first | rfl | (unfold kM; rw [if_pos (by omega)]; done) | (unfold kM; rw [if_neg (by omega)]; done) | omega)); exact (hs.cst [(0, .row (.int .i64) (l.drop 1)), (1, vi (d : Int)), (4, .ptr 1000 0), (6, vi (vM l)), (7, vi (kM d (vM l)))] [(1000, .var zTr)] (by first | (rw [e0_]; done) | (simp only [e0_]; done) | rfl | (simp only [e0_]; rfl))).rk [(1000, 1000)])
 refine wL hs hI [(6, rg [] [3, 4, 1005] [])] (bz 1 0) 7667778 [q1 b2, q1 b2, q1 b2, q1 b3] .norm [(0, .row (.int .i64) (l.drop 1)), (1, vi (d : Int)), (4, .ptr 1000 0), (6, vi (vM l)), (7, vi ((vM l).tmod 12))] [(1000, .var zTr)] tv fun a w hs => ?_
 refine then_norm ⟨trivial, ?_⟩
 (have e0_ : ((vM l).tmod 12) = (kM d (vM l)) := (by first | rfl | (first | rfl | (unfold kM; rw [if_pos (by omega)]; done) | (unfold kM; rw [if_neg (by omega)]; done) | omega)); exact (hs.cst [(0, .row (.int .i64) (l.drop 1)), (1, vi (d : Int)), (4, .ptr 1000 0), (6, vi (vM l)), (7, vi (kM d (vM l)))] [(1000, .var zTr)] (by first | (rw [e0_]; done) | (simp only [e0_]; done) | rfl | (simp only [e0_]; rfl))).rk [(1000, 1000)])
 refine wL hs hI [(6, rg [] [] [3, 4, 1005])] (bz 1 0) 7967338 [q1 b2, q1 b2, q1 b2, q0 false] .norm [(0, .row (.int .i64) (l.drop 1)), (1, vi (d : Int)), (4, .ptr 1000 0), (6, vi (vM l)), (7, vi ((vM l).tmod 12))] [(1000, .var zTr)] tv fun a w hs => ?_
 refine then_norm ⟨trivial, ?_⟩
 (have e0_ : ((vM l).tmod 12) = (kM d (vM l)) := (by first | rfl | (first | rfl | (unfold kM; rw [if_pos (by omega)]; done) | (unfold kM; rw [if_neg (by omega)]; done) | omega)); exact (hs.cst [(0, .row (.int .i64) (l.drop 1)), (1, vi (d : Int)), (4, .ptr 1000 0), (6, vi (vM l)), (7, vi (kM d (vM l)))] [(1000, .var zTr)] (by first | (rw [e0_]; done) | (simp only [e0_]; done) | rfl | (simp only [e0_]; rfl))).rk [(1000, 1000)])
 intro hF a w hs
 refine wp_seq ?_
 refine wNs hs hI [] 11 [] [(0, .row (.int .i64) (l.drop 1)), (1, vi (d : Int)), (4, .ptr 1000 0), (6, vi (vM l)), (36, vi (kM d (vM l)))] [(1000, .var zTr)] fun a w hs => ?_
 refine wp_block ?_
 refine wNs hs hI [] 8 [] [(0, .row (.int .i64) (l.drop 1)), (1, vi (d : Int)), (4, .ptr 1000 0), (6, vi (vM l)), (36, vi (kM d (vM l))), (37, vb ((kM d (vM l)) == 0))] [(1000, .var zTr)] fun a w hs => ?_
 refine cond_L (c := 37) hs (b := (kM d (vM l)) == 0) rfl (fun hb => ?_) (fun hb => ?_)
 have b4 := hb
 clear hb
 have n4 := eq_of_beq b4
 refine wN hs hI [] 1608 [] .ret [(4, .ptr 1000 0), (5, .row (.int .i64) (l.drop 1))] [(1000, .var [vi 1, vb false, vb false, nilv, vi 0, vs (ba []), nilv, nilv])] fun a w hs => ?_
 refine inb_ret ?_
 refine then_ret ?_
 exact rK (.val (.tup [.agg [vi 1, vb false, vb false, rwU ([]), vi 0, vs (ba []), rwS ([]), rwT ([])], .row (.int .i64) (l.drop 1)])) [] hs (by rw [madeG, if_neg (by omega), madeV, if_pos (by first | omega | exact b4 | (rw [b4]; decide))]; try rfl)
 have b5 := hb
 clear hb
 have n5 := nB b5
 refine wNs hs hI [] 8 [] [(0, .row (.int .i64) (l.drop 1)), (1, vi (d : Int)), (4, .ptr 1000 0), (6, vi (vM l)), (36, vi (kM d (vM l))), (41, vb ((kM d (vM l)) == 1))] [(1000, .var zTr)] fun a w hs => ?_
 refine cond_L (c := 41) hs (b := (kM d (vM l)) == 1) rfl (fun hb => ?_) (fun hb => ?_)
 have b6 := hb
 clear hb
 have n6 := eq_of_beq b6
 refine wN hs hI [] 16608731 [q5 12 ((vM l).tdiv 12), q6 2] .ret [(4, .ptr 1000 0), (5, .row (.int .i64) (l.drop 1))] [(1000, .var [vi 2, vb ((((vM l).tdiv 12).tmod 2) == 1), vb false, nilv, vi 0, vs (ba []), nilv, nilv])] fun a w hs => ?_
 refine inb_ret ?_
 refine then_ret ?_
 exact rK (.val (.tup [.agg [vi 2, vb ((((vM l).tdiv 12).tmod 2) == 1), vb false, rwU ([]), vi 0, vs (ba []), rwS ([]), rwT ([])], .row (.int .i64) (l.drop 1)])) [] hs (by rw [madeG, if_neg (by omega), madeV, if_neg (by first | omega | exact b5 | (rw [b5]; decide)), if_pos (by first | omega | exact b6 | (rw [b6]; decide))]; try rfl)
 have b7 := hb
 clear hb
 have n7 := nB b7
 refine wp_cut (N := Tryz.f53.ntmps) (w0 := w0) (ow := noO fz) (T := [(0, .row (.int .i64) (l.drop 1)), (1, vi (d : Int)), (4, .ptr 1000 0), (6, vi (vM l)), (36, vi (kM d (vM l))), (49, vb (isNu (kM d (vM l))))]) (B := [(1000, .var zTr)]) (True) ?_ ?_
 rcases bq (kM d (vM l)) (2) with ⟨b8, n8⟩ | ⟨b8, n8⟩
 refine wN hs hI (bz 1 1) 798 [q1 b8] .norm [(0, .row (.int .i64) (l.drop 1)), (1, vi (d : Int)), (4, .ptr 1000 0), (6, vi (vM l)), (36, vi (kM d (vM l))), (49, vb ((kM d (vM l)) == 2))] [(1000, .var zTr)] fun a w hs => ?_
 refine then_norm ⟨trivial, ?_⟩
 (have e0_ : ((kM d (vM l)) == 2) = (isNu (kM d (vM l))) := (by first | rfl | (simp only [isNu, b5, b7, b8]; rfl)); exact (hs.cst [(0, .row (.int .i64) (l.drop 1)), (1, vi (d : Int)), (4, .ptr 1000 0), (6, vi (vM l)), (36, vi (kM d (vM l))), (49, vb (isNu (kM d (vM l))))] [(1000, .var zTr)] (by first | (rw [e0_]; done) | (simp only [e0_]; done) | rfl | (simp only [e0_]; rfl))).rk [(1000, 1000)])
 refine wN hs hI (bz 1 0) 11798 [q1 b8] .norm [(0, .row (.int .i64) (l.drop 1)), (1, vi (d : Int)), (4, .ptr 1000 0), (6, vi (vM l)), (36, vi (kM d (vM l))), (49, vb ((kM d (vM l)) == 3))] [(1000, .var zTr)] fun a w hs => ?_
 refine then_norm ⟨trivial, ?_⟩
 (have e0_ : ((kM d (vM l)) == 3) = (isNu (kM d (vM l))) := (by first | rfl | (simp only [isNu, b5, b7, b8]; rfl)); exact (hs.cst [(0, .row (.int .i64) (l.drop 1)), (1, vi (d : Int)), (4, .ptr 1000 0), (6, vi (vM l)), (36, vi (kM d (vM l))), (49, vb (isNu (kM d (vM l))))] [(1000, .var zTr)] (by first | (rw [e0_]; done) | (simp only [e0_]; done) | rfl | (simp only [e0_]; rfl))).rk [(1000, 1000)])
 intro hF a w hs
 refine cond_L (c := 49) hs (b := isNu (kM d (vM l))) rfl (fun hb => ?_) (fun hb => ?_)
 have b9 := hb
 clear hb
 refine wL hs hI [(15, rc [(2, ciV 97 [vi ((vM l).tdiv 12)] (.agg [vb ((numberN ((vM l).tdiv 12)).neg), rwU ((numberN ((vM l).tdiv 12)).m), vi ((numberN ((vM l).tdiv 12)).e)]))])] [] 129608431 [q5 12 ((vM l).tdiv 12)] .ret [(4, .ptr 1000 0), (5, .row (.int .i64) (l.drop 1))] [(1000, .var [vi 3, vb false, vb ((numberN ((vM l).tdiv 12)).neg), rwU ((numberN ((vM l).tdiv 12)).m), vi ((numberN ((vM l).tdiv 12)).e), vs (ba []), nilv, nilv])] ⟨con110 _ (by omega), tv⟩ fun a w hs => ?_
 refine inb_ret ?_
 refine then_ret ?_
 exact rK (.val (.tup [.agg [vi 3, vb false, vb ((numberN ((vM l).tdiv 12)).neg), rwU ((numberN ((vM l).tdiv 12)).m), vi ((numberN ((vM l).tdiv 12)).e), vs (ba []), rwS ([]), rwT ([])], .row (.int .i64) (l.drop 1)])) [] hs (by rw [madeG, if_neg (by omega), madeV, if_neg (by first | omega | exact b5 | (rw [b5]; decide)), if_neg (by first | omega | exact b7 | (rw [b7]; decide)), if_pos (by first | omega | exact b9 | (rw [b9]; decide))]; try rfl)
 have b10 := hb
 clear hb
 refine wNs hs hI [] 8 [] [(0, .row (.int .i64) (l.drop 1)), (1, vi (d : Int)), (4, .ptr 1000 0), (6, vi (vM l)), (36, vi (kM d (vM l))), (57, vb ((kM d (vM l)) == 4))] [(1000, .var zTr)] fun a w hs => ?_
 refine cond_L (c := 57) hs (b := (kM d (vM l)) == 4) rfl (fun hb => ?_) (fun hb => ?_)
 have b11 := hb
 clear hb
 have n11 := eq_of_beq b11
 refine wN hs hI [] 19661873330 [q5 12 ((vM l).tdiv 12), q6 9, q2 ((0 ≤ (((vM l).tdiv 12).tmod 9) ∧ (((vM l).tdiv 12).tmod 9) < (9 : Nat)) ∧ (((vM l).tdiv 12).tmod 9).toNat * 1 < 9), ⟨0 ≤ (0 : Int) ∧ (0 : Int) ≤ (([0, 1, 2, 3, 4, 5, 6, 8, 9] : List Int).getD ((((vM l).tdiv 12).tmod 9).toNat * 1) 0) ∧ (([0, 1, 2, 3, 4, 5, 6, 8, 9] : List Int).getD ((((vM l).tdiv 12).tmod 9).toNat * 1) 0) ≤ ((ba [97, 98, 99, 34, 92, 10, 195, 169, 122]).size : Int), (by (repeat' apply And.intro) <;> (try split) <;> omega)⟩] .ret [(4, .ptr 1000 0), (5, .row (.int .i64) (l.drop 1))] [(1000, .var [vi 4, vb false, vb false, nilv, vi 0, vs ((ba [97, 98, 99, 34, 92, 10, 195, 169, 122]).extract 0 (([0, 1, 2, 3, 4, 5, 6, 8, 9] : List Int).getD ((((vM l).tdiv 12).tmod 9).toNat * 1) 0).toNat), nilv, nilv])] fun a w hs => ?_
 refine inb_ret ?_
 refine then_ret ?_
 exact rK (.val (.tup [.agg [vi 4, vb false, vb false, rwU ([]), vi 0, vs ((ba [97, 98, 99, 34, 92, 10, 195, 169, 122]).extract 0 (([0, 1, 2, 3, 4, 5, 6, 8, 9] : List Int).getD ((((vM l).tdiv 12).tmod 9).toNat * 1) 0).toNat), rwS ([]), rwT ([])], .row (.int .i64) (l.drop 1)])) [] hs (by rw [madeG, if_neg (by omega), madeV, if_neg (by first | omega | exact b5 | (rw [b5]; decide)), if_neg (by first | omega | exact b7 | (rw [b7]; decide)), if_neg (by first | omega | exact b10 | (rw [b10]; decide)), if_pos (by first | omega | exact b11 | (rw [b11]; decide))]; try rfl)
 have b12 := hb
 clear hb
 have n12 := nB b12
 refine wNs hs hI [] 8 [] [(0, .row (.int .i64) (l.drop 1)), (1, vi (d : Int)), (4, .ptr 1000 0), (6, vi (vM l)), (36, vi (kM d (vM l))), (67, vb ((kM d (vM l)) == 5))] [(1000, .var zTr)] fun a w hs => ?_
 refine cond_L (c := 67) hs (b := (kM d (vM l)) == 5) rfl (fun hb => ?_) (fun hb => ?_)
 have b13 := hb
 clear hb
 have n13 := eq_of_beq b13
 refine wN hs hI [] 166187331 [q5 12 ((vM l).tdiv 12), q6 5, ⟨0 ≤ (0 : Int) ∧ (0 : Int) ≤ (((vM l).tdiv 12).tmod 5) ∧ (((vM l).tdiv 12).tmod 5) ≤ ((ba [0, 255, 97, 98]).size : Int), (by (repeat' apply And.intro) <;> (try split) <;> omega)⟩] .ret [(4, .ptr 1000 0), (5, .row (.int .i64) (l.drop 1))] [(1000, .var [vi 5, vb false, vb false, nilv, vi 0, vs ((ba [0, 255, 97, 98]).extract 0 (((vM l).tdiv 12).tmod 5).toNat), nilv, nilv])] fun a w hs => ?_
 refine inb_ret ?_
 refine then_ret ?_
 exact rK (.val (.tup [.agg [vi 5, vb false, vb false, rwU ([]), vi 0, vs ((ba [0, 255, 97, 98]).extract 0 (((vM l).tdiv 12).tmod 5).toNat), rwS ([]), rwT ([])], .row (.int .i64) (l.drop 1)])) [] hs (by rw [madeG, if_neg (by omega), madeV, if_neg (by first | omega | exact b5 | (rw [b5]; decide)), if_neg (by first | omega | exact b7 | (rw [b7]; decide)), if_neg (by first | omega | exact b10 | (rw [b10]; decide)), if_neg (by first | omega | exact b12 | (rw [b12]; decide)), if_pos (by first | omega | exact b13 | (rw [b13]; decide))]; try rfl)
 have b14 := hb
 clear hb
 have n14 := nB b14
 refine wp_cut (N := Tryz.f53.ntmps) (w0 := w0) (ow := noO fz) (T := [(0, .row (.int .i64) (l.drop 1)), (1, vi (d : Int)), (4, .ptr 1000 0), (6, vi (vM l)), (75, vb (isA (kM d (vM l))))]) (B := [(1000, .var zTr)]) (True) ?_ ?_
 rcases bq (kM d (vM l)) (6) with ⟨b15, n15⟩ | ⟨b15, n15⟩
 refine wN hs hI (bz 1 1) 798 [q1 b15] .norm [(0, .row (.int .i64) (l.drop 1)), (1, vi (d : Int)), (4, .ptr 1000 0), (6, vi (vM l)), (75, vb ((kM d (vM l)) == 6))] [(1000, .var zTr)] fun a w hs => ?_
 refine then_norm ⟨trivial, ?_⟩
 (have e0_ : ((kM d (vM l)) == 6) = (isA (kM d (vM l))) := (by first | rfl | (simp only [isA, b5, b7, b10, b12, b14, b15]; rfl)); exact (hs.cst [(0, .row (.int .i64) (l.drop 1)), (1, vi (d : Int)), (4, .ptr 1000 0), (6, vi (vM l)), (75, vb (isA (kM d (vM l))))] [(1000, .var zTr)] (by first | (rw [e0_]; done) | (simp only [e0_]; done) | rfl | (simp only [e0_]; rfl))).rk [(1000, 1000)])
 rcases bq (kM d (vM l)) (7) with ⟨b16, n16⟩ | ⟨b16, n16⟩
 refine wN hs hI (bz 2 2) 790798 [q1 b15, q1 b16] .norm [(0, .row (.int .i64) (l.drop 1)), (1, vi (d : Int)), (4, .ptr 1000 0), (6, vi (vM l)), (75, vb ((kM d (vM l)) == 7))] [(1000, .var zTr)] fun a w hs => ?_
 refine then_norm ⟨trivial, ?_⟩
 (have e0_ : ((kM d (vM l)) == 7) = (isA (kM d (vM l))) := (by first | rfl | (simp only [isA, b5, b7, b10, b12, b14, b15, b16]; rfl)); exact (hs.cst [(0, .row (.int .i64) (l.drop 1)), (1, vi (d : Int)), (4, .ptr 1000 0), (6, vi (vM l)), (75, vb (isA (kM d (vM l))))] [(1000, .var zTr)] (by first | (rw [e0_]; done) | (simp only [e0_]; done) | rfl | (simp only [e0_]; rfl))).rk [(1000, 1000)])
 refine wN hs hI (bz 2 0) 11790798 [q1 b15, q1 b16] .norm [(0, .row (.int .i64) (l.drop 1)), (1, vi (d : Int)), (4, .ptr 1000 0), (6, vi (vM l)), (75, vb ((kM d (vM l)) == 8))] [(1000, .var zTr)] fun a w hs => ?_
 refine then_norm ⟨trivial, ?_⟩
 (have e0_ : ((kM d (vM l)) == 8) = (isA (kM d (vM l))) := (by first | rfl | (simp only [isA, b5, b7, b10, b12, b14, b15, b16]; rfl)); exact (hs.cst [(0, .row (.int .i64) (l.drop 1)), (1, vi (d : Int)), (4, .ptr 1000 0), (6, vi (vM l)), (75, vb (isA (kM d (vM l))))] [(1000, .var zTr)] (by first | (rw [e0_]; done) | (simp only [e0_]; done) | rfl | (simp only [e0_]; rfl))).rk [(1000, 1000)])
 intro hF a w hs
 refine cond_L (c := 75) hs (b := isA (kM d (vM l))) rfl (fun hb => ?_) (fun hb => ?_)
 have b17 := hb
 clear hb
 have hd_ : 0 < d := dM_a hV d (by assumption)
 refine wNs hs hI [] 18 [] [(0, .row (.int .i64) (l.drop 1)), (1, vi (d : Int)), (4, .ptr 1000 0), (6, vi (vM l)), (8, .ptr 24001 0)] [(1000, .var zTr), (24001, .var [vi 6, vb false, vb false, nilv, vi 0, vs (ba []), nilv, nilv])] fun a w hs => ?_
 refine wp_seq ?_
 refine wNs hs hI [] 11 [] [(0, .row (.int .i64) (l.drop 1)), (1, vi (d : Int)), (4, .ptr 1000 0), (6, vi (vM l)), (8, .ptr 24001 0), (9, vi 0)] [(1000, .var zTr), (24001, .var [vi 6, vb false, vb false, nilv, vi 0, vs (ba []), nilv, nilv])] fun a w hs => ?_
 refine wp_block ?_
 refine loop_L (N := Tryz.f53.ntmps) (w0 := w0) (ow := noO fz) (α := Nat) (fun p => [(0, .row (.int .i64) ((itA f p (l.drop 1)).2)), (1, vi (d : Int)), (4, .ptr 1000 0), (6, vi (vM l)), (8, .ptr 90000001 0), (9, vi (p : Int))]) (fun p => [(1000, .var zTr), (90000001, .var [vi 6, vb false, vb false, nilv, vi 0, vs (ba []), nilv, .own 90000002]), (90000002, .sl 28 .tree ((itA f p (l.drop 1)).1))]) (fun p => p ≤ cM (vM l)) (fun p => cM (vM l) - p) 0 ?_ ?_ ?_
 exact Nat.zero_le _
 (have hs := (hs.nilB 10000003 24001 7 28 .tree [vi 6, vb false, vb false, nilv, vi 0, vs (ba []), nilv, nilv] (by kernel_rfl) (by kernel_rfl) (by decide) (by decide) (by kernel_rfl) (by kernel_rfl)).rmT [(0, .row (.int .i64) (l.drop 1)), (1, vi (d : Int)), (4, .ptr 1000 0), (6, vi (vM l)), (8, .ptr 24001 0), (9, vi 0)] [(1000, .var zTr), (24001, .var [vi 6, vb false, vb false, nilv, vi 0, vs (ba []), nilv, .own 10000003]), (10000003, .sl 28 .tree ([]))] [(1000, 1000), (24001, 24001), (10000003, 10000003)] (by kernel_rfl); exact (hs.cst [(0, .row (.int .i64) ((itA f 0 (l.drop 1)).2)), (1, vi (d : Int)), (4, .ptr 1000 0), (6, vi (vM l)), (8, .ptr 24001 0), (9, vi ((0 : Nat) : Int))] [(1000, .var zTr), (24001, .var [vi 6, vb false, vb false, nilv, vi 0, vs (ba []), nilv, .own 10000003]), (10000003, .sl 28 .tree ((itA f 0 (l.drop 1)).1))] rfl).rk [(1000, 1000), (90000001, 24001), (90000002, 10000003)])
 rintro i hJ a w hs
 have hal := itA_len f i (l.drop 1)
 rcases bd ((i : Int) < (((vM l).tdiv 12).tmod 4)) with ⟨b18, n18⟩ | ⟨b18, n18⟩
 refine wL hs hI [(27, rc [(3, ciV 53 [.row (.int .i64) ((itA f i (l.drop 1)).2), vi ((d : Int) - 1)] (.tup [aTr (((f ((itA f i (l.drop 1)).2)).1)), .row (.int .i64) ((f ((itA f i (l.drop 1)).2)).2)]))])] (bz 1 1) 17168296071896618843097261730 [q5 12 ((vM l).tdiv 12), q6 4, q1 b18, q3 ((d : Int) - 1), q7 (((itA f i (l.drop 1)).1).length) 1 120, q3 ((i : Int) + 1)] .norm [(0, .row (.int .i64) ((f ((itA f i (l.drop 1)).2)).2)), (1, vi (d : Int)), (4, .ptr 1000 0), (6, vi (vM l)), (8, .ptr 90000001 0), (9, vi ((i : Int) + 1))] [(1000, .var zTr), (29004, .sl 28 .tree (((itA f i (l.drop 1)).1) ++ ([(Tree.et ((f ((itA f i (l.drop 1)).2)).1))]))), (90000001, .var [vi 6, vb false, vb false, nilv, vi 0, vs (ba []), nilv, .own 29004])] ⟨H (by omega) _, tv⟩ fun a w hs => ?_
 refine then_norm ⟨i + 1, by omega, by omega, ?_⟩
 (have e0_ : ((f ((itA f i (l.drop 1)).2)).2) = ((itA f (i + 1) (l.drop 1)).2) := (by first | rfl | (first | omega | rfl | (simp only [itA, Tree.eta']; done) | (simp only [itA, Tree.eta']; rfl))); have e1_ : ((i : Int) + 1) = ((((i + 1) : Nat) : Int)) := (by first | rfl | (first | omega | rfl | (simp only [itA, Tree.eta']; done) | (simp only [itA, Tree.eta']; rfl))); have e2_ : (((itA f i (l.drop 1)).1) ++ ([(Tree.et ((f ((itA f i (l.drop 1)).2)).1))])) = ((itA f (i + 1) (l.drop 1)).1) := (by first | rfl | (first | omega | rfl | (simp only [itA, Tree.eta']; done) | (simp only [itA, Tree.eta']; rfl))); exact (hs.cst [(0, .row (.int .i64) ((itA f (i + 1) (l.drop 1)).2)), (1, vi (d : Int)), (4, .ptr 1000 0), (6, vi (vM l)), (8, .ptr 90000001 0), (9, vi (((i + 1) : Nat) : Int))] [(1000, .var zTr), (29004, .sl 28 .tree ((itA f (i + 1) (l.drop 1)).1)), (90000001, .var [vi 6, vb false, vb false, nilv, vi 0, vs (ba []), nilv, .own 29004])] (by first | (rw [e0_, e1_, e2_]; done) | (simp only [e0_, e1_, e2_]; done) | rfl | (simp only [e0_, e1_, e2_]; rfl))).rk [(1000, 1000), (90000001, 90000001), (90000002, 29004)])
 refine wN hs hI (bz 1 0) 7261730 [q5 12 ((vM l).tdiv 12), q6 4, q1 b18] (.exit 1) [(0, .row (.int .i64) ((itA f i (l.drop 1)).2)), (4, .ptr 1000 0), (8, .ptr 90000001 0)] [(1000, .var zTr), (90000001, .var [vi 6, vb false, vb false, nilv, vi 0, vs (ba []), nilv, .own 90000002]), (90000002, .sl 28 .tree ((itA f i (l.drop 1)).1))] fun a w hs => ?_
 refine then_exit ?_
 refine inb_hit ?_
 refine then_norm ?_
 refine wN hs hI [] 1608 [] .ret [(4, .ptr 1000 0), (5, .row (.int .i64) ((itA f i (l.drop 1)).2))] [(1000, .var [vi 6, vb false, vb false, nilv, vi 0, vs (ba []), nilv, .own 90000002]), (90000002, .sl 28 .tree ((itA f i (l.drop 1)).1))] fun a w hs => ?_
 refine inb_ret ?_
 refine then_ret ?_
 exact rK (.val (.tup [.agg [vi 6, vb false, vb false, rwU ([]), vi 0, vs (ba []), rwS ([]), rwT ((itA f i (l.drop 1)).1)], .row (.int .i64) ((itA f i (l.drop 1)).2)])) [90000002] hs (by obtain rfl : i = cM (vM l) := (by omega); rw [madeG, if_neg (by omega), madeV, if_neg (by first | omega | exact b5 | (rw [b5]; decide)), if_neg (by first | omega | exact b7 | (rw [b7]; decide)), if_neg (by first | omega | exact b10 | (rw [b10]; decide)), if_neg (by first | omega | exact b12 | (rw [b12]; decide)), if_neg (by first | omega | exact b14 | (rw [b14]; decide)), if_pos (by first | omega | exact b17 | (rw [b17]; decide))]; try rfl)
 have b19 := hb
 clear hb
 have hd_ : 0 < d := dM_o hV d (by omega) (by omega) (by assumption) (by omega) (by omega)
 refine wN hs hI [] 1 [] .norm [(0, .row (.int .i64) (l.drop 1)), (1, vi (d : Int)), (4, .ptr 1000 0), (6, vi (vM l))] [(1000, .var zTr)] fun a w hs => ?_
 refine inb_norm ?_
 refine then_norm ?_
 refine wNs hs hI [] 18 [] [(0, .row (.int .i64) (l.drop 1)), (1, vi (d : Int)), (4, .ptr 1000 0), (6, vi (vM l)), (12, .ptr 32001 0)] [(1000, .var zTr), (32001, .var [vi 7, vb false, vb false, nilv, vi 0, vs (ba []), nilv, nilv])] fun a w hs => ?_
 refine wp_seq ?_
 refine wNs hs hI [] 11 [] [(0, .row (.int .i64) (l.drop 1)), (1, vi (d : Int)), (4, .ptr 1000 0), (6, vi (vM l)), (12, .ptr 32001 0), (13, vi 0)] [(1000, .var zTr), (32001, .var [vi 7, vb false, vb false, nilv, vi 0, vs (ba []), nilv, nilv])] fun a w hs => ?_
 refine wp_block ?_
 refine loop_L (N := Tryz.f53.ntmps) (w0 := w0) (ow := noO fz) (α := Nat) (fun p => [(0, .row (.int .i64) ((itO f (vM l) p (l.drop 1)).2)), (1, vi (d : Int)), (4, .ptr 1000 0), (6, vi (vM l)), (12, .ptr 90000003 0), (13, vi (p : Int))]) (fun p => [(1000, .var zTr), (90000003, bTr (((itO f (vM l) p (l.drop 1)).1)))]) (fun p => p ≤ cM (vM l)) (fun p => cM (vM l) - p) 0 ?_ ?_ ?_
 exact Nat.zero_le _
 (have hs := (((hs.rowB 32001 3 (.int .u32) [vi 7, vb false, vb false, nilv, vi 0, vs (ba []), nilv, nilv] (by kernel_rfl) (by kernel_rfl)).rowB 32001 6 .str [vi 7, vb false, vb false, rwU ([]), vi 0, vs (ba []), nilv, nilv] (by kernel_rfl) (by kernel_rfl)).rowB 32001 7 .tree [vi 7, vb false, vb false, rwU ([]), vi 0, vs (ba []), rwS ([]), nilv] (by kernel_rfl) (by kernel_rfl)).rmT [(0, .row (.int .i64) (l.drop 1)), (1, vi (d : Int)), (4, .ptr 1000 0), (6, vi (vM l)), (12, .ptr 32001 0), (13, vi 0)] [(1000, .var zTr), (32001, .var [vi 7, vb false, vb false, rwU ([]), vi 0, vs (ba []), rwS ([]), rwT ([])])] [(1000, 1000), (32001, 32001)] (by kernel_rfl); exact (hs.cst [(0, .row (.int .i64) ((itO f (vM l) 0 (l.drop 1)).2)), (1, vi (d : Int)), (4, .ptr 1000 0), (6, vi (vM l)), (12, .ptr 32001 0), (13, vi ((0 : Nat) : Int))] [(1000, .var zTr), (32001, bTr (((itO f (vM l) 0 (l.drop 1)).1)))] rfl).rk [(1000, 1000), (90000003, 32001)])
 rintro i hJ a w hs
 have hn_ := nm8 hV i
 rcases bd ((i : Int) < (((vM l).tdiv 12).tmod 4)) with ⟨b20, n20⟩ | ⟨b20, n20⟩
 refine wL hs hI [(35, rc [(3, ciV 53 [.row (.int .i64) ((itO f (vM l) i (l.drop 1)).2), vi ((d : Int) - 1)] (.tup [aTr (((f ((itO f (vM l) i (l.drop 1)).2)).1)), .row (.int .i64) ((f ((itO f (vM l) i (l.drop 1)).2)).2)]))]), (36, rc [(1, ciV 23 [] (rwS names8)), (11, ciV 25 [aTr (((itO f (vM l) i (l.drop 1)).1)), vs (names8.getD (((((vM l).tdiv 48) + (3 * (i : Int))).tmod 8).toNat) (dflt .str)), aTr (((f ((itO f (vM l) i (l.drop 1)).2)).1))] (aTr ((setT ((itO f (vM l) i (l.drop 1)).1) (names8.getD (((((vM l).tdiv 48) + (3 * (i : Int))).tmod 8).toNat) (dflt .str)) ((f ((itO f (vM l) i (l.drop 1)).2)).1)))))])] (bz 1 1) 1716826660417333714196618843097261730 [q5 12 ((vM l).tdiv 12), q6 4, q1 b20, q3 ((d : Int) - 1), q5 48 ((vM l).tdiv 48), q3 (3 * (i : Int)), q3 (((vM l).tdiv 48) + (3 * (i : Int))), q6 8, q4 ((((vM l).tdiv 48) + (3 * (i : Int))).tmod 8) names8.length, q3 ((i : Int) + 1)] .norm [(0, .row (.int .i64) ((f ((itO f (vM l) i (l.drop 1)).2)).2)), (1, vi (d : Int)), (4, .ptr 1000 0), (6, vi (vM l)), (12, .ptr 90000003 0), (13, vi ((i : Int) + 1))] [(1000, .var zTr), (90000003, bTr ((setT ((itO f (vM l) i (l.drop 1)).1) (names8.getD (((((vM l).tdiv 48) + (3 * (i : Int))).tmod 8).toNat) (dflt .str)) ((f ((itO f (vM l) i (l.drop 1)).2)).1))))] ⟨H (by omega) _, con111.frz, con22 _ _ _ (by have := itO_len f (vM l) i (l.drop 1); omega), tv⟩ fun a w hs => ?_
 refine then_norm ⟨i + 1, by omega, by omega, ?_⟩
 (have e0_ : ((f ((itO f (vM l) i (l.drop 1)).2)).2) = ((itO f (vM l) (i + 1) (l.drop 1)).2) := (by first | rfl | (first | omega | rfl | (simp only [itO, Tree.eta']; done) | (simp only [itO, Tree.eta']; rfl))); have e1_ : ((i : Int) + 1) = ((((i + 1) : Nat) : Int)) := (by first | rfl | (first | omega | rfl | (simp only [itO, Tree.eta']; done) | (simp only [itO, Tree.eta']; rfl))); have e2_ : ((setT ((itO f (vM l) i (l.drop 1)).1) (names8.getD (((((vM l).tdiv 48) + (3 * (i : Int))).tmod 8).toNat) (dflt .str)) ((f ((itO f (vM l) i (l.drop 1)).2)).1))) = (((itO f (vM l) (i + 1) (l.drop 1)).1)) := (by first | rfl | (first | omega | rfl | (simp only [itO, Tree.eta']; done) | (simp only [itO, Tree.eta']; rfl))); exact (hs.cst [(0, .row (.int .i64) ((itO f (vM l) (i + 1) (l.drop 1)).2)), (1, vi (d : Int)), (4, .ptr 1000 0), (6, vi (vM l)), (12, .ptr 90000003 0), (13, vi (((i + 1) : Nat) : Int))] [(1000, .var zTr), (90000003, bTr (((itO f (vM l) (i + 1) (l.drop 1)).1)))] (by first | (rw [e0_, e1_, e2_]; done) | (simp only [e0_, e1_, e2_]; done) | rfl | (simp only [e0_, e1_, e2_]; rfl))).rk [(1000, 1000), (90000003, 90000003)])
 refine wN hs hI (bz 1 0) 7261730 [q5 12 ((vM l).tdiv 12), q6 4, q1 b20] (.exit 3) [(0, .row (.int .i64) ((itO f (vM l) i (l.drop 1)).2)), (4, .ptr 1000 0), (12, .ptr 90000003 0)] [(1000, .var zTr), (90000003, bTr (((itO f (vM l) i (l.drop 1)).1)))] fun a w hs => ?_
 refine then_exit ?_
 refine inb_hit ?_
 refine then_norm ?_
 refine wN hs hI [] 1608 [] .ret [(4, .ptr 1000 0), (5, .row (.int .i64) ((itO f (vM l) i (l.drop 1)).2))] [(1000, bTr (((itO f (vM l) i (l.drop 1)).1)))] fun a w hs => ?_
 exact rK (.val (.tup [aTr (((itO f (vM l) i (l.drop 1)).1)), .row (.int .i64) ((itO f (vM l) i (l.drop 1)).2)])) [] hs (by obtain rfl : i = cM (vM l) := (by omega); rw [madeG, if_neg (by omega), madeV, if_neg (by first | omega | exact b5 | (rw [b5]; decide)), if_neg (by first | omega | exact b7 | (rw [b7]; decide)), if_neg (by first | omega | exact b10 | (rw [b10]; decide)), if_neg (by first | omega | exact b12 | (rw [b12]; decide)), if_neg (by first | omega | exact b14 | (rw [b14]; decide)), if_neg (by first | omega | exact b19 | (rw [b19]; decide))]; try rfl)
theorem con54 : ∀ (d : Nat) (hd : d < 1000) (l : List Int), Con Tryz.prog I0 53 [.row (.int .i64) l, vi (d : Int)] (.val (.tup [.agg [vi (((madeF d l).1).kind), vb (((madeF d l).1).b), vb (((madeF d l).1).n.neg), .row (.int .u32) (((madeF d l).1).n.m), vi (((madeF d l).1).n.e), vs (((madeF d l).1).s), .row .str (((madeF d l).1).k), .row .tree (((madeF d l).1).v)], .row (.int .i64) (madeF d l).2]))
 | 0, hd, l => con54_ (fun _ => (nul, [])) 0 hd (fun h => absurd h (Nat.lt_irrefl _)) l
 | d + 1, hd, l => con54_ (madeF d) (d + 1) hd (fun _ l => by rw [show (((d + 1 : Nat) : Int) - 1) = (d : Int) by omega]; exact con54 d (by omega) l) l
theorem con27 (t : Tree) (q : List ByteArray) (hn : nodes t < 4611686018427387904) (hp : q.length < 4611686018427387904) : Con Tryz.prog I0 129 [.agg (encTree t), .row .str q] (.val (.tup [.agg (encTree ((getF q t).1)), vb ((getF q t).2)])) := by
 refine con_of Tryz.func129 rfl (Nat.le_of_ble_eq_true rfl) stab (fun w0 fz a hI hs => ?_)
 refine wNs hs hI [] 18 [] [(1, rwS q), (2, .ptr 1000 0), (4, .ptr 1001 0)] [(1000, bTr (t)), (1001, .var zTr)] fun a w hs => ?_
 refine wp_seq ?_
 refine wNs hs hI [] 11 [] [(1, rwS q), (2, .ptr 1000 0), (4, .ptr 1001 0), (6, vi 0)] [(1000, bTr (t)), (1001, .var zTr)] fun a w hs => ?_
 refine wp_block ?_
 refine loop_L (N := Tryz.f129.ntmps) (w0 := w0) (ow := noO fz) (α := Nat × Tree) (fun p => [(1, rwS q), (2, .ptr 90000003 0), (4, .ptr 1001 0), (6, vi ((p.1 : Nat) : Int))]) (fun p => [(1001, .var zTr), (90000003, bTr (p.2))]) (fun p => p.1 ≤ q.length ∧ getF (q.drop p.1) p.2 = getF q t ∧ nodes p.2 ≤ nodes t) (fun p => q.length - p.1) (0, t) ?_ ?_ ?_
 exact ⟨Nat.zero_le _, rfl, Nat.le_refl _⟩
 exact hs.rk [(1001, 1001), (90000003, 1000)]
 rintro ⟨i, u⟩ hJ a w hs
 try dsimp only at hJ
 obtain ⟨hi, hg, hu⟩ := hJ
 rcases bd ((i : Int) < (q.length : Int)) with ⟨b1, n1⟩ | ⟨b1, n1⟩
 rcases bt (memB u (q.getD i (dflt .str))) with b2 | b2
 refine wL hs hI [(4, rc [(5, ciV 24 [aTr (u), vs (q.getD i (dflt .str))] (.tup [aTr ((memV u (q.getD i (dflt .str)))), vb (memB u (q.getD i (dflt .str)))]))])] (bz 2 1) 17168979866618847897608 [q1 b1, q4 (i : Int) q.length, q1 (ng1 b2), q3 ((i : Int) + 1)] .norm [(1, rwS q), (2, .ptr 90000003 0), (4, .ptr 1001 0), (6, vi ((i : Int) + 1))] [(1001, .var zTr), (90000003, bTr ((memV u (q.getD i (dflt .str)))))] ⟨con69 _ _ (by have h1 := nodes_eq u; have h2 := nodesL_len u.v; omega), tv⟩ fun a w hs => ?_
 refine then_norm ⟨(i + 1, memV u (q.getD i (dflt .str))), ⟨by omega, by rw [← getF_yes (by omega) b2]; exact hg, Nat.le_trans (memV_nodes b2) hu⟩, by omega, ?_⟩
 exact hs.rk [(1001, 1001), (90000003, 90000003)]
 refine wL hs hI [(4, rc [(5, ciV 24 [aTr (u), vs (q.getD i (dflt .str))] (.tup [aTr ((memV u (q.getD i (dflt .str)))), vb (memB u (q.getD i (dflt .str)))]))])] (bz 2 3) 129879866618847897608 [q1 b1, q4 (i : Int) q.length, q1 (ng0 b2)] .ret [(4, .ptr 1001 0), (5, vb false)] [(1001, .var zTr)] ⟨con69 _ _ (by have h1 := nodes_eq u; have h2 := nodesL_len u.v; omega), tv⟩ fun a w hs => ?_
 refine then_ret ?_
 refine inb_ret ?_
 refine then_ret ?_
 exact rK (.val (.tup [.agg [vi 0, vb false, vb false, rwU ([]), vi 0, vs (ba []), rwS ([]), rwT ([])], vb false])) [] hs (by rw [← hg, getF_no (by omega) b2]; rfl)
 refine wN hs hI (bz 1 0) 7608 [q1 b1] (.exit 0) [(2, .ptr 90000003 0), (4, .ptr 1001 0)] [(1001, .var zTr), (90000003, bTr (u))] fun a w hs => ?_
 refine then_exit ?_
 refine inb_hit ?_
 refine then_norm ?_
 refine wN hs hI [] 12918 [] .ret [(4, .ptr 1001 0), (5, vb true)] [(1001, bTr (u))] fun a w hs => ?_
 exact rK (.val (.tup [aTr (u), vb true])) [] hs (by rw [← hg, List.drop_of_length_le (by omega)]; rfl)
theorem starts_len {a b : List ByteArray} (h : b.length < a.length) : startsF a b = false := by
 unfold startsF; rw [decide_eq_false (by omega)]; rfl
theorem starts_no {a b : List ByteArray} {i : Nat} (h1 : i < a.length) (h2 : i < b.length) (h : eqT (a.getD i (dflt .str)) (b.getD i (dflt .str)) = false) : startsF a b = false := by
 unfold startsF
 rw [Bool.and_eq_false_iff]
 refine .inr (decide_eq_false (fun e => ?_))
 rw [eqT_ne] at h
 apply h
 rw [e, List.getD_eq_getElem?_getD, List.getD_eq_getElem?_getD, List.getElem?_take, if_pos h1]
theorem starts_yes {a b : List ByteArray} (h1 : a.length ≤ b.length) (h : ∀ j, j < a.length → eqT (a.getD j (dflt .str)) (b.getD j (dflt .str)) = true) : startsF a b = true := by
 unfold startsF
 rw [decide_eq_true (by omega), Bool.true_and]
 refine decide_eq_true (list_eq (by rw [List.length_take]; omega) (fun j hj d => ?_))
 have := eqT_iff.1 (h j hj)
 rw [getD_any hj d (dflt .str), this, List.getD_eq_getElem?_getD, List.getD_eq_getElem?_getD, List.getElem?_take, if_pos hj, List.getElem?_eq_getElem (by omega)]; rfl
theorem memB_zero (x : ByteArray) : memB Tree.zero x = false := by
 rw [memB_look]; rfl
theorem getF_zero : ∀ (q : List ByteArray), (getF q Tree.zero).1 = Tree.zero
 | [] => rfl
 | x :: q => by simp only [getF]; rw [if_neg (by rw [memB_zero]; decide)]
theorem getF_cons (x : ByteArray) (q : List ByteArray) (t : Tree) : getF (x :: q) t = if memB t x = true then getF q (memV t x) else (Tree.zero, false) := rfl
theorem getF_miss {q : List ByteArray} {t : Tree} (h : (getF q t).2 = false) : getF q t = (Tree.zero, false) := by
 induction q generalizing t with
 | nil => simp [getF] at h
 | cons x q ih =>
  rw [getF_cons] at h ⊢
  split
  rename_i hb
  rw [if_pos hb] at h
  exact ih h
  rfl
theorem memB_set (t : Tree) (x y : ByteArray) (v : Tree) : memB (setT t x v) y = if eqT y x = true then true else memB t y := by
 rw [memB_look, look_setT, memB_look]; split <;> rfl
theorem memV_set (t : Tree) (x y : ByteArray) (v : Tree) : memV (setT t x v) y = if eqT y x = true then v else memV t y := by
 rw [memV_look, look_setT, memV_look]; split <;> rfl
theorem memB_unset_ne {t : Tree} {x y : ByteArray} (h : eqT y x = false) : memB (unsetT t x) y = memB t y := by rw [memB_look, look_unsetT_ne h, memB_look]
theorem memV_unset_ne {t : Tree} {x y : ByteArray} (h : eqT y x = false) : memV (unsetT t x) y = memV t y := by rw [memV_look, look_unsetT_ne h, memV_look]
inductive Inc : List ByteArray → List ByteArray → Prop
 | ne (x y : ByteArray) (p q : List ByteArray) (h : eqT y x = false) : Inc (x :: p) (y :: q)
 | eq (x : ByteArray) (p q : List ByteArray) (h : Inc p q) : Inc (x :: p) (x :: q)
theorem Inc.symm {p q : List ByteArray} (h : Inc p q) : Inc q p := by
 induction h with
 | ne x y p q h => exact .ne y x q p (by rw [eqT_comm]; exact h)
 | eq x p q _ ih => exact .eq x q p ih
theorem get_set_inc {p q : List ByteArray} (h : Inc p q) : ∀ (t v : Tree), getF q (setP p t v) = getF q t := by
 induction h with
 | ne x y p q h =>
  intro t v
  rw [setP, getF_cons, getF_cons, memB_set, memV_set, h]; rfl
 | eq x p q hi ih =>
  intro t v
  rw [setP, getF_cons, getF_cons, memB_set, memV_set, eqT_self]
  simp only [if_true]
  rw [ih]
  cases hb : memB t x with
  | true => simp
  | false =>
   rw [memV_zero hb]
   cases hi with
   | ne a b _ _ _ => simp [getF_cons, memB_zero]
   | eq a _ _ _ => simp [getF_cons, memB_zero]
theorem get_unset_inc {p q : List ByteArray} (h : Inc p q) : ∀ (t : Tree), getF q (unsetP p t) = getF q t := by
 induction h with
 | ne x y p q h =>
  intro t
  cases p with
  | nil => rw [unsetP, getF_cons, getF_cons, memB_unset_ne h, memV_unset_ne h]
  | cons m p =>
   rw [unsetP]
   split
   rw [getF_cons, getF_cons, memB_set, memV_set, h]; rfl
   rfl
 | eq x p q hi ih =>
  intro t
  cases p with
  | nil => cases hi
  | cons m p =>
   rw [unsetP]
   split
   rename_i hb
   rw [getF_cons, getF_cons, memB_set, memV_set, eqT_self, hb]
   simp only [if_true]
   exact ih _
   rfl
theorem get_set : ∀ (p : List ByteArray) (t v : Tree), getF p (setP p t v) = (v, true)
 | [], t, v => rfl
 | x :: p, t, v => by
  rw [setP, getF_cons, memB_set, memV_set, eqT_self]
  exact get_set p _ v
def ND (t : Tree) : Prop := ∀ q, Nodup (mems (getF q t).1)
theorem nd_zero : ND Tree.zero := fun q => by rw [getF_zero]; exact List.nodup_nil
theorem nd_memV {t : Tree} (h : ND t) (x : ByteArray) : ND (memV t x) := by
 cases hb : memB t x with
 | true => intro q; have := h (x :: q); rw [getF_cons, if_pos hb] at this; exact this
 | false => rw [memV_zero hb]; exact nd_zero
theorem nd_get {v : Tree} (h : ND v) : ∀ (p : List ByteArray), ND (getF p v).1
 | [] => h
 | x :: p => by
  rw [getF_cons]
  split
  exact nd_get (nd_memV h x) p
  exact nd_zero
theorem keys_put {x : ByteArray} {v : Tree} : ∀ {l : Mem}, x ∉ l.map (·.1) → Nodup l → Nodup (putA x v l)
 | [], _, _ => by simp [putA, Nodup]
 | (y, u) :: l, hx, h => by
  have h' := h
  unfold Nodup at h
  simp only [List.map_cons, List.mem_cons, not_or] at hx
  simp only [List.map_cons, List.nodup_cons] at h
  simp only [putA]
  split
  unfold Nodup
  simp only [List.map_cons, List.nodup_cons, List.mem_cons, not_or]
  exact ⟨hx, h⟩
  unfold Nodup
  simp only [List.map_cons, List.nodup_cons]
  refine ⟨fun hm => ?_, keys_put hx.2 h.2⟩
  have : ∀ l : Mem, y ∈ (putA x v l).map (·.1) → y = x ∨ y ∈ l.map (·.1) := by
   intro l
   induction l with
   | nil => simp [putA]
   | cons p l ih =>
    obtain ⟨z, w⟩ := p
    simp only [putA]
    split
    simp
    simp only [List.map_cons, List.mem_cons]
    rintro (h | h)
    exact .inr (.inl h)
    rcases ih h with h | h
    exact .inl h
    exact .inr (.inr h)
  rcases this l hm with h2 | h2
  exact hx.1 h2.symm
  exact h.1 h2
theorem keys_rep (x : ByteArray) (v : Tree) : ∀ l : Mem, (repA x v l).map (·.1) = l.map (·.1)
 | [] => rfl
 | (y, u) :: l => by
  simp only [repA]
  split
  rfl
  simp [keys_rep x v l]
theorem look_in {x : ByteArray} : ∀ {l : Mem}, x ∈ l.map (·.1) → (lookA x l).isSome = true
 | [], h => by simp at h
 | (y, u) :: l, h => by
  simp only [lookA]
  split
  rfl
  rename_i hne
  simp only [List.map_cons, List.mem_cons] at h
  rcases h with h | h
  exact absurd (eqT_iff.2 h) hne
  exact look_in h
theorem nodup_ins {x : ByteArray} {v : Tree} {l : Mem} (h : Nodup l) : Nodup (insA x v l) := by
 unfold insA
 split
 unfold Nodup; rw [keys_rep]; exact h
 rename_i hn
 exact keys_put (fun hm => hn (look_in hm)) h
theorem del_sub (x : ByteArray) : ∀ l : Mem, (delA x l).Sublist l
 | [] => List.Sublist.refl _
 | (y, u) :: l => by
  simp only [delA]
  split
  exact List.sublist_cons_self _ _
  exact (del_sub x l).cons_cons _
theorem nd_set {t u : Tree} (h : ND t) (hu : ND u) (x : ByteArray) : ND (setT t x u) := by
 intro q
 cases q with
 | nil => show Nodup (mems (setT t x u)); unfold setT; rw [mems_objM]; exact nodup_ins (h [])
 | cons y q =>
  rw [getF_cons, memB_set, memV_set]
  by_cases he : eqT y x = true
  simp only [he, if_true]; exact hu q
  simp only [he]
  have := h (y :: q)
  rw [getF_cons] at this
  simpa using this
theorem nd_unset {t : Tree} (h : ND t) (x : ByteArray) : ND (unsetT t x) := by
 intro q
 cases q with
 | nil =>
  show Nodup (mems (unsetT t x))
  unfold unsetT
  split
  ·rw [mems_objM]; exact List.Nodup.sublist ((del_sub x _).map _) (h [])
  ·exact h []
 | cons y q =>
  rw [getF_cons]
  by_cases he : eqT y x = true
  ·rw [eqT_iff] at he
   subst he
   rw [memB_look, look_unsetT_self (t := t) (h [])]
   exact List.nodup_nil
  ·have he' : eqT y x = false := by simpa using he
   rw [memB_unset_ne he', memV_unset_ne he']
   have := h (y :: q)
   rwa [getF_cons] at this
theorem nd_setP {v : Tree} (hv : ND v) : ∀ (p : List ByteArray) {t : Tree}, ND t → ND (setP p t v)
 | [], t, h => hv
 | x :: p, t, h => nd_set h (nd_setP hv p (nd_memV h x)) x
theorem nd_unsetP : ∀ (p : List ByteArray) {t : Tree}, ND t → ND (unsetP p t)
 | [], t, h => h
 | [x], t, h => nd_unset h x
 | x :: m :: p, t, h => by
  rw [unsetP]
  split
  exact nd_set h (nd_unsetP (m :: p) (nd_memV h x)) x
  exact h
theorem get_unset : ∀ {p : List ByteArray} {t : Tree}, ND t → p ≠ [] → getF p (unsetP p t) = (Tree.zero, false)
 | [], t, _, h => absurd rfl h
 | [x], t, h, _ => by
  rw [unsetP, getF_cons, memB_look, look_unsetT_self (t := t) (h [])]; rfl
 | x :: m :: p, t, h, _ => by
  rw [unsetP]
  split
  rename_i hb
  rw [getF_cons, memB_set, memV_set, eqT_self]
  exact get_unset (nd_memV h x) (by simp)
  rename_i hb
  rw [getF_cons, if_neg hb]
theorem nd_step {v t : Tree} (hv : ND v) (ht : ND t) (p : List ByteArray) : ND (apStep v t p) := by
 unfold apStep
 split
 exact nd_setP (nd_get hv p) p ht
 exact nd_unsetP p ht
theorem step_inc {p q : List ByteArray} (h : Inc p q) (v t : Tree) : getF q (apStep v t p) = getF q t := by
 unfold apStep
 split
 exact get_set_inc h _ _
 exact get_unset_inc h _
theorem step_self {p : List ByteArray} (h : p ≠ []) {v t : Tree} (ht : ND t) : getF p (apStep v t p) = getF p v := by
 unfold apStep
 split
 rename_i hb
 rw [get_set]
 exact Prod.ext rfl hb.symm
 rename_i hb
 rw [get_unset ht h, getF_miss (by simpa using hb)]
theorem all_inc {q : List ByteArray} {v : Tree} : ∀ (s : List (List ByteArray)) (t : Tree), (∀ p ∈ s, Inc p q) → getF q (apAll t s v) = getF q t
 | [], t, _ => rfl
 | p :: s, t, h => by
  show getF q (apAll (apStep v t p) s v) = _
  rw [all_inc s _ (fun p hp => h p (by simp [hp])), step_inc (h p (by simp))]
theorem all_get {v : Tree} (hv : ND v) : ∀ (s : List (List ByteArray)) (t : Tree), ND t → s.Pairwise Inc → (∀ p ∈ s, p ≠ []) → ∀ p ∈ s, getF p (apAll t s v) = getF p v
 | [], t, _, _, _, p, h => by simp at h
 | q :: s, t, ht, hp, hn, p, h => by
  rw [List.pairwise_cons] at hp
  show getF p (apAll (apStep v t q) s v) = _
  rcases List.mem_cons.1 h with rfl | h
  rw [all_inc s _ (fun p' hp' => (hp.1 p' hp').symm), step_self (hn _ (by simp)) ht]
  exact all_get hv s _ (nd_step hv ht q) hp.2 (fun p hp => hn p (by simp [hp])) p h
theorem starts_iff {a b : List ByteArray} : startsF a b = true ↔ a <+: b := by
 unfold startsF
 rw [Bool.and_eq_true, decide_eq_true_iff, decide_eq_true_iff, List.prefix_iff_eq_take]
 exact ⟨fun h => h.2, fun h => ⟨by have := congrArg List.length h; rw [List.length_take] at this; omega, h⟩⟩
theorem starts_nil (b : List ByteArray) : startsF [] b = true := starts_iff.2 (List.nil_prefix)
theorem starts_self (b : List ByteArray) : startsF b b = true := starts_iff.2 (List.prefix_refl _)
theorem starts_cons {x y : ByteArray} {p q : List ByteArray} : startsF (x :: p) (y :: q) = true ↔ x = y ∧ startsF p q = true := by
 rw [starts_iff, starts_iff, List.cons_prefix_cons]
theorem inc_of : ∀ {p q : List ByteArray}, startsF p q = false → startsF q p = false → Inc p q
 | [], q, h, _ => by rw [starts_nil] at h; cases h
 | _ :: _, [], _, h => by rw [starts_nil] at h; cases h
 | x :: p, y :: q, h1, h2 => by
  cases he : eqT y x with
  | false => exact .ne x y p q he
  | true =>
   rw [eqT_iff] at he
   subst he
   refine .eq _ p q (inc_of ?_ ?_)
   cases h : startsF p q with
   | false => rfl
   | true => rw [starts_cons.2 ⟨rfl, h⟩] at h1; cases h1
   cases h : startsF q p with
   | false => rfl
   | true => rw [starts_cons.2 ⟨rfl, h⟩] at h2; cases h2
theorem Inc.no {p q : List ByteArray} (h : Inc p q) : startsF p q = false := by
 induction h with
 | ne x y p q h =>
  cases hs : startsF (x :: p) (y :: q) with
  | false => rfl
  | true =>
   have := (starts_cons.1 hs).1
   subst this
   rw [eqT_self] at h; cases h
 | eq x p q _ ih =>
  cases hs : startsF (x :: p) (x :: q) with
  | false => rfl
  | true => rw [(starts_cons.1 hs).2] at ih; cases ih
abbrev Le (a b : List ByteArray) : Prop := ¬ cmpS b a < 0
theorem Le.trans {a b c : List ByteArray} (h1 : Le a b) (h2 : Le b c) : Le a c := cmpS_le_trans h2 h1
theorem Le.refl (a : List ByteArray) : Le a a := by unfold Le; rw [cmpS_self]; decide
theorem pre_between : ∀ {x y z : List ByteArray}, startsF x z = true → Le x y → Le y z → startsF x y = true
 | [], y, z, _, _, _ => starts_nil y
 | a :: x, y, [], h, _, _ => by
  have := starts_iff.1 h
  simp at this
 | a :: x, [], b :: z, h, h1, _ => absurd (by simp [cmpS]) h1
 | a :: x, c :: y, b :: z, h, h1, h2 => by
  obtain ⟨rfl, h0⟩ := starts_cons.1 h
  unfold Le at h1 h2
  rw [cmpS] at h1 h2
  rcases ltB_tri a c with h3 | rfl | h3
  rw [cmpB_of_lt h3, if_neg (by decide)] at h2; exact absurd (by decide) h2
  rw [cmpB_self, if_pos rfl] at h1 h2
  exact starts_cons.2 ⟨rfl, pre_between h0 h1 h2⟩
  rw [cmpB_of_lt h3, if_neg (by decide)] at h1; exact absurd (by decide) h1
theorem pre_le : ∀ {x y : List ByteArray}, startsF x y = true → Le x y
 | [], [], _ => Le.refl _
 | [], _ :: _, _ => by unfold Le; simp [cmpS]
 | _ :: _, [], h => by have := starts_iff.1 h; simp at this
 | a :: x, b :: y, h => by
  obtain ⟨rfl, h0⟩ := starts_cons.1 h
  unfold Le
  rw [cmpS, cmpB_self, if_pos rfl]
  exact pre_le h0
theorem step_nil (p : List ByteArray) : normStep [] p = [p] := rfl
theorem step_snoc (i : List (List ByteArray)) (o p : List ByteArray) : normStep (i ++ [o]) p = if startsF o p = true then i ++ [o] else i ++ [o] ++ [p] := by
 have e : (i ++ [o]).getD (((i ++ [o]).length : Int) - 1).toNat (dflt .strs) = o := by
  rw [show (((i ++ [o]).length : Int) - 1).toNat = i.length by simp]
  simp [List.getD]
 unfold normStep
 rw [e, if_pos (by rw [decide_eq_true_iff]; simp)]
theorem fold_inc : ∀ (s i : List (List ByteArray)) (o : List ByteArray), (i ++ [o]).Pairwise Inc → (∀ x ∈ i, Le x o) → (∀ p ∈ s, Le o p) → s.Pairwise Le → (s.foldl normStep (i ++ [o])).Pairwise Inc
 | [], i, o, h, _, _, _ => h
 | p :: s, i, o, h, hi, ho, hs => by
  rw [List.pairwise_cons] at hs
  rw [List.foldl_cons, step_snoc]
  have hop := ho p (by simp)
  split
  exact fold_inc s i o h hi (fun q hq => ho q (by simp [hq])) hs.2
  rename_i hn
  have hn' : startsF o p = false := by simpa using hn
  have hle : ∀ x ∈ i ++ [o], Le x p := fun x hx => by
   rcases List.mem_append.1 hx with hx | hx
   exact (hi x hx).trans hop
   simp at hx; subst hx; exact hop
  refine fold_inc s (i ++ [o]) p ?_ hle hs.1 hs.2
  rw [List.pairwise_append]
  refine ⟨h, List.pairwise_singleton _ _, fun x hx y hy => ?_⟩
  simp at hy
  subst hy
  have h1 : startsF x y = false := by
   cases hxp : startsF x y with
   | false => rfl
   | true =>
    exfalso
    rcases List.mem_append.1 hx with hx | hx
    have h2 := pre_between hxp (hi x hx) hop
    rw [List.pairwise_append] at h
    rw [(h.2.2 x hx o (by simp)).no] at h2; cases h2
    simp at hx; subst hx
    rw [hxp] at hn'; cases hn'
  refine inc_of h1 ?_
  cases h2 : startsF y x with
  | false => rfl
  | true =>
   have := cmpS_anti (xs := y) (ys := x) (hle x hx) (pre_le h2)
   subst this
   rw [starts_self] at h1; cases h1
theorem sortP_le (l : List (List ByteArray)) : (sortP l).Pairwise Le := by
 have h := List.pairwise_mergeSort (le := fun x y : List ByteArray => !decide (cmpS y x < 0)) (fun a b c h1 h2 => by
  simp only [Bool.not_eq_true', decide_eq_false_iff_not] at *; exact cmpS_le_trans h2 h1) (fun a b => by
  by_cases h : cmpS b a < 0
  ·have h2 : ¬ cmpS a b < 0 := fun h3 => by have := cmpS_trans h h3; rw [cmpS_self] at this; exact absurd this (by decide)
   simp [h2]
  ·simp [h]) l
 exact h.imp (fun h => by unfold Le; simpa using h)
theorem normF_inc (l : List (List ByteArray)) : (normF l).Pairwise Inc := by
 unfold normF
 have h := sortP_le l
 cases hs : sortP l with
 | nil => exact List.Pairwise.nil
 | cons p s =>
  rw [hs, List.pairwise_cons] at h
  rw [List.foldl_cons, step_nil]
  exact fold_inc s [] p (List.pairwise_singleton _ _) (fun x hx => by simp at hx) h.1 h.2
end Go.Proofs.YtfimffgfnhplkaaGreatDoor.F
