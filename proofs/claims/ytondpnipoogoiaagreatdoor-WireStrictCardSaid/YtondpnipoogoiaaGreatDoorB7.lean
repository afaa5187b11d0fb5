import Derived.Test.YtondpnipoogoiaaGreatDoorB5
import Derived.Test.YtondpnipoogoiaaGreatDoorB6
set_option maxRecDepth 100000
set_option linter.unusedVariables false
set_option linter.unusedSimpArgs false
namespace Go.Proofs.YtondpnipoogoiaaGreatDoor.F
open Go Go.RowKit Go.Proofs.Tryz
theorem eqT_comm (a b : ByteArray) : eqT a b = eqT b a := by
 cases h : eqT a b with
 | true => rw [eqT_iff] at h; subst h; exact (eqT_self a).symm
 | false => rw [eqT_ne] at h; exact (eqT_ne.2 (Ne.symm h)).symm
theorem cut_length {t : Tree} (hk : t.kind = 7) : (cutK t).length = min t.k.length t.v.length := by
 unfold cutK; rw [if_pos hk, List.length_take]; omega
theorem cutK_at {t : Tree} (hk : t.kind = 7) {i : Nat} (h1 : i < t.k.length) (h2 : i < t.v.length) (d : ByteArray) : (cutK t).getD i d = t.k.getD i d := by
 unfold cutK; rw [if_pos hk, List.getD_eq_getElem?_getD, List.getElem?_take, if_pos (by omega), ← List.getD_eq_getElem?_getD]
theorem cutV_at {t : Tree} (hk : t.kind = 7) {i : Nat} (h1 : i < t.k.length) (h2 : i < t.v.length) (d : Tree) : (cutV t).getD i d = t.v.getD i d := by
 unfold cutV; rw [if_pos hk, List.getD_eq_getElem?_getD, List.getElem?_take, if_pos (by omega), ← List.getD_eq_getElem?_getD]
theorem mem_found {t : Tree} {x : ByteArray} {i : Nat} (hk : t.kind = 7) (h1 : i < t.k.length) (h2 : i < t.v.length) (hall : ∀ j, j < i → eqT (t.k.getD j (dflt .str)) x = false) (he : eqT (t.k.getD i (dflt .str)) x = true) : memV t x = t.v.getD i (dflt .tree) ∧ memB t x = true := by
 have hl := cut_length hk
 have h := idxT_at (x := x) (l := cutK t) (i := i) (dflt .str) (by omega) (by rw [cutK_at hk h1 h2, eqT_comm]; exact he) (fun j hj d => by rw [getD_any' (by omega) d (dflt .str), cutK_at hk (by omega) (by omega), eqT_comm]; exact hall j hj)
 have hp := memV_pos (t := t) (x := x) (by rw [h]; omega)
 rw [h, Int.toNat_natCast, cutV_at hk h1 h2] at hp
 exact hp
theorem mem_none {t : Tree} {x : ByteArray} {i : Nat} (h : ¬ (t.kind = 7) ∨ (min t.k.length t.v.length ≤ i ∧ ∀ j, j < i → eqT (t.k.getD j (dflt .str)) x = false)) : memV t x = Tree.zero ∧ memB t x = false := by
 refine memV_neg ?_
 rw [idxT_no]
 ·decide
 ·intro j hj d
  by_cases hk : t.kind = 7
  ·rcases h with h | ⟨h, hall⟩
   ·exact absurd hk h
   ·have hl := cut_length hk
    rw [getD_any' hj d (dflt .str), cutK_at hk (by omega) (by omega), eqT_comm]
    exact hall j (by omega)
  ·unfold cutK at hj
   rw [if_neg hk] at hj; simp at hj
theorem mems_none {t : Tree} (hk : ¬ t.kind = 7) : mems t = [] := by unfold mems cutK; rw [if_neg hk]; rfl
theorem mems_len {t : Tree} (hk : t.kind = 7) : (mems t).length = min t.k.length t.v.length := by
 have h : ((mems t).map (·.1)).length = (cutK t).length := by rw [mems_k]
 rw [List.length_map] at h; rw [h, cut_length hk]
theorem mems_drop {t : Tree} (hk : t.kind = 7) {i : Nat} (h1 : i < t.k.length) (h2 : i < t.v.length) : (mems t).drop i = (t.k.getD i (dflt .str), t.v.getD i (dflt .tree)) :: (mems t).drop (i + 1) := by
 have hl := mems_len hk
 rw [List.drop_eq_getElem_cons (by omega)]
 congr 1
 have e1 : ((mems t).map (·.1)).getD i (dflt .str) = t.k.getD i (dflt .str) := by rw [mems_k, cutK_at hk h1 h2]
 have e2 : ((mems t).map (·.2)).getD i (dflt .tree) = t.v.getD i (dflt .tree) := by rw [mems_v, cutV_at hk h1 h2]
 have hi : i < (mems t).length := by omega
 rw [List.getD_eq_getElem?_getD, List.getElem?_map, List.getElem?_eq_getElem hi] at e1 e2
 exact Prod.ext e1 e2
theorem mems_end {t : Tree} {i : Nat} (h : ¬ t.kind = 7 ∨ t.k.length ≤ i ∨ t.v.length ≤ i) : (mems t).drop i = [] := by
 by_cases hk : t.kind = 7
 ·exact List.drop_of_length_le (by rw [mems_len hk]; omega)
 ·rw [mems_none hk]; simp
def restS (x : ByteArray) (v : Tree) (has done : Bool) (l : Mem) : Mem := if done = true then l else if has = true then repA x v l else putA x v l
theorem restS_done {x : ByteArray} {v : Tree} {has : Bool} (l : Mem) : restS x v has true l = l := rfl
theorem rest_hit {x : ByteArray} {v : Tree} {has : Bool} {k : ByteArray} {u : Tree} {l : Mem} (hh : has = true) (h : eqT k x = true) : restS x v has false ((k, u) :: l) = (x, v) :: restS x v has true l := by
 subst hh
 rw [eqT_iff] at h; subst h
 simp [restS, repA, eqT_self]
theorem rest_put {x : ByteArray} {v : Tree} {k : ByteArray} {u : Tree} {l : Mem} (h : gtB k x = true) : restS x v false false ((k, u) :: l) = (x, v) :: (k, u) :: restS x v false true l := by
 simp [restS, putA, h]
theorem rest_on {x : ByteArray} {v : Tree} {has done : Bool} {k : ByteArray} {u : Tree} {l : Mem} (h : done = true ∨ (has = true ∧ eqT k x = false) ∨ (has = false ∧ gtB k x = false)) : restS x v has done ((k, u) :: l) = (k, u) :: restS x v has done l := by
 rcases h with rfl | ⟨rfl, h⟩ | ⟨rfl, h⟩
 ·rfl
 ·cases done <;> simp [restS, repA, eqT_comm x k, h]
 ·cases done <;> simp [restS, putA, h]
def mK (l : Mem) : List ByteArray := l.map (·.1)
def mV (l : Mem) : List Tree := l.map (·.2)
theorem mK_add (l m : Mem) : mK (l ++ m) = mK l ++ mK m := List.map_append
theorem mV_add (l m : Mem) : mV (l ++ m) = mV l ++ mV m := List.map_append
theorem objM_snoc (l : Mem) (x : ByteArray) (v : Tree) : objM (l ++ [(x, v)]) = .mk 7 false ⟨false, [], 0⟩ (ba []) (mK l ++ [x]) (mV l ++ [v]) := by simp [objM, mK, mV]
structure SetJ (t : Tree) (x : ByteArray) (v : Tree) (i : Nat) (acc : Mem) (done : Bool) : Prop where
 eq : acc ++ restS x v (memB t x) done ((mems t).drop i) = insA x v (mems t)
 has : memB t x = true → done = false → (lookA x ((mems t).drop i)).isSome = true
 none : memB t x = false → done = false → ∀ j, j < i → t.kind = 7 → eqT (t.k.getD j (dflt .str)) x = false
 len : acc.length ≤ i + done.toNat
theorem SetJ.start (t : Tree) (x : ByteArray) (v : Tree) : SetJ t x v 0 [] false := by
 refine ⟨?_, fun h _ => ?_, fun _ _ j hj => absurd hj (Nat.not_lt_zero _), Nat.zero_le _⟩
 ·rw [List.nil_append, List.drop_zero, memB_look]; rfl
 ·rw [List.drop_zero, ← memB_look]; exact h
theorem memB_key {t : Tree} {x : ByteArray} {i : Nat} (hk : t.kind = 7) (h1 : i < t.k.length) (h2 : i < t.v.length) (h : eqT (t.k.getD i (dflt .str)) x = true) : memB t x = true := by
 rw [memB_look]
 cases hn : lookA x (mems t) with
 | some u => rfl
 | none =>
  exfalso
  have hd := mems_drop hk h1 h2
  have hm : (t.k.getD i (dflt .str), t.v.getD i (dflt .tree)) ∈ mems t := List.mem_of_mem_drop (by rw [hd]; exact List.mem_cons_self ..)
  have key : ∀ l : Mem, lookA x l = none → (t.k.getD i (dflt .str), t.v.getD i (dflt .tree)) ∈ l → False := by
   intro l
   induction l with
   | nil => intro _ h; simp at h
   | cons p l ih =>
    obtain ⟨y, u⟩ := p
    intro hl hm
    simp only [lookA] at hl
    split at hl
    ·cases hl
    ·rename_i e
     rcases List.mem_cons.1 hm with hm | hm
     ·injection hm with e1 e2
      rw [← e1, eqT_comm] at e
      exact e h
     ·exact ih hl hm
  exact key _ hn hm
section
variable {t : Tree} {x : ByteArray} {v : Tree} {i : Nat} {acc : Mem} {done : Bool} (J : SetJ t x v i acc done) (hk : t.kind = 7) (h1 : i < t.k.length) (h2 : i < t.v.length)
include J hk h1 h2
theorem SetJ.hit (hd : done = false) (h : eqT (t.k.getD i (dflt .str)) x = true) : SetJ t x v (i + 1) (acc ++ [(x, v)]) true := by
 have hb := memB_key hk h1 h2 h
 refine ⟨?_, fun _ h => (by cases h), fun _ h => (by cases h), by have := J.len; subst hd; simp at *; omega⟩
 have he := J.eq
 rw [mems_drop hk h1 h2, hd, rest_hit hb h] at he
 rw [← he]; simp
theorem SetJ.put (hd : done = false) (hh : memB t x = false) (h : gtB (t.k.getD i (dflt .str)) x = true) : SetJ t x v (i + 1) (acc ++ [(x, v)] ++ [(t.k.getD i (dflt .str), t.v.getD i (dflt .tree))]) true := by
 refine ⟨?_, fun _ h => (by cases h), fun _ h => (by cases h), ?_⟩
 ·have he := J.eq
  rw [mems_drop hk h1 h2, hd, hh, rest_put h] at he
  rw [← he]; simp [restS]
 ·have := J.len; subst hd; simp at *; omega
theorem SetJ.on (h : done = true ∨ (memB t x = true ∧ eqT (t.k.getD i (dflt .str)) x = false) ∨ (memB t x = false ∧ eqT (t.k.getD i (dflt .str)) x = false ∧ gtB (t.k.getD i (dflt .str)) x = false)) : SetJ t x v (i + 1) (acc ++ [(t.k.getD i (dflt .str), t.v.getD i (dflt .tree))]) done := by
 have hr : done = true ∨ (memB t x = true ∧ eqT (t.k.getD i (dflt .str)) x = false) ∨ (memB t x = false ∧ gtB (t.k.getD i (dflt .str)) x = false) := by
  rcases h with h | h | ⟨a, _, c⟩
  ·exact .inl h
  ·exact .inr (.inl h)
  ·exact .inr (.inr ⟨a, c⟩)
 refine ⟨?_, fun hb hd => ?_, fun hb hd j hj hk' => ?_, by have := J.len; simp; omega⟩
 ·have he := J.eq
  rw [mems_drop hk h1 h2, rest_on hr] at he
  rw [← he]; simp
 ·have hs := J.has hb hd
  rw [mems_drop hk h1 h2] at hs
  rcases h with h | ⟨_, h⟩ | ⟨h, _⟩
  ·rw [hd] at h; cases h
  ·simp only [lookA] at hs
   rw [if_neg (by rw [eqT_comm, h]; decide)] at hs
   exact hs
  ·rw [hb] at h; cases h
 ·rcases Nat.lt_succ_iff_lt_or_eq.1 hj with hj | rfl
  ·exact J.none hb hd j hj hk'
  ·rcases h with h | ⟨h, _⟩ | ⟨_, h, _⟩
   ·rw [hd] at h; cases h
   ·rw [hb] at h; cases h
   ·exact h
end
theorem SetJ.fin_done {t : Tree} {x : ByteArray} {v : Tree} {i : Nat} {acc : Mem} {done : Bool} (J : SetJ t x v i acc done) (hd : done = true) (he : (mems t).drop i = []) : setT t x v = objM acc := by
 have h := J.eq
 rw [he, hd, restS_done, List.append_nil] at h
 unfold setT; rw [← h]
theorem SetJ.fin_not {t : Tree} {x : ByteArray} {v : Tree} {i : Nat} {acc : Mem} {done : Bool} (J : SetJ t x v i acc done) (hd : done = false) (he : (mems t).drop i = []) : setT t x v = objM (acc ++ [(x, v)]) := by
 have h := J.eq
 cases hb : memB t x with
 | true =>
  have := J.has hb hd
  rw [he] at this; simp [lookA] at this
 | false =>
  rw [he, hd, hb] at h
  unfold setT; rw [← h]; rfl
theorem con69 (t : Tree) (x : ByteArray) (hv : t.v.length < 4611686018427387904) : Con Tryz.prog I0 69 [.agg (encTree t), vs x] (.val (.tup [.agg (encTree (memV t x)), vb (memB t x)])) := by
 refine con_of Tryz.func69 rfl (Nat.le_of_ble_eq_true rfl) stab (fun w0 fz a hI hs => ?_)
 refine wp_seq ?_
 refine wN hs hI [] 19375 [] .norm [(1, vs x), (2, .ptr 1000 0), (4, .ptr 1001 0)] [(1000, bTr (t)), (1001, .var zTr)] tv fun a w hs => ?_
 refine then_norm ?_
 refine wp_seq ?_
 refine wp_seq ?_
 refine wN hs hI [] 25 [] .norm [(1, vs x), (2, .ptr 1000 0), (4, .ptr 1001 0), (6, vi 0)] [(1000, bTr (t)), (1001, .var zTr)] tv fun a w hs => ?_
 refine then_norm ?_
 refine wp_block ?_
 refine loop_L (N := Tryz.f69.ntmps) (w0 := w0) (ow := noO fz) (α := Nat) (fun p => [(1, vs x), (2, .ptr 1000 0), (4, .ptr 1001 0), (6, vi (p : Int))]) (fun p => [(1000, bTr (t)), (1001, .var zTr)]) (fun p => (p ≤ t.k.length ∧ p ≤ t.v.length) ∧ ∀ j, j < p → eqT (t.k.getD j (dflt .str)) x = false) (fun p => t.k.length - p) 0 ?_ ?_ ?_
 ·exact ⟨⟨Nat.zero_le _, Nat.zero_le _⟩, fun j hj => absurd hj (Nat.not_lt_zero _)⟩
 ·exact (hs.cst [(1, vs x), (2, .ptr 1000 0), (4, .ptr 1001 0), (6, vi ((0 : Nat) : Int))] [(1000, bTr (t)), (1001, .var zTr)] rfl).rm [(1000, 1000), (1001, 1001)] (by kernel_rfl)
 rintro i hJ a w hs
 obtain ⟨⟨hi, hi2⟩, hall⟩ := hJ
 rcases bt (decide ((i : Int) < (t.k.length : Int))) with b1 | b1
 ·skip
  have n1 := of_decide_eq_true b1
  rcases bt (decide ((i : Int) < (t.v.length : Int))) with b2 | b2
  ·skip
   have n2 := of_decide_eq_true b2
   rcases bt (t.kind == 7) with b3 | b3
   ·skip
    have n3 := eq_of_beq b3
    rcases bt ((t.k.getD i (dflt .str)).toList == x.toList) with b4 | b4
    ·skip
     have n4 := eq_of_beq b4
     refine wL hs hI [(2, ⟨[], gg [6, 7, 8, 9, 10, 1011, 13, 14, 15, 1016] [], []⟩)] [true, true] 1008449484850484912474843991359030326293577672665317853291828125 [ty b1, ty b1, ty b1, ty b1, ty b1, ty b1, ty b2, ty b2, ty b2, ty b2, ty b3, 0 ≤ (i : Int) ∧ (i : Int) < t.k.length, ty b4, 0 ≤ (i : Int) ∧ (i : Int) < t.v.length] .ret [(4, .ptr 1001 0), (5, vb true)] [(1001, bTr ((t.v.getD i (dflt .tree))))] ⟨tv, tv⟩ ⟨b1, b1, b1, b1, b1, b1, b2, b2, b2, b2, b3, (by omega), b4, (by omega), tv⟩ fun a w hs => ?_
     refine then_ret ?_
     refine inb_ret ?_
     refine then_ret ?_
     exact rK (.val (.tup [aTr ((t.v.getD i (dflt .tree))), vb true])) [] hs (by have h := mem_found (x := x) (i := i) (by omega) (by omega) (by omega) hall b4; rw [h.1, h.2])
    ·skip
     have n4 := beq_eq_false_iff_ne.1 b4
     refine wL hs hI [(2, ⟨[], gg [6, 7, 8, 9, 10, 1011, 13, 14, 15, 1016] [], []⟩)] [true, false] 2584166462782497009143978239364969340385620792706807453125 [ty b1, ty b1, ty b1, ty b1, ty b1, ty b1, ty b2, ty b2, ty b2, ty b2, ty b3, 0 ≤ (i : Int) ∧ (i : Int) < t.k.length, ty b4, InR .i64 ((i : Int) + 1)] .norm [(1, vs x), (2, .ptr 1000 0), (4, .ptr 1001 0), (6, vi ((i : Int) + 1))] [(1000, bTr (t)), (1001, .var zTr)] ⟨tv, tv⟩ ⟨b1, b1, b1, b1, b1, b1, b2, b2, b2, b2, b3, (by omega), b4, (inR64 (by omega) (by omega)), tv⟩ fun a w hs => ?_
     refine then_norm ⟨i + 1, ⟨⟨by omega, by omega⟩, fun j hj => by rcases Nat.lt_succ_iff_lt_or_eq.1 hj with h | h; exact hall j h; subst h; exact b4⟩, by omega, ?_⟩
     (have e0_ : ((i : Int) + 1) = ((((i + 1) : Nat) : Int)) := (by first | rfl | (omega)); exact (hs.cst [(1, vs x), (2, .ptr 1000 0), (4, .ptr 1001 0), (6, vi (((i + 1) : Nat) : Int))] [(1000, bTr (t)), (1001, .var zTr)] (by first | (rw [e0_]; done) | (simp only [e0_]; done) | rfl | (simp only [e0_]; rfl))).rm [(1000, 1000), (1001, 1001)] (by kernel_rfl))
   ·skip
    have n3 := beq_eq_false_iff_ne.1 b3
    refine wL hs hI [(2, ⟨[], gg [6, 7, 8, 9, 10, 1011, 13, 14, 15, 1016] [], []⟩)] [false] 67612582199672033311550815900166828125 [ty b1, ty b1, ty b1, ty b1, ty b1, ty b1, ty b2, ty b2, ty b2, ty b2, ty b3] (.exit 0) [(4, .ptr 1001 0)] [(1001, .var zTr)] ⟨tv, tv⟩ ⟨b1, b1, b1, b1, b1, b1, b2, b2, b2, b2, b3, tv⟩ fun a w hs => ?_
    refine then_exit ?_
    refine inb_hit ?_
    refine then_norm ?_
    refine wN hs hI [] 410000 [] .ret [(4, .ptr 1001 0), (5, vb false)] [(1001, .var zTr)] tv fun a w hs => ?_
    exact rK (.val (.tup [.agg [vi 0, vb false, vb false, rwU ([]), vi 0, vs (ba []), rwS ([]), rwT ([])], vb false])) [] hs (by have h := mem_none (t := t) (x := x) (i := i) (by first | exact .inl (by omega) | exact .inr ⟨by omega, hall⟩); rw [h.1, h.2]; rfl)
  ·skip
   have n2 := of_decide_eq_false b2
   refine wL hs hI [(2, ⟨[], gg [6, 7, 8, 9, 10, 1011] [13, 14, 15, 1016], []⟩)] [false] 4327205260779010130165417989093750 [ty b1, ty b1, ty b1, ty b1, ty b1, ty b1, ty b2, ty b2, ty b2, ty b2, false = false] (.exit 0) [(4, .ptr 1001 0)] [(1001, .var zTr)] ⟨tv, tv⟩ ⟨b1, b1, b1, b1, b1, b1, b2, b2, b2, b2, rfl, tv⟩ fun a w hs => ?_
   refine then_exit ?_
   refine inb_hit ?_
   refine then_norm ?_
   refine wN hs hI [] 410000 [] .ret [(4, .ptr 1001 0), (5, vb false)] [(1001, .var zTr)] tv fun a w hs => ?_
   exact rK (.val (.tup [.agg [vi 0, vb false, vb false, rwU ([]), vi 0, vs (ba []), rwS ([]), rwT ([])], vb false])) [] hs (by have h := mem_none (t := t) (x := x) (i := i) (by first | exact .inl (by omega) | exact .inr ⟨by omega, hall⟩); rw [h.1, h.2]; rfl)
 ·skip
  have n1 := of_decide_eq_false b1
  refine wL hs hI [(2, ⟨[], gg [] [6, 7, 8, 9, 10, 1011, 13, 14, 15, 1016], []⟩)] [false] 443105818703770064819328125 [ty b1, ty b1, ty b1, ty b1, ty b1, ty b1, false = false, false = false, false = false, false = false, false = false] (.exit 0) [(4, .ptr 1001 0)] [(1001, .var zTr)] ⟨tv, tv⟩ ⟨b1, b1, b1, b1, b1, b1, rfl, rfl, rfl, rfl, rfl, tv⟩ fun a w hs => ?_
  refine then_exit ?_
  refine inb_hit ?_
  refine then_norm ?_
  refine wN hs hI [] 410000 [] .ret [(4, .ptr 1001 0), (5, vb false)] [(1001, .var zTr)] tv fun a w hs => ?_
  exact rK (.val (.tup [.agg [vi 0, vb false, vb false, rwU ([]), vi 0, vs (ba []), rwS ([]), rwT ([])], vb false])) [] hs (by have h := mem_none (t := t) (x := x) (i := i) (by first | exact .inl (by omega) | exact .inr ⟨by omega, hall⟩); rw [h.1, h.2]; rfl)
theorem con22 (t : Tree) (x : ByteArray) (v : Tree) (hv : t.v.length < 100000000) : Con Tryz.prog I0 22 [.agg (encTree t), vs x, .agg (encTree v)] (.val (.agg (encTree (setT t x v)))) := by
 refine con_of Tryz.func22 rfl (Nat.le_of_ble_eq_true rfl) stab (fun w0 fz a hI hs => ?_)
 refine wp_seq ?_
 refine wN hs hI [] 19375 [] .norm [(1, vs x), (3, .ptr 1000 0), (5, .ptr 1001 0), (6, .ptr 1002 0)] [(1000, bTr (t)), (1001, bTr (v)), (1002, .var zTr)] tv fun a w hs => ?_
 refine then_norm ?_
 refine wp_seq ?_
 refine wN hs hI [] 19375 [] .norm [(1, vs x), (3, .ptr 1000 0), (5, .ptr 1001 0), (6, .ptr 1002 0), (7, .ptr 2001 0)] [(1000, bTr (t)), (1001, bTr (v)), (1002, .var zTr), (2001, .var [vi 7, vb false, vb false, nilv, vi 0, vs (ba []), nilv, nilv])] tv fun a w hs => ?_
 refine then_norm ?_
 refine wp_seq ?_
 refine wN hs hI [] 25 [] .norm [(1, vs x), (3, .ptr 1000 0), (5, .ptr 1001 0), (6, .ptr 1002 0), (7, .ptr 2001 0), (8, vb false)] [(1000, bTr (t)), (1001, bTr (v)), (1002, .var zTr), (2001, .var [vi 7, vb false, vb false, nilv, vi 0, vs (ba []), nilv, nilv])] tv fun a w hs => ?_
 refine then_norm ?_
 refine wp_seq ?_
 refine wL hs hI [(3, ⟨[(2, ciV 69 [aTr (t), vs x] (.tup [aTr ((memV t x)), vb (memB t x)]))], [], []⟩)] [] 4768369140700 [] .norm [(1, vs x), (3, .ptr 1000 0), (5, .ptr 1001 0), (6, .ptr 1002 0), (7, .ptr 2001 0), (8, vb false), (10, vb (memB t x))] [(1000, bTr (t)), (1001, bTr (v)), (1002, .var zTr), (2001, .var [vi 7, vb false, vb false, nilv, vi 0, vs (ba []), nilv, nilv])] ⟨⟨⟨ent69, con69 _ _ (by omega)⟩, tv⟩, tv⟩ tv fun a w hs => ?_
 refine then_norm ?_
 refine wp_seq ?_
 refine wp_seq ?_
 refine wN hs hI [] 25 [] .norm [(1, vs x), (3, .ptr 1000 0), (5, .ptr 1001 0), (6, .ptr 1002 0), (7, .ptr 2001 0), (8, vb false), (10, vb (memB t x)), (11, vi 0)] [(1000, bTr (t)), (1001, bTr (v)), (1002, .var zTr), (2001, .var [vi 7, vb false, vb false, nilv, vi 0, vs (ba []), nilv, nilv])] tv fun a w hs => ?_
 refine then_norm ?_
 refine wp_block ?_
 refine loop_L (N := Tryz.f22.ntmps) (w0 := w0) (ow := noO fz) (α := Nat × Mem × Bool) (fun p => [(1, vs x), (3, .ptr 1000 0), (5, .ptr 1001 0), (6, .ptr 1002 0), (7, .ptr 90000001 0), (8, vb p.2.2), (10, vb (memB t x)), (11, vi ((p.1 : Nat) : Int))]) (fun p => [(1000, bTr (t)), (1001, bTr (v)), (1002, .var zTr), (90000001, .var [vi 7, vb false, vb false, nilv, vi 0, vs (ba []), .own 90000002, .own 90000003]), (90000002, .sl 9 .str (mK p.2.1)), (90000003, .sl 29 .tree (mV p.2.1))]) (fun p => (p.1 ≤ t.k.length ∧ p.1 ≤ t.v.length) ∧ SetJ t x v p.1 p.2.1 p.2.2) (fun p => t.k.length - p.1) (0, [], false) ?_ ?_ ?_
 ·exact ⟨⟨Nat.zero_le _, Nat.zero_le _⟩, SetJ.start t x v⟩
 ·(have hs := (hs.nilB 10000005 2001 6 9 .str [vi 7, vb false, vb false, nilv, vi 0, vs (ba []), nilv, nilv] (by kernel_rfl) (by kernel_rfl) (by decide) (by decide) (by kernel_rfl) (by kernel_rfl)).rmT [(1, vs x), (3, .ptr 1000 0), (5, .ptr 1001 0), (6, .ptr 1002 0), (7, .ptr 2001 0), (8, vb false), (10, vb (memB t x)), (11, vi 0)] [(1000, bTr (t)), (1001, bTr (v)), (1002, .var zTr), (2001, .var [vi 7, vb false, vb false, nilv, vi 0, vs (ba []), .own 10000005, nilv]), (10000005, .sl 9 .str ([]))] [(1000, 1000), (1001, 1001), (1002, 1002), (2001, 2001), (10000005, 10000005)] (by kernel_rfl); have hs := (hs.nilB 10000006 2001 7 29 .tree [vi 7, vb false, vb false, nilv, vi 0, vs (ba []), .own 10000005, nilv] (by kernel_rfl) (by kernel_rfl) (by decide) (by decide) (by kernel_rfl) (by kernel_rfl)).rmT [(1, vs x), (3, .ptr 1000 0), (5, .ptr 1001 0), (6, .ptr 1002 0), (7, .ptr 2001 0), (8, vb false), (10, vb (memB t x)), (11, vi 0)] [(1000, bTr (t)), (1001, bTr (v)), (1002, .var zTr), (2001, .var [vi 7, vb false, vb false, nilv, vi 0, vs (ba []), .own 10000005, .own 10000006]), (10000005, .sl 9 .str ([])), (10000006, .sl 29 .tree ([]))] [(1000, 1000), (1001, 1001), (1002, 1002), (2001, 2001), (10000005, 10000005), (10000006, 10000006)] (by kernel_rfl); exact (hs.cst [(1, vs x), (3, .ptr 1000 0), (5, .ptr 1001 0), (6, .ptr 1002 0), (7, .ptr 2001 0), (8, vb false), (10, vb (memB t x)), (11, vi ((0 : Nat) : Int))] [(1000, bTr (t)), (1001, bTr (v)), (1002, .var zTr), (2001, .var [vi 7, vb false, vb false, nilv, vi 0, vs (ba []), .own 10000005, .own 10000006]), (10000005, .sl 9 .str (mK ([]))), (10000006, .sl 29 .tree (mV ([])))] rfl).rm [(1000, 1000), (1001, 1001), (1002, 1002), (90000001, 2001), (90000002, 10000005), (90000003, 10000006)] (by kernel_rfl))
 rintro ⟨i, acc, done⟩ hJ a w hs
 try dsimp only at hJ
 obtain ⟨⟨hi, hi2⟩, hJ⟩ := hJ
 have hln := hJ.len
 have hdn : done.toNat ≤ 1 := by cases done <;> decide
 have hl1 : (mK acc).length = acc.length := List.length_map _
 have hl2 : (mV acc).length = acc.length := List.length_map _
 rcases bt (decide ((i : Int) < (t.k.length : Int))) with b1 | b1
 ·skip
  have n1 := of_decide_eq_true b1
  rcases bt (decide ((i : Int) < (t.v.length : Int))) with b2 | b2
  ·skip
   have n2 := of_decide_eq_true b2
   rcases bt (t.kind == 7) with b3 | b3
   ·skip
    have n3 := eq_of_beq b3
    rcases bt (done) with b4 | b4
    ·skip
     refine wL hs hI [(5, ⟨[], gg [6, 7, 8, 9, 10, 1011, 13, 14, 15, 1016] [], []⟩), (7, ⟨[], gg [] [3, 4, 5, 6, 7, 8, 9, 1010], []⟩), (10, ⟨[], gg [] [3, 4, 1005, 7, 8, 9, 10, 11, 12, 13, 1014], []⟩)] [true, false, false] 52186826798081257791106651220669140124153521940204827308340270641734959930693054930351704179258831572951500614484151203125 [ty b1, ty b1, ty b1, ty b1, ty b1, ty b1, ty b2, ty b2, ty b2, ty b2, ty b3, ty (ng1 b4), ty (ng1 b4), ty (ng1 b4), ty (ng1 b4), ty (ng1 b4), ty (ng1 b4), ty (ng1 b4), ty (ng1 b4), false = false, ty (ng1 b4), ty (ng1 b4), ty (ng1 b4), false = false, false = false, false = false, false = false, false = false, false = false, false = false, false = false, false = false, 0 ≤ (i : Int) ∧ (i : Int) < t.k.length, (((mK acc).length + 1) * 16 : Nat) ≤ 140737488355328 ∧ (mK acc).length + 1 ≤ 140737488355328, 0 ≤ (i : Int) ∧ (i : Int) < t.v.length, (((mV acc).length + 1) * 120 : Nat) ≤ 140737488355328 ∧ (mV acc).length + 1 ≤ 140737488355328, InR .i64 ((i : Int) + 1)] .norm [(1, vs x), (3, .ptr 1000 0), (5, .ptr 1001 0), (6, .ptr 1002 0), (7, .ptr 90000001 0), (8, vb done), (10, vb (memB t x)), (11, vi ((i : Int) + 1))] [(1000, bTr (t)), (1001, bTr (v)), (1002, .var zTr), (14008, .sl 9 .str ((mK acc) ++ ([(t.k.getD i (dflt .str))]))), (14017, .sl 29 .tree ((mV acc) ++ ([(Tree.et (t.v.getD i (dflt .tree)))]))), (90000001, .var [vi 7, vb false, vb false, nilv, vi 0, vs (ba []), .own 14008, .own 14017])] ⟨tv, tv, tv, tv⟩ ⟨b1, b1, b1, b1, b1, b1, b2, b2, b2, b2, b3, (ng1 b4), (ng1 b4), (ng1 b4), (ng1 b4), (ng1 b4), (ng1 b4), (ng1 b4), (ng1 b4), rfl, (ng1 b4), (ng1 b4), (ng1 b4), rfl, rfl, rfl, rfl, rfl, rfl, rfl, rfl, rfl, (by omega), (by omega), (by omega), (by omega), (inR64 (by omega) (by omega)), tv⟩ fun a w hs => ?_
     refine then_norm ⟨(i + 1, acc ++ [(t.k.getD i (dflt .str), t.v.getD i (dflt .tree))], done), ⟨⟨by omega, by omega⟩, hJ.on (by omega) (by omega) (by omega) (.inl b4)⟩, by omega, ?_⟩
     (have e0_ : ((i : Int) + 1) = ((((i + 1) : Nat) : Int)) := (by first | rfl | (first | rfl | (simp only [mK_add, mV_add, Tree.eta']; rfl) | (simp [mK, mV, Tree.eta']; done))); have e1_ : ((mK acc) ++ ([(t.k.getD i (dflt .str))])) = (mK (acc ++ [(t.k.getD i (dflt .str), t.v.getD i (dflt .tree))])) := (by first | rfl | (first | rfl | (simp only [mK_add, mV_add, Tree.eta']; rfl) | (simp [mK, mV, Tree.eta']; done))); have e2_ : ((mV acc) ++ ([(Tree.et (t.v.getD i (dflt .tree)))])) = (mV (acc ++ [(t.k.getD i (dflt .str), t.v.getD i (dflt .tree))])) := (by first | rfl | (first | rfl | (simp only [mK_add, mV_add, Tree.eta']; rfl) | (simp [mK, mV, Tree.eta']; done))); exact (hs.cst [(1, vs x), (3, .ptr 1000 0), (5, .ptr 1001 0), (6, .ptr 1002 0), (7, .ptr 90000001 0), (8, vb done), (10, vb (memB t x)), (11, vi (((i + 1) : Nat) : Int))] [(1000, bTr (t)), (1001, bTr (v)), (1002, .var zTr), (14008, .sl 9 .str (mK (acc ++ [(t.k.getD i (dflt .str), t.v.getD i (dflt .tree))]))), (14017, .sl 29 .tree (mV (acc ++ [(t.k.getD i (dflt .str), t.v.getD i (dflt .tree))]))), (90000001, .var [vi 7, vb false, vb false, nilv, vi 0, vs (ba []), .own 14008, .own 14017])] (by first | (rw [e0_, e1_, e2_]; done) | (simp only [e0_, e1_, e2_]; done) | rfl | (simp only [e0_, e1_, e2_]; rfl))).rm [(1000, 1000), (1001, 1001), (1002, 1002), (90000001, 90000001), (90000002, 14008), (90000003, 14017)] (by kernel_rfl))
    ·skip
     rcases bt ((t.k.getD i (dflt .str)).toList == x.toList) with b5 | b5
     ·skip
      have n5 := eq_of_beq b5
      refine wL hs hI [(5, ⟨[], gg [6, 7, 8, 9, 10, 1011, 13, 14, 15, 1016] [], []⟩), (7, ⟨[], gg [3, 4, 5, 6, 7, 8, 9, 1010] [], []⟩)] [true, true] 89656285690314255122236041675211477856670425794036718396863639868321627091063419108589490254718750 [ty b1, ty b1, ty b1, ty b1, ty b1, ty b1, ty b2, ty b2, ty b2, ty b2, ty b3, ty (ng0 b4), ty (ng0 b4), ty (ng0 b4), ty (ng0 b4), 0 ≤ (i : Int) ∧ (i : Int) < t.k.length, ty (ng0 b4), ty (ng0 b4), ty (ng0 b4), ty (ng0 b4), ty b5, (((mK acc).length + 1) * 16 : Nat) ≤ 140737488355328 ∧ (mK acc).length + 1 ≤ 140737488355328, (((mV acc).length + 1) * 120 : Nat) ≤ 140737488355328 ∧ (mV acc).length + 1 ≤ 140737488355328, InR .i64 ((i : Int) + 1)] .norm [(1, vs x), (3, .ptr 1000 0), (5, .ptr 1001 0), (6, .ptr 1002 0), (7, .ptr 90000001 0), (8, vb true), (10, vb (memB t x)), (11, vi ((i : Int) + 1))] [(1000, bTr (t)), (1001, bTr (v)), (1002, .var zTr), (9004, .sl 9 .str ((mK acc) ++ ([x]))), (9009, .sl 29 .tree ((mV acc) ++ ([(Tree.et v)]))), (90000001, .var [vi 7, vb false, vb false, nilv, vi 0, vs (ba []), .own 9004, .own 9009])] ⟨tv, tv, tv⟩ ⟨b1, b1, b1, b1, b1, b1, b2, b2, b2, b2, b3, (ng0 b4), (ng0 b4), (ng0 b4), (ng0 b4), (by omega), (ng0 b4), (ng0 b4), (ng0 b4), (ng0 b4), b5, (by omega), (by omega), (inR64 (by omega) (by omega)), tv⟩ fun a w hs => ?_
      refine then_norm ⟨(i + 1, acc ++ [(x, v)], true), ⟨⟨by omega, by omega⟩, hJ.hit (by omega) (by omega) (by omega) b4 b5⟩, by omega, ?_⟩
      (have e0_ : ((i : Int) + 1) = ((((i + 1) : Nat) : Int)) := (by first | rfl | (first | rfl | (simp only [mK_add, mV_add, Tree.eta']; rfl) | (simp [mK, mV, Tree.eta']; done))); have e1_ : ((mK acc) ++ ([x])) = (mK (acc ++ [(x, v)])) := (by first | rfl | (first | rfl | (simp only [mK_add, mV_add, Tree.eta']; rfl) | (simp [mK, mV, Tree.eta']; done))); have e2_ : ((mV acc) ++ ([(Tree.et v)])) = (mV (acc ++ [(x, v)])) := (by first | rfl | (first | rfl | (simp only [mK_add, mV_add, Tree.eta']; rfl) | (simp [mK, mV, Tree.eta']; done))); exact (hs.cst [(1, vs x), (3, .ptr 1000 0), (5, .ptr 1001 0), (6, .ptr 1002 0), (7, .ptr 90000001 0), (8, vb true), (10, vb (memB t x)), (11, vi (((i + 1) : Nat) : Int))] [(1000, bTr (t)), (1001, bTr (v)), (1002, .var zTr), (9004, .sl 9 .str (mK (acc ++ [(x, v)]))), (9009, .sl 29 .tree (mV (acc ++ [(x, v)]))), (90000001, .var [vi 7, vb false, vb false, nilv, vi 0, vs (ba []), .own 9004, .own 9009])] (by first | (rw [e0_, e1_, e2_]; done) | (simp only [e0_, e1_, e2_]; done) | rfl | (simp only [e0_, e1_, e2_]; rfl))).rm [(1000, 1000), (1001, 1001), (1002, 1002), (90000001, 90000001), (90000002, 9004), (90000003, 9009)] (by kernel_rfl))
     ·skip
      have n5 := beq_eq_false_iff_ne.1 b5
      rcases bt (memB t x) with b6 | b6
      ·skip
       refine wL hs hI [(5, ⟨[], gg [6, 7, 8, 9, 10, 1011, 13, 14, 15, 1016] [], []⟩), (7, ⟨[], gg [3, 4, 5, 6, 7, 8, 9, 1010] [], []⟩), (10, ⟨[], gg [3, 4, 1005] [7, 8, 9, 10, 11, 12, 13, 1014], []⟩)] [true, false, false] 199076945488286048092295269854237137314428413163012799751329338846891144609915938211494144322276434899698926983546698217590649922687500 [ty b1, ty b1, ty b1, ty b1, ty b1, ty b1, ty b2, ty b2, ty b2, ty b2, ty b3, ty (ng0 b4), ty (ng0 b4), ty (ng0 b4), ty (ng0 b4), 0 ≤ (i : Int) ∧ (i : Int) < t.k.length, ty (ng0 b4), ty (ng0 b4), ty (ng0 b4), ty (ng0 b4), ty b5, ty (ng0 b4), ty (ng0 b4), ty (ng0 b4), ty (ng1 b6), ty (ng1 b6), ty (ng1 b6), ty (ng1 b6), ty (ng1 b6), ty (ng1 b6), ty (ng1 b6), ty (ng1 b6), false = false, 0 ≤ (i : Int) ∧ (i : Int) < t.k.length, (((mK acc).length + 1) * 16 : Nat) ≤ 140737488355328 ∧ (mK acc).length + 1 ≤ 140737488355328, 0 ≤ (i : Int) ∧ (i : Int) < t.v.length, (((mV acc).length + 1) * 120 : Nat) ≤ 140737488355328 ∧ (mV acc).length + 1 ≤ 140737488355328, InR .i64 ((i : Int) + 1)] .norm [(1, vs x), (3, .ptr 1000 0), (5, .ptr 1001 0), (6, .ptr 1002 0), (7, .ptr 90000001 0), (8, vb done), (10, vb (memB t x)), (11, vi ((i : Int) + 1))] [(1000, bTr (t)), (1001, bTr (v)), (1002, .var zTr), (14008, .sl 9 .str ((mK acc) ++ ([(t.k.getD i (dflt .str))]))), (14017, .sl 29 .tree ((mV acc) ++ ([(Tree.et (t.v.getD i (dflt .tree)))]))), (90000001, .var [vi 7, vb false, vb false, nilv, vi 0, vs (ba []), .own 14008, .own 14017])] ⟨tv, tv, tv, tv⟩ ⟨b1, b1, b1, b1, b1, b1, b2, b2, b2, b2, b3, (ng0 b4), (ng0 b4), (ng0 b4), (ng0 b4), (by omega), (ng0 b4), (ng0 b4), (ng0 b4), (ng0 b4), b5, (ng0 b4), (ng0 b4), (ng0 b4), (ng1 b6), (ng1 b6), (ng1 b6), (ng1 b6), (ng1 b6), (ng1 b6), (ng1 b6), (ng1 b6), rfl, (by omega), (by omega), (by omega), (by omega), (inR64 (by omega) (by omega)), tv⟩ fun a w hs => ?_
       refine then_norm ⟨(i + 1, acc ++ [(t.k.getD i (dflt .str), t.v.getD i (dflt .tree))], done), ⟨⟨by omega, by omega⟩, hJ.on (by omega) (by omega) (by omega) (.inr (.inl ⟨b6, b5⟩))⟩, by omega, ?_⟩
       (have e0_ : ((i : Int) + 1) = ((((i + 1) : Nat) : Int)) := (by first | rfl | (first | rfl | (simp only [mK_add, mV_add, Tree.eta']; rfl) | (simp [mK, mV, Tree.eta']; done))); have e1_ : ((mK acc) ++ ([(t.k.getD i (dflt .str))])) = (mK (acc ++ [(t.k.getD i (dflt .str), t.v.getD i (dflt .tree))])) := (by first | rfl | (first | rfl | (simp only [mK_add, mV_add, Tree.eta']; rfl) | (simp [mK, mV, Tree.eta']; done))); have e2_ : ((mV acc) ++ ([(Tree.et (t.v.getD i (dflt .tree)))])) = (mV (acc ++ [(t.k.getD i (dflt .str), t.v.getD i (dflt .tree))])) := (by first | rfl | (first | rfl | (simp only [mK_add, mV_add, Tree.eta']; rfl) | (simp [mK, mV, Tree.eta']; done))); exact (hs.cst [(1, vs x), (3, .ptr 1000 0), (5, .ptr 1001 0), (6, .ptr 1002 0), (7, .ptr 90000001 0), (8, vb done), (10, vb (memB t x)), (11, vi (((i + 1) : Nat) : Int))] [(1000, bTr (t)), (1001, bTr (v)), (1002, .var zTr), (14008, .sl 9 .str (mK (acc ++ [(t.k.getD i (dflt .str), t.v.getD i (dflt .tree))]))), (14017, .sl 29 .tree (mV (acc ++ [(t.k.getD i (dflt .str), t.v.getD i (dflt .tree))]))), (90000001, .var [vi 7, vb false, vb false, nilv, vi 0, vs (ba []), .own 14008, .own 14017])] (by first | (rw [e0_, e1_, e2_]; done) | (simp only [e0_, e1_, e2_]; done) | rfl | (simp only [e0_, e1_, e2_]; rfl))).rm [(1000, 1000), (1001, 1001), (1002, 1002), (90000001, 90000001), (90000002, 14008), (90000003, 14017)] (by kernel_rfl))
      ·skip
       rcases bt (Op.bytesLess (t.k.getD i (dflt .str)).toList x.toList || (t.k.getD i (dflt .str)).toList == x.toList) with b7 | b7
       ·skip
        refine wL hs hI [(5, ⟨[], gg [6, 7, 8, 9, 10, 1011, 13, 14, 15, 1016] [], []⟩), (7, ⟨[], gg [3, 4, 5, 6, 7, 8, 9, 1010] [], []⟩), (10, ⟨[], gg [3, 4, 1005, 7, 8, 9, 10, 11, 12, 13, 1014] [], []⟩)] [true, false, false] 1215069247365027149000825621668927840053884357684404295424824794182282843097315155291042667748027001404787018512543284032290102665623029073078125 [ty b1, ty b1, ty b1, ty b1, ty b1, ty b1, ty b2, ty b2, ty b2, ty b2, ty b3, ty (ng0 b4), ty (ng0 b4), ty (ng0 b4), ty (ng0 b4), 0 ≤ (i : Int) ∧ (i : Int) < t.k.length, ty (ng0 b4), ty (ng0 b4), ty (ng0 b4), ty (ng0 b4), ty b5, ty (ng0 b4), ty (ng0 b4), ty (ng0 b4), ty (ng0 b6), ty (ng0 b6), ty (ng0 b6), ty (ng0 b6), 0 ≤ (i : Int) ∧ (i : Int) < t.k.length, ty (ng0 b6), ty (ng0 b6), ty (ng0 b6), ty (ng0 b6), ty (ng1 b7), 0 ≤ (i : Int) ∧ (i : Int) < t.k.length, (((mK acc).length + 1) * 16 : Nat) ≤ 140737488355328 ∧ (mK acc).length + 1 ≤ 140737488355328, 0 ≤ (i : Int) ∧ (i : Int) < t.v.length, (((mV acc).length + 1) * 120 : Nat) ≤ 140737488355328 ∧ (mV acc).length + 1 ≤ 140737488355328, InR .i64 ((i : Int) + 1)] .norm [(1, vs x), (3, .ptr 1000 0), (5, .ptr 1001 0), (6, .ptr 1002 0), (7, .ptr 90000001 0), (8, vb done), (10, vb (memB t x)), (11, vi ((i : Int) + 1))] [(1000, bTr (t)), (1001, bTr (v)), (1002, .var zTr), (14008, .sl 9 .str ((mK acc) ++ ([(t.k.getD i (dflt .str))]))), (14017, .sl 29 .tree ((mV acc) ++ ([(Tree.et (t.v.getD i (dflt .tree)))]))), (90000001, .var [vi 7, vb false, vb false, nilv, vi 0, vs (ba []), .own 14008, .own 14017])] ⟨tv, tv, tv, tv⟩ ⟨b1, b1, b1, b1, b1, b1, b2, b2, b2, b2, b3, (ng0 b4), (ng0 b4), (ng0 b4), (ng0 b4), (by omega), (ng0 b4), (ng0 b4), (ng0 b4), (ng0 b4), b5, (ng0 b4), (ng0 b4), (ng0 b4), (ng0 b6), (ng0 b6), (ng0 b6), (ng0 b6), (by omega), (ng0 b6), (ng0 b6), (ng0 b6), (ng0 b6), (ng1 b7), (by omega), (by omega), (by omega), (by omega), (inR64 (by omega) (by omega)), tv⟩ fun a w hs => ?_
        refine then_norm ⟨(i + 1, acc ++ [(t.k.getD i (dflt .str), t.v.getD i (dflt .tree))], done), ⟨⟨by omega, by omega⟩, hJ.on (by omega) (by omega) (by omega) (.inr (.inr ⟨b6, b5, by unfold gtB; rw [b7]; rfl⟩))⟩, by omega, ?_⟩
        (have e0_ : ((i : Int) + 1) = ((((i + 1) : Nat) : Int)) := (by first | rfl | (first | rfl | (simp only [mK_add, mV_add, Tree.eta']; rfl) | (simp [mK, mV, Tree.eta']; done))); have e1_ : ((mK acc) ++ ([(t.k.getD i (dflt .str))])) = (mK (acc ++ [(t.k.getD i (dflt .str), t.v.getD i (dflt .tree))])) := (by first | rfl | (first | rfl | (simp only [mK_add, mV_add, Tree.eta']; rfl) | (simp [mK, mV, Tree.eta']; done))); have e2_ : ((mV acc) ++ ([(Tree.et (t.v.getD i (dflt .tree)))])) = (mV (acc ++ [(t.k.getD i (dflt .str), t.v.getD i (dflt .tree))])) := (by first | rfl | (first | rfl | (simp only [mK_add, mV_add, Tree.eta']; rfl) | (simp [mK, mV, Tree.eta']; done))); exact (hs.cst [(1, vs x), (3, .ptr 1000 0), (5, .ptr 1001 0), (6, .ptr 1002 0), (7, .ptr 90000001 0), (8, vb done), (10, vb (memB t x)), (11, vi (((i + 1) : Nat) : Int))] [(1000, bTr (t)), (1001, bTr (v)), (1002, .var zTr), (14008, .sl 9 .str (mK (acc ++ [(t.k.getD i (dflt .str), t.v.getD i (dflt .tree))]))), (14017, .sl 29 .tree (mV (acc ++ [(t.k.getD i (dflt .str), t.v.getD i (dflt .tree))]))), (90000001, .var [vi 7, vb false, vb false, nilv, vi 0, vs (ba []), .own 14008, .own 14017])] (by first | (rw [e0_, e1_, e2_]; done) | (simp only [e0_, e1_, e2_]; done) | rfl | (simp only [e0_, e1_, e2_]; rfl))).rm [(1000, 1000), (1001, 1001), (1002, 1002), (90000001, 90000001), (90000002, 14008), (90000003, 14017)] (by kernel_rfl))
       ·skip
        refine wL hs hI [(5, ⟨[], gg [6, 7, 8, 9, 10, 1011, 13, 14, 15, 1016] [], []⟩), (7, ⟨[], gg [3, 4, 5, 6, 7, 8, 9, 1010] [], []⟩), (10, ⟨[], gg [3, 4, 1005, 7, 8, 9, 10, 11, 12, 13, 1014] [], []⟩)] [true, false, true] 28290535494802220468428582457567747683587683662543654968934268313885400766613640229949587078194899679143931512631985076992697097987172760724661202402537067731221515625 [ty b1, ty b1, ty b1, ty b1, ty b1, ty b1, ty b2, ty b2, ty b2, ty b2, ty b3, ty (ng0 b4), ty (ng0 b4), ty (ng0 b4), ty (ng0 b4), 0 ≤ (i : Int) ∧ (i : Int) < t.k.length, ty (ng0 b4), ty (ng0 b4), ty (ng0 b4), ty (ng0 b4), ty b5, ty (ng0 b4), ty (ng0 b4), ty (ng0 b4), ty (ng0 b6), ty (ng0 b6), ty (ng0 b6), ty (ng0 b6), 0 ≤ (i : Int) ∧ (i : Int) < t.k.length, ty (ng0 b6), ty (ng0 b6), ty (ng0 b6), ty (ng0 b6), ty (ng0 b7), (((mK acc).length + 1) * 16 : Nat) ≤ 140737488355328 ∧ (mK acc).length + 1 ≤ 140737488355328, (((mV acc).length + 1) * 120 : Nat) ≤ 140737488355328 ∧ (mV acc).length + 1 ≤ 140737488355328, 0 ≤ (i : Int) ∧ (i : Int) < t.k.length, ((((mK acc) ++ ([x])).length + 1) * 16 : Nat) ≤ 140737488355328 ∧ ((mK acc) ++ ([x])).length + 1 ≤ 140737488355328, 0 ≤ (i : Int) ∧ (i : Int) < t.v.length, ((((mV acc) ++ ([(Tree.et v)])).length + 1) * 120 : Nat) ≤ 140737488355328 ∧ ((mV acc) ++ ([(Tree.et v)])).length + 1 ≤ 140737488355328, InR .i64 ((i : Int) + 1)] .norm [(1, vs x), (3, .ptr 1000 0), (5, .ptr 1001 0), (6, .ptr 1002 0), (7, .ptr 90000001 0), (8, vb true), (10, vb (memB t x)), (11, vi ((i : Int) + 1))] [(1000, bTr (t)), (1001, bTr (v)), (1002, .var zTr), (14008, .sl 9 .str (((mK acc) ++ ([x])) ++ ([(t.k.getD i (dflt .str))]))), (14017, .sl 29 .tree (((mV acc) ++ ([(Tree.et v)])) ++ ([(Tree.et (t.v.getD i (dflt .tree)))]))), (90000001, .var [vi 7, vb false, vb false, nilv, vi 0, vs (ba []), .own 14008, .own 14017])] ⟨tv, tv, tv, tv⟩ ⟨b1, b1, b1, b1, b1, b1, b2, b2, b2, b2, b3, (ng0 b4), (ng0 b4), (ng0 b4), (ng0 b4), (by omega), (ng0 b4), (ng0 b4), (ng0 b4), (ng0 b4), b5, (ng0 b4), (ng0 b4), (ng0 b4), (ng0 b6), (ng0 b6), (ng0 b6), (ng0 b6), (by omega), (ng0 b6), (ng0 b6), (ng0 b6), (ng0 b6), (ng0 b7), (by omega), (by omega), (by omega), (by simp only [List.length_append, List.length_cons, List.length_nil]; omega), (by omega), (by simp only [List.length_append, List.length_cons, List.length_nil]; omega), (inR64 (by omega) (by omega)), tv⟩ fun a w hs => ?_
        refine then_norm ⟨(i + 1, acc ++ [(x, v)] ++ [(t.k.getD i (dflt .str), t.v.getD i (dflt .tree))], true), ⟨⟨by omega, by omega⟩, hJ.put (by omega) (by omega) (by omega) b4 b6 (by unfold gtB; rw [b7]; rfl)⟩, by omega, ?_⟩
        (have e0_ : ((i : Int) + 1) = ((((i + 1) : Nat) : Int)) := (by first | rfl | (first | rfl | (simp only [mK_add, mV_add, Tree.eta']; rfl) | (simp [mK, mV, Tree.eta']; done))); have e1_ : (((mK acc) ++ ([x])) ++ ([(t.k.getD i (dflt .str))])) = (mK (acc ++ [(x, v)] ++ [(t.k.getD i (dflt .str), t.v.getD i (dflt .tree))])) := (by first | rfl | (first | rfl | (simp only [mK_add, mV_add, Tree.eta']; rfl) | (simp [mK, mV, Tree.eta']; done))); have e2_ : (((mV acc) ++ ([(Tree.et v)])) ++ ([(Tree.et (t.v.getD i (dflt .tree)))])) = (mV (acc ++ [(x, v)] ++ [(t.k.getD i (dflt .str), t.v.getD i (dflt .tree))])) := (by first | rfl | (first | rfl | (simp only [mK_add, mV_add, Tree.eta']; rfl) | (simp [mK, mV, Tree.eta']; done))); exact (hs.cst [(1, vs x), (3, .ptr 1000 0), (5, .ptr 1001 0), (6, .ptr 1002 0), (7, .ptr 90000001 0), (8, vb true), (10, vb (memB t x)), (11, vi (((i + 1) : Nat) : Int))] [(1000, bTr (t)), (1001, bTr (v)), (1002, .var zTr), (14008, .sl 9 .str (mK (acc ++ [(x, v)] ++ [(t.k.getD i (dflt .str), t.v.getD i (dflt .tree))]))), (14017, .sl 29 .tree (mV (acc ++ [(x, v)] ++ [(t.k.getD i (dflt .str), t.v.getD i (dflt .tree))]))), (90000001, .var [vi 7, vb false, vb false, nilv, vi 0, vs (ba []), .own 14008, .own 14017])] (by first | (rw [e0_, e1_, e2_]; done) | (simp only [e0_, e1_, e2_]; done) | rfl | (simp only [e0_, e1_, e2_]; rfl))).rm [(1000, 1000), (1001, 1001), (1002, 1002), (90000001, 90000001), (90000002, 14008), (90000003, 14017)] (by kernel_rfl))
   ·skip
    have n3 := beq_eq_false_iff_ne.1 b3
    refine wL hs hI [(5, ⟨[], gg [6, 7, 8, 9, 10, 1011, 13, 14, 15, 1016] [], []⟩)] [false] 67612582199672033311550815900166828125 [ty b1, ty b1, ty b1, ty b1, ty b1, ty b1, ty b2, ty b2, ty b2, ty b2, ty b3] (.exit 0) [(1, vs x), (5, .ptr 1001 0), (6, .ptr 1002 0), (7, .ptr 90000001 0), (8, vb done)] [(1001, bTr (v)), (1002, .var zTr), (90000001, .var [vi 7, vb false, vb false, nilv, vi 0, vs (ba []), .own 90000002, .own 90000003]), (90000002, .sl 9 .str (mK acc)), (90000003, .sl 29 .tree (mV acc))] ⟨tv, tv⟩ ⟨b1, b1, b1, b1, b1, b1, b2, b2, b2, b2, b3, tv⟩ fun a w hs => ?_
    refine then_exit ?_
    refine inb_hit ?_
    refine then_norm ?_
    rcases bt (done) with b8 | b8
    ·skip
     refine wN hs hI [false] 184570788250 [ty (ng1 b8)] .ret [(6, .ptr 1002 0)] [(1002, .var [vi 7, vb false, vb false, nilv, vi 0, vs (ba []), .own 90000002, .own 90000003]), (90000002, .sl 9 .str (mK acc)), (90000003, .sl 29 .tree (mV acc))] ⟨(ng1 b8), tv⟩ fun a w hs => ?_
     exact rK (.val (.agg [vi 7, vb false, vb false, rwU ([]), vi 0, vs (ba []), rwS (mK acc), rwT (mV acc)])) [90000002, 90000003] hs (by rw [hJ.fin_done b8 (mems_end (by omega))]; rfl)
    ·skip
     refine wN hs hI [true] 6875798135297372818054218757000 [ty (ng0 b8), (((mK acc).length + 1) * 16 : Nat) ≤ 140737488355328 ∧ (mK acc).length + 1 ≤ 140737488355328, (((mV acc).length + 1) * 120 : Nat) ≤ 140737488355328 ∧ (mV acc).length + 1 ≤ 140737488355328] .ret [(6, .ptr 1002 0)] [(1002, .var [vi 7, vb false, vb false, nilv, vi 0, vs (ba []), .own 16004, .own 16009]), (16004, .sl 9 .str ((mK acc) ++ ([x]))), (16009, .sl 29 .tree ((mV acc) ++ ([(Tree.et v)])))] ⟨(ng0 b8), (by omega), (by omega), tv⟩ fun a w hs => ?_
     exact rK (.val (.agg [vi 7, vb false, vb false, rwU ([]), vi 0, vs (ba []), rwS ((mK acc) ++ ([x])), rwT ((mV acc) ++ ([(Tree.et v)]))])) [16004, 16009] hs (by rw [Tree.eta', hJ.fin_not b8 (mems_end (by omega)), objM_snoc]; rfl)
  ·skip
   have n2 := of_decide_eq_false b2
   refine wL hs hI [(5, ⟨[], gg [6, 7, 8, 9, 10, 1011] [13, 14, 15, 1016], []⟩)] [false] 4327205260779010130165417989093750 [ty b1, ty b1, ty b1, ty b1, ty b1, ty b1, ty b2, ty b2, ty b2, ty b2, false = false] (.exit 0) [(1, vs x), (5, .ptr 1001 0), (6, .ptr 1002 0), (7, .ptr 90000001 0), (8, vb done)] [(1001, bTr (v)), (1002, .var zTr), (90000001, .var [vi 7, vb false, vb false, nilv, vi 0, vs (ba []), .own 90000002, .own 90000003]), (90000002, .sl 9 .str (mK acc)), (90000003, .sl 29 .tree (mV acc))] ⟨tv, tv⟩ ⟨b1, b1, b1, b1, b1, b1, b2, b2, b2, b2, rfl, tv⟩ fun a w hs => ?_
   refine then_exit ?_
   refine inb_hit ?_
   refine then_norm ?_
   rcases bt (done) with b9 | b9
   ·skip
    refine wN hs hI [false] 184570788250 [ty (ng1 b9)] .ret [(6, .ptr 1002 0)] [(1002, .var [vi 7, vb false, vb false, nilv, vi 0, vs (ba []), .own 90000002, .own 90000003]), (90000002, .sl 9 .str (mK acc)), (90000003, .sl 29 .tree (mV acc))] ⟨(ng1 b9), tv⟩ fun a w hs => ?_
    exact rK (.val (.agg [vi 7, vb false, vb false, rwU ([]), vi 0, vs (ba []), rwS (mK acc), rwT (mV acc)])) [90000002, 90000003] hs (by rw [hJ.fin_done b9 (mems_end (by omega))]; rfl)
   ·skip
    refine wN hs hI [true] 6875798135297372818054218757000 [ty (ng0 b9), (((mK acc).length + 1) * 16 : Nat) ≤ 140737488355328 ∧ (mK acc).length + 1 ≤ 140737488355328, (((mV acc).length + 1) * 120 : Nat) ≤ 140737488355328 ∧ (mV acc).length + 1 ≤ 140737488355328] .ret [(6, .ptr 1002 0)] [(1002, .var [vi 7, vb false, vb false, nilv, vi 0, vs (ba []), .own 16004, .own 16009]), (16004, .sl 9 .str ((mK acc) ++ ([x]))), (16009, .sl 29 .tree ((mV acc) ++ ([(Tree.et v)])))] ⟨(ng0 b9), (by omega), (by omega), tv⟩ fun a w hs => ?_
    exact rK (.val (.agg [vi 7, vb false, vb false, rwU ([]), vi 0, vs (ba []), rwS ((mK acc) ++ ([x])), rwT ((mV acc) ++ ([(Tree.et v)]))])) [16004, 16009] hs (by rw [Tree.eta', hJ.fin_not b9 (mems_end (by omega)), objM_snoc]; rfl)
 ·skip
  have n1 := of_decide_eq_false b1
  refine wL hs hI [(5, ⟨[], gg [] [6, 7, 8, 9, 10, 1011, 13, 14, 15, 1016], []⟩)] [false] 443105818703770064819328125 [ty b1, ty b1, ty b1, ty b1, ty b1, ty b1, false = false, false = false, false = false, false = false, false = false] (.exit 0) [(1, vs x), (5, .ptr 1001 0), (6, .ptr 1002 0), (7, .ptr 90000001 0), (8, vb done)] [(1001, bTr (v)), (1002, .var zTr), (90000001, .var [vi 7, vb false, vb false, nilv, vi 0, vs (ba []), .own 90000002, .own 90000003]), (90000002, .sl 9 .str (mK acc)), (90000003, .sl 29 .tree (mV acc))] ⟨tv, tv⟩ ⟨b1, b1, b1, b1, b1, b1, rfl, rfl, rfl, rfl, rfl, tv⟩ fun a w hs => ?_
  refine then_exit ?_
  refine inb_hit ?_
  refine then_norm ?_
  rcases bt (done) with b10 | b10
  ·skip
   refine wN hs hI [false] 184570788250 [ty (ng1 b10)] .ret [(6, .ptr 1002 0)] [(1002, .var [vi 7, vb false, vb false, nilv, vi 0, vs (ba []), .own 90000002, .own 90000003]), (90000002, .sl 9 .str (mK acc)), (90000003, .sl 29 .tree (mV acc))] ⟨(ng1 b10), tv⟩ fun a w hs => ?_
   exact rK (.val (.agg [vi 7, vb false, vb false, rwU ([]), vi 0, vs (ba []), rwS (mK acc), rwT (mV acc)])) [90000002, 90000003] hs (by rw [hJ.fin_done b10 (mems_end (by omega))]; rfl)
  ·skip
   refine wN hs hI [true] 6875798135297372818054218757000 [ty (ng0 b10), (((mK acc).length + 1) * 16 : Nat) ≤ 140737488355328 ∧ (mK acc).length + 1 ≤ 140737488355328, (((mV acc).length + 1) * 120 : Nat) ≤ 140737488355328 ∧ (mV acc).length + 1 ≤ 140737488355328] .ret [(6, .ptr 1002 0)] [(1002, .var [vi 7, vb false, vb false, nilv, vi 0, vs (ba []), .own 16004, .own 16009]), (16004, .sl 9 .str ((mK acc) ++ ([x]))), (16009, .sl 29 .tree ((mV acc) ++ ([(Tree.et v)])))] ⟨(ng0 b10), (by omega), (by omega), tv⟩ fun a w hs => ?_
   exact rK (.val (.agg [vi 7, vb false, vb false, rwU ([]), vi 0, vs (ba []), rwS ((mK acc) ++ ([x])), rwT ((mV acc) ++ ([(Tree.et v)]))])) [16004, 16009] hs (by rw [Tree.eta', hJ.fin_not b10 (mems_end (by omega)), objM_snoc]; rfl)
def makeN (neg : Bool) (n : Nat) (e : Int) : Num × Bool :=
 if (lim (tz n).1).length = 0 then (⟨false, [], 0⟩, true)
 else if (lim (tz n).1).length > 90 ∨ e < -1099511627776 ∨ e > 1099511627776 ∨ (((tz n).2 : Nat) : Int) > 1099511627776 ∨ e + (((tz n).2 : Nat) : Int) < -1200 ∨ e + (((tz n).2 : Nat) : Int) > 1200 then (⟨false, [], 0⟩, false)
 else (⟨neg, lim (tz n).1, e + (((tz n).2 : Nat) : Int)⟩, true)
theorem makeN_check (neg : Bool) (n : Nat) (e : Int) : checkN (makeN neg n e).1 = true := by
 unfold makeN
 split
 ·rfl
 ·rename_i h0
  split
  ·rfl
  ·rename_i h
   simp only [not_or] at h
   have hn : (tz n).1 ≠ 0 := fun hz => h0 (by rw [hz, lim_zero]; rfl)
   have hn2 : n ≠ 0 := fun hz => hn (by rw [hz, tz_zero])
   show checkN ⟨neg, lim (tz n).1, e + (((tz n).2 : Nat) : Int)⟩ = true
   unfold checkN
   rw [if_neg h0, if_neg (show ¬ (lim (tz n).1).length > 90 by omega), if_neg (lim_last h0), if_neg (by show ¬ e + _ < _; omega), if_neg (by show ¬ e + _ > _; omega)]
   show decide (val (lim (tz n).1) % 10 ≠ 0) = true
   rw [val_lim]
   exact decide_eq_true (tz_mod hn2)
theorem makeN_ok (neg : Bool) (n : Nat) (e : Int) : Ok (makeN neg n e).1.m := by
 unfold makeN
 split
 ·exact Ok.nil
 ·split
  ·exact Ok.nil
  ·exact lim_ok _
theorem makeN_len (neg : Bool) {l : List Int} (hl : Ok l) (e : Int) : (makeN neg (val l) e).1.m.length ≤ l.length := by
 unfold makeN
 split
 ·exact Nat.zero_le _
 ·split
  ·exact Nat.zero_le _
  ·exact lim_len hl (tz_le _)
theorem wrap32_in (x : Int) : 0 ≤ IntKind.wrap .u32 x ∧ IntKind.wrap .u32 x < 4294967296 := by
 simp only [IntKind.wrap, IntKind.bits, IntKind.signed]
 simp
 omega
theorem ok1 {x : Int} (h : 0 ≤ x ∧ x < 4294967296) : Ok [x] := Ok.cons h.1 h.2 Ok.nil
theorem ok2 {x y : Int} (h : 0 ≤ x ∧ x < 4294967296) (h2 : 0 ≤ y ∧ y < 4294967296) : Ok [x, y] := Ok.cons h.1 h.2 (ok1 h2)
theorem ok3 {x y z : Int} (h : 0 ≤ x ∧ x < 4294967296) (h2 : 0 ≤ y ∧ y < 4294967296) (h3 : 0 ≤ z ∧ z < 4294967296) : Ok [x, y, z] := Ok.cons h.1 h.2 (ok2 h2 h3)
structure FineN (n : Num) : Prop where
 check : checkN n = true
 ok : Ok n.m
 len : n.m.length ≤ 3
theorem fineN_make {neg : Bool} {l : List Int} (hl : Ok l) (h3 : l.length ≤ 3) (e : Int) : FineN (makeN neg (val l) e).1 := ⟨makeN_check _ _ _, makeN_ok _ _ _, Nat.le_trans (makeN_len _ hl _) h3⟩
def uabs (v : Int) : Int := if decide (v < 0) = true then IntKind.wrap .u64 (0 - IntKind.wrap .u64 v) else IntKind.wrap .u64 v
def ofN (v : Int) : Num := (makeN (decide (v < 0)) (val [IntKind.wrap .u32 (uabs v), IntKind.wrap .u32 ((uabs v).fdiv (2 ^ 32))]) 0).1
theorem fineN_of (v : Int) : FineN (ofN v) := fineN_make (ok2 (wrap32_in _) (wrap32_in _)) (Nat.le_of_ble_eq_true rfl) 0
def numberN (v : Int) : Num :=
 if v.tmod 5 = 0 then ofN ((v.tdiv 5).tmod 60 - 20)
 else if v.tmod 5 = 1 then (makeN ((v.tdiv 5).tmod 2 == 1) (val [IntKind.wrap .u32 ((v.tdiv 10).tmod 2000)]) ((v.tdiv 7).tmod 9 - 5)).1
 else if v.tmod 5 = 2 then (makeN false (val [IntKind.wrap .u32 v, IntKind.wrap .u32 (v.tdiv 3), IntKind.wrap .u32 (v.tmod 7)]) 0).1
 else if v.tmod 5 = 3 then (makeN (v.tmod 2 == 1) (val [5, IntKind.wrap .u32 v]) (IntKind.wrap .i64 (0 - (v.tdiv 5).tmod 30))).1
 else ofN v
theorem fineN_number (v : Int) : FineN (numberN v) := by
 unfold numberN
 repeat' split
 ·exact fineN_of _
 ·exact fineN_make (ok1 (wrap32_in _)) (Nat.le_of_ble_eq_true rfl) _
 ·exact fineN_make (ok3 (wrap32_in _) (wrap32_in _) (wrap32_in _)) (Nat.le_of_ble_eq_true rfl) _
 ·exact fineN_make (ok2 ⟨by decide, by decide⟩ (wrap32_in _)) (Nat.le_of_ble_eq_true rfl) _
 ·exact fineN_of _
theorem td {a : Int} (h : -9223372036854775808 ≤ a ∧ a ≤ 9223372036854775807) (k : Int) (hk : 2 ≤ k) : -9223372036854775808 < a.tdiv k ∧ a.tdiv k ≤ 9223372036854775807 := by
 have h1 : (a.tdiv k).natAbs = a.natAbs / k.natAbs := Int.natAbs_tdiv a k
 have h2 : a.natAbs / k.natAbs ≤ a.natAbs / 2 := Nat.div_le_div_left (by omega) (by omega)
 omega
theorem tm {a : Int} (k : Int) (hk : 0 < k) : -k < a.tmod k ∧ a.tmod k < k := ⟨Int.lt_tmod_of_pos a hk, Int.tmod_lt_of_pos a hk⟩
theorem con212 (l : List Int) (ha : Ok l) (hl : l.length < 1000000000) : Con Tryz.prog I0 212 [.row (.int .u32) l] (.val (.tup [.row (.int .u32) (lim (tz (val l)).1), vi (((tz (val l)).2 : Nat) : Int)])) := by
 refine con_of Tryz.func212 rfl (Nat.le_of_ble_eq_true rfl) stab (fun w0 fz a hI hs => ?_)
 refine wp_seq ?_
 refine wN hs hI [] 750 [] .norm [(0, rwU l)] [] tv fun a w hs => ?_
 refine then_norm ?_
 refine wp_seq ?_
 refine wL hs hI [(1, ⟨[(1, ciV 250 [rwU l] (rwU (lim (val l))))], [], []⟩)] [] 19390 [] .norm [(4, rwU (lim (val l)))] [] ⟨⟨⟨ent250, (trim_lim ha ▸ (con250 _ (by omega)).frz)⟩, tv⟩, tv⟩ tv fun a w hs => ?_
 refine then_norm ?_
 refine wp_seq ?_
 refine wN hs hI [] 25 [] .norm [(4, rwU (lim (val l))), (5, vi 0)] [] tv fun a w hs => ?_
 refine then_norm ?_
 refine wp_seq ?_
 refine wp_block ?_
 refine loop_L (N := Tryz.f212.ntmps) (w0 := w0) (ow := noO fz) (α := Nat × Nat) (fun p => [(4, rwU (lim p.1)), (5, vi ((p.2 : Nat) : Int))]) (fun p => []) (fun p => p.1 ≤ val l ∧ tz (val l) = ((tz p.1).1, p.2 + (tz p.1).2)) (fun p => p.1) (val l, 0) ?_ ?_ ?_
 ·exact ⟨Nat.le_refl _, by simp⟩
 ·exact (hs.cst [(4, rwU (lim (val l))), (5, vi ((0 : Nat) : Int))] [] rfl).rm [] (by kernel_rfl)
 rintro ⟨n, c⟩ hJ a w hs
 try dsimp only at hJ
 obtain ⟨hn, hz⟩ := hJ
 have hln := lim_len ha hn
 have htz := tz_small ha hl
 rw [hz] at htz
 have hl0 := lim_len_zero n
 have hvl := val_lim n
 rcases bt (decide (((lim n).length : Int) > 0)) with b1 | b1
 ·skip
  have n1 := of_decide_eq_true b1
  rcases bt (((val (lim n) % 10 : Nat) : Int) != 0) with b2 | b2
  ·skip
   have n2 := bne_iff_ne.1 b2
   refine wL hs hI [(4, ⟨[(1, ciV 218 [rwU (lim n), .lit (.int .u32 10)] (.tup [rwU (lim (val (lim n) / 10)), .lit (.int .u32 ((val (lim n) % 10 : Nat) : Int))]))], [], []⟩)] [true, true] 18171221390361786632988125 [ty b1, ty b2] (.exit 0) [(4, rwU (lim n)), (5, vi (c : Int))] [] ⟨⟨⟨ent218, con218_10 _ (lim_ok n) (by omega)⟩, tv⟩, tv⟩ ⟨b1, b2, tv⟩ fun a w hs => ?_
   refine then_exit ?_
   refine inb_hit ?_
   refine then_norm ?_
   refine wN hs hI [] 10253125 [] .ret [(2, rwU (lim n)), (3, vi (c : Int))] [] tv fun a w hs => ?_
   exact rK (.val (.tup [rwU (lim n), vi (c : Int)])) [] hs (by have h := bne_iff_ne.1 b2; rw [hvl] at h; rw [tz_end (.inl (by omega)) hz])
  ·skip
   have n2 := bne_eq_false_iff_eq.1 b2
   refine wL hs hI [(4, ⟨[(1, ciV 218 [rwU (lim n), .lit (.int .u32 10)] (.tup [rwU (lim (val (lim n) / 10)), .lit (.int .u32 ((val (lim n) % 10 : Nat) : Int))]))], [], []⟩)] [true, false] 111020974510010518506164551525566250 [ty b1, ty b2, InR .i64 ((c : Int) + 1)] .norm [(4, rwU (lim (val (lim n) / 10))), (5, vi ((c : Int) + 1))] [] ⟨⟨⟨ent218, con218_10 _ (lim_ok n) (by omega)⟩, tv⟩, tv⟩ ⟨b1, b2, (inR64 (by omega) (by omega)), tv⟩ fun a w hs => ?_
   refine then_norm ⟨(n / 10, c + 1), ⟨by omega, tz_iter (by omega) (by have h := bne_eq_false_iff_eq.1 b2; rw [hvl] at h; omega) hz⟩, by omega, ?_⟩
   (have e0_ : (lim (val (lim n) / 10)) = (lim (n / 10)) := (by first | rfl | (rw [hvl])); have e1_ : ((c : Int) + 1) = ((((c + 1) : Nat) : Int)) := (by first | rfl | (omega)); exact (hs.cst [(4, rwU (lim (n / 10))), (5, vi (((c + 1) : Nat) : Int))] [] (by first | (rw [e0_, e1_]; done) | (simp only [e0_, e1_]; done) | rfl | (simp only [e0_, e1_]; rfl))).rm [] (by kernel_rfl))
 ·skip
  have n1 := of_decide_eq_false b1
  refine wN hs hI [false] 11894375 [ty b1] (.exit 0) [(4, rwU (lim n)), (5, vi (c : Int))] [] ⟨b1, tv⟩ fun a w hs => ?_
  refine then_exit ?_
  refine inb_hit ?_
  refine then_norm ?_
  refine wN hs hI [] 10253125 [] .ret [(2, rwU (lim n)), (3, vi (c : Int))] [] tv fun a w hs => ?_
  exact rK (.val (.tup [rwU (lim n), vi (c : Int)])) [] hs (by rw [tz_end (.inr (by omega)) hz])
theorem con167 (neg : Bool) (l : List Int) (e : Int) (ha : Ok l) (hl : l.length < 1000000000) : Con Tryz.prog I0 167 [vb neg, .row (.int .u32) l, vi e] (.val (.tup [.agg [vb (((makeN neg (val l) e).1).neg), .row (.int .u32) (((makeN neg (val l) e).1).m), vi (((makeN neg (val l) e).1).e)], vb ((makeN neg (val l) e).2)])) := by
 refine con_of Tryz.func167 rfl (Nat.le_of_ble_eq_true rfl) stab (fun w0 fz a hI hs => ?_)
 rcases bt (((lim (tz (val l)).1).length : Int) == 0) with b1 | b1
 ·skip
  have n1 := eq_of_beq b1
  refine wL hs hI [(1, ⟨[(1, ciV 212 [rwU l] (.tup [rwU (lim (tz (val l)).1), vi (((tz (val l)).2 : Nat) : Int)]))], [], []⟩)] [true] 11365767585098767280273485125 [ty b1] .ret [(6, .ptr 1000 0), (7, vb true)] [(1000, .var [vb false, nilv, vi 0])] ⟨⟨⟨ent212, con212 _ ha hl⟩, tv⟩, tv⟩ ⟨b1, tv⟩ fun a w hs => ?_
  exact rK (.val (.tup [.agg [vb false, rwU ([]), vi 0], vb true])) [] hs (by rw [makeN, if_pos (by omega)])
 ·skip
  have n1 := beq_eq_false_iff_ne.1 b1
  rcases bt (decide (((lim (tz (val l)).1).length : Int) > 90)) with b2 | b2
  ·skip
   have n2 := of_decide_eq_true b2
   refine wL hs hI [(1, ⟨[(1, ciV 212 [rwU l] (.tup [rwU (lim (tz (val l)).1), vi (((tz (val l)).2 : Nat) : Int)]))], [], []⟩), (4, ⟨[], gg [1006, 1010, 1014, 1020, 1026] [4, 5, 8, 9, 12, 13, 16, 17, 18, 19, 22, 23, 24, 25], []⟩)] [false, true] 9860255437449404278202770552184254215503755584360303342366218261766375 [ty b1, ty b2, ty b2, ty b2, true = true, true = true, true = true, true = true, true = true, true = true, true = true, true = true, true = true, true = true, true = true, true = true, true = true, true = true, true = true, true = true, true = true] .ret [(6, .ptr 1000 0), (7, vb false)] [(1000, .var [vb false, nilv, vi 0])] ⟨⟨⟨ent212, con212 _ ha hl⟩, tv⟩, tv, tv⟩ ⟨b1, b2, b2, b2, rfl, rfl, rfl, rfl, rfl, rfl, rfl, rfl, rfl, rfl, rfl, rfl, rfl, rfl, rfl, rfl, rfl, tv⟩ fun a w hs => ?_
   exact rK (.val (.tup [.agg [vb false, rwU ([]), vi 0], vb false])) [] hs (by rw [makeN, if_neg (by omega), if_pos (by omega)])
  ·skip
   have n2 := of_decide_eq_false b2
   rcases bt (decide (e < (-1099511627776))) with b3 | b3
   ·skip
    have n3 := of_decide_eq_true b3
    refine wL hs hI [(1, ⟨[(1, ciV 212 [rwU l] (.tup [rwU (lim (tz (val l)).1), vi (((tz (val l)).2 : Nat) : Int)]))], [], []⟩), (4, ⟨[], gg [4, 5, 1010, 1014, 1020, 1026] [1006, 8, 9, 12, 13, 16, 17, 18, 19, 22, 23, 24, 25], []⟩)] [false, true] 6162659648405877673876731595130774060679701146151638792812848090820360125 [ty b1, ty b2, ty b2, ty b2, ty b3, ty b3, ty b3, true = true, true = true, true = true, true = true, true = true, true = true, true = true, true = true, true = true, true = true, true = true, true = true, true = true, true = true] .ret [(6, .ptr 1000 0), (7, vb false)] [(1000, .var [vb false, nilv, vi 0])] ⟨⟨⟨ent212, con212 _ ha hl⟩, tv⟩, tv, tv⟩ ⟨b1, b2, b2, b2, b3, b3, b3, rfl, rfl, rfl, rfl, rfl, rfl, rfl, rfl, rfl, rfl, rfl, rfl, rfl, rfl, tv⟩ fun a w hs => ?_
    exact rK (.val (.tup [.agg [vb false, rwU ([]), vi 0], vb false])) [] hs (by rw [makeN, if_neg (by omega), if_pos (by omega)])
   ·skip
    have n3 := of_decide_eq_false b3
    rcases bt (decide (e > 1099511627776)) with b4 | b4
    ·skip
     have n4 := of_decide_eq_true b4
     refine wL hs hI [(1, ⟨[(1, ciV 212 [rwU l] (.tup [rwU (lim (tz (val l)).1), vi (((tz (val l)).2 : Nat) : Int)]))], [], []⟩), (4, ⟨[], gg [4, 5, 8, 9, 1014, 1020, 1026] [1006, 1010, 12, 13, 16, 17, 18, 19, 22, 23, 24, 25], []⟩)] [false, true] 3851662280253673546172957246957124167324559553075383884103953862189941453875 [ty b1, ty b2, ty b2, ty b2, ty b3, ty b3, ty b3, ty b4, ty b4, ty b4, true = true, true = true, true = true, true = true, true = true, true = true, true = true, true = true, true = true, true = true, true = true] .ret [(6, .ptr 1000 0), (7, vb false)] [(1000, .var [vb false, nilv, vi 0])] ⟨⟨⟨ent212, con212 _ ha hl⟩, tv⟩, tv, tv⟩ ⟨b1, b2, b2, b2, b3, b3, b3, b4, b4, b4, rfl, rfl, rfl, rfl, rfl, rfl, rfl, rfl, rfl, rfl, rfl, tv⟩ fun a w hs => ?_
     exact rK (.val (.tup [.agg [vb false, rwU ([]), vi 0], vb false])) [] hs (by rw [makeN, if_neg (by omega), if_pos (by omega)])
    ·skip
     have n4 := of_decide_eq_false b4
     rcases bt (decide ((((tz (val l)).2 : Nat) : Int) > 1099511627776)) with b5 | b5
     ·skip
      have n5 := of_decide_eq_true b5
      refine wL hs hI [(1, ⟨[(1, ciV 212 [rwU l] (.tup [rwU (lim (tz (val l)).1), vi (((tz (val l)).2 : Nat) : Int)]))], [], []⟩), (4, ⟨[], gg [4, 5, 8, 9, 12, 13, 1020, 1026] [1006, 1010, 1014, 16, 17, 18, 19, 22, 23, 24, 25], []⟩)] [false, true] 2407288925158545966358098279348212364062843208560119970935599863553046875047625 [ty b1, ty b2, ty b2, ty b2, ty b3, ty b3, ty b3, ty b4, ty b4, ty b4, ty b5, ty b5, ty b5, ty b5, ty b5, true = true, true = true, true = true, true = true, true = true, true = true] .ret [(6, .ptr 1000 0), (7, vb false)] [(1000, .var [vb false, nilv, vi 0])] ⟨⟨⟨ent212, con212 _ ha hl⟩, tv⟩, tv, tv⟩ ⟨b1, b2, b2, b2, b3, b3, b3, b4, b4, b4, b5, b5, b5, b5, b5, rfl, rfl, rfl, rfl, rfl, rfl, tv⟩ fun a w hs => ?_
      exact rK (.val (.tup [.agg [vb false, rwU ([]), vi 0], vb false])) [] hs (by rw [makeN, if_neg (by omega), if_pos (by omega)])
     ·skip
      have n5 := of_decide_eq_false b5
      rcases bt (decide ((e + (((tz (val l)).2 : Nat) : Int)) < (-1200))) with b6 | b6
      ·skip
       have n6 := of_decide_eq_true b6
       refine wL hs hI [(1, ⟨[(1, ciV 212 [rwU l] (.tup [rwU (lim (tz (val l)).1), vi (((tz (val l)).2 : Nat) : Int)]))], [], []⟩), (4, ⟨[], gg [4, 5, 8, 9, 12, 13, 16, 17, 18, 19, 1026] [1006, 1010, 1014, 1020, 22, 23, 24, 25], []⟩)] [false, true] 940347236390057018108632140370395613303677609962997567076096312345922017097168016375 [ty b1, ty b2, ty b2, ty b2, ty b3, ty b3, ty b3, ty b4, ty b4, ty b4, ty b5, ty b5, ty b5, InR .i64 (e + (((tz (val l)).2 : Nat) : Int)), ty b5, ty b5, ty b6, ty b6, ty b6, ty b6, ty b6, true = true] .ret [(6, .ptr 1000 0), (7, vb false)] [(1000, .var [vb false, nilv, vi 0])] ⟨⟨⟨ent212, con212 _ ha hl⟩, tv⟩, tv, tv⟩ ⟨b1, b2, b2, b2, b3, b3, b3, b4, b4, b4, b5, b5, b5, (inR64 (by omega) (by omega)), b5, b5, b6, b6, b6, b6, b6, rfl, tv⟩ fun a w hs => ?_
       exact rK (.val (.tup [.agg [vb false, rwU ([]), vi 0], vb false])) [] hs (by rw [makeN, if_neg (by omega), if_pos (by omega)])
      ·skip
       have n6 := of_decide_eq_false b6
       rcases bt (decide ((e + (((tz (val l)).2 : Nat) : Int)) > 1200)) with b7 | b7
       ·skip
        have n7 := of_decide_eq_true b7
        refine wL hs hI [(1, ⟨[(1, ciV 212 [rwU l] (.tup [rwU (lim (tz (val l)).1), vi (((tz (val l)).2 : Nat) : Int)]))], [], []⟩), (4, ⟨[], gg [4, 5, 8, 9, 12, 13, 16, 17, 18, 19, 22, 23, 24, 25] [1006, 1010, 1014, 1020, 1026], []⟩)] [false, true] 367323139214866022698684429832185786545852571741921944551793425640790926277661323242235125 [ty b1, ty b2, ty b2, ty b2, ty b3, ty b3, ty b3, ty b4, ty b4, ty b4, ty b5, ty b5, ty b5, InR .i64 (e + (((tz (val l)).2 : Nat) : Int)), ty b5, ty b5, ty b6, ty b6, ty b6, InR .i64 (e + (((tz (val l)).2 : Nat) : Int)), ty b6, ty b6, ty b7] .ret [(6, .ptr 1000 0), (7, vb false)] [(1000, .var [vb false, nilv, vi 0])] ⟨⟨⟨ent212, con212 _ ha hl⟩, tv⟩, tv, tv⟩ ⟨b1, b2, b2, b2, b3, b3, b3, b4, b4, b4, b5, b5, b5, (inR64 (by omega) (by omega)), b5, b5, b6, b6, b6, (inR64 (by omega) (by omega)), b6, b6, b7, tv⟩ fun a w hs => ?_
        exact rK (.val (.tup [.agg [vb false, rwU ([]), vi 0], vb false])) [] hs (by rw [makeN, if_neg (by omega), if_pos (by omega)])
       ·skip
        have n7 := of_decide_eq_false b7
        refine wL hs hI [(1, ⟨[(1, ciV 212 [rwU l] (.tup [rwU (lim (tz (val l)).1), vi (((tz (val l)).2 : Nat) : Int)]))], [], []⟩), (4, ⟨[], gg [4, 5, 8, 9, 12, 13, 16, 17, 18, 19, 22, 23, 24, 25] [1006, 1010, 1014, 1020, 1026], []⟩)] [false, false] 89660142828092738500747249119624268964270953321102001010945460139171340566828118622326850585985125 [ty b1, ty b2, ty b2, ty b2, ty b3, ty b3, ty b3, ty b4, ty b4, ty b4, ty b5, ty b5, ty b5, InR .i64 (e + (((tz (val l)).2 : Nat) : Int)), ty b5, ty b5, ty b6, ty b6, ty b6, InR .i64 (e + (((tz (val l)).2 : Nat) : Int)), ty b6, ty b6, ty b7, InR .i64 (e + (((tz (val l)).2 : Nat) : Int))] .ret [(6, .ptr 1000 0), (7, vb true)] [(1000, .var [vb neg, rwU (lim (tz (val l)).1), vi (e + (((tz (val l)).2 : Nat) : Int))])] ⟨⟨⟨ent212, con212 _ ha hl⟩, tv⟩, tv, tv⟩ ⟨b1, b2, b2, b2, b3, b3, b3, b4, b4, b4, b5, b5, b5, (inR64 (by omega) (by omega)), b5, b5, b6, b6, b6, (inR64 (by omega) (by omega)), b6, b6, b7, (inR64 (by omega) (by omega)), tv⟩ fun a w hs => ?_
        exact rK (.val (.tup [.agg [vb neg, rwU (lim (tz (val l)).1), vi (e + (((tz (val l)).2 : Nat) : Int))], vb true])) [] hs (by rw [makeN, if_neg (by omega), if_neg (by omega)])
theorem con166 (v : Int) : Con Tryz.prog I0 166 [vi v] (.val (.agg [vb ((ofN v).neg), .row (.int .u32) ((ofN v).m), vi ((ofN v).e)])) := by
 refine con_of Tryz.func166 rfl (Nat.le_of_ble_eq_true rfl) stab (fun w0 fz a hI hs => ?_)
 rcases bt (decide (v < 0)) with b1 | b1
 ·skip
  have n1 := of_decide_eq_true b1
  refine wL hs hI [(4, ⟨[(8, ciA 167 [vb (decide (v < 0)), rwU ([IntKind.wrap .u32 (IntKind.wrap .u64 (0 - (IntKind.wrap .u64 v))), IntKind.wrap .u32 ((IntKind.wrap .u64 (0 - (IntKind.wrap .u64 v))).fdiv (2 ^ 32))]), vi 0] [] [5007] (.val (.tup [.agg [vb (((makeN (decide (v < 0)) (val ([IntKind.wrap .u32 (IntKind.wrap .u64 (0 - (IntKind.wrap .u64 v))), IntKind.wrap .u32 ((IntKind.wrap .u64 (0 - (IntKind.wrap .u64 v))).fdiv (2 ^ 32))])) 0).1).neg), rwU (((makeN (decide (v < 0)) (val ([IntKind.wrap .u32 (IntKind.wrap .u64 (0 - (IntKind.wrap .u64 v))), IntKind.wrap .u32 ((IntKind.wrap .u64 (0 - (IntKind.wrap .u64 v))).fdiv (2 ^ 32))])) 0).1).m), vi (((makeN (decide (v < 0)) (val ([IntKind.wrap .u32 (IntKind.wrap .u64 (0 - (IntKind.wrap .u64 v))), IntKind.wrap .u32 ((IntKind.wrap .u64 (0 - (IntKind.wrap .u64 v))).fdiv (2 ^ 32))])) 0).1).e)], vb ((makeN (decide (v < 0)) (val ([IntKind.wrap .u32 (IntKind.wrap .u64 (0 - (IntKind.wrap .u64 v))), IntKind.wrap .u32 ((IntKind.wrap .u64 (0 - (IntKind.wrap .u64 v))).fdiv (2 ^ 32))])) 0).2)])))], [], []⟩)] [true] 16936279115253860527446144260540580817873515650 [ty b1] .ret [(2, .ptr 1000 0)] [(1000, .var [vb (((makeN (decide (v < 0)) (val ([IntKind.wrap .u32 (IntKind.wrap .u64 (0 - (IntKind.wrap .u64 v))), IntKind.wrap .u32 ((IntKind.wrap .u64 (0 - (IntKind.wrap .u64 v))).fdiv (2 ^ 32))])) 0).1).neg), rwU (((makeN (decide (v < 0)) (val ([IntKind.wrap .u32 (IntKind.wrap .u64 (0 - (IntKind.wrap .u64 v))), IntKind.wrap .u32 ((IntKind.wrap .u64 (0 - (IntKind.wrap .u64 v))).fdiv (2 ^ 32))])) 0).1).m), vi (((makeN (decide (v < 0)) (val ([IntKind.wrap .u32 (IntKind.wrap .u64 (0 - (IntKind.wrap .u64 v))), IntKind.wrap .u32 ((IntKind.wrap .u64 (0 - (IntKind.wrap .u64 v))).fdiv (2 ^ 32))])) 0).1).e)])] ⟨⟨⟨ent167, con167 _ _ _ (ok2 (by first | exact wrap32_in _ | decide) (wrap32_in _)) (Nat.le_of_ble_eq_true rfl)⟩, tv⟩, tv⟩ ⟨b1, tv⟩ fun a w hs => ?_
  exact rK (.val (.agg [vb (((makeN (decide (v < 0)) (val ([IntKind.wrap .u32 (IntKind.wrap .u64 (0 - (IntKind.wrap .u64 v))), IntKind.wrap .u32 ((IntKind.wrap .u64 (0 - (IntKind.wrap .u64 v))).fdiv (2 ^ 32))])) 0).1).neg), rwU (((makeN (decide (v < 0)) (val ([IntKind.wrap .u32 (IntKind.wrap .u64 (0 - (IntKind.wrap .u64 v))), IntKind.wrap .u32 ((IntKind.wrap .u64 (0 - (IntKind.wrap .u64 v))).fdiv (2 ^ 32))])) 0).1).m), vi (((makeN (decide (v < 0)) (val ([IntKind.wrap .u32 (IntKind.wrap .u64 (0 - (IntKind.wrap .u64 v))), IntKind.wrap .u32 ((IntKind.wrap .u64 (0 - (IntKind.wrap .u64 v))).fdiv (2 ^ 32))])) 0).1).e)])) [] hs (by unfold ofN uabs; rw [if_pos b1])
 ·skip
  have n1 := of_decide_eq_false b1
  refine wL hs hI [(4, ⟨[(8, ciA 167 [vb (decide (v < 0)), rwU ([IntKind.wrap .u32 (IntKind.wrap .u64 v), IntKind.wrap .u32 ((IntKind.wrap .u64 v).fdiv (2 ^ 32))]), vi 0] [] [5007] (.val (.tup [.agg [vb (((makeN (decide (v < 0)) (val ([IntKind.wrap .u32 (IntKind.wrap .u64 v), IntKind.wrap .u32 ((IntKind.wrap .u64 v).fdiv (2 ^ 32))])) 0).1).neg), rwU (((makeN (decide (v < 0)) (val ([IntKind.wrap .u32 (IntKind.wrap .u64 v), IntKind.wrap .u32 ((IntKind.wrap .u64 v).fdiv (2 ^ 32))])) 0).1).m), vi (((makeN (decide (v < 0)) (val ([IntKind.wrap .u32 (IntKind.wrap .u64 v), IntKind.wrap .u32 ((IntKind.wrap .u64 v).fdiv (2 ^ 32))])) 0).1).e)], vb ((makeN (decide (v < 0)) (val ([IntKind.wrap .u32 (IntKind.wrap .u64 v), IntKind.wrap .u32 ((IntKind.wrap .u64 v).fdiv (2 ^ 32))])) 0).2)])))], [], []⟩)] [false] 1083921863376247073756553232674476320781275 [ty b1] .ret [(2, .ptr 1000 0)] [(1000, .var [vb (((makeN (decide (v < 0)) (val ([IntKind.wrap .u32 (IntKind.wrap .u64 v), IntKind.wrap .u32 ((IntKind.wrap .u64 v).fdiv (2 ^ 32))])) 0).1).neg), rwU (((makeN (decide (v < 0)) (val ([IntKind.wrap .u32 (IntKind.wrap .u64 v), IntKind.wrap .u32 ((IntKind.wrap .u64 v).fdiv (2 ^ 32))])) 0).1).m), vi (((makeN (decide (v < 0)) (val ([IntKind.wrap .u32 (IntKind.wrap .u64 v), IntKind.wrap .u32 ((IntKind.wrap .u64 v).fdiv (2 ^ 32))])) 0).1).e)])] ⟨⟨⟨ent167, con167 _ _ _ (ok2 (by first | exact wrap32_in _ | decide) (wrap32_in _)) (Nat.le_of_ble_eq_true rfl)⟩, tv⟩, tv⟩ ⟨b1, tv⟩ fun a w hs => ?_
  exact rK (.val (.agg [vb (((makeN (decide (v < 0)) (val ([IntKind.wrap .u32 (IntKind.wrap .u64 v), IntKind.wrap .u32 ((IntKind.wrap .u64 v).fdiv (2 ^ 32))])) 0).1).neg), rwU (((makeN (decide (v < 0)) (val ([IntKind.wrap .u32 (IntKind.wrap .u64 v), IntKind.wrap .u32 ((IntKind.wrap .u64 v).fdiv (2 ^ 32))])) 0).1).m), vi (((makeN (decide (v < 0)) (val ([IntKind.wrap .u32 (IntKind.wrap .u64 v), IntKind.wrap .u32 ((IntKind.wrap .u64 v).fdiv (2 ^ 32))])) 0).1).e)])) [] hs (by unfold ofN uabs; rw [if_neg (by rw [b1]; decide)])
theorem con110 (v : Int) (hv : -9223372036854775808 ≤ v ∧ v ≤ 9223372036854775807) : Con Tryz.prog I0 110 [vi v] (.val (.agg [vb ((numberN v).neg), .row (.int .u32) ((numberN v).m), vi ((numberN v).e)])) := by
 have a1 := td hv 3 (by decide)
 have a2 := td hv 5 (by decide)
 have a3 := td hv 7 (by decide)
 have a4 := td hv 10 (by decide)
 have b1 := tm (a := v.tdiv 5) 60 (by decide)
 have b2 := tm (a := v.tdiv 7) 9 (by decide)
 have b3 := tm (a := v.tdiv 5) 30 (by decide)
 refine con_of Tryz.func110 rfl (Nat.le_of_ble_eq_true rfl) stab (fun w0 fz a hI hs => ?_)
 rcases bt ((v.tmod 5) == 0) with b1 | b1
 ·skip
  have n1 := eq_of_beq b1
  refine wL hs hI [(3, ⟨[(4, ciV 166 [vi (((v.tdiv 5).tmod 60) - 20)] (.agg [vb ((ofN (((v.tdiv 5).tmod 60) - 20)).neg), rwU ((ofN (((v.tdiv 5).tmod 60) - 20)).m), vi ((ofN (((v.tdiv 5).tmod 60) - 20)).e)]))], [], []⟩)] [true] 29096379770266406345025 [(5 : Int) ≠ 0, ty b1, (5 : Int) ≠ 0 ∧ InR .i64 (v.tdiv 5), (60 : Int) ≠ 0, InR .i64 (((v.tdiv 5).tmod 60) - 20)] .ret [(2, .ptr 1000 0)] [(1000, .var [vb ((ofN (((v.tdiv 5).tmod 60) - 20)).neg), rwU ((ofN (((v.tdiv 5).tmod 60) - 20)).m), vi ((ofN (((v.tdiv 5).tmod 60) - 20)).e)])] ⟨⟨⟨ent166, con166 _⟩, tv⟩, tv⟩ ⟨(by decide), b1, (by first | exact inR64 (by omega) (by omega) | exact ⟨by decide, inR64 (by omega) (by omega)⟩), (by decide), (by first | exact inR64 (by omega) (by omega) | exact ⟨by decide, inR64 (by omega) (by omega)⟩), tv⟩ fun a w hs => ?_
  exact rK (.val (.agg [vb ((ofN (((v.tdiv 5).tmod 60) - 20)).neg), rwU ((ofN (((v.tdiv 5).tmod 60) - 20)).m), vi ((ofN (((v.tdiv 5).tmod 60) - 20)).e)])) [] hs (by rw [numberN, if_pos (by omega)])
 ·skip
  have n1 := beq_eq_false_iff_ne.1 b1
  rcases bt ((v.tmod 5) == 1) with b2 | b2
  ·skip
   have n2 := eq_of_beq b2
   refine wL hs hI [(5, ⟨[(13, ciA 167 [vb (((v.tdiv 5).tmod 2) == 1), rwU ([IntKind.wrap .u32 ((v.tdiv 10).tmod 2000)]), vi (((v.tdiv 7).tmod 9) - 5)] [] [6008] (.val (.tup [.agg [vb (((makeN (((v.tdiv 5).tmod 2) == 1) (val ([IntKind.wrap .u32 ((v.tdiv 10).tmod 2000)])) (((v.tdiv 7).tmod 9) - 5)).1).neg), rwU (((makeN (((v.tdiv 5).tmod 2) == 1) (val ([IntKind.wrap .u32 ((v.tdiv 10).tmod 2000)])) (((v.tdiv 7).tmod 9) - 5)).1).m), vi (((makeN (((v.tdiv 5).tmod 2) == 1) (val ([IntKind.wrap .u32 ((v.tdiv 10).tmod 2000)])) (((v.tdiv 7).tmod 9) - 5)).1).e)], vb ((makeN (((v.tdiv 5).tmod 2) == 1) (val ([IntKind.wrap .u32 ((v.tdiv 10).tmod 2000)])) (((v.tdiv 7).tmod 9) - 5)).2)])))], [], []⟩)] [false, true] 6617431213455995941963283258198764031929781787204400 [(5 : Int) ≠ 0, ty b1, ty b2, (5 : Int) ≠ 0 ∧ InR .i64 (v.tdiv 5), (2 : Int) ≠ 0, (10 : Int) ≠ 0 ∧ InR .i64 (v.tdiv 10), (2000 : Int) ≠ 0, (7 : Int) ≠ 0 ∧ InR .i64 (v.tdiv 7), (9 : Int) ≠ 0, InR .i64 (((v.tdiv 7).tmod 9) - 5)] .ret [(2, .ptr 1000 0)] [(1000, .var [vb (((makeN (((v.tdiv 5).tmod 2) == 1) (val ([IntKind.wrap .u32 ((v.tdiv 10).tmod 2000)])) (((v.tdiv 7).tmod 9) - 5)).1).neg), rwU (((makeN (((v.tdiv 5).tmod 2) == 1) (val ([IntKind.wrap .u32 ((v.tdiv 10).tmod 2000)])) (((v.tdiv 7).tmod 9) - 5)).1).m), vi (((makeN (((v.tdiv 5).tmod 2) == 1) (val ([IntKind.wrap .u32 ((v.tdiv 10).tmod 2000)])) (((v.tdiv 7).tmod 9) - 5)).1).e)])] ⟨⟨⟨ent167, con167 _ _ _ (ok1 (wrap32_in _)) (Nat.le_of_ble_eq_true rfl)⟩, tv⟩, tv⟩ ⟨(by decide), b1, b2, (by first | exact inR64 (by omega) (by omega) | exact ⟨by decide, inR64 (by omega) (by omega)⟩), (by decide), (by first | exact inR64 (by omega) (by omega) | exact ⟨by decide, inR64 (by omega) (by omega)⟩), (by decide), (by first | exact inR64 (by omega) (by omega) | exact ⟨by decide, inR64 (by omega) (by omega)⟩), (by decide), (by first | exact inR64 (by omega) (by omega) | exact ⟨by decide, inR64 (by omega) (by omega)⟩), tv⟩ fun a w hs => ?_
   exact rK (.val (.agg [vb (((makeN (((v.tdiv 5).tmod 2) == 1) (val ([IntKind.wrap .u32 ((v.tdiv 10).tmod 2000)])) (((v.tdiv 7).tmod 9) - 5)).1).neg), rwU (((makeN (((v.tdiv 5).tmod 2) == 1) (val ([IntKind.wrap .u32 ((v.tdiv 10).tmod 2000)])) (((v.tdiv 7).tmod 9) - 5)).1).m), vi (((makeN (((v.tdiv 5).tmod 2) == 1) (val ([IntKind.wrap .u32 ((v.tdiv 10).tmod 2000)])) (((v.tdiv 7).tmod 9) - 5)).1).e)])) [] hs (by rw [numberN, if_neg (by omega), if_pos (by omega)])
  ·skip
   have n2 := beq_eq_false_iff_ne.1 b2
   rcases bt ((v.tmod 5) == 2) with b3 | b3
   ·skip
    have n3 := eq_of_beq b3
    refine wL hs hI [(8, ⟨[(9, ciA 167 [vb false, rwU ([IntKind.wrap .u32 v, IntKind.wrap .u32 (v.tdiv 3), IntKind.wrap .u32 (v.tmod 7)]), vi 0] [] [9008] (.val (.tup [.agg [vb (((makeN false (val ([IntKind.wrap .u32 v, IntKind.wrap .u32 (v.tdiv 3), IntKind.wrap .u32 (v.tmod 7)])) 0).1).neg), rwU (((makeN false (val ([IntKind.wrap .u32 v, IntKind.wrap .u32 (v.tdiv 3), IntKind.wrap .u32 (v.tmod 7)])) 0).1).m), vi (((makeN false (val ([IntKind.wrap .u32 v, IntKind.wrap .u32 (v.tdiv 3), IntKind.wrap .u32 (v.tmod 7)])) 0).1).e)], vb ((makeN false (val ([IntKind.wrap .u32 v, IntKind.wrap .u32 (v.tdiv 3), IntKind.wrap .u32 (v.tmod 7)])) 0).2)])))], [], []⟩)] [false, false, true] 6617444352945492380690666331840120923561861865329400 [(5 : Int) ≠ 0, ty b1, ty b2, ty b3, (3 : Int) ≠ 0 ∧ InR .i64 (v.tdiv 3), (7 : Int) ≠ 0] .ret [(2, .ptr 1000 0)] [(1000, .var [vb (((makeN false (val ([IntKind.wrap .u32 v, IntKind.wrap .u32 (v.tdiv 3), IntKind.wrap .u32 (v.tmod 7)])) 0).1).neg), rwU (((makeN false (val ([IntKind.wrap .u32 v, IntKind.wrap .u32 (v.tdiv 3), IntKind.wrap .u32 (v.tmod 7)])) 0).1).m), vi (((makeN false (val ([IntKind.wrap .u32 v, IntKind.wrap .u32 (v.tdiv 3), IntKind.wrap .u32 (v.tmod 7)])) 0).1).e)])] ⟨⟨⟨ent167, con167 _ _ _ (ok3 (wrap32_in _) (wrap32_in _) (wrap32_in _)) (Nat.le_of_ble_eq_true rfl)⟩, tv⟩, tv⟩ ⟨(by decide), b1, b2, b3, (by first | exact inR64 (by omega) (by omega) | exact ⟨by decide, inR64 (by omega) (by omega)⟩), (by decide), tv⟩ fun a w hs => ?_
    exact rK (.val (.agg [vb (((makeN false (val ([IntKind.wrap .u32 v, IntKind.wrap .u32 (v.tdiv 3), IntKind.wrap .u32 (v.tmod 7)])) 0).1).neg), rwU (((makeN false (val ([IntKind.wrap .u32 v, IntKind.wrap .u32 (v.tdiv 3), IntKind.wrap .u32 (v.tmod 7)])) 0).1).m), vi (((makeN false (val ([IntKind.wrap .u32 v, IntKind.wrap .u32 (v.tdiv 3), IntKind.wrap .u32 (v.tmod 7)])) 0).1).e)])) [] hs (by rw [numberN, if_neg (by omega), if_neg (by omega), if_pos (by omega)])
   ·skip
    have n3 := beq_eq_false_iff_ne.1 b3
    rcases bt ((v.tmod 5) == 3) with b4 | b4
    ·skip
     have n4 := eq_of_beq b4
     refine wL hs hI [(11, ⟨[(10, ciA 167 [vb ((v.tmod 2) == 1), rwU ([5, IntKind.wrap .u32 v]), vi (IntKind.wrap .i64 (0 - ((v.tdiv 5).tmod 30)))] [] [12005] (.val (.tup [.agg [vb (((makeN ((v.tmod 2) == 1) (val ([5, IntKind.wrap .u32 v])) (IntKind.wrap .i64 (0 - ((v.tdiv 5).tmod 30)))).1).neg), rwU (((makeN ((v.tmod 2) == 1) (val ([5, IntKind.wrap .u32 v])) (IntKind.wrap .i64 (0 - ((v.tdiv 5).tmod 30)))).1).m), vi (((makeN ((v.tmod 2) == 1) (val ([5, IntKind.wrap .u32 v])) (IntKind.wrap .i64 (0 - ((v.tdiv 5).tmod 30)))).1).e)], vb ((makeN ((v.tmod 2) == 1) (val ([5, IntKind.wrap .u32 v])) (IntKind.wrap .i64 (0 - ((v.tdiv 5).tmod 30)))).2)])))], [], []⟩)] [false, false, false, true] 64623485141846408576563032256239239602536630673220507907525 [(5 : Int) ≠ 0, ty b1, ty b2, ty b3, ty b4, (2 : Int) ≠ 0, (5 : Int) ≠ 0 ∧ InR .i64 (v.tdiv 5), (30 : Int) ≠ 0] .ret [(2, .ptr 1000 0)] [(1000, .var [vb (((makeN ((v.tmod 2) == 1) (val ([5, IntKind.wrap .u32 v])) (IntKind.wrap .i64 (0 - ((v.tdiv 5).tmod 30)))).1).neg), rwU (((makeN ((v.tmod 2) == 1) (val ([5, IntKind.wrap .u32 v])) (IntKind.wrap .i64 (0 - ((v.tdiv 5).tmod 30)))).1).m), vi (((makeN ((v.tmod 2) == 1) (val ([5, IntKind.wrap .u32 v])) (IntKind.wrap .i64 (0 - ((v.tdiv 5).tmod 30)))).1).e)])] ⟨⟨⟨ent167, con167 _ _ _ (ok2 (by first | exact wrap32_in _ | decide) (wrap32_in _)) (Nat.le_of_ble_eq_true rfl)⟩, tv⟩, tv⟩ ⟨(by decide), b1, b2, b3, b4, (by decide), (by first | exact inR64 (by omega) (by omega) | exact ⟨by decide, inR64 (by omega) (by omega)⟩), (by decide), tv⟩ fun a w hs => ?_
     exact rK (.val (.agg [vb (((makeN ((v.tmod 2) == 1) (val ([5, IntKind.wrap .u32 v])) (IntKind.wrap .i64 (0 - ((v.tdiv 5).tmod 30)))).1).neg), rwU (((makeN ((v.tmod 2) == 1) (val ([5, IntKind.wrap .u32 v])) (IntKind.wrap .i64 (0 - ((v.tdiv 5).tmod 30)))).1).m), vi (((makeN ((v.tmod 2) == 1) (val ([5, IntKind.wrap .u32 v])) (IntKind.wrap .i64 (0 - ((v.tdiv 5).tmod 30)))).1).e)])) [] hs (by rw [numberN, if_neg (by omega), if_neg (by omega), if_neg (by omega), if_pos (by omega)])
    ·skip
     have n4 := beq_eq_false_iff_ne.1 b4
     refine wL hs hI [(13, ⟨[(1, ciV 166 [vi v] (.agg [vb ((ofN v).neg), rwU ((ofN v).m), vi ((ofN v).e)]))], [], []⟩)] [false, false, false, false] 2757761933480632678341908266894626275 [(5 : Int) ≠ 0, ty b1, ty b2, ty b3, ty b4] .ret [(2, .ptr 1000 0)] [(1000, .var [vb ((ofN v).neg), rwU ((ofN v).m), vi ((ofN v).e)])] ⟨⟨⟨ent166, con166 _⟩, tv⟩, tv⟩ ⟨(by decide), b1, b2, b3, b4, tv⟩ fun a w hs => ?_
     exact rK (.val (.agg [vb ((ofN v).neg), rwU ((ofN v).m), vi ((ofN v).e)])) [] hs (by rw [numberN, if_neg (by omega), if_neg (by omega), if_neg (by omega), if_neg (by omega)])
theorem splitB_sizes (sep : ByteArray) : ∀ (k : Nat) (s : ByteArray), ∀ x ∈ Lib.splitB sep 0 k s, x.size ≤ s.size
 | 0, s, x, h => by simp [Lib.splitB] at h; subst h; exact Nat.le_refl _
 | k + 1, s, x, h => by
  unfold Lib.splitB at h
  split at h
  ·simp at h; subst h; exact Nat.le_refl _
  ·rcases List.mem_cons.1 h with rfl | h
   ·rw [ByteArray.size_extract]; omega
   ·have := splitB_sizes sep k _ x h
    rw [ByteArray.size_extract] at this; omega
theorem split_size {s : ByteArray} {c : UInt8} : ∀ x ∈ splitF s c, x.size ≤ s.size := splitB_sizes _ _ _
theorem split_len (s : ByteArray) (c : UInt8) : (splitF s c).length ≤ s.size + 1 := by
 have := Lib.splitB_length_le (ba [c]) 0 (Lib.countB s (ba [c])) s
 have := Lib.countB_le (ba [c]) (Nat.le_refl _) s.size s (Nat.le_refl _)
 unfold splitF; omega
theorem split_smalls {s : ByteArray} (c : UInt8) (h : s.size < 4294960000) : smalls (splitF s c) := ⟨fun x hx => by have := split_size x hx; unfold small; omega, by have := split_len s c; omega⟩
theorem sz_at {s : ByteArray} {c : UInt8} {i : Nat} (h : s.size < 4294960000) (hi : i < (splitF s c).length) (d : ByteArray) : ((splitF s c).getD i d).size < 4294960000 := by
 have := split_size _ (getD_mem hi d); omega
def badPiece (p : ByteArray) : Bool := (splitF p 46).any fun n => !nameF n
def cutsF (s : ByteArray) : List (List ByteArray) := (splitF s 44).map fun p => splitF p 46
def parseF (s : ByteArray) : List (List ByteArray) × Int :=
 if (s.toList == (ba []).toList) = true then ([], 0) else if (splitF s 44).any badPiece = true then ([], 2) else if checkF (cutsF s) = true then (cutsF s, 0) else ([], 4)
theorem any_at {α : Type} {q : α → Bool} {l : List α} {i : Nat} (h : i < l.length) (d : α) (hq : q (l.getD i d) = true) : l.any q = true := List.any_eq_true.2 ⟨_, getD_mem h d, hq⟩
theorem any_no {α : Type} {q : α → Bool} {l : List α} (h : ∀ j, j < l.length → ∀ d, q (l.getD j d) = false) : l.any q = false := by
 rw [List.any_eq_false]
 intro x hx
 obtain ⟨i, hi, rfl⟩ := List.getElem_of_mem hx
 have := h i hi l[i]
 rw [List.getD_eq_getElem?_getD, List.getElem?_eq_getElem hi] at this
 simpa using this
theorem take_map_succ {α β : Type} {f : α → β} {l : List α} {i : Nat} (h : i < l.length) (d : α) : (l.take i).map f ++ [f (l.getD i d)] = (l.take (i + 1)).map f := by
 rw [List.take_succ_eq_append_getElem h, List.map_append, List.getD_eq_getElem?_getD, List.getElem?_eq_getElem h]; rfl
theorem take_map_len {α β : Type} {f : α → β} {l : List α} {i : Nat} (h : i ≤ l.length) : ((l.take i).map f).length = i := by simp; omega
theorem con31 (s : ByteArray) (hs0 : s.size < 4294960000) : Con Tryz.prog I0 31 [vs s] (.val (.tup [.row .strs ((parseF s).1), vi ((parseF s).2)])) := by
 refine con_of Tryz.func31 rfl (Nat.le_of_ble_eq_true rfl) stab (fun w0 fz a hI hs => ?_)
 refine wp_seq ?_
 refine wN hs hI [] 750 [] .norm [(0, vs s)] [] tv fun a w hs => ?_
 refine then_norm ?_
 refine wp_seq ?_
 rcases bt (s.toList == (ba []).toList) with b1 | b1
 ·skip
  have n1 := eq_of_beq b1
  refine wN hs hI [true] 7580085125 [ty b1] .ret [(2, nilv), (3, vi 0)] [] ⟨b1, tv⟩ fun a w hs => ?_
  refine then_ret ?_
  exact rK (.val (.tup [.row .strs ([]), vi 0])) [] hs (by simp only [parseF]; rw [if_pos b1])
 ·skip
  have n1 := beq_eq_false_iff_ne.1 b1
  refine wN hs hI [false] 475750 [ty b1] .norm [(0, vs s)] [] ⟨b1, tv⟩ fun a w hs => ?_
  refine then_norm ?_
  refine wp_seq ?_
  refine wN hs hI [] 25 [] .norm [(0, vs s), (4, nilv)] [] tv fun a w hs => ?_
  refine then_norm ?_
  refine wp_seq ?_
  refine wp_seq ?_
  refine wL hs hI [(4, ⟨[(1, ciA 82 [vs s, vs (ba [44])] [] [] (.own 9 .str (splitF s 44)))], [], []⟩)] [] 487515 [] .norm [(4, nilv), (11, .own 5001), (12, vi ((splitF s 44).length : Int)), (13, vi 0)] [(5001, .sl 9 .str (splitF s 44))] ⟨⟨⟨ent82, conSplit _ _ (by first | omega | (have := sz_at hs0 (c := 44) (i := i) (by omega) (dflt .str); omega))⟩, tv⟩, tv⟩ tv fun a w hs => ?_
  refine then_norm ?_
  refine wp_block ?_
  refine loop_L (N := Tryz.f31.ntmps) (w0 := w0) (ow := noO fz) (α := Nat) (fun p => [(4, .own 90000001), (11, .own 5001), (12, vi ((splitF s 44).length : Int)), (13, vi (p : Int))]) (fun p => [(5001, .sl 9 .str (splitF s 44)), (90000001, .sl 26 .strs (((splitF s 44).take p).map (fun p => splitF p 46)))]) (fun p => p ≤ (splitF s 44).length ∧ ∀ j, j < p → ∀ d, badPiece ((splitF s 44).getD j d) = false) (fun p => (splitF s 44).length - p) 0 ?_ ?_ ?_
  ·exact ⟨Nat.zero_le _, fun j hj => absurd hj (Nat.not_lt_zero _)⟩
  ·(have hs := (hs.nil 10000001 4 26 .strs (by kernel_rfl) (by decide) (by kernel_rfl) (by kernel_rfl)).rmT [(4, .own 10000001), (11, .own 5001), (12, vi ((splitF s 44).length : Int)), (13, vi 0)] [(5001, .sl 9 .str (splitF s 44)), (10000001, .sl 26 .strs ([]))] [(5001, 5001), (10000001, 10000001)] (by kernel_rfl); exact (hs.cst [(4, .own 10000001), (11, .own 5001), (12, vi ((splitF s 44).length : Int)), (13, vi ((0 : Nat) : Int))] [(5001, .sl 9 .str (splitF s 44)), (10000001, .sl 26 .strs (((splitF s 44).take 0).map (fun p => splitF p 46)))] rfl).rm [(5001, 5001), (90000001, 10000001)] (by kernel_rfl))
  rintro i hJ a w hs
  obtain ⟨hi, hall⟩ := hJ
  have hspl := split_len s 44
  have htk := take_map_len (f := fun p => splitF p 46) hi
  rcases bt (decide ((i : Int) < ((splitF s 44).length : Int))) with b2 | b2
  ·skip
   have n2 := of_decide_eq_true b2
   rcases bt ((splitF ((splitF s 44).getD i (dflt .str)) 46).any (fun n => !nameF n)) with b3 | b3
   ·skip
    refine wL hs hI [(7, ⟨[(1, ciA 82 [vs ((splitF s 44).getD i (dflt .str)), vs (ba [46])] [] [] (.own 9 .str (splitF ((splitF s 44).getD i (dflt .str)) 46)))], [], []⟩), (8, ⟨[(1, ciA 83 [rwS (splitF ((splitF s 44).getD i (dflt .str)) 46), .lit (.func (.func 84) #[] #[])] [8001] [] (.val (vb ((splitF ((splitF s 44).getD i (dflt .str)) 46).any (fun n => !nameF n)))))], [], []⟩)] [true, true] 454742648376488513486519025 [ty b2, 0 ≤ (i : Int) ∧ (i : Int) < (splitF s 44).length, i < (splitF s 44).length, ty b3] .ret [(2, nilv), (3, vi 2)] [] ⟨⟨⟨ent82, conSplit _ _ (by first | omega | (have := sz_at hs0 (c := 44) (i := i) (by omega) (dflt .str); omega))⟩, tv⟩, ⟨⟨ent83, con83_84 _ (split_smalls 46 (sz_at hs0 (by omega) _)).1 (split_smalls 46 (sz_at hs0 (by omega) _)).2⟩, tv⟩, tv⟩ ⟨b2, (by omega), (by omega), b3, tv⟩ fun a w hs => ?_
    refine then_ret ?_
    refine inb_ret ?_
    refine then_ret ?_
    exact rK (.val (.tup [.row .strs ([]), vi 2])) [] hs (by have h1 : (splitF s 44).any badPiece = true := any_at (by omega) (dflt .str) b3; simp only [parseF]; rw [if_neg (by rw [b1]; decide), if_pos h1])
   ·skip
    refine wL hs hI [(7, ⟨[(1, ciA 82 [vs ((splitF s 44).getD i (dflt .str)), vs (ba [46])] [] [] (.own 9 .str (splitF ((splitF s 44).getD i (dflt .str)) 46)))], [], []⟩), (8, ⟨[(1, ciA 83 [rwS (splitF ((splitF s 44).getD i (dflt .str)) 46), .lit (.func (.func 84) #[] #[])] [8001] [] (.val (vb ((splitF ((splitF s 44).getD i (dflt .str)) 46).any (fun n => !nameF n)))))], [], []⟩)] [true, false] 110989333278895401133560962216987775 [ty b2, 0 ≤ (i : Int) ∧ (i : Int) < (splitF s 44).length, i < (splitF s 44).length, ty b3, (((((splitF s 44).take i).map (fun p => splitF p 46)).length + 1) * 24 : Nat) ≤ 140737488355328 ∧ (((splitF s 44).take i).map (fun p => splitF p 46)).length + 1 ≤ 140737488355328, InR .i64 ((i : Int) + 1)] .norm [(4, .own 11003), (11, .own 5001), (12, vi ((splitF s 44).length : Int)), (13, vi ((i : Int) + 1))] [(5001, .sl 9 .str (splitF s 44)), (11003, .sl 26 .strs ((((splitF s 44).take i).map (fun p => splitF p 46)) ++ ([splitF ((splitF s 44).getD i (dflt .str)) 46])))] ⟨⟨⟨ent82, conSplit _ _ (by first | omega | (have := sz_at hs0 (c := 44) (i := i) (by omega) (dflt .str); omega))⟩, tv⟩, ⟨⟨ent83, con83_84 _ (split_smalls 46 (sz_at hs0 (by omega) _)).1 (split_smalls 46 (sz_at hs0 (by omega) _)).2⟩, tv⟩, tv⟩ ⟨b2, (by omega), (by omega), b3, (by omega), (inR64 (by omega) (by omega)), tv⟩ fun a w hs => ?_
    refine then_norm ⟨i + 1, ⟨by omega, fun j hj d => by rcases Nat.lt_succ_iff_lt_or_eq.1 hj with h | h; exact hall j h d; subst h; rw [getD_any (by omega) d (dflt .str)]; exact b3⟩, by omega, ?_⟩
    (have e0_ : ((i : Int) + 1) = ((((i + 1) : Nat) : Int)) := (by first | rfl | (omega)); have e1_ : ((((splitF s 44).take i).map (fun p => splitF p 46)) ++ ([splitF ((splitF s 44).getD i (dflt .str)) 46])) = (((splitF s 44).take (i + 1)).map (fun p => splitF p 46)) := (by first | rfl | (exact take_map_succ (f := fun p => splitF p 46) (by omega) _)); exact (hs.cst [(4, .own 11003), (11, .own 5001), (12, vi ((splitF s 44).length : Int)), (13, vi (((i + 1) : Nat) : Int))] [(5001, .sl 9 .str (splitF s 44)), (11003, .sl 26 .strs (((splitF s 44).take (i + 1)).map (fun p => splitF p 46)))] (by first | (rw [e0_, e1_]; done) | (simp only [e0_, e1_]; done) | rfl | (simp only [e0_, e1_]; rfl))).rm [(5001, 5001), (90000001, 11003)] (by kernel_rfl))
  ·skip
   have n2 := of_decide_eq_false b2
   refine wN hs hI [false] 19025 [ty b2] (.exit 0) [(4, .own 90000001)] [(90000001, .sl 26 .strs (((splitF s 44).take i).map (fun p => splitF p 46)))] ⟨b2, tv⟩ fun a w hs => ?_
   refine then_exit ?_
   refine inb_hit ?_
   refine then_norm ?_
   rcases bt (checkF (((splitF s 44).take i).map (fun p => splitF p 46))) with b4 | b4
   ·skip
    refine wL hs hI [(12, ⟨[(1, ciA 39 [.row .strs (((splitF s 44).take i).map (fun p => splitF p 46))] [90000001] [] (.val (vb (checkF (((splitF s 44).take i).map (fun p => splitF p 46))))))], [], []⟩)] [false] 115386974785015 [ty (ng1 b4)] .ret [(2, .own 90000001), (3, vi 0)] [(90000001, .sl 26 .strs (((splitF s 44).take i).map (fun p => splitF p 46)))] ⟨⟨⟨ent39, con39 _ (by intro x hx; obtain ⟨p, hp, rfl⟩ := List.mem_map.1 hx; have := split_size (s := s) (c := 44) p (List.mem_of_mem_take hp); exact split_smalls 46 (by omega)) (by rw [take_map_len (by omega)]; have := split_len s 44; omega)⟩, tv⟩, tv⟩ ⟨(ng1 b4), tv⟩ fun a w hs => ?_
    exact rK (.val (.tup [.row .strs (((splitF s 44).take i).map (fun p => splitF p 46)), vi 0])) [90000001] hs (by have h1 : (splitF s 44).any badPiece = false := any_no (fun j hj d => hall j (by omega) d); have h2 : (splitF s 44).take i = splitF s 44 := List.take_of_length_le (by omega); rw [h2] at b4; first | (simp only [h2, parseF]; rw [if_neg (by rw [b1]; decide), if_neg (by rw [h1]; decide), if_pos (by first | exact b4 | (rw [show checkF (cutsF s) = false from b4]; decide))]; try rfl) | skip)
   ·skip
    refine wL hs hI [(12, ⟨[(1, ciA 39 [.row .strs (((splitF s 44).take i).map (fun p => splitF p 46))] [90000001] [] (.val (vb (checkF (((splitF s 44).take i).map (fun p => splitF p 46))))))], [], []⟩)] [true] 189502128765 [ty (ng0 b4)] .ret [(2, nilv), (3, vi 4)] [] ⟨⟨⟨ent39, con39 _ (by intro x hx; obtain ⟨p, hp, rfl⟩ := List.mem_map.1 hx; have := split_size (s := s) (c := 44) p (List.mem_of_mem_take hp); exact split_smalls 46 (by omega)) (by rw [take_map_len (by omega)]; have := split_len s 44; omega)⟩, tv⟩, tv⟩ ⟨(ng0 b4), tv⟩ fun a w hs => ?_
    exact rK (.val (.tup [.row .strs ([]), vi 4])) [] hs (by have h1 : (splitF s 44).any badPiece = false := any_no (fun j hj d => hall j (by omega) d); have h2 : (splitF s 44).take i = splitF s 44 := List.take_of_length_le (by omega); rw [h2] at b4; first | (simp only [h2, parseF]; rw [if_neg (by rw [b1]; decide), if_neg (by rw [h1]; decide), if_neg (by first | exact b4 | (rw [show checkF (cutsF s) = false from b4]; decide))]; try rfl) | skip)
def placeF (n k : Int) : Int := if n.tmod k < 0 then n.tmod k + k else n.tmod k
theorem placeF_in (n k : Int) (hk : 0 < k) : 0 ≤ placeF n k ∧ placeF n k < k := by
 unfold placeF
 have h1 := Int.lt_tmod_of_pos n hk
 have h2 := Int.tmod_lt_of_pos n hk
 split <;> omega
def sameS (xs ys : List ByteArray) : Bool := ((xs.length : Int) == (ys.length : Int)) && (List.range xs.length).all fun j => (xs.getD j (dflt .str)).toList == (ys.getD j (dflt .str)).toList
def sameP (xs ys : List (List ByteArray)) : Bool := ((xs.length : Int) == (ys.length : Int)) && (List.range xs.length).all fun j => sameS (xs.getD j (dflt .strs)) (ys.getD j (dflt .strs))
theorem sameS_self (xs : List ByteArray) : sameS xs xs = true := by simp [sameS]
theorem sameP_self (xs : List (List ByteArray)) : sameP xs xs = true := by simp [sameP, sameS_self]
theorem lt_all {n : Nat} {q : Nat → Bool} (h : ∀ j, j < n → q j = true) : (List.range n).all q = true := List.all_eq_true.2 (fun j hj => h j (by simpa using hj))
theorem ne_of {a b : Int} (h : (a != b) = false) : (a == b) = true := by simpa [bne] using h
theorem ne_of' {a b : Int} (h : (a != b) = true) : (a == b) = false := by simpa [bne] using h
theorem con17 (n k : Int) (hk : 0 < k) (hk2 : k < 4294967296) : Con Tryz.prog I0 17 [vi n, vi k] (.val (vi (placeF n k))) := by
 refine con_of Tryz.func17 rfl (Nat.le_of_ble_eq_true rfl) stab (fun w0 fz a hI hs => ?_)
 rcases bt (decide ((n.tmod k) < 0)) with b1 | b1
 ·skip
  have n1 := of_decide_eq_true b1
  refine wN hs hI [true] 454159500074579040588287525 [k ≠ 0, ty b1, InR .i64 ((n.tmod k) + k)] .ret [(4, vi ((n.tmod k) + k))] [] ⟨(by omega), b1, (by exact inR64 (by have := Int.lt_tmod_of_pos n hk; omega) (by have := Int.tmod_lt_of_pos n hk; omega)), tv⟩ fun a w hs => ?_
  exact rK (.val (vi ((n.tmod k) + k))) [] hs (by simp only [placeF]; rw [if_pos (by omega)])
 ·skip
  have n1 := of_decide_eq_false b1
  refine wN hs hI [false] 1162648317138732818775 [k ≠ 0, ty b1] .ret [(4, vi (n.tmod k))] [] ⟨(by omega), b1, tv⟩ fun a w hs => ?_
  exact rK (.val (vi (n.tmod k))) [] hs (by simp only [placeF]; rw [if_neg (by omega)])
theorem con60 (xs ys : List ByteArray) (hx : xs.length < 4294967296) : Con Tryz.prog I0 60 [.row .str xs, .row .str ys] (.val (vb (sameS xs ys))) := by
 refine con_of Tryz.func60 rfl (Nat.le_of_ble_eq_true rfl) stab (fun w0 fz a hI hs => ?_)
 refine wp_seq ?_
 refine wN hs hI [] 25 [] .norm [(0, rwS xs), (1, rwS ys)] [] tv fun a w hs => ?_
 refine then_norm ?_
 refine wp_seq ?_
 rcases bt ((xs.length : Int) != (ys.length : Int)) with b1 | b1
 ·skip
  have n1 := bne_iff_ne.1 b1
  refine wN hs hI [true] 4736437984375 [ty b1] .ret [(4, vb false)] [] ⟨b1, tv⟩ fun a w hs => ?_
  refine then_ret ?_
  exact rK (.val (vb false)) [] hs (by simp only [sameS, ne_of' b1, Bool.false_and])
 ·skip
  have n1 := bne_eq_false_iff_eq.1 b1
  refine wN hs hI [false] 7434078125 [ty b1] .norm [(0, rwS xs), (1, rwS ys)] [] ⟨b1, tv⟩ fun a w hs => ?_
  refine then_norm ?_
  refine wp_seq ?_
  refine wp_seq ?_
  refine wN hs hI [] 25 [] .norm [(0, rwS xs), (1, rwS ys), (5, vi 0)] [] tv fun a w hs => ?_
  refine then_norm ?_
  refine wp_block ?_
  refine loop_L (N := Tryz.f60.ntmps) (w0 := w0) (ow := noO fz) (α := Nat) (fun p => [(0, rwS xs), (1, rwS ys), (5, vi (p : Int))]) (fun p => []) (fun p => p ≤ xs.length ∧ ∀ j, j < p → ((xs.getD j (dflt .str)).toList == (ys.getD j (dflt .str)).toList) = true) (fun p => xs.length - p) 0 ?_ ?_ ?_
  ·exact ⟨Nat.zero_le _, fun j hj => absurd hj (Nat.not_lt_zero _)⟩
  ·(have e0_ : (0) = (((0 : Nat) : Int)) := (by first | rfl | (rfl)); exact (hs.cst [(0, rwS xs), (1, rwS ys), (5, vi ((0 : Nat) : Int))] [] (by first | (rw [e0_]; done) | (simp only [e0_]; done) | rfl | (simp only [e0_]; rfl))).rm [] (by kernel_rfl))
  rintro i hJ a w hs
  obtain ⟨hi, hall⟩ := hJ
  rcases bt (decide ((i : Int) < (xs.length : Int))) with b2 | b2
  ·skip
   have n2 := of_decide_eq_true b2
   rcases bt ((xs.getD i (dflt .str)).toList == (ys.getD i (dflt .str)).toList) with b3 | b3
   ·skip
    have n3 := eq_of_beq b3
    refine wN hs hI [true, false] 7103302684845399894775687987500 [ty b2, 0 ≤ (i : Int) ∧ (i : Int) < xs.length, 0 ≤ (i : Int) ∧ (i : Int) < ys.length, ty (ng1 b3), InR .i64 ((i : Int) + 1)] .norm [(0, rwS xs), (1, rwS ys), (5, vi ((i : Int) + 1))] [] ⟨b2, (by omega), (by omega), (ng1 b3), (inR64 (by omega) (by omega)), tv⟩ fun a w hs => ?_
    refine then_norm ⟨i + 1, ⟨by omega, fun j hj => by rcases Nat.lt_succ_iff_lt_or_eq.1 hj with h | h; exact hall j h; subst h; exact b3⟩, by omega, ?_⟩
    (have e0_ : ((i : Int) + 1) = ((((i + 1) : Nat) : Int)) := (by first | rfl | (omega)); exact (hs.cst [(0, rwS xs), (1, rwS ys), (5, vi (((i + 1) : Nat) : Int))] [] (by first | (rw [e0_]; done) | (simp only [e0_]; done) | rfl | (simp only [e0_]; rfl))).rm [] (by kernel_rfl))
   ·skip
    have n3 := beq_eq_false_iff_ne.1 b3
    refine wN hs hI [true, true] 11353456648063697876273925000 [ty b2, 0 ≤ (i : Int) ∧ (i : Int) < xs.length, 0 ≤ (i : Int) ∧ (i : Int) < ys.length, ty (ng0 b3)] .ret [(4, vb false)] [] ⟨b2, (by omega), (by omega), (ng0 b3), tv⟩ fun a w hs => ?_
    refine then_ret ?_
    refine inb_ret ?_
    refine then_ret ?_
    exact rK (.val (vb false)) [] hs (by simp only [sameS]; rw [ne_of b1, all_no (i := i) (by omega) (by exact b3)]; rfl)
  ·skip
   have n2 := of_decide_eq_false b2
   refine wN hs hI [false] 297362500 [ty b2] (.exit 0) [] [] ⟨b2, tv⟩ fun a w hs => ?_
   refine then_exit ?_
   refine inb_hit ?_
   refine then_norm ?_
   refine wN hs hI [] 650 [] .ret [(4, vb true)] [] tv fun a w hs => ?_
   exact rK (.val (vb true)) [] hs (by simp only [sameS]; rw [ne_of b1, lt_all (fun j hj => hall j (by omega))]; rfl)
theorem con35 (xs ys : List (List ByteArray)) (hx : xs.length < 4294967296) (hxs : ∀ x ∈ xs, x.length < 4294967296) : Con Tryz.prog I0 35 [.row .strs xs, .row .strs ys] (.val (vb (sameP xs ys))) := by
 refine con_of Tryz.func35 rfl (Nat.le_of_ble_eq_true rfl) stab (fun w0 fz a hI hs => ?_)
 refine wp_seq ?_
 refine wN hs hI [] 25 [] .norm [(0, .row .strs xs), (1, .row .strs ys)] [] tv fun a w hs => ?_
 refine then_norm ?_
 refine wp_seq ?_
 rcases bt ((xs.length : Int) != (ys.length : Int)) with b1 | b1
 ·skip
  have n1 := bne_iff_ne.1 b1
  refine wN hs hI [true] 4736437984375 [ty b1] .ret [(4, vb false)] [] ⟨b1, tv⟩ fun a w hs => ?_
  refine then_ret ?_
  exact rK (.val (vb false)) [] hs (by simp only [sameP, ne_of' b1, Bool.false_and])
 ·skip
  have n1 := bne_eq_false_iff_eq.1 b1
  refine wN hs hI [false] 7434078125 [ty b1] .norm [(0, .row .strs xs), (1, .row .strs ys)] [] ⟨b1, tv⟩ fun a w hs => ?_
  refine then_norm ?_
  refine wp_seq ?_
  refine wp_seq ?_
  refine wN hs hI [] 25 [] .norm [(0, .row .strs xs), (1, .row .strs ys), (5, vi 0)] [] tv fun a w hs => ?_
  refine then_norm ?_
  refine wp_block ?_
  refine loop_L (N := Tryz.f35.ntmps) (w0 := w0) (ow := noO fz) (α := Nat) (fun p => [(0, .row .strs xs), (1, .row .strs ys), (5, vi (p : Int))]) (fun p => []) (fun p => p ≤ xs.length ∧ ∀ j, j < p → (sameS (xs.getD j (dflt .strs)) (ys.getD j (dflt .strs))) = true) (fun p => xs.length - p) 0 ?_ ?_ ?_
  ·exact ⟨Nat.zero_le _, fun j hj => absurd hj (Nat.not_lt_zero _)⟩
  ·(have e0_ : (0) = (((0 : Nat) : Int)) := (by first | rfl | (rfl)); exact (hs.cst [(0, .row .strs xs), (1, .row .strs ys), (5, vi ((0 : Nat) : Int))] [] (by first | (rw [e0_]; done) | (simp only [e0_]; done) | rfl | (simp only [e0_]; rfl))).rm [] (by kernel_rfl))
  rintro i hJ a w hs
  obtain ⟨hi, hall⟩ := hJ
  rcases bt (decide ((i : Int) < (xs.length : Int))) with b2 | b2
  ·skip
   have n2 := of_decide_eq_true b2
   rcases bt (sameS (xs.getD i (dflt .strs)) (ys.getD i (dflt .strs))) with b3 | b3
   ·skip
    refine wL hs hI [(6, ⟨[(8, ciV 60 [rwS (xs.getD i (dflt .strs)), rwS (ys.getD i (dflt .strs))] (vb (sameS (xs.getD i (dflt .strs)) (ys.getD i (dflt .strs)))))], [], []⟩)] [true, false] 177582567121135057487549125487500 [ty b2, 0 ≤ (i : Int) ∧ (i : Int) < xs.length, 0 ≤ (i : Int) ∧ (i : Int) < ys.length, ty (ng1 b3), InR .i64 ((i : Int) + 1)] .norm [(0, .row .strs xs), (1, .row .strs ys), (5, vi ((i : Int) + 1))] [] ⟨⟨⟨ent60, con60 _ _ (hxs _ (getD_mem (by omega) _))⟩, tv⟩, tv⟩ ⟨b2, (by omega), (by omega), (ng1 b3), (inR64 (by omega) (by omega)), tv⟩ fun a w hs => ?_
    refine then_norm ⟨i + 1, ⟨by omega, fun j hj => by rcases Nat.lt_succ_iff_lt_or_eq.1 hj with h | h; exact hall j h; subst h; exact b3⟩, by omega, ?_⟩
    (have e0_ : ((i : Int) + 1) = ((((i + 1) : Nat) : Int)) := (by first | rfl | (omega)); exact (hs.cst [(0, .row .strs xs), (1, .row .strs ys), (5, vi (((i + 1) : Nat) : Int))] [] (by first | (rw [e0_]; done) | (simp only [e0_]; done) | rfl | (simp only [e0_]; rfl))).rm [] (by kernel_rfl))
   ·skip
    refine wL hs hI [(6, ⟨[(8, ciV 60 [rwS (xs.getD i (dflt .strs)), rwS (ys.getD i (dflt .strs))] (vb (sameS (xs.getD i (dflt .strs)) (ys.getD i (dflt .strs)))))], [], []⟩)] [true, true] 283836416201652565063773925000 [ty b2, 0 ≤ (i : Int) ∧ (i : Int) < xs.length, 0 ≤ (i : Int) ∧ (i : Int) < ys.length, ty (ng0 b3)] .ret [(4, vb false)] [] ⟨⟨⟨ent60, con60 _ _ (hxs _ (getD_mem (by omega) _))⟩, tv⟩, tv⟩ ⟨b2, (by omega), (by omega), (ng0 b3), tv⟩ fun a w hs => ?_
    refine then_ret ?_
    refine inb_ret ?_
    refine then_ret ?_
    exact rK (.val (vb false)) [] hs (by simp only [sameP]; rw [ne_of b1, all_no (i := i) (by omega) (by exact b3)]; rfl)
  ·skip
   have n2 := of_decide_eq_false b2
   refine wN hs hI [false] 297362500 [ty b2] (.exit 0) [] [] ⟨b2, tv⟩ fun a w hs => ?_
   refine then_exit ?_
   refine inb_hit ?_
   refine then_norm ?_
   refine wN hs hI [] 650 [] .ret [(4, vb true)] [] tv fun a w hs => ?_
   exact rK (.val (vb true)) [] hs (by simp only [sameP]; rw [ne_of b1, lt_all (fun j hj => hall j (by omega))]; rfl)
theorem joinF_size (xs : List ByteArray) (sep : ByteArray) : (joinF xs sep).size ≤ (xs.map (·.size)).sum + xs.length * sep.size := by
 have h1 : (joinF xs sep).size = (Lib.join (xs.map (·.data.toList)) sep.data.toList).length := by simp [joinF, ByteArray.size]
 rw [h1]
 cases xs with
 | nil => simp [Lib.join_nil]
 | cons x r =>
  rw [List.map_cons, Lib.join_length]
  have h2 : Lib.lens (x.data.toList :: r.map (·.data.toList)) = ((x :: r).map (·.size)).sum := by
   show Lib.lens ((x :: r).map (·.data.toList)) = _
   unfold Lib.lens
   rw [List.map_map]
   exact congrArg List.sum (List.map_congr_left (fun y _ => (Lib.size_eq y).symm))
  have h3 : sep.data.toList.length = sep.size := (Lib.size_eq sep).symm
  rw [h2, h3, List.length_map, List.length_cons, Nat.add_mul, Nat.mul_comm sep.size]
  omega
theorem sum_le {xs : List ByteArray} {b : Nat} (h : ∀ x ∈ xs, x.size ≤ b) : (xs.map (·.size)).sum ≤ xs.length * b := by
 induction xs with
 | nil => simp
 | cons x r ih =>
  have h1 := h x (List.mem_cons_self ..)
  have h2 := ih (fun y hy => h y (List.mem_cons_of_mem _ hy))
  simp only [List.map_cons, List.sum_cons, List.length_cons, Nat.add_mul]; omega
theorem checkF_in {xs : List (List ByteArray)} (h : checkF xs = true) : xs.length ≤ 60 ∧ ∀ p ∈ xs, p.length ≤ 63 ∧ p ≠ [] ∧ ∀ n ∈ p, nameF n = true := by
 simp only [checkF, Bool.and_eq_true, decide_eq_true_eq, Bool.not_eq_true', List.any_eq_false] at h
 obtain ⟨h1, h2⟩ := h
 refine ⟨by omega, fun p hp => ?_⟩
 have h3 := h2 p hp
 simp only [badPath, Bool.or_eq_true, beq_iff_eq, decide_eq_true_eq, List.any_eq_true, not_or, not_exists, not_and] at h3
 refine ⟨by omega, fun e => h3.1 (by simp [e]), fun n hn => ?_⟩
 have := h3.2.2 n hn
 simpa using this
theorem nameF_size {s : ByteArray} (h : nameF s = true) : s.size ≤ 2000 := by
 simp only [nameF, Bool.and_eq_true, decide_eq_true_eq] at h
 omega
def dotF (p : List ByteArray) : ByteArray := joinF p (ba [46])
theorem path_join {p : List ByteArray} (h1 : p.length ≤ 63) (h2 : ∀ n ∈ p, nameF n = true) : (dotF p).size ≤ 126063 := by
 have h3 := joinF_size p (ba [46])
 have h4 := sum_le (b := 2000) (fun x hx => nameF_size (h2 x hx))
 have h5 : (ba [46]).size = 1 := rfl
 rw [h5] at h3
 unfold dotF; omega
theorem path_at {xs : List (List ByteArray)} {i : Nat} (h : checkF xs = true) (hi : i < xs.length) (d : List ByteArray) : (dotF (xs.getD i d)).size ≤ 126063 ∧ (xs.getD i d).length ≤ 63 := by
 obtain ⟨h1, _, h2⟩ := (checkF_in h).2 _ (getD_mem hi d)
 exact ⟨path_join h1 h2, h1⟩
def textF (xs : List (List ByteArray)) : ByteArray := if checkF xs = true then joinF (xs.map dotF) (ba [44]) else ba []
theorem text_join {xs : List (List ByteArray)} (h : checkF xs = true) : (joinF (xs.map dotF) (ba [44])).size ≤ 7563840 := by
 obtain ⟨h1, h2⟩ := checkF_in h
 have h3 := joinF_size (xs.map dotF) (ba [44])
 have h4 := sum_le (xs := xs.map dotF) (b := 126063) (fun x hx => by
  obtain ⟨p, hp, rfl⟩ := List.mem_map.1 hx
  exact path_join (h2 p hp).1 (h2 p hp).2.2)
 have h5 : (ba [44]).size = 1 := rfl
 rw [h5] at h3
 rw [List.length_map] at h3 h4
 omega
theorem con41 (xs : List (List ByteArray)) (hxs : ∀ x ∈ xs, smalls x) (hlen : xs.length < 4294967281) : Con Tryz.prog I0 41 [.row .strs xs] (.val (vs (textF xs))) := by
 refine con_of Tryz.func41 rfl (Nat.le_of_ble_eq_true rfl) stab (fun w0 fz a hI hs => ?_)
 refine wp_seq ?_
 refine wN hs hI [] 25 [] .norm [(0, .row .strs xs)] [] tv fun a w hs => ?_
 refine then_norm ?_
 refine wp_seq ?_
 rcases bt (checkF xs) with b1 | b1
 ·skip
  refine wL hs hI [(1, ⟨[(1, ciV 39 [.row .strs xs] (vb (checkF xs)))], [], []⟩)] [false] 11894390 [ty (ng1 b1)] .norm [(0, .row .strs xs)] [] ⟨⟨⟨ent39, con39 _ hxs hlen⟩, tv⟩, tv⟩ ⟨(ng1 b1), tv⟩ fun a w hs => ?_
  refine then_norm ?_
  refine wp_seq ?_
  refine wN hs hI [] 25 [] .norm [(0, .row .strs xs), (3, nilv)] [] tv fun a w hs => ?_
  refine then_norm ?_
  refine wp_seq ?_
  refine wp_seq ?_
  refine wN hs hI [] 19375 [] .norm [(3, nilv), (9, .row .strs xs), (10, vi (xs.length : Int)), (11, vi 0)] [] tv fun a w hs => ?_
  refine then_norm ?_
  refine wp_block ?_
  have hck : checkF xs = true := b1
  have hxl := (checkF_in hck).1
  refine loop_L (N := Tryz.f41.ntmps) (w0 := w0) (ow := noO fz) (α := Nat) (fun p => [(3, .own 90000001), (9, .row .strs xs), (10, vi (xs.length : Int)), (11, vi (p : Int))]) (fun p => [(90000001, .sl 9 .str ((xs.take p).map dotF))]) (fun p => p ≤ xs.length) (fun p => xs.length - p) 0 ?_ ?_ ?_
  ·exact Nat.zero_le _
  ·(have hs := (hs.nil 10000002 3 9 .str (by kernel_rfl) (by decide) (by kernel_rfl) (by kernel_rfl)).rmT [(3, .own 10000002), (9, .row .strs xs), (10, vi (xs.length : Int)), (11, vi 0)] [(10000002, .sl 9 .str ([]))] [(10000002, 10000002)] (by kernel_rfl); exact (hs.cst [(3, .own 10000002), (9, .row .strs xs), (10, vi (xs.length : Int)), (11, vi ((0 : Nat) : Int))] [(10000002, .sl 9 .str ((xs.take 0).map dotF))] rfl).rm [(90000001, 10000002)] (by kernel_rfl))
  rintro i hJ a w hs
  have hl2 := take_map_len (f := dotF) hJ
  rcases bt (decide ((i : Int) < (xs.length : Int))) with b2 | b2
  ·skip
   have n2 := of_decide_eq_true b2
   refine wL hs hI [(7, ⟨[(2, ciV 92 [rwS (xs.getD i (dflt .strs)), vs (ba [46])] (vs (dotF (xs.getD i (dflt .strs)))))], [], []⟩)] [true] 727379694558807675815900 [ty b2, 0 ≤ (i : Int) ∧ (i : Int) < xs.length, ((((xs.take i).map dotF).length + 1) * 16 : Nat) ≤ 140737488355328 ∧ ((xs.take i).map dotF).length + 1 ≤ 140737488355328, InR .i64 ((i : Int) + 1)] .norm [(3, .own 8004), (9, .row .strs xs), (10, vi (xs.length : Int)), (11, vi ((i : Int) + 1))] [(8004, .sl 9 .str (((xs.take i).map dotF) ++ ([dotF (xs.getD i (dflt .strs))])))] ⟨⟨⟨ent92, conJoin _ _ (Nat.le_trans (path_at hck (by omega) _).1 (by decide)) (Nat.le_trans (path_at hck (by omega) _).2 (by decide))⟩, tv⟩, tv⟩ ⟨b2, (by omega), (by omega), (inR64 (by omega) (by omega)), tv⟩ fun a w hs => ?_
   refine then_norm ⟨i + 1, by omega, by omega, ?_⟩
   (have e0_ : ((i : Int) + 1) = ((((i + 1) : Nat) : Int)) := (by first | rfl | (omega)); have e1_ : (((xs.take i).map dotF) ++ ([dotF (xs.getD i (dflt .strs))])) = ((xs.take (i + 1)).map dotF) := (by first | rfl | (exact take_map_succ (f := dotF) (by omega) _)); exact (hs.cst [(3, .own 8004), (9, .row .strs xs), (10, vi (xs.length : Int)), (11, vi (((i + 1) : Nat) : Int))] [(8004, .sl 9 .str ((xs.take (i + 1)).map dotF))] (by first | (rw [e0_, e1_]; done) | (simp only [e0_, e1_]; done) | rfl | (simp only [e0_, e1_]; rfl))).rm [(90000001, 8004)] (by kernel_rfl))
  ·skip
   have n2 := of_decide_eq_false b2
   have htk : (xs.take i).map dotF = xs.map dotF := by rw [List.take_of_length_le (by omega)]
   refine wN hs hI [false] 19025 [ty b2] (.exit 0) [(3, .own 90000001)] [(90000001, .sl 9 .str ((xs.take i).map dotF))] ⟨b2, tv⟩ fun a w hs => ?_
   refine then_exit ?_
   refine inb_hit ?_
   refine then_norm ?_
   refine wL hs hI [(9, ⟨[(1, ciA 92 [rwS ((xs.take i).map dotF), vs (ba [44])] [90000001] [] (.val (vs (joinF ((xs.take i).map dotF) (ba [44])))))], [], []⟩)] [] 410015 [] .ret [(2, vs (joinF ((xs.take i).map dotF) (ba [44])))] [] ⟨⟨⟨ent92, conJoin _ _ (by rw [htk]; exact Nat.le_trans (text_join hck) (by decide)) (by rw [htk, List.length_map]; omega)⟩, tv⟩, tv⟩ tv fun a w hs => ?_
   exact rK (.val (vs (joinF ((xs.take i).map dotF) (ba [44])))) [] hs (by simp only [textF]; rw [if_pos hck, ← htk])
 ·skip
  refine wL hs hI [(1, ⟨[(1, ciV 39 [.row .strs xs] (vb (checkF xs)))], [], []⟩)] [true] 7578300640 [ty (ng0 b1)] .ret [(2, vs (ba []))] [] ⟨⟨⟨ent39, con39 _ hxs hlen⟩, tv⟩, tv⟩ ⟨(ng0 b1), tv⟩ fun a w hs => ?_
  refine then_ret ?_
  exact rK (.val (vs (ba []))) [] hs (by simp only [textF]; rw [if_neg (by rw [b1]; decide)])
theorem td_in {v b : Int} (h : 0 ≤ v) (hb : 0 < b) : 0 ≤ v.tdiv b ∧ v.tdiv b ≤ v := ⟨Int.tdiv_nonneg h (by omega), Int.tdiv_le_self _ h⟩
end Go.Proofs.YtondpnipoogoiaaGreatDoor.F
