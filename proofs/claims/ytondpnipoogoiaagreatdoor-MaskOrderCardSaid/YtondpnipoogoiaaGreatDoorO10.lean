import Derived.Test.YtondpnipoogoiaaGreatDoorO6
namespace Go.Proofs.YtondpnipoogoiaaGreatDoor.F
open Go Go.RowKit Go.Proofs.Tryz
set_option linter.unusedVariables false
set_option linter.unusedSimpArgs false
theorem eqT_comm (a b : ByteArray) : eqT a b = eqT b a := by
  cases h : eqT a b with
  | true => rw [eqT_iff] at h; subst h; exact (eqT_self a).symm
  | false => rw [eqT_ne] at h; exact (eqT_ne.2 (Ne.symm h)).symm
theorem cut_length {t : Tree} (hk : t.kind = 7) : (cutK t).length = min t.k.length t.v.length := by
  unfold cutK; rw [if_pos hk, List.length_take]; omega
theorem cutK_at {t : Tree} (hk : t.kind = 7) {i : Nat} (h1 : i < t.k.length) (h2 : i < t.v.length) (d : ByteArray) : (cutK t).getD i d = t.k.getD i d := by
  unfold cutK; rw [if_pos hk, List.getD_eq_getElem?_getD, List.getElem?_take, if_pos (by omega), ← List.getD_eq_getElem?_getD]
theorem cutV_at {t : Tree} (hk : t.kind = 7) {i : Nat} (h1 : i < t.k.length) (h2 : i < t.v.length) (d : Tree) : (cutV t).getD i d = t.v.getD i d := by
  unfold cutV; rw [if_pos hk, List.getD_eq_getElem?_getD, List.getElem?_take, if_pos (by omega), ← List.getD_eq_getElem?_getD]
theorem mem_found {t : Tree} {x : ByteArray} {i : Nat} (hk : t.kind = 7) (h1 : i < t.k.length) (h2 : i < t.v.length) (hall : ∀ j, j < i → eqT (t.k.getD j (dflt .str)) x = false) (he : eqT (t.k.getD i (dflt .str)) x = true) : memV t x = t.v.getD i (dflt .tree) ∧ memB t x = true := by
  have hl := cut_length hk
  have h := idxT_at (x := x) (l := cutK t) (i := i) (dflt .str) (by omega) (by rw [cutK_at hk h1 h2, eqT_comm]; exact he) (fun j hj d => by rw [getD_any' (by omega) d (dflt .str), cutK_at hk (by omega) (by omega), eqT_comm]; exact hall j hj)
  have hp := memV_pos (t := t) (x := x) (by rw [h]; omega)
  rw [h, Int.toNat_natCast, cutV_at hk h1 h2] at hp
  exact hp
theorem mem_none {t : Tree} {x : ByteArray} {i : Nat} (h : ¬ (t.kind = 7) ∨ (min t.k.length t.v.length ≤ i ∧ ∀ j, j < i → eqT (t.k.getD j (dflt .str)) x = false)) : memV t x = Tree.zero ∧ memB t x = false := by
  refine memV_neg ?_
  rw [idxT_no]
  · decide
  · intro j hj d
    by_cases hk : t.kind = 7
    · rcases h with h | ⟨h, hall⟩
      · exact absurd hk h
      · have hl := cut_length hk
        rw [getD_any' hj d (dflt .str), cutK_at hk (by omega) (by omega), eqT_comm]
        exact hall j (by omega)
    · unfold cutK at hj
      rw [if_neg hk] at hj; simp at hj
theorem mems_none {t : Tree} (hk : ¬ t.kind = 7) : mems t = [] := by unfold mems cutK; rw [if_neg hk]; rfl
theorem mems_len {t : Tree} (hk : t.kind = 7) : (mems t).length = min t.k.length t.v.length := by
  have h : ((mems t).map (·.1)).length = (cutK t).length := by rw [mems_k]
  rw [List.length_map] at h; rw [h, cut_length hk]
theorem mems_drop {t : Tree} (hk : t.kind = 7) {i : Nat} (h1 : i < t.k.length) (h2 : i < t.v.length) : (mems t).drop i = (t.k.getD i (dflt .str), t.v.getD i (dflt .tree)) :: (mems t).drop (i + 1) := by
  have hl := mems_len hk
  rw [List.drop_eq_getElem_cons (by omega)]
  congr 1
  have e1 : ((mems t).map (·.1)).getD i (dflt .str) = t.k.getD i (dflt .str) := by rw [mems_k, cutK_at hk h1 h2]
  have e2 : ((mems t).map (·.2)).getD i (dflt .tree) = t.v.getD i (dflt .tree) := by rw [mems_v, cutV_at hk h1 h2]
  have hi : i < (mems t).length := by omega
  rw [List.getD_eq_getElem?_getD, List.getElem?_map, List.getElem?_eq_getElem hi] at e1 e2
  exact Prod.ext e1 e2
theorem mems_end {t : Tree} {i : Nat} (h : ¬ t.kind = 7 ∨ t.k.length ≤ i ∨ t.v.length ≤ i) : (mems t).drop i = [] := by
  by_cases hk : t.kind = 7
  · exact List.drop_of_length_le (by rw [mems_len hk]; omega)
  · rw [mems_none hk]; simp
def restS (x : ByteArray) (v : Tree) (has done : Bool) (l : Mem) : Mem := if done = true then l else if has = true then repA x v l else putA x v l
theorem restS_done {x : ByteArray} {v : Tree} {has : Bool} (l : Mem) : restS x v has true l = l := rfl
theorem rest_hit {x : ByteArray} {v : Tree} {has : Bool} {k : ByteArray} {u : Tree} {l : Mem} (hh : has = true) (h : eqT k x = true) : restS x v has false ((k, u) :: l) = (x, v) :: restS x v has true l := by
  subst hh
  rw [eqT_iff] at h; subst h
  simp [restS, repA, eqT_self]
theorem rest_put {x : ByteArray} {v : Tree} {k : ByteArray} {u : Tree} {l : Mem} (h : gtB k x = true) : restS x v false false ((k, u) :: l) = (x, v) :: (k, u) :: restS x v false true l := by
  simp [restS, putA, h]
theorem rest_on {x : ByteArray} {v : Tree} {has done : Bool} {k : ByteArray} {u : Tree} {l : Mem} (h : done = true ∨ (has = true ∧ eqT k x = false) ∨ (has = false ∧ gtB k x = false)) : restS x v has done ((k, u) :: l) = (k, u) :: restS x v has done l := by
  rcases h with rfl | ⟨rfl, h⟩ | ⟨rfl, h⟩
  · rfl
  · cases done <;> simp [restS, repA, eqT_comm x k, h]
  · cases done <;> simp [restS, putA, h]
def mK (l : Mem) : List ByteArray := l.map (·.1)
def mV (l : Mem) : List Tree := l.map (·.2)
theorem mK_add (l m : Mem) : mK (l ++ m) = mK l ++ mK m := List.map_append
theorem mV_add (l m : Mem) : mV (l ++ m) = mV l ++ mV m := List.map_append
theorem objM_snoc (l : Mem) (x : ByteArray) (v : Tree) : objM (l ++ [(x, v)]) = .mk 7 false ⟨false, [], 0⟩ (ba []) (mK l ++ [x]) (mV l ++ [v]) := by simp [objM, mK, mV]
structure SetJ (t : Tree) (x : ByteArray) (v : Tree) (i : Nat) (acc : Mem) (done : Bool) : Prop where
  eq : acc ++ restS x v (memB t x) done ((mems t).drop i) = insA x v (mems t)
  has : memB t x = true → done = false → (lookA x ((mems t).drop i)).isSome = true
  none : memB t x = false → done = false → ∀ j, j < i → t.kind = 7 → eqT (t.k.getD j (dflt .str)) x = false
  len : acc.length ≤ i + done.toNat
theorem SetJ.start (t : Tree) (x : ByteArray) (v : Tree) : SetJ t x v 0 [] false := by
  refine ⟨?_, fun h _ => ?_, fun _ _ j hj => absurd hj (Nat.not_lt_zero _), Nat.zero_le _⟩
  · rw [List.nil_append, List.drop_zero, memB_look]; rfl
  · rw [List.drop_zero, ← memB_look]; exact h
theorem memB_key {t : Tree} {x : ByteArray} {i : Nat} (hk : t.kind = 7) (h1 : i < t.k.length) (h2 : i < t.v.length) (h : eqT (t.k.getD i (dflt .str)) x = true) : memB t x = true := by
  rw [memB_look]
  cases hn : lookA x (mems t) with
  | some u => rfl
  | none =>
    exfalso
    have hd := mems_drop hk h1 h2
    have hm : (t.k.getD i (dflt .str), t.v.getD i (dflt .tree)) ∈ mems t := List.mem_of_mem_drop (by rw [hd]; exact List.mem_cons_self ..)
    have key : ∀ l : Mem, lookA x l = none → (t.k.getD i (dflt .str), t.v.getD i (dflt .tree)) ∈ l → False := by
      intro l
      induction l with
      | nil => intro _ h; simp at h
      | cons p l ih =>
        obtain ⟨y, u⟩ := p
        intro hl hm
        simp only [lookA] at hl
        split at hl
        · cases hl
        · rename_i e
          rcases List.mem_cons.1 hm with hm | hm
          · injection hm with e1 e2
            rw [← e1, eqT_comm] at e
            exact e h
          · exact ih hl hm
    exact key _ hn hm
section
variable {t : Tree} {x : ByteArray} {v : Tree} {i : Nat} {acc : Mem} {done : Bool} (J : SetJ t x v i acc done) (hk : t.kind = 7) (h1 : i < t.k.length) (h2 : i < t.v.length)
include J hk h1 h2
theorem SetJ.hit (hd : done = false) (h : eqT (t.k.getD i (dflt .str)) x = true) : SetJ t x v (i + 1) (acc ++ [(x, v)]) true := by
  have hb := memB_key hk h1 h2 h
  refine ⟨?_, fun _ h => (by cases h), fun _ h => (by cases h), by have := J.len; subst hd; simp at *; omega⟩
  have he := J.eq
  rw [mems_drop hk h1 h2, hd, rest_hit hb h] at he
  rw [← he]; simp
theorem SetJ.put (hd : done = false) (hh : memB t x = false) (h : gtB (t.k.getD i (dflt .str)) x = true) : SetJ t x v (i + 1) (acc ++ [(x, v)] ++ [(t.k.getD i (dflt .str), t.v.getD i (dflt .tree))]) true := by
  refine ⟨?_, fun _ h => (by cases h), fun _ h => (by cases h), ?_⟩
  · have he := J.eq
    rw [mems_drop hk h1 h2, hd, hh, rest_put h] at he
    rw [← he]; simp [restS]
  · have := J.len; subst hd; simp at *; omega
theorem SetJ.on (h : done = true ∨ (memB t x = true ∧ eqT (t.k.getD i (dflt .str)) x = false) ∨ (memB t x = false ∧ eqT (t.k.getD i (dflt .str)) x = false ∧ gtB (t.k.getD i (dflt .str)) x = false)) : SetJ t x v (i + 1) (acc ++ [(t.k.getD i (dflt .str), t.v.getD i (dflt .tree))]) done := by
  have hr : done = true ∨ (memB t x = true ∧ eqT (t.k.getD i (dflt .str)) x = false) ∨ (memB t x = false ∧ gtB (t.k.getD i (dflt .str)) x = false) := by
    rcases h with h | h | ⟨a, _, c⟩
    · exact .inl h
    · exact .inr (.inl h)
    · exact .inr (.inr ⟨a, c⟩)
  refine ⟨?_, fun hb hd => ?_, fun hb hd j hj hk' => ?_, by have := J.len; simp; omega⟩
  · have he := J.eq
    rw [mems_drop hk h1 h2, rest_on hr] at he
    rw [← he]; simp
  · have hs := J.has hb hd
    rw [mems_drop hk h1 h2] at hs
    rcases h with h | ⟨_, h⟩ | ⟨h, _⟩
    · rw [hd] at h; cases h
    · simp only [lookA] at hs
      rw [if_neg (by rw [eqT_comm, h]; decide)] at hs
      exact hs
    · rw [hb] at h; cases h
  · rcases Nat.lt_succ_iff_lt_or_eq.1 hj with hj | rfl
    · exact J.none hb hd j hj hk'
    · rcases h with h | ⟨h, _⟩ | ⟨_, h, _⟩
      · rw [hd] at h; cases h
      · rw [hb] at h; cases h
      · exact h
end
theorem SetJ.fin_done {t : Tree} {x : ByteArray} {v : Tree} {i : Nat} {acc : Mem} {done : Bool} (J : SetJ t x v i acc done) (hd : done = true) (he : (mems t).drop i = []) : setT t x v = objM acc := by
  have h := J.eq
  rw [he, hd, restS_done, List.append_nil] at h
  unfold setT; rw [← h]
theorem SetJ.fin_not {t : Tree} {x : ByteArray} {v : Tree} {i : Nat} {acc : Mem} {done : Bool} (J : SetJ t x v i acc done) (hd : done = false) (he : (mems t).drop i = []) : setT t x v = objM (acc ++ [(x, v)]) := by
  have h := J.eq
  cases hb : memB t x with
  | true =>
    have := J.has hb hd
    rw [he] at this; simp [lookA] at this
  | false =>
    rw [he, hd, hb] at h
    unfold setT; rw [← h]; rfl
set_option maxRecDepth 100000 in
theorem con69 (t : Tree) (x : ByteArray) (hv : t.v.length < 4611686018427387904) : Con Tryz.prog I0 69 [.agg (encTree t), vs x] (.val (.tup [.agg (encTree (memV t x)), vb (memB t x)])) := by
 refine con_of Tryz.func69 rfl (Nat.le_of_ble_eq_true rfl) stab (fun w0 fz a hI hs => ?_)
 refine wp_seq ?_
 refine way_L (tt := tt) (rs := []) (bs := []) (tk := [1, 2, 4]) (bk := [1000, 1001]) (C := tr 3 True) (lv := .norm) (T' := [(1, vs x), (2, .ptr 1000 0), (4, .ptr 1001 0)]) (B' := [(1000, .var [vi t.kind, vb t.b, vb t.n.neg, .row (.int .u32) t.n.m, vi t.n.e, vs t.s, .row .str t.k, .row .tree t.v]), (1001, .var [vi 0, vb false, vb false, nilv, vi 0, vs (ba []), nilv, nilv])]) mix hI hs ?_ ?_ ?_ ?_
 ·exact trivial
 ·kernel_rfl
 ·exact tr_mk trivial 3
 intro a w hs
 refine then_norm ?_
 refine wp_seq ?_
 refine wp_seq ?_
 refine way_L (tt := tt) (rs := []) (bs := []) (tk := [1, 2, 4, 6]) (bk := [1000, 1001]) (C := True ∧ True) (lv := .norm) (T' := [(1, vs x), (2, .ptr 1000 0), (4, .ptr 1001 0), (6, vi 0)]) (B' := [(1000, .var [vi t.kind, vb t.b, vb t.n.neg, .row (.int .u32) t.n.m, vi t.n.e, vs t.s, .row .str t.k, .row .tree t.v]), (1001, .var [vi 0, vb false, vb false, nilv, vi 0, vs (ba []), nilv, nilv])]) mix hI hs ?_ ?_ ?_ ?_
 ·exact trivial
 ·kernel_rfl
 ·exact ⟨trivial, trivial⟩
 intro a w hs
 refine then_norm ?_
 refine wp_block ?_
 refine loop_L (N := Tryz.f69.ntmps) (w0 := w0) (ow := noO fz) (α := Nat) (fun p => [(1, vs x), (2, .ptr 1000 0), (4, .ptr 1001 0), (6, vi ((p : Nat) : Int))]) (fun p => [(1000, .var [vi t.kind, vb t.b, vb t.n.neg, .row (.int .u32) t.n.m, vi t.n.e, vs t.s, .row .str t.k, .row .tree t.v]), (1001, .var [vi 0, vb false, vb false, nilv, vi 0, vs (ba []), nilv, nilv])]) (fun p => (p ≤ t.k.length ∧ p ≤ t.v.length) ∧ ∀ j, j < p → eqT (t.k.getD j (dflt .str)) x = false) (fun p => t.k.length - p) 0 ?_ ?_ ?_
 ·exact ⟨⟨Nat.zero_le _, Nat.zero_le _⟩, fun j hj => absurd hj (Nat.not_lt_zero _)⟩
 ·exact (SimL.cast hs (T' := [(1, vs x), (2, .ptr 1000 0), (4, .ptr 1001 0), (6, vi ((0 : Nat) : Int))]) (B' := [(1000, .var [vi t.kind, vb t.b, vb t.n.neg, .row (.int .u32) t.n.m, vi t.n.e, vs t.s, .row .str t.k, .row .tree t.v]), (1001, .var [vi 0, vb false, vb false, nilv, vi 0, vs (ba []), nilv, nilv])]) (by rfl) rfl).ren [(1000, 1000), (1001, 1001)] (by kernel_rfl) (by kernel_rfl) (by kernel_rfl)
 rintro i hJ a w hs
 obtain ⟨⟨hi, hi2⟩, hall⟩ := hJ
 rcases Bool.eq_false_or_eq_true (decide (((i : Nat) : Int) < (t.k.length : Int))) with b1 | b1
 ·skip
  have n1 := of_decide_eq_true b1
  rcases Bool.eq_false_or_eq_true (decide (((i : Nat) : Int) < (t.v.length : Int))) with b2 | b2
  ·skip
   have n2 := of_decide_eq_true b2
   rcases Bool.eq_false_or_eq_true (t.kind == 7) with b3 | b3
   ·skip
    have n3 := eq_of_beq b3
    rcases Bool.eq_false_or_eq_true ((t.k.getD i (dflt .str)).toList == x.toList) with b4 | b4
    ·skip
     have n4 := eq_of_beq b4
     refine way_L (tt := tt) (rs := [(2, ⟨[], [(6, true), (7, true), (8, true), (9, true), (10, true), (1011, true), (13, true), (14, true), (15, true), (1016, true)], []⟩)]) (bs := [true, true]) (tk := [4, 5]) (bk := [1001]) (C := ((tr 6 (((decide (((i : Nat) : Int) < (t.k.length : Int))) = true) ∧ True ∧ ((decide (((i : Nat) : Int) < (t.k.length : Int))) = true) ∧ True ∧ ((decide (((i : Nat) : Int) < (t.k.length : Int))) = true) ∧ True ∧ ((decide (((i : Nat) : Int) < (t.k.length : Int))) = true) ∧ True ∧ ((decide (((i : Nat) : Int) < (t.k.length : Int))) = true) ∧ True ∧ ((decide (((i : Nat) : Int) < (t.k.length : Int))) = true) ∧ True ∧ ((decide (((i : Nat) : Int) < (t.v.length : Int))) = true) ∧ True ∧ ((decide (((i : Nat) : Int) < (t.v.length : Int))) = true) ∧ True ∧ ((decide (((i : Nat) : Int) < (t.v.length : Int))) = true) ∧ True ∧ ((decide (((i : Nat) : Int) < (t.v.length : Int))) = true) ∧ True)) ∧ ((t.kind == 7) = true) ∧ True) ∧ (tr 3 ((0 ≤ ((i : Nat) : Int) ∧ ((i : Nat) : Int) < t.k.length) ∧ (tr 3 True))) ∧ (((t.k.getD i (dflt .str)).toList == x.toList) = true) ∧ (tr 3 ((0 ≤ ((i : Nat) : Int) ∧ ((i : Nat) : Int) < t.v.length) ∧ (tr 3 True))) ∧ True) (lv := .ret) (T' := [(4, .ptr 1001 0), (5, vb true)]) (B' := [(1001, .var [vi ((t.v.getD i (dflt .tree)).kind), vb ((t.v.getD i (dflt .tree)).b), vb ((t.v.getD i (dflt .tree)).n.neg), .row (.int .u32) ((t.v.getD i (dflt .tree)).n.m), vi ((t.v.getD i (dflt .tree)).n.e), vs ((t.v.getD i (dflt .tree)).s), .row .str ((t.v.getD i (dflt .tree)).k), .row .tree ((t.v.getD i (dflt .tree)).v)])]) mix hI hs ?_ ?_ ?_ ?_
     ·exact ⟨trivial, trivial⟩
     ·kernel_rfl
     ·exact ⟨⟨tr_mk (⟨b1, trivial, b1, trivial, b1, trivial, b1, trivial, b1, trivial, b1, trivial, b2, trivial, b2, trivial, b2, trivial, b2, trivial⟩) 6, b3, trivial⟩, tr_mk (⟨⟨by omega, by omega⟩, tr_mk trivial 3⟩) 3, b4, tr_mk (⟨⟨by omega, by omega⟩, tr_mk trivial 3⟩) 3, trivial⟩
     intro a w hs
     refine then_ret ?_
     refine inb_ret ?_
     refine then_ret ?_
     exact FnQ_cast (out := .val (.tup [.agg (encTree (t.v.getD i (dflt .tree))), vb true])) (by have h := mem_found (x := x) (i := i) (by omega) (by omega) (by omega) hall b4; rw [h.1, h.2]) (ret_ok [] hs ⟨by kernel_rfl, rfl⟩)
    ·skip
     have n4 := beq_eq_false_iff_ne.1 b4
     refine way_L (tt := tt) (rs := [(2, ⟨[], [(6, true), (7, true), (8, true), (9, true), (10, true), (1011, true), (13, true), (14, true), (15, true), (1016, true)], []⟩)]) (bs := [true, false]) (tk := [1, 2, 4, 6]) (bk := [1000, 1001]) (C := ((tr 6 (((decide (((i : Nat) : Int) < (t.k.length : Int))) = true) ∧ True ∧ ((decide (((i : Nat) : Int) < (t.k.length : Int))) = true) ∧ True ∧ ((decide (((i : Nat) : Int) < (t.k.length : Int))) = true) ∧ True ∧ ((decide (((i : Nat) : Int) < (t.k.length : Int))) = true) ∧ True ∧ ((decide (((i : Nat) : Int) < (t.k.length : Int))) = true) ∧ True ∧ ((decide (((i : Nat) : Int) < (t.k.length : Int))) = true) ∧ True ∧ ((decide (((i : Nat) : Int) < (t.v.length : Int))) = true) ∧ True ∧ ((decide (((i : Nat) : Int) < (t.v.length : Int))) = true) ∧ True ∧ ((decide (((i : Nat) : Int) < (t.v.length : Int))) = true) ∧ True ∧ ((decide (((i : Nat) : Int) < (t.v.length : Int))) = true) ∧ True)) ∧ ((t.kind == 7) = true) ∧ True) ∧ ((tr 3 ((0 ≤ ((i : Nat) : Int) ∧ ((i : Nat) : Int) < t.k.length) ∧ (tr 3 True))) ∧ (((t.k.getD i (dflt .str)).toList == x.toList) = false) ∧ True) ∧ True ∧ (InR .i64 (((i : Nat) : Int) + 1)) ∧ True ∧ True) (lv := .norm) (T' := [(1, vs x), (2, .ptr 1000 0), (4, .ptr 1001 0), (6, vi (((i : Nat) : Int) + 1))]) (B' := [(1000, .var [vi t.kind, vb t.b, vb t.n.neg, .row (.int .u32) t.n.m, vi t.n.e, vs t.s, .row .str t.k, .row .tree t.v]), (1001, .var [vi 0, vb false, vb false, nilv, vi 0, vs (ba []), nilv, nilv])]) mix hI hs ?_ ?_ ?_ ?_
     ·exact ⟨trivial, trivial⟩
     ·kernel_rfl
     ·exact ⟨⟨tr_mk (⟨b1, trivial, b1, trivial, b1, trivial, b1, trivial, b1, trivial, b1, trivial, b2, trivial, b2, trivial, b2, trivial, b2, trivial⟩) 6, b3, trivial⟩, ⟨tr_mk (⟨⟨by omega, by omega⟩, tr_mk trivial 3⟩) 3, b4, trivial⟩, trivial, (inR64 (by omega) (by omega)), trivial, trivial⟩
     intro a w hs
     refine then_norm ⟨i + 1, ⟨⟨by omega, by omega⟩, fun j hj => by rcases Nat.lt_succ_iff_lt_or_eq.1 hj with h | h; exact hall j h; subst h; exact b4⟩, by omega, ?_⟩
     (have e0_ : (((i : Nat) : Int) + 1) = ((((i + 1) : Nat) : Int)) := (by first | rfl | (omega)); exact (SimL.cast hs (T' := [(1, vs x), (2, .ptr 1000 0), (4, .ptr 1001 0), (6, vi (((i + 1) : Nat) : Int))]) (B' := [(1000, .var [vi t.kind, vb t.b, vb t.n.neg, .row (.int .u32) t.n.m, vi t.n.e, vs t.s, .row .str t.k, .row .tree t.v]), (1001, .var [vi 0, vb false, vb false, nilv, vi 0, vs (ba []), nilv, nilv])]) (by first | rfl | (rw [e0_]; done) | (simp only [e0_]; done) | (simp only [e0_]; rfl)) (by first | rfl | (rw [e0_]; done) | (simp only [e0_]; done) | (simp only [e0_]; rfl))).ren [(1000, 1000), (1001, 1001)] (by kernel_rfl) (by kernel_rfl) (by kernel_rfl))
   ·skip
    have n3 := beq_eq_false_iff_ne.1 b3
    refine way_L (tt := tt) (rs := [(2, ⟨[], [(6, true), (7, true), (8, true), (9, true), (10, true), (1011, true), (13, true), (14, true), (15, true), (1016, true)], []⟩)]) (bs := [false]) (tk := [4]) (bk := [1001]) (C := (tr 6 (((decide (((i : Nat) : Int) < (t.k.length : Int))) = true) ∧ True ∧ ((decide (((i : Nat) : Int) < (t.k.length : Int))) = true) ∧ True ∧ ((decide (((i : Nat) : Int) < (t.k.length : Int))) = true) ∧ True ∧ ((decide (((i : Nat) : Int) < (t.k.length : Int))) = true) ∧ True ∧ ((decide (((i : Nat) : Int) < (t.k.length : Int))) = true) ∧ True ∧ ((decide (((i : Nat) : Int) < (t.k.length : Int))) = true) ∧ True ∧ ((decide (((i : Nat) : Int) < (t.v.length : Int))) = true) ∧ True ∧ ((decide (((i : Nat) : Int) < (t.v.length : Int))) = true) ∧ True ∧ ((decide (((i : Nat) : Int) < (t.v.length : Int))) = true) ∧ True ∧ ((decide (((i : Nat) : Int) < (t.v.length : Int))) = true) ∧ True)) ∧ ((t.kind == 7) = false) ∧ True) (lv := .exit 0) (T' := [(4, .ptr 1001 0)]) (B' := [(1001, .var [vi 0, vb false, vb false, nilv, vi 0, vs (ba []), nilv, nilv])]) mix hI hs ?_ ?_ ?_ ?_
    ·exact ⟨trivial, trivial⟩
    ·kernel_rfl
    ·exact ⟨tr_mk (⟨b1, trivial, b1, trivial, b1, trivial, b1, trivial, b1, trivial, b1, trivial, b2, trivial, b2, trivial, b2, trivial, b2, trivial⟩) 6, b3, trivial⟩
    intro a w hs
    refine then_exit ?_
    refine inb_hit ?_
    refine then_norm ?_
    refine way_L (tt := tt) (rs := []) (bs := []) (tk := [4, 5]) (bk := [1001]) (C := (tr 3 True) ∧ True) (lv := .ret) (T' := [(4, .ptr 1001 0), (5, vb false)]) (B' := [(1001, .var [vi 0, vb false, vb false, nilv, vi 0, vs (ba []), nilv, nilv])]) mix hI hs ?_ ?_ ?_ ?_
    ·exact trivial
    ·kernel_rfl
    ·exact ⟨tr_mk trivial 3, trivial⟩
    intro a w hs
    exact FnQ_cast (out := .val (.tup [.agg [vi 0, vb false, vb false, .row (.int .u32) ([]), vi 0, vs (ba []), .row .str ([]), .row .tree ([])], vb false])) (by have h := mem_none (t := t) (x := x) (i := i) (by first | exact .inl (by omega) | exact .inr ⟨by omega, hall⟩); rw [h.1, h.2]; rfl) (ret_ok [] hs ⟨by kernel_rfl, rfl⟩)
  ·skip
   have n2 := of_decide_eq_false b2
   refine way_L (tt := tt) (rs := [(2, ⟨[], [(6, true), (7, true), (8, true), (9, true), (10, true), (1011, true), (13, false), (14, false), (15, false), (1016, false)], []⟩)]) (bs := [false]) (tk := [4]) (bk := [1001]) (C := (tr 6 (((decide (((i : Nat) : Int) < (t.k.length : Int))) = true) ∧ True ∧ ((decide (((i : Nat) : Int) < (t.k.length : Int))) = true) ∧ True ∧ ((decide (((i : Nat) : Int) < (t.k.length : Int))) = true) ∧ True ∧ ((decide (((i : Nat) : Int) < (t.k.length : Int))) = true) ∧ True ∧ ((decide (((i : Nat) : Int) < (t.k.length : Int))) = true) ∧ True ∧ ((decide (((i : Nat) : Int) < (t.k.length : Int))) = true) ∧ True ∧ ((decide (((i : Nat) : Int) < (t.v.length : Int))) = false) ∧ ((decide (((i : Nat) : Int) < (t.v.length : Int))) = false) ∧ ((decide (((i : Nat) : Int) < (t.v.length : Int))) = false) ∧ ((decide (((i : Nat) : Int) < (t.v.length : Int))) = false) ∧ True)) ∧ (false = false) ∧ True) (lv := .exit 0) (T' := [(4, .ptr 1001 0)]) (B' := [(1001, .var [vi 0, vb false, vb false, nilv, vi 0, vs (ba []), nilv, nilv])]) mix hI hs ?_ ?_ ?_ ?_
   ·exact ⟨trivial, trivial⟩
   ·kernel_rfl
   ·exact ⟨tr_mk (⟨b1, trivial, b1, trivial, b1, trivial, b1, trivial, b1, trivial, b1, trivial, b2, b2, b2, b2, trivial⟩) 6, rfl, trivial⟩
   intro a w hs
   refine then_exit ?_
   refine inb_hit ?_
   refine then_norm ?_
   refine way_L (tt := tt) (rs := []) (bs := []) (tk := [4, 5]) (bk := [1001]) (C := (tr 3 True) ∧ True) (lv := .ret) (T' := [(4, .ptr 1001 0), (5, vb false)]) (B' := [(1001, .var [vi 0, vb false, vb false, nilv, vi 0, vs (ba []), nilv, nilv])]) mix hI hs ?_ ?_ ?_ ?_
   ·exact trivial
   ·kernel_rfl
   ·exact ⟨tr_mk trivial 3, trivial⟩
   intro a w hs
   exact FnQ_cast (out := .val (.tup [.agg [vi 0, vb false, vb false, .row (.int .u32) ([]), vi 0, vs (ba []), .row .str ([]), .row .tree ([])], vb false])) (by have h := mem_none (t := t) (x := x) (i := i) (by first | exact .inl (by omega) | exact .inr ⟨by omega, hall⟩); rw [h.1, h.2]; rfl) (ret_ok [] hs ⟨by kernel_rfl, rfl⟩)
 ·skip
  have n1 := of_decide_eq_false b1
  refine way_L (tt := tt) (rs := [(2, ⟨[], [(6, false), (7, false), (8, false), (9, false), (10, false), (1011, false), (13, false), (14, false), (15, false), (1016, false)], []⟩)]) (bs := [false]) (tk := [4]) (bk := [1001]) (C := (tr 6 (((decide (((i : Nat) : Int) < (t.k.length : Int))) = false) ∧ ((decide (((i : Nat) : Int) < (t.k.length : Int))) = false) ∧ ((decide (((i : Nat) : Int) < (t.k.length : Int))) = false) ∧ ((decide (((i : Nat) : Int) < (t.k.length : Int))) = false) ∧ ((decide (((i : Nat) : Int) < (t.k.length : Int))) = false) ∧ ((decide (((i : Nat) : Int) < (t.k.length : Int))) = false) ∧ True ∧ (false = false) ∧ (false = false) ∧ (false = false) ∧ (false = false) ∧ True)) ∧ (false = false) ∧ True) (lv := .exit 0) (T' := [(4, .ptr 1001 0)]) (B' := [(1001, .var [vi 0, vb false, vb false, nilv, vi 0, vs (ba []), nilv, nilv])]) mix hI hs ?_ ?_ ?_ ?_
  ·exact ⟨trivial, trivial⟩
  ·kernel_rfl
  ·exact ⟨tr_mk (⟨b1, b1, b1, b1, b1, b1, trivial, rfl, rfl, rfl, rfl, trivial⟩) 6, rfl, trivial⟩
  intro a w hs
  refine then_exit ?_
  refine inb_hit ?_
  refine then_norm ?_
  refine way_L (tt := tt) (rs := []) (bs := []) (tk := [4, 5]) (bk := [1001]) (C := (tr 3 True) ∧ True) (lv := .ret) (T' := [(4, .ptr 1001 0), (5, vb false)]) (B' := [(1001, .var [vi 0, vb false, vb false, nilv, vi 0, vs (ba []), nilv, nilv])]) mix hI hs ?_ ?_ ?_ ?_
  ·exact trivial
  ·kernel_rfl
  ·exact ⟨tr_mk trivial 3, trivial⟩
  intro a w hs
  exact FnQ_cast (out := .val (.tup [.agg [vi 0, vb false, vb false, .row (.int .u32) ([]), vi 0, vs (ba []), .row .str ([]), .row .tree ([])], vb false])) (by have h := mem_none (t := t) (x := x) (i := i) (by first | exact .inl (by omega) | exact .inr ⟨by omega, hall⟩); rw [h.1, h.2]; rfl) (ret_ok [] hs ⟨by kernel_rfl, rfl⟩)
set_option maxRecDepth 100000 in
theorem con22 (t : Tree) (x : ByteArray) (v : Tree) (hk : t.k.length < 100000000) (hv : t.v.length < 100000000) : Con Tryz.prog I0 22 [.agg (encTree t), vs x, .agg (encTree v)] (.val (.agg (encTree (setT t x v)))) := by
 refine con_of Tryz.func22 rfl (Nat.le_of_ble_eq_true rfl) stab (fun w0 fz a hI hs => ?_)
 refine wp_seq ?_
 refine way_L (tt := tt) (rs := []) (bs := []) (tk := [1, 3, 5, 6]) (bk := [1000, 1001, 1002]) (C := tr 3 True) (lv := .norm) (T' := [(1, vs x), (3, .ptr 1000 0), (5, .ptr 1001 0), (6, .ptr 1002 0)]) (B' := [(1000, .var [vi t.kind, vb t.b, vb t.n.neg, .row (.int .u32) t.n.m, vi t.n.e, vs t.s, .row .str t.k, .row .tree t.v]), (1001, .var [vi v.kind, vb v.b, vb v.n.neg, .row (.int .u32) v.n.m, vi v.n.e, vs v.s, .row .str v.k, .row .tree v.v]), (1002, .var [vi 0, vb false, vb false, nilv, vi 0, vs (ba []), nilv, nilv])]) mix hI hs ?_ ?_ ?_ ?_
 ·exact trivial
 ·kernel_rfl
 ·exact tr_mk trivial 3
 intro a w hs
 refine then_norm ?_
 refine wp_seq ?_
 refine way_L (tt := tt) (rs := []) (bs := []) (tk := [1, 3, 5, 6, 7]) (bk := [1000, 1001, 1002, 2001]) (C := tr 3 True) (lv := .norm) (T' := [(1, vs x), (3, .ptr 1000 0), (5, .ptr 1001 0), (6, .ptr 1002 0), (7, .ptr 2001 0)]) (B' := [(1000, .var [vi t.kind, vb t.b, vb t.n.neg, .row (.int .u32) t.n.m, vi t.n.e, vs t.s, .row .str t.k, .row .tree t.v]), (1001, .var [vi v.kind, vb v.b, vb v.n.neg, .row (.int .u32) v.n.m, vi v.n.e, vs v.s, .row .str v.k, .row .tree v.v]), (1002, .var [vi 0, vb false, vb false, nilv, vi 0, vs (ba []), nilv, nilv]), (2001, .var [vi 7, vb false, vb false, nilv, vi 0, vs (ba []), nilv, nilv])]) mix hI hs ?_ ?_ ?_ ?_
 ·exact trivial
 ·kernel_rfl
 ·exact tr_mk trivial 3
 intro a w hs
 refine then_norm ?_
 refine wp_seq ?_
 refine way_L (tt := tt) (rs := []) (bs := []) (tk := [1, 3, 5, 6, 7, 8]) (bk := [1000, 1001, 1002, 2001]) (C := True ∧ True) (lv := .norm) (T' := [(1, vs x), (3, .ptr 1000 0), (5, .ptr 1001 0), (6, .ptr 1002 0), (7, .ptr 2001 0), (8, vb false)]) (B' := [(1000, .var [vi t.kind, vb t.b, vb t.n.neg, .row (.int .u32) t.n.m, vi t.n.e, vs t.s, .row .str t.k, .row .tree t.v]), (1001, .var [vi v.kind, vb v.b, vb v.n.neg, .row (.int .u32) v.n.m, vi v.n.e, vs v.s, .row .str v.k, .row .tree v.v]), (1002, .var [vi 0, vb false, vb false, nilv, vi 0, vs (ba []), nilv, nilv]), (2001, .var [vi 7, vb false, vb false, nilv, vi 0, vs (ba []), nilv, nilv])]) mix hI hs ?_ ?_ ?_ ?_
 ·exact trivial
 ·kernel_rfl
 ·exact ⟨trivial, trivial⟩
 intro a w hs
 refine then_norm ?_
 refine wp_seq ?_
 refine way_L (tt := tt) (rs := [(3, ⟨[(2, ciA 69 [.agg (encTree t), vs x] [] [] (.val (.tup [.agg (encTree (memV t x)), vb (memB t x)])))], [], []⟩)]) (bs := []) (tk := [1, 3, 5, 6, 7, 8, 10]) (bk := [1000, 1001, 1002, 2001]) (C := True ∧ True ∧ (okArgs [.agg (encTree t), vs x]) ∧ (tr 6 True)) (lv := .norm) (T' := [(1, vs x), (3, .ptr 1000 0), (5, .ptr 1001 0), (6, .ptr 1002 0), (7, .ptr 2001 0), (8, vb false), (10, vb (memB t x))]) (B' := [(1000, .var [vi t.kind, vb t.b, vb t.n.neg, .row (.int .u32) t.n.m, vi t.n.e, vs t.s, .row .str t.k, .row .tree t.v]), (1001, .var [vi v.kind, vb v.b, vb v.n.neg, .row (.int .u32) v.n.m, vi v.n.e, vs v.s, .row .str v.k, .row .tree v.v]), (1002, .var [vi 0, vb false, vb false, nilv, vi 0, vs (ba []), nilv, nilv]), (2001, .var [vi 7, vb false, vb false, nilv, vi 0, vs (ba []), nilv, nilv])]) mix hI hs ?_ ?_ ?_ ?_
 ·exact ⟨⟨⟨ent69, con69 _ _ (by omega)⟩, trivial⟩, trivial⟩
 ·kernel_rfl
 ·exact ⟨trivial, trivial, rfl, tr_mk trivial 6⟩
 intro a w hs
 refine then_norm ?_
 refine wp_seq ?_
 refine wp_seq ?_
 refine way_L (tt := tt) (rs := []) (bs := []) (tk := [1, 3, 5, 6, 7, 8, 10, 11]) (bk := [1000, 1001, 1002, 2001]) (C := True ∧ True) (lv := .norm) (T' := [(1, vs x), (3, .ptr 1000 0), (5, .ptr 1001 0), (6, .ptr 1002 0), (7, .ptr 2001 0), (8, vb false), (10, vb (memB t x)), (11, vi 0)]) (B' := [(1000, .var [vi t.kind, vb t.b, vb t.n.neg, .row (.int .u32) t.n.m, vi t.n.e, vs t.s, .row .str t.k, .row .tree t.v]), (1001, .var [vi v.kind, vb v.b, vb v.n.neg, .row (.int .u32) v.n.m, vi v.n.e, vs v.s, .row .str v.k, .row .tree v.v]), (1002, .var [vi 0, vb false, vb false, nilv, vi 0, vs (ba []), nilv, nilv]), (2001, .var [vi 7, vb false, vb false, nilv, vi 0, vs (ba []), nilv, nilv])]) mix hI hs ?_ ?_ ?_ ?_
 ·exact trivial
 ·kernel_rfl
 ·exact ⟨trivial, trivial⟩
 intro a w hs
 refine then_norm ?_
 refine wp_block ?_
 refine loop_L (N := Tryz.f22.ntmps) (w0 := w0) (ow := noO fz) (α := Nat × Mem × Bool) (fun p => [(1, vs x), (3, .ptr 1000 0), (5, .ptr 1001 0), (6, .ptr 1002 0), (7, .ptr 90000001 0), (8, vb p.2.2), (10, vb (memB t x)), (11, vi ((p.1 : Nat) : Int))]) (fun p => [(1000, .var [vi t.kind, vb t.b, vb t.n.neg, .row (.int .u32) t.n.m, vi t.n.e, vs t.s, .row .str t.k, .row .tree t.v]), (1001, .var [vi v.kind, vb v.b, vb v.n.neg, .row (.int .u32) v.n.m, vi v.n.e, vs v.s, .row .str v.k, .row .tree v.v]), (1002, .var [vi 0, vb false, vb false, nilv, vi 0, vs (ba []), nilv, nilv]), (90000001, .var [vi 7, vb false, vb false, nilv, vi 0, vs (ba []), .own 90000002, .own 90000003]), (90000002, .sl 9 .str (mK p.2.1)), (90000003, .sl 29 .tree (mV p.2.1))]) (fun p => (p.1 ≤ t.k.length ∧ p.1 ≤ t.v.length) ∧ SetJ t x v p.1 p.2.1 p.2.2) (fun p => t.k.length - p.1) (0, [], false) ?_ ?_ ?_
 ·exact ⟨⟨Nat.zero_le _, Nat.zero_le _⟩, SetJ.start t x v⟩
 ·(have hs := (hs.nilB 10000005 2001 6 9 .str [vi 7, vb false, vb false, nilv, vi 0, vs (ba []), nilv, nilv] (by kernel_rfl) (by kernel_rfl) (by decide) (by decide) (by kernel_rfl) (by kernel_rfl)).ren (T' := [(1, vs x), (3, .ptr 1000 0), (5, .ptr 1001 0), (6, .ptr 1002 0), (7, .ptr 2001 0), (8, vb false), (10, vb (memB t x)), (11, vi 0)]) (B' := [(1000, .var [vi t.kind, vb t.b, vb t.n.neg, .row (.int .u32) t.n.m, vi t.n.e, vs t.s, .row .str t.k, .row .tree t.v]), (1001, .var [vi v.kind, vb v.b, vb v.n.neg, .row (.int .u32) v.n.m, vi v.n.e, vs v.s, .row .str v.k, .row .tree v.v]), (1002, .var [vi 0, vb false, vb false, nilv, vi 0, vs (ba []), nilv, nilv]), (2001, .var [vi 7, vb false, vb false, nilv, vi 0, vs (ba []), .own 10000005, nilv]), (10000005, .sl 9 .str ([]))]) [(1000, 1000), (1001, 1001), (1002, 1002), (2001, 2001), (10000005, 10000005)] (by kernel_rfl) (by kernel_rfl) (by kernel_rfl); have hs := (hs.nilB 10000006 2001 7 29 .tree [vi 7, vb false, vb false, nilv, vi 0, vs (ba []), .own 10000005, nilv] (by kernel_rfl) (by kernel_rfl) (by decide) (by decide) (by kernel_rfl) (by kernel_rfl)).ren (T' := [(1, vs x), (3, .ptr 1000 0), (5, .ptr 1001 0), (6, .ptr 1002 0), (7, .ptr 2001 0), (8, vb false), (10, vb (memB t x)), (11, vi 0)]) (B' := [(1000, .var [vi t.kind, vb t.b, vb t.n.neg, .row (.int .u32) t.n.m, vi t.n.e, vs t.s, .row .str t.k, .row .tree t.v]), (1001, .var [vi v.kind, vb v.b, vb v.n.neg, .row (.int .u32) v.n.m, vi v.n.e, vs v.s, .row .str v.k, .row .tree v.v]), (1002, .var [vi 0, vb false, vb false, nilv, vi 0, vs (ba []), nilv, nilv]), (2001, .var [vi 7, vb false, vb false, nilv, vi 0, vs (ba []), .own 10000005, .own 10000006]), (10000005, .sl 9 .str ([])), (10000006, .sl 29 .tree ([]))]) [(1000, 1000), (1001, 1001), (1002, 1002), (2001, 2001), (10000005, 10000005), (10000006, 10000006)] (by kernel_rfl) (by kernel_rfl) (by kernel_rfl); exact (SimL.cast hs (T' := [(1, vs x), (3, .ptr 1000 0), (5, .ptr 1001 0), (6, .ptr 1002 0), (7, .ptr 2001 0), (8, vb false), (10, vb (memB t x)), (11, vi ((0 : Nat) : Int))]) (B' := [(1000, .var [vi t.kind, vb t.b, vb t.n.neg, .row (.int .u32) t.n.m, vi t.n.e, vs t.s, .row .str t.k, .row .tree t.v]), (1001, .var [vi v.kind, vb v.b, vb v.n.neg, .row (.int .u32) v.n.m, vi v.n.e, vs v.s, .row .str v.k, .row .tree v.v]), (1002, .var [vi 0, vb false, vb false, nilv, vi 0, vs (ba []), nilv, nilv]), (2001, .var [vi 7, vb false, vb false, nilv, vi 0, vs (ba []), .own 10000005, .own 10000006]), (10000005, .sl 9 .str (mK ([]))), (10000006, .sl 29 .tree (mV ([])))]) (by rfl) rfl).ren [(1000, 1000), (1001, 1001), (1002, 1002), (90000001, 2001), (90000002, 10000005), (90000003, 10000006)] (by kernel_rfl) (by kernel_rfl) (by kernel_rfl))
 rintro ⟨i, acc, done⟩ hJ a w hs
 try dsimp only at hJ
 obtain ⟨⟨hi, hi2⟩, hJ⟩ := hJ
 have hln := hJ.len
 have hdn : done.toNat ≤ 1 := by cases done <;> decide
 have hl1 : (mK acc).length = acc.length := List.length_map _
 have hl2 : (mV acc).length = acc.length := List.length_map _
 rcases Bool.eq_false_or_eq_true (decide (((i : Nat) : Int) < (t.k.length : Int))) with b1 | b1
 ·skip
  have n1 := of_decide_eq_true b1
  rcases Bool.eq_false_or_eq_true (decide (((i : Nat) : Int) < (t.v.length : Int))) with b2 | b2
  ·skip
   have n2 := of_decide_eq_true b2
   rcases Bool.eq_false_or_eq_true (t.kind == 7) with b3 | b3
   ·skip
    have n3 := eq_of_beq b3
    rcases Bool.eq_false_or_eq_true (done) with b4 | b4
    ·skip
     refine way_L (tt := tt) (rs := [(5, ⟨[], [(6, true), (7, true), (8, true), (9, true), (10, true), (1011, true), (13, true), (14, true), (15, true), (1016, true)], []⟩), (7, ⟨[], [(3, false), (4, false), (5, false), (6, false), (7, false), (8, false), (9, false), (1010, false)], []⟩), (10, ⟨[], [(3, false), (4, false), (1005, false), (7, false), (8, false), (9, false), (10, false), (11, false), (12, false), (13, false), (1014, false)], []⟩)]) (bs := [true, false, false]) (tk := [1, 3, 5, 6, 7, 8, 10, 11]) (bk := [1000, 1001, 1002, 14008, 14017, 90000001]) (C := ((tr 6 (((decide (((i : Nat) : Int) < (t.k.length : Int))) = true) ∧ True ∧ ((decide (((i : Nat) : Int) < (t.k.length : Int))) = true) ∧ True ∧ ((decide (((i : Nat) : Int) < (t.k.length : Int))) = true) ∧ True ∧ ((decide (((i : Nat) : Int) < (t.k.length : Int))) = true) ∧ True ∧ ((decide (((i : Nat) : Int) < (t.k.length : Int))) = true) ∧ True ∧ ((decide (((i : Nat) : Int) < (t.k.length : Int))) = true) ∧ True ∧ ((decide (((i : Nat) : Int) < (t.v.length : Int))) = true) ∧ True ∧ ((decide (((i : Nat) : Int) < (t.v.length : Int))) = true) ∧ True ∧ ((decide (((i : Nat) : Int) < (t.v.length : Int))) = true) ∧ True ∧ ((decide (((i : Nat) : Int) < (t.v.length : Int))) = true) ∧ True)) ∧ ((t.kind == 7) = true) ∧ True) ∧ (((tr 3 (((!done) = false) ∧ ((!done) = false) ∧ ((!done) = false) ∧ ((!done) = false) ∧ ((!done) = false) ∧ ((!done) = false) ∧ ((!done) = false) ∧ ((!done) = false) ∧ True ∧ True)) ∧ (false = false) ∧ (tr 3 (((!done) = false) ∧ ((!done) = false) ∧ ((!done) = false) ∧ True ∧ (false = false) ∧ (false = false) ∧ (false = false) ∧ (false = false) ∧ (false = false) ∧ (false = false) ∧ (false = false) ∧ (false = false) ∧ True ∧ True)) ∧ (false = false) ∧ True) ∧ (tr 5 ((0 ≤ ((i : Nat) : Int) ∧ ((i : Nat) : Int) < t.k.length) ∧ True ∧ True ∧ ((((mK acc).length + 1) * 16 : Nat) ≤ 140737488355328 ∧ (mK acc).length + 1 ≤ 140737488355328) ∧ (tr 5 ((0 ≤ ((i : Nat) : Int) ∧ ((i : Nat) : Int) < t.v.length) ∧ True ∧ True ∧ ((((mV acc).length + 1) * 120 : Nat) ≤ 140737488355328 ∧ (mV acc).length + 1 ≤ 140737488355328) ∧ (tr 4 True)))))) ∧ True ∧ (InR .i64 (((i : Nat) : Int) + 1)) ∧ True ∧ True) (lv := .norm) (T' := [(1, vs x), (3, .ptr 1000 0), (5, .ptr 1001 0), (6, .ptr 1002 0), (7, .ptr 90000001 0), (8, vb done), (10, vb (memB t x)), (11, vi (((i : Nat) : Int) + 1))]) (B' := [(1000, .var [vi t.kind, vb t.b, vb t.n.neg, .row (.int .u32) t.n.m, vi t.n.e, vs t.s, .row .str t.k, .row .tree t.v]), (1001, .var [vi v.kind, vb v.b, vb v.n.neg, .row (.int .u32) v.n.m, vi v.n.e, vs v.s, .row .str v.k, .row .tree v.v]), (1002, .var [vi 0, vb false, vb false, nilv, vi 0, vs (ba []), nilv, nilv]), (14008, .sl 9 .str ((mK acc) ++ ([(t.k.getD i (dflt .str))]))), (14017, .sl 29 .tree ((mV acc) ++ ([(Tree.mk ((t.v.getD i (dflt .tree)).kind) ((t.v.getD i (dflt .tree)).b) ⟨(t.v.getD i (dflt .tree)).n.neg, (t.v.getD i (dflt .tree)).n.m, (t.v.getD i (dflt .tree)).n.e⟩ ((t.v.getD i (dflt .tree)).s) ((t.v.getD i (dflt .tree)).k) ((t.v.getD i (dflt .tree)).v))]))), (90000001, .var [vi 7, vb false, vb false, nilv, vi 0, vs (ba []), .own 14008, .own 14017])]) mix hI hs ?_ ?_ ?_ ?_
     ·exact ⟨trivial, trivial, trivial, trivial⟩
     ·kernel_rfl
     ·exact ⟨⟨tr_mk (⟨b1, trivial, b1, trivial, b1, trivial, b1, trivial, b1, trivial, b1, trivial, b2, trivial, b2, trivial, b2, trivial, b2, trivial⟩) 6, b3, trivial⟩, ⟨⟨tr_mk (⟨(by rw [b4]; rfl), (by rw [b4]; rfl), (by rw [b4]; rfl), (by rw [b4]; rfl), (by rw [b4]; rfl), (by rw [b4]; rfl), (by rw [b4]; rfl), (by rw [b4]; rfl), trivial, trivial⟩) 3, rfl, tr_mk (⟨(by rw [b4]; rfl), (by rw [b4]; rfl), (by rw [b4]; rfl), trivial, rfl, rfl, rfl, rfl, rfl, rfl, rfl, rfl, trivial, trivial⟩) 3, rfl, trivial⟩, tr_mk (⟨⟨by omega, by omega⟩, trivial, trivial, ⟨by omega, by omega⟩, tr_mk (⟨⟨by omega, by omega⟩, trivial, trivial, ⟨by omega, by omega⟩, tr_mk trivial 4⟩) 5⟩) 5⟩, trivial, (inR64 (by omega) (by omega)), trivial, trivial⟩
     intro a w hs
     refine then_norm ⟨(i + 1, acc ++ [(t.k.getD i (dflt .str), t.v.getD i (dflt .tree))], done), ⟨⟨by omega, by omega⟩, hJ.on (by omega) (by omega) (by omega) (.inl b4)⟩, by omega, ?_⟩
     (have e0_ : (((i : Nat) : Int) + 1) = ((((i + 1) : Nat) : Int)) := (by first | rfl | (first | rfl | (simp only [mK_add, mV_add, Tree.eta']; rfl) | (simp [mK, mV, Tree.eta']; done))); have e1_ : ((mK acc) ++ ([(t.k.getD i (dflt .str))])) = (mK (acc ++ [(t.k.getD i (dflt .str), t.v.getD i (dflt .tree))])) := (by first | rfl | (first | rfl | (simp only [mK_add, mV_add, Tree.eta']; rfl) | (simp [mK, mV, Tree.eta']; done))); have e2_ : ((mV acc) ++ ([(Tree.mk ((t.v.getD i (dflt .tree)).kind) ((t.v.getD i (dflt .tree)).b) ⟨(t.v.getD i (dflt .tree)).n.neg, (t.v.getD i (dflt .tree)).n.m, (t.v.getD i (dflt .tree)).n.e⟩ ((t.v.getD i (dflt .tree)).s) ((t.v.getD i (dflt .tree)).k) ((t.v.getD i (dflt .tree)).v))])) = (mV (acc ++ [(t.k.getD i (dflt .str), t.v.getD i (dflt .tree))])) := (by first | rfl | (first | rfl | (simp only [mK_add, mV_add, Tree.eta']; rfl) | (simp [mK, mV, Tree.eta']; done))); exact (SimL.cast hs (T' := [(1, vs x), (3, .ptr 1000 0), (5, .ptr 1001 0), (6, .ptr 1002 0), (7, .ptr 90000001 0), (8, vb done), (10, vb (memB t x)), (11, vi (((i + 1) : Nat) : Int))]) (B' := [(1000, .var [vi t.kind, vb t.b, vb t.n.neg, .row (.int .u32) t.n.m, vi t.n.e, vs t.s, .row .str t.k, .row .tree t.v]), (1001, .var [vi v.kind, vb v.b, vb v.n.neg, .row (.int .u32) v.n.m, vi v.n.e, vs v.s, .row .str v.k, .row .tree v.v]), (1002, .var [vi 0, vb false, vb false, nilv, vi 0, vs (ba []), nilv, nilv]), (14008, .sl 9 .str (mK (acc ++ [(t.k.getD i (dflt .str), t.v.getD i (dflt .tree))]))), (14017, .sl 29 .tree (mV (acc ++ [(t.k.getD i (dflt .str), t.v.getD i (dflt .tree))]))), (90000001, .var [vi 7, vb false, vb false, nilv, vi 0, vs (ba []), .own 14008, .own 14017])]) (by first | rfl | (rw [e0_, e1_, e2_]; done) | (simp only [e0_, e1_, e2_]; done) | (simp only [e0_, e1_, e2_]; rfl)) (by first | rfl | (rw [e0_, e1_, e2_]; done) | (simp only [e0_, e1_, e2_]; done) | (simp only [e0_, e1_, e2_]; rfl))).ren [(1000, 1000), (1001, 1001), (1002, 1002), (90000001, 90000001), (90000002, 14008), (90000003, 14017)] (by kernel_rfl) (by kernel_rfl) (by kernel_rfl))
    ·skip
     rcases Bool.eq_false_or_eq_true ((t.k.getD i (dflt .str)).toList == x.toList) with b5 | b5
     ·skip
      have n5 := eq_of_beq b5
      refine way_L (tt := tt) (rs := [(5, ⟨[], [(6, true), (7, true), (8, true), (9, true), (10, true), (1011, true), (13, true), (14, true), (15, true), (1016, true)], []⟩), (7, ⟨[], [(3, true), (4, true), (5, true), (6, true), (7, true), (8, true), (9, true), (1010, true)], []⟩)]) (bs := [true, true]) (tk := [1, 3, 5, 6, 7, 8, 10, 11]) (bk := [1000, 1001, 1002, 9004, 9009, 90000001]) (C := ((tr 6 (((decide (((i : Nat) : Int) < (t.k.length : Int))) = true) ∧ True ∧ ((decide (((i : Nat) : Int) < (t.k.length : Int))) = true) ∧ True ∧ ((decide (((i : Nat) : Int) < (t.k.length : Int))) = true) ∧ True ∧ ((decide (((i : Nat) : Int) < (t.k.length : Int))) = true) ∧ True ∧ ((decide (((i : Nat) : Int) < (t.k.length : Int))) = true) ∧ True ∧ ((decide (((i : Nat) : Int) < (t.k.length : Int))) = true) ∧ True ∧ ((decide (((i : Nat) : Int) < (t.v.length : Int))) = true) ∧ True ∧ ((decide (((i : Nat) : Int) < (t.v.length : Int))) = true) ∧ True ∧ ((decide (((i : Nat) : Int) < (t.v.length : Int))) = true) ∧ True ∧ ((decide (((i : Nat) : Int) < (t.v.length : Int))) = true) ∧ True)) ∧ ((t.kind == 7) = true) ∧ True) ∧ ((tr 3 (((!done) = true) ∧ True ∧ ((!done) = true) ∧ True ∧ ((!done) = true) ∧ True ∧ ((!done) = true) ∧ (0 ≤ ((i : Nat) : Int) ∧ ((i : Nat) : Int) < t.k.length) ∧ ((!done) = true) ∧ True ∧ ((!done) = true) ∧ True ∧ ((!done) = true) ∧ True ∧ ((!done) = true) ∧ True ∧ True)) ∧ (((t.k.getD i (dflt .str)).toList == x.toList) = true) ∧ (tr 4 (((((mK acc).length + 1) * 16 : Nat) ≤ 140737488355328 ∧ (mK acc).length + 1 ≤ 140737488355328) ∧ (tr 4 (((((mV acc).length + 1) * 120 : Nat) ≤ 140737488355328 ∧ (mV acc).length + 1 ≤ 140737488355328) ∧ (tr 4 True))))) ∧ (True ∧ True) ∧ True) ∧ True ∧ (InR .i64 (((i : Nat) : Int) + 1)) ∧ True ∧ True) (lv := .norm) (T' := [(1, vs x), (3, .ptr 1000 0), (5, .ptr 1001 0), (6, .ptr 1002 0), (7, .ptr 90000001 0), (8, vb true), (10, vb (memB t x)), (11, vi (((i : Nat) : Int) + 1))]) (B' := [(1000, .var [vi t.kind, vb t.b, vb t.n.neg, .row (.int .u32) t.n.m, vi t.n.e, vs t.s, .row .str t.k, .row .tree t.v]), (1001, .var [vi v.kind, vb v.b, vb v.n.neg, .row (.int .u32) v.n.m, vi v.n.e, vs v.s, .row .str v.k, .row .tree v.v]), (1002, .var [vi 0, vb false, vb false, nilv, vi 0, vs (ba []), nilv, nilv]), (9004, .sl 9 .str ((mK acc) ++ ([x]))), (9009, .sl 29 .tree ((mV acc) ++ ([(Tree.mk v.kind v.b ⟨v.n.neg, v.n.m, v.n.e⟩ v.s v.k v.v)]))), (90000001, .var [vi 7, vb false, vb false, nilv, vi 0, vs (ba []), .own 9004, .own 9009])]) mix hI hs ?_ ?_ ?_ ?_
      ·exact ⟨trivial, trivial, trivial⟩
      ·kernel_rfl
      ·exact ⟨⟨tr_mk (⟨b1, trivial, b1, trivial, b1, trivial, b1, trivial, b1, trivial, b1, trivial, b2, trivial, b2, trivial, b2, trivial, b2, trivial⟩) 6, b3, trivial⟩, ⟨tr_mk (⟨(by rw [b4]; rfl), trivial, (by rw [b4]; rfl), trivial, (by rw [b4]; rfl), trivial, (by rw [b4]; rfl), ⟨by omega, by omega⟩, (by rw [b4]; rfl), trivial, (by rw [b4]; rfl), trivial, (by rw [b4]; rfl), trivial, (by rw [b4]; rfl), trivial, trivial⟩) 3, b5, tr_mk (⟨⟨by omega, by omega⟩, tr_mk (⟨⟨by omega, by omega⟩, tr_mk trivial 4⟩) 4⟩) 4, ⟨trivial, trivial⟩, trivial⟩, trivial, (inR64 (by omega) (by omega)), trivial, trivial⟩
      intro a w hs
      refine then_norm ⟨(i + 1, acc ++ [(x, v)], true), ⟨⟨by omega, by omega⟩, hJ.hit (by omega) (by omega) (by omega) b4 b5⟩, by omega, ?_⟩
      (have e0_ : (((i : Nat) : Int) + 1) = ((((i + 1) : Nat) : Int)) := (by first | rfl | (first | rfl | (simp only [mK_add, mV_add, Tree.eta']; rfl) | (simp [mK, mV, Tree.eta']; done))); have e1_ : ((mK acc) ++ ([x])) = (mK (acc ++ [(x, v)])) := (by first | rfl | (first | rfl | (simp only [mK_add, mV_add, Tree.eta']; rfl) | (simp [mK, mV, Tree.eta']; done))); have e2_ : ((mV acc) ++ ([(Tree.mk v.kind v.b ⟨v.n.neg, v.n.m, v.n.e⟩ v.s v.k v.v)])) = (mV (acc ++ [(x, v)])) := (by first | rfl | (first | rfl | (simp only [mK_add, mV_add, Tree.eta']; rfl) | (simp [mK, mV, Tree.eta']; done))); exact (SimL.cast hs (T' := [(1, vs x), (3, .ptr 1000 0), (5, .ptr 1001 0), (6, .ptr 1002 0), (7, .ptr 90000001 0), (8, vb true), (10, vb (memB t x)), (11, vi (((i + 1) : Nat) : Int))]) (B' := [(1000, .var [vi t.kind, vb t.b, vb t.n.neg, .row (.int .u32) t.n.m, vi t.n.e, vs t.s, .row .str t.k, .row .tree t.v]), (1001, .var [vi v.kind, vb v.b, vb v.n.neg, .row (.int .u32) v.n.m, vi v.n.e, vs v.s, .row .str v.k, .row .tree v.v]), (1002, .var [vi 0, vb false, vb false, nilv, vi 0, vs (ba []), nilv, nilv]), (9004, .sl 9 .str (mK (acc ++ [(x, v)]))), (9009, .sl 29 .tree (mV (acc ++ [(x, v)]))), (90000001, .var [vi 7, vb false, vb false, nilv, vi 0, vs (ba []), .own 9004, .own 9009])]) (by first | rfl | (rw [e0_, e1_, e2_]; done) | (simp only [e0_, e1_, e2_]; done) | (simp only [e0_, e1_, e2_]; rfl)) (by first | rfl | (rw [e0_, e1_, e2_]; done) | (simp only [e0_, e1_, e2_]; done) | (simp only [e0_, e1_, e2_]; rfl))).ren [(1000, 1000), (1001, 1001), (1002, 1002), (90000001, 90000001), (90000002, 9004), (90000003, 9009)] (by kernel_rfl) (by kernel_rfl) (by kernel_rfl))
     ·skip
      have n5 := beq_eq_false_iff_ne.1 b5
      rcases Bool.eq_false_or_eq_true (memB t x) with b6 | b6
      ·skip
       refine way_L (tt := tt) (rs := [(5, ⟨[], [(6, true), (7, true), (8, true), (9, true), (10, true), (1011, true), (13, true), (14, true), (15, true), (1016, true)], []⟩), (7, ⟨[], [(3, true), (4, true), (5, true), (6, true), (7, true), (8, true), (9, true), (1010, true)], []⟩), (10, ⟨[], [(3, true), (4, true), (1005, true), (7, false), (8, false), (9, false), (10, false), (11, false), (12, false), (13, false), (1014, false)], []⟩)]) (bs := [true, false, false]) (tk := [1, 3, 5, 6, 7, 8, 10, 11]) (bk := [1000, 1001, 1002, 14008, 14017, 90000001]) (C := ((tr 6 (((decide (((i : Nat) : Int) < (t.k.length : Int))) = true) ∧ True ∧ ((decide (((i : Nat) : Int) < (t.k.length : Int))) = true) ∧ True ∧ ((decide (((i : Nat) : Int) < (t.k.length : Int))) = true) ∧ True ∧ ((decide (((i : Nat) : Int) < (t.k.length : Int))) = true) ∧ True ∧ ((decide (((i : Nat) : Int) < (t.k.length : Int))) = true) ∧ True ∧ ((decide (((i : Nat) : Int) < (t.k.length : Int))) = true) ∧ True ∧ ((decide (((i : Nat) : Int) < (t.v.length : Int))) = true) ∧ True ∧ ((decide (((i : Nat) : Int) < (t.v.length : Int))) = true) ∧ True ∧ ((decide (((i : Nat) : Int) < (t.v.length : Int))) = true) ∧ True ∧ ((decide (((i : Nat) : Int) < (t.v.length : Int))) = true) ∧ True)) ∧ ((t.kind == 7) = true) ∧ True) ∧ (((tr 3 (((!done) = true) ∧ True ∧ ((!done) = true) ∧ True ∧ ((!done) = true) ∧ True ∧ ((!done) = true) ∧ (0 ≤ ((i : Nat) : Int) ∧ ((i : Nat) : Int) < t.k.length) ∧ ((!done) = true) ∧ True ∧ ((!done) = true) ∧ True ∧ ((!done) = true) ∧ True ∧ ((!done) = true) ∧ True ∧ True)) ∧ (((t.k.getD i (dflt .str)).toList == x.toList) = false) ∧ (tr 3 (((!done) = true) ∧ True ∧ ((!done) = true) ∧ True ∧ ((!done) = true) ∧ True ∧ ((!(memB t x)) = false) ∧ ((!(memB t x)) = false) ∧ ((!(memB t x)) = false) ∧ ((!(memB t x)) = false) ∧ ((!(memB t x)) = false) ∧ ((!(memB t x)) = false) ∧ ((!(memB t x)) = false) ∧ ((!(memB t x)) = false) ∧ True ∧ True)) ∧ (false = false) ∧ True) ∧ (tr 5 ((0 ≤ ((i : Nat) : Int) ∧ ((i : Nat) : Int) < t.k.length) ∧ True ∧ True ∧ ((((mK acc).length + 1) * 16 : Nat) ≤ 140737488355328 ∧ (mK acc).length + 1 ≤ 140737488355328) ∧ (tr 5 ((0 ≤ ((i : Nat) : Int) ∧ ((i : Nat) : Int) < t.v.length) ∧ True ∧ True ∧ ((((mV acc).length + 1) * 120 : Nat) ≤ 140737488355328 ∧ (mV acc).length + 1 ≤ 140737488355328) ∧ (tr 4 True)))))) ∧ True ∧ (InR .i64 (((i : Nat) : Int) + 1)) ∧ True ∧ True) (lv := .norm) (T' := [(1, vs x), (3, .ptr 1000 0), (5, .ptr 1001 0), (6, .ptr 1002 0), (7, .ptr 90000001 0), (8, vb done), (10, vb (memB t x)), (11, vi (((i : Nat) : Int) + 1))]) (B' := [(1000, .var [vi t.kind, vb t.b, vb t.n.neg, .row (.int .u32) t.n.m, vi t.n.e, vs t.s, .row .str t.k, .row .tree t.v]), (1001, .var [vi v.kind, vb v.b, vb v.n.neg, .row (.int .u32) v.n.m, vi v.n.e, vs v.s, .row .str v.k, .row .tree v.v]), (1002, .var [vi 0, vb false, vb false, nilv, vi 0, vs (ba []), nilv, nilv]), (14008, .sl 9 .str ((mK acc) ++ ([(t.k.getD i (dflt .str))]))), (14017, .sl 29 .tree ((mV acc) ++ ([(Tree.mk ((t.v.getD i (dflt .tree)).kind) ((t.v.getD i (dflt .tree)).b) ⟨(t.v.getD i (dflt .tree)).n.neg, (t.v.getD i (dflt .tree)).n.m, (t.v.getD i (dflt .tree)).n.e⟩ ((t.v.getD i (dflt .tree)).s) ((t.v.getD i (dflt .tree)).k) ((t.v.getD i (dflt .tree)).v))]))), (90000001, .var [vi 7, vb false, vb false, nilv, vi 0, vs (ba []), .own 14008, .own 14017])]) mix hI hs ?_ ?_ ?_ ?_
       ·exact ⟨trivial, trivial, trivial, trivial⟩
       ·kernel_rfl
       ·exact ⟨⟨tr_mk (⟨b1, trivial, b1, trivial, b1, trivial, b1, trivial, b1, trivial, b1, trivial, b2, trivial, b2, trivial, b2, trivial, b2, trivial⟩) 6, b3, trivial⟩, ⟨⟨tr_mk (⟨(by rw [b4]; rfl), trivial, (by rw [b4]; rfl), trivial, (by rw [b4]; rfl), trivial, (by rw [b4]; rfl), ⟨by omega, by omega⟩, (by rw [b4]; rfl), trivial, (by rw [b4]; rfl), trivial, (by rw [b4]; rfl), trivial, (by rw [b4]; rfl), trivial, trivial⟩) 3, b5, tr_mk (⟨(by rw [b4]; rfl), trivial, (by rw [b4]; rfl), trivial, (by rw [b4]; rfl), trivial, (by rw [b6]; rfl), (by rw [b6]; rfl), (by rw [b6]; rfl), (by rw [b6]; rfl), (by rw [b6]; rfl), (by rw [b6]; rfl), (by rw [b6]; rfl), (by rw [b6]; rfl), trivial, trivial⟩) 3, rfl, trivial⟩, tr_mk (⟨⟨by omega, by omega⟩, trivial, trivial, ⟨by omega, by omega⟩, tr_mk (⟨⟨by omega, by omega⟩, trivial, trivial, ⟨by omega, by omega⟩, tr_mk trivial 4⟩) 5⟩) 5⟩, trivial, (inR64 (by omega) (by omega)), trivial, trivial⟩
       intro a w hs
       refine then_norm ⟨(i + 1, acc ++ [(t.k.getD i (dflt .str), t.v.getD i (dflt .tree))], done), ⟨⟨by omega, by omega⟩, hJ.on (by omega) (by omega) (by omega) (.inr (.inl ⟨b6, b5⟩))⟩, by omega, ?_⟩
       (have e0_ : (((i : Nat) : Int) + 1) = ((((i + 1) : Nat) : Int)) := (by first | rfl | (first | rfl | (simp only [mK_add, mV_add, Tree.eta']; rfl) | (simp [mK, mV, Tree.eta']; done))); have e1_ : ((mK acc) ++ ([(t.k.getD i (dflt .str))])) = (mK (acc ++ [(t.k.getD i (dflt .str), t.v.getD i (dflt .tree))])) := (by first | rfl | (first | rfl | (simp only [mK_add, mV_add, Tree.eta']; rfl) | (simp [mK, mV, Tree.eta']; done))); have e2_ : ((mV acc) ++ ([(Tree.mk ((t.v.getD i (dflt .tree)).kind) ((t.v.getD i (dflt .tree)).b) ⟨(t.v.getD i (dflt .tree)).n.neg, (t.v.getD i (dflt .tree)).n.m, (t.v.getD i (dflt .tree)).n.e⟩ ((t.v.getD i (dflt .tree)).s) ((t.v.getD i (dflt .tree)).k) ((t.v.getD i (dflt .tree)).v))])) = (mV (acc ++ [(t.k.getD i (dflt .str), t.v.getD i (dflt .tree))])) := (by first | rfl | (first | rfl | (simp only [mK_add, mV_add, Tree.eta']; rfl) | (simp [mK, mV, Tree.eta']; done))); exact (SimL.cast hs (T' := [(1, vs x), (3, .ptr 1000 0), (5, .ptr 1001 0), (6, .ptr 1002 0), (7, .ptr 90000001 0), (8, vb done), (10, vb (memB t x)), (11, vi (((i + 1) : Nat) : Int))]) (B' := [(1000, .var [vi t.kind, vb t.b, vb t.n.neg, .row (.int .u32) t.n.m, vi t.n.e, vs t.s, .row .str t.k, .row .tree t.v]), (1001, .var [vi v.kind, vb v.b, vb v.n.neg, .row (.int .u32) v.n.m, vi v.n.e, vs v.s, .row .str v.k, .row .tree v.v]), (1002, .var [vi 0, vb false, vb false, nilv, vi 0, vs (ba []), nilv, nilv]), (14008, .sl 9 .str (mK (acc ++ [(t.k.getD i (dflt .str), t.v.getD i (dflt .tree))]))), (14017, .sl 29 .tree (mV (acc ++ [(t.k.getD i (dflt .str), t.v.getD i (dflt .tree))]))), (90000001, .var [vi 7, vb false, vb false, nilv, vi 0, vs (ba []), .own 14008, .own 14017])]) (by first | rfl | (rw [e0_, e1_, e2_]; done) | (simp only [e0_, e1_, e2_]; done) | (simp only [e0_, e1_, e2_]; rfl)) (by first | rfl | (rw [e0_, e1_, e2_]; done) | (simp only [e0_, e1_, e2_]; done) | (simp only [e0_, e1_, e2_]; rfl))).ren [(1000, 1000), (1001, 1001), (1002, 1002), (90000001, 90000001), (90000002, 14008), (90000003, 14017)] (by kernel_rfl) (by kernel_rfl) (by kernel_rfl))
      ·skip
       rcases Bool.eq_false_or_eq_true (Op.bytesLess (t.k.getD i (dflt .str)).toList x.toList || (t.k.getD i (dflt .str)).toList == x.toList) with b7 | b7
       ·skip
        refine way_L (tt := tt) (rs := [(5, ⟨[], [(6, true), (7, true), (8, true), (9, true), (10, true), (1011, true), (13, true), (14, true), (15, true), (1016, true)], []⟩), (7, ⟨[], [(3, true), (4, true), (5, true), (6, true), (7, true), (8, true), (9, true), (1010, true)], []⟩), (10, ⟨[], [(3, true), (4, true), (1005, true), (7, true), (8, true), (9, true), (10, true), (11, true), (12, true), (13, true), (1014, true)], []⟩)]) (bs := [true, false, false]) (tk := [1, 3, 5, 6, 7, 8, 10, 11]) (bk := [1000, 1001, 1002, 14008, 14017, 90000001]) (C := ((tr 6 (((decide (((i : Nat) : Int) < (t.k.length : Int))) = true) ∧ True ∧ ((decide (((i : Nat) : Int) < (t.k.length : Int))) = true) ∧ True ∧ ((decide (((i : Nat) : Int) < (t.k.length : Int))) = true) ∧ True ∧ ((decide (((i : Nat) : Int) < (t.k.length : Int))) = true) ∧ True ∧ ((decide (((i : Nat) : Int) < (t.k.length : Int))) = true) ∧ True ∧ ((decide (((i : Nat) : Int) < (t.k.length : Int))) = true) ∧ True ∧ ((decide (((i : Nat) : Int) < (t.v.length : Int))) = true) ∧ True ∧ ((decide (((i : Nat) : Int) < (t.v.length : Int))) = true) ∧ True ∧ ((decide (((i : Nat) : Int) < (t.v.length : Int))) = true) ∧ True ∧ ((decide (((i : Nat) : Int) < (t.v.length : Int))) = true) ∧ True)) ∧ ((t.kind == 7) = true) ∧ True) ∧ (((tr 3 (((!done) = true) ∧ True ∧ ((!done) = true) ∧ True ∧ ((!done) = true) ∧ True ∧ ((!done) = true) ∧ (0 ≤ ((i : Nat) : Int) ∧ ((i : Nat) : Int) < t.k.length) ∧ ((!done) = true) ∧ True ∧ ((!done) = true) ∧ True ∧ ((!done) = true) ∧ True ∧ ((!done) = true) ∧ True ∧ True)) ∧ (((t.k.getD i (dflt .str)).toList == x.toList) = false) ∧ (tr 3 (((!done) = true) ∧ True ∧ ((!done) = true) ∧ True ∧ ((!done) = true) ∧ True ∧ ((!(memB t x)) = true) ∧ True ∧ ((!(memB t x)) = true) ∧ True ∧ ((!(memB t x)) = true) ∧ True ∧ ((!(memB t x)) = true) ∧ (0 ≤ ((i : Nat) : Int) ∧ ((i : Nat) : Int) < t.k.length) ∧ ((!(memB t x)) = true) ∧ True ∧ ((!(memB t x)) = true) ∧ True ∧ ((!(memB t x)) = true) ∧ True ∧ ((!(memB t x)) = true) ∧ True ∧ True)) ∧ ((!(Op.bytesLess (t.k.getD i (dflt .str)).toList x.toList || (t.k.getD i (dflt .str)).toList == x.toList)) = false) ∧ True) ∧ (tr 5 ((0 ≤ ((i : Nat) : Int) ∧ ((i : Nat) : Int) < t.k.length) ∧ True ∧ True ∧ ((((mK acc).length + 1) * 16 : Nat) ≤ 140737488355328 ∧ (mK acc).length + 1 ≤ 140737488355328) ∧ (tr 5 ((0 ≤ ((i : Nat) : Int) ∧ ((i : Nat) : Int) < t.v.length) ∧ True ∧ True ∧ ((((mV acc).length + 1) * 120 : Nat) ≤ 140737488355328 ∧ (mV acc).length + 1 ≤ 140737488355328) ∧ (tr 4 True)))))) ∧ True ∧ (InR .i64 (((i : Nat) : Int) + 1)) ∧ True ∧ True) (lv := .norm) (T' := [(1, vs x), (3, .ptr 1000 0), (5, .ptr 1001 0), (6, .ptr 1002 0), (7, .ptr 90000001 0), (8, vb done), (10, vb (memB t x)), (11, vi (((i : Nat) : Int) + 1))]) (B' := [(1000, .var [vi t.kind, vb t.b, vb t.n.neg, .row (.int .u32) t.n.m, vi t.n.e, vs t.s, .row .str t.k, .row .tree t.v]), (1001, .var [vi v.kind, vb v.b, vb v.n.neg, .row (.int .u32) v.n.m, vi v.n.e, vs v.s, .row .str v.k, .row .tree v.v]), (1002, .var [vi 0, vb false, vb false, nilv, vi 0, vs (ba []), nilv, nilv]), (14008, .sl 9 .str ((mK acc) ++ ([(t.k.getD i (dflt .str))]))), (14017, .sl 29 .tree ((mV acc) ++ ([(Tree.mk ((t.v.getD i (dflt .tree)).kind) ((t.v.getD i (dflt .tree)).b) ⟨(t.v.getD i (dflt .tree)).n.neg, (t.v.getD i (dflt .tree)).n.m, (t.v.getD i (dflt .tree)).n.e⟩ ((t.v.getD i (dflt .tree)).s) ((t.v.getD i (dflt .tree)).k) ((t.v.getD i (dflt .tree)).v))]))), (90000001, .var [vi 7, vb false, vb false, nilv, vi 0, vs (ba []), .own 14008, .own 14017])]) mix hI hs ?_ ?_ ?_ ?_
        ·exact ⟨trivial, trivial, trivial, trivial⟩
        ·kernel_rfl
        ·exact ⟨⟨tr_mk (⟨b1, trivial, b1, trivial, b1, trivial, b1, trivial, b1, trivial, b1, trivial, b2, trivial, b2, trivial, b2, trivial, b2, trivial⟩) 6, b3, trivial⟩, ⟨⟨tr_mk (⟨(by rw [b4]; rfl), trivial, (by rw [b4]; rfl), trivial, (by rw [b4]; rfl), trivial, (by rw [b4]; rfl), ⟨by omega, by omega⟩, (by rw [b4]; rfl), trivial, (by rw [b4]; rfl), trivial, (by rw [b4]; rfl), trivial, (by rw [b4]; rfl), trivial, trivial⟩) 3, b5, tr_mk (⟨(by rw [b4]; rfl), trivial, (by rw [b4]; rfl), trivial, (by rw [b4]; rfl), trivial, (by rw [b6]; rfl), trivial, (by rw [b6]; rfl), trivial, (by rw [b6]; rfl), trivial, (by rw [b6]; rfl), ⟨by omega, by omega⟩, (by rw [b6]; rfl), trivial, (by rw [b6]; rfl), trivial, (by rw [b6]; rfl), trivial, (by rw [b6]; rfl), trivial, trivial⟩) 3, (by rw [b7]; rfl), trivial⟩, tr_mk (⟨⟨by omega, by omega⟩, trivial, trivial, ⟨by omega, by omega⟩, tr_mk (⟨⟨by omega, by omega⟩, trivial, trivial, ⟨by omega, by omega⟩, tr_mk trivial 4⟩) 5⟩) 5⟩, trivial, (inR64 (by omega) (by omega)), trivial, trivial⟩
        intro a w hs
        refine then_norm ⟨(i + 1, acc ++ [(t.k.getD i (dflt .str), t.v.getD i (dflt .tree))], done), ⟨⟨by omega, by omega⟩, hJ.on (by omega) (by omega) (by omega) (.inr (.inr ⟨b6, b5, by unfold gtB; rw [b7]; rfl⟩))⟩, by omega, ?_⟩
        (have e0_ : (((i : Nat) : Int) + 1) = ((((i + 1) : Nat) : Int)) := (by first | rfl | (first | rfl | (simp only [mK_add, mV_add, Tree.eta']; rfl) | (simp [mK, mV, Tree.eta']; done))); have e1_ : ((mK acc) ++ ([(t.k.getD i (dflt .str))])) = (mK (acc ++ [(t.k.getD i (dflt .str), t.v.getD i (dflt .tree))])) := (by first | rfl | (first | rfl | (simp only [mK_add, mV_add, Tree.eta']; rfl) | (simp [mK, mV, Tree.eta']; done))); have e2_ : ((mV acc) ++ ([(Tree.mk ((t.v.getD i (dflt .tree)).kind) ((t.v.getD i (dflt .tree)).b) ⟨(t.v.getD i (dflt .tree)).n.neg, (t.v.getD i (dflt .tree)).n.m, (t.v.getD i (dflt .tree)).n.e⟩ ((t.v.getD i (dflt .tree)).s) ((t.v.getD i (dflt .tree)).k) ((t.v.getD i (dflt .tree)).v))])) = (mV (acc ++ [(t.k.getD i (dflt .str), t.v.getD i (dflt .tree))])) := (by first | rfl | (first | rfl | (simp only [mK_add, mV_add, Tree.eta']; rfl) | (simp [mK, mV, Tree.eta']; done))); exact (SimL.cast hs (T' := [(1, vs x), (3, .ptr 1000 0), (5, .ptr 1001 0), (6, .ptr 1002 0), (7, .ptr 90000001 0), (8, vb done), (10, vb (memB t x)), (11, vi (((i + 1) : Nat) : Int))]) (B' := [(1000, .var [vi t.kind, vb t.b, vb t.n.neg, .row (.int .u32) t.n.m, vi t.n.e, vs t.s, .row .str t.k, .row .tree t.v]), (1001, .var [vi v.kind, vb v.b, vb v.n.neg, .row (.int .u32) v.n.m, vi v.n.e, vs v.s, .row .str v.k, .row .tree v.v]), (1002, .var [vi 0, vb false, vb false, nilv, vi 0, vs (ba []), nilv, nilv]), (14008, .sl 9 .str (mK (acc ++ [(t.k.getD i (dflt .str), t.v.getD i (dflt .tree))]))), (14017, .sl 29 .tree (mV (acc ++ [(t.k.getD i (dflt .str), t.v.getD i (dflt .tree))]))), (90000001, .var [vi 7, vb false, vb false, nilv, vi 0, vs (ba []), .own 14008, .own 14017])]) (by first | rfl | (rw [e0_, e1_, e2_]; done) | (simp only [e0_, e1_, e2_]; done) | (simp only [e0_, e1_, e2_]; rfl)) (by first | rfl | (rw [e0_, e1_, e2_]; done) | (simp only [e0_, e1_, e2_]; done) | (simp only [e0_, e1_, e2_]; rfl))).ren [(1000, 1000), (1001, 1001), (1002, 1002), (90000001, 90000001), (90000002, 14008), (90000003, 14017)] (by kernel_rfl) (by kernel_rfl) (by kernel_rfl))
       ·skip
        refine way_L (tt := tt) (rs := [(5, ⟨[], [(6, true), (7, true), (8, true), (9, true), (10, true), (1011, true), (13, true), (14, true), (15, true), (1016, true)], []⟩), (7, ⟨[], [(3, true), (4, true), (5, true), (6, true), (7, true), (8, true), (9, true), (1010, true)], []⟩), (10, ⟨[], [(3, true), (4, true), (1005, true), (7, true), (8, true), (9, true), (10, true), (11, true), (12, true), (13, true), (1014, true)], []⟩)]) (bs := [true, false, true]) (tk := [1, 3, 5, 6, 7, 8, 10, 11]) (bk := [1000, 1001, 1002, 14008, 14017, 90000001]) (C := ((tr 6 (((decide (((i : Nat) : Int) < (t.k.length : Int))) = true) ∧ True ∧ ((decide (((i : Nat) : Int) < (t.k.length : Int))) = true) ∧ True ∧ ((decide (((i : Nat) : Int) < (t.k.length : Int))) = true) ∧ True ∧ ((decide (((i : Nat) : Int) < (t.k.length : Int))) = true) ∧ True ∧ ((decide (((i : Nat) : Int) < (t.k.length : Int))) = true) ∧ True ∧ ((decide (((i : Nat) : Int) < (t.k.length : Int))) = true) ∧ True ∧ ((decide (((i : Nat) : Int) < (t.v.length : Int))) = true) ∧ True ∧ ((decide (((i : Nat) : Int) < (t.v.length : Int))) = true) ∧ True ∧ ((decide (((i : Nat) : Int) < (t.v.length : Int))) = true) ∧ True ∧ ((decide (((i : Nat) : Int) < (t.v.length : Int))) = true) ∧ True)) ∧ ((t.kind == 7) = true) ∧ True) ∧ (((tr 3 (((!done) = true) ∧ True ∧ ((!done) = true) ∧ True ∧ ((!done) = true) ∧ True ∧ ((!done) = true) ∧ (0 ≤ ((i : Nat) : Int) ∧ ((i : Nat) : Int) < t.k.length) ∧ ((!done) = true) ∧ True ∧ ((!done) = true) ∧ True ∧ ((!done) = true) ∧ True ∧ ((!done) = true) ∧ True ∧ True)) ∧ (((t.k.getD i (dflt .str)).toList == x.toList) = false) ∧ (tr 3 (((!done) = true) ∧ True ∧ ((!done) = true) ∧ True ∧ ((!done) = true) ∧ True ∧ ((!(memB t x)) = true) ∧ True ∧ ((!(memB t x)) = true) ∧ True ∧ ((!(memB t x)) = true) ∧ True ∧ ((!(memB t x)) = true) ∧ (0 ≤ ((i : Nat) : Int) ∧ ((i : Nat) : Int) < t.k.length) ∧ ((!(memB t x)) = true) ∧ True ∧ ((!(memB t x)) = true) ∧ True ∧ ((!(memB t x)) = true) ∧ True ∧ ((!(memB t x)) = true) ∧ True ∧ True)) ∧ ((!(Op.bytesLess (t.k.getD i (dflt .str)).toList x.toList || (t.k.getD i (dflt .str)).toList == x.toList)) = true) ∧ (tr 4 (((((mK acc).length + 1) * 16 : Nat) ≤ 140737488355328 ∧ (mK acc).length + 1 ≤ 140737488355328) ∧ (tr 4 (((((mV acc).length + 1) * 120 : Nat) ≤ 140737488355328 ∧ (mV acc).length + 1 ≤ 140737488355328) ∧ (tr 4 True))))) ∧ True ∧ True) ∧ (tr 5 ((0 ≤ ((i : Nat) : Int) ∧ ((i : Nat) : Int) < t.k.length) ∧ True ∧ True ∧ (((((mK acc) ++ ([x])).length + 1) * 16 : Nat) ≤ 140737488355328 ∧ ((mK acc) ++ ([x])).length + 1 ≤ 140737488355328) ∧ (tr 5 ((0 ≤ ((i : Nat) : Int) ∧ ((i : Nat) : Int) < t.v.length) ∧ True ∧ True ∧ (((((mV acc) ++ ([(Tree.mk v.kind v.b ⟨v.n.neg, v.n.m, v.n.e⟩ v.s v.k v.v)])).length + 1) * 120 : Nat) ≤ 140737488355328 ∧ ((mV acc) ++ ([(Tree.mk v.kind v.b ⟨v.n.neg, v.n.m, v.n.e⟩ v.s v.k v.v)])).length + 1 ≤ 140737488355328) ∧ (tr 4 True)))))) ∧ True ∧ (InR .i64 (((i : Nat) : Int) + 1)) ∧ True ∧ True) (lv := .norm) (T' := [(1, vs x), (3, .ptr 1000 0), (5, .ptr 1001 0), (6, .ptr 1002 0), (7, .ptr 90000001 0), (8, vb true), (10, vb (memB t x)), (11, vi (((i : Nat) : Int) + 1))]) (B' := [(1000, .var [vi t.kind, vb t.b, vb t.n.neg, .row (.int .u32) t.n.m, vi t.n.e, vs t.s, .row .str t.k, .row .tree t.v]), (1001, .var [vi v.kind, vb v.b, vb v.n.neg, .row (.int .u32) v.n.m, vi v.n.e, vs v.s, .row .str v.k, .row .tree v.v]), (1002, .var [vi 0, vb false, vb false, nilv, vi 0, vs (ba []), nilv, nilv]), (14008, .sl 9 .str (((mK acc) ++ ([x])) ++ ([(t.k.getD i (dflt .str))]))), (14017, .sl 29 .tree (((mV acc) ++ ([(Tree.mk v.kind v.b ⟨v.n.neg, v.n.m, v.n.e⟩ v.s v.k v.v)])) ++ ([(Tree.mk ((t.v.getD i (dflt .tree)).kind) ((t.v.getD i (dflt .tree)).b) ⟨(t.v.getD i (dflt .tree)).n.neg, (t.v.getD i (dflt .tree)).n.m, (t.v.getD i (dflt .tree)).n.e⟩ ((t.v.getD i (dflt .tree)).s) ((t.v.getD i (dflt .tree)).k) ((t.v.getD i (dflt .tree)).v))]))), (90000001, .var [vi 7, vb false, vb false, nilv, vi 0, vs (ba []), .own 14008, .own 14017])]) mix hI hs ?_ ?_ ?_ ?_
        ·exact ⟨trivial, trivial, trivial, trivial⟩
        ·kernel_rfl
        ·exact ⟨⟨tr_mk (⟨b1, trivial, b1, trivial, b1, trivial, b1, trivial, b1, trivial, b1, trivial, b2, trivial, b2, trivial, b2, trivial, b2, trivial⟩) 6, b3, trivial⟩, ⟨⟨tr_mk (⟨(by rw [b4]; rfl), trivial, (by rw [b4]; rfl), trivial, (by rw [b4]; rfl), trivial, (by rw [b4]; rfl), ⟨by omega, by omega⟩, (by rw [b4]; rfl), trivial, (by rw [b4]; rfl), trivial, (by rw [b4]; rfl), trivial, (by rw [b4]; rfl), trivial, trivial⟩) 3, b5, tr_mk (⟨(by rw [b4]; rfl), trivial, (by rw [b4]; rfl), trivial, (by rw [b4]; rfl), trivial, (by rw [b6]; rfl), trivial, (by rw [b6]; rfl), trivial, (by rw [b6]; rfl), trivial, (by rw [b6]; rfl), ⟨by omega, by omega⟩, (by rw [b6]; rfl), trivial, (by rw [b6]; rfl), trivial, (by rw [b6]; rfl), trivial, (by rw [b6]; rfl), trivial, trivial⟩) 3, (by rw [b7]; rfl), tr_mk (⟨⟨by omega, by omega⟩, tr_mk (⟨⟨by omega, by omega⟩, tr_mk trivial 4⟩) 4⟩) 4, trivial, trivial⟩, tr_mk (⟨⟨by omega, by omega⟩, trivial, trivial, (by simp only [List.length_append, List.length_cons, List.length_nil]; omega), tr_mk (⟨⟨by omega, by omega⟩, trivial, trivial, (by simp only [List.length_append, List.length_cons, List.length_nil]; omega), tr_mk trivial 4⟩) 5⟩) 5⟩, trivial, (inR64 (by omega) (by omega)), trivial, trivial⟩
        intro a w hs
        refine then_norm ⟨(i + 1, acc ++ [(x, v)] ++ [(t.k.getD i (dflt .str), t.v.getD i (dflt .tree))], true), ⟨⟨by omega, by omega⟩, hJ.put (by omega) (by omega) (by omega) b4 b6 (by unfold gtB; rw [b7]; rfl)⟩, by omega, ?_⟩
        (have e0_ : (((i : Nat) : Int) + 1) = ((((i + 1) : Nat) : Int)) := (by first | rfl | (first | rfl | (simp only [mK_add, mV_add, Tree.eta']; rfl) | (simp [mK, mV, Tree.eta']; done))); have e1_ : (((mK acc) ++ ([x])) ++ ([(t.k.getD i (dflt .str))])) = (mK (acc ++ [(x, v)] ++ [(t.k.getD i (dflt .str), t.v.getD i (dflt .tree))])) := (by first | rfl | (first | rfl | (simp only [mK_add, mV_add, Tree.eta']; rfl) | (simp [mK, mV, Tree.eta']; done))); have e2_ : (((mV acc) ++ ([(Tree.mk v.kind v.b ⟨v.n.neg, v.n.m, v.n.e⟩ v.s v.k v.v)])) ++ ([(Tree.mk ((t.v.getD i (dflt .tree)).kind) ((t.v.getD i (dflt .tree)).b) ⟨(t.v.getD i (dflt .tree)).n.neg, (t.v.getD i (dflt .tree)).n.m, (t.v.getD i (dflt .tree)).n.e⟩ ((t.v.getD i (dflt .tree)).s) ((t.v.getD i (dflt .tree)).k) ((t.v.getD i (dflt .tree)).v))])) = (mV (acc ++ [(x, v)] ++ [(t.k.getD i (dflt .str), t.v.getD i (dflt .tree))])) := (by first | rfl | (first | rfl | (simp only [mK_add, mV_add, Tree.eta']; rfl) | (simp [mK, mV, Tree.eta']; done))); exact (SimL.cast hs (T' := [(1, vs x), (3, .ptr 1000 0), (5, .ptr 1001 0), (6, .ptr 1002 0), (7, .ptr 90000001 0), (8, vb true), (10, vb (memB t x)), (11, vi (((i + 1) : Nat) : Int))]) (B' := [(1000, .var [vi t.kind, vb t.b, vb t.n.neg, .row (.int .u32) t.n.m, vi t.n.e, vs t.s, .row .str t.k, .row .tree t.v]), (1001, .var [vi v.kind, vb v.b, vb v.n.neg, .row (.int .u32) v.n.m, vi v.n.e, vs v.s, .row .str v.k, .row .tree v.v]), (1002, .var [vi 0, vb false, vb false, nilv, vi 0, vs (ba []), nilv, nilv]), (14008, .sl 9 .str (mK (acc ++ [(x, v)] ++ [(t.k.getD i (dflt .str), t.v.getD i (dflt .tree))]))), (14017, .sl 29 .tree (mV (acc ++ [(x, v)] ++ [(t.k.getD i (dflt .str), t.v.getD i (dflt .tree))]))), (90000001, .var [vi 7, vb false, vb false, nilv, vi 0, vs (ba []), .own 14008, .own 14017])]) (by first | rfl | (rw [e0_, e1_, e2_]; done) | (simp only [e0_, e1_, e2_]; done) | (simp only [e0_, e1_, e2_]; rfl)) (by first | rfl | (rw [e0_, e1_, e2_]; done) | (simp only [e0_, e1_, e2_]; done) | (simp only [e0_, e1_, e2_]; rfl))).ren [(1000, 1000), (1001, 1001), (1002, 1002), (90000001, 90000001), (90000002, 14008), (90000003, 14017)] (by kernel_rfl) (by kernel_rfl) (by kernel_rfl))
   ·skip
    have n3 := beq_eq_false_iff_ne.1 b3
    refine way_L (tt := tt) (rs := [(5, ⟨[], [(6, true), (7, true), (8, true), (9, true), (10, true), (1011, true), (13, true), (14, true), (15, true), (1016, true)], []⟩)]) (bs := [false]) (tk := [1, 5, 6, 7, 8]) (bk := [1001, 1002, 90000001, 90000002, 90000003]) (C := (tr 6 (((decide (((i : Nat) : Int) < (t.k.length : Int))) = true) ∧ True ∧ ((decide (((i : Nat) : Int) < (t.k.length : Int))) = true) ∧ True ∧ ((decide (((i : Nat) : Int) < (t.k.length : Int))) = true) ∧ True ∧ ((decide (((i : Nat) : Int) < (t.k.length : Int))) = true) ∧ True ∧ ((decide (((i : Nat) : Int) < (t.k.length : Int))) = true) ∧ True ∧ ((decide (((i : Nat) : Int) < (t.k.length : Int))) = true) ∧ True ∧ ((decide (((i : Nat) : Int) < (t.v.length : Int))) = true) ∧ True ∧ ((decide (((i : Nat) : Int) < (t.v.length : Int))) = true) ∧ True ∧ ((decide (((i : Nat) : Int) < (t.v.length : Int))) = true) ∧ True ∧ ((decide (((i : Nat) : Int) < (t.v.length : Int))) = true) ∧ True)) ∧ ((t.kind == 7) = false) ∧ True) (lv := .exit 0) (T' := [(1, vs x), (5, .ptr 1001 0), (6, .ptr 1002 0), (7, .ptr 90000001 0), (8, vb done)]) (B' := [(1001, .var [vi v.kind, vb v.b, vb v.n.neg, .row (.int .u32) v.n.m, vi v.n.e, vs v.s, .row .str v.k, .row .tree v.v]), (1002, .var [vi 0, vb false, vb false, nilv, vi 0, vs (ba []), nilv, nilv]), (90000001, .var [vi 7, vb false, vb false, nilv, vi 0, vs (ba []), .own 90000002, .own 90000003]), (90000002, .sl 9 .str (mK acc)), (90000003, .sl 29 .tree (mV acc))]) mix hI hs ?_ ?_ ?_ ?_
    ·exact ⟨trivial, trivial⟩
    ·kernel_rfl
    ·exact ⟨tr_mk (⟨b1, trivial, b1, trivial, b1, trivial, b1, trivial, b1, trivial, b1, trivial, b2, trivial, b2, trivial, b2, trivial, b2, trivial⟩) 6, b3, trivial⟩
    intro a w hs
    refine then_exit ?_
    refine inb_hit ?_
    refine then_norm ?_
    rcases Bool.eq_false_or_eq_true (done) with b8 | b8
    ·skip
     refine way_L (tt := tt) (rs := []) (bs := [false]) (tk := [6]) (bk := [1002, 90000002, 90000003]) (C := ((True ∧ True ∧ True) ∧ ((!done) = false) ∧ True) ∧ (True ∧ True ∧ True) ∧ True) (lv := .ret) (T' := [(6, .ptr 1002 0)]) (B' := [(1002, .var [vi 7, vb false, vb false, nilv, vi 0, vs (ba []), .own 90000002, .own 90000003]), (90000002, .sl 9 .str (mK acc)), (90000003, .sl 29 .tree (mV acc))]) mix hI hs ?_ ?_ ?_ ?_
     ·exact trivial
     ·kernel_rfl
     ·exact ⟨⟨⟨trivial, trivial, trivial⟩, (by rw [b8]; rfl), trivial⟩, ⟨trivial, trivial, trivial⟩, trivial⟩
     intro a w hs
     exact FnQ_cast (out := .val (.agg [vi 7, vb false, vb false, .row (.int .u32) ([]), vi 0, vs (ba []), .row .str (mK acc), .row .tree (mV acc)])) (by rw [hJ.fin_done b8 (mems_end (by omega))]; rfl) (ret_ok [90000002, 90000003] hs ⟨by kernel_rfl, rfl⟩)
    ·skip
     refine way_L (tt := tt) (rs := []) (bs := [true]) (tk := [6]) (bk := [1002, 16004, 16009]) (C := ((True ∧ True ∧ True) ∧ ((!done) = true) ∧ (tr 4 (((((mK acc).length + 1) * 16 : Nat) ≤ 140737488355328 ∧ (mK acc).length + 1 ≤ 140737488355328) ∧ (tr 4 (((((mV acc).length + 1) * 120 : Nat) ≤ 140737488355328 ∧ (mV acc).length + 1 ≤ 140737488355328) ∧ (tr 4 True)))))) ∧ (True ∧ True ∧ True) ∧ True) (lv := .ret) (T' := [(6, .ptr 1002 0)]) (B' := [(1002, .var [vi 7, vb false, vb false, nilv, vi 0, vs (ba []), .own 16004, .own 16009]), (16004, .sl 9 .str ((mK acc) ++ ([x]))), (16009, .sl 29 .tree ((mV acc) ++ ([(Tree.mk v.kind v.b ⟨v.n.neg, v.n.m, v.n.e⟩ v.s v.k v.v)])))]) mix hI hs ?_ ?_ ?_ ?_
     ·exact trivial
     ·kernel_rfl
     ·exact ⟨⟨⟨trivial, trivial, trivial⟩, (by rw [b8]; rfl), tr_mk (⟨⟨by omega, by omega⟩, tr_mk (⟨⟨by omega, by omega⟩, tr_mk trivial 4⟩) 4⟩) 4⟩, ⟨trivial, trivial, trivial⟩, trivial⟩
     intro a w hs
     exact FnQ_cast (out := .val (.agg [vi 7, vb false, vb false, .row (.int .u32) ([]), vi 0, vs (ba []), .row .str ((mK acc) ++ ([x])), .row .tree ((mV acc) ++ ([(Tree.mk v.kind v.b ⟨v.n.neg, v.n.m, v.n.e⟩ v.s v.k v.v)]))])) (by rw [Tree.eta', hJ.fin_not b8 (mems_end (by omega)), objM_snoc]; rfl) (ret_ok [16004, 16009] hs ⟨by kernel_rfl, rfl⟩)
  ·skip
   have n2 := of_decide_eq_false b2
   refine way_L (tt := tt) (rs := [(5, ⟨[], [(6, true), (7, true), (8, true), (9, true), (10, true), (1011, true), (13, false), (14, false), (15, false), (1016, false)], []⟩)]) (bs := [false]) (tk := [1, 5, 6, 7, 8]) (bk := [1001, 1002, 90000001, 90000002, 90000003]) (C := (tr 6 (((decide (((i : Nat) : Int) < (t.k.length : Int))) = true) ∧ True ∧ ((decide (((i : Nat) : Int) < (t.k.length : Int))) = true) ∧ True ∧ ((decide (((i : Nat) : Int) < (t.k.length : Int))) = true) ∧ True ∧ ((decide (((i : Nat) : Int) < (t.k.length : Int))) = true) ∧ True ∧ ((decide (((i : Nat) : Int) < (t.k.length : Int))) = true) ∧ True ∧ ((decide (((i : Nat) : Int) < (t.k.length : Int))) = true) ∧ True ∧ ((decide (((i : Nat) : Int) < (t.v.length : Int))) = false) ∧ ((decide (((i : Nat) : Int) < (t.v.length : Int))) = false) ∧ ((decide (((i : Nat) : Int) < (t.v.length : Int))) = false) ∧ ((decide (((i : Nat) : Int) < (t.v.length : Int))) = false) ∧ True)) ∧ (false = false) ∧ True) (lv := .exit 0) (T' := [(1, vs x), (5, .ptr 1001 0), (6, .ptr 1002 0), (7, .ptr 90000001 0), (8, vb done)]) (B' := [(1001, .var [vi v.kind, vb v.b, vb v.n.neg, .row (.int .u32) v.n.m, vi v.n.e, vs v.s, .row .str v.k, .row .tree v.v]), (1002, .var [vi 0, vb false, vb false, nilv, vi 0, vs (ba []), nilv, nilv]), (90000001, .var [vi 7, vb false, vb false, nilv, vi 0, vs (ba []), .own 90000002, .own 90000003]), (90000002, .sl 9 .str (mK acc)), (90000003, .sl 29 .tree (mV acc))]) mix hI hs ?_ ?_ ?_ ?_
   ·exact ⟨trivial, trivial⟩
   ·kernel_rfl
   ·exact ⟨tr_mk (⟨b1, trivial, b1, trivial, b1, trivial, b1, trivial, b1, trivial, b1, trivial, b2, b2, b2, b2, trivial⟩) 6, rfl, trivial⟩
   intro a w hs
   refine then_exit ?_
   refine inb_hit ?_
   refine then_norm ?_
   rcases Bool.eq_false_or_eq_true (done) with b9 | b9
   ·skip
    refine way_L (tt := tt) (rs := []) (bs := [false]) (tk := [6]) (bk := [1002, 90000002, 90000003]) (C := ((True ∧ True ∧ True) ∧ ((!done) = false) ∧ True) ∧ (True ∧ True ∧ True) ∧ True) (lv := .ret) (T' := [(6, .ptr 1002 0)]) (B' := [(1002, .var [vi 7, vb false, vb false, nilv, vi 0, vs (ba []), .own 90000002, .own 90000003]), (90000002, .sl 9 .str (mK acc)), (90000003, .sl 29 .tree (mV acc))]) mix hI hs ?_ ?_ ?_ ?_
    ·exact trivial
    ·kernel_rfl
    ·exact ⟨⟨⟨trivial, trivial, trivial⟩, (by rw [b9]; rfl), trivial⟩, ⟨trivial, trivial, trivial⟩, trivial⟩
    intro a w hs
    exact FnQ_cast (out := .val (.agg [vi 7, vb false, vb false, .row (.int .u32) ([]), vi 0, vs (ba []), .row .str (mK acc), .row .tree (mV acc)])) (by rw [hJ.fin_done b9 (mems_end (by omega))]; rfl) (ret_ok [90000002, 90000003] hs ⟨by kernel_rfl, rfl⟩)
   ·skip
    refine way_L (tt := tt) (rs := []) (bs := [true]) (tk := [6]) (bk := [1002, 16004, 16009]) (C := ((True ∧ True ∧ True) ∧ ((!done) = true) ∧ (tr 4 (((((mK acc).length + 1) * 16 : Nat) ≤ 140737488355328 ∧ (mK acc).length + 1 ≤ 140737488355328) ∧ (tr 4 (((((mV acc).length + 1) * 120 : Nat) ≤ 140737488355328 ∧ (mV acc).length + 1 ≤ 140737488355328) ∧ (tr 4 True)))))) ∧ (True ∧ True ∧ True) ∧ True) (lv := .ret) (T' := [(6, .ptr 1002 0)]) (B' := [(1002, .var [vi 7, vb false, vb false, nilv, vi 0, vs (ba []), .own 16004, .own 16009]), (16004, .sl 9 .str ((mK acc) ++ ([x]))), (16009, .sl 29 .tree ((mV acc) ++ ([(Tree.mk v.kind v.b ⟨v.n.neg, v.n.m, v.n.e⟩ v.s v.k v.v)])))]) mix hI hs ?_ ?_ ?_ ?_
    ·exact trivial
    ·kernel_rfl
    ·exact ⟨⟨⟨trivial, trivial, trivial⟩, (by rw [b9]; rfl), tr_mk (⟨⟨by omega, by omega⟩, tr_mk (⟨⟨by omega, by omega⟩, tr_mk trivial 4⟩) 4⟩) 4⟩, ⟨trivial, trivial, trivial⟩, trivial⟩
    intro a w hs
    exact FnQ_cast (out := .val (.agg [vi 7, vb false, vb false, .row (.int .u32) ([]), vi 0, vs (ba []), .row .str ((mK acc) ++ ([x])), .row .tree ((mV acc) ++ ([(Tree.mk v.kind v.b ⟨v.n.neg, v.n.m, v.n.e⟩ v.s v.k v.v)]))])) (by rw [Tree.eta', hJ.fin_not b9 (mems_end (by omega)), objM_snoc]; rfl) (ret_ok [16004, 16009] hs ⟨by kernel_rfl, rfl⟩)
 ·skip
  have n1 := of_decide_eq_false b1
  refine way_L (tt := tt) (rs := [(5, ⟨[], [(6, false), (7, false), (8, false), (9, false), (10, false), (1011, false), (13, false), (14, false), (15, false), (1016, false)], []⟩)]) (bs := [false]) (tk := [1, 5, 6, 7, 8]) (bk := [1001, 1002, 90000001, 90000002, 90000003]) (C := (tr 6 (((decide (((i : Nat) : Int) < (t.k.length : Int))) = false) ∧ ((decide (((i : Nat) : Int) < (t.k.length : Int))) = false) ∧ ((decide (((i : Nat) : Int) < (t.k.length : Int))) = false) ∧ ((decide (((i : Nat) : Int) < (t.k.length : Int))) = false) ∧ ((decide (((i : Nat) : Int) < (t.k.length : Int))) = false) ∧ ((decide (((i : Nat) : Int) < (t.k.length : Int))) = false) ∧ True ∧ (false = false) ∧ (false = false) ∧ (false = false) ∧ (false = false) ∧ True)) ∧ (false = false) ∧ True) (lv := .exit 0) (T' := [(1, vs x), (5, .ptr 1001 0), (6, .ptr 1002 0), (7, .ptr 90000001 0), (8, vb done)]) (B' := [(1001, .var [vi v.kind, vb v.b, vb v.n.neg, .row (.int .u32) v.n.m, vi v.n.e, vs v.s, .row .str v.k, .row .tree v.v]), (1002, .var [vi 0, vb false, vb false, nilv, vi 0, vs (ba []), nilv, nilv]), (90000001, .var [vi 7, vb false, vb false, nilv, vi 0, vs (ba []), .own 90000002, .own 90000003]), (90000002, .sl 9 .str (mK acc)), (90000003, .sl 29 .tree (mV acc))]) mix hI hs ?_ ?_ ?_ ?_
  ·exact ⟨trivial, trivial⟩
  ·kernel_rfl
  ·exact ⟨tr_mk (⟨b1, b1, b1, b1, b1, b1, trivial, rfl, rfl, rfl, rfl, trivial⟩) 6, rfl, trivial⟩
  intro a w hs
  refine then_exit ?_
  refine inb_hit ?_
  refine then_norm ?_
  rcases Bool.eq_false_or_eq_true (done) with b10 | b10
  ·skip
   refine way_L (tt := tt) (rs := []) (bs := [false]) (tk := [6]) (bk := [1002, 90000002, 90000003]) (C := ((True ∧ True ∧ True) ∧ ((!done) = false) ∧ True) ∧ (True ∧ True ∧ True) ∧ True) (lv := .ret) (T' := [(6, .ptr 1002 0)]) (B' := [(1002, .var [vi 7, vb false, vb false, nilv, vi 0, vs (ba []), .own 90000002, .own 90000003]), (90000002, .sl 9 .str (mK acc)), (90000003, .sl 29 .tree (mV acc))]) mix hI hs ?_ ?_ ?_ ?_
   ·exact trivial
   ·kernel_rfl
   ·exact ⟨⟨⟨trivial, trivial, trivial⟩, (by rw [b10]; rfl), trivial⟩, ⟨trivial, trivial, trivial⟩, trivial⟩
   intro a w hs
   exact FnQ_cast (out := .val (.agg [vi 7, vb false, vb false, .row (.int .u32) ([]), vi 0, vs (ba []), .row .str (mK acc), .row .tree (mV acc)])) (by rw [hJ.fin_done b10 (mems_end (by omega))]; rfl) (ret_ok [90000002, 90000003] hs ⟨by kernel_rfl, rfl⟩)
  ·skip
   refine way_L (tt := tt) (rs := []) (bs := [true]) (tk := [6]) (bk := [1002, 16004, 16009]) (C := ((True ∧ True ∧ True) ∧ ((!done) = true) ∧ (tr 4 (((((mK acc).length + 1) * 16 : Nat) ≤ 140737488355328 ∧ (mK acc).length + 1 ≤ 140737488355328) ∧ (tr 4 (((((mV acc).length + 1) * 120 : Nat) ≤ 140737488355328 ∧ (mV acc).length + 1 ≤ 140737488355328) ∧ (tr 4 True)))))) ∧ (True ∧ True ∧ True) ∧ True) (lv := .ret) (T' := [(6, .ptr 1002 0)]) (B' := [(1002, .var [vi 7, vb false, vb false, nilv, vi 0, vs (ba []), .own 16004, .own 16009]), (16004, .sl 9 .str ((mK acc) ++ ([x]))), (16009, .sl 29 .tree ((mV acc) ++ ([(Tree.mk v.kind v.b ⟨v.n.neg, v.n.m, v.n.e⟩ v.s v.k v.v)])))]) mix hI hs ?_ ?_ ?_ ?_
   ·exact trivial
   ·kernel_rfl
   ·exact ⟨⟨⟨trivial, trivial, trivial⟩, (by rw [b10]; rfl), tr_mk (⟨⟨by omega, by omega⟩, tr_mk (⟨⟨by omega, by omega⟩, tr_mk trivial 4⟩) 4⟩) 4⟩, ⟨trivial, trivial, trivial⟩, trivial⟩
   intro a w hs
   exact FnQ_cast (out := .val (.agg [vi 7, vb false, vb false, .row (.int .u32) ([]), vi 0, vs (ba []), .row .str ((mK acc) ++ ([x])), .row .tree ((mV acc) ++ ([(Tree.mk v.kind v.b ⟨v.n.neg, v.n.m, v.n.e⟩ v.s v.k v.v)]))])) (by rw [Tree.eta', hJ.fin_not b10 (mems_end (by omega)), objM_snoc]; rfl) (ret_ok [16004, 16009] hs ⟨by kernel_rfl, rfl⟩)
end Go.Proofs.YtondpnipoogoiaaGreatDoor.F
