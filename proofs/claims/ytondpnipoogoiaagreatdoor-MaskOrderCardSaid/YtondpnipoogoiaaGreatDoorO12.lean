import Derived.Test.YtondpnipoogoiaaGreatDoorO10
import Derived.Test.YtondpnipoogoiaaGreatDoorO9
import Derived.Test.YtondpnipoogoiaaGreatDoorO11
import Derived.Test.YtondpnipoogoiaaGreatDoorO6
import Derived.Test.YtondpnipoogoiaaGreatDoorO5
namespace Go.Proofs.YtondpnipoogoiaaGreatDoor.F
open Go Go.RowKit Go.Proofs.Tryz
set_option linter.unusedVariables false
set_option linter.unusedSimpArgs false
section
variable {N : Nat} {w0 : World} {T : TL} {B : BL} {a : Act} {w : World}
theorem SimL.rowB {ow : Own} (hs : SimL N w0 ow T B a w) (b j : Nat) (τ : Ty) (l : List AV) (hb : lkp B b = some (.var l)) (hl : l[j]? = some nilv) : SimL N w0 ow T ((b, .var (l.set j (.row τ []))) :: B) a w := by
  obtain ⟨η, s⟩ := hs
  refine ⟨η, s.size, s.nod, s.frame, s.tmp, fun c X h => ?_, s.new, s.apart, s.pin, s.pinlt⟩
  rw [lkp] at h
  split at h
  · rename_i he
    simp only [Option.some.injEq] at h
    subst h he
    obtain ⟨u, hu, hr⟩ := s.dom _ (.var l) hb
    obtain ⟨g, C, ee, rfl, q1, q2, q3⟩ := hr
    refine ⟨_, hu, g, C, ee, rfl, q1, by rw [List.length_set]; exact q2, fun i v x hv hx => ?_⟩
    rw [List.getElem?_set] at hx
    split at hx
    · rename_i hij
      subst hij
      split at hx
      · simp only [Option.some.injEq] at hx
        subst hx
        have hvn := (q3 j v _ hv hl).lit_inv
        rw [hvn]
        exact .row none 0 τ [] (fun _ _ => .bool false) (Nat.le_refl _) (Nat.zero_le _) (fun i x h => by simp at h) (fun i x j y h => by simp at h)
      · cases hx
    · exact q3 i v x hv hx
  · exact s.dom c X h
end
def nul : Tree := .mk 1 false ⟨false, [], 0⟩ (ba []) [] []
def vM (l : List Int) : Int := placeF (l.getD 0 (dflt (.int .i64))) 1073741824
def kM (d v : Int) : Int := if d ≤ 0 ∧ 6 ≤ v.tmod 12 then v.tmod 12 - 6 else v.tmod 12
def cM (v : Int) : Nat := ((v.tdiv 12).tmod 4).toNat
def isNu (k : Int) : Bool := k == 2 || k == 3
def isA (k : Int) : Bool := k == 6 || (k == 7 || k == 8)
def txtM (v : Int) : ByteArray := (ba [97, 98, 99, 34, 92, 10, 195, 169, 122]).extract 0 (([0, 1, 2, 3, 4, 5, 6, 8, 9] : List Int).getD (((v.tdiv 12).tmod 9).toNat * 1) 0).toNat
def bytM (v : Int) : ByteArray := (ba [0, 255, 97, 98]).extract 0 ((v.tdiv 12).tmod 5).toNat
def names8 : List ByteArray := [(ba [97]), (ba [98]), (ba [99]), (ba [100, 100]), (ba [101]), (ba []), (ba [120, 47, 121]), (ba [122, 126])]
def nmM (v : Int) (i : Nat) : ByteArray := names8.getD (((v.tdiv 48) + 3 * ((i : Nat) : Int)).tmod 8).toNat (dflt .str)
def itA (f : List Int → Tree × List Int) : Nat → List Int → List Tree × List Int
  | 0, l => ([], l)
  | n + 1, l => ((itA f n l).1 ++ [(f (itA f n l).2).1], (f (itA f n l).2).2)
def itO (f : List Int → Tree × List Int) (v : Int) : Nat → List Int → Tree × List Int
  | 0, l => (.mk 7 false ⟨false, [], 0⟩ (ba []) [] [], l)
  | n + 1, l => (setT (itO f v n l).1 (nmM v n) (f (itO f v n l).2).1, (f (itO f v n l).2).2)
def madeV (f : List Int → Tree × List Int) (d v : Int) (l : List Int) : Tree × List Int :=
  if kM d v = 0 then (nul, l) else
  if kM d v = 1 then (.mk 2 ((v.tdiv 12).tmod 2 == 1) ⟨false, [], 0⟩ (ba []) [] [], l) else
  if isNu (kM d v) = true then (.mk 3 false (numberN (v.tdiv 12)) (ba []) [] [], l) else
  if kM d v = 4 then (.mk 4 false ⟨false, [], 0⟩ (txtM v) [] [], l) else
  if kM d v = 5 then (.mk 5 false ⟨false, [], 0⟩ (bytM v) [] [], l) else
  if isA (kM d v) = true then (.mk 6 false ⟨false, [], 0⟩ (ba []) [] (itA f (cM v) l).1, (itA f (cM v) l).2) else
  itO f v (cM v) l
def madeG (f : List Int → Tree × List Int) (d : Int) (l : List Int) : Tree × List Int :=
  if (l.length : Int) = 0 then (nul, []) else madeV f d (vM l) (l.drop 1)
def madeF : Nat → List Int → Tree × List Int
  | 0, l => madeG (fun _ => (nul, [])) 0 l
  | d + 1, l => madeG (madeF d) ((d + 1 : Nat) : Int) l
structure VF (v : Int) : Prop where
  r : 0 ≤ v ∧ v < 1073741824
  k : 0 ≤ v.tmod 12 ∧ v.tmod 12 < 12
  q : 0 ≤ v.tdiv 12 ∧ v.tdiv 12 < 1073741824
  q48 : 0 ≤ v.tdiv 48 ∧ v.tdiv 48 < 1073741824
  c : (v.tdiv 12).tmod 4 = ((cM v : Nat) : Int) ∧ cM v < 4
  m9 : 0 ≤ (v.tdiv 12).tmod 9 ∧ (v.tdiv 12).tmod 9 < 9
  m5 : 0 ≤ (v.tdiv 12).tmod 5 ∧ (v.tdiv 12).tmod 5 < 5
theorem tmn {a : Int} (h : 0 ≤ a) (k : Int) (hk : 0 < k) : 0 ≤ a.tmod k ∧ a.tmod k < k := ⟨Int.tmod_nonneg _ h, Int.tmod_lt_of_pos a hk⟩
theorem vM_in (l : List Int) : 0 ≤ vM l ∧ vM l < 1073741824 := placeF_in _ _ (by decide)
theorem vF_ok {v : Int} (h : 0 ≤ v ∧ v < 1073741824) : VF v := by
  have hq := td_in h.1 (b := 12) (by decide)
  have h48 := td_in h.1 (b := 48) (by decide)
  have h4 := tmn hq.1 4 (by decide)
  refine ⟨h, tmn h.1 12 (by decide), ⟨hq.1, by omega⟩, ⟨h48.1, by omega⟩, ?_, tmn hq.1 9 (by decide), tmn hq.1 5 (by decide)⟩
  unfold cM
  generalize (v.tdiv 12).tmod 4 = x at *
  omega
theorem kM_in {v : Int} (h : VF v) (d : Int) : 0 ≤ kM d v ∧ kM d v < 12 ∧ (d ≤ 0 → kM d v < 6) := by
  have := h.k
  unfold kM
  split <;> omega
theorem nm8 {v : Int} (h : VF v) (i : Nat) : 0 ≤ ((v.tdiv 48) + 3 * ((i : Nat) : Int)).tmod 8 ∧ ((v.tdiv 48) + 3 * ((i : Nat) : Int)).tmod 8 < 8 := tmn (by have := h.q48; omega) 8 (by decide)
theorem txt9 {v : Int} (h : VF v) : 0 ≤ ([0, 1, 2, 3, 4, 5, 6, 8, 9] : List Int).getD (((v.tdiv 12).tmod 9).toNat * 1) 0 ∧ ([0, 1, 2, 3, 4, 5, 6, 8, 9] : List Int).getD (((v.tdiv 12).tmod 9).toNat * 1) 0 ≤ 9 := by
  have h9 := h.m9
  generalize hx : ((v.tdiv 12).tmod 9).toNat * 1 = n
  have hn : n < 9 := by omega
  clear hx
  revert hn; revert n; decide
theorem dM_a {v : Int} (h : VF v) (d : Nat) (ha : isA (kM d v) = true) : 0 < d := by
  have := kM_in h d
  simp only [isA, Bool.or_eq_true, beq_iff_eq] at ha
  omega
theorem dM_o {v : Int} (h : VF v) (d : Nat) (h0 : kM d v ≠ 0) (h1 : kM d v ≠ 1) (h2 : isNu (kM d v) = false) (h4 : kM d v ≠ 4) (h5 : kM d v ≠ 5) : 0 < d := by
  have := kM_in h d
  simp only [isNu, Bool.or_eq_false_iff, beq_eq_false_iff_ne] at h2
  omega
theorem keys_ins (x : ByteArray) (v : Tree) (l : Mem) : (insA x v l).length ≤ l.length + 1 := by
  have h1 : ∀ l : Mem, (putA x v l).length = l.length + 1 := by
    intro l; induction l with
    | nil => rfl
    | cons p l ih => obtain ⟨y, u⟩ := p; simp only [putA]; split <;> simp [ih]
  have h2 : ∀ l : Mem, (repA x v l).length = l.length := by
    intro l; induction l with
    | nil => rfl
    | cons p l ih => obtain ⟨y, u⟩ := p; simp only [repA]; split <;> simp [ih]
  unfold insA
  split
  · rw [h2]; omega
  · rw [h1]; omega
theorem mems_le (t : Tree) : (mems t).length ≤ t.k.length := by
  by_cases hk : t.kind = 7
  · rw [mems_len hk]; omega
  · rw [mems_none hk]; exact Nat.zero_le _
theorem setT_len (t : Tree) (x : ByteArray) (v : Tree) : (setT t x v).k.length ≤ t.k.length + 1 ∧ (setT t x v).v.length ≤ t.k.length + 1 := by
  have h := keys_ins x v (mems t)
  have h2 := mems_le t
  show ((insA x v (mems t)).map (·.1)).length ≤ _ ∧ ((insA x v (mems t)).map (·.2)).length ≤ _
  rw [List.length_map, List.length_map]; omega
theorem itO_len (f : List Int → Tree × List Int) (v : Int) : ∀ (n : Nat) (l : List Int), (itO f v n l).1.k.length ≤ n ∧ (itO f v n l).1.v.length ≤ n
  | 0, l => ⟨Nat.le_refl _, Nat.le_refl _⟩
  | n + 1, l => by
    have ih := itO_len f v n l
    have h := setT_len (itO f v n l).1 (nmM v n) (f (itO f v n l).2).1
    show (setT (itO f v n l).1 (nmM v n) (f (itO f v n l).2).1).k.length ≤ n + 1 ∧ (setT (itO f v n l).1 (nmM v n) (f (itO f v n l).2).1).v.length ≤ n + 1
    omega
theorem itA_len (f : List Int → Tree × List Int) : ∀ (n : Nat) (l : List Int), (itA f n l).1.length = n
  | 0, l => rfl
  | n + 1, l => by simp [itA, itA_len f n l]
set_option maxRecDepth 100000 in
theorem con111  : Con Tryz.prog I0 111 [] (.own 9 .str names8) := by
 refine con_of Tryz.func111 rfl (Nat.le_of_ble_eq_true rfl) stab (fun w0 fz a hI hs => ?_)
 refine way_L (tt := tt) (rs := []) (bs := []) (tk := [0]) (bk := [2000]) (C := (True ∧ True) ∧ (True ∧ True ∧ True) ∧ True) (lv := .ret) (T' := [(0, .own 2000)]) (B' := [(2000, .sl 9 .str ([(ba [97]), (ba [98]), (ba [99]), (ba [100, 100]), (ba [101]), (ba []), (ba [120, 47, 121]), (ba [122, 126])]))]) mix hI hs ?_ ?_ ?_ ?_
 ·exact trivial
 ·kernel_rfl
 ·exact ⟨⟨trivial, trivial⟩, ⟨trivial, trivial, trivial⟩, trivial⟩
 intro a w hs
 exact FnQ_cast (out := .own 9 .str ([(ba [97]), (ba [98]), (ba [99]), (ba [100, 100]), (ba [101]), (ba []), (ba [120, 47, 121]), (ba [122, 126])])) (rfl) (ret_ok [] hs (.inl ⟨2000, by kernel_rfl, rfl⟩))
set_option maxRecDepth 100000 in
theorem con54_ (f : List Int → Tree × List Int) (d : Nat) (hd : d < 1000) (H : 0 < d → ∀ l : List Int, Con Tryz.prog I0 54 [.row (.int .i64) l, vi ((d : Nat) - 1)] (.val (.tup [.agg [vi (((f l).1).kind), vb (((f l).1).b), vb (((f l).1).n.neg), .row (.int .u32) (((f l).1).n.m), vi (((f l).1).n.e), vs (((f l).1).s), .row .str (((f l).1).k), .row .tree (((f l).1).v)], .row (.int .i64) (f l).2]))) (l : List Int) : Con Tryz.prog I0 54 [.row (.int .i64) l, vi (d : Int)] (.val (.tup [.agg (encTree ((madeG f d l).1)), .row (.int .i64) ((madeG f d l).2)])) := by
 have hV := vF_ok (vM_in l)
 have hv_ := hV.r
 have hk_ := hV.k
 have hq_ := hV.q
 have h48_ := hV.q48
 have hc_ := hV.c
 have h9_ := hV.m9
 have h5_ := hV.m5
 have hkk := kM_in hV (d : Int)
 have ht9 := txt9 hV
 have hs9 : (ba [97, 98, 99, 34, 92, 10, 195, 169, 122]).size = 9 := rfl
 have hs4 : (ba [0, 255, 97, 98]).size = 4 := rfl
 have hn8 : names8.length = 8 := rfl
 refine con_of Tryz.func54 rfl (Nat.le_of_ble_eq_true rfl) stab (fun w0 fz a hI hs => ?_)
 refine wp_seq ?_
 refine way_L (tt := tt) (rs := []) (bs := []) (tk := [0, 1, 4]) (bk := [1000]) (C := True ∧ True ∧ True) (lv := .norm) (T' := [(0, .row (.int .i64) l), (1, vi (d : Int)), (4, .ptr 1000 0)]) (B' := [(1000, .var [vi 0, vb false, vb false, nilv, vi 0, vs (ba []), nilv, nilv])]) mix hI hs ?_ ?_ ?_ ?_
 ·exact trivial
 ·kernel_rfl
 ·exact ⟨trivial, trivial, trivial⟩
 intro a w hs
 refine then_norm ?_
 refine wp_seq ?_
 rcases Bool.eq_false_or_eq_true ((l.length : Int) == 0) with b1 | b1
 ·skip
  have n1 := eq_of_beq b1
  refine way_L (tt := tt) (rs := []) (bs := [true]) (tk := [4, 5]) (bk := [1000]) (C := (tr 3 True) ∧ (((l.length : Int) == 0) = true) ∧ (tr 3 True) ∧ True) (lv := .ret) (T' := [(4, .ptr 1000 0), (5, nilv)]) (B' := [(1000, .var [vi 1, vb false, vb false, nilv, vi 0, vs (ba []), nilv, nilv])]) mix hI hs ?_ ?_ ?_ ?_
  ·exact trivial
  ·kernel_rfl
  ·exact ⟨tr_mk trivial 3, b1, tr_mk trivial 3, trivial⟩
  intro a w hs
  refine then_ret ?_
  exact FnQ_cast (out := .val (.tup [.agg [vi 1, vb false, vb false, .row (.int .u32) ([]), vi 0, vs (ba []), .row .str ([]), .row .tree ([])], .row (.int .i64) ([])])) (by rw [madeG, if_pos (by omega)]; rfl) (ret_ok [] hs ⟨by kernel_rfl, rfl⟩)
 ·skip
  have n1 := beq_eq_false_iff_ne.1 b1
  refine way_L (tt := tt) (rs := []) (bs := [false]) (tk := [0, 1, 4]) (bk := [1000]) (C := (tr 3 True) ∧ (((l.length : Int) == 0) = false) ∧ True) (lv := .norm) (T' := [(0, .row (.int .i64) l), (1, vi (d : Int)), (4, .ptr 1000 0)]) (B' := [(1000, .var [vi 0, vb false, vb false, nilv, vi 0, vs (ba []), nilv, nilv])]) mix hI hs ?_ ?_ ?_ ?_
  ·exact trivial
  ·kernel_rfl
  ·exact ⟨tr_mk trivial 3, b1, trivial⟩
  intro a w hs
  refine then_norm ?_
  refine wp_seq ?_
  refine way_L (tt := tt) (rs := [(3, ⟨[(3, ciA 17 [vi (l.getD 0 (dflt (.int .i64))), vi 1073741824] [] [] (.val (vi (vM l))))], [], []⟩)]) (bs := []) (tk := [0, 1, 4, 6]) (bk := [1000]) (C := True ∧ (0 ≤ (0 : Int) ∧ (0 : Int) < l.length) ∧ True ∧ (okArgs [vi (l.getD 0 (dflt (.int .i64))), vi 1073741824]) ∧ True ∧ True) (lv := .norm) (T' := [(0, .row (.int .i64) l), (1, vi (d : Int)), (4, .ptr 1000 0), (6, vi (vM l))]) (B' := [(1000, .var [vi 0, vb false, vb false, nilv, vi 0, vs (ba []), nilv, nilv])]) mix hI hs ?_ ?_ ?_ ?_
  ·exact ⟨⟨⟨ent17, con17 _ _ (by decide) (by decide)⟩, trivial⟩, trivial⟩
  ·kernel_rfl
  ·exact ⟨trivial, ⟨by omega, by omega⟩, trivial, rfl, trivial, trivial⟩
  intro a w hs
  refine then_norm ?_
  refine wp_seq ?_
  refine way_L (tt := tt) (rs := []) (bs := []) (tk := [0, 1, 4, 6]) (bk := [1000]) (C := True ∧ (0 ≤ (1 : Int) ∧ (1 : Int) ≤ (l.length : Int) ∧ (l.length : Int) ≤ (l.length : Int) ∧ (l.length : Int) ≤ (l.length : Int)) ∧ True ∧ True) (lv := .norm) (T' := [(0, .row (.int .i64) (l.drop 1)), (1, vi (d : Int)), (4, .ptr 1000 0), (6, vi (vM l))]) (B' := [(1000, .var [vi 0, vb false, vb false, nilv, vi 0, vs (ba []), nilv, nilv])]) mix hI hs ?_ ?_ ?_ ?_
  ·exact trivial
  ·kernel_rfl
  ·exact ⟨trivial, (by (repeat' apply And.intro) <;> (try split) <;> omega), trivial, trivial⟩
  intro a w hs
  refine then_norm ?_
  refine wp_seq ?_
  refine way_L (tt := tt) (rs := []) (bs := []) (tk := [0, 1, 4, 6, 7]) (bk := [1000]) (C := True ∧ ((12 : Int) ≠ 0) ∧ True ∧ True) (lv := .norm) (T' := [(0, .row (.int .i64) (l.drop 1)), (1, vi (d : Int)), (4, .ptr 1000 0), (6, vi (vM l)), (7, vi ((vM l).tmod 12))]) (B' := [(1000, .var [vi 0, vb false, vb false, nilv, vi 0, vs (ba []), nilv, nilv])]) mix hI hs ?_ ?_ ?_ ?_
  ·exact trivial
  ·kernel_rfl
  ·exact ⟨trivial, (by decide), trivial, trivial⟩
  intro a w hs
  refine then_norm ?_
  refine wp_cut (N := Tryz.f54.ntmps) (w0 := w0) (ow := noO fz) (T := [(0, .row (.int .i64) (l.drop 1)), (1, vi (d : Int)), (4, .ptr 1000 0), (6, vi (vM l)), (7, vi (kM d (vM l)))]) (B := [(1000, .var [vi 0, vb false, vb false, nilv, vi 0, vs (ba []), nilv, nilv])]) (True) ?_ ?_
  ·skip
   rcases Bool.eq_false_or_eq_true (decide ((d : Int) ≤ 0)) with b2 | b2
   ·skip
    have n2 := of_decide_eq_true b2
    rcases Bool.eq_false_or_eq_true (decide (((vM l).tmod 12) ≥ 6)) with b3 | b3
    ·skip
     have n3 := of_decide_eq_true b3
     refine way_L (tt := tt) (rs := [(6, ⟨[], [(3, true), (4, true), (1005, true)], []⟩)]) (bs := [true]) (tk := [0, 1, 4, 6, 7]) (bk := [1000]) (C := (tr 3 (((decide ((d : Int) ≤ 0)) = true) ∧ True ∧ ((decide ((d : Int) ≤ 0)) = true) ∧ True ∧ ((decide ((d : Int) ≤ 0)) = true) ∧ True)) ∧ ((decide (((vM l).tmod 12) ≥ 6)) = true) ∧ True ∧ (InR .i64 (((vM l).tmod 12) - 6)) ∧ True ∧ True) (lv := .norm) (T' := [(0, .row (.int .i64) (l.drop 1)), (1, vi (d : Int)), (4, .ptr 1000 0), (6, vi (vM l)), (7, vi (((vM l).tmod 12) - 6))]) (B' := [(1000, .var [vi 0, vb false, vb false, nilv, vi 0, vs (ba []), nilv, nilv])]) mix hI hs ?_ ?_ ?_ ?_
     ·exact ⟨trivial, trivial⟩
     ·kernel_rfl
     ·exact ⟨tr_mk (⟨b2, trivial, b2, trivial, b2, trivial⟩) 3, b3, trivial, (inR64 (by omega) (by omega)), trivial, trivial⟩
     intro a w hs
     refine then_norm ⟨trivial, ?_⟩
     (have e0_ : (((vM l).tmod 12) - 6) = (kM d (vM l)) := (by first | rfl | (first | rfl | (unfold kM; rw [if_pos (by omega)]; done) | (unfold kM; rw [if_neg (by omega)]; done) | omega)); exact (SimL.cast hs (T' := [(0, .row (.int .i64) (l.drop 1)), (1, vi (d : Int)), (4, .ptr 1000 0), (6, vi (vM l)), (7, vi (kM d (vM l)))]) (B' := [(1000, .var [vi 0, vb false, vb false, nilv, vi 0, vs (ba []), nilv, nilv])]) (by first | rfl | (rw [e0_]; done) | (simp only [e0_]; done) | (simp only [e0_]; rfl)) (by first | rfl | (rw [e0_]; done) | (simp only [e0_]; done) | (simp only [e0_]; rfl))).ren [(1000, 1000)] (by kernel_rfl) (by kernel_rfl) (by kernel_rfl))
    ·skip
     have n3 := of_decide_eq_false b3
     refine way_L (tt := tt) (rs := [(6, ⟨[], [(3, true), (4, true), (1005, true)], []⟩)]) (bs := [false]) (tk := [0, 1, 4, 6, 7]) (bk := [1000]) (C := (tr 3 (((decide ((d : Int) ≤ 0)) = true) ∧ True ∧ ((decide ((d : Int) ≤ 0)) = true) ∧ True ∧ ((decide ((d : Int) ≤ 0)) = true) ∧ True)) ∧ ((decide (((vM l).tmod 12) ≥ 6)) = false) ∧ True) (lv := .norm) (T' := [(0, .row (.int .i64) (l.drop 1)), (1, vi (d : Int)), (4, .ptr 1000 0), (6, vi (vM l)), (7, vi ((vM l).tmod 12))]) (B' := [(1000, .var [vi 0, vb false, vb false, nilv, vi 0, vs (ba []), nilv, nilv])]) mix hI hs ?_ ?_ ?_ ?_
     ·exact ⟨trivial, trivial⟩
     ·kernel_rfl
     ·exact ⟨tr_mk (⟨b2, trivial, b2, trivial, b2, trivial⟩) 3, b3, trivial⟩
     intro a w hs
     refine then_norm ⟨trivial, ?_⟩
     (have e0_ : ((vM l).tmod 12) = (kM d (vM l)) := (by first | rfl | (first | rfl | (unfold kM; rw [if_pos (by omega)]; done) | (unfold kM; rw [if_neg (by omega)]; done) | omega)); exact (SimL.cast hs (T' := [(0, .row (.int .i64) (l.drop 1)), (1, vi (d : Int)), (4, .ptr 1000 0), (6, vi (vM l)), (7, vi (kM d (vM l)))]) (B' := [(1000, .var [vi 0, vb false, vb false, nilv, vi 0, vs (ba []), nilv, nilv])]) (by first | rfl | (rw [e0_]; done) | (simp only [e0_]; done) | (simp only [e0_]; rfl)) (by first | rfl | (rw [e0_]; done) | (simp only [e0_]; done) | (simp only [e0_]; rfl))).ren [(1000, 1000)] (by kernel_rfl) (by kernel_rfl) (by kernel_rfl))
   ·skip
    have n2 := of_decide_eq_false b2
    refine way_L (tt := tt) (rs := [(6, ⟨[], [(3, false), (4, false), (1005, false)], []⟩)]) (bs := [false]) (tk := [0, 1, 4, 6, 7]) (bk := [1000]) (C := (tr 3 (((decide ((d : Int) ≤ 0)) = false) ∧ ((decide ((d : Int) ≤ 0)) = false) ∧ ((decide ((d : Int) ≤ 0)) = false) ∧ True)) ∧ (false = false) ∧ True) (lv := .norm) (T' := [(0, .row (.int .i64) (l.drop 1)), (1, vi (d : Int)), (4, .ptr 1000 0), (6, vi (vM l)), (7, vi ((vM l).tmod 12))]) (B' := [(1000, .var [vi 0, vb false, vb false, nilv, vi 0, vs (ba []), nilv, nilv])]) mix hI hs ?_ ?_ ?_ ?_
    ·exact ⟨trivial, trivial⟩
    ·kernel_rfl
    ·exact ⟨tr_mk (⟨b2, b2, b2, trivial⟩) 3, rfl, trivial⟩
    intro a w hs
    refine then_norm ⟨trivial, ?_⟩
    (have e0_ : ((vM l).tmod 12) = (kM d (vM l)) := (by first | rfl | (first | rfl | (unfold kM; rw [if_pos (by omega)]; done) | (unfold kM; rw [if_neg (by omega)]; done) | omega)); exact (SimL.cast hs (T' := [(0, .row (.int .i64) (l.drop 1)), (1, vi (d : Int)), (4, .ptr 1000 0), (6, vi (vM l)), (7, vi (kM d (vM l)))]) (B' := [(1000, .var [vi 0, vb false, vb false, nilv, vi 0, vs (ba []), nilv, nilv])]) (by first | rfl | (rw [e0_]; done) | (simp only [e0_]; done) | (simp only [e0_]; rfl)) (by first | rfl | (rw [e0_]; done) | (simp only [e0_]; done) | (simp only [e0_]; rfl))).ren [(1000, 1000)] (by kernel_rfl) (by kernel_rfl) (by kernel_rfl))
  ·intro hF a w hs
   refine wp_seq ?_
   refine wp_seq ?_
   refine way_L (tt := tt) (rs := []) (bs := []) (tk := [0, 1, 4, 6, 36]) (bk := [1000]) (C := True ∧ True) (lv := .norm) (T' := [(0, .row (.int .i64) (l.drop 1)), (1, vi (d : Int)), (4, .ptr 1000 0), (6, vi (vM l)), (36, vi (kM d (vM l)))]) (B' := [(1000, .var [vi 0, vb false, vb false, nilv, vi 0, vs (ba []), nilv, nilv])]) mix hI hs ?_ ?_ ?_ ?_
   ·exact trivial
   ·kernel_rfl
   ·exact ⟨trivial, trivial⟩
   intro a w hs
   refine then_norm ?_
   refine wp_block ?_
   refine wp_seq ?_
   refine way_L (tt := tt) (rs := []) (bs := []) (tk := [0, 1, 4, 6, 36, 37]) (bk := [1000]) (C := True ∧ True ∧ True) (lv := .norm) (T' := [(0, .row (.int .i64) (l.drop 1)), (1, vi (d : Int)), (4, .ptr 1000 0), (6, vi (vM l)), (36, vi (kM d (vM l))), (37, vb ((kM d (vM l)) == 0))]) (B' := [(1000, .var [vi 0, vb false, vb false, nilv, vi 0, vs (ba []), nilv, nilv])]) mix hI hs ?_ ?_ ?_ ?_
   ·exact trivial
   ·kernel_rfl
   ·exact ⟨trivial, trivial, trivial⟩
   intro a w hs
   refine then_norm ?_
   refine cond_L (c := 37) hs (b := (kM d (vM l)) == 0) rfl (fun hb => ?_) (fun hb => ?_)
   ·have b4 := hb
    clear hb
    have n4 := eq_of_beq b4
    refine way_L (tt := tt) (rs := []) (bs := []) (tk := [4, 5]) (bk := [1000]) (C := (tr 4 True) ∧ True) (lv := .ret) (T' := [(4, .ptr 1000 0), (5, .row (.int .i64) (l.drop 1))]) (B' := [(1000, .var [vi 1, vb false, vb false, nilv, vi 0, vs (ba []), nilv, nilv])]) mix hI hs ?_ ?_ ?_ ?_
    ·exact trivial
    ·kernel_rfl
    ·exact ⟨tr_mk trivial 4, trivial⟩
    intro a w hs
    refine inb_ret ?_
    refine then_ret ?_
    exact FnQ_cast (out := .val (.tup [.agg [vi 1, vb false, vb false, .row (.int .u32) ([]), vi 0, vs (ba []), .row .str ([]), .row .tree ([])], .row (.int .i64) (l.drop 1)])) (by rw [madeG, if_neg (by omega), madeV, if_pos (by first | omega | exact b4 | (rw [b4]; decide))]; try rfl) (ret_ok [] hs ⟨by kernel_rfl, rfl⟩)
   ·have b5 := hb
    clear hb
    have n5 := beq_eq_false_iff_ne.1 b5
    refine wp_seq ?_
    refine way_L (tt := tt) (rs := []) (bs := []) (tk := [0, 1, 4, 6, 36, 41]) (bk := [1000]) (C := True ∧ True ∧ True) (lv := .norm) (T' := [(0, .row (.int .i64) (l.drop 1)), (1, vi (d : Int)), (4, .ptr 1000 0), (6, vi (vM l)), (36, vi (kM d (vM l))), (41, vb ((kM d (vM l)) == 1))]) (B' := [(1000, .var [vi 0, vb false, vb false, nilv, vi 0, vs (ba []), nilv, nilv])]) mix hI hs ?_ ?_ ?_ ?_
    ·exact trivial
    ·kernel_rfl
    ·exact ⟨trivial, trivial, trivial⟩
    intro a w hs
    refine then_norm ?_
    refine cond_L (c := 41) hs (b := (kM d (vM l)) == 1) rfl (fun hb => ?_) (fun hb => ?_)
    ·have b6 := hb
     clear hb
     have n6 := eq_of_beq b6
     refine way_L (tt := tt) (rs := []) (bs := []) (tk := [4, 5]) (bk := [1000]) (C := (True ∧ ((12 : Int) ≠ 0 ∧ InR .i64 ((vM l).tdiv 12)) ∧ ((2 : Int) ≠ 0) ∧ (tr 5 True)) ∧ True) (lv := .ret) (T' := [(4, .ptr 1000 0), (5, .row (.int .i64) (l.drop 1))]) (B' := [(1000, .var [vi 2, vb ((((vM l).tdiv 12).tmod 2) == 1), vb false, nilv, vi 0, vs (ba []), nilv, nilv])]) mix hI hs ?_ ?_ ?_ ?_
     ·exact trivial
     ·kernel_rfl
     ·exact ⟨⟨trivial, ⟨by decide, inR64 (by omega) (by omega)⟩, (by decide), tr_mk trivial 5⟩, trivial⟩
     intro a w hs
     refine inb_ret ?_
     refine then_ret ?_
     exact FnQ_cast (out := .val (.tup [.agg [vi 2, vb ((((vM l).tdiv 12).tmod 2) == 1), vb false, .row (.int .u32) ([]), vi 0, vs (ba []), .row .str ([]), .row .tree ([])], .row (.int .i64) (l.drop 1)])) (by rw [madeG, if_neg (by omega), madeV, if_neg (by first | omega | exact b5 | (rw [b5]; decide)), if_pos (by first | omega | exact b6 | (rw [b6]; decide))]; try rfl) (ret_ok [] hs ⟨by kernel_rfl, rfl⟩)
    ·have b7 := hb
     clear hb
     have n7 := beq_eq_false_iff_ne.1 b7
     refine wp_cut (N := Tryz.f54.ntmps) (w0 := w0) (ow := noO fz) (T := [(0, .row (.int .i64) (l.drop 1)), (1, vi (d : Int)), (4, .ptr 1000 0), (6, vi (vM l)), (36, vi (kM d (vM l))), (49, vb (isNu (kM d (vM l))))]) (B := [(1000, .var [vi 0, vb false, vb false, nilv, vi 0, vs (ba []), nilv, nilv])]) (True) ?_ ?_
     ·skip
      rcases Bool.eq_false_or_eq_true ((kM d (vM l)) == 2) with b8 | b8
      ·skip
       have n8 := eq_of_beq b8
       refine way_L (tt := tt) (rs := []) (bs := [true]) (tk := [0, 1, 4, 6, 36, 49]) (bk := [1000]) (C := (True ∧ True ∧ True) ∧ (((kM d (vM l)) == 2) = true) ∧ True) (lv := .norm) (T' := [(0, .row (.int .i64) (l.drop 1)), (1, vi (d : Int)), (4, .ptr 1000 0), (6, vi (vM l)), (36, vi (kM d (vM l))), (49, vb ((kM d (vM l)) == 2))]) (B' := [(1000, .var [vi 0, vb false, vb false, nilv, vi 0, vs (ba []), nilv, nilv])]) mix hI hs ?_ ?_ ?_ ?_
       ·exact trivial
       ·kernel_rfl
       ·exact ⟨⟨trivial, trivial, trivial⟩, b8, trivial⟩
       intro a w hs
       refine then_norm ⟨trivial, ?_⟩
       (have e0_ : ((kM d (vM l)) == 2) = (isNu (kM d (vM l))) := (by first | rfl | (simp only [isNu, b5, b7, b8]; rfl)); exact (SimL.cast hs (T' := [(0, .row (.int .i64) (l.drop 1)), (1, vi (d : Int)), (4, .ptr 1000 0), (6, vi (vM l)), (36, vi (kM d (vM l))), (49, vb (isNu (kM d (vM l))))]) (B' := [(1000, .var [vi 0, vb false, vb false, nilv, vi 0, vs (ba []), nilv, nilv])]) (by first | rfl | (rw [e0_]; done) | (simp only [e0_]; done) | (simp only [e0_]; rfl)) (by first | rfl | (rw [e0_]; done) | (simp only [e0_]; done) | (simp only [e0_]; rfl))).ren [(1000, 1000)] (by kernel_rfl) (by kernel_rfl) (by kernel_rfl))
      ·skip
       have n8 := beq_eq_false_iff_ne.1 b8
       refine way_L (tt := tt) (rs := []) (bs := [false]) (tk := [0, 1, 4, 6, 36, 49]) (bk := [1000]) (C := (True ∧ True ∧ True) ∧ (((kM d (vM l)) == 2) = false) ∧ True ∧ True ∧ True) (lv := .norm) (T' := [(0, .row (.int .i64) (l.drop 1)), (1, vi (d : Int)), (4, .ptr 1000 0), (6, vi (vM l)), (36, vi (kM d (vM l))), (49, vb ((kM d (vM l)) == 3))]) (B' := [(1000, .var [vi 0, vb false, vb false, nilv, vi 0, vs (ba []), nilv, nilv])]) mix hI hs ?_ ?_ ?_ ?_
       ·exact trivial
       ·kernel_rfl
       ·exact ⟨⟨trivial, trivial, trivial⟩, b8, trivial, trivial, trivial⟩
       intro a w hs
       refine then_norm ⟨trivial, ?_⟩
       (have e0_ : ((kM d (vM l)) == 3) = (isNu (kM d (vM l))) := (by first | rfl | (simp only [isNu, b5, b7, b8]; rfl)); exact (SimL.cast hs (T' := [(0, .row (.int .i64) (l.drop 1)), (1, vi (d : Int)), (4, .ptr 1000 0), (6, vi (vM l)), (36, vi (kM d (vM l))), (49, vb (isNu (kM d (vM l))))]) (B' := [(1000, .var [vi 0, vb false, vb false, nilv, vi 0, vs (ba []), nilv, nilv])]) (by first | rfl | (rw [e0_]; done) | (simp only [e0_]; done) | (simp only [e0_]; rfl)) (by first | rfl | (rw [e0_]; done) | (simp only [e0_]; done) | (simp only [e0_]; rfl))).ren [(1000, 1000)] (by kernel_rfl) (by kernel_rfl) (by kernel_rfl))
     ·intro hF a w hs
      refine cond_L (c := 49) hs (b := isNu (kM d (vM l))) rfl (fun hb => ?_) (fun hb => ?_)
      ·have b9 := hb
       clear hb
       refine way_L (tt := tt) (rs := [(15, ⟨[(2, ciA 110 [vi ((vM l).tdiv 12)] [] [] (.val (.agg [vb ((numberN ((vM l).tdiv 12)).neg), .row (.int .u32) ((numberN ((vM l).tdiv 12)).m), vi ((numberN ((vM l).tdiv 12)).e)])))], [], []⟩)]) (bs := []) (tk := [4, 5]) (bk := [1000]) (C := (True ∧ ((12 : Int) ≠ 0 ∧ InR .i64 ((vM l).tdiv 12)) ∧ (okArgs [vi ((vM l).tdiv 12)]) ∧ (tr 4 True)) ∧ True) (lv := .ret) (T' := [(4, .ptr 1000 0), (5, .row (.int .i64) (l.drop 1))]) (B' := [(1000, .var [vi 3, vb false, vb ((numberN ((vM l).tdiv 12)).neg), .row (.int .u32) ((numberN ((vM l).tdiv 12)).m), vi ((numberN ((vM l).tdiv 12)).e), vs (ba []), nilv, nilv])]) mix hI hs ?_ ?_ ?_ ?_
       ·exact ⟨⟨⟨ent110, con110 _ (by omega)⟩, trivial⟩, trivial⟩
       ·kernel_rfl
       ·exact ⟨⟨trivial, ⟨by decide, inR64 (by omega) (by omega)⟩, rfl, tr_mk trivial 4⟩, trivial⟩
       intro a w hs
       refine inb_ret ?_
       refine then_ret ?_
       exact FnQ_cast (out := .val (.tup [.agg [vi 3, vb false, vb ((numberN ((vM l).tdiv 12)).neg), .row (.int .u32) ((numberN ((vM l).tdiv 12)).m), vi ((numberN ((vM l).tdiv 12)).e), vs (ba []), .row .str ([]), .row .tree ([])], .row (.int .i64) (l.drop 1)])) (by rw [madeG, if_neg (by omega), madeV, if_neg (by first | omega | exact b5 | (rw [b5]; decide)), if_neg (by first | omega | exact b7 | (rw [b7]; decide)), if_pos (by first | omega | exact b9 | (rw [b9]; decide))]; try rfl) (ret_ok [] hs ⟨by kernel_rfl, rfl⟩)
      ·have b10 := hb
       clear hb
       refine wp_seq ?_
       refine way_L (tt := tt) (rs := []) (bs := []) (tk := [0, 1, 4, 6, 36, 57]) (bk := [1000]) (C := True ∧ True ∧ True) (lv := .norm) (T' := [(0, .row (.int .i64) (l.drop 1)), (1, vi (d : Int)), (4, .ptr 1000 0), (6, vi (vM l)), (36, vi (kM d (vM l))), (57, vb ((kM d (vM l)) == 4))]) (B' := [(1000, .var [vi 0, vb false, vb false, nilv, vi 0, vs (ba []), nilv, nilv])]) mix hI hs ?_ ?_ ?_ ?_
       ·exact trivial
       ·kernel_rfl
       ·exact ⟨trivial, trivial, trivial⟩
       intro a w hs
       refine then_norm ?_
       refine cond_L (c := 57) hs (b := (kM d (vM l)) == 4) rfl (fun hb => ?_) (fun hb => ?_)
       ·have b11 := hb
        clear hb
        have n11 := eq_of_beq b11
        refine way_L (tt := tt) (rs := []) (bs := []) (tk := [4, 5]) (bk := [1000]) (C := (True ∧ True ∧ ((12 : Int) ≠ 0 ∧ InR .i64 ((vM l).tdiv 12)) ∧ ((9 : Int) ≠ 0) ∧ ((0 ≤ (((vM l).tdiv 12).tmod 9) ∧ (((vM l).tdiv 12).tmod 9) < (9 : Nat)) ∧ (((vM l).tdiv 12).tmod 9).toNat * 1 < 9) ∧ (0 ≤ (0 : Int) ∧ (0 : Int) ≤ (([0, 1, 2, 3, 4, 5, 6, 8, 9] : List Int).getD ((((vM l).tdiv 12).tmod 9).toNat * 1) 0) ∧ (([0, 1, 2, 3, 4, 5, 6, 8, 9] : List Int).getD ((((vM l).tdiv 12).tmod 9).toNat * 1) 0) ≤ ((ba [97, 98, 99, 34, 92, 10, 195, 169, 122]).size : Int)) ∧ (tr 4 True)) ∧ True) (lv := .ret) (T' := [(4, .ptr 1000 0), (5, .row (.int .i64) (l.drop 1))]) (B' := [(1000, .var [vi 4, vb false, vb false, nilv, vi 0, vs ((ba [97, 98, 99, 34, 92, 10, 195, 169, 122]).extract 0 (([0, 1, 2, 3, 4, 5, 6, 8, 9] : List Int).getD ((((vM l).tdiv 12).tmod 9).toNat * 1) 0).toNat), nilv, nilv])]) mix hI hs ?_ ?_ ?_ ?_
        ·exact trivial
        ·kernel_rfl
        ·exact ⟨⟨trivial, trivial, ⟨by decide, inR64 (by omega) (by omega)⟩, (by decide), ⟨⟨by omega, by omega⟩, by omega⟩, (by (repeat' apply And.intro) <;> (try split) <;> omega), tr_mk trivial 4⟩, trivial⟩
        intro a w hs
        refine inb_ret ?_
        refine then_ret ?_
        exact FnQ_cast (out := .val (.tup [.agg [vi 4, vb false, vb false, .row (.int .u32) ([]), vi 0, vs ((ba [97, 98, 99, 34, 92, 10, 195, 169, 122]).extract 0 (([0, 1, 2, 3, 4, 5, 6, 8, 9] : List Int).getD ((((vM l).tdiv 12).tmod 9).toNat * 1) 0).toNat), .row .str ([]), .row .tree ([])], .row (.int .i64) (l.drop 1)])) (by rw [madeG, if_neg (by omega), madeV, if_neg (by first | omega | exact b5 | (rw [b5]; decide)), if_neg (by first | omega | exact b7 | (rw [b7]; decide)), if_neg (by first | omega | exact b10 | (rw [b10]; decide)), if_pos (by first | omega | exact b11 | (rw [b11]; decide))]; try rfl) (ret_ok [] hs ⟨by kernel_rfl, rfl⟩)
       ·have b12 := hb
        clear hb
        have n12 := beq_eq_false_iff_ne.1 b12
        refine wp_seq ?_
        refine way_L (tt := tt) (rs := []) (bs := []) (tk := [0, 1, 4, 6, 36, 67]) (bk := [1000]) (C := True ∧ True ∧ True) (lv := .norm) (T' := [(0, .row (.int .i64) (l.drop 1)), (1, vi (d : Int)), (4, .ptr 1000 0), (6, vi (vM l)), (36, vi (kM d (vM l))), (67, vb ((kM d (vM l)) == 5))]) (B' := [(1000, .var [vi 0, vb false, vb false, nilv, vi 0, vs (ba []), nilv, nilv])]) mix hI hs ?_ ?_ ?_ ?_
        ·exact trivial
        ·kernel_rfl
        ·exact ⟨trivial, trivial, trivial⟩
        intro a w hs
        refine then_norm ?_
        refine cond_L (c := 67) hs (b := (kM d (vM l)) == 5) rfl (fun hb => ?_) (fun hb => ?_)
        ·have b13 := hb
         clear hb
         have n13 := eq_of_beq b13
         refine way_L (tt := tt) (rs := []) (bs := []) (tk := [4, 5]) (bk := [1000]) (C := (True ∧ ((12 : Int) ≠ 0 ∧ InR .i64 ((vM l).tdiv 12)) ∧ ((5 : Int) ≠ 0) ∧ (0 ≤ (0 : Int) ∧ (0 : Int) ≤ (((vM l).tdiv 12).tmod 5) ∧ (((vM l).tdiv 12).tmod 5) ≤ ((ba [0, 255, 97, 98]).size : Int)) ∧ (tr 4 True)) ∧ True) (lv := .ret) (T' := [(4, .ptr 1000 0), (5, .row (.int .i64) (l.drop 1))]) (B' := [(1000, .var [vi 5, vb false, vb false, nilv, vi 0, vs ((ba [0, 255, 97, 98]).extract 0 (((vM l).tdiv 12).tmod 5).toNat), nilv, nilv])]) mix hI hs ?_ ?_ ?_ ?_
         ·exact trivial
         ·kernel_rfl
         ·exact ⟨⟨trivial, ⟨by decide, inR64 (by omega) (by omega)⟩, (by decide), (by (repeat' apply And.intro) <;> (try split) <;> omega), tr_mk trivial 4⟩, trivial⟩
         intro a w hs
         refine inb_ret ?_
         refine then_ret ?_
         exact FnQ_cast (out := .val (.tup [.agg [vi 5, vb false, vb false, .row (.int .u32) ([]), vi 0, vs ((ba [0, 255, 97, 98]).extract 0 (((vM l).tdiv 12).tmod 5).toNat), .row .str ([]), .row .tree ([])], .row (.int .i64) (l.drop 1)])) (by rw [madeG, if_neg (by omega), madeV, if_neg (by first | omega | exact b5 | (rw [b5]; decide)), if_neg (by first | omega | exact b7 | (rw [b7]; decide)), if_neg (by first | omega | exact b10 | (rw [b10]; decide)), if_neg (by first | omega | exact b12 | (rw [b12]; decide)), if_pos (by first | omega | exact b13 | (rw [b13]; decide))]; try rfl) (ret_ok [] hs ⟨by kernel_rfl, rfl⟩)
        ·have b14 := hb
         clear hb
         have n14 := beq_eq_false_iff_ne.1 b14
         refine wp_cut (N := Tryz.f54.ntmps) (w0 := w0) (ow := noO fz) (T := [(0, .row (.int .i64) (l.drop 1)), (1, vi (d : Int)), (4, .ptr 1000 0), (6, vi (vM l)), (75, vb (isA (kM d (vM l))))]) (B := [(1000, .var [vi 0, vb false, vb false, nilv, vi 0, vs (ba []), nilv, nilv])]) (True) ?_ ?_
         ·skip
          rcases Bool.eq_false_or_eq_true ((kM d (vM l)) == 6) with b15 | b15
          ·skip
           have n15 := eq_of_beq b15
           refine way_L (tt := tt) (rs := []) (bs := [true]) (tk := [0, 1, 4, 6, 75]) (bk := [1000]) (C := (True ∧ True ∧ True) ∧ (((kM d (vM l)) == 6) = true) ∧ True) (lv := .norm) (T' := [(0, .row (.int .i64) (l.drop 1)), (1, vi (d : Int)), (4, .ptr 1000 0), (6, vi (vM l)), (75, vb ((kM d (vM l)) == 6))]) (B' := [(1000, .var [vi 0, vb false, vb false, nilv, vi 0, vs (ba []), nilv, nilv])]) mix hI hs ?_ ?_ ?_ ?_
           ·exact trivial
           ·kernel_rfl
           ·exact ⟨⟨trivial, trivial, trivial⟩, b15, trivial⟩
           intro a w hs
           refine then_norm ⟨trivial, ?_⟩
           (have e0_ : ((kM d (vM l)) == 6) = (isA (kM d (vM l))) := (by first | rfl | (simp only [isA, b5, b7, b10, b12, b14, b15]; rfl)); exact (SimL.cast hs (T' := [(0, .row (.int .i64) (l.drop 1)), (1, vi (d : Int)), (4, .ptr 1000 0), (6, vi (vM l)), (75, vb (isA (kM d (vM l))))]) (B' := [(1000, .var [vi 0, vb false, vb false, nilv, vi 0, vs (ba []), nilv, nilv])]) (by first | rfl | (rw [e0_]; done) | (simp only [e0_]; done) | (simp only [e0_]; rfl)) (by first | rfl | (rw [e0_]; done) | (simp only [e0_]; done) | (simp only [e0_]; rfl))).ren [(1000, 1000)] (by kernel_rfl) (by kernel_rfl) (by kernel_rfl))
          ·skip
           have n15 := beq_eq_false_iff_ne.1 b15
           rcases Bool.eq_false_or_eq_true ((kM d (vM l)) == 7) with b16 | b16
           ·skip
            have n16 := eq_of_beq b16
            refine way_L (tt := tt) (rs := []) (bs := [false, true]) (tk := [0, 1, 4, 6, 75]) (bk := [1000]) (C := (True ∧ True ∧ True) ∧ (((kM d (vM l)) == 6) = false) ∧ (True ∧ True ∧ True) ∧ (((kM d (vM l)) == 7) = true) ∧ True) (lv := .norm) (T' := [(0, .row (.int .i64) (l.drop 1)), (1, vi (d : Int)), (4, .ptr 1000 0), (6, vi (vM l)), (75, vb ((kM d (vM l)) == 7))]) (B' := [(1000, .var [vi 0, vb false, vb false, nilv, vi 0, vs (ba []), nilv, nilv])]) mix hI hs ?_ ?_ ?_ ?_
            ·exact trivial
            ·kernel_rfl
            ·exact ⟨⟨trivial, trivial, trivial⟩, b15, ⟨trivial, trivial, trivial⟩, b16, trivial⟩
            intro a w hs
            refine then_norm ⟨trivial, ?_⟩
            (have e0_ : ((kM d (vM l)) == 7) = (isA (kM d (vM l))) := (by first | rfl | (simp only [isA, b5, b7, b10, b12, b14, b15, b16]; rfl)); exact (SimL.cast hs (T' := [(0, .row (.int .i64) (l.drop 1)), (1, vi (d : Int)), (4, .ptr 1000 0), (6, vi (vM l)), (75, vb (isA (kM d (vM l))))]) (B' := [(1000, .var [vi 0, vb false, vb false, nilv, vi 0, vs (ba []), nilv, nilv])]) (by first | rfl | (rw [e0_]; done) | (simp only [e0_]; done) | (simp only [e0_]; rfl)) (by first | rfl | (rw [e0_]; done) | (simp only [e0_]; done) | (simp only [e0_]; rfl))).ren [(1000, 1000)] (by kernel_rfl) (by kernel_rfl) (by kernel_rfl))
           ·skip
            have n16 := beq_eq_false_iff_ne.1 b16
            refine way_L (tt := tt) (rs := []) (bs := [false, false]) (tk := [0, 1, 4, 6, 75]) (bk := [1000]) (C := (True ∧ True ∧ True) ∧ (((kM d (vM l)) == 6) = false) ∧ (True ∧ True ∧ True) ∧ (((kM d (vM l)) == 7) = false) ∧ True ∧ True ∧ True) (lv := .norm) (T' := [(0, .row (.int .i64) (l.drop 1)), (1, vi (d : Int)), (4, .ptr 1000 0), (6, vi (vM l)), (75, vb ((kM d (vM l)) == 8))]) (B' := [(1000, .var [vi 0, vb false, vb false, nilv, vi 0, vs (ba []), nilv, nilv])]) mix hI hs ?_ ?_ ?_ ?_
            ·exact trivial
            ·kernel_rfl
            ·exact ⟨⟨trivial, trivial, trivial⟩, b15, ⟨trivial, trivial, trivial⟩, b16, trivial, trivial, trivial⟩
            intro a w hs
            refine then_norm ⟨trivial, ?_⟩
            (have e0_ : ((kM d (vM l)) == 8) = (isA (kM d (vM l))) := (by first | rfl | (simp only [isA, b5, b7, b10, b12, b14, b15, b16]; rfl)); exact (SimL.cast hs (T' := [(0, .row (.int .i64) (l.drop 1)), (1, vi (d : Int)), (4, .ptr 1000 0), (6, vi (vM l)), (75, vb (isA (kM d (vM l))))]) (B' := [(1000, .var [vi 0, vb false, vb false, nilv, vi 0, vs (ba []), nilv, nilv])]) (by first | rfl | (rw [e0_]; done) | (simp only [e0_]; done) | (simp only [e0_]; rfl)) (by first | rfl | (rw [e0_]; done) | (simp only [e0_]; done) | (simp only [e0_]; rfl))).ren [(1000, 1000)] (by kernel_rfl) (by kernel_rfl) (by kernel_rfl))
         ·intro hF a w hs
          refine cond_L (c := 75) hs (b := isA (kM d (vM l))) rfl (fun hb => ?_) (fun hb => ?_)
          ·have b17 := hb
           clear hb
           have hd_ : 0 < d := dM_a hV d (by assumption)
           refine wp_seq ?_
           refine way_L (tt := tt) (rs := []) (bs := []) (tk := [0, 1, 4, 6, 8]) (bk := [1000, 24001]) (C := tr 3 True) (lv := .norm) (T' := [(0, .row (.int .i64) (l.drop 1)), (1, vi (d : Int)), (4, .ptr 1000 0), (6, vi (vM l)), (8, .ptr 24001 0)]) (B' := [(1000, .var [vi 0, vb false, vb false, nilv, vi 0, vs (ba []), nilv, nilv]), (24001, .var [vi 6, vb false, vb false, nilv, vi 0, vs (ba []), nilv, nilv])]) mix hI hs ?_ ?_ ?_ ?_
           ·exact trivial
           ·kernel_rfl
           ·exact tr_mk trivial 3
           intro a w hs
           refine then_norm ?_
           refine wp_seq ?_
           refine wp_seq ?_
           refine way_L (tt := tt) (rs := []) (bs := []) (tk := [0, 1, 4, 6, 8, 9]) (bk := [1000, 24001]) (C := True ∧ True) (lv := .norm) (T' := [(0, .row (.int .i64) (l.drop 1)), (1, vi (d : Int)), (4, .ptr 1000 0), (6, vi (vM l)), (8, .ptr 24001 0), (9, vi 0)]) (B' := [(1000, .var [vi 0, vb false, vb false, nilv, vi 0, vs (ba []), nilv, nilv]), (24001, .var [vi 6, vb false, vb false, nilv, vi 0, vs (ba []), nilv, nilv])]) mix hI hs ?_ ?_ ?_ ?_
           ·exact trivial
           ·kernel_rfl
           ·exact ⟨trivial, trivial⟩
           intro a w hs
           refine then_norm ?_
           refine wp_block ?_
           refine loop_L (N := Tryz.f54.ntmps) (w0 := w0) (ow := noO fz) (α := Nat) (fun p => [(0, .row (.int .i64) ((itA f p (l.drop 1)).2)), (1, vi (d : Int)), (4, .ptr 1000 0), (6, vi (vM l)), (8, .ptr 90000001 0), (9, vi ((p : Nat) : Int))]) (fun p => [(1000, .var [vi 0, vb false, vb false, nilv, vi 0, vs (ba []), nilv, nilv]), (90000001, .var [vi 6, vb false, vb false, nilv, vi 0, vs (ba []), nilv, .own 90000002]), (90000002, .sl 29 .tree ((itA f p (l.drop 1)).1))]) (fun p => p ≤ cM (vM l)) (fun p => cM (vM l) - p) 0 ?_ ?_ ?_
           ·exact Nat.zero_le _
           ·(have hs := (hs.nilB 10000005 24001 7 29 .tree [vi 6, vb false, vb false, nilv, vi 0, vs (ba []), nilv, nilv] (by kernel_rfl) (by kernel_rfl) (by decide) (by decide) (by kernel_rfl) (by kernel_rfl)).ren (T' := [(0, .row (.int .i64) (l.drop 1)), (1, vi (d : Int)), (4, .ptr 1000 0), (6, vi (vM l)), (8, .ptr 24001 0), (9, vi 0)]) (B' := [(1000, .var [vi 0, vb false, vb false, nilv, vi 0, vs (ba []), nilv, nilv]), (24001, .var [vi 6, vb false, vb false, nilv, vi 0, vs (ba []), nilv, .own 10000005]), (10000005, .sl 29 .tree ([]))]) [(1000, 1000), (24001, 24001), (10000005, 10000005)] (by kernel_rfl) (by kernel_rfl) (by kernel_rfl); exact (SimL.cast hs (T' := [(0, .row (.int .i64) ((itA f 0 (l.drop 1)).2)), (1, vi (d : Int)), (4, .ptr 1000 0), (6, vi (vM l)), (8, .ptr 24001 0), (9, vi ((0 : Nat) : Int))]) (B' := [(1000, .var [vi 0, vb false, vb false, nilv, vi 0, vs (ba []), nilv, nilv]), (24001, .var [vi 6, vb false, vb false, nilv, vi 0, vs (ba []), nilv, .own 10000005]), (10000005, .sl 29 .tree ((itA f 0 (l.drop 1)).1))]) (by rfl) rfl).ren [(1000, 1000), (90000001, 24001), (90000002, 10000005)] (by kernel_rfl) (by kernel_rfl) (by kernel_rfl))
           rintro i hJ a w hs
           have hal := itA_len f i (l.drop 1)
           rcases Bool.eq_false_or_eq_true (decide (((i : Nat) : Int) < (((vM l).tdiv 12).tmod 4))) with b18 | b18
           ·skip
            have n18 := of_decide_eq_true b18
            refine way_L (tt := tt) (rs := [(27, ⟨[(3, ciA 54 [.row (.int .i64) ((itA f i (l.drop 1)).2), vi ((d : Int) - 1)] [] [] (.val (.tup [.agg (encTree ((f ((itA f i (l.drop 1)).2)).1)), .row (.int .i64) ((f ((itA f i (l.drop 1)).2)).2)])))], [], []⟩)]) (bs := [true]) (tk := [0, 1, 4, 6, 8, 9]) (bk := [1000, 29004, 90000001]) (C := ((True ∧ True ∧ ((12 : Int) ≠ 0 ∧ InR .i64 ((vM l).tdiv 12)) ∧ ((4 : Int) ≠ 0) ∧ True ∧ True) ∧ ((decide (((i : Nat) : Int) < (((vM l).tdiv 12).tmod 4))) = true) ∧ True) ∧ ((True ∧ True ∧ (InR .i64 ((d : Int) - 1)) ∧ (okArgs [.row (.int .i64) ((itA f i (l.drop 1)).2), vi ((d : Int) - 1)]) ∧ (tr 6 True)) ∧ (tr 4 ((((((itA f i (l.drop 1)).1).length + 1) * 120 : Nat) ≤ 140737488355328 ∧ ((itA f i (l.drop 1)).1).length + 1 ≤ 140737488355328) ∧ True ∧ True ∧ True)) ∧ True ∧ True ∧ True) ∧ True ∧ (InR .i64 (((i : Nat) : Int) + 1)) ∧ True ∧ True) (lv := .norm) (T' := [(0, .row (.int .i64) ((f ((itA f i (l.drop 1)).2)).2)), (1, vi (d : Int)), (4, .ptr 1000 0), (6, vi (vM l)), (8, .ptr 90000001 0), (9, vi (((i : Nat) : Int) + 1))]) (B' := [(1000, .var [vi 0, vb false, vb false, nilv, vi 0, vs (ba []), nilv, nilv]), (29004, .sl 29 .tree (((itA f i (l.drop 1)).1) ++ ([(Tree.mk (((f ((itA f i (l.drop 1)).2)).1).kind) (((f ((itA f i (l.drop 1)).2)).1).b) ⟨((f ((itA f i (l.drop 1)).2)).1).n.neg, ((f ((itA f i (l.drop 1)).2)).1).n.m, ((f ((itA f i (l.drop 1)).2)).1).n.e⟩ (((f ((itA f i (l.drop 1)).2)).1).s) (((f ((itA f i (l.drop 1)).2)).1).k) (((f ((itA f i (l.drop 1)).2)).1).v))]))), (90000001, .var [vi 6, vb false, vb false, nilv, vi 0, vs (ba []), nilv, .own 29004])]) mix hI hs ?_ ?_ ?_ ?_
            ·exact ⟨⟨⟨ent54, H (by omega) _⟩, trivial⟩, trivial⟩
            ·kernel_rfl
            ·exact ⟨⟨⟨trivial, trivial, ⟨by decide, inR64 (by omega) (by omega)⟩, (by decide), trivial, trivial⟩, b18, trivial⟩, ⟨⟨trivial, trivial, (inR64 (by omega) (by omega)), rfl, tr_mk trivial 6⟩, tr_mk (⟨⟨by omega, by omega⟩, trivial, trivial, trivial⟩) 4, trivial, trivial, trivial⟩, trivial, (inR64 (by omega) (by omega)), trivial, trivial⟩
            intro a w hs
            refine then_norm ⟨i + 1, by omega, by omega, ?_⟩
            (have e0_ : ((f ((itA f i (l.drop 1)).2)).2) = ((itA f (i + 1) (l.drop 1)).2) := (by first | rfl | (first | omega | rfl | (simp only [itA, Tree.eta']; done) | (simp only [itA, Tree.eta']; rfl))); have e1_ : (((i : Nat) : Int) + 1) = ((((i + 1) : Nat) : Int)) := (by first | rfl | (first | omega | rfl | (simp only [itA, Tree.eta']; done) | (simp only [itA, Tree.eta']; rfl))); have e2_ : (((itA f i (l.drop 1)).1) ++ ([(Tree.mk (((f ((itA f i (l.drop 1)).2)).1).kind) (((f ((itA f i (l.drop 1)).2)).1).b) ⟨((f ((itA f i (l.drop 1)).2)).1).n.neg, ((f ((itA f i (l.drop 1)).2)).1).n.m, ((f ((itA f i (l.drop 1)).2)).1).n.e⟩ (((f ((itA f i (l.drop 1)).2)).1).s) (((f ((itA f i (l.drop 1)).2)).1).k) (((f ((itA f i (l.drop 1)).2)).1).v))])) = ((itA f (i + 1) (l.drop 1)).1) := (by first | rfl | (first | omega | rfl | (simp only [itA, Tree.eta']; done) | (simp only [itA, Tree.eta']; rfl))); exact (SimL.cast hs (T' := [(0, .row (.int .i64) ((itA f (i + 1) (l.drop 1)).2)), (1, vi (d : Int)), (4, .ptr 1000 0), (6, vi (vM l)), (8, .ptr 90000001 0), (9, vi (((i + 1) : Nat) : Int))]) (B' := [(1000, .var [vi 0, vb false, vb false, nilv, vi 0, vs (ba []), nilv, nilv]), (29004, .sl 29 .tree ((itA f (i + 1) (l.drop 1)).1)), (90000001, .var [vi 6, vb false, vb false, nilv, vi 0, vs (ba []), nilv, .own 29004])]) (by first | rfl | (rw [e0_, e1_, e2_]; done) | (simp only [e0_, e1_, e2_]; done) | (simp only [e0_, e1_, e2_]; rfl)) (by first | rfl | (rw [e0_, e1_, e2_]; done) | (simp only [e0_, e1_, e2_]; done) | (simp only [e0_, e1_, e2_]; rfl))).ren [(1000, 1000), (90000001, 90000001), (90000002, 29004)] (by kernel_rfl) (by kernel_rfl) (by kernel_rfl))
           ·skip
            have n18 := of_decide_eq_false b18
            refine way_L (tt := tt) (rs := []) (bs := [false]) (tk := [0, 4, 8]) (bk := [1000, 90000001, 90000002]) (C := (True ∧ True ∧ ((12 : Int) ≠ 0 ∧ InR .i64 ((vM l).tdiv 12)) ∧ ((4 : Int) ≠ 0) ∧ True ∧ True) ∧ ((decide (((i : Nat) : Int) < (((vM l).tdiv 12).tmod 4))) = false) ∧ True) (lv := .exit 1) (T' := [(0, .row (.int .i64) ((itA f i (l.drop 1)).2)), (4, .ptr 1000 0), (8, .ptr 90000001 0)]) (B' := [(1000, .var [vi 0, vb false, vb false, nilv, vi 0, vs (ba []), nilv, nilv]), (90000001, .var [vi 6, vb false, vb false, nilv, vi 0, vs (ba []), nilv, .own 90000002]), (90000002, .sl 29 .tree ((itA f i (l.drop 1)).1))]) mix hI hs ?_ ?_ ?_ ?_
            ·exact trivial
            ·kernel_rfl
            ·exact ⟨⟨trivial, trivial, ⟨by decide, inR64 (by omega) (by omega)⟩, (by decide), trivial, trivial⟩, b18, trivial⟩
            intro a w hs
            refine then_exit ?_
            refine inb_hit ?_
            refine then_norm ?_
            refine way_L (tt := tt) (rs := []) (bs := []) (tk := [4, 5]) (bk := [1000, 90000002]) (C := (tr 4 True) ∧ True) (lv := .ret) (T' := [(4, .ptr 1000 0), (5, .row (.int .i64) ((itA f i (l.drop 1)).2))]) (B' := [(1000, .var [vi 6, vb false, vb false, nilv, vi 0, vs (ba []), nilv, .own 90000002]), (90000002, .sl 29 .tree ((itA f i (l.drop 1)).1))]) mix hI hs ?_ ?_ ?_ ?_
            ·exact trivial
            ·kernel_rfl
            ·exact ⟨tr_mk trivial 4, trivial⟩
            intro a w hs
            refine inb_ret ?_
            refine then_ret ?_
            exact FnQ_cast (out := .val (.tup [.agg [vi 6, vb false, vb false, .row (.int .u32) ([]), vi 0, vs (ba []), .row .str ([]), .row .tree ((itA f i (l.drop 1)).1)], .row (.int .i64) ((itA f i (l.drop 1)).2)])) (by obtain rfl : i = cM (vM l) := (by omega); rw [madeG, if_neg (by omega), madeV, if_neg (by first | omega | exact b5 | (rw [b5]; decide)), if_neg (by first | omega | exact b7 | (rw [b7]; decide)), if_neg (by first | omega | exact b10 | (rw [b10]; decide)), if_neg (by first | omega | exact b12 | (rw [b12]; decide)), if_neg (by first | omega | exact b14 | (rw [b14]; decide)), if_pos (by first | omega | exact b17 | (rw [b17]; decide))]; try rfl) (ret_ok [90000002] hs ⟨by kernel_rfl, rfl⟩)
          ·have b19 := hb
           clear hb
           have hd_ : 0 < d := dM_o hV d (by omega) (by omega) (by assumption) (by omega) (by omega)
           refine way_L (tt := tt) (rs := []) (bs := []) (tk := [0, 1, 4, 6]) (bk := [1000]) (C := True) (lv := .norm) (T' := [(0, .row (.int .i64) (l.drop 1)), (1, vi (d : Int)), (4, .ptr 1000 0), (6, vi (vM l))]) (B' := [(1000, .var [vi 0, vb false, vb false, nilv, vi 0, vs (ba []), nilv, nilv])]) mix hI hs ?_ ?_ ?_ ?_
           ·exact trivial
           ·kernel_rfl
           ·exact trivial
           intro a w hs
           refine inb_norm ?_
           refine then_norm ?_
           refine wp_seq ?_
           refine way_L (tt := tt) (rs := []) (bs := []) (tk := [0, 1, 4, 6, 12]) (bk := [1000, 32001]) (C := tr 3 True) (lv := .norm) (T' := [(0, .row (.int .i64) (l.drop 1)), (1, vi (d : Int)), (4, .ptr 1000 0), (6, vi (vM l)), (12, .ptr 32001 0)]) (B' := [(1000, .var [vi 0, vb false, vb false, nilv, vi 0, vs (ba []), nilv, nilv]), (32001, .var [vi 7, vb false, vb false, nilv, vi 0, vs (ba []), nilv, nilv])]) mix hI hs ?_ ?_ ?_ ?_
           ·exact trivial
           ·kernel_rfl
           ·exact tr_mk trivial 3
           intro a w hs
           refine then_norm ?_
           refine wp_seq ?_
           refine wp_seq ?_
           refine way_L (tt := tt) (rs := []) (bs := []) (tk := [0, 1, 4, 6, 12, 13]) (bk := [1000, 32001]) (C := True ∧ True) (lv := .norm) (T' := [(0, .row (.int .i64) (l.drop 1)), (1, vi (d : Int)), (4, .ptr 1000 0), (6, vi (vM l)), (12, .ptr 32001 0), (13, vi 0)]) (B' := [(1000, .var [vi 0, vb false, vb false, nilv, vi 0, vs (ba []), nilv, nilv]), (32001, .var [vi 7, vb false, vb false, nilv, vi 0, vs (ba []), nilv, nilv])]) mix hI hs ?_ ?_ ?_ ?_
           ·exact trivial
           ·kernel_rfl
           ·exact ⟨trivial, trivial⟩
           intro a w hs
           refine then_norm ?_
           refine wp_block ?_
           refine loop_L (N := Tryz.f54.ntmps) (w0 := w0) (ow := noO fz) (α := Nat) (fun p => [(0, .row (.int .i64) ((itO f (vM l) p (l.drop 1)).2)), (1, vi (d : Int)), (4, .ptr 1000 0), (6, vi (vM l)), (12, .ptr 90000003 0), (13, vi ((p : Nat) : Int))]) (fun p => [(1000, .var [vi 0, vb false, vb false, nilv, vi 0, vs (ba []), nilv, nilv]), (90000003, .var [vi (((itO f (vM l) p (l.drop 1)).1).kind), vb (((itO f (vM l) p (l.drop 1)).1).b), vb (((itO f (vM l) p (l.drop 1)).1).n.neg), .row (.int .u32) (((itO f (vM l) p (l.drop 1)).1).n.m), vi (((itO f (vM l) p (l.drop 1)).1).n.e), vs (((itO f (vM l) p (l.drop 1)).1).s), .row .str (((itO f (vM l) p (l.drop 1)).1).k), .row .tree (((itO f (vM l) p (l.drop 1)).1).v)])]) (fun p => p ≤ cM (vM l)) (fun p => cM (vM l) - p) 0 ?_ ?_ ?_
           ·exact Nat.zero_le _
           ·(have hs := (hs.rowB 32001 3 (.int .u32) [vi 7, vb false, vb false, nilv, vi 0, vs (ba []), nilv, nilv] (by kernel_rfl) (by kernel_rfl)).ren (T' := [(0, .row (.int .i64) (l.drop 1)), (1, vi (d : Int)), (4, .ptr 1000 0), (6, vi (vM l)), (12, .ptr 32001 0), (13, vi 0)]) (B' := [(1000, .var [vi 0, vb false, vb false, nilv, vi 0, vs (ba []), nilv, nilv]), (32001, .var [vi 7, vb false, vb false, .row (.int .u32) ([]), vi 0, vs (ba []), nilv, nilv])]) [(1000, 1000), (32001, 32001)] (by kernel_rfl) (by kernel_rfl) (by kernel_rfl); have hs := (hs.rowB 32001 6 .str [vi 7, vb false, vb false, .row (.int .u32) ([]), vi 0, vs (ba []), nilv, nilv] (by kernel_rfl) (by kernel_rfl)).ren (T' := [(0, .row (.int .i64) (l.drop 1)), (1, vi (d : Int)), (4, .ptr 1000 0), (6, vi (vM l)), (12, .ptr 32001 0), (13, vi 0)]) (B' := [(1000, .var [vi 0, vb false, vb false, nilv, vi 0, vs (ba []), nilv, nilv]), (32001, .var [vi 7, vb false, vb false, .row (.int .u32) ([]), vi 0, vs (ba []), .row .str ([]), nilv])]) [(1000, 1000), (32001, 32001)] (by kernel_rfl) (by kernel_rfl) (by kernel_rfl); have hs := (hs.rowB 32001 7 .tree [vi 7, vb false, vb false, .row (.int .u32) ([]), vi 0, vs (ba []), .row .str ([]), nilv] (by kernel_rfl) (by kernel_rfl)).ren (T' := [(0, .row (.int .i64) (l.drop 1)), (1, vi (d : Int)), (4, .ptr 1000 0), (6, vi (vM l)), (12, .ptr 32001 0), (13, vi 0)]) (B' := [(1000, .var [vi 0, vb false, vb false, nilv, vi 0, vs (ba []), nilv, nilv]), (32001, .var [vi 7, vb false, vb false, .row (.int .u32) ([]), vi 0, vs (ba []), .row .str ([]), .row .tree ([])])]) [(1000, 1000), (32001, 32001)] (by kernel_rfl) (by kernel_rfl) (by kernel_rfl); exact (SimL.cast hs (T' := [(0, .row (.int .i64) ((itO f (vM l) 0 (l.drop 1)).2)), (1, vi (d : Int)), (4, .ptr 1000 0), (6, vi (vM l)), (12, .ptr 32001 0), (13, vi ((0 : Nat) : Int))]) (B' := [(1000, .var [vi 0, vb false, vb false, nilv, vi 0, vs (ba []), nilv, nilv]), (32001, .var [vi (((itO f (vM l) 0 (l.drop 1)).1).kind), vb (((itO f (vM l) 0 (l.drop 1)).1).b), vb (((itO f (vM l) 0 (l.drop 1)).1).n.neg), .row (.int .u32) (((itO f (vM l) 0 (l.drop 1)).1).n.m), vi (((itO f (vM l) 0 (l.drop 1)).1).n.e), vs (((itO f (vM l) 0 (l.drop 1)).1).s), .row .str (((itO f (vM l) 0 (l.drop 1)).1).k), .row .tree (((itO f (vM l) 0 (l.drop 1)).1).v)])]) (by rfl) rfl).ren [(1000, 1000), (90000003, 32001)] (by kernel_rfl) (by kernel_rfl) (by kernel_rfl))
           rintro i hJ a w hs
           have hn_ := nm8 hV i
           rcases Bool.eq_false_or_eq_true (decide (((i : Nat) : Int) < (((vM l).tdiv 12).tmod 4))) with b20 | b20
           ·skip
            have n20 := of_decide_eq_true b20
            refine way_L (tt := tt) (rs := [(35, ⟨[(3, ciA 54 [.row (.int .i64) ((itO f (vM l) i (l.drop 1)).2), vi ((d : Int) - 1)] [] [] (.val (.tup [.agg (encTree ((f ((itO f (vM l) i (l.drop 1)).2)).1)), .row (.int .i64) ((f ((itO f (vM l) i (l.drop 1)).2)).2)])))], [], []⟩), (36, ⟨[(1, ciA 111 [] [] [] (.val (.row .str names8))), (11, ciA 22 [.agg (encTree ((itO f (vM l) i (l.drop 1)).1)), vs (names8.getD (((((vM l).tdiv 48) + (3 * ((i : Nat) : Int))).tmod 8).toNat) (dflt .str)), .agg (encTree ((f ((itO f (vM l) i (l.drop 1)).2)).1))] [] [] (.val (.agg (encTree (setT ((itO f (vM l) i (l.drop 1)).1) (names8.getD (((((vM l).tdiv 48) + (3 * ((i : Nat) : Int))).tmod 8).toNat) (dflt .str)) ((f ((itO f (vM l) i (l.drop 1)).2)).1))))))], [], []⟩)]) (bs := [true]) (tk := [0, 1, 4, 6, 12, 13]) (bk := [1000, 90000003]) (C := ((True ∧ True ∧ ((12 : Int) ≠ 0 ∧ InR .i64 ((vM l).tdiv 12)) ∧ ((4 : Int) ≠ 0) ∧ True ∧ True) ∧ ((decide (((i : Nat) : Int) < (((vM l).tdiv 12).tmod 4))) = true) ∧ True) ∧ ((True ∧ True ∧ (InR .i64 ((d : Int) - 1)) ∧ (okArgs [.row (.int .i64) ((itO f (vM l) i (l.drop 1)).2), vi ((d : Int) - 1)]) ∧ (tr 6 True)) ∧ (True ∧ (okArgs []) ∧ True ∧ ((48 : Int) ≠ 0 ∧ InR .i64 ((vM l).tdiv 48)) ∧ True ∧ (InR .i64 (3 * ((i : Nat) : Int))) ∧ (InR .i64 (((vM l).tdiv 48) + (3 * ((i : Nat) : Int)))) ∧ ((8 : Int) ≠ 0) ∧ (0 ≤ ((((vM l).tdiv 48) + (3 * ((i : Nat) : Int))).tmod 8) ∧ ((((vM l).tdiv 48) + (3 * ((i : Nat) : Int))).tmod 8) < names8.length) ∧ True ∧ True ∧ (okArgs [.agg (encTree ((itO f (vM l) i (l.drop 1)).1)), vs (names8.getD (((((vM l).tdiv 48) + (3 * ((i : Nat) : Int))).tmod 8).toNat) (dflt .str)), .agg (encTree ((f ((itO f (vM l) i (l.drop 1)).2)).1))]) ∧ True ∧ True) ∧ True ∧ True ∧ True) ∧ True ∧ (InR .i64 (((i : Nat) : Int) + 1)) ∧ True ∧ True) (lv := .norm) (T' := [(0, .row (.int .i64) ((f ((itO f (vM l) i (l.drop 1)).2)).2)), (1, vi (d : Int)), (4, .ptr 1000 0), (6, vi (vM l)), (12, .ptr 90000003 0), (13, vi (((i : Nat) : Int) + 1))]) (B' := [(1000, .var [vi 0, vb false, vb false, nilv, vi 0, vs (ba []), nilv, nilv]), (90000003, .var [vi ((setT ((itO f (vM l) i (l.drop 1)).1) (names8.getD (((((vM l).tdiv 48) + (3 * ((i : Nat) : Int))).tmod 8).toNat) (dflt .str)) ((f ((itO f (vM l) i (l.drop 1)).2)).1)).kind), vb ((setT ((itO f (vM l) i (l.drop 1)).1) (names8.getD (((((vM l).tdiv 48) + (3 * ((i : Nat) : Int))).tmod 8).toNat) (dflt .str)) ((f ((itO f (vM l) i (l.drop 1)).2)).1)).b), vb ((setT ((itO f (vM l) i (l.drop 1)).1) (names8.getD (((((vM l).tdiv 48) + (3 * ((i : Nat) : Int))).tmod 8).toNat) (dflt .str)) ((f ((itO f (vM l) i (l.drop 1)).2)).1)).n.neg), .row (.int .u32) ((setT ((itO f (vM l) i (l.drop 1)).1) (names8.getD (((((vM l).tdiv 48) + (3 * ((i : Nat) : Int))).tmod 8).toNat) (dflt .str)) ((f ((itO f (vM l) i (l.drop 1)).2)).1)).n.m), vi ((setT ((itO f (vM l) i (l.drop 1)).1) (names8.getD (((((vM l).tdiv 48) + (3 * ((i : Nat) : Int))).tmod 8).toNat) (dflt .str)) ((f ((itO f (vM l) i (l.drop 1)).2)).1)).n.e), vs ((setT ((itO f (vM l) i (l.drop 1)).1) (names8.getD (((((vM l).tdiv 48) + (3 * ((i : Nat) : Int))).tmod 8).toNat) (dflt .str)) ((f ((itO f (vM l) i (l.drop 1)).2)).1)).s), .row .str ((setT ((itO f (vM l) i (l.drop 1)).1) (names8.getD (((((vM l).tdiv 48) + (3 * ((i : Nat) : Int))).tmod 8).toNat) (dflt .str)) ((f ((itO f (vM l) i (l.drop 1)).2)).1)).k), .row .tree ((setT ((itO f (vM l) i (l.drop 1)).1) (names8.getD (((((vM l).tdiv 48) + (3 * ((i : Nat) : Int))).tmod 8).toNat) (dflt .str)) ((f ((itO f (vM l) i (l.drop 1)).2)).1)).v)])]) mix hI hs ?_ ?_ ?_ ?_
            ·exact ⟨⟨⟨ent54, H (by omega) _⟩, trivial⟩, ⟨⟨ent111, con111.frz⟩, ⟨ent22, con22 _ _ _ (by have := itO_len f (vM l) i (l.drop 1); omega) (by have := itO_len f (vM l) i (l.drop 1); omega)⟩, trivial⟩, trivial⟩
            ·kernel_rfl
            ·exact ⟨⟨⟨trivial, trivial, ⟨by decide, inR64 (by omega) (by omega)⟩, (by decide), trivial, trivial⟩, b20, trivial⟩, ⟨⟨trivial, trivial, (inR64 (by omega) (by omega)), rfl, tr_mk trivial 6⟩, ⟨trivial, rfl, trivial, ⟨by decide, inR64 (by omega) (by omega)⟩, trivial, (inR64 (by omega) (by omega)), (inR64 (by omega) (by omega)), (by decide), ⟨by omega, by omega⟩, trivial, trivial, rfl, trivial, trivial⟩, trivial, trivial, trivial⟩, trivial, (inR64 (by omega) (by omega)), trivial, trivial⟩
            intro a w hs
            refine then_norm ⟨i + 1, by omega, by omega, ?_⟩
            (have e0_ : ((f ((itO f (vM l) i (l.drop 1)).2)).2) = ((itO f (vM l) (i + 1) (l.drop 1)).2) := (by first | rfl | (first | omega | rfl | (simp only [itO, Tree.eta']; done) | (simp only [itO, Tree.eta']; rfl))); have e1_ : (((i : Nat) : Int) + 1) = ((((i + 1) : Nat) : Int)) := (by first | rfl | (first | omega | rfl | (simp only [itO, Tree.eta']; done) | (simp only [itO, Tree.eta']; rfl))); have e2_ : ((setT ((itO f (vM l) i (l.drop 1)).1) (names8.getD (((((vM l).tdiv 48) + (3 * ((i : Nat) : Int))).tmod 8).toNat) (dflt .str)) ((f ((itO f (vM l) i (l.drop 1)).2)).1)).kind) = (((itO f (vM l) (i + 1) (l.drop 1)).1).kind) := (by first | rfl | (first | omega | rfl | (simp only [itO, Tree.eta']; done) | (simp only [itO, Tree.eta']; rfl))); have e3_ : ((setT ((itO f (vM l) i (l.drop 1)).1) (names8.getD (((((vM l).tdiv 48) + (3 * ((i : Nat) : Int))).tmod 8).toNat) (dflt .str)) ((f ((itO f (vM l) i (l.drop 1)).2)).1)).b) = (((itO f (vM l) (i + 1) (l.drop 1)).1).b) := (by first | rfl | (first | omega | rfl | (simp only [itO, Tree.eta']; done) | (simp only [itO, Tree.eta']; rfl))); have e4_ : ((setT ((itO f (vM l) i (l.drop 1)).1) (names8.getD (((((vM l).tdiv 48) + (3 * ((i : Nat) : Int))).tmod 8).toNat) (dflt .str)) ((f ((itO f (vM l) i (l.drop 1)).2)).1)).n.neg) = (((itO f (vM l) (i + 1) (l.drop 1)).1).n.neg) := (by first | rfl | (first | omega | rfl | (simp only [itO, Tree.eta']; done) | (simp only [itO, Tree.eta']; rfl))); have e5_ : ((setT ((itO f (vM l) i (l.drop 1)).1) (names8.getD (((((vM l).tdiv 48) + (3 * ((i : Nat) : Int))).tmod 8).toNat) (dflt .str)) ((f ((itO f (vM l) i (l.drop 1)).2)).1)).n.m) = (((itO f (vM l) (i + 1) (l.drop 1)).1).n.m) := (by first | rfl | (first | omega | rfl | (simp only [itO, Tree.eta']; done) | (simp only [itO, Tree.eta']; rfl))); have e6_ : ((setT ((itO f (vM l) i (l.drop 1)).1) (names8.getD (((((vM l).tdiv 48) + (3 * ((i : Nat) : Int))).tmod 8).toNat) (dflt .str)) ((f ((itO f (vM l) i (l.drop 1)).2)).1)).n.e) = (((itO f (vM l) (i + 1) (l.drop 1)).1).n.e) := (by first | rfl | (first | omega | rfl | (simp only [itO, Tree.eta']; done) | (simp only [itO, Tree.eta']; rfl))); have e7_ : ((setT ((itO f (vM l) i (l.drop 1)).1) (names8.getD (((((vM l).tdiv 48) + (3 * ((i : Nat) : Int))).tmod 8).toNat) (dflt .str)) ((f ((itO f (vM l) i (l.drop 1)).2)).1)).s) = (((itO f (vM l) (i + 1) (l.drop 1)).1).s) := (by first | rfl | (first | omega | rfl | (simp only [itO, Tree.eta']; done) | (simp only [itO, Tree.eta']; rfl))); have e8_ : ((setT ((itO f (vM l) i (l.drop 1)).1) (names8.getD (((((vM l).tdiv 48) + (3 * ((i : Nat) : Int))).tmod 8).toNat) (dflt .str)) ((f ((itO f (vM l) i (l.drop 1)).2)).1)).k) = (((itO f (vM l) (i + 1) (l.drop 1)).1).k) := (by first | rfl | (first | omega | rfl | (simp only [itO, Tree.eta']; done) | (simp only [itO, Tree.eta']; rfl))); have e9_ : ((setT ((itO f (vM l) i (l.drop 1)).1) (names8.getD (((((vM l).tdiv 48) + (3 * ((i : Nat) : Int))).tmod 8).toNat) (dflt .str)) ((f ((itO f (vM l) i (l.drop 1)).2)).1)).v) = (((itO f (vM l) (i + 1) (l.drop 1)).1).v) := (by first | rfl | (first | omega | rfl | (simp only [itO, Tree.eta']; done) | (simp only [itO, Tree.eta']; rfl))); exact (SimL.cast hs (T' := [(0, .row (.int .i64) ((itO f (vM l) (i + 1) (l.drop 1)).2)), (1, vi (d : Int)), (4, .ptr 1000 0), (6, vi (vM l)), (12, .ptr 90000003 0), (13, vi (((i + 1) : Nat) : Int))]) (B' := [(1000, .var [vi 0, vb false, vb false, nilv, vi 0, vs (ba []), nilv, nilv]), (90000003, .var [vi (((itO f (vM l) (i + 1) (l.drop 1)).1).kind), vb (((itO f (vM l) (i + 1) (l.drop 1)).1).b), vb (((itO f (vM l) (i + 1) (l.drop 1)).1).n.neg), .row (.int .u32) (((itO f (vM l) (i + 1) (l.drop 1)).1).n.m), vi (((itO f (vM l) (i + 1) (l.drop 1)).1).n.e), vs (((itO f (vM l) (i + 1) (l.drop 1)).1).s), .row .str (((itO f (vM l) (i + 1) (l.drop 1)).1).k), .row .tree (((itO f (vM l) (i + 1) (l.drop 1)).1).v)])]) (by first | rfl | (rw [e0_, e1_, e2_, e3_, e4_, e5_, e6_, e7_, e8_, e9_]; done) | (simp only [e0_, e1_, e2_, e3_, e4_, e5_, e6_, e7_, e8_, e9_]; done) | (simp only [e0_, e1_, e2_, e3_, e4_, e5_, e6_, e7_, e8_, e9_]; rfl)) (by first | rfl | (rw [e0_, e1_, e2_, e3_, e4_, e5_, e6_, e7_, e8_, e9_]; done) | (simp only [e0_, e1_, e2_, e3_, e4_, e5_, e6_, e7_, e8_, e9_]; done) | (simp only [e0_, e1_, e2_, e3_, e4_, e5_, e6_, e7_, e8_, e9_]; rfl))).ren [(1000, 1000), (90000003, 90000003)] (by kernel_rfl) (by kernel_rfl) (by kernel_rfl))
           ·skip
            have n20 := of_decide_eq_false b20
            refine way_L (tt := tt) (rs := []) (bs := [false]) (tk := [0, 4, 12]) (bk := [1000, 90000003]) (C := (True ∧ True ∧ ((12 : Int) ≠ 0 ∧ InR .i64 ((vM l).tdiv 12)) ∧ ((4 : Int) ≠ 0) ∧ True ∧ True) ∧ ((decide (((i : Nat) : Int) < (((vM l).tdiv 12).tmod 4))) = false) ∧ True) (lv := .exit 3) (T' := [(0, .row (.int .i64) ((itO f (vM l) i (l.drop 1)).2)), (4, .ptr 1000 0), (12, .ptr 90000003 0)]) (B' := [(1000, .var [vi 0, vb false, vb false, nilv, vi 0, vs (ba []), nilv, nilv]), (90000003, .var [vi (((itO f (vM l) i (l.drop 1)).1).kind), vb (((itO f (vM l) i (l.drop 1)).1).b), vb (((itO f (vM l) i (l.drop 1)).1).n.neg), .row (.int .u32) (((itO f (vM l) i (l.drop 1)).1).n.m), vi (((itO f (vM l) i (l.drop 1)).1).n.e), vs (((itO f (vM l) i (l.drop 1)).1).s), .row .str (((itO f (vM l) i (l.drop 1)).1).k), .row .tree (((itO f (vM l) i (l.drop 1)).1).v)])]) mix hI hs ?_ ?_ ?_ ?_
            ·exact trivial
            ·kernel_rfl
            ·exact ⟨⟨trivial, trivial, ⟨by decide, inR64 (by omega) (by omega)⟩, (by decide), trivial, trivial⟩, b20, trivial⟩
            intro a w hs
            refine then_exit ?_
            refine inb_hit ?_
            refine then_norm ?_
            refine way_L (tt := tt) (rs := []) (bs := []) (tk := [4, 5]) (bk := [1000]) (C := (tr 4 True) ∧ True) (lv := .ret) (T' := [(4, .ptr 1000 0), (5, .row (.int .i64) ((itO f (vM l) i (l.drop 1)).2))]) (B' := [(1000, .var [vi (((itO f (vM l) i (l.drop 1)).1).kind), vb (((itO f (vM l) i (l.drop 1)).1).b), vb (((itO f (vM l) i (l.drop 1)).1).n.neg), .row (.int .u32) (((itO f (vM l) i (l.drop 1)).1).n.m), vi (((itO f (vM l) i (l.drop 1)).1).n.e), vs (((itO f (vM l) i (l.drop 1)).1).s), .row .str (((itO f (vM l) i (l.drop 1)).1).k), .row .tree (((itO f (vM l) i (l.drop 1)).1).v)])]) mix hI hs ?_ ?_ ?_ ?_
            ·exact trivial
            ·kernel_rfl
            ·exact ⟨tr_mk trivial 4, trivial⟩
            intro a w hs
            exact FnQ_cast (out := .val (.tup [.agg (encTree ((itO f (vM l) i (l.drop 1)).1)), .row (.int .i64) ((itO f (vM l) i (l.drop 1)).2)])) (by obtain rfl : i = cM (vM l) := (by omega); rw [madeG, if_neg (by omega), madeV, if_neg (by first | omega | exact b5 | (rw [b5]; decide)), if_neg (by first | omega | exact b7 | (rw [b7]; decide)), if_neg (by first | omega | exact b10 | (rw [b10]; decide)), if_neg (by first | omega | exact b12 | (rw [b12]; decide)), if_neg (by first | omega | exact b14 | (rw [b14]; decide)), if_neg (by first | omega | exact b19 | (rw [b19]; decide))]; try rfl) (ret_ok [] hs ⟨by kernel_rfl, rfl⟩)
theorem con54 : ∀ (d : Nat) (hd : d < 1000) (l : List Int), Con Tryz.prog I0 54 [.row (.int .i64) l, vi (d : Int)] (.val (.tup [.agg [vi (((madeF d l).1).kind), vb (((madeF d l).1).b), vb (((madeF d l).1).n.neg), .row (.int .u32) (((madeF d l).1).n.m), vi (((madeF d l).1).n.e), vs (((madeF d l).1).s), .row .str (((madeF d l).1).k), .row .tree (((madeF d l).1).v)], .row (.int .i64) (madeF d l).2]))
  | 0, hd, l => con54_ (fun _ => (nul, [])) 0 hd (fun h => absurd h (Nat.lt_irrefl _)) l
  | d + 1, hd, l => con54_ (madeF d) (d + 1) hd (fun _ l => by rw [show (((d + 1 : Nat) : Int) - 1) = (d : Int) by omega]; exact con54 d (by omega) l) l
def madeT (l : List Int) : Tree := (madeF 4 l).1
set_option maxRecDepth 100000 in
theorem con13 (l : List Int) : Con Tryz.prog I0 13 [.row (.int .i64) l, vi 4] (.val (.agg (encTree (madeT l)))) := by
 refine con_of Tryz.func13 rfl (Nat.le_of_ble_eq_true rfl) stab (fun w0 fz a hI hs => ?_)
 refine way_L (tt := tt) (rs := [(1, ⟨[(2, ciA 54 [.row (.int .i64) l, vi 4] [] [] (.val (.tup [.agg (encTree ((madeF 4 l).1)), .row (.int .i64) ((madeF 4 l).2)])))], [], []⟩)]) (bs := []) (tk := [4]) (bk := [1000]) (C := (True ∧ True) ∧ (True ∧ True ∧ (okArgs [.row (.int .i64) l, vi 4]) ∧ (tr 6 True)) ∧ (True ∧ True ∧ True) ∧ True) (lv := .ret) (T' := [(4, .ptr 1000 0)]) (B' := [(1000, .var [vi (((madeF 4 l).1).kind), vb (((madeF 4 l).1).b), vb (((madeF 4 l).1).n.neg), .row (.int .u32) (((madeF 4 l).1).n.m), vi (((madeF 4 l).1).n.e), vs (((madeF 4 l).1).s), .row .str (((madeF 4 l).1).k), .row .tree (((madeF 4 l).1).v)])]) mix hI hs ?_ ?_ ?_ ?_
 ·exact ⟨⟨⟨ent54, con54 4 (by decide) _⟩, trivial⟩, trivial⟩
 ·kernel_rfl
 ·exact ⟨⟨trivial, trivial⟩, ⟨trivial, trivial, rfl, tr_mk trivial 6⟩, ⟨trivial, trivial, trivial⟩, trivial⟩
 intro a w hs
 exact FnQ_cast (out := .val (.agg (encTree ((madeF 4 l).1)))) (rfl) (ret_ok [] hs ⟨by kernel_rfl, rfl⟩)
end Go.Proofs.YtondpnipoogoiaaGreatDoor.F
namespace Go.Proofs.YtondpnipoogoiaaGreatDoor.F
open Go Go.RowKit
set_option linter.unusedVariables false
set_option linter.unusedSimpArgs false
theorem memB_zero (x : ByteArray) : memB Tree.zero x = false := by
  rw [memB_look]; rfl
theorem getF_zero : ∀ (q : List ByteArray), (getF q Tree.zero).1 = Tree.zero
  | [] => rfl
  | x :: q => by simp only [getF]; rw [if_neg (by rw [memB_zero]; decide)]
theorem getF_cons (x : ByteArray) (q : List ByteArray) (t : Tree) : getF (x :: q) t = if memB t x = true then getF q (memV t x) else (Tree.zero, false) := rfl
theorem getF_miss {q : List ByteArray} {t : Tree} (h : (getF q t).2 = false) : getF q t = (Tree.zero, false) := by
  induction q generalizing t with
  | nil => simp [getF] at h
  | cons x q ih =>
    rw [getF_cons] at h ⊢
    split
    · rename_i hb
      rw [if_pos hb] at h
      exact ih h
    · rfl
theorem memB_set (t : Tree) (x y : ByteArray) (v : Tree) : memB (setT t x v) y = if eqT y x = true then true else memB t y := by
  rw [memB_look, look_setT, memB_look]; split <;> rfl
theorem memV_set (t : Tree) (x y : ByteArray) (v : Tree) : memV (setT t x v) y = if eqT y x = true then v else memV t y := by
  rw [memV_look, look_setT, memV_look]; split <;> rfl
theorem memB_unset_ne {t : Tree} {x y : ByteArray} (h : eqT y x = false) : memB (unsetT t x) y = memB t y := by rw [memB_look, look_unsetT_ne h, memB_look]
theorem memV_unset_ne {t : Tree} {x y : ByteArray} (h : eqT y x = false) : memV (unsetT t x) y = memV t y := by rw [memV_look, look_unsetT_ne h, memV_look]
inductive Inc : List ByteArray → List ByteArray → Prop
  | ne (x y : ByteArray) (p q : List ByteArray) (h : eqT y x = false) : Inc (x :: p) (y :: q)
  | eq (x : ByteArray) (p q : List ByteArray) (h : Inc p q) : Inc (x :: p) (x :: q)
theorem Inc.symm {p q : List ByteArray} (h : Inc p q) : Inc q p := by
  induction h with
  | ne x y p q h => exact .ne y x q p (by rw [eqT_comm]; exact h)
  | eq x p q _ ih => exact .eq x q p ih
theorem get_set_inc {p q : List ByteArray} (h : Inc p q) : ∀ (t v : Tree), getF q (setP p t v) = getF q t := by
  induction h with
  | ne x y p q h =>
    intro t v
    rw [setP, getF_cons, getF_cons, memB_set, memV_set, h]; rfl
  | eq x p q hi ih =>
    intro t v
    rw [setP, getF_cons, getF_cons, memB_set, memV_set, eqT_self]
    simp only [if_true]
    rw [ih]
    cases hb : memB t x with
    | true => simp
    | false =>
      rw [memV_zero hb]
      cases hi with
      | ne a b _ _ _ => simp [getF_cons, memB_zero]
      | eq a _ _ _ => simp [getF_cons, memB_zero]
theorem get_unset_inc {p q : List ByteArray} (h : Inc p q) : ∀ (t : Tree), getF q (unsetP p t) = getF q t := by
  induction h with
  | ne x y p q h =>
    intro t
    cases p with
    | nil => rw [unsetP, getF_cons, getF_cons, memB_unset_ne h, memV_unset_ne h]
    | cons m p =>
      rw [unsetP]
      split
      · rw [getF_cons, getF_cons, memB_set, memV_set, h]; rfl
      · rfl
  | eq x p q hi ih =>
    intro t
    cases p with
    | nil => cases hi
    | cons m p =>
      rw [unsetP]
      split
      · rename_i hb
        rw [getF_cons, getF_cons, memB_set, memV_set, eqT_self, hb]
        simp only [if_true]
        exact ih _
      · rfl
theorem get_set : ∀ (p : List ByteArray) (t v : Tree), getF p (setP p t v) = (v, true)
  | [], t, v => rfl
  | x :: p, t, v => by
    rw [setP, getF_cons, memB_set, memV_set, eqT_self]
    exact get_set p _ v
def ND (t : Tree) : Prop := ∀ q, Nodup (mems (getF q t).1)
theorem nd_zero : ND Tree.zero := fun q => by rw [getF_zero]; exact List.nodup_nil
theorem nd_memV {t : Tree} (h : ND t) (x : ByteArray) : ND (memV t x) := by
  cases hb : memB t x with
  | true => intro q; have := h (x :: q); rw [getF_cons, if_pos hb] at this; exact this
  | false => rw [memV_zero hb]; exact nd_zero
theorem nd_get {v : Tree} (h : ND v) : ∀ (p : List ByteArray), ND (getF p v).1
  | [] => h
  | x :: p => by
    rw [getF_cons]
    split
    · exact nd_get (nd_memV h x) p
    · exact nd_zero
theorem keys_put {x : ByteArray} {v : Tree} : ∀ {l : Mem}, x ∉ l.map (·.1) → Nodup l → Nodup (putA x v l)
  | [], _, _ => by simp [putA, Nodup]
  | (y, u) :: l, hx, h => by
    have h' := h
    unfold Nodup at h
    simp only [List.map_cons, List.mem_cons, not_or] at hx
    simp only [List.map_cons, List.nodup_cons] at h
    simp only [putA]
    split
    · unfold Nodup
      simp only [List.map_cons, List.nodup_cons, List.mem_cons, not_or]
      exact ⟨hx, h⟩
    · unfold Nodup
      simp only [List.map_cons, List.nodup_cons]
      refine ⟨fun hm => ?_, keys_put hx.2 h.2⟩
      have : ∀ l : Mem, y ∈ (putA x v l).map (·.1) → y = x ∨ y ∈ l.map (·.1) := by
        intro l
        induction l with
        | nil => simp [putA]
        | cons p l ih =>
          obtain ⟨z, w⟩ := p
          simp only [putA]
          split
          · simp
          · simp only [List.map_cons, List.mem_cons]
            rintro (h | h)
            · exact .inr (.inl h)
            · rcases ih h with h | h
              · exact .inl h
              · exact .inr (.inr h)
      rcases this l hm with h2 | h2
      · exact hx.1 h2.symm
      · exact h.1 h2
theorem keys_rep (x : ByteArray) (v : Tree) : ∀ l : Mem, (repA x v l).map (·.1) = l.map (·.1)
  | [] => rfl
  | (y, u) :: l => by
    simp only [repA]
    split
    · rfl
    · simp [keys_rep x v l]
theorem look_in {x : ByteArray} : ∀ {l : Mem}, x ∈ l.map (·.1) → (lookA x l).isSome = true
  | [], h => by simp at h
  | (y, u) :: l, h => by
    simp only [lookA]
    split
    · rfl
    · rename_i hne
      simp only [List.map_cons, List.mem_cons] at h
      rcases h with h | h
      · exact absurd (eqT_iff.2 h) hne
      · exact look_in h
theorem nodup_ins {x : ByteArray} {v : Tree} {l : Mem} (h : Nodup l) : Nodup (insA x v l) := by
  unfold insA
  split
  · unfold Nodup; rw [keys_rep]; exact h
  · rename_i hn
    exact keys_put (fun hm => hn (look_in hm)) h
theorem del_sub (x : ByteArray) : ∀ l : Mem, (delA x l).Sublist l
  | [] => List.Sublist.refl _
  | (y, u) :: l => by
    simp only [delA]
    split
    · exact List.sublist_cons_self _ _
    · exact (del_sub x l).cons_cons _
theorem nd_set {t u : Tree} (h : ND t) (hu : ND u) (x : ByteArray) : ND (setT t x u) := by
  intro q
  cases q with
  | nil => show Nodup (mems (setT t x u)); unfold setT; rw [mems_objM]; exact nodup_ins (h [])
  | cons y q =>
    rw [getF_cons, memB_set, memV_set]
    by_cases he : eqT y x = true
    · simp only [he, if_true]; exact hu q
    · simp only [he]
      have := h (y :: q)
      rw [getF_cons] at this
      simpa using this
theorem nd_unset {t : Tree} (h : ND t) (x : ByteArray) : ND (unsetT t x) := by
  intro q
  cases q with
  | nil =>
    show Nodup (mems (unsetT t x))
    unfold unsetT
    split
    · rw [mems_objM]; exact List.Nodup.sublist ((del_sub x _).map _) (h [])
    · exact h []
  | cons y q =>
    rw [getF_cons]
    by_cases he : eqT y x = true
    · rw [eqT_iff] at he
      subst he
      rw [memB_look, look_unsetT_self (t := t) (h [])]
      exact List.nodup_nil
    · have he' : eqT y x = false := by simpa using he
      rw [memB_unset_ne he', memV_unset_ne he']
      have := h (y :: q)
      rwa [getF_cons] at this
theorem nd_setP {v : Tree} (hv : ND v) : ∀ (p : List ByteArray) {t : Tree}, ND t → ND (setP p t v)
  | [], t, h => hv
  | x :: p, t, h => nd_set h (nd_setP hv p (nd_memV h x)) x
theorem nd_unsetP : ∀ (p : List ByteArray) {t : Tree}, ND t → ND (unsetP p t)
  | [], t, h => h
  | [x], t, h => nd_unset h x
  | x :: m :: p, t, h => by
    rw [unsetP]
    split
    · exact nd_set h (nd_unsetP (m :: p) (nd_memV h x)) x
    · exact h
theorem get_unset : ∀ {p : List ByteArray} {t : Tree}, ND t → p ≠ [] → getF p (unsetP p t) = (Tree.zero, false)
  | [], t, _, h => absurd rfl h
  | [x], t, h, _ => by
    rw [unsetP, getF_cons, memB_look, look_unsetT_self (t := t) (h [])]; rfl
  | x :: m :: p, t, h, _ => by
    rw [unsetP]
    split
    · rename_i hb
      rw [getF_cons, memB_set, memV_set, eqT_self]
      exact get_unset (nd_memV h x) (by simp)
    · rename_i hb
      rw [getF_cons, if_neg hb]
theorem nd_step {v t : Tree} (hv : ND v) (ht : ND t) (p : List ByteArray) : ND (apStep v t p) := by
  unfold apStep
  split
  · exact nd_setP (nd_get hv p) p ht
  · exact nd_unsetP p ht
theorem step_inc {p q : List ByteArray} (h : Inc p q) (v t : Tree) : getF q (apStep v t p) = getF q t := by
  unfold apStep
  split
  · exact get_set_inc h _ _
  · exact get_unset_inc h _
theorem step_self {p : List ByteArray} (h : p ≠ []) {v t : Tree} (ht : ND t) : getF p (apStep v t p) = getF p v := by
  unfold apStep
  split
  · rename_i hb
    rw [get_set]
    exact Prod.ext rfl hb.symm
  · rename_i hb
    rw [get_unset ht h, getF_miss (by simpa using hb)]
theorem all_inc {q : List ByteArray} {v : Tree} : ∀ (s : List (List ByteArray)) (t : Tree), (∀ p ∈ s, Inc p q) → getF q (apAll t s v) = getF q t
  | [], t, _ => rfl
  | p :: s, t, h => by
    show getF q (apAll (apStep v t p) s v) = _
    rw [all_inc s _ (fun p hp => h p (by simp [hp])), step_inc (h p (by simp))]
theorem all_get {v : Tree} (hv : ND v) : ∀ (s : List (List ByteArray)) (t : Tree), ND t → s.Pairwise Inc → (∀ p ∈ s, p ≠ []) → ∀ p ∈ s, getF p (apAll t s v) = getF p v
  | [], t, _, _, _, p, h => by simp at h
  | q :: s, t, ht, hp, hn, p, h => by
    rw [List.pairwise_cons] at hp
    show getF p (apAll (apStep v t q) s v) = _
    rcases List.mem_cons.1 h with rfl | h
    · rw [all_inc s _ (fun p' hp' => (hp.1 p' hp').symm), step_self (hn _ (by simp)) ht]
    · exact all_get hv s _ (nd_step hv ht q) hp.2 (fun p hp => hn p (by simp [hp])) p h
end Go.Proofs.YtondpnipoogoiaaGreatDoor.F
namespace Go.Proofs.YtondpnipoogoiaaGreatDoor.F
open Go Go.RowKit
set_option linter.unusedVariables false
set_option linter.unusedSimpArgs false
theorem starts_iff {a b : List ByteArray} : startsF a b = true ↔ a <+: b := by
  unfold startsF
  rw [Bool.and_eq_true, decide_eq_true_iff, decide_eq_true_iff, List.prefix_iff_eq_take]
  exact ⟨fun h => h.2, fun h => ⟨by have := congrArg List.length h; rw [List.length_take] at this; omega, h⟩⟩
theorem starts_nil (b : List ByteArray) : startsF [] b = true := starts_iff.2 (List.nil_prefix)
theorem starts_self (b : List ByteArray) : startsF b b = true := starts_iff.2 (List.prefix_refl _)
theorem starts_cons {x y : ByteArray} {p q : List ByteArray} : startsF (x :: p) (y :: q) = true ↔ x = y ∧ startsF p q = true := by
  rw [starts_iff, starts_iff, List.cons_prefix_cons]
theorem inc_of : ∀ {p q : List ByteArray}, startsF p q = false → startsF q p = false → Inc p q
  | [], q, h, _ => by rw [starts_nil] at h; cases h
  | _ :: _, [], _, h => by rw [starts_nil] at h; cases h
  | x :: p, y :: q, h1, h2 => by
    cases he : eqT y x with
    | false => exact .ne x y p q he
    | true =>
      rw [eqT_iff] at he
      subst he
      refine .eq _ p q (inc_of ?_ ?_)
      · cases h : startsF p q with
        | false => rfl
        | true => rw [starts_cons.2 ⟨rfl, h⟩] at h1; cases h1
      · cases h : startsF q p with
        | false => rfl
        | true => rw [starts_cons.2 ⟨rfl, h⟩] at h2; cases h2
theorem Inc.no {p q : List ByteArray} (h : Inc p q) : startsF p q = false := by
  induction h with
  | ne x y p q h =>
    cases hs : startsF (x :: p) (y :: q) with
    | false => rfl
    | true =>
      have := (starts_cons.1 hs).1
      subst this
      rw [eqT_self] at h; cases h
  | eq x p q _ ih =>
    cases hs : startsF (x :: p) (x :: q) with
    | false => rfl
    | true => rw [(starts_cons.1 hs).2] at ih; cases ih
abbrev Le (a b : List ByteArray) : Prop := ¬ cmpS b a < 0
theorem Le.trans {a b c : List ByteArray} (h1 : Le a b) (h2 : Le b c) : Le a c := cmpS_le_trans h2 h1
theorem Le.refl (a : List ByteArray) : Le a a := by unfold Le; rw [cmpS_self]; decide
theorem pre_between : ∀ {x y z : List ByteArray}, startsF x z = true → Le x y → Le y z → startsF x y = true
  | [], y, z, _, _, _ => starts_nil y
  | a :: x, y, [], h, _, _ => by
    have := starts_iff.1 h
    simp at this
  | a :: x, [], b :: z, h, h1, _ => absurd (by simp [cmpS]) h1
  | a :: x, c :: y, b :: z, h, h1, h2 => by
    obtain ⟨rfl, h0⟩ := starts_cons.1 h
    unfold Le at h1 h2
    rw [cmpS] at h1 h2
    rcases ltB_tri a c with h3 | rfl | h3
    · rw [cmpB_of_lt h3, if_neg (by decide)] at h2; exact absurd (by decide) h2
    · rw [cmpB_self, if_pos rfl] at h1 h2
      exact starts_cons.2 ⟨rfl, pre_between h0 h1 h2⟩
    · rw [cmpB_of_lt h3, if_neg (by decide)] at h1; exact absurd (by decide) h1
theorem pre_le : ∀ {x y : List ByteArray}, startsF x y = true → Le x y
  | [], [], _ => Le.refl _
  | [], _ :: _, _ => by unfold Le; simp [cmpS]
  | _ :: _, [], h => by have := starts_iff.1 h; simp at this
  | a :: x, b :: y, h => by
    obtain ⟨rfl, h0⟩ := starts_cons.1 h
    unfold Le
    rw [cmpS, cmpB_self, if_pos rfl]
    exact pre_le h0
theorem step_nil (p : List ByteArray) : normStep [] p = [p] := rfl
theorem step_snoc (i : List (List ByteArray)) (o p : List ByteArray) : normStep (i ++ [o]) p = if startsF o p = true then i ++ [o] else i ++ [o] ++ [p] := by
  have e : (i ++ [o]).getD (((i ++ [o]).length : Int) - 1).toNat (dflt .strs) = o := by
    rw [show (((i ++ [o]).length : Int) - 1).toNat = i.length by simp]
    simp [List.getD]
  unfold normStep
  rw [e, if_pos (by rw [decide_eq_true_iff]; simp)]
theorem fold_inc : ∀ (s i : List (List ByteArray)) (o : List ByteArray), (i ++ [o]).Pairwise Inc → (∀ x ∈ i, Le x o) → (∀ p ∈ s, Le o p) → s.Pairwise Le → (s.foldl normStep (i ++ [o])).Pairwise Inc
  | [], i, o, h, _, _, _ => h
  | p :: s, i, o, h, hi, ho, hs => by
    rw [List.pairwise_cons] at hs
    rw [List.foldl_cons, step_snoc]
    have hop := ho p (by simp)
    split
    · exact fold_inc s i o h hi (fun q hq => ho q (by simp [hq])) hs.2
    · rename_i hn
      have hn' : startsF o p = false := by simpa using hn
      have hle : ∀ x ∈ i ++ [o], Le x p := fun x hx => by
        rcases List.mem_append.1 hx with hx | hx
        · exact (hi x hx).trans hop
        · simp at hx; subst hx; exact hop
      refine fold_inc s (i ++ [o]) p ?_ hle hs.1 hs.2
      rw [List.pairwise_append]
      refine ⟨h, List.pairwise_singleton _ _, fun x hx y hy => ?_⟩
      simp at hy
      subst hy
      have h1 : startsF x y = false := by
        cases hxp : startsF x y with
        | false => rfl
        | true =>
          exfalso
          rcases List.mem_append.1 hx with hx | hx
          · have h2 := pre_between hxp (hi x hx) hop
            rw [List.pairwise_append] at h
            rw [(h.2.2 x hx o (by simp)).no] at h2; cases h2
          · simp at hx; subst hx
            rw [hxp] at hn'; cases hn'
      refine inc_of h1 ?_
      cases h2 : startsF y x with
      | false => rfl
      | true =>
        have := cmpS_anti (xs := y) (ys := x) (hle x hx) (pre_le h2)
        subst this
        rw [starts_self] at h1; cases h1
theorem sortP_le (l : List (List ByteArray)) : (sortP l).Pairwise Le := by
  have h := List.pairwise_mergeSort (le := fun x y : List ByteArray => !decide (cmpS y x < 0)) (fun a b c h1 h2 => by
    simp only [Bool.not_eq_true', decide_eq_false_iff_not] at *; exact cmpS_le_trans h2 h1) (fun a b => by
    by_cases h : cmpS b a < 0
    · have h2 : ¬ cmpS a b < 0 := fun h3 => by have := cmpS_trans h h3; rw [cmpS_self] at this; exact absurd this (by decide)
      simp [h2]
    · simp [h]) l
  exact h.imp (fun h => by unfold Le; simpa using h)
theorem normF_inc (l : List (List ByteArray)) : (normF l).Pairwise Inc := by
  unfold normF
  have h := sortP_le l
  cases hs : sortP l with
  | nil => exact List.Pairwise.nil
  | cons p s =>
    rw [hs, List.pairwise_cons] at h
    rw [List.foldl_cons, step_nil]
    exact fold_inc s [] p (List.pairwise_singleton _ _) (fun x hx => by simp at hx) h.1 h.2
end Go.Proofs.YtondpnipoogoiaaGreatDoor.F
namespace Go.Proofs.YtondpnipoogoiaaGreatDoor.F
open Go Go.RowKit
set_option linter.unusedVariables false
set_option linter.unusedSimpArgs false
structure OneOk (t : Tree) : Prop where
  own : ownO t = true
  bulk : bulk t ≤ 10
  ok : Ok t.n.m
  len : t.n.m.length ≤ 3
  k : t.k.length ≤ 3
  nd : Nodup (mems t)
  sorted : ((mems t).map (·.1)).Pairwise ltB
  texts : ∀ p ∈ mems t, textOk p.1 = true
def GoodT : Nat → Tree → Prop
  | 0, _ => False
  | d + 1, t => OneOk t ∧ t.v.length ≤ 3 ∧ ∀ u ∈ t.v, GoodT d u
theorem good_fine : ∀ {d : Nat} {t : Tree}, GoodT d t → fineT t
  | 0, _, h => h.elim
  | d + 1, t, ⟨h1, h2, h3⟩ => by
    have hl : ∀ l : List Tree, (∀ u ∈ l, fineT u) → fineL l := by
      intro l
      induction l with
      | nil => intro _; trivial
      | cons x l ih => exact fun h => ⟨h x (by simp), ih (fun u hu => h u (by simp [hu]))⟩
    rw [fine_eq]
    exact ⟨⟨h1.ok, by have := h1.len; omega, by have := h1.k; omega, by omega⟩, hl _ (fun u hu => good_fine (h3 u hu))⟩
theorem nodesL_B {B : Nat} : ∀ {l : List Tree}, (∀ u ∈ l, nodes u ≤ B) → nodesL l ≤ l.length * B
  | [], _ => by simp [nodesL]
  | x :: l, h => by
    have h1 := h x (by simp)
    have h2 := nodesL_B (l := l) (fun u hu => h u (by simp [hu]))
    simp only [nodesL, List.length_cons, Nat.succ_mul]; omega
def mostN : Nat → Nat
  | 0 => 0
  | d + 1 => 1 + 3 * mostN d
theorem good_nodes : ∀ {d : Nat} {t : Tree}, GoodT d t → nodes t ≤ mostN d
  | 0, _, h => h.elim
  | d + 1, t, ⟨h1, h2, h3⟩ => by
    have h := nodesL_B (fun u hu => good_nodes (h3 u hu))
    have h4 := nodes_eq t
    have h5 : t.v.length * mostN d ≤ 3 * mostN d := Nat.mul_le_mul_right _ h2
    simp only [mostN]; omega
theorem weightL_N : ∀ {l : List Tree}, (∀ u ∈ l, weight u ≤ 10 * nodes u) → weightL l ≤ 10 * nodesL l
  | [], _ => by simp [weightL]
  | x :: l, h => by
    have h1 := h x (by simp)
    have h2 := weightL_N (l := l) (fun u hu => h u (by simp [hu]))
    simp only [weightL, nodesL]; omega
theorem good_weight : ∀ {d : Nat} {t : Tree}, GoodT d t → weight t ≤ 10 * nodes t
  | 0, _, h => h.elim
  | d + 1, t, ⟨h1, h2, h3⟩ => by
    have h := weightL_N (fun u hu => good_weight (h3 u hu))
    have h4 := nodes_eq t
    have h5 := weight_eq t
    have h6 := h1.bulk; omega
theorem chk_good : ∀ {d : Nat} {t : Tree} {e l : Int}, GoodT d t → e + d ≤ 65 → (nodes t : Int) ≤ l → (chk t e l).1 = true ∧ (chk t e l).2 = l - nodes t
  | 0, _, _, _, h, _, _ => h.elim
  | d + 1, t, e, l, ⟨h1, h2, h3⟩, he, hl => by
    have hn := nodes_eq t
    have key : ∀ (v : List Tree) (l : Int), (∀ u ∈ v, GoodT d u) → (nodesL v : Int) ≤ l → (chkL v (e + 1) l).1 = true ∧ (chkL v (e + 1) l).2 = l - nodesL v := by
      intro v
      induction v with
      | nil => intro l _ _; simp [chkL, nodesL]
      | cons x v ih =>
        intro l hv hl
        simp only [nodesL] at hl
        have hx := chk_good (e := e + 1) (l := l) (hv x (by simp)) (by omega) (by omega)
        simp only [chkL]
        rw [if_pos hx.1, hx.2]
        have := ih (l - nodes x) (fun u hu => hv u (by simp [hu])) (by omega)
        simp only [nodesL]
        exact ⟨this.1, by rw [this.2]; omega⟩
    rw [chk_eq, if_neg (by
      rintro (h | h | h)
      · omega
      · omega
      · rw [h1.own] at h; cases h)]
    have := key t.v (l - 1) h3 (by omega)
    exact ⟨this.1, by rw [this.2]; omega⟩
theorem good_valid {d : Nat} {t : Tree} (h : GoodT d t) (hd : d ≤ 5) : validT t = true := by
  have hn := good_nodes h
  have hm : mostN d ≤ 121 := by
    have : ∀ d, d ≤ 5 → mostN d ≤ 121 := by decide
    exact this d hd
  exact (chk_good h (by omega) (by omega)).1
theorem mem_cutV {t : Tree} {x : ByteArray} (h : memB t x = true) : memV t x ∈ t.v := by
  have h0 : idxT x (cutK t) ≥ 0 := of_decide_eq_true h
  have h1 := idxT_in x (cutK t)
  have h2 := cut_len t
  rw [(memV_pos h0).1]
  have h3 : (idxT x (cutK t)).toNat < (cutV t).length := by omega
  refine cutV_sub ?_
  rw [List.getD_eq_getElem?_getD, List.getElem?_eq_getElem h3]
  exact List.getElem_mem h3
theorem good_nd : ∀ {d : Nat} {t : Tree}, GoodT d t → ND t := by
  intro d t h q
  induction q generalizing d t with
  | nil => cases d with
    | zero => exact h.elim
    | succ d => exact h.1.nd
  | cons x q ih =>
    rw [getF_cons]
    split
    · rename_i hb
      cases d with
      | zero => exact h.elim
      | succ d => exact ih (h.2.2 _ (mem_cutV hb))
    · exact List.nodup_nil
theorem leaf {d : Nat} {t : Tree} (h : OneOk t) (hv : t.v = []) : GoodT (d + 1) t := ⟨h, by rw [hv]; decide, fun u hu => by rw [hv] at hu; simp at hu⟩
theorem nd_leaf {t : Tree} (h : t.v = []) : Nodup (mems t) := by
  have : (mems t).length = 0 := by
    have h1 : ((mems t).map (·.2)).length = (cutV t).length := by rw [mems_v]
    rw [List.length_map] at h1
    rw [h1]; unfold cutV
    split
    · rw [h, List.take_nil]; rfl
    · rfl
  rw [List.eq_nil_of_length_eq_zero this]; exact List.nodup_nil
theorem no_mems {t : Tree} (h : t.v = []) : mems t = [] := by
  have : (mems t).length = 0 := by
    have h1 : ((mems t).map (·.2)).length = (cutV t).length := by rw [mems_v]
    rw [List.length_map] at h1
    rw [h1]; unfold cutV
    split
    · rw [h, List.take_nil]; rfl
    · rfl
  exact List.eq_nil_of_length_eq_zero this
theorem so_leaf {t : Tree} (h : t.v = []) : ((mems t).map (·.1)).Pairwise ltB := by rw [no_mems h]; exact List.Pairwise.nil
theorem te_leaf {t : Tree} (h : t.v = []) : ∀ p ∈ mems t, textOk p.1 = true := by rw [no_mems h]; intro p hp; simp at hp
theorem one_nul : OneOk nul := ⟨by kernel_rfl, by decide, Ok.nil, Nat.zero_le _, Nat.zero_le _, nd_leaf rfl, so_leaf rfl, te_leaf rfl⟩
theorem one_bool (b : Bool) : OneOk (.mk 2 b ⟨false, [], 0⟩ (ba []) [] []) := ⟨by cases b <;> kernel_rfl, by cases b <;> decide, Ok.nil, Nat.zero_le _, Nat.zero_le _, nd_leaf rfl, so_leaf rfl, te_leaf rfl⟩
theorem one_num {n : Num} (h : FineN n) : OneOk (.mk 3 false n (ba []) [] []) := by
  refine ⟨?_, ?_, h.ok, h.len, Nat.zero_le _, nd_leaf rfl, so_leaf rfl, te_leaf rfl⟩
  · simp [ownO, truthO, numO, textO, keysO, itemsO, Tree.kind, Tree.b, Tree.n, Tree.s, Tree.k, Tree.v, h.check]
  · have := h.len
    rw [bulk_3 rfl]; show 1 + n.m.length ≤ 10; omega
theorem one_text {s : ByteArray} (h : textOk s = true) (h2 : s.size ≤ 9) : OneOk (.mk 4 false ⟨false, [], 0⟩ s [] []) := by
  refine ⟨?_, ?_, Ok.nil, Nat.zero_le _, Nat.zero_le _, nd_leaf rfl, so_leaf rfl, te_leaf rfl⟩
  · simp [ownO, truthO, numO, ownN, textO, keysO, itemsO, Tree.kind, Tree.b, Tree.n, Tree.s, Tree.k, Tree.v, h]
  · rw [bulk_4 rfl]; show 1 + s.size ≤ 10; omega
theorem one_bytes {s : ByteArray} (h2 : s.size ≤ 9) : OneOk (.mk 5 false ⟨false, [], 0⟩ s [] []) := by
  refine ⟨?_, ?_, Ok.nil, Nat.zero_le _, Nat.zero_le _, nd_leaf rfl, so_leaf rfl, te_leaf rfl⟩
  · simp [ownO, truthO, numO, ownN, textO, keysO, itemsO, Tree.kind, Tree.b, Tree.n, Tree.s, Tree.k, Tree.v]; exact decide_eq_true (by omega)
  · rw [bulk_5 rfl]; show 1 + s.size ≤ 10; omega
theorem one_arr {v : List Tree} (h : v.length ≤ 3) : OneOk (.mk 6 false ⟨false, [], 0⟩ (ba []) [] v) := by
  have hm : mems (.mk 6 false ⟨false, [], 0⟩ (ba []) [] v) = [] := mems_none (by show ¬ (6 : Int) = 7; decide)
  refine ⟨?_, (by rw [bulk_0 (by show ¬ (6 : Int) = 3; decide) (by show ¬ (6 : Int) = 4; decide) (by show ¬ (6 : Int) = 5; decide)]; decide), Ok.nil, Nat.zero_le _, Nat.zero_le _, ?_, by rw [hm]; exact List.Pairwise.nil, by rw [hm]; intro p hp; simp at hp⟩
  · simp [ownO, truthO, numO, ownN, textO, keysO, itemsO, Tree.kind, Tree.b, Tree.n, Tree.s, Tree.k, Tree.v]; exact decide_eq_true (by omega)
  · rw [mems_none (by show ¬ (6 : Int) = 7; decide)]; exact List.nodup_nil
theorem txtM_ok {v : Int} (h : VF v) : textOk (txtM v) = true ∧ (txtM v).size ≤ 9 := by
  have h9 := h.m9
  unfold txtM
  generalize hx : ((v.tdiv 12).tmod 9).toNat * 1 = n
  have hn : n < 9 := by omega
  clear hx
  revert hn; revert n; decide +kernel
theorem bytM_ok {v : Int} (h : VF v) : (bytM v).size ≤ 9 := by
  have h5 := h.m5
  unfold bytM
  generalize hx : ((v.tdiv 12).tmod 5).toNat = n
  have hn : n < 5 := by omega
  clear hx
  revert hn; revert n; decide +kernel
theorem nmM_ok {v : Int} (h : VF v) (i : Nat) : textOk (nmM v i) = true := by
  have h8 := nm8 h i
  unfold nmM
  generalize hx : (((v.tdiv 48) + 3 * ((i : Nat) : Int)).tmod 8).toNat = n
  have hn : n < 8 := by omega
  clear hx
  revert hn; revert n; decide +kernel
theorem gtB_iff {a b : ByteArray} : gtB a b = true ↔ ltB b a := by
  unfold gtB
  rcases ltB_tri a b with h | h | h
  · rw [ltB_less.2 h]; simp; exact fun h2 => ltB_irrefl _ (ltB_trans h h2)
  · subst h; simp [ltB_irrefl]
  · have h1 : Op.bytesLess a.toList b.toList = false := by
      cases hb : Op.bytesLess a.toList b.toList with
      | false => rfl
      | true => exact absurd (ltB_trans h (ltB_less.1 hb)) (ltB_irrefl _)
    have h2 : (a.toList == b.toList) = false := by
      cases hb : a.toList == b.toList with
      | false => rfl
      | true => have := toList_inj (eq_of_beq hb); subst this; exact absurd h (ltB_irrefl _)
    rw [h1, h2]; simp [h]
theorem put_mem {x : ByteArray} {v : Tree} {p : ByteArray × Tree} : ∀ {l : Mem}, p ∈ putA x v l → p = (x, v) ∨ p ∈ l
  | [], h => by simp [putA] at h; exact .inl h
  | (y, u) :: l, h => by
    simp only [putA] at h
    split at h
    · rcases List.mem_cons.1 h with h | h
      · exact .inl h
      · exact .inr h
    · rcases List.mem_cons.1 h with h | h
      · exact .inr (by simp [h])
      · rcases put_mem h with h | h
        · exact .inl h
        · exact .inr (by simp [h])
theorem rep_mem {x : ByteArray} {v : Tree} {p : ByteArray × Tree} : ∀ {l : Mem}, p ∈ repA x v l → p = (x, v) ∨ p ∈ l
  | [], h => by simp [repA] at h
  | (y, u) :: l, h => by
    simp only [repA] at h
    split at h
    · rename_i he
      rw [eqT_iff] at he
      subst he
      rcases List.mem_cons.1 h with h | h
      · exact .inl h
      · exact .inr (by simp [h])
    · rcases List.mem_cons.1 h with h | h
      · exact .inr (by simp [h])
      · rcases rep_mem h with h | h
        · exact .inl h
        · exact .inr (by simp [h])
theorem ins_mem {x : ByteArray} {v : Tree} {p : ByteArray × Tree} {l : Mem} (h : p ∈ insA x v l) : p = (x, v) ∨ p ∈ l := by
  unfold insA at h
  split at h
  · exact rep_mem h
  · exact put_mem h
theorem put_sorted {x : ByteArray} {v : Tree} : ∀ {l : Mem}, x ∉ l.map (·.1) → (l.map (·.1)).Pairwise ltB → ((putA x v l).map (·.1)).Pairwise ltB
  | [], _, _ => by simp [putA]
  | (y, u) :: l, hx, h => by
    have hall := h
    simp only [List.map_cons, List.mem_cons, not_or] at hx
    rw [List.map_cons, List.pairwise_cons] at h
    simp only [putA]
    split
    · rename_i hg
      rw [gtB_iff] at hg
      rw [List.map_cons, List.pairwise_cons]
      refine ⟨fun z hz => ?_, hall⟩
      rw [List.map_cons, List.mem_cons] at hz
      rcases hz with rfl | hz
      · exact hg
      · exact ltB_trans hg (h.1 z hz)
    · rename_i hg
      rw [List.map_cons, List.pairwise_cons]
      refine ⟨fun z hz => ?_, put_sorted hx.2 h.2⟩
      obtain ⟨p, hp, rfl⟩ := List.mem_map.1 hz
      rcases put_mem hp with rfl | hp
      · rcases ltB_tri y x with h3 | h3 | h3
        · exact h3
        · exact absurd h3.symm hx.1
        · exact absurd (gtB_iff.2 h3) hg
      · exact h.1 _ (List.mem_map.2 ⟨p, hp, rfl⟩)
theorem ins_sorted {x : ByteArray} {v : Tree} {l : Mem} (h : (l.map (·.1)).Pairwise ltB) : ((insA x v l).map (·.1)).Pairwise ltB := by
  unfold insA
  split
  · rw [keys_rep]; exact h
  · rename_i hn
    exact put_sorted (fun hm => hn (look_in hm)) h
theorem names_ok {l : List ByteArray} (h1 : ∀ x ∈ l, textOk x = true) (h2 : l.Pairwise ltB) (h3 : l.length ≤ 300) : namesOk l = true := by
  unfold namesOk
  rw [decide_eq_true (by omega), Bool.and_true]
  refine all_yes' (fun j hj => ?_)
  unfold nmOk
  have e : ∀ i (hi : i < l.length), l.getD i (dflt .str) = l[i] := fun i hi => by rw [List.getD_eq_getElem?_getD, List.getElem?_eq_getElem hi]; rfl
  rw [e j hj, h1 _ (List.getElem_mem hj), Bool.true_and]
  cases j with
  | zero => rfl
  | succ j =>
    rw [show ((((j + 1 : Nat) : Int)) - 1).toNat = j by omega, e j (by omega), ltB_less.2 (List.pairwise_iff_getElem.1 h2 j (j + 1) (by omega) hj (by omega)), Bool.or_true]
theorem nodup_sorted {l : List ByteArray} (h : l.Pairwise ltB) : l.Nodup := h.imp (fun h e => by subst e; exact ltB_irrefl _ h)
theorem own_obj {L : Mem} (hl : L.length ≤ 300) (hs : (L.map (·.1)).Pairwise ltB) (ht : ∀ p ∈ L, textOk p.1 = true) : ownO (objM L) = true := by
  have hn : namesOk (L.map (·.1)) = true := names_ok (fun x hx => by obtain ⟨p, hp, rfl⟩ := List.mem_map.1 hx; exact ht p hp) hs (by rw [List.length_map]; omega)
  simp [ownO, truthO, numO, ownN, textO, keysO, itemsO, objM, Tree.kind, Tree.b, Tree.n, Tree.s, Tree.k, Tree.v, hn]; omega
theorem one_obj {L : Mem} (hl : L.length ≤ 3) (hs : (L.map (·.1)).Pairwise ltB) (ht : ∀ p ∈ L, textOk p.1 = true) : OneOk (objM L) := by
  have hn : namesOk (L.map (·.1)) = true := names_ok (fun x hx => by obtain ⟨p, hp, rfl⟩ := List.mem_map.1 hx; exact ht p hp) hs (by rw [List.length_map]; omega)
  refine ⟨?_, ?_, Ok.nil, Nat.zero_le _, by show (L.map (·.1)).length ≤ 3; rw [List.length_map]; exact hl, by unfold Nodup; rw [mems_objM]; exact nodup_sorted hs, by rw [mems_objM]; exact hs, by rw [mems_objM]; exact ht⟩
  · simp [ownO, truthO, numO, ownN, textO, keysO, itemsO, objM, Tree.kind, Tree.b, Tree.n, Tree.s, Tree.k, Tree.v, hn]; omega
  · rw [bulk_0 (by show ¬ (7 : Int) = 3; decide) (by show ¬ (7 : Int) = 4; decide) (by show ¬ (7 : Int) = 5; decide)]; decide
theorem itO_good {f : List Int → Tree × List Int} {v : Int} {d : Nat} (hv : VF v) (hf : ∀ l, GoodT d (f l).1) : ∀ (n : Nat) (l : List Int), ∃ L : Mem, (itO f v n l).1 = objM L ∧ L.length ≤ n ∧ (L.map (·.1)).Pairwise ltB ∧ (∀ p ∈ L, textOk p.1 = true ∧ GoodT d p.2)
  | 0, l => ⟨[], rfl, Nat.le_refl _, List.Pairwise.nil, fun p hp => by simp at hp⟩
  | n + 1, l => by
    obtain ⟨L, h1, h2, h3, h4⟩ := itO_good hv hf n l
    refine ⟨insA (nmM v n) (f (itO f v n l).2).1 L, ?_, ?_, ins_sorted h3, fun p hp => ?_⟩
    · show setT (itO f v n l).1 _ _ = _
      unfold setT; rw [h1, mems_objM]
    · have := keys_ins (nmM v n) (f (itO f v n l).2).1 L; omega
    · rcases ins_mem hp with rfl | hp
      · exact ⟨nmM_ok hv n, hf _⟩
      · exact h4 p hp
theorem itA_good {f : List Int → Tree × List Int} {d : Nat} (hf : ∀ l, GoodT d (f l).1) : ∀ (n : Nat) (l : List Int), ∀ u ∈ (itA f n l).1, GoodT d u
  | 0, l, u, h => by simp [itA] at h
  | n + 1, l, u, h => by
    simp only [itA, List.mem_append, List.mem_singleton] at h
    rcases h with h | rfl
    · exact itA_good hf n l u h
    · exact hf _
theorem good_G {f : List Int → Tree × List Int} {d : Nat} (hf : 0 < d → ∀ l, GoodT d (f l).1) (l : List Int) : GoodT (d + 1) (madeG f d l).1 := by
  unfold madeG
  split
  · exact leaf one_nul rfl
  · have hv := vF_ok (vM_in l)
    have hc := hv.c.2
    generalize vM l = v at hv hc
    unfold madeV
    split
    · exact leaf one_nul rfl
    · split
      · exact leaf (one_bool _) rfl
      · split
        · exact leaf (one_num (fineN_number _)) rfl
        · split
          · exact leaf (one_text (txtM_ok hv).1 (txtM_ok hv).2) rfl
          · split
            · exact leaf (one_bytes (bytM_ok hv)) rfl
            · split
              · rename_i ha
                have h0 := dM_a hv d ha
                have hlen : (itA f (cM v) (l.drop 1)).1.length ≤ 3 := by rw [itA_len]; omega
                exact ⟨one_arr hlen, hlen, itA_good (hf h0) _ _⟩
              · rename_i h0 h1 h2 h4 h5 h6
                have hd := dM_o hv d h0 h1 (by simpa using h2) h4 h5
                obtain ⟨L, e1, e2, e3, e4⟩ := itO_good hv (hf hd) (cM v) (l.drop 1)
                rw [e1]
                refine ⟨one_obj (by omega) e3 (fun p hp => (e4 p hp).1), ?_, fun u hu => ?_⟩
                · show (L.map (·.2)).length ≤ 3; rw [List.length_map]; omega
                · obtain ⟨p, hp, rfl⟩ := List.mem_map.1 (show u ∈ L.map (·.2) from hu)
                  exact (e4 p hp).2
theorem good_made : ∀ (d : Nat) (l : List Int), GoodT (d + 1) (madeF d l).1
  | 0, l => good_G (f := fun _ => (nul, [])) (d := 0) (fun h => absurd h (Nat.lt_irrefl _)) l
  | d + 1, l => good_G (f := madeF d) (d := d + 1) (fun _ l => good_made d l) l
theorem good_madeT (l : List Int) : GoodT 5 (madeT l) := good_made 4 l
end Go.Proofs.YtondpnipoogoiaaGreatDoor.F
namespace Go.Proofs.YtondpnipoogoiaaGreatDoor.F
open Go Go.RowKit Go.Proofs.Tryz
set_option linter.unusedVariables false
set_option linter.unusedSimpArgs false
def manyF (s : ByteArray) : Nat → ByteArray
  | 0 => s
  | i + 1 => manyF s i ++ ba [44, 97]
def wrongs (s : ByteArray) : List ByteArray := [ba [44] ++ s, s ++ ba [44], s ++ ba [46], ba [46] ++ s, s ++ ba [44, 49, 97], s ++ ba [32], manyF s 60]
structure Fine (p : List (List ByteArray)) (n : Int) : Prop where
  smalls : (∀ x ∈ p, smalls x) ∧ p.length < 4294967281 ∧ ∀ x ∈ p, x.length < 4294967296
  size : (textF p).size ≤ 7563840
  some : ((textF p).toList == (ba []).toList) = false
  back : parseF (textF p) = (p, 0)
  none1 : ((parseF ((wrongs (textF p)).getD (n.toNat * 1) ⟨#[]⟩)).1.length : Int) = 0
  none2 : (parseF ((wrongs (textF p)).getD (n.toNat * 1) ⟨#[]⟩)).2 = if n = 6 then 4 else 2
end Go.Proofs.YtondpnipoogoiaaGreatDoor.F
namespace Go.Proofs.YtondpnipoogoiaaGreatDoor.F
open Go Go.RowKit
set_option linter.unusedVariables false
set_option linter.unusedSimpArgs false
def spl (c : UInt8) : List UInt8 → List (List UInt8)
  | [] => [[]]
  | b :: l => if b = c then [] :: spl c l else match spl c l with
    | [] => [[b]]
    | h :: t => (b :: h) :: t
theorem spl_ne (c : UInt8) : ∀ l, spl c l ≠ []
  | [] => by simp [spl]
  | b :: l => by
    unfold spl
    split
    · simp
    · split <;> simp
theorem spl_eq (c : UInt8) : ∀ (x y : List UInt8), spl c (x ++ c :: y) = spl c x ++ spl c y
  | [], y => by simp [spl]
  | b :: x, y => by
    have ih := spl_eq c x y
    simp only [List.cons_append, spl]
    by_cases h : b = c
    · rw [if_pos h, if_pos h, ih]; rfl
    · rw [if_neg h, if_neg h, ih]
      cases hs : spl c x with
      | nil => exact absurd hs (spl_ne c x)
      | cons p q => rfl
theorem spl_free {c : UInt8} : ∀ {x : List UInt8}, c ∉ x → spl c x = [x]
  | [], _ => rfl
  | b :: x, h => by
    simp only [List.mem_cons, not_or] at h
    simp only [spl]
    rw [if_neg (fun e => h.1 e.symm), spl_free h.2]
theorem spl_end {c : UInt8} {y : List UInt8} (hy : c ∉ y) : ∀ X : List UInt8, ∃ z, z ++ y ∈ spl c (X ++ y)
  | [] => ⟨[], by simp [spl_free hy]⟩
  | b :: X => by
    obtain ⟨z, hz⟩ := spl_end hy X
    simp only [List.cons_append, spl]
    by_cases h : b = c
    · rw [if_pos h]; exact ⟨z, List.mem_cons_of_mem _ hz⟩
    · rw [if_neg h]
      cases hs : spl c (X ++ y) with
      | nil => exact absurd hs (spl_ne _ _)
      | cons p q =>
        rw [hs] at hz
        rcases List.mem_cons.1 hz with e | hz
        · exact ⟨b :: z, by rw [← e]; simp⟩
        · exact ⟨z, List.mem_cons_of_mem _ hz⟩
theorem spl_begin {c b : UInt8} (h : b ≠ c) (X : List UInt8) : ∃ z, b :: z ∈ spl c (b :: X) := by
  simp only [spl]
  rw [if_neg h]
  cases hs : spl c X with
  | nil => exact absurd hs (spl_ne _ _)
  | cons p q => exact ⟨p, List.mem_cons_self ..⟩
def jt (c : UInt8) (r : List (List UInt8)) : List UInt8 := (r.map (c :: ·)).flatten
def jn (c : UInt8) : List (List UInt8) → List UInt8
  | [] => []
  | x :: r => x ++ jt c r
theorem jt_cons (c : UInt8) (y : List UInt8) (r : List (List UInt8)) : jt c (y :: r) = c :: (y ++ jt c r) := by simp [jt]
theorem spl_jt {c : UInt8} : ∀ (r : List (List UInt8)) (x : List UInt8), c ∉ x → (∀ y ∈ r, c ∉ y) → spl c (x ++ jt c r) = x :: r
  | [], x, hx, _ => by simp [jt, spl_free hx]
  | y :: r, x, hx, hr => by
    rw [jt_cons, spl_eq, spl_free hx, spl_jt r y (hr y (List.mem_cons_self ..)) (fun z hz => hr z (List.mem_cons_of_mem _ hz))]; rfl
theorem spl_jn {c : UInt8} {xs : List (List UInt8)} (h0 : xs ≠ []) (h : ∀ x ∈ xs, c ∉ x) : spl c (jn c xs) = xs := by
  cases xs with
  | nil => exact absurd rfl h0
  | cons x r => exact spl_jt r x (h x (List.mem_cons_self ..)) (fun y hy => h y (List.mem_cons_of_mem _ hy))
theorem jn_free {c d : UInt8} (hd : d ≠ c) {xs : List (List UInt8)} (h : ∀ x ∈ xs, d ∉ x) : d ∉ jn c xs := by
  have ht : ∀ r : List (List UInt8), (∀ y ∈ r, d ∉ y) → d ∉ jt c r := fun r hr hm => by
    simp only [jt, List.mem_flatten, List.mem_map] at hm
    obtain ⟨l, ⟨y, hy, rfl⟩, hl⟩ := hm
    rcases List.mem_cons.1 hl with e | hl
    · exact hd e
    · exact hr y hy hl
  cases xs with
  | nil => simp [jn]
  | cons x r =>
    simp only [jn, List.mem_append, not_or]
    exact ⟨h x (List.mem_cons_self ..), ht r (fun y hy => h y (List.mem_cons_of_mem _ hy))⟩
theorem ba_data (l : List UInt8) : (ba l).data.toList = l := by simp [ba]
theorem ba_of (s : ByteArray) : ba s.data.toList = s := by simp [ba]
theorem ba_size (l : List UInt8) : (ba l).size = l.length := by rw [Lib.size_eq, ba_data]
theorem idx_hit (c : UInt8) (l : List UInt8) : Lib.index (c :: l) [c] = 0 := by rw [Lib.index]; simp [List.isPrefixOf]
theorem idx_ne (b c : UInt8) (l : List UInt8) (h : b ≠ c) : Lib.index (b :: l) [c] = if Lib.index l [c] == -1 then -1 else Lib.index l [c] + 1 := by
  have hp : ([c] : List UInt8).isPrefixOf (b :: l) = false := by simp [List.isPrefixOf, Ne.symm h]
  rw [Lib.index, hp]; simp
theorem splitK_spl (c : UInt8) : ∀ l : List UInt8, Lib.splitK [c] 0 (Lib.count l [c]) l = spl c l
  | [] => by rw [Lib.count_one]; rfl
  | b :: l => by
    have ih := splitK_spl c l
    by_cases h : b = c
    · subst h
      rw [Lib.count_cons_eq, Nat.add_comm, Lib.splitK, idx_hit, if_neg (by decide)]
      simp only [spl, if_pos]
      rw [← ih]; simp
    · rw [Lib.count_cons_ne b c l h]
      simp only [spl]
      rw [if_neg h, ← ih]
      cases hk : Lib.count l [c] with
      | zero => rfl
      | succ k =>
        rw [Lib.splitK, Lib.splitK, idx_ne b c l h]
        have hge := Lib.index_ge l [c]
        by_cases hm : Lib.index l [c] = -1
        · rw [hm]; rfl
        · have hb : (Lib.index l [c] == -1) = false := by simpa using hm
          have hb2 : (Lib.index l [c] + 1 == -1) = false := by simp; omega
          simp only [hb, hb2, Bool.false_eq_true, if_false]
          have e1 : (Lib.index l [c] + 1).toNat = (Lib.index l [c]).toNat + 1 := by omega
          rw [e1]; simp [Nat.add_right_comm]
theorem splitF_spl (c : UInt8) (l : List UInt8) : splitF (ba l) c = (spl c l).map ba := by
  have h1 := Lib.splitB_data (ba [c]) 0 (Lib.countB (ba l) (ba [c])) (ba l)
  have h2 : Lib.countB (ba l) (ba [c]) = Lib.count l [c] := by
    unfold Lib.countB; rw [ba_data, ba_data]
  rw [ba_data, ba_data, h2, splitK_spl] at h1
  rw [← h1, List.map_map]
  unfold splitF
  rw [h2]
  exact (List.map_id _).symm.trans (List.map_congr_left (fun s _ => (ba_of s).symm))
theorem joinF_jn (c : UInt8) (xs : List (List UInt8)) : joinF (xs.map ba) (ba [c]) = ba (jn c xs) := by
  unfold joinF
  rw [List.map_map, ba_data]
  have e : xs.map ((fun s : ByteArray => s.data.toList) ∘ ba) = xs := (List.map_congr_left (fun l _ => ba_data l)).trans (List.map_id _)
  rw [e]
  cases xs with
  | nil => rfl
  | cons x r => rw [Lib.join_cons]; rfl
end Go.Proofs.YtondpnipoogoiaaGreatDoor.F
namespace Go.Proofs.YtondpnipoogoiaaGreatDoor.F
open Go Go.RowKit
set_option linter.unusedVariables false
set_option linter.unusedSimpArgs false
theorem byteAt_ba {l : List UInt8} {i : Nat} {b : UInt8} (h : l[i]? = some b) : byteAt (ba l) (i : Int) = (b.toNat : Int) := by
  have e : (ba l).data[i]? = some b := by simp [ba, h]
  simp only [byteAt, Int.toNat_natCast, e, Option.getD_some]
theorem nameF_bad {l : List UInt8} {i : Nat} {b : UInt8} (h : l[i]? = some b) (hb : b = 32 ∨ b = 44 ∨ b = 46) : nameF (ba l) = false := by
  have hi : i < l.length := (List.getElem?_eq_some_iff.1 h).1
  refine nameF_no (i := i) (by rw [ba_size]; exact hi) ?_
  simp only [nameOk, byteAt_ba h]
  rcases hb with rfl | rfl | rfl
  · have e : (decide (bitsOr .u8 ((32 : UInt8).toNat : Int) 32 ≥ 97) && decide (bitsOr .u8 ((32 : UInt8).toNat : Int) 32 ≤ 122) || ((32 : UInt8).toNat : Int) == 95) = false := by kernel_rfl
    have e2 : (!decide (((32 : UInt8).toNat : Int) < 48) && !decide (((32 : UInt8).toNat : Int) > 57)) = false := by kernel_rfl
    rw [e, e2]; simp
  · have e : (decide (bitsOr .u8 ((44 : UInt8).toNat : Int) 32 ≥ 97) && decide (bitsOr .u8 ((44 : UInt8).toNat : Int) 32 ≤ 122) || ((44 : UInt8).toNat : Int) == 95) = false := by kernel_rfl
    have e2 : (!decide (((44 : UInt8).toNat : Int) < 48) && !decide (((44 : UInt8).toNat : Int) > 57)) = false := by kernel_rfl
    rw [e, e2]; simp
  · have e : (decide (bitsOr .u8 ((46 : UInt8).toNat : Int) 32 ≥ 97) && decide (bitsOr .u8 ((46 : UInt8).toNat : Int) 32 ≤ 122) || ((46 : UInt8).toNat : Int) == 95) = false := by kernel_rfl
    have e2 : (!decide (((46 : UInt8).toNat : Int) < 48) && !decide (((46 : UInt8).toNat : Int) > 57)) = false := by kernel_rfl
    rw [e, e2]; simp
theorem name_free {l : List UInt8} (h : nameF (ba l) = true) {c : UInt8} (hc : c = 44 ∨ c = 46) : c ∉ l := fun hm => by
  obtain ⟨i, hi, he⟩ := List.getElem_of_mem hm
  have := nameF_bad (i := i) (b := c) (by rw [List.getElem?_eq_getElem hi, he]) (.inr hc)
  rw [h] at this; cases this
theorem name_nil : nameF (ba []) = false := by kernel_rfl
def badL (l : List UInt8) : Bool := (spl 46 l).any fun n => !nameF (ba n)
theorem badPiece_ba (l : List UInt8) : badPiece (ba l) = badL l := by
  unfold badPiece badL
  rw [splitF_spl, List.any_map]; rfl
theorem any_pieces (l : List UInt8) : (splitF (ba l) 44).any badPiece = (spl 44 l).any badL := by
  rw [splitF_spl, List.any_map]
  exact congrArg (fun q => (spl 44 l).any q) (funext fun x => badPiece_ba x)
theorem cutsF_ba (l : List UInt8) : cutsF (ba l) = (spl 44 l).map fun p => (spl 46 p).map ba := by
  unfold cutsF
  rw [splitF_spl, List.map_map]
  exact List.map_congr_left (fun p _ => splitF_spl 46 p)
theorem eq_nil (l : List UInt8) : ((ba l).toList == (ba []).toList) = decide (l = []) := by
  rw [Lib.toList_data, Lib.toList_data, ba_data, ba_data]
  cases l with
  | nil => rfl
  | cons b l => rfl
theorem parse_bad {l : List UInt8} (h0 : l ≠ []) (h : ∃ x ∈ spl 44 l, badL x = true) : parseF (ba l) = ([], 2) := by
  unfold parseF
  rw [eq_nil, any_pieces, if_neg (by simpa using h0), if_pos (List.any_eq_true.2 h)]
theorem badL_of {l n : List UInt8} (hm : n ∈ spl 46 l) (hn : nameF (ba n) = false) : badL l = true := List.any_eq_true.2 ⟨n, hm, by simp [hn]⟩
theorem badL_nil : badL [] = true := badL_of (n := []) (by simp [spl]) name_nil
def unb (p : List (List ByteArray)) : List (List (List UInt8)) := p.map fun q => q.map fun s => s.data.toList
theorem unb_ba (p : List (List ByteArray)) : (unb p).map (fun q => q.map ba) = p := by
  unfold unb
  rw [List.map_map]
  refine (List.map_congr_left (fun q _ => ?_)).trans (List.map_id _)
  simp only [Function.comp_apply, List.map_map]
  exact (List.map_congr_left (fun s _ => ba_of s)).trans (List.map_id _)
def textL (P : List (List (List UInt8))) : List UInt8 := jn 44 (P.map (jn 46))
theorem textF_ba {P : List (List (List UInt8))} (h : checkF (P.map fun q => q.map ba) = true) : textF (P.map fun q => q.map ba) = ba (textL P) := by
  unfold textF textL
  rw [if_pos h, List.map_map, ← joinF_jn, List.map_map]
  congr 1
  exact List.map_congr_left (fun q _ => joinF_jn 46 q)
structure Good (P : List (List (List UInt8))) : Prop where
  ne : P ≠ []
  path : ∀ q ∈ P, q ≠ [] ∧ ∀ n ∈ q, nameF (ba n) = true
theorem good_pieces {P : List (List (List UInt8))} (h : Good P) : (∀ x ∈ P.map (jn 46), (44 : UInt8) ∉ x) ∧ ∀ q ∈ P, spl 46 (jn 46 q) = q := by
  refine ⟨fun x hx => ?_, fun q hq => ?_⟩
  · obtain ⟨q, hq, rfl⟩ := List.mem_map.1 hx
    exact jn_free (by decide) (fun n hn => name_free ((h.path q hq).2 n hn) (.inl rfl))
  · exact spl_jn (h.path q hq).1 (fun n hn => name_free ((h.path q hq).2 n hn) (.inr rfl))
theorem spl_text {P : List (List (List UInt8))} (h : Good P) : spl 44 (textL P) = P.map (jn 46) := spl_jn (by simpa using h.ne) (good_pieces h).1
theorem good_badL {P : List (List (List UInt8))} (h : Good P) {x : List UInt8} (hx : x ∈ P.map (jn 46)) : badL x = false := by
  obtain ⟨q, hq, rfl⟩ := List.mem_map.1 hx
  unfold badL
  rw [(good_pieces h).2 q hq, List.any_eq_false]
  intro n hn
  simp [(h.path q hq).2 n hn]
theorem jn_ne {c : UInt8} {q : List (List UInt8)} (h0 : q ≠ []) (h : ∀ n ∈ q, n ≠ []) : jn c q ≠ [] := by
  cases q with
  | nil => exact absurd rfl h0
  | cons x r =>
    have := h x (List.mem_cons_self ..)
    simp [jn, this]
theorem text_ne {P : List (List (List UInt8))} (h : Good P) : textL P ≠ [] := jn_ne (by simpa using h.ne) (fun x hx => by
  obtain ⟨q, hq, rfl⟩ := List.mem_map.1 hx
  refine jn_ne (h.path q hq).1 (fun n hn e => ?_)
  have := (h.path q hq).2 n hn
  rw [e, name_nil] at this; cases this)
theorem cuts_text {P : List (List (List UInt8))} (h : Good P) : (P.map (jn 46)).map (fun p => (spl 46 p).map ba) = P.map fun q => q.map ba := by
  rw [List.map_map]
  exact List.map_congr_left (fun q hq => by simp only [Function.comp_apply]; rw [(good_pieces h).2 q hq])
theorem parse_text {P : List (List (List UInt8))} (h : Good P) (hc : checkF (P.map fun q => q.map ba) = true) : parseF (ba (textL P)) = (P.map fun q => q.map ba, 0) := by
  have h1 : (spl 44 (textL P)).any badL = false := by
    rw [spl_text h, List.any_eq_false]
    intro x hx
    simp [good_badL h hx]
  have h2 : cutsF (ba (textL P)) = P.map fun q => q.map ba := by rw [cutsF_ba, spl_text h, cuts_text h]
  unfold parseF
  rw [eq_nil, any_pieces, h1, h2, if_neg (by simpa using text_ne h), if_neg (by decide), if_pos hc]
theorem many_ba (l : List UInt8) : ∀ i, manyF (ba l) i = ba (l ++ jt 44 (List.replicate i [97]))
  | 0 => by simp [manyF, jt]
  | i + 1 => by
    rw [manyF, many_ba l i]
    have e : jt 44 (List.replicate (i + 1) [97]) = jt 44 (List.replicate i [97]) ++ [44, 97] := by
      rw [List.replicate_succ']; simp [jt]
    rw [e]
    show _ = _
    apply ByteArray.ext
    simp [ba, ByteArray.data_append]
theorem ba_app (l m : List UInt8) : ba l ++ ba m = ba (l ++ m) := by
  apply ByteArray.ext
  simp [ba, ByteArray.data_append]
theorem spl_more {P : List (List (List UInt8))} (h : Good P) : ∀ r : List (List UInt8), (∀ y ∈ r, (44 : UInt8) ∉ y) → spl 44 (textL P ++ jt 44 r) = P.map (jn 46) ++ r := by
  intro r
  obtain ⟨q, Q, rfl⟩ : ∃ q Q, P = q :: Q := by
    cases P with
    | nil => exact absurd rfl h.ne
    | cons q Q => exact ⟨q, Q, rfl⟩
  intro hr
  have hg := (good_pieces h).1
  have e : textL (q :: Q) ++ jt 44 r = jn 46 q ++ jt 44 (Q.map (jn 46) ++ r) := by simp [textL, jn, jt]
  rw [e, spl_jt _ _ (hg _ (by simp)) (fun y hy => by
    rcases List.mem_append.1 hy with hy | hy
    · exact hg y (by simp only [List.map_cons]; exact List.mem_cons_of_mem _ hy)
    · exact hr y hy)]
  simp
theorem parse_many {P : List (List (List UInt8))} (h : Good P) : parseF (manyF (ba (textL P)) 60) = ([], 4) := by
  rw [many_ba]
  have hs := spl_more h (List.replicate 60 [97]) (fun y hy => by rw [List.eq_of_mem_replicate hy]; decide)
  have h1 : (spl 44 (textL P ++ jt 44 (List.replicate 60 [97]))).any badL = false := by
    rw [hs, List.any_eq_false]
    intro x hx
    rcases List.mem_append.1 hx with hx | hx
    · simp [good_badL h hx]
    · rw [List.eq_of_mem_replicate hx]
      have : badL [97] = false := by kernel_rfl
      simp [this]
  have h2 : checkF (cutsF (ba (textL P ++ jt 44 (List.replicate 60 [97])))) = false := by
    rw [cutsF_ba, hs]
    have hl : 0 < P.length := List.length_pos_iff.2 h.ne
    unfold checkF
    rw [decide_eq_false (by simp; omega)]; rfl
  unfold parseF
  rw [eq_nil, any_pieces, h1, h2, if_neg (by have := text_ne h; simp [this]), if_neg (by decide), if_neg (by decide)]
theorem parse_wrong {P : List (List (List UInt8))} (h : Good P) : ∀ n, n < 6 → parseF ((wrongs (ba (textL P))).getD n ⟨#[]⟩) = ([], 2)
  | 0, _ => by
    show parseF (ba [44] ++ ba (textL P)) = _
    rw [ba_app]
    exact parse_bad (by simp) ⟨[], by simp [spl], badL_nil⟩
  | 1, _ => by
    show parseF (ba (textL P) ++ ba [44]) = _
    rw [ba_app]
    exact parse_bad (by simp) ⟨[], by rw [spl_eq]; simp [spl], badL_nil⟩
  | 2, _ => by
    show parseF (ba (textL P) ++ ba [46]) = _
    rw [ba_app]
    obtain ⟨z, hz⟩ := spl_end (c := 44) (y := [46]) (by decide) (textL P)
    exact parse_bad (by simp) ⟨_, hz, badL_of (n := []) (by rw [spl_eq]; simp [spl]) name_nil⟩
  | 3, _ => by
    show parseF (ba [46] ++ ba (textL P)) = _
    rw [ba_app]
    obtain ⟨z, hz⟩ := spl_begin (c := 44) (b := 46) (by decide) (textL P)
    exact parse_bad (by simp) ⟨_, hz, badL_of (n := []) (by simp [spl]) name_nil⟩
  | 4, _ => by
    show parseF (ba (textL P) ++ ba [44, 49, 97]) = _
    rw [ba_app]
    refine parse_bad (by simp) ⟨[49, 97], by rw [spl_eq]; simp [spl], by kernel_rfl⟩
  | 5, _ => by
    show parseF (ba (textL P) ++ ba [32]) = _
    rw [ba_app]
    obtain ⟨z, hz⟩ := spl_end (c := 44) (y := [32]) (by decide) (textL P)
    obtain ⟨z', hz'⟩ := spl_end (c := 46) (y := [32]) (by decide) z
    exact parse_bad (by simp) ⟨_, hz, badL_of hz' (nameF_bad (i := z'.length) (b := 32) (by simp) (.inl rfl))⟩
theorem fine_of {p : List (List ByteArray)} (hc : checkF p = true) (h0 : p ≠ []) {n : Int} (hn : 0 ≤ n ∧ n < 7) : Fine p n := by
  have hp := unb_ba p
  obtain ⟨h1, h2⟩ := checkF_in hc
  have hg : Good (unb p) := ⟨fun e => h0 (by rw [← hp, e]; rfl), fun q hq => by
    have hq2 : q.map ba ∈ p := by rw [← hp]; exact List.mem_map.2 ⟨q, hq, rfl⟩
    obtain ⟨_, h4, h5⟩ := h2 _ hq2
    exact ⟨fun e => h4 (by rw [e]; rfl), fun m hm => h5 _ (List.mem_map.2 ⟨m, hm, rfl⟩)⟩⟩
  have hc' : checkF ((unb p).map fun q => q.map ba) = true := by rw [hp]; exact hc
  have ht : textF p = ba (textL (unb p)) := by rw [← textF_ba hc', hp]
  have hsz : (textF p).size ≤ 7563840 := by unfold textF; rw [if_pos hc]; exact text_join hc
  have hsm : ∀ x ∈ p, smalls x := fun x hx => by
    obtain ⟨h3, _, h5⟩ := h2 x hx
    exact ⟨fun y hy => by have := nameF_size (h5 y hy); unfold small; omega, by omega⟩
  refine ⟨⟨hsm, by omega, fun x hx => by have := (h2 x hx).1; omega⟩, hsz, ?_, ?_, ?_, ?_⟩
  · rw [ht, eq_nil]; simpa using text_ne hg
  · rw [ht, parse_text hg hc', hp]
  · rw [ht]
    rcases Int.lt_or_eq_of_le (show n ≤ 6 by omega) with h | rfl
    · rw [parse_wrong hg _ (by omega)]; rfl
    · show ((parseF (manyF (ba (textL (unb p))) 60)).1.length : Int) = 0
      rw [parse_many hg]; rfl
  · rw [ht]
    rcases Int.lt_or_eq_of_le (show n ≤ 6 by omega) with h | rfl
    · rw [parse_wrong hg _ (by omega), if_neg (by omega)]
    · show (parseF (manyF (ba (textL (unb p))) 60)).2 = _
      rw [parse_many hg]; rfl
theorem nmF_ok {n : Int} (h : 0 ≤ n ∧ n < 4) : nameF (nmF n) = true := by
  have : n = 0 ∨ n = 1 ∨ n = 2 ∨ n = 3 := by omega
  have e0 : nameF (nmF 0) = true := by kernel_rfl
  have e1 : nameF (nmF 1) = true := by kernel_rfl
  have e2 : nameF (nmF 2) = true := by kernel_rfl
  have e3 : nameF (nmF 3) = true := by kernel_rfl
  rcases this with rfl | rfl | rfl | rfl <;> assumption
theorem path_ok {v : Int} (h : 0 ≤ v) : badPath (pathF v) = false := by
  have hk := kF_in h
  have hl : (pathF v).length ≤ 3 := by unfold pathF; rw [steps_len]; omega
  have hn : ∀ s ∈ pathF v, nameF s = true := fun s hs => by
    simp only [pathF, stepsF, List.mem_cons, List.mem_map, List.mem_range] at hs
    rcases hs with rfl | ⟨m, hm, rfl⟩
    · exact nmF_ok (tm4 h)
    · exact nmF_ok (ix4 h (by omega))
  have h1 : 0 < (pathF v).length := by unfold pathF; rw [steps_len]; omega
  unfold badPath
  have e1 : (((pathF v).length : Int) == 0) = false := by simp; intro e; rw [e] at h1; simp at h1
  have e2 : ((pathF v).any fun n => !nameF n) = false := by
    rw [List.any_eq_false]; intro s hs; simp [hn s hs]
  rw [e1, e2, decide_eq_false (by omega)]; rfl
theorem paths_ok (l : List Int) : checkF (pathsF l) = true := by
  have h1 : (pathsF l).length ≤ 12 := by unfold pathsF; rw [List.length_map, List.length_take]; omega
  have h2 : (pathsF l).any badPath = false := by
    rw [List.any_eq_false]
    intro p hp
    obtain ⟨x, _, rfl⟩ := List.mem_map.1 hp
    have := path_ok (placeF_in x 1048576 (by decide)).1
    unfold pthF; simp [this]
  unfold checkF
  rw [h2, decide_eq_true (by omega)]; rfl
end Go.Proofs.YtondpnipoogoiaaGreatDoor.F
namespace Go.Proofs.YtondpnipoogoiaaGreatDoor.F
open Go Go.RowKit
set_option linter.unusedVariables false
set_option linter.unusedSimpArgs false
theorem paths_in {l : List Int} {p : List ByteArray} (h : p ∈ pathsF l) : 0 < p.length ∧ p.length ≤ 3 := by
  obtain ⟨x, _, rfl⟩ := List.mem_map.1 h
  have hk := kF_in (placeF_in x 1048576 (by decide)).1
  unfold pthF pathF
  rw [steps_len]
  omega
theorem paths_len (l : List Int) : (pathsF l).length ≤ 12 := by unfold pathsF; rw [List.length_map, List.length_take]; omega
theorem smalls_of {p : List (List ByteArray)} (hc : checkF p = true) : ∀ x ∈ p, smalls x := fun x hx => by
  obtain ⟨h1, h2⟩ := checkF_in hc
  obtain ⟨h3, _, h5⟩ := h2 x hx
  exact ⟨fun y hy => by have := nameF_size (h5 y hy); unfold small; omega, by omega⟩
def Fit (n : Nat) : Nat → Tree → Prop
  | 0, _ => False
  | d + 1, t => t.v.length ≤ n ∧ ∀ u ∈ t.v, Fit n d u
theorem fit_mono {n m : Nat} (hn : n ≤ m) : ∀ {d e : Nat} {t : Tree}, d ≤ e → Fit n d t → Fit m e t
  | 0, _, _, _, h => h.elim
  | d + 1, 0, _, hd, _ => absurd hd (Nat.not_succ_le_zero d)
  | d + 1, e + 1, t, hd, h => ⟨Nat.le_trans h.1 hn, fun u hu => fit_mono hn (Nat.le_of_succ_le_succ hd) (h.2 u hu)⟩
theorem fit_few {n : Nat} (hn : n ≤ 300) : ∀ {d : Nat} {t : Tree}, Fit n d t → fewT t = true
  | 0, _, h => h.elim
  | d + 1, t, h => by
    have hl : ∀ l : List Tree, (∀ u ∈ l, fewT u = true) → fewL l = true := by
      intro l
      induction l with
      | nil => intro _; rfl
      | cons x l ih => intro h; simp only [fewL]; rw [h x (by simp), ih (fun u hu => h u (by simp [hu]))]; rfl
    have h1 := h.1
    rw [fewT_eq, hl _ (fun u hu => fit_few hn (h.2 u hu)), decide_eq_true (by omega)]; rfl
theorem fit_depth {n : Nat} : ∀ {d : Nat} {t : Tree}, Fit n d t → depth t ≤ d
  | 0, _, h => h.elim
  | d + 1, t, h => by
    have hl : ∀ l : List Tree, (∀ u ∈ l, depth u ≤ d) → depthL l ≤ d := by
      intro l
      induction l with
      | nil => intro _; exact Nat.zero_le _
      | cons x l ih => intro h; simp only [depthL]; have := h x (by simp); have := ih (fun u hu => h u (by simp [hu])); omega
    have := hl _ (fun u hu => fit_depth (h.2 u hu))
    rw [depth_eq]; omega
theorem fit_good : ∀ {d : Nat} {t : Tree}, GoodT d t → Fit 3 d t
  | 0, _, h => h.elim
  | d + 1, t, ⟨_, h2, h3⟩ => ⟨h2, fun u hu => fit_good (h3 u hu)⟩
theorem mems_in {t : Tree} {p : ByteArray × Tree} (h : p ∈ mems t) : p.2 ∈ t.v := by
  refine cutV_sub ?_
  rw [← mems_v]
  exact List.mem_map.2 ⟨p, h, rfl⟩
theorem mems_lev (t : Tree) : (mems t).length ≤ t.v.length := by
  have h : ((mems t).map (·.2)).length = (cutV t).length := by rw [mems_v]
  rw [List.length_map] at h
  rw [h]; unfold cutV
  split
  · rw [List.length_take]; omega
  · exact Nat.zero_le _
theorem fit_zero (n d : Nat) : Fit n (d + 1) Tree.zero := ⟨Nat.zero_le _, fun u hu => by simp [Tree.zero, Tree.v] at hu⟩
theorem fit_set {n d : Nat} {t u : Tree} {x : ByteArray} (h : Fit n (d + 1) t) (hu : Fit (n + 1) d u) : Fit (n + 1) (d + 1) (setT t x u) := by
  refine ⟨?_, fun z hz => ?_⟩
  · show ((insA x u (mems t)).map (·.2)).length ≤ n + 1
    rw [List.length_map]
    have := keys_ins x u (mems t)
    have := mems_lev t
    have := h.1; omega
  · obtain ⟨p, hp, rfl⟩ := List.mem_map.1 (show z ∈ (insA x u (mems t)).map (·.2) from hz)
    rcases ins_mem hp with rfl | hp
    · exact hu
    · exact fit_mono (Nat.le_succ n) (Nat.le_refl _) (h.2 _ (mems_in hp))
theorem fit_unset {n d : Nat} {t : Tree} {x : ByteArray} (h : Fit n d t) : Fit n d (unsetT t x) := by
  unfold unsetT
  split
  · cases d with
    | zero => exact h.elim
    | succ d =>
      refine ⟨?_, fun z hz => ?_⟩
      · show ((delA x (mems t)).map (·.2)).length ≤ n
        rw [List.length_map]
        have := (del_sub x (mems t)).length_le
        have := mems_lev t
        have := h.1; omega
      · obtain ⟨p, hp, rfl⟩ := List.mem_map.1 (show z ∈ (delA x (mems t)).map (·.2) from hz)
        exact h.2 _ (mems_in ((del_sub x _).subset hp))
  · exact h
theorem fit_memV {n d : Nat} {t : Tree} {x : ByteArray} (h : Fit n (d + 1) t) (hd : 0 < d) : Fit n d (memV t x) := by
  cases hb : memB t x with
  | true => exact h.2 _ (mem_cutV hb)
  | false =>
    rw [memV_zero hb]
    obtain ⟨e, rfl⟩ : ∃ e, d = e + 1 := ⟨d - 1, by omega⟩
    exact fit_zero n e
theorem fit_pos {n d : Nat} {t : Tree} (h : Fit n d t) : 0 < d := by
  cases d with
  | zero => exact h.elim
  | succ d => exact Nat.succ_pos d
theorem fit_setP {n E : Nat} {v : Tree} (hv : Fit n E v) : ∀ (p : List ByteArray) {D : Nat} {t : Tree}, Fit n D t → p.length + E ≤ D → Fit (n + 1) D (setP p t v)
  | [], D, t, _, h => fit_mono (Nat.le_succ n) (by simpa using h) hv
  | x :: p, 0, t, ht, _ => ht.elim
  | x :: p, D + 1, t, ht, h => by
    have he := fit_pos hv
    simp only [List.length_cons] at h
    exact fit_set ht (fit_setP hv p (fit_memV ht (by omega)) (by omega))
theorem fit_unsetP {n : Nat} : ∀ (p : List ByteArray) {D : Nat} {t : Tree}, Fit n D t → Fit (n + 1) D (unsetP p t)
  | [], D, t, h => fit_mono (Nat.le_succ n) (Nat.le_refl _) h
  | [x], D, t, h => fit_mono (Nat.le_succ n) (Nat.le_refl _) (fit_unset h)
  | x :: m :: p, 0, t, h => h.elim
  | x :: m :: p, D + 1, t, h => by
    rw [unsetP]
    split
    · rename_i hb
      exact fit_set h (fit_unsetP (m :: p) (h.2 _ (mem_cutV hb)))
    · exact fit_mono (Nat.le_succ n) (Nat.le_refl _) h
theorem fit_get {n : Nat} : ∀ (p : List ByteArray) {E : Nat} {v : Tree}, Fit n E v → (getF p v).2 = true → Fit n E (getF p v).1
  | [], E, v, h, _ => h
  | x :: p, 0, v, h, _ => h.elim
  | x :: p, E + 1, v, h, hb => by
    rw [getF_cons] at hb ⊢
    split
    · rename_i hm
      rw [if_pos hm] at hb
      exact fit_mono (Nat.le_refl _) (Nat.le_succ E) (fit_get p (h.2 _ (mem_cutV hm)) hb)
    · rename_i hm
      rw [if_neg hm] at hb; cases hb
theorem fit_step {n D E : Nat} {v t : Tree} (hv : Fit n E v) (ht : Fit n D t) (p : List ByteArray) (h : p.length + E ≤ D) : Fit (n + 1) D (apStep v t p) := by
  unfold apStep
  split
  · rename_i hb; exact fit_setP (fit_get p hv hb) p ht h
  · exact fit_unsetP p ht
theorem fit_all {D E : Nat} {v : Tree} : ∀ (s : List (List ByteArray)) {n : Nat} {t : Tree}, Fit n E v → Fit n D t → (∀ p ∈ s, p.length + E ≤ D) → Fit (n + s.length) D (apAll t s v)
  | [], n, t, _, h, _ => h
  | p :: s, n, t, hv, h, hs => by
    have := fit_all s (fit_mono (Nat.le_succ n) (Nat.le_refl _) hv) (fit_step hv h p (hs p (by simp))) (fun q hq => hs q (by simp [hq]))
    rw [List.length_cons, show n + (s.length + 1) = n + 1 + s.length by omega]
    exact this
theorem all_more {f : Tree → Nat} (hf : Meas f) (v : Tree) : ∀ (s : List (List ByteArray)) (t : Tree), (∀ p ∈ s, p.length ≤ 3) → f (apAll t s v) ≤ f t + s.length * (f v + 3)
  | [], t, _ => by simp [apAll]
  | p :: s, t, h => by
    have h1 := apStep_more hf v t p
    have h2 := all_more hf v s (apStep v t p) (fun q hq => h q (by simp [hq]))
    have h3 := h p (by simp)
    show f (apAll (apStep v t p) s v) ≤ _
    rw [List.length_cons, Nat.succ_mul]; omega
theorem apply_good {t v : Tree} (ht : GoodT 5 t) (hv : GoodT 5 v) (l : List (List ByteArray)) (hc : checkF l = true) (hl : l.length ≤ 12) (hp : ∀ p ∈ l, p.length ≤ 3) : applyF t l (normF l) v 100000 = (apAll t (normF l) v, 0) := by
  have hps : ∀ p ∈ normF l, p.length ≤ 3 := fun p h => hp p (normF_mem h)
  have hnl : (normF l).length ≤ 12 := Nat.le_trans (normF_len l) hl
  have hn1 : nodes t ≤ 121 := good_nodes ht
  have hn2 : nodes v ≤ 121 := good_nodes hv
  have hw1 := good_weight ht
  have hw2 := good_weight hv
  have hn := all_more measNodes v (normF l) t hps
  have hw := all_more measWeight v (normF l) t hps
  have hb1 : (normF l).length * (nodes v + 3) ≤ 12 * (121 + 3) := Nat.mul_le_mul hnl (by omega)
  have hb2 : (normF l).length * (weight v + 3) ≤ 12 * (1210 + 3) := Nat.mul_le_mul hnl (by omega)
  have hf := fit_all (D := 8) (normF l) (fit_good hv) (fit_mono (Nat.le_refl _) (by decide) (fit_good ht)) (fun p h => by have := hps p h; omega)
  have hd := fit_depth hf
  have hw' := fit_few (by omega) hf
  unfold applyF
  rw [if_neg (by rw [good_valid ht (by decide), good_valid hv (by decide), hc]; simp), if_neg (by
    rintro (h | h | h | h)
    · omega
    · omega
    · omega
    · rw [hw'] at h; cases h)]
theorem sameN_self (n : Num) : sameN n n = true := by simp [sameN]
mutual
theorem sameT_self : ∀ t : Tree, sameT t t = true
  | .mk k b n s ks v => by
    have h := sameL_self v
    rw [sameT_eq]
    simp only [Tree.kind, Tree.b, Tree.n, Tree.s, Tree.k, Tree.v, if_true, sameN_self, h, beq_self_eq_true, decide_true, Bool.and_self]
    repeat' split
    all_goals rfl
theorem sameL_self : ∀ l : List Tree, sameL l l = true
  | [] => rfl
  | t :: l => by simp only [sameL]; rw [sameT_self t, sameL_self l]; rfl
end
theorem takes_at {t v : Tree} (ht : GoodT 5 t) (hv : GoodT 5 v) (l : List (List ByteArray)) (hp : ∀ p ∈ l, 0 < p.length) {p : List ByteArray} (h : p ∈ normF l) : getF p (apAll t (normF l) v) = getF p v :=
  all_get (good_nd hv) (normF l) t (good_nd ht) (normF_inc l) (fun q hq e => by have := hp q (normF_mem hq); rw [e] at this; exact absurd this (by decide)) p h
end Go.Proofs.YtondpnipoogoiaaGreatDoor.F
namespace Go.Proofs.YtondpnipoogoiaaGreatDoor.F
open Go Go.RowKit
set_option linter.unusedVariables false
set_option linter.unusedSimpArgs false
theorem fold_sub : ∀ (s out : List (List ByteArray)), ∃ r, s.foldl normStep out = out ++ r ∧ r.Sublist s
  | [], out => ⟨[], by simp, List.Sublist.refl _⟩
  | p :: s, out => by
    obtain ⟨r, h1, h2⟩ := fold_sub s (normStep out p)
    rw [List.foldl_cons, h1]
    unfold normStep
    split
    · split
      · exact ⟨r, rfl, h2.cons _⟩
      · exact ⟨p :: r, by simp, h2.cons_cons _⟩
    · exact ⟨p :: r, by simp, h2.cons_cons _⟩
theorem normF_sorted (l : List (List ByteArray)) : (normF l).Pairwise Le := by
  obtain ⟨r, h1, h2⟩ := fold_sub (sortP l) []
  unfold normF
  rw [h1, List.nil_append]
  exact (sortP_le l).sublist h2
theorem fold_keep : ∀ (s i : List (List ByteArray)) (o : List ByteArray), (i ++ [o] ++ s).Pairwise Inc → s.foldl normStep (i ++ [o]) = i ++ [o] ++ s
  | [], i, o, _ => by simp
  | p :: s, i, o, h => by
    have h1 : Inc o p := (List.pairwise_append.1 h).2.2 o (by simp) p (by simp)
    rw [List.foldl_cons, step_snoc, if_neg (by rw [h1.no]; decide)]
    have e : i ++ [o] ++ p :: s = i ++ [o] ++ [p] ++ s := by simp
    rw [e] at h ⊢
    exact fold_keep s (i ++ [o]) p h
theorem sort_keep {l : List (List ByteArray)} (h : l.Pairwise Le) : sortP l = l := List.mergeSort_of_pairwise (h.imp (fun h => by unfold Le at h; simpa using h))
theorem norm_keep {l : List (List ByteArray)} (h : l.Pairwise Le) (h2 : l.Pairwise Inc) : normF l = l := by
  unfold normF
  rw [sort_keep h]
  cases l with
  | nil => rfl
  | cons p s =>
    rw [List.foldl_cons, step_nil]
    exact fold_keep s [] p h2
theorem norm_norm (l : List (List ByteArray)) : normF (normF l) = normF l := norm_keep (normF_sorted l) (normF_inc l)
theorem check_norm {l : List (List ByteArray)} (h : checkF l = true) : checkF (normF l) = true := by
  have hl := normF_len l
  simp only [checkF, Bool.and_eq_true, decide_eq_true_eq, Bool.not_eq_true'] at h ⊢
  refine ⟨by omega, ?_⟩
  rw [List.any_eq_false]
  intro p hp
  exact List.any_eq_false.1 h.2 p (normF_mem hp)
def pM (m : List Int) : List (List ByteArray) := normF (pathsF m)
def aM (l k m : List Int) : Tree := apAll (madeT l) (pM m) (madeT k)
theorem pM_in {m : List Int} {p : List ByteArray} (h : p ∈ pM m) : 0 < p.length ∧ p.length ≤ 3 := paths_in (normF_mem h)
theorem pM_len (m : List Int) : (pM m).length ≤ 12 := Nat.le_trans (normF_len _) (paths_len m)
theorem pM_check (m : List Int) : checkF (pM m) = true := check_norm (paths_ok m)
theorem apply_M (l k m : List Int) : applyF (madeT l) (pM m) (normF (pM m)) (madeT k) 100000 = (aM l k m, 0) := by
  rw [apply_good (good_madeT l) (good_madeT k) (pM m) (pM_check m) (pM_len m) (fun p h => (pM_in h).2)]
  unfold aM pM
  rw [norm_norm]
theorem takes_M (l k m : List Int) {p : List ByteArray} (h : p ∈ pM m) : getF p (aM l k m) = getF p (madeT k) := takes_at (good_madeT l) (good_madeT k) (pathsF m) (fun p h => (paths_in h).1) h
theorem nodes_M (l : List Int) : nodes (madeT l) ≤ 121 := good_nodes (good_madeT l)
theorem nodes_aM (l k m : List Int) : nodes (aM l k m) ≤ 121 + 12 * 124 := by
  have h := all_more measNodes (madeT k) (pM m) (madeT l) (fun p h => (pM_in h).2)
  have h1 := nodes_M l
  have h2 := nodes_M k
  have : (pM m).length * (nodes (madeT k) + 3) ≤ 12 * 124 := Nat.mul_le_mul (pM_len m) (by omega)
  show nodes (apAll (madeT l) (pM m) (madeT k)) ≤ _
  omega
end Go.Proofs.YtondpnipoogoiaaGreatDoor.F
