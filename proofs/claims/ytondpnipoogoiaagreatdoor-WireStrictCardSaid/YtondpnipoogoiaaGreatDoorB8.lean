import Derived.Test.YtondpnipoogoiaaGreatDoorB7
import Derived.Test.YtondpnipoogoiaaGreatDoorB6
import Derived.Test.YtondpnipoogoiaaGreatDoorB5
import Derived.Lib.SplitLaws
set_option maxRecDepth 100000
set_option linter.unusedVariables false
set_option linter.unusedSimpArgs false
namespace Go.Proofs.YtondpnipoogoiaaGreatDoor.F
open Go Go.RowKit Go.Proofs.Tryz
section
variable {N : Nat} {w0 : World} {T : TL} {B : BL} {a : Act} {w : World}
theorem SimL.rowB {ow : Own} (hs : SimL N w0 ow T B a w) (b j : Nat) (τ : Ty) (l : List AV) (hb : lkp B b = some (.var l)) (hl : l[j]? = some nilv) : SimL N w0 ow T ((b, .var (l.set j (.row τ []))) :: B) a w := by
 obtain ⟨η, s⟩ := hs
 refine ⟨η, s.size, s.nod, s.frame, s.tmp, fun c X h => ?_, s.new, s.apart, s.pin, s.pinlt⟩
 rw [lkp] at h
 split at h
 ·rename_i he
  simp only [Option.some.injEq] at h
  subst h he
  obtain ⟨u, hu, hr⟩ := s.dom _ (.var l) hb
  obtain ⟨g, C, ee, rfl, q1, q2, q3⟩ := hr
  refine ⟨_, hu, g, C, ee, rfl, q1, by rw [List.length_set]; exact q2, fun i v x hv hx => ?_⟩
  rw [List.getElem?_set] at hx
  split at hx
  ·rename_i hij
   subst hij
   split at hx
   ·simp only [Option.some.injEq] at hx
    subst hx
    have hvn := (q3 j v _ hv hl).lit_inv
    rw [hvn]
    exact .row none 0 τ [] (fun _ _ => .bool false) (Nat.le_refl _) (Nat.zero_le _) (fun i x h => by simp at h) (fun i x j y h => by simp at h)
   ·cases hx
  ·exact q3 i v x hv hx
 ·exact s.dom c X h
end
def nul : Tree := .mk 1 false ⟨false, [], 0⟩ (ba []) [] []
def vM (l : List Int) : Int := placeF (l.getD 0 (dflt (.int .i64))) 1073741824
def kM (d v : Int) : Int := if d ≤ 0 ∧ 6 ≤ v.tmod 12 then v.tmod 12 - 6 else v.tmod 12
def cM (v : Int) : Nat := ((v.tdiv 12).tmod 4).toNat
def isNu (k : Int) : Bool := k == 2 || k == 3
def isA (k : Int) : Bool := k == 6 || (k == 7 || k == 8)
def txtM (v : Int) : ByteArray := (ba [97, 98, 99, 34, 92, 10, 195, 169, 122]).extract 0 (([0, 1, 2, 3, 4, 5, 6, 8, 9] : List Int).getD (((v.tdiv 12).tmod 9).toNat * 1) 0).toNat
def bytM (v : Int) : ByteArray := (ba [0, 255, 97, 98]).extract 0 ((v.tdiv 12).tmod 5).toNat
def names8 : List ByteArray := [(ba [97]), (ba [98]), (ba [99]), (ba [100, 100]), (ba [101]), (ba []), (ba [120, 47, 121]), (ba [122, 126])]
def nmM (v : Int) (i : Nat) : ByteArray := names8.getD (((v.tdiv 48) + 3 * (i : Int)).tmod 8).toNat (dflt .str)
def itA (f : List Int → Tree × List Int) : Nat → List Int → List Tree × List Int
 | 0, l => ([], l)
 | n + 1, l => ((itA f n l).1 ++ [(f (itA f n l).2).1], (f (itA f n l).2).2)
def itO (f : List Int → Tree × List Int) (v : Int) : Nat → List Int → Tree × List Int
 | 0, l => (.mk 7 false ⟨false, [], 0⟩ (ba []) [] [], l)
 | n + 1, l => (setT (itO f v n l).1 (nmM v n) (f (itO f v n l).2).1, (f (itO f v n l).2).2)
def madeV (f : List Int → Tree × List Int) (d v : Int) (l : List Int) : Tree × List Int :=
 if kM d v = 0 then (nul, l) else
 if kM d v = 1 then (.mk 2 ((v.tdiv 12).tmod 2 == 1) ⟨false, [], 0⟩ (ba []) [] [], l) else
 if isNu (kM d v) = true then (.mk 3 false (numberN (v.tdiv 12)) (ba []) [] [], l) else
 if kM d v = 4 then (.mk 4 false ⟨false, [], 0⟩ (txtM v) [] [], l) else
 if kM d v = 5 then (.mk 5 false ⟨false, [], 0⟩ (bytM v) [] [], l) else
 if isA (kM d v) = true then (.mk 6 false ⟨false, [], 0⟩ (ba []) [] (itA f (cM v) l).1, (itA f (cM v) l).2) else
 itO f v (cM v) l
def madeG (f : List Int → Tree × List Int) (d : Int) (l : List Int) : Tree × List Int :=
 if (l.length : Int) = 0 then (nul, []) else madeV f d (vM l) (l.drop 1)
def madeF : Nat → List Int → Tree × List Int
 | 0, l => madeG (fun _ => (nul, [])) 0 l
 | d + 1, l => madeG (madeF d) ((d + 1 : Nat) : Int) l
structure VF (v : Int) : Prop where
 r : 0 ≤ v ∧ v < 1073741824
 k : 0 ≤ v.tmod 12 ∧ v.tmod 12 < 12
 q : 0 ≤ v.tdiv 12 ∧ v.tdiv 12 < 1073741824
 q48 : 0 ≤ v.tdiv 48 ∧ v.tdiv 48 < 1073741824
 c : (v.tdiv 12).tmod 4 = ((cM v : Nat) : Int) ∧ cM v < 4
 m9 : 0 ≤ (v.tdiv 12).tmod 9 ∧ (v.tdiv 12).tmod 9 < 9
 m5 : 0 ≤ (v.tdiv 12).tmod 5 ∧ (v.tdiv 12).tmod 5 < 5
theorem tmn {a : Int} (h : 0 ≤ a) (k : Int) (hk : 0 < k) : 0 ≤ a.tmod k ∧ a.tmod k < k := ⟨Int.tmod_nonneg _ h, Int.tmod_lt_of_pos a hk⟩
theorem vM_in (l : List Int) : 0 ≤ vM l ∧ vM l < 1073741824 := placeF_in _ _ (by decide)
theorem vF_ok {v : Int} (h : 0 ≤ v ∧ v < 1073741824) : VF v := by
 have hq := td_in h.1 (b := 12) (by decide)
 have h48 := td_in h.1 (b := 48) (by decide)
 have h4 := tmn hq.1 4 (by decide)
 refine ⟨h, tmn h.1 12 (by decide), ⟨hq.1, by omega⟩, ⟨h48.1, by omega⟩, ?_, tmn hq.1 9 (by decide), tmn hq.1 5 (by decide)⟩
 unfold cM
 generalize (v.tdiv 12).tmod 4 = x at *
 omega
theorem kM_in {v : Int} (h : VF v) (d : Int) : 0 ≤ kM d v ∧ kM d v < 12 ∧ (d ≤ 0 → kM d v < 6) := by
 have := h.k
 unfold kM
 split <;> omega
theorem nm8 {v : Int} (h : VF v) (i : Nat) : 0 ≤ ((v.tdiv 48) + 3 * (i : Int)).tmod 8 ∧ ((v.tdiv 48) + 3 * (i : Int)).tmod 8 < 8 := tmn (by have := h.q48; omega) 8 (by decide)
theorem txt9 {v : Int} (h : VF v) : 0 ≤ ([0, 1, 2, 3, 4, 5, 6, 8, 9] : List Int).getD (((v.tdiv 12).tmod 9).toNat * 1) 0 ∧ ([0, 1, 2, 3, 4, 5, 6, 8, 9] : List Int).getD (((v.tdiv 12).tmod 9).toNat * 1) 0 ≤ 9 := by
 have h9 := h.m9
 generalize hx : ((v.tdiv 12).tmod 9).toNat * 1 = n
 have hn : n < 9 := by omega
 clear hx
 revert hn; revert n; decide
theorem dM_a {v : Int} (h : VF v) (d : Nat) (ha : isA (kM d v) = true) : 0 < d := by
 have := kM_in h d
 simp only [isA, Bool.or_eq_true, beq_iff_eq] at ha
 omega
theorem dM_o {v : Int} (h : VF v) (d : Nat) (h0 : kM d v ≠ 0) (h1 : kM d v ≠ 1) (h2 : isNu (kM d v) = false) (h4 : kM d v ≠ 4) (h5 : kM d v ≠ 5) : 0 < d := by
 have := kM_in h d
 simp only [isNu, Bool.or_eq_false_iff, beq_eq_false_iff_ne] at h2
 omega
theorem keys_ins (x : ByteArray) (v : Tree) (l : Mem) : (insA x v l).length ≤ l.length + 1 := by
 have h1 : ∀ l : Mem, (putA x v l).length = l.length + 1 := by
  intro l; induction l with
  | nil => rfl
  | cons p l ih => obtain ⟨y, u⟩ := p; simp only [putA]; split <;> simp [ih]
 have h2 : ∀ l : Mem, (repA x v l).length = l.length := by
  intro l; induction l with
  | nil => rfl
  | cons p l ih => obtain ⟨y, u⟩ := p; simp only [repA]; split <;> simp [ih]
 unfold insA
 split
 ·rw [h2]; omega
 ·rw [h1]; omega
theorem mems_le (t : Tree) : (mems t).length ≤ t.k.length := by
 by_cases hk : t.kind = 7
 ·rw [mems_len hk]; omega
 ·rw [mems_none hk]; exact Nat.zero_le _
theorem setT_len (t : Tree) (x : ByteArray) (v : Tree) : (setT t x v).k.length ≤ t.k.length + 1 ∧ (setT t x v).v.length ≤ t.k.length + 1 := by
 have h := keys_ins x v (mems t)
 have h2 := mems_le t
 show ((insA x v (mems t)).map (·.1)).length ≤ _ ∧ ((insA x v (mems t)).map (·.2)).length ≤ _
 rw [List.length_map, List.length_map]; omega
theorem itO_len (f : List Int → Tree × List Int) (v : Int) : ∀ (n : Nat) (l : List Int), (itO f v n l).1.k.length ≤ n ∧ (itO f v n l).1.v.length ≤ n
 | 0, l => ⟨Nat.le_refl _, Nat.le_refl _⟩
 | n + 1, l => by
  have ih := itO_len f v n l
  have h := setT_len (itO f v n l).1 (nmM v n) (f (itO f v n l).2).1
  show (setT (itO f v n l).1 (nmM v n) (f (itO f v n l).2).1).k.length ≤ n + 1 ∧ (setT (itO f v n l).1 (nmM v n) (f (itO f v n l).2).1).v.length ≤ n + 1
  omega
theorem itA_len (f : List Int → Tree × List Int) : ∀ (n : Nat) (l : List Int), (itA f n l).1.length = n
 | 0, l => rfl
 | n + 1, l => by simp [itA, itA_len f n l]
theorem con111  : Con Tryz.prog I0 111 [] (.own 9 .str names8) := by
 refine con_of Tryz.func111 rfl (Nat.le_of_ble_eq_true rfl) stab (fun w0 fz a hI hs => ?_)
 refine wN hs hI [] 11812525 [] .ret [(0, .own 2000)] [(2000, .sl 9 .str ([(ba [97]), (ba [98]), (ba [99]), (ba [100, 100]), (ba [101]), (ba []), (ba [120, 47, 121]), (ba [122, 126])]))] tv fun a w hs => ?_
 exact FnQ_cast (out := .own 9 .str ([(ba [97]), (ba [98]), (ba [99]), (ba [100, 100]), (ba [101]), (ba []), (ba [120, 47, 121]), (ba [122, 126])])) (rfl) (ret_ok [] hs (.inl ⟨2000, by kernel_rfl, rfl⟩))
theorem con54_ (f : List Int → Tree × List Int) (d : Nat) (hd : d < 1000) (H : 0 < d → ∀ l : List Int, Con Tryz.prog I0 54 [.row (.int .i64) l, vi ((d : Nat) - 1)] (.val (.tup [.agg [vi (((f l).1).kind), vb (((f l).1).b), vb (((f l).1).n.neg), .row (.int .u32) (((f l).1).n.m), vi (((f l).1).n.e), vs (((f l).1).s), .row .str (((f l).1).k), .row .tree (((f l).1).v)], .row (.int .i64) (f l).2]))) (l : List Int) : Con Tryz.prog I0 54 [.row (.int .i64) l, vi (d : Int)] (.val (.tup [.agg (encTree ((madeG f d l).1)), .row (.int .i64) ((madeG f d l).2)])) := by
 have hV := vF_ok (vM_in l)
 have hv_ := hV.r
 have hk_ := hV.k
 have hq_ := hV.q
 have h48_ := hV.q48
 have hc_ := hV.c
 have h9_ := hV.m9
 have h5_ := hV.m5
 have hkk := kM_in hV (d : Int)
 have ht9 := txt9 hV
 have hs9 : (ba [97, 98, 99, 34, 92, 10, 195, 169, 122]).size = 9 := rfl
 have hs4 : (ba [0, 255, 97, 98]).size = 4 := rfl
 have hn8 : names8.length = 8 := rfl
 refine con_of Tryz.func54 rfl (Nat.le_of_ble_eq_true rfl) stab (fun w0 fz a hI hs => ?_)
 refine wp_seq ?_
 refine wN hs hI [] 750 [] .norm [(0, .row (.int .i64) l), (1, vi (d : Int)), (4, .ptr 1000 0)] [(1000, .var zTr)] tv fun a w hs => ?_
 refine then_norm ?_
 refine wp_seq ?_
 rcases bt ((l.length : Int) == 0) with b1 | b1
 ·skip
  have n1 := eq_of_beq b1
  refine wN hs hI [true] 4737793144375 [ty b1] .ret [(4, .ptr 1000 0), (5, nilv)] [(1000, .var [vi 1, vb false, vb false, nilv, vi 0, vs (ba []), nilv, nilv])] ⟨b1, tv⟩ fun a w hs => ?_
  refine then_ret ?_
  exact rK (.val (.tup [.agg [vi 1, vb false, vb false, rwU ([]), vi 0, vs (ba []), rwS ([]), rwT ([])], .row (.int .i64) ([])])) [] hs (by rw [madeG, if_pos (by omega)]; rfl)
 ·skip
  have n1 := beq_eq_false_iff_ne.1 b1
  refine wN hs hI [false] 11894375 [ty b1] .norm [(0, .row (.int .i64) l), (1, vi (d : Int)), (4, .ptr 1000 0)] [(1000, .var zTr)] ⟨b1, tv⟩ fun a w hs => ?_
  refine then_norm ?_
  refine wp_seq ?_
  refine wL hs hI [(3, ⟨[(3, ciV 17 [vi (l.getD 0 (dflt (.int .i64))), vi 1073741824] (vi (vM l)))], [], []⟩)] [] 12203510 [0 ≤ (0 : Int) ∧ (0 : Int) < l.length] .norm [(0, .row (.int .i64) l), (1, vi (d : Int)), (4, .ptr 1000 0), (6, vi (vM l))] [(1000, .var zTr)] ⟨⟨⟨ent17, con17 _ _ (by decide) (by decide)⟩, tv⟩, tv⟩ ⟨(by omega), tv⟩ fun a w hs => ?_
  refine then_norm ?_
  refine wp_seq ?_
  refine wN hs hI [] 19385 [0 ≤ (1 : Int) ∧ (1 : Int) ≤ (l.length : Int) ∧ (l.length : Int) ≤ (l.length : Int) ∧ (l.length : Int) ≤ (l.length : Int)] .norm [(0, .row (.int .i64) (l.drop 1)), (1, vi (d : Int)), (4, .ptr 1000 0), (6, vi (vM l))] [(1000, .var zTr)] ⟨(by (repeat' apply And.intro) <;> (try split) <;> omega), tv⟩ fun a w hs => ?_
  refine then_norm ?_
  refine wp_seq ?_
  refine wN hs hI [] 19385 [(12 : Int) ≠ 0] .norm [(0, .row (.int .i64) (l.drop 1)), (1, vi (d : Int)), (4, .ptr 1000 0), (6, vi (vM l)), (7, vi ((vM l).tmod 12))] [(1000, .var zTr)] ⟨(by decide), tv⟩ fun a w hs => ?_
  refine then_norm ?_
  refine wp_cut (N := Tryz.f54.ntmps) (w0 := w0) (ow := noO fz) (T := [(0, .row (.int .i64) (l.drop 1)), (1, vi (d : Int)), (4, .ptr 1000 0), (6, vi (vM l)), (7, vi (kM d (vM l)))]) (B := [(1000, .var zTr)]) (True) ?_ ?_
  ·skip
   rcases bt (decide ((d : Int) ≤ 0)) with b2 | b2
   ·skip
    have n2 := of_decide_eq_true b2
    rcases bt (decide (((vM l).tmod 12) ≥ 6)) with b3 | b3
    ·skip
     have n3 := of_decide_eq_true b3
     refine wL hs hI [(6, ⟨[], gg [3, 4, 1005] [], []⟩)] [true] 1862088966369303375 [ty b2, ty b2, ty b2, ty b3, InR .i64 (((vM l).tmod 12) - 6)] .norm [(0, .row (.int .i64) (l.drop 1)), (1, vi (d : Int)), (4, .ptr 1000 0), (6, vi (vM l)), (7, vi (((vM l).tmod 12) - 6))] [(1000, .var zTr)] ⟨tv, tv⟩ ⟨b2, b2, b2, b3, (inR64 (by omega) (by omega)), tv⟩ fun a w hs => ?_
     refine then_norm ⟨trivial, ?_⟩
     (have e0_ : (((vM l).tmod 12) - 6) = (kM d (vM l)) := (by first | rfl | (first | rfl | (unfold kM; rw [if_pos (by omega)]; done) | (unfold kM; rw [if_neg (by omega)]; done) | omega)); exact (hs.cst [(0, .row (.int .i64) (l.drop 1)), (1, vi (d : Int)), (4, .ptr 1000 0), (6, vi (vM l)), (7, vi (kM d (vM l)))] [(1000, .var zTr)] (by first | (rw [e0_]; done) | (simp only [e0_]; done) | rfl | (simp only [e0_]; rfl))).rm [(1000, 1000)] (by kernel_rfl))
    ·skip
     have n3 := of_decide_eq_false b3
     refine wL hs hI [(6, ⟨[], gg [3, 4, 1005] [], []⟩)] [false] 116157531412750 [ty b2, ty b2, ty b2, ty b3] .norm [(0, .row (.int .i64) (l.drop 1)), (1, vi (d : Int)), (4, .ptr 1000 0), (6, vi (vM l)), (7, vi ((vM l).tmod 12))] [(1000, .var zTr)] ⟨tv, tv⟩ ⟨b2, b2, b2, b3, tv⟩ fun a w hs => ?_
     refine then_norm ⟨trivial, ?_⟩
     (have e0_ : ((vM l).tmod 12) = (kM d (vM l)) := (by first | rfl | (first | rfl | (unfold kM; rw [if_pos (by omega)]; done) | (unfold kM; rw [if_neg (by omega)]; done) | omega)); exact (hs.cst [(0, .row (.int .i64) (l.drop 1)), (1, vi (d : Int)), (4, .ptr 1000 0), (6, vi (vM l)), (7, vi (kM d (vM l)))] [(1000, .var zTr)] (by first | (rw [e0_]; done) | (simp only [e0_]; done) | rfl | (simp only [e0_]; rfl))).rm [(1000, 1000)] (by kernel_rfl))
   ·skip
    have n2 := of_decide_eq_false b2
    refine wL hs hI [(6, ⟨[], gg [] [3, 4, 1005], []⟩)] [false] 185852039000 [ty b2, ty b2, ty b2, false = false] .norm [(0, .row (.int .i64) (l.drop 1)), (1, vi (d : Int)), (4, .ptr 1000 0), (6, vi (vM l)), (7, vi ((vM l).tmod 12))] [(1000, .var zTr)] ⟨tv, tv⟩ ⟨b2, b2, b2, rfl, tv⟩ fun a w hs => ?_
    refine then_norm ⟨trivial, ?_⟩
    (have e0_ : ((vM l).tmod 12) = (kM d (vM l)) := (by first | rfl | (first | rfl | (unfold kM; rw [if_pos (by omega)]; done) | (unfold kM; rw [if_neg (by omega)]; done) | omega)); exact (hs.cst [(0, .row (.int .i64) (l.drop 1)), (1, vi (d : Int)), (4, .ptr 1000 0), (6, vi (vM l)), (7, vi (kM d (vM l)))] [(1000, .var zTr)] (by first | (rw [e0_]; done) | (simp only [e0_]; done) | rfl | (simp only [e0_]; rfl))).rm [(1000, 1000)] (by kernel_rfl))
  ·intro hF a w hs
   refine wp_seq ?_
   refine wp_seq ?_
   refine wN hs hI [] 25 [] .norm [(0, .row (.int .i64) (l.drop 1)), (1, vi (d : Int)), (4, .ptr 1000 0), (6, vi (vM l)), (36, vi (kM d (vM l)))] [(1000, .var zTr)] tv fun a w hs => ?_
   refine then_norm ?_
   refine wp_block ?_
   refine wp_seq ?_
   refine wN hs hI [] 750 [] .norm [(0, .row (.int .i64) (l.drop 1)), (1, vi (d : Int)), (4, .ptr 1000 0), (6, vi (vM l)), (36, vi (kM d (vM l))), (37, vb ((kM d (vM l)) == 0))] [(1000, .var zTr)] tv fun a w hs => ?_
   refine then_norm ?_
   refine cond_L (c := 37) hs (b := (kM d (vM l)) == 0) rfl (fun hb => ?_) (fun hb => ?_)
   ·have b4 := hb
    clear hb
    have n4 := eq_of_beq b4
    refine wN hs hI [] 10253125 [] .ret [(4, .ptr 1000 0), (5, .row (.int .i64) (l.drop 1))] [(1000, .var [vi 1, vb false, vb false, nilv, vi 0, vs (ba []), nilv, nilv])] tv fun a w hs => ?_
    refine inb_ret ?_
    refine then_ret ?_
    exact rK (.val (.tup [.agg [vi 1, vb false, vb false, rwU ([]), vi 0, vs (ba []), rwS ([]), rwT ([])], .row (.int .i64) (l.drop 1)])) [] hs (by rw [madeG, if_neg (by omega), madeV, if_pos (by first | omega | exact b4 | (rw [b4]; decide))]; try rfl)
   ·have b5 := hb
    clear hb
    have n5 := beq_eq_false_iff_ne.1 b5
    refine wp_seq ?_
    refine wN hs hI [] 750 [] .norm [(0, .row (.int .i64) (l.drop 1)), (1, vi (d : Int)), (4, .ptr 1000 0), (6, vi (vM l)), (36, vi (kM d (vM l))), (41, vb ((kM d (vM l)) == 1))] [(1000, .var zTr)] tv fun a w hs => ?_
    refine then_norm ?_
    refine cond_L (c := 41) hs (b := (kM d (vM l)) == 1) rfl (fun hb => ?_) (fun hb => ?_)
    ·have b6 := hb
     clear hb
     have n6 := eq_of_beq b6
     refine wN hs hI [] 4005431640685 [(12 : Int) ≠ 0 ∧ InR .i64 ((vM l).tdiv 12), (2 : Int) ≠ 0] .ret [(4, .ptr 1000 0), (5, .row (.int .i64) (l.drop 1))] [(1000, .var [vi 2, vb ((((vM l).tdiv 12).tmod 2) == 1), vb false, nilv, vi 0, vs (ba []), nilv, nilv])] ⟨⟨by decide, inR64 (by omega) (by omega)⟩, (by decide), tv⟩ fun a w hs => ?_
     refine inb_ret ?_
     refine then_ret ?_
     exact rK (.val (.tup [.agg [vi 2, vb ((((vM l).tdiv 12).tmod 2) == 1), vb false, rwU ([]), vi 0, vs (ba []), rwS ([]), rwT ([])], .row (.int .i64) (l.drop 1)])) [] hs (by rw [madeG, if_neg (by omega), madeV, if_neg (by first | omega | exact b5 | (rw [b5]; decide)), if_pos (by first | omega | exact b6 | (rw [b6]; decide))]; try rfl)
    ·have b7 := hb
     clear hb
     have n7 := beq_eq_false_iff_ne.1 b7
     refine wp_cut (N := Tryz.f54.ntmps) (w0 := w0) (ow := noO fz) (T := [(0, .row (.int .i64) (l.drop 1)), (1, vi (d : Int)), (4, .ptr 1000 0), (6, vi (vM l)), (36, vi (kM d (vM l))), (49, vb (isNu (kM d (vM l))))]) (B := [(1000, .var zTr)]) (True) ?_ ?_
     ·skip
      rcases bt ((kM d (vM l)) == 2) with b8 | b8
      ·skip
       have n8 := eq_of_beq b8
       refine wN hs hI [true] 475750 [ty b8] .norm [(0, .row (.int .i64) (l.drop 1)), (1, vi (d : Int)), (4, .ptr 1000 0), (6, vi (vM l)), (36, vi (kM d (vM l))), (49, vb ((kM d (vM l)) == 2))] [(1000, .var zTr)] ⟨b8, tv⟩ fun a w hs => ?_
       refine then_norm ⟨trivial, ?_⟩
       (have e0_ : ((kM d (vM l)) == 2) = (isNu (kM d (vM l))) := (by first | rfl | (simp only [isNu, b5, b7, b8]; rfl)); exact (hs.cst [(0, .row (.int .i64) (l.drop 1)), (1, vi (d : Int)), (4, .ptr 1000 0), (6, vi (vM l)), (36, vi (kM d (vM l))), (49, vb (isNu (kM d (vM l))))] [(1000, .var zTr)] (by first | (rw [e0_]; done) | (simp only [e0_]; done) | rfl | (simp only [e0_]; rfl))).rm [(1000, 1000)] (by kernel_rfl))
      ·skip
       have n8 := beq_eq_false_iff_ne.1 b8
       refine wN hs hI [false] 304694500 [ty b8] .norm [(0, .row (.int .i64) (l.drop 1)), (1, vi (d : Int)), (4, .ptr 1000 0), (6, vi (vM l)), (36, vi (kM d (vM l))), (49, vb ((kM d (vM l)) == 3))] [(1000, .var zTr)] ⟨b8, tv⟩ fun a w hs => ?_
       refine then_norm ⟨trivial, ?_⟩
       (have e0_ : ((kM d (vM l)) == 3) = (isNu (kM d (vM l))) := (by first | rfl | (simp only [isNu, b5, b7, b8]; rfl)); exact (hs.cst [(0, .row (.int .i64) (l.drop 1)), (1, vi (d : Int)), (4, .ptr 1000 0), (6, vi (vM l)), (36, vi (kM d (vM l))), (49, vb (isNu (kM d (vM l))))] [(1000, .var zTr)] (by first | (rw [e0_]; done) | (simp only [e0_]; done) | rfl | (simp only [e0_]; rfl))).rm [(1000, 1000)] (by kernel_rfl))
     ·intro hF a w hs
      refine cond_L (c := 49) hs (b := isNu (kM d (vM l))) rfl (fun hb => ?_) (fun hb => ?_)
      ·have b9 := hb
       clear hb
       refine wL hs hI [(15, ⟨[(2, ciV 110 [vi ((vM l).tdiv 12)] (.agg [vb ((numberN ((vM l).tdiv 12)).neg), rwU ((numberN ((vM l).tdiv 12)).m), vi ((numberN ((vM l).tdiv 12)).e)]))], [], []⟩)] [] 160217187585 [(12 : Int) ≠ 0 ∧ InR .i64 ((vM l).tdiv 12)] .ret [(4, .ptr 1000 0), (5, .row (.int .i64) (l.drop 1))] [(1000, .var [vi 3, vb false, vb ((numberN ((vM l).tdiv 12)).neg), rwU ((numberN ((vM l).tdiv 12)).m), vi ((numberN ((vM l).tdiv 12)).e), vs (ba []), nilv, nilv])] ⟨⟨⟨ent110, con110 _ (by omega)⟩, tv⟩, tv⟩ ⟨⟨by decide, inR64 (by omega) (by omega)⟩, tv⟩ fun a w hs => ?_
       refine inb_ret ?_
       refine then_ret ?_
       exact rK (.val (.tup [.agg [vi 3, vb false, vb ((numberN ((vM l).tdiv 12)).neg), rwU ((numberN ((vM l).tdiv 12)).m), vi ((numberN ((vM l).tdiv 12)).e), vs (ba []), rwS ([]), rwT ([])], .row (.int .i64) (l.drop 1)])) [] hs (by rw [madeG, if_neg (by omega), madeV, if_neg (by first | omega | exact b5 | (rw [b5]; decide)), if_neg (by first | omega | exact b7 | (rw [b7]; decide)), if_pos (by first | omega | exact b9 | (rw [b9]; decide))]; try rfl)
      ·have b10 := hb
       clear hb
       refine wp_seq ?_
       refine wN hs hI [] 750 [] .norm [(0, .row (.int .i64) (l.drop 1)), (1, vi (d : Int)), (4, .ptr 1000 0), (6, vi (vM l)), (36, vi (kM d (vM l))), (57, vb ((kM d (vM l)) == 4))] [(1000, .var zTr)] tv fun a w hs => ?_
       refine then_norm ?_
       refine cond_L (c := 57) hs (b := (kM d (vM l)) == 4) rfl (fun hb => ?_) (fun hb => ?_)
       ·have b11 := hb
        clear hb
        have n11 := eq_of_beq b11
        refine wN hs hI [] 2503395068367175 [(12 : Int) ≠ 0 ∧ InR .i64 ((vM l).tdiv 12), (9 : Int) ≠ 0, (0 ≤ (((vM l).tdiv 12).tmod 9) ∧ (((vM l).tdiv 12).tmod 9) < (9 : Nat)) ∧ (((vM l).tdiv 12).tmod 9).toNat * 1 < 9, 0 ≤ (0 : Int) ∧ (0 : Int) ≤ (([0, 1, 2, 3, 4, 5, 6, 8, 9] : List Int).getD ((((vM l).tdiv 12).tmod 9).toNat * 1) 0) ∧ (([0, 1, 2, 3, 4, 5, 6, 8, 9] : List Int).getD ((((vM l).tdiv 12).tmod 9).toNat * 1) 0) ≤ ((ba [97, 98, 99, 34, 92, 10, 195, 169, 122]).size : Int)] .ret [(4, .ptr 1000 0), (5, .row (.int .i64) (l.drop 1))] [(1000, .var [vi 4, vb false, vb false, nilv, vi 0, vs ((ba [97, 98, 99, 34, 92, 10, 195, 169, 122]).extract 0 (([0, 1, 2, 3, 4, 5, 6, 8, 9] : List Int).getD ((((vM l).tdiv 12).tmod 9).toNat * 1) 0).toNat), nilv, nilv])] ⟨⟨by decide, inR64 (by omega) (by omega)⟩, (by decide), (by omega), (by (repeat' apply And.intro) <;> (try split) <;> omega), tv⟩ fun a w hs => ?_
        refine inb_ret ?_
        refine then_ret ?_
        exact rK (.val (.tup [.agg [vi 4, vb false, vb false, rwU ([]), vi 0, vs ((ba [97, 98, 99, 34, 92, 10, 195, 169, 122]).extract 0 (([0, 1, 2, 3, 4, 5, 6, 8, 9] : List Int).getD ((((vM l).tdiv 12).tmod 9).toNat * 1) 0).toNat), rwS ([]), rwT ([])], .row (.int .i64) (l.drop 1)])) [] hs (by rw [madeG, if_neg (by omega), madeV, if_neg (by first | omega | exact b5 | (rw [b5]; decide)), if_neg (by first | omega | exact b7 | (rw [b7]; decide)), if_neg (by first | omega | exact b10 | (rw [b10]; decide)), if_pos (by first | omega | exact b11 | (rw [b11]; decide))]; try rfl)
       ·have b12 := hb
        clear hb
        have n12 := beq_eq_false_iff_ne.1 b12
        refine wp_seq ?_
        refine wN hs hI [] 750 [] .norm [(0, .row (.int .i64) (l.drop 1)), (1, vi (d : Int)), (4, .ptr 1000 0), (6, vi (vM l)), (36, vi (kM d (vM l))), (67, vb ((kM d (vM l)) == 5))] [(1000, .var zTr)] tv fun a w hs => ?_
        refine then_norm ?_
        refine cond_L (c := 67) hs (b := (kM d (vM l)) == 5) rfl (fun hb => ?_) (fun hb => ?_)
        ·have b13 := hb
         clear hb
         have n13 := eq_of_beq b13
         refine wN hs hI [] 4005431640935 [(12 : Int) ≠ 0 ∧ InR .i64 ((vM l).tdiv 12), (5 : Int) ≠ 0, 0 ≤ (0 : Int) ∧ (0 : Int) ≤ (((vM l).tdiv 12).tmod 5) ∧ (((vM l).tdiv 12).tmod 5) ≤ ((ba [0, 255, 97, 98]).size : Int)] .ret [(4, .ptr 1000 0), (5, .row (.int .i64) (l.drop 1))] [(1000, .var [vi 5, vb false, vb false, nilv, vi 0, vs ((ba [0, 255, 97, 98]).extract 0 (((vM l).tdiv 12).tmod 5).toNat), nilv, nilv])] ⟨⟨by decide, inR64 (by omega) (by omega)⟩, (by decide), (by (repeat' apply And.intro) <;> (try split) <;> omega), tv⟩ fun a w hs => ?_
         refine inb_ret ?_
         refine then_ret ?_
         exact rK (.val (.tup [.agg [vi 5, vb false, vb false, rwU ([]), vi 0, vs ((ba [0, 255, 97, 98]).extract 0 (((vM l).tdiv 12).tmod 5).toNat), rwS ([]), rwT ([])], .row (.int .i64) (l.drop 1)])) [] hs (by rw [madeG, if_neg (by omega), madeV, if_neg (by first | omega | exact b5 | (rw [b5]; decide)), if_neg (by first | omega | exact b7 | (rw [b7]; decide)), if_neg (by first | omega | exact b10 | (rw [b10]; decide)), if_neg (by first | omega | exact b12 | (rw [b12]; decide)), if_pos (by first | omega | exact b13 | (rw [b13]; decide))]; try rfl)
        ·have b14 := hb
         clear hb
         have n14 := beq_eq_false_iff_ne.1 b14
         refine wp_cut (N := Tryz.f54.ntmps) (w0 := w0) (ow := noO fz) (T := [(0, .row (.int .i64) (l.drop 1)), (1, vi (d : Int)), (4, .ptr 1000 0), (6, vi (vM l)), (75, vb (isA (kM d (vM l))))]) (B := [(1000, .var zTr)]) (True) ?_ ?_
         ·skip
          rcases bt ((kM d (vM l)) == 6) with b15 | b15
          ·skip
           have n15 := eq_of_beq b15
           refine wN hs hI [true] 475750 [ty b15] .norm [(0, .row (.int .i64) (l.drop 1)), (1, vi (d : Int)), (4, .ptr 1000 0), (6, vi (vM l)), (75, vb ((kM d (vM l)) == 6))] [(1000, .var zTr)] ⟨b15, tv⟩ fun a w hs => ?_
           refine then_norm ⟨trivial, ?_⟩
           (have e0_ : ((kM d (vM l)) == 6) = (isA (kM d (vM l))) := (by first | rfl | (simp only [isA, b5, b7, b10, b12, b14, b15]; rfl)); exact (hs.cst [(0, .row (.int .i64) (l.drop 1)), (1, vi (d : Int)), (4, .ptr 1000 0), (6, vi (vM l)), (75, vb (isA (kM d (vM l))))] [(1000, .var zTr)] (by first | (rw [e0_]; done) | (simp only [e0_]; done) | rfl | (simp only [e0_]; rfl))).rm [(1000, 1000)] (by kernel_rfl))
          ·skip
           have n15 := beq_eq_false_iff_ne.1 b15
           rcases bt ((kM d (vM l)) == 7) with b16 | b16
           ·skip
            have n16 := eq_of_beq b16
            refine wN hs hI [false, true] 190539069500 [ty b15, ty b16] .norm [(0, .row (.int .i64) (l.drop 1)), (1, vi (d : Int)), (4, .ptr 1000 0), (6, vi (vM l)), (75, vb ((kM d (vM l)) == 7))] [(1000, .var zTr)] ⟨b15, b16, tv⟩ fun a w hs => ?_
            refine then_norm ⟨trivial, ?_⟩
            (have e0_ : ((kM d (vM l)) == 7) = (isA (kM d (vM l))) := (by first | rfl | (simp only [isA, b5, b7, b10, b12, b14, b15, b16]; rfl)); exact (hs.cst [(0, .row (.int .i64) (l.drop 1)), (1, vi (d : Int)), (4, .ptr 1000 0), (6, vi (vM l)), (75, vb (isA (kM d (vM l))))] [(1000, .var zTr)] (by first | (rw [e0_]; done) | (simp only [e0_]; done) | rfl | (simp only [e0_]; rfl))).rm [(1000, 1000)] (by kernel_rfl))
           ·skip
            have n16 := beq_eq_false_iff_ne.1 b16
            refine wN hs hI [false, false] 119201769538250 [ty b15, ty b16] .norm [(0, .row (.int .i64) (l.drop 1)), (1, vi (d : Int)), (4, .ptr 1000 0), (6, vi (vM l)), (75, vb ((kM d (vM l)) == 8))] [(1000, .var zTr)] ⟨b15, b16, tv⟩ fun a w hs => ?_
            refine then_norm ⟨trivial, ?_⟩
            (have e0_ : ((kM d (vM l)) == 8) = (isA (kM d (vM l))) := (by first | rfl | (simp only [isA, b5, b7, b10, b12, b14, b15, b16]; rfl)); exact (hs.cst [(0, .row (.int .i64) (l.drop 1)), (1, vi (d : Int)), (4, .ptr 1000 0), (6, vi (vM l)), (75, vb (isA (kM d (vM l))))] [(1000, .var zTr)] (by first | (rw [e0_]; done) | (simp only [e0_]; done) | rfl | (simp only [e0_]; rfl))).rm [(1000, 1000)] (by kernel_rfl))
         ·intro hF a w hs
          refine cond_L (c := 75) hs (b := isA (kM d (vM l))) rfl (fun hb => ?_) (fun hb => ?_)
          ·have b17 := hb
           clear hb
           have hd_ : 0 < d := dM_a hV d (by assumption)
           refine wp_seq ?_
           refine wN hs hI [] 19375 [] .norm [(0, .row (.int .i64) (l.drop 1)), (1, vi (d : Int)), (4, .ptr 1000 0), (6, vi (vM l)), (8, .ptr 24001 0)] [(1000, .var zTr), (24001, .var [vi 6, vb false, vb false, nilv, vi 0, vs (ba []), nilv, nilv])] tv fun a w hs => ?_
           refine then_norm ?_
           refine wp_seq ?_
           refine wp_seq ?_
           refine wN hs hI [] 25 [] .norm [(0, .row (.int .i64) (l.drop 1)), (1, vi (d : Int)), (4, .ptr 1000 0), (6, vi (vM l)), (8, .ptr 24001 0), (9, vi 0)] [(1000, .var zTr), (24001, .var [vi 6, vb false, vb false, nilv, vi 0, vs (ba []), nilv, nilv])] tv fun a w hs => ?_
           refine then_norm ?_
           refine wp_block ?_
           refine loop_L (N := Tryz.f54.ntmps) (w0 := w0) (ow := noO fz) (α := Nat) (fun p => [(0, .row (.int .i64) ((itA f p (l.drop 1)).2)), (1, vi (d : Int)), (4, .ptr 1000 0), (6, vi (vM l)), (8, .ptr 90000001 0), (9, vi (p : Int))]) (fun p => [(1000, .var zTr), (90000001, .var [vi 6, vb false, vb false, nilv, vi 0, vs (ba []), nilv, .own 90000002]), (90000002, .sl 29 .tree ((itA f p (l.drop 1)).1))]) (fun p => p ≤ cM (vM l)) (fun p => cM (vM l) - p) 0 ?_ ?_ ?_
           ·exact Nat.zero_le _
           ·(have hs := (hs.nilB 10000005 24001 7 29 .tree [vi 6, vb false, vb false, nilv, vi 0, vs (ba []), nilv, nilv] (by kernel_rfl) (by kernel_rfl) (by decide) (by decide) (by kernel_rfl) (by kernel_rfl)).rmT [(0, .row (.int .i64) (l.drop 1)), (1, vi (d : Int)), (4, .ptr 1000 0), (6, vi (vM l)), (8, .ptr 24001 0), (9, vi 0)] [(1000, .var zTr), (24001, .var [vi 6, vb false, vb false, nilv, vi 0, vs (ba []), nilv, .own 10000005]), (10000005, .sl 29 .tree ([]))] [(1000, 1000), (24001, 24001), (10000005, 10000005)] (by kernel_rfl); exact (hs.cst [(0, .row (.int .i64) ((itA f 0 (l.drop 1)).2)), (1, vi (d : Int)), (4, .ptr 1000 0), (6, vi (vM l)), (8, .ptr 24001 0), (9, vi ((0 : Nat) : Int))] [(1000, .var zTr), (24001, .var [vi 6, vb false, vb false, nilv, vi 0, vs (ba []), nilv, .own 10000005]), (10000005, .sl 29 .tree ((itA f 0 (l.drop 1)).1))] rfl).rm [(1000, 1000), (90000001, 24001), (90000002, 10000005)] (by kernel_rfl))
           rintro i hJ a w hs
           have hal := itA_len f i (l.drop 1)
           rcases bt (decide ((i : Int) < (((vM l).tdiv 12).tmod 4))) with b18 | b18
           ·skip
            have n18 := of_decide_eq_true b18
            refine wL hs hI [(27, ⟨[(3, ciV 54 [.row (.int .i64) ((itA f i (l.drop 1)).2), vi ((d : Int) - 1)] (.tup [aTr (((f ((itA f i (l.drop 1)).2)).1)), .row (.int .i64) ((f ((itA f i (l.drop 1)).2)).2)]))], [], []⟩)] [true] 16935593538769387596406886586546910865588375300 [(12 : Int) ≠ 0 ∧ InR .i64 ((vM l).tdiv 12), (4 : Int) ≠ 0, ty b18, InR .i64 ((d : Int) - 1), ((((itA f i (l.drop 1)).1).length + 1) * 120 : Nat) ≤ 140737488355328 ∧ ((itA f i (l.drop 1)).1).length + 1 ≤ 140737488355328, InR .i64 ((i : Int) + 1)] .norm [(0, .row (.int .i64) ((f ((itA f i (l.drop 1)).2)).2)), (1, vi (d : Int)), (4, .ptr 1000 0), (6, vi (vM l)), (8, .ptr 90000001 0), (9, vi ((i : Int) + 1))] [(1000, .var zTr), (29004, .sl 29 .tree (((itA f i (l.drop 1)).1) ++ ([(Tree.et ((f ((itA f i (l.drop 1)).2)).1))]))), (90000001, .var [vi 6, vb false, vb false, nilv, vi 0, vs (ba []), nilv, .own 29004])] ⟨⟨⟨ent54, H (by omega) _⟩, tv⟩, tv⟩ ⟨⟨by decide, inR64 (by omega) (by omega)⟩, (by decide), b18, (inR64 (by omega) (by omega)), (by omega), (inR64 (by omega) (by omega)), tv⟩ fun a w hs => ?_
            refine then_norm ⟨i + 1, by omega, by omega, ?_⟩
            (have e0_ : ((f ((itA f i (l.drop 1)).2)).2) = ((itA f (i + 1) (l.drop 1)).2) := (by first | rfl | (first | omega | rfl | (simp only [itA, Tree.eta']; done) | (simp only [itA, Tree.eta']; rfl))); have e1_ : ((i : Int) + 1) = ((((i + 1) : Nat) : Int)) := (by first | rfl | (first | omega | rfl | (simp only [itA, Tree.eta']; done) | (simp only [itA, Tree.eta']; rfl))); have e2_ : (((itA f i (l.drop 1)).1) ++ ([(Tree.et ((f ((itA f i (l.drop 1)).2)).1))])) = ((itA f (i + 1) (l.drop 1)).1) := (by first | rfl | (first | omega | rfl | (simp only [itA, Tree.eta']; done) | (simp only [itA, Tree.eta']; rfl))); exact (hs.cst [(0, .row (.int .i64) ((itA f (i + 1) (l.drop 1)).2)), (1, vi (d : Int)), (4, .ptr 1000 0), (6, vi (vM l)), (8, .ptr 90000001 0), (9, vi (((i + 1) : Nat) : Int))] [(1000, .var zTr), (29004, .sl 29 .tree ((itA f (i + 1) (l.drop 1)).1)), (90000001, .var [vi 6, vb false, vb false, nilv, vi 0, vs (ba []), nilv, .own 29004])] (by first | (rw [e0_, e1_, e2_]; done) | (simp only [e0_, e1_, e2_]; done) | rfl | (simp only [e0_, e1_, e2_]; rfl))).rm [(1000, 1000), (90000001, 90000001), (90000002, 29004)] (by kernel_rfl))
           ·skip
            have n18 := of_decide_eq_false b18
            refine wN hs hI [false] 7434078425 [(12 : Int) ≠ 0 ∧ InR .i64 ((vM l).tdiv 12), (4 : Int) ≠ 0, ty b18] (.exit 1) [(0, .row (.int .i64) ((itA f i (l.drop 1)).2)), (4, .ptr 1000 0), (8, .ptr 90000001 0)] [(1000, .var zTr), (90000001, .var [vi 6, vb false, vb false, nilv, vi 0, vs (ba []), nilv, .own 90000002]), (90000002, .sl 29 .tree ((itA f i (l.drop 1)).1))] ⟨⟨by decide, inR64 (by omega) (by omega)⟩, (by decide), b18, tv⟩ fun a w hs => ?_
            refine then_exit ?_
            refine inb_hit ?_
            refine then_norm ?_
            refine wN hs hI [] 10253125 [] .ret [(4, .ptr 1000 0), (5, .row (.int .i64) ((itA f i (l.drop 1)).2))] [(1000, .var [vi 6, vb false, vb false, nilv, vi 0, vs (ba []), nilv, .own 90000002]), (90000002, .sl 29 .tree ((itA f i (l.drop 1)).1))] tv fun a w hs => ?_
            refine inb_ret ?_
            refine then_ret ?_
            exact rK (.val (.tup [.agg [vi 6, vb false, vb false, rwU ([]), vi 0, vs (ba []), rwS ([]), rwT ((itA f i (l.drop 1)).1)], .row (.int .i64) ((itA f i (l.drop 1)).2)])) [90000002] hs (by obtain rfl : i = cM (vM l) := (by omega); rw [madeG, if_neg (by omega), madeV, if_neg (by first | omega | exact b5 | (rw [b5]; decide)), if_neg (by first | omega | exact b7 | (rw [b7]; decide)), if_neg (by first | omega | exact b10 | (rw [b10]; decide)), if_neg (by first | omega | exact b12 | (rw [b12]; decide)), if_neg (by first | omega | exact b14 | (rw [b14]; decide)), if_pos (by first | omega | exact b17 | (rw [b17]; decide))]; try rfl)
          ·have b19 := hb
           clear hb
           have hd_ : 0 < d := dM_o hV d (by omega) (by omega) (by assumption) (by omega) (by omega)
           refine wN hs hI [] 0 [] .norm [(0, .row (.int .i64) (l.drop 1)), (1, vi (d : Int)), (4, .ptr 1000 0), (6, vi (vM l))] [(1000, .var zTr)] tv fun a w hs => ?_
           refine inb_norm ?_
           refine then_norm ?_
           refine wp_seq ?_
           refine wN hs hI [] 19375 [] .norm [(0, .row (.int .i64) (l.drop 1)), (1, vi (d : Int)), (4, .ptr 1000 0), (6, vi (vM l)), (12, .ptr 32001 0)] [(1000, .var zTr), (32001, .var [vi 7, vb false, vb false, nilv, vi 0, vs (ba []), nilv, nilv])] tv fun a w hs => ?_
           refine then_norm ?_
           refine wp_seq ?_
           refine wp_seq ?_
           refine wN hs hI [] 25 [] .norm [(0, .row (.int .i64) (l.drop 1)), (1, vi (d : Int)), (4, .ptr 1000 0), (6, vi (vM l)), (12, .ptr 32001 0), (13, vi 0)] [(1000, .var zTr), (32001, .var [vi 7, vb false, vb false, nilv, vi 0, vs (ba []), nilv, nilv])] tv fun a w hs => ?_
           refine then_norm ?_
           refine wp_block ?_
           refine loop_L (N := Tryz.f54.ntmps) (w0 := w0) (ow := noO fz) (α := Nat) (fun p => [(0, .row (.int .i64) ((itO f (vM l) p (l.drop 1)).2)), (1, vi (d : Int)), (4, .ptr 1000 0), (6, vi (vM l)), (12, .ptr 90000003 0), (13, vi (p : Int))]) (fun p => [(1000, .var zTr), (90000003, bTr (((itO f (vM l) p (l.drop 1)).1)))]) (fun p => p ≤ cM (vM l)) (fun p => cM (vM l) - p) 0 ?_ ?_ ?_
           ·exact Nat.zero_le _
           ·(have hs := (hs.rowB 32001 3 (.int .u32) [vi 7, vb false, vb false, nilv, vi 0, vs (ba []), nilv, nilv] (by kernel_rfl) (by kernel_rfl)).rmT [(0, .row (.int .i64) (l.drop 1)), (1, vi (d : Int)), (4, .ptr 1000 0), (6, vi (vM l)), (12, .ptr 32001 0), (13, vi 0)] [(1000, .var zTr), (32001, .var [vi 7, vb false, vb false, rwU ([]), vi 0, vs (ba []), nilv, nilv])] [(1000, 1000), (32001, 32001)] (by kernel_rfl); have hs := (hs.rowB 32001 6 .str [vi 7, vb false, vb false, rwU ([]), vi 0, vs (ba []), nilv, nilv] (by kernel_rfl) (by kernel_rfl)).rmT [(0, .row (.int .i64) (l.drop 1)), (1, vi (d : Int)), (4, .ptr 1000 0), (6, vi (vM l)), (12, .ptr 32001 0), (13, vi 0)] [(1000, .var zTr), (32001, .var [vi 7, vb false, vb false, rwU ([]), vi 0, vs (ba []), rwS ([]), nilv])] [(1000, 1000), (32001, 32001)] (by kernel_rfl); have hs := (hs.rowB 32001 7 .tree [vi 7, vb false, vb false, rwU ([]), vi 0, vs (ba []), rwS ([]), nilv] (by kernel_rfl) (by kernel_rfl)).rmT [(0, .row (.int .i64) (l.drop 1)), (1, vi (d : Int)), (4, .ptr 1000 0), (6, vi (vM l)), (12, .ptr 32001 0), (13, vi 0)] [(1000, .var zTr), (32001, .var [vi 7, vb false, vb false, rwU ([]), vi 0, vs (ba []), rwS ([]), rwT ([])])] [(1000, 1000), (32001, 32001)] (by kernel_rfl); exact (hs.cst [(0, .row (.int .i64) ((itO f (vM l) 0 (l.drop 1)).2)), (1, vi (d : Int)), (4, .ptr 1000 0), (6, vi (vM l)), (12, .ptr 32001 0), (13, vi ((0 : Nat) : Int))] [(1000, .var zTr), (32001, bTr (((itO f (vM l) 0 (l.drop 1)).1)))] rfl).rm [(1000, 1000), (90000003, 32001)] (by kernel_rfl))
           rintro i hJ a w hs
           have hn_ := nm8 hV i
           rcases bt (decide ((i : Int) < (((vM l).tdiv 12).tmod 4))) with b20 | b20
           ·skip
            have n20 := of_decide_eq_true b20
            refine wL hs hI [(35, ⟨[(3, ciV 54 [.row (.int .i64) ((itO f (vM l) i (l.drop 1)).2), vi ((d : Int) - 1)] (.tup [aTr (((f ((itO f (vM l) i (l.drop 1)).2)).1)), .row (.int .i64) ((f ((itO f (vM l) i (l.drop 1)).2)).2)]))], [], []⟩), (36, ⟨[(1, ciV 111 [] (rwS names8)), (11, ciV 22 [aTr (((itO f (vM l) i (l.drop 1)).1)), vs (names8.getD (((((vM l).tdiv 48) + (3 * (i : Int))).tmod 8).toNat) (dflt .str)), aTr (((f ((itO f (vM l) i (l.drop 1)).2)).1))] (aTr ((setT ((itO f (vM l) i (l.drop 1)).1) (names8.getD (((((vM l).tdiv 48) + (3 * (i : Int))).tmod 8).toNat) (dflt .str)) ((f ((itO f (vM l) i (l.drop 1)).2)).1)))))], [], []⟩)] [true] 4134666391301120361136881323767738649249089820666500300 [(12 : Int) ≠ 0 ∧ InR .i64 ((vM l).tdiv 12), (4 : Int) ≠ 0, ty b20, InR .i64 ((d : Int) - 1), (48 : Int) ≠ 0 ∧ InR .i64 ((vM l).tdiv 48), InR .i64 (3 * (i : Int)), InR .i64 (((vM l).tdiv 48) + (3 * (i : Int))), (8 : Int) ≠ 0, 0 ≤ ((((vM l).tdiv 48) + (3 * (i : Int))).tmod 8) ∧ ((((vM l).tdiv 48) + (3 * (i : Int))).tmod 8) < names8.length, InR .i64 ((i : Int) + 1)] .norm [(0, .row (.int .i64) ((f ((itO f (vM l) i (l.drop 1)).2)).2)), (1, vi (d : Int)), (4, .ptr 1000 0), (6, vi (vM l)), (12, .ptr 90000003 0), (13, vi ((i : Int) + 1))] [(1000, .var zTr), (90000003, bTr ((setT ((itO f (vM l) i (l.drop 1)).1) (names8.getD (((((vM l).tdiv 48) + (3 * (i : Int))).tmod 8).toNat) (dflt .str)) ((f ((itO f (vM l) i (l.drop 1)).2)).1))))] ⟨⟨⟨ent54, H (by omega) _⟩, tv⟩, ⟨⟨ent111, con111.frz⟩, ⟨ent22, con22 _ _ _ (by have := itO_len f (vM l) i (l.drop 1); omega)⟩, tv⟩, tv⟩ ⟨⟨by decide, inR64 (by omega) (by omega)⟩, (by decide), b20, (inR64 (by omega) (by omega)), ⟨by decide, inR64 (by omega) (by omega)⟩, (inR64 (by omega) (by omega)), (inR64 (by omega) (by omega)), (by decide), (by omega), (inR64 (by omega) (by omega)), tv⟩ fun a w hs => ?_
            refine then_norm ⟨i + 1, by omega, by omega, ?_⟩
            (have e0_ : ((f ((itO f (vM l) i (l.drop 1)).2)).2) = ((itO f (vM l) (i + 1) (l.drop 1)).2) := (by first | rfl | (first | omega | rfl | (simp only [itO, Tree.eta']; done) | (simp only [itO, Tree.eta']; rfl))); have e1_ : ((i : Int) + 1) = ((((i + 1) : Nat) : Int)) := (by first | rfl | (first | omega | rfl | (simp only [itO, Tree.eta']; done) | (simp only [itO, Tree.eta']; rfl))); have e2_ : ((setT ((itO f (vM l) i (l.drop 1)).1) (names8.getD (((((vM l).tdiv 48) + (3 * (i : Int))).tmod 8).toNat) (dflt .str)) ((f ((itO f (vM l) i (l.drop 1)).2)).1))) = (((itO f (vM l) (i + 1) (l.drop 1)).1)) := (by first | rfl | (first | omega | rfl | (simp only [itO, Tree.eta']; done) | (simp only [itO, Tree.eta']; rfl))); exact (hs.cst [(0, .row (.int .i64) ((itO f (vM l) (i + 1) (l.drop 1)).2)), (1, vi (d : Int)), (4, .ptr 1000 0), (6, vi (vM l)), (12, .ptr 90000003 0), (13, vi (((i + 1) : Nat) : Int))] [(1000, .var zTr), (90000003, bTr (((itO f (vM l) (i + 1) (l.drop 1)).1)))] (by first | (rw [e0_, e1_, e2_]; done) | (simp only [e0_, e1_, e2_]; done) | rfl | (simp only [e0_, e1_, e2_]; rfl))).rm [(1000, 1000), (90000003, 90000003)] (by kernel_rfl))
           ·skip
            have n20 := of_decide_eq_false b20
            refine wN hs hI [false] 7434078425 [(12 : Int) ≠ 0 ∧ InR .i64 ((vM l).tdiv 12), (4 : Int) ≠ 0, ty b20] (.exit 3) [(0, .row (.int .i64) ((itO f (vM l) i (l.drop 1)).2)), (4, .ptr 1000 0), (12, .ptr 90000003 0)] [(1000, .var zTr), (90000003, bTr (((itO f (vM l) i (l.drop 1)).1)))] ⟨⟨by decide, inR64 (by omega) (by omega)⟩, (by decide), b20, tv⟩ fun a w hs => ?_
            refine then_exit ?_
            refine inb_hit ?_
            refine then_norm ?_
            refine wN hs hI [] 10253125 [] .ret [(4, .ptr 1000 0), (5, .row (.int .i64) ((itO f (vM l) i (l.drop 1)).2))] [(1000, bTr (((itO f (vM l) i (l.drop 1)).1)))] tv fun a w hs => ?_
            exact rK (.val (.tup [aTr (((itO f (vM l) i (l.drop 1)).1)), .row (.int .i64) ((itO f (vM l) i (l.drop 1)).2)])) [] hs (by obtain rfl : i = cM (vM l) := (by omega); rw [madeG, if_neg (by omega), madeV, if_neg (by first | omega | exact b5 | (rw [b5]; decide)), if_neg (by first | omega | exact b7 | (rw [b7]; decide)), if_neg (by first | omega | exact b10 | (rw [b10]; decide)), if_neg (by first | omega | exact b12 | (rw [b12]; decide)), if_neg (by first | omega | exact b14 | (rw [b14]; decide)), if_neg (by first | omega | exact b19 | (rw [b19]; decide))]; try rfl)
theorem con54 : ∀ (d : Nat) (hd : d < 1000) (l : List Int), Con Tryz.prog I0 54 [.row (.int .i64) l, vi (d : Int)] (.val (.tup [.agg [vi (((madeF d l).1).kind), vb (((madeF d l).1).b), vb (((madeF d l).1).n.neg), .row (.int .u32) (((madeF d l).1).n.m), vi (((madeF d l).1).n.e), vs (((madeF d l).1).s), .row .str (((madeF d l).1).k), .row .tree (((madeF d l).1).v)], .row (.int .i64) (madeF d l).2]))
 | 0, hd, l => con54_ (fun _ => (nul, [])) 0 hd (fun h => absurd h (Nat.lt_irrefl _)) l
 | d + 1, hd, l => con54_ (madeF d) (d + 1) hd (fun _ l => by rw [show (((d + 1 : Nat) : Int) - 1) = (d : Int) by omega]; exact con54 d (by omega) l) l
theorem starts_len {a b : List ByteArray} (h : b.length < a.length) : startsF a b = false := by
 unfold startsF; rw [decide_eq_false (by omega)]; rfl
theorem starts_no {a b : List ByteArray} {i : Nat} (h1 : i < a.length) (h2 : i < b.length) (h : eqT (a.getD i (dflt .str)) (b.getD i (dflt .str)) = false) : startsF a b = false := by
 unfold startsF
 rw [Bool.and_eq_false_iff]
 refine .inr (decide_eq_false (fun e => ?_))
 rw [eqT_ne] at h
 apply h
 rw [e, List.getD_eq_getElem?_getD, List.getD_eq_getElem?_getD, List.getElem?_take, if_pos h1]
theorem starts_yes {a b : List ByteArray} (h1 : a.length ≤ b.length) (h : ∀ j, j < a.length → eqT (a.getD j (dflt .str)) (b.getD j (dflt .str)) = true) : startsF a b = true := by
 unfold startsF
 rw [decide_eq_true (by omega), Bool.true_and]
 refine decide_eq_true (list_eq (by rw [List.length_take]; omega) (fun j hj d => ?_))
 have := eqT_iff.1 (h j hj)
 rw [getD_any hj d (dflt .str), this, List.getD_eq_getElem?_getD, List.getD_eq_getElem?_getD, List.getElem?_take, if_pos hj, List.getElem?_eq_getElem (by omega)]; rfl
inductive Inc : List ByteArray → List ByteArray → Prop
 | ne (x y : ByteArray) (p q : List ByteArray) (h : eqT y x = false) : Inc (x :: p) (y :: q)
 | eq (x : ByteArray) (p q : List ByteArray) (h : Inc p q) : Inc (x :: p) (x :: q)
theorem Inc.symm {p q : List ByteArray} (h : Inc p q) : Inc q p := by
 induction h with
 | ne x y p q h => exact .ne y x q p (by rw [eqT_comm]; exact h)
 | eq x p q _ ih => exact .eq x q p ih
theorem keys_rep (x : ByteArray) (v : Tree) : ∀ l : Mem, (repA x v l).map (·.1) = l.map (·.1)
 | [] => rfl
 | (y, u) :: l => by
  simp only [repA]
  split
  ·rfl
  ·simp [keys_rep x v l]
theorem look_in {x : ByteArray} : ∀ {l : Mem}, x ∈ l.map (·.1) → (lookA x l).isSome = true
 | [], h => by simp at h
 | (y, u) :: l, h => by
  simp only [lookA]
  split
  ·rfl
  ·rename_i hne
   simp only [List.map_cons, List.mem_cons] at h
   rcases h with h | h
   ·exact absurd (eqT_iff.2 h) hne
   ·exact look_in h
theorem del_sub (x : ByteArray) : ∀ l : Mem, (delA x l).Sublist l
 | [] => List.Sublist.refl _
 | (y, u) :: l => by
  simp only [delA]
  split
  ·exact List.sublist_cons_self _ _
  ·exact (del_sub x l).cons_cons _
theorem starts_iff {a b : List ByteArray} : startsF a b = true ↔ a <+: b := by
 unfold startsF
 rw [Bool.and_eq_true, decide_eq_true_iff, decide_eq_true_iff, List.prefix_iff_eq_take]
 exact ⟨fun h => h.2, fun h => ⟨by have := congrArg List.length h; rw [List.length_take] at this; omega, h⟩⟩
theorem starts_nil (b : List ByteArray) : startsF [] b = true := starts_iff.2 (List.nil_prefix)
theorem starts_self (b : List ByteArray) : startsF b b = true := starts_iff.2 (List.prefix_refl _)
theorem starts_cons {x y : ByteArray} {p q : List ByteArray} : startsF (x :: p) (y :: q) = true ↔ x = y ∧ startsF p q = true := by
 rw [starts_iff, starts_iff, List.cons_prefix_cons]
theorem inc_of : ∀ {p q : List ByteArray}, startsF p q = false → startsF q p = false → Inc p q
 | [], q, h, _ => by rw [starts_nil] at h; cases h
 | _ :: _, [], _, h => by rw [starts_nil] at h; cases h
 | x :: p, y :: q, h1, h2 => by
  cases he : eqT y x with
  | false => exact .ne x y p q he
  | true =>
   rw [eqT_iff] at he
   subst he
   refine .eq _ p q (inc_of ?_ ?_)
   ·cases h : startsF p q with
    | false => rfl
    | true => rw [starts_cons.2 ⟨rfl, h⟩] at h1; cases h1
   ·cases h : startsF q p with
    | false => rfl
    | true => rw [starts_cons.2 ⟨rfl, h⟩] at h2; cases h2
theorem Inc.no {p q : List ByteArray} (h : Inc p q) : startsF p q = false := by
 induction h with
 | ne x y p q h =>
  cases hs : startsF (x :: p) (y :: q) with
  | false => rfl
  | true =>
   have := (starts_cons.1 hs).1
   subst this
   rw [eqT_self] at h; cases h
 | eq x p q _ ih =>
  cases hs : startsF (x :: p) (x :: q) with
  | false => rfl
  | true => rw [(starts_cons.1 hs).2] at ih; cases ih
abbrev Le (a b : List ByteArray) : Prop := ¬ cmpS b a < 0
theorem Le.trans {a b c : List ByteArray} (h1 : Le a b) (h2 : Le b c) : Le a c := cmpS_le_trans h2 h1
theorem Le.refl (a : List ByteArray) : Le a a := by unfold Le; rw [cmpS_self]; decide
theorem pre_between : ∀ {x y z : List ByteArray}, startsF x z = true → Le x y → Le y z → startsF x y = true
 | [], y, z, _, _, _ => starts_nil y
 | a :: x, y, [], h, _, _ => by
  have := starts_iff.1 h
  simp at this
 | a :: x, [], b :: z, h, h1, _ => absurd (by simp [cmpS]) h1
 | a :: x, c :: y, b :: z, h, h1, h2 => by
  obtain ⟨rfl, h0⟩ := starts_cons.1 h
  unfold Le at h1 h2
  rw [cmpS] at h1 h2
  rcases ltB_tri a c with h3 | rfl | h3
  ·rw [cmpB_of_lt h3, if_neg (by decide)] at h2; exact absurd (by decide) h2
  ·rw [cmpB_self, if_pos rfl] at h1 h2
   exact starts_cons.2 ⟨rfl, pre_between h0 h1 h2⟩
  ·rw [cmpB_of_lt h3, if_neg (by decide)] at h1; exact absurd (by decide) h1
theorem pre_le : ∀ {x y : List ByteArray}, startsF x y = true → Le x y
 | [], [], _ => Le.refl _
 | [], _ :: _, _ => by unfold Le; simp [cmpS]
 | _ :: _, [], h => by have := starts_iff.1 h; simp at this
 | a :: x, b :: y, h => by
  obtain ⟨rfl, h0⟩ := starts_cons.1 h
  unfold Le
  rw [cmpS, cmpB_self, if_pos rfl]
  exact pre_le h0
theorem step_nil (p : List ByteArray) : normStep [] p = [p] := rfl
theorem step_snoc (i : List (List ByteArray)) (o p : List ByteArray) : normStep (i ++ [o]) p = if startsF o p = true then i ++ [o] else i ++ [o] ++ [p] := by
 have e : (i ++ [o]).getD (((i ++ [o]).length : Int) - 1).toNat (dflt .strs) = o := by
  rw [show (((i ++ [o]).length : Int) - 1).toNat = i.length by simp]
  simp [List.getD]
 unfold normStep
 rw [e, if_pos (by rw [decide_eq_true_iff]; simp)]
theorem fold_inc : ∀ (s i : List (List ByteArray)) (o : List ByteArray), (i ++ [o]).Pairwise Inc → (∀ x ∈ i, Le x o) → (∀ p ∈ s, Le o p) → s.Pairwise Le → (s.foldl normStep (i ++ [o])).Pairwise Inc
 | [], i, o, h, _, _, _ => h
 | p :: s, i, o, h, hi, ho, hs => by
  rw [List.pairwise_cons] at hs
  rw [List.foldl_cons, step_snoc]
  have hop := ho p (by simp)
  split
  ·exact fold_inc s i o h hi (fun q hq => ho q (by simp [hq])) hs.2
  ·rename_i hn
   have hn' : startsF o p = false := by simpa using hn
   have hle : ∀ x ∈ i ++ [o], Le x p := fun x hx => by
    rcases List.mem_append.1 hx with hx | hx
    ·exact (hi x hx).trans hop
    ·simp at hx; subst hx; exact hop
   refine fold_inc s (i ++ [o]) p ?_ hle hs.1 hs.2
   rw [List.pairwise_append]
   refine ⟨h, List.pairwise_singleton _ _, fun x hx y hy => ?_⟩
   simp at hy
   subst hy
   have h1 : startsF x y = false := by
    cases hxp : startsF x y with
    | false => rfl
    | true =>
     exfalso
     rcases List.mem_append.1 hx with hx | hx
     ·have h2 := pre_between hxp (hi x hx) hop
      rw [List.pairwise_append] at h
      rw [(h.2.2 x hx o (by simp)).no] at h2; cases h2
     ·simp at hx; subst hx
      rw [hxp] at hn'; cases hn'
   refine inc_of h1 ?_
   cases h2 : startsF y x with
   | false => rfl
   | true =>
    have := cmpS_anti (xs := y) (ys := x) (hle x hx) (pre_le h2)
    subst this
    rw [starts_self] at h1; cases h1
theorem sortP_le (l : List (List ByteArray)) : (sortP l).Pairwise Le := by
 have h := List.pairwise_mergeSort (le := fun x y : List ByteArray => !decide (cmpS y x < 0)) (fun a b c h1 h2 => by
  simp only [Bool.not_eq_true', decide_eq_false_iff_not] at *; exact cmpS_le_trans h2 h1) (fun a b => by
  by_cases h : cmpS b a < 0
  ·have h2 : ¬ cmpS a b < 0 := fun h3 => by have := cmpS_trans h h3; rw [cmpS_self] at this; exact absurd this (by decide)
   simp [h2]
  ·simp [h]) l
 exact h.imp (fun h => by unfold Le; simpa using h)
theorem normF_inc (l : List (List ByteArray)) : (normF l).Pairwise Inc := by
 unfold normF
 have h := sortP_le l
 cases hs : sortP l with
 | nil => exact List.Pairwise.nil
 | cons p s =>
  rw [hs, List.pairwise_cons] at h
  rw [List.foldl_cons, step_nil]
  exact fold_inc s [] p (List.pairwise_singleton _ _) (fun x hx => by simp at hx) h.1 h.2
structure OneOk (t : Tree) : Prop where
 own : ownO t = true
 bulk : bulk t ≤ 10
 ok : Ok t.n.m
 len : t.n.m.length ≤ 3
 k : t.k.length ≤ 3
 nd : Nodup (mems t)
 sorted : ((mems t).map (·.1)).Pairwise ltB
 texts : ∀ p ∈ mems t, textOk p.1 = true
def GoodT : Nat → Tree → Prop
 | 0, _ => False
 | d + 1, t => OneOk t ∧ t.v.length ≤ 3 ∧ ∀ u ∈ t.v, GoodT d u
theorem nodesL_B {B : Nat} : ∀ {l : List Tree}, (∀ u ∈ l, nodes u ≤ B) → nodesL l ≤ l.length * B
 | [], _ => by simp [nodesL]
 | x :: l, h => by
  have h1 := h x (by simp)
  have h2 := nodesL_B (l := l) (fun u hu => h u (by simp [hu]))
  simp only [nodesL, List.length_cons, Nat.succ_mul]; omega
def mostN : Nat → Nat
 | 0 => 0
 | d + 1 => 1 + 3 * mostN d
theorem good_nodes : ∀ {d : Nat} {t : Tree}, GoodT d t → nodes t ≤ mostN d
 | 0, _, h => h.elim
 | d + 1, t, ⟨h1, h2, h3⟩ => by
  have h := nodesL_B (fun u hu => good_nodes (h3 u hu))
  have h4 := nodes_eq t
  have h5 : t.v.length * mostN d ≤ 3 * mostN d := Nat.mul_le_mul_right _ h2
  simp only [mostN]; omega
theorem mem_cutV {t : Tree} {x : ByteArray} (h : memB t x = true) : memV t x ∈ t.v := by
 have h0 : idxT x (cutK t) ≥ 0 := of_decide_eq_true h
 have h1 := idxT_in x (cutK t)
 have h2 := cut_len t
 rw [(memV_pos h0).1]
 have h3 : (idxT x (cutK t)).toNat < (cutV t).length := by omega
 refine cutV_sub ?_
 rw [List.getD_eq_getElem?_getD, List.getElem?_eq_getElem h3]
 exact List.getElem_mem h3
theorem leaf {d : Nat} {t : Tree} (h : OneOk t) (hv : t.v = []) : GoodT (d + 1) t := ⟨h, by rw [hv]; decide, fun u hu => by rw [hv] at hu; simp at hu⟩
theorem nd_leaf {t : Tree} (h : t.v = []) : Nodup (mems t) := by
 have : (mems t).length = 0 := by
  have h1 : ((mems t).map (·.2)).length = (cutV t).length := by rw [mems_v]
  rw [List.length_map] at h1
  rw [h1]; unfold cutV
  split
  ·rw [h, List.take_nil]; rfl
  ·rfl
 rw [List.eq_nil_of_length_eq_zero this]; exact List.nodup_nil
theorem no_mems {t : Tree} (h : t.v = []) : mems t = [] := by
 have : (mems t).length = 0 := by
  have h1 : ((mems t).map (·.2)).length = (cutV t).length := by rw [mems_v]
  rw [List.length_map] at h1
  rw [h1]; unfold cutV
  split
  ·rw [h, List.take_nil]; rfl
  ·rfl
 exact List.eq_nil_of_length_eq_zero this
theorem so_leaf {t : Tree} (h : t.v = []) : ((mems t).map (·.1)).Pairwise ltB := by rw [no_mems h]; exact List.Pairwise.nil
theorem te_leaf {t : Tree} (h : t.v = []) : ∀ p ∈ mems t, textOk p.1 = true := by rw [no_mems h]; intro p hp; simp at hp
theorem one_nul : OneOk nul := ⟨by kernel_rfl, by decide, Ok.nil, Nat.zero_le _, Nat.zero_le _, nd_leaf rfl, so_leaf rfl, te_leaf rfl⟩
theorem one_bool (b : Bool) : OneOk (.mk 2 b ⟨false, [], 0⟩ (ba []) [] []) := ⟨by cases b <;> kernel_rfl, by cases b <;> decide, Ok.nil, Nat.zero_le _, Nat.zero_le _, nd_leaf rfl, so_leaf rfl, te_leaf rfl⟩
theorem one_num {n : Num} (h : FineN n) : OneOk (.mk 3 false n (ba []) [] []) := by
 refine ⟨?_, ?_, h.ok, h.len, Nat.zero_le _, nd_leaf rfl, so_leaf rfl, te_leaf rfl⟩
 ·simp [ownO, truthO, numO, textO, keysO, itemsO, Tree.kind, Tree.b, Tree.n, Tree.s, Tree.k, Tree.v, h.check]
 ·have := h.len
  rw [bulk_3 rfl]; show 1 + n.m.length ≤ 10; omega
theorem one_text {s : ByteArray} (h : textOk s = true) (h2 : s.size ≤ 9) : OneOk (.mk 4 false ⟨false, [], 0⟩ s [] []) := by
 refine ⟨?_, ?_, Ok.nil, Nat.zero_le _, Nat.zero_le _, nd_leaf rfl, so_leaf rfl, te_leaf rfl⟩
 ·simp [ownO, truthO, numO, ownN, textO, keysO, itemsO, Tree.kind, Tree.b, Tree.n, Tree.s, Tree.k, Tree.v, h]
 ·rw [bulk_4 rfl]; show 1 + s.size ≤ 10; omega
theorem one_bytes {s : ByteArray} (h2 : s.size ≤ 9) : OneOk (.mk 5 false ⟨false, [], 0⟩ s [] []) := by
 refine ⟨?_, ?_, Ok.nil, Nat.zero_le _, Nat.zero_le _, nd_leaf rfl, so_leaf rfl, te_leaf rfl⟩
 ·simp [ownO, truthO, numO, ownN, textO, keysO, itemsO, Tree.kind, Tree.b, Tree.n, Tree.s, Tree.k, Tree.v]; exact decide_eq_true (by omega)
 ·rw [bulk_5 rfl]; show 1 + s.size ≤ 10; omega
theorem one_arr {v : List Tree} (h : v.length ≤ 3) : OneOk (.mk 6 false ⟨false, [], 0⟩ (ba []) [] v) := by
 have hm : mems (.mk 6 false ⟨false, [], 0⟩ (ba []) [] v) = [] := mems_none (by show ¬ (6 : Int) = 7; decide)
 refine ⟨?_, (by rw [bulk_0 (by show ¬ (6 : Int) = 3; decide) (by show ¬ (6 : Int) = 4; decide) (by show ¬ (6 : Int) = 5; decide)]; decide), Ok.nil, Nat.zero_le _, Nat.zero_le _, ?_, by rw [hm]; exact List.Pairwise.nil, by rw [hm]; intro p hp; simp at hp⟩
 ·simp [ownO, truthO, numO, ownN, textO, keysO, itemsO, Tree.kind, Tree.b, Tree.n, Tree.s, Tree.k, Tree.v]; exact decide_eq_true (by omega)
 ·rw [mems_none (by show ¬ (6 : Int) = 7; decide)]; exact List.nodup_nil
theorem txtM_ok {v : Int} (h : VF v) : textOk (txtM v) = true ∧ (txtM v).size ≤ 9 := by
 have h9 := h.m9
 unfold txtM
 generalize hx : ((v.tdiv 12).tmod 9).toNat * 1 = n
 have hn : n < 9 := by omega
 clear hx
 revert hn; revert n; decide +kernel
theorem bytM_ok {v : Int} (h : VF v) : (bytM v).size ≤ 9 := by
 have h5 := h.m5
 unfold bytM
 generalize hx : ((v.tdiv 12).tmod 5).toNat = n
 have hn : n < 5 := by omega
 clear hx
 revert hn; revert n; decide +kernel
theorem nmM_ok {v : Int} (h : VF v) (i : Nat) : textOk (nmM v i) = true := by
 have h8 := nm8 h i
 unfold nmM
 generalize hx : (((v.tdiv 48) + 3 * (i : Int)).tmod 8).toNat = n
 have hn : n < 8 := by omega
 clear hx
 revert hn; revert n; decide +kernel
theorem gtB_iff {a b : ByteArray} : gtB a b = true ↔ ltB b a := by
 unfold gtB
 rcases ltB_tri a b with h | h | h
 ·rw [ltB_less.2 h]; simp; exact fun h2 => ltB_irrefl _ (ltB_trans h h2)
 ·subst h; simp [ltB_irrefl]
 ·have h1 : Op.bytesLess a.toList b.toList = false := by
   cases hb : Op.bytesLess a.toList b.toList with
   | false => rfl
   | true => exact absurd (ltB_trans h (ltB_less.1 hb)) (ltB_irrefl _)
  have h2 : (a.toList == b.toList) = false := by
   cases hb : a.toList == b.toList with
   | false => rfl
   | true => have := toList_inj (eq_of_beq hb); subst this; exact absurd h (ltB_irrefl _)
  rw [h1, h2]; simp [h]
theorem put_mem {x : ByteArray} {v : Tree} {p : ByteArray × Tree} : ∀ {l : Mem}, p ∈ putA x v l → p = (x, v) ∨ p ∈ l
 | [], h => by simp [putA] at h; exact .inl h
 | (y, u) :: l, h => by
  simp only [putA] at h
  split at h
  ·rcases List.mem_cons.1 h with h | h
   ·exact .inl h
   ·exact .inr h
  ·rcases List.mem_cons.1 h with h | h
   ·exact .inr (by simp [h])
   ·rcases put_mem h with h | h
    ·exact .inl h
    ·exact .inr (by simp [h])
theorem rep_mem {x : ByteArray} {v : Tree} {p : ByteArray × Tree} : ∀ {l : Mem}, p ∈ repA x v l → p = (x, v) ∨ p ∈ l
 | [], h => by simp [repA] at h
 | (y, u) :: l, h => by
  simp only [repA] at h
  split at h
  ·rename_i he
   rw [eqT_iff] at he
   subst he
   rcases List.mem_cons.1 h with h | h
   ·exact .inl h
   ·exact .inr (by simp [h])
  ·rcases List.mem_cons.1 h with h | h
   ·exact .inr (by simp [h])
   ·rcases rep_mem h with h | h
    ·exact .inl h
    ·exact .inr (by simp [h])
theorem ins_mem {x : ByteArray} {v : Tree} {p : ByteArray × Tree} {l : Mem} (h : p ∈ insA x v l) : p = (x, v) ∨ p ∈ l := by
 unfold insA at h
 split at h
 ·exact rep_mem h
 ·exact put_mem h
theorem put_sorted {x : ByteArray} {v : Tree} : ∀ {l : Mem}, x ∉ l.map (·.1) → (l.map (·.1)).Pairwise ltB → ((putA x v l).map (·.1)).Pairwise ltB
 | [], _, _ => by simp [putA]
 | (y, u) :: l, hx, h => by
  have hall := h
  simp only [List.map_cons, List.mem_cons, not_or] at hx
  rw [List.map_cons, List.pairwise_cons] at h
  simp only [putA]
  split
  ·rename_i hg
   rw [gtB_iff] at hg
   rw [List.map_cons, List.pairwise_cons]
   refine ⟨fun z hz => ?_, hall⟩
   rw [List.map_cons, List.mem_cons] at hz
   rcases hz with rfl | hz
   ·exact hg
   ·exact ltB_trans hg (h.1 z hz)
  ·rename_i hg
   rw [List.map_cons, List.pairwise_cons]
   refine ⟨fun z hz => ?_, put_sorted hx.2 h.2⟩
   obtain ⟨p, hp, rfl⟩ := List.mem_map.1 hz
   rcases put_mem hp with rfl | hp
   ·rcases ltB_tri y x with h3 | h3 | h3
    ·exact h3
    ·exact absurd h3.symm hx.1
    ·exact absurd (gtB_iff.2 h3) hg
   ·exact h.1 _ (List.mem_map.2 ⟨p, hp, rfl⟩)
theorem ins_sorted {x : ByteArray} {v : Tree} {l : Mem} (h : (l.map (·.1)).Pairwise ltB) : ((insA x v l).map (·.1)).Pairwise ltB := by
 unfold insA
 split
 ·rw [keys_rep]; exact h
 ·rename_i hn
  exact put_sorted (fun hm => hn (look_in hm)) h
theorem names_ok {l : List ByteArray} (h1 : ∀ x ∈ l, textOk x = true) (h2 : l.Pairwise ltB) (h3 : l.length ≤ 300) : namesOk l = true := by
 unfold namesOk
 rw [decide_eq_true (by omega), Bool.and_true]
 refine all_yes' (fun j hj => ?_)
 unfold nmOk
 have e : ∀ i (hi : i < l.length), l.getD i (dflt .str) = l[i] := fun i hi => by rw [List.getD_eq_getElem?_getD, List.getElem?_eq_getElem hi]; rfl
 rw [e j hj, h1 _ (List.getElem_mem hj), Bool.true_and]
 cases j with
 | zero => rfl
 | succ j =>
  rw [show ((((j + 1 : Nat) : Int)) - 1).toNat = j by omega, e j (by omega), ltB_less.2 (List.pairwise_iff_getElem.1 h2 j (j + 1) (by omega) hj (by omega)), Bool.or_true]
theorem nodup_sorted {l : List ByteArray} (h : l.Pairwise ltB) : l.Nodup := h.imp (fun h e => by subst e; exact ltB_irrefl _ h)
theorem own_obj {L : Mem} (hl : L.length ≤ 300) (hs : (L.map (·.1)).Pairwise ltB) (ht : ∀ p ∈ L, textOk p.1 = true) : ownO (objM L) = true := by
 have hn : namesOk (L.map (·.1)) = true := names_ok (fun x hx => by obtain ⟨p, hp, rfl⟩ := List.mem_map.1 hx; exact ht p hp) hs (by rw [List.length_map]; omega)
 simp [ownO, truthO, numO, ownN, textO, keysO, itemsO, objM, Tree.kind, Tree.b, Tree.n, Tree.s, Tree.k, Tree.v, hn]; omega
theorem one_obj {L : Mem} (hl : L.length ≤ 3) (hs : (L.map (·.1)).Pairwise ltB) (ht : ∀ p ∈ L, textOk p.1 = true) : OneOk (objM L) := by
 have hn : namesOk (L.map (·.1)) = true := names_ok (fun x hx => by obtain ⟨p, hp, rfl⟩ := List.mem_map.1 hx; exact ht p hp) hs (by rw [List.length_map]; omega)
 refine ⟨?_, ?_, Ok.nil, Nat.zero_le _, by show (L.map (·.1)).length ≤ 3; rw [List.length_map]; exact hl, by unfold Nodup; rw [mems_objM]; exact nodup_sorted hs, by rw [mems_objM]; exact hs, by rw [mems_objM]; exact ht⟩
 ·simp [ownO, truthO, numO, ownN, textO, keysO, itemsO, objM, Tree.kind, Tree.b, Tree.n, Tree.s, Tree.k, Tree.v, hn]; omega
 ·rw [bulk_0 (by show ¬ (7 : Int) = 3; decide) (by show ¬ (7 : Int) = 4; decide) (by show ¬ (7 : Int) = 5; decide)]; decide
theorem itO_good {f : List Int → Tree × List Int} {v : Int} {d : Nat} (hv : VF v) (hf : ∀ l, GoodT d (f l).1) : ∀ (n : Nat) (l : List Int), ∃ L : Mem, (itO f v n l).1 = objM L ∧ L.length ≤ n ∧ (L.map (·.1)).Pairwise ltB ∧ (∀ p ∈ L, textOk p.1 = true ∧ GoodT d p.2)
 | 0, l => ⟨[], rfl, Nat.le_refl _, List.Pairwise.nil, fun p hp => by simp at hp⟩
 | n + 1, l => by
  obtain ⟨L, h1, h2, h3, h4⟩ := itO_good hv hf n l
  refine ⟨insA (nmM v n) (f (itO f v n l).2).1 L, ?_, ?_, ins_sorted h3, fun p hp => ?_⟩
  ·show setT (itO f v n l).1 _ _ = _
   unfold setT; rw [h1, mems_objM]
  ·have := keys_ins (nmM v n) (f (itO f v n l).2).1 L; omega
  ·rcases ins_mem hp with rfl | hp
   ·exact ⟨nmM_ok hv n, hf _⟩
   ·exact h4 p hp
theorem itA_good {f : List Int → Tree × List Int} {d : Nat} (hf : ∀ l, GoodT d (f l).1) : ∀ (n : Nat) (l : List Int), ∀ u ∈ (itA f n l).1, GoodT d u
 | 0, l, u, h => by simp [itA] at h
 | n + 1, l, u, h => by
  simp only [itA, List.mem_append, List.mem_singleton] at h
  rcases h with h | rfl
  ·exact itA_good hf n l u h
  ·exact hf _
theorem good_G {f : List Int → Tree × List Int} {d : Nat} (hf : 0 < d → ∀ l, GoodT d (f l).1) (l : List Int) : GoodT (d + 1) (madeG f d l).1 := by
 unfold madeG
 split
 ·exact leaf one_nul rfl
 ·have hv := vF_ok (vM_in l)
  have hc := hv.c.2
  generalize vM l = v at hv hc
  unfold madeV
  split
  ·exact leaf one_nul rfl
  ·split
   ·exact leaf (one_bool _) rfl
   ·split
    ·exact leaf (one_num (fineN_number _)) rfl
    ·split
     ·exact leaf (one_text (txtM_ok hv).1 (txtM_ok hv).2) rfl
     ·split
      ·exact leaf (one_bytes (bytM_ok hv)) rfl
      ·split
       ·rename_i ha
        have h0 := dM_a hv d ha
        have hlen : (itA f (cM v) (l.drop 1)).1.length ≤ 3 := by rw [itA_len]; omega
        exact ⟨one_arr hlen, hlen, itA_good (hf h0) _ _⟩
       ·rename_i h0 h1 h2 h4 h5 h6
        have hd := dM_o hv d h0 h1 (by simpa using h2) h4 h5
        obtain ⟨L, e1, e2, e3, e4⟩ := itO_good hv (hf hd) (cM v) (l.drop 1)
        rw [e1]
        refine ⟨one_obj (by omega) e3 (fun p hp => (e4 p hp).1), ?_, fun u hu => ?_⟩
        ·show (L.map (·.2)).length ≤ 3; rw [List.length_map]; omega
        ·obtain ⟨p, hp, rfl⟩ := List.mem_map.1 (show u ∈ L.map (·.2) from hu)
         exact (e4 p hp).2
theorem good_made : ∀ (d : Nat) (l : List Int), GoodT (d + 1) (madeF d l).1
 | 0, l => good_G (f := fun _ => (nul, [])) (d := 0) (fun h => absurd h (Nat.lt_irrefl _)) l
 | d + 1, l => good_G (f := madeF d) (d := d + 1) (fun _ l => good_made d l) l
def spl (c : UInt8) : List UInt8 → List (List UInt8)
 | [] => [[]]
 | b :: l => if b = c then [] :: spl c l else match spl c l with
  | [] => [[b]]
  | h :: t => (b :: h) :: t
theorem spl_ne (c : UInt8) : ∀ l, spl c l ≠ []
 | [] => by simp [spl]
 | b :: l => by
  unfold spl
  split
  ·simp
  ·split <;> simp
theorem spl_eq (c : UInt8) : ∀ (x y : List UInt8), spl c (x ++ c :: y) = spl c x ++ spl c y
 | [], y => by simp [spl]
 | b :: x, y => by
  have ih := spl_eq c x y
  simp only [List.cons_append, spl]
  by_cases h : b = c
  ·rw [if_pos h, if_pos h, ih]; rfl
  ·rw [if_neg h, if_neg h, ih]
   cases hs : spl c x with
   | nil => exact absurd hs (spl_ne c x)
   | cons p q => rfl
theorem spl_free {c : UInt8} : ∀ {x : List UInt8}, c ∉ x → spl c x = [x]
 | [], _ => rfl
 | b :: x, h => by
  simp only [List.mem_cons, not_or] at h
  simp only [spl]
  rw [if_neg (fun e => h.1 e.symm), spl_free h.2]
def jt (c : UInt8) (r : List (List UInt8)) : List UInt8 := (r.map (c :: ·)).flatten
theorem jt_cons (c : UInt8) (y : List UInt8) (r : List (List UInt8)) : jt c (y :: r) = c :: (y ++ jt c r) := by simp [jt]
theorem spl_jt {c : UInt8} : ∀ (r : List (List UInt8)) (x : List UInt8), c ∉ x → (∀ y ∈ r, c ∉ y) → spl c (x ++ jt c r) = x :: r
 | [], x, hx, _ => by simp [jt, spl_free hx]
 | y :: r, x, hx, hr => by
  rw [jt_cons, spl_eq, spl_free hx, spl_jt r y (hr y (List.mem_cons_self ..)) (fun z hz => hr z (List.mem_cons_of_mem _ hz))]; rfl
theorem ba_data (l : List UInt8) : (ba l).data.toList = l := by simp [ba]
theorem ba_of (s : ByteArray) : ba s.data.toList = s := by simp [ba]
theorem idx_hit (c : UInt8) (l : List UInt8) : Lib.index (c :: l) [c] = 0 := by rw [Lib.index]; simp [List.isPrefixOf]
theorem idx_ne (b c : UInt8) (l : List UInt8) (h : b ≠ c) : Lib.index (b :: l) [c] = if Lib.index l [c] == -1 then -1 else Lib.index l [c] + 1 := by
 have hp : ([c] : List UInt8).isPrefixOf (b :: l) = false := by simp [List.isPrefixOf, Ne.symm h]
 rw [Lib.index, hp]; simp
theorem splitK_spl (c : UInt8) : ∀ l : List UInt8, Lib.splitK [c] 0 (Lib.count l [c]) l = spl c l
 | [] => by rw [Lib.count_one]; rfl
 | b :: l => by
  have ih := splitK_spl c l
  by_cases h : b = c
  ·subst h
   rw [Lib.count_cons_eq, Nat.add_comm, Lib.splitK, idx_hit, if_neg (by decide)]
   simp only [spl, if_pos]
   rw [← ih]; simp
  ·rw [Lib.count_cons_ne b c l h]
   simp only [spl]
   rw [if_neg h, ← ih]
   cases hk : Lib.count l [c] with
   | zero => rfl
   | succ k =>
    rw [Lib.splitK, Lib.splitK, idx_ne b c l h]
    have hge := Lib.index_ge l [c]
    by_cases hm : Lib.index l [c] = -1
    ·rw [hm]; rfl
    ·have hb : (Lib.index l [c] == -1) = false := by simpa using hm
     have hb2 : (Lib.index l [c] + 1 == -1) = false := by simp; omega
     simp only [hb, hb2, Bool.false_eq_true, if_false]
     have e1 : (Lib.index l [c] + 1).toNat = (Lib.index l [c]).toNat + 1 := by omega
     rw [e1]; simp [Nat.add_right_comm]
theorem splitF_spl (c : UInt8) (l : List UInt8) : splitF (ba l) c = (spl c l).map ba := by
 have h1 := Lib.splitB_data (ba [c]) 0 (Lib.countB (ba l) (ba [c])) (ba l)
 have h2 : Lib.countB (ba l) (ba [c]) = Lib.count l [c] := by
  unfold Lib.countB; rw [ba_data, ba_data]
 rw [ba_data, ba_data, h2, splitK_spl] at h1
 rw [← h1, List.map_map]
 unfold splitF
 rw [h2]
 exact (List.map_id _).symm.trans (List.map_congr_left (fun s _ => (ba_of s).symm))
theorem mems_in {t : Tree} {p : ByteArray × Tree} (h : p ∈ mems t) : p.2 ∈ t.v := by
 refine cutV_sub ?_
 rw [← mems_v]
 exact List.mem_map.2 ⟨p, h, rfl⟩
theorem mems_lev (t : Tree) : (mems t).length ≤ t.v.length := by
 have h : ((mems t).map (·.2)).length = (cutV t).length := by rw [mems_v]
 rw [List.length_map] at h
 rw [h]; unfold cutV
 split
 ·rw [List.length_take]; omega
 ·exact Nat.zero_le _
theorem fold_sub : ∀ (s out : List (List ByteArray)), ∃ r, s.foldl normStep out = out ++ r ∧ r.Sublist s
 | [], out => ⟨[], by simp, List.Sublist.refl _⟩
 | p :: s, out => by
  obtain ⟨r, h1, h2⟩ := fold_sub s (normStep out p)
  rw [List.foldl_cons, h1]
  unfold normStep
  split
  ·split
   ·exact ⟨r, rfl, h2.cons _⟩
   ·exact ⟨p :: r, by simp, h2.cons_cons _⟩
  ·exact ⟨p :: r, by simp, h2.cons_cons _⟩
theorem normF_sorted (l : List (List ByteArray)) : (normF l).Pairwise Le := by
 obtain ⟨r, h1, h2⟩ := fold_sub (sortP l) []
 unfold normF
 rw [h1, List.nil_append]
 exact (sortP_le l).sublist h2
theorem con130 (l : List (El (.int .u32))) (hl : l.length < 1000000000) : Con Tryz.prog I0 130 [.row (.int .u32) l] (.own 160 (.int .u32) l) := by
 refine con_of Tryz.func130 rfl (Nat.le_of_ble_eq_true rfl) stab (fun w0 fz a hI hs => ?_)
 refine wN hs hI [] 295391900 [(l.length * 4 : Nat) ≤ 140737488355328 ∧ l.length ≤ 140737488355328] .ret [(2, .own 2001)] [(2001, .sl 160 (.int .u32) l)] ⟨(by omega), tv⟩ fun a w hs => ?_
 exact FnQ_cast (out := .own 160 (.int .u32) l) (by simp) (ret_ok [] hs (.inl ⟨2001, by kernel_rfl, rfl⟩))
theorem con68 (l : List (El .str)) (hl : l.length < 1000000000) : Con Tryz.prog I0 68 [.row .str l] (.own 9 .str l) := by
 refine con_of Tryz.func68 rfl (Nat.le_of_ble_eq_true rfl) stab (fun w0 fz a hI hs => ?_)
 refine wN hs hI [] 295391900 [(l.length * 16 : Nat) ≤ 140737488355328 ∧ l.length ≤ 140737488355328] .ret [(2, .own 2001)] [(2001, .sl 9 .str l)] ⟨(by omega), tv⟩ fun a w hs => ?_
 exact FnQ_cast (out := .own 9 .str l) (by simp) (ret_ok [] hs (.inl ⟨2001, by kernel_rfl, rfl⟩))
theorem ints_eq {a b : List Int} (hl : a.length = b.length) (h : ∀ j, j < a.length → a.getD j (dflt (.int .u32)) = b.getD j (dflt (.int .u32))) : a = b := by
 refine List.ext_getElem hl (fun i h1 h2 => ?_)
 have := h i h1
 rw [List.getD_eq_getElem?_getD, List.getD_eq_getElem?_getD, List.getElem?_eq_getElem h1, List.getElem?_eq_getElem h2] at this
 exact this
theorem con145 (xs ys : List Int) (h : xs.length < 4294967296) : Con Tryz.prog I0 145 [.row (.int .u32) xs, .row (.int .u32) ys] (.val (vb (decide (xs = ys)))) := by
 refine con_of Tryz.func145 rfl (Nat.le_of_ble_eq_true rfl) stab (fun w0 fz a hI hs => ?_)
 refine wp_seq ?_
 refine wN hs hI [] 25 [] .norm [(0, rwU xs), (1, rwU ys)] [] tv fun a w hs => ?_
 refine then_norm ?_
 refine wp_seq ?_
 rcases bt ((xs.length : Int) != (ys.length : Int)) with b1 | b1
 ·skip
  have n1 := bne_iff_ne.1 b1
  refine wN hs hI [true] 4736437984375 [ty b1] .ret [(4, vb false)] [] ⟨b1, tv⟩ fun a w hs => ?_
  refine then_ret ?_
  exact rK (.val (vb false)) [] hs (by rw [decide_eq_false (fun e => by subst e; simp at b1)])
 ·skip
  have n1 := bne_eq_false_iff_eq.1 b1
  refine wN hs hI [false] 7434078125 [ty b1] .norm [(0, rwU xs), (1, rwU ys)] [] ⟨b1, tv⟩ fun a w hs => ?_
  refine then_norm ?_
  refine wp_seq ?_
  refine wp_seq ?_
  refine wN hs hI [] 25 [] .norm [(0, rwU xs), (1, rwU ys), (5, vi 0)] [] tv fun a w hs => ?_
  refine then_norm ?_
  refine wp_block ?_
  refine loop_L (N := Tryz.f145.ntmps) (w0 := w0) (ow := noO fz) (α := Nat) (fun p => [(0, rwU xs), (1, rwU ys), (5, vi (p : Int))]) (fun p => []) (fun p => p ≤ xs.length ∧ ∀ j, j < p → xs.getD j (dflt (.int .u32)) = ys.getD j (dflt (.int .u32))) (fun p => xs.length - p) 0 ?_ ?_ ?_
  ·exact ⟨Nat.zero_le _, fun j hj => absurd hj (Nat.not_lt_zero _)⟩
  ·(have e0_ : (0) = (((0 : Nat) : Int)) := (by first | rfl | (rfl)); exact (hs.cst [(0, rwU xs), (1, rwU ys), (5, vi ((0 : Nat) : Int))] [] (by first | (rw [e0_]; done) | (simp only [e0_]; done) | rfl | (simp only [e0_]; rfl))).rm [] (by kernel_rfl))
  rintro i hJ a w hs
  obtain ⟨hi, hall⟩ := hJ
  rcases bt (decide ((i : Int) < (xs.length : Int))) with b2 | b2
  ·skip
   have n2 := of_decide_eq_true b2
   rcases bt ((xs.getD i (dflt (.int .u32))) != (ys.getD i (dflt (.int .u32)))) with b3 | b3
   ·skip
    have n3 := bne_iff_ne.1 b3
    refine wN hs hI [true, true] 11353456648063697876273925000 [ty b2, 0 ≤ (i : Int) ∧ (i : Int) < xs.length, 0 ≤ (i : Int) ∧ (i : Int) < ys.length, ty b3] .ret [(4, vb false)] [] ⟨b2, (by omega), (by omega), b3, tv⟩ fun a w hs => ?_
    refine then_ret ?_
    refine inb_ret ?_
    refine then_ret ?_
    exact rK (.val (vb false)) [] hs (by rw [decide_eq_false (fun e => by subst e; simp at b3)])
   ·skip
    have n3 := bne_eq_false_iff_eq.1 b3
    refine wN hs hI [true, false] 7103302684845399894775687987500 [ty b2, 0 ≤ (i : Int) ∧ (i : Int) < xs.length, 0 ≤ (i : Int) ∧ (i : Int) < ys.length, ty b3, InR .i64 ((i : Int) + 1)] .norm [(0, rwU xs), (1, rwU ys), (5, vi ((i : Int) + 1))] [] ⟨b2, (by omega), (by omega), b3, (inR64 (by omega) (by omega)), tv⟩ fun a w hs => ?_
    refine then_norm ⟨i + 1, ⟨by omega, fun j hj => by rcases Nat.lt_succ_iff_lt_or_eq.1 hj with h | h; exact hall j h; subst h; exact (by simpa using b3)⟩, by omega, ?_⟩
    (have e0_ : ((i : Int) + 1) = ((((i + 1) : Nat) : Int)) := (by first | rfl | (omega)); exact (hs.cst [(0, rwU xs), (1, rwU ys), (5, vi (((i + 1) : Nat) : Int))] [] (by first | (rw [e0_]; done) | (simp only [e0_]; done) | rfl | (simp only [e0_]; rfl))).rm [] (by kernel_rfl))
  ·skip
   have n2 := of_decide_eq_false b2
   refine wN hs hI [false] 297362500 [ty b2] (.exit 0) [] [] ⟨b2, tv⟩ fun a w hs => ?_
   refine then_exit ?_
   refine inb_hit ?_
   refine then_norm ?_
   refine wN hs hI [] 650 [] .ret [(4, vb true)] [] tv fun a w hs => ?_
   exact rK (.val (vb true)) [] hs (by rw [decide_eq_true (ints_eq (by omega) (fun j hj => hall j (by omega)))])
def eqN (a b : Num) : Bool := a.neg == b.neg && (a.e == b.e && decide (a.m = b.m))
theorem con88 (x y : Num) (hl : x.m.length < 4294967296) : Con Tryz.prog I0 88 [.agg [vb x.neg, .row (.int .u32) x.m, vi x.e], .agg [vb y.neg, .row (.int .u32) y.m, vi y.e]] (.val (vb (eqN x y))) := by
 refine con_of Tryz.func88 rfl (Nat.le_of_ble_eq_true rfl) stab (fun w0 fz a hI hs => ?_)
 rcases bt (x.neg == y.neg) with b1 | b1
 ·skip
  have n1 := eq_of_beq b1
  rcases bt (x.e == y.e) with b2 | b2
  ·skip
   have n2 := eq_of_beq b2
   refine wL hs hI [(1, ⟨[(17, ciV 145 [rwU x.m, rwU y.m] (vb (decide (x.m = y.m))))], gg [6, 7, 8, 9, 10, 1011, 13, 14, 15, 16, 17, 1018] [], []⟩)] [] 10249098661777034102726619118281329671541748066250 [ty b1, ty b1, ty b1, ty b1, ty b1, ty b1, ty b2, ty b2, ty b2, ty b2, ty b2, ty b2] .ret [(4, vb (decide (x.m = y.m)))] [] ⟨⟨⟨ent145, con145 _ _ hl⟩, tv⟩, tv⟩ ⟨b1, b1, b1, b1, b1, b1, b2, b2, b2, b2, b2, b2, tv⟩ fun a w hs => ?_
   exact rK (.val (vb (decide (x.m = y.m)))) [] hs (by simp only [eqN]; simp_all)
  ·skip
   have n2 := beq_eq_false_iff_ne.1 b2
   refine wL hs hI [(1, ⟨[], gg [6, 7, 8, 9, 10, 1011] [13, 14, 15, 16, 17, 1018], []⟩)] [] 1049507702965968292092438663045565185566250 [ty b1, ty b1, ty b1, ty b1, ty b1, ty b1, ty b2, ty b2, ty b2, ty b2, ty b2, ty b2] .ret [(4, vb false)] [] ⟨tv, tv⟩ ⟨b1, b1, b1, b1, b1, b1, b2, b2, b2, b2, b2, b2, tv⟩ fun a w hs => ?_
   exact rK (.val (vb false)) [] hs (by simp only [eqN]; simp_all)
 ·skip
  have n1 := beq_eq_false_iff_ne.1 b1
  refine wL hs hI [(1, ⟨[], gg [] [6, 7, 8, 9, 10, 1011, 13, 14, 15, 16, 17, 1018], []⟩)] [] 107469588783715144544801711425800625 [ty b1, ty b1, ty b1, ty b1, ty b1, ty b1, false = false, false = false, false = false, false = false, false = false, false = false] .ret [(4, vb false)] [] ⟨tv, tv⟩ ⟨b1, b1, b1, b1, b1, b1, rfl, rfl, rfl, rfl, rfl, rfl, tv⟩ fun a w hs => ?_
  exact rK (.val (vb false)) [] hs (by simp only [eqN]; simp_all)
theorem con67 (x : Num) (hl : x.m.length < 1000000000) : Con Tryz.prog I0 67 [.agg [vb x.neg, .row (.int .u32) x.m, vi x.e]] (.val (.agg [vb x.neg, .row (.int .u32) x.m, vi x.e])) := by
 refine con_of Tryz.func67 rfl (Nat.le_of_ble_eq_true rfl) stab (fun w0 fz a hI hs => ?_)
 refine wL hs hI [(1, ⟨[(4, ciA 130 [rwU x.m] [] [] (.own 160 (.int .u32) x.m))], [], []⟩)] [] 1803040496832032000 [] .ret [(2, .ptr 1001 0)] [(1001, .var [vb x.neg, .own 2004, vi x.e]), (2004, .sl 160 (.int .u32) x.m)] ⟨⟨⟨ent130, con130 _ (by omega)⟩, tv⟩, tv⟩ tv fun a w hs => ?_
 exact rK (.val (.agg [vb x.neg, rwU x.m, vi x.e])) [2004] hs rfl
theorem take_snoc {l : List Tree} {i : Nat} (h : i < l.length) : l.take i ++ [l.getD i (dflt .tree)] = l.take (i + 1) := by
 rw [List.take_succ_eq_append_getElem h, List.getD_eq_getElem?_getD, List.getElem?_eq_getElem h]; rfl
theorem con20_ : ∀ (n : Nat) (t : Tree), nodes t < n → fineT t → Con Tryz.prog I0 20 [.agg (encTree t)] (.val (.agg (encTree t))) := by
 intro n
 induction n
 case zero => intro t hn; omega
 rename_i n ih
 intro t hn hft
 obtain ⟨⟨hf1, hf2, hf3, hf4⟩, hf5⟩ := (fine_eq t).1 hft
 refine con_of Tryz.func20 rfl (Nat.le_of_ble_eq_true rfl) stab (fun w0 fz a hI hs => ?_)
 refine wp_seq ?_
 refine wN hs hI [] 750 [] .norm [(1, .ptr 1000 0), (2, .ptr 1001 0)] [(1000, bTr (t)), (1001, .var zTr)] tv fun a w hs => ?_
 refine then_norm ?_
 refine wp_seq ?_
 refine wL hs hI [(1, ⟨[(6, ciV 67 [.agg [vb t.n.neg, rwU t.n.m, vi t.n.e]] (.agg [vb t.n.neg, rwU t.n.m, vi t.n.e])), (11, ciV 68 [rwS t.k] (rwS t.k))], [], []⟩)] [] 1164153218231347703125 [] .norm [(1, .ptr 1000 0), (2, .ptr 1001 0), (3, .ptr 2013 0)] [(1000, bTr (t)), (1001, .var zTr), (2013, .var [vi t.kind, vb t.b, vb t.n.neg, rwU t.n.m, vi t.n.e, vs t.s, rwS t.k, nilv])] ⟨⟨⟨ent67, con67 t.n (by omega)⟩, ⟨ent68, (con68 _ (by omega)).frz⟩, tv⟩, tv⟩ tv fun a w hs => ?_
 refine then_norm ?_
 refine wp_seq ?_
 refine wp_seq ?_
 refine wN hs hI [] 25 [] .norm [(1, .ptr 1000 0), (2, .ptr 1001 0), (3, .ptr 2013 0), (4, vi 0)] [(1000, bTr (t)), (1001, .var zTr), (2013, .var [vi t.kind, vb t.b, vb t.n.neg, rwU t.n.m, vi t.n.e, vs t.s, rwS t.k, nilv])] tv fun a w hs => ?_
 refine then_norm ?_
 refine wp_block ?_
 refine loop_L (N := Tryz.f20.ntmps) (w0 := w0) (ow := noO fz) (α := Nat) (fun p => [(1, .ptr 1000 0), (2, .ptr 1001 0), (3, .ptr 90000001 0), (4, vi (p : Int))]) (fun p => [(1000, bTr (t)), (1001, .var zTr), (90000001, .var [vi t.kind, vb t.b, vb t.n.neg, rwU t.n.m, vi t.n.e, vs t.s, rwS t.k, .own 90000002]), (90000002, .sl 29 .tree (t.v.take p))]) (fun p => p ≤ t.v.length) (fun p => t.v.length - p) 0 ?_ ?_ ?_
 ·exact Nat.zero_le _
 ·(have hs := (hs.nilB 10000005 2013 7 29 .tree [vi t.kind, vb t.b, vb t.n.neg, rwU t.n.m, vi t.n.e, vs t.s, rwS t.k, nilv] (by kernel_rfl) (by kernel_rfl) (by decide) (by decide) (by kernel_rfl) (by kernel_rfl)).rmT [(1, .ptr 1000 0), (2, .ptr 1001 0), (3, .ptr 2013 0), (4, vi 0)] [(1000, bTr (t)), (1001, .var zTr), (2013, .var [vi t.kind, vb t.b, vb t.n.neg, rwU t.n.m, vi t.n.e, vs t.s, rwS t.k, .own 10000005]), (10000005, .sl 29 .tree ([]))] [(1000, 1000), (1001, 1001), (2013, 2013), (10000005, 10000005)] (by kernel_rfl); exact (hs.cst [(1, .ptr 1000 0), (2, .ptr 1001 0), (3, .ptr 2013 0), (4, vi ((0 : Nat) : Int))] [(1000, bTr (t)), (1001, .var zTr), (2013, .var [vi t.kind, vb t.b, vb t.n.neg, rwU t.n.m, vi t.n.e, vs t.s, rwS t.k, .own 10000005]), (10000005, .sl 29 .tree (t.v.take 0))] rfl).rm [(1000, 1000), (1001, 1001), (90000001, 2013), (90000002, 10000005)] (by kernel_rfl))
 rintro i hJ a w hs
 have htl : (t.v.take i).length ≤ 1000000000 := by rw [List.length_take]; omega
 rcases bt (decide ((i : Int) < (t.v.length : Int))) with b1 | b1
 ·skip
  have n1 := of_decide_eq_true b1
  refine wL hs hI [(5, ⟨[(7, ciV 20 [aTr ((t.v.getD i (dflt .tree)))] (aTr ((t.v.getD i (dflt .tree)))))], [], []⟩)] [true] 4439564236236028499794013781734375 [ty b1, 0 ≤ (i : Int) ∧ (i : Int) < t.v.length, (((t.v.take i).length + 1) * 120 : Nat) ≤ 140737488355328 ∧ (t.v.take i).length + 1 ≤ 140737488355328, InR .i64 ((i : Int) + 1)] .norm [(1, .ptr 1000 0), (2, .ptr 1001 0), (3, .ptr 90000001 0), (4, vi ((i : Int) + 1))] [(1000, bTr (t)), (1001, .var zTr), (6009, .sl 29 .tree ((t.v.take i) ++ ([(Tree.et (t.v.getD i (dflt .tree)))]))), (90000001, .var [vi t.kind, vb t.b, vb t.n.neg, rwU t.n.m, vi t.n.e, vs t.s, rwS t.k, .own 6009])] ⟨⟨⟨ent20, ih _ (by have h1 := nodes_eq t; have h2 := nodes_at (l := t.v) (i := i) (by omega); omega) (fine_at hft (by omega) _)⟩, tv⟩, tv⟩ ⟨b1, (by omega), (by omega), (inR64 (by omega) (by omega)), tv⟩ fun a w hs => ?_
  refine then_norm ⟨i + 1, by omega, by omega, ?_⟩
  (have e0_ : ((i : Int) + 1) = ((((i + 1) : Nat) : Int)) := (by first | rfl | (omega)); have e1_ : ((t.v.take i) ++ ([(Tree.et (t.v.getD i (dflt .tree)))])) = (t.v.take (i + 1)) := (by first | rfl | (first | omega | (rw [Tree.eta', take_snoc (by omega)]))); exact (hs.cst [(1, .ptr 1000 0), (2, .ptr 1001 0), (3, .ptr 90000001 0), (4, vi (((i + 1) : Nat) : Int))] [(1000, bTr (t)), (1001, .var zTr), (6009, .sl 29 .tree (t.v.take (i + 1))), (90000001, .var [vi t.kind, vb t.b, vb t.n.neg, rwU t.n.m, vi t.n.e, vs t.s, rwS t.k, .own 6009])] (by first | (rw [e0_, e1_]; done) | (simp only [e0_, e1_]; done) | rfl | (simp only [e0_, e1_]; rfl))).rm [(1000, 1000), (1001, 1001), (90000001, 90000001), (90000002, 6009)] (by kernel_rfl))
 ·skip
  have n1 := of_decide_eq_false b1
  refine wN hs hI [false] 7434078125 [ty b1] (.exit 0) [(2, .ptr 1001 0), (3, .ptr 90000001 0)] [(1001, .var zTr), (90000001, .var [vi t.kind, vb t.b, vb t.n.neg, rwU t.n.m, vi t.n.e, vs t.s, rwS t.k, .own 90000002]), (90000002, .sl 29 .tree (t.v.take i))] ⟨b1, tv⟩ fun a w hs => ?_
  refine then_exit ?_
  refine inb_hit ?_
  refine then_norm ?_
  refine wN hs hI [] 16375 [] .ret [(2, .ptr 1001 0)] [(1001, .var [vi t.kind, vb t.b, vb t.n.neg, rwU t.n.m, vi t.n.e, vs t.s, rwS t.k, .own 90000002]), (90000002, .sl 29 .tree (t.v.take i))] tv fun a w hs => ?_
  exact rK (.val (.agg [vi t.kind, vb t.b, vb t.n.neg, rwU t.n.m, vi t.n.e, vs t.s, rwS t.k, rwT (t.v.take i)])) [90000002] hs (by have h2 : t.v.take i = t.v := List.take_of_length_le (by omega); rw [h2])
theorem con20 (t : Tree) (h : fineT t) : Con Tryz.prog I0 20 [.agg (encTree t)] (.val (.agg (encTree t))) := con20_ (nodes t + 1) t (Nat.lt_succ_self _) h
mutual
def eqR : Tree → Tree → Bool
 | .mk k b n s ks v, t => (k == t.kind) && ((b == t.b) && (eqN n t.n && ((s.toList == t.s.toList) && (sameS ks t.k && (((v.length : Int) == (t.v.length : Int)) && eqRL v t.v)))))
def eqRL : List Tree → List Tree → Bool
 | [], _ => true
 | _ :: _, [] => false
 | x :: l, y :: m => eqR x y && eqRL l m
end
theorem eqR_eq (t u : Tree) : eqR t u = ((t.kind == u.kind) && ((t.b == u.b) && (eqN t.n u.n && ((t.s.toList == u.s.toList) && (sameS t.k u.k && (((t.v.length : Int) == (u.v.length : Int)) && eqRL t.v u.v)))))) := by cases t; rfl
theorem eqN_self (n : Num) : eqN n n = true := by simp [eqN]
mutual
theorem eqR_self : ∀ t : Tree, eqR t t = true
 | .mk k b n s ks v => by rw [eqR_eq, eqN_self, sameS_self, show eqRL (Tree.mk k b n s ks v).v (Tree.mk k b n s ks v).v = true from eqRL_self v]; simp
theorem eqRL_self : ∀ l : List Tree, eqRL l l = true
 | [] => rfl
 | t :: l => by simp only [eqRL]; rw [eqR_self t, eqRL_self l]; rfl
end
theorem eqRL_drop {v m : List Tree} {i : Nat} (hi : i < v.length) (hm : i < m.length) : eqRL (v.drop i) (m.drop i) = (eqR (v.getD i (dflt .tree)) (m.getD i (dflt .tree)) && eqRL (v.drop (i + 1)) (m.drop (i + 1))) := by
 rw [List.drop_eq_getElem_cons hi, List.drop_eq_getElem_cons hm, eqRL]
 have e : v.getD i (dflt .tree) = v[i] := by rw [List.getD_eq_getElem?_getD, List.getElem?_eq_getElem hi]; rfl
 have e' : m.getD i (dflt .tree) = m[i] := by rw [List.getD_eq_getElem?_getD, List.getElem?_eq_getElem hm]; rfl
 rw [e, e']
theorem con36_ : ∀ (n : Nat) (t u : Tree), nodes t < n → fineT t → Con Tryz.prog I0 36 [.agg (encTree t), .agg (encTree u)] (.val (vb (eqR t u))) := by
 intro n
 induction n
 case zero => intro t u hn; omega
 rename_i n ih
 intro t u hn hft
 obtain ⟨⟨hf1, hf2, hf3, hf4⟩, hf5⟩ := (fine_eq t).1 hft
 refine con_of Tryz.func36 rfl (Nat.le_of_ble_eq_true rfl) stab (fun w0 fz a hI hs => ?_)
 refine wp_seq ?_
 refine wN hs hI [] 19375 [] .norm [(2, .ptr 1000 0), (3, .ptr 1001 0)] [(1000, bTr (t)), (1001, bTr (u))] tv fun a w hs => ?_
 refine then_norm ?_
 refine wp_seq ?_
 rcases bt (t.kind != u.kind) with b1 | b1
 ·skip
  have n1 := bne_iff_ne.1 b1
  refine wL hs hI [(1, ⟨[], gg [1011, 1019, 1026, 1034, 1043] [6, 7, 8, 9, 10, 13, 14, 15, 16, 17, 18, 21, 22, 23, 24, 25, 28, 29, 30, 31, 32, 33, 36, 37, 38, 39, 40, 41, 42], []⟩)] [true] 15671558705863657963827168711004600427827420935485511827468383781250 [ty b1, ty b1, ty b1, ty b1, ty b1, ty b1, true = true, true = true, true = true, true = true, true = true, true = true, true = true, true = true, true = true, true = true, true = true, true = true, true = true, true = true, true = true, true = true, true = true, true = true, true = true, true = true, true = true, true = true, true = true, true = true, true = true, true = true, true = true, true = true, true = true] .ret [(4, vb false)] [] ⟨tv, tv⟩ ⟨b1, b1, b1, b1, b1, b1, rfl, rfl, rfl, rfl, rfl, rfl, rfl, rfl, rfl, rfl, rfl, rfl, rfl, rfl, rfl, rfl, rfl, rfl, rfl, rfl, rfl, rfl, rfl, rfl, rfl, rfl, rfl, rfl, rfl, tv⟩ fun a w hs => ?_
  refine then_ret ?_
  exact rK (.val (vb false)) [] hs (by rw [eqR_eq]; simp_all)
 ·skip
  have n1 := bne_eq_false_iff_eq.1 b1
  rcases bt (t.b == u.b) with b2 | b2
  ·skip
   have n2 := eq_of_beq b2
   rcases bt (eqN t.n u.n) with b3 | b3
   ·skip
    rcases bt (t.s.toList == u.s.toList) with b4 | b4
    ·skip
     have n4 := eq_of_beq b4
     rcases bt (sameS t.k u.k) with b5 | b5
     ·skip
      rcases bt ((t.v.length : Int) != (u.v.length : Int)) with b6 | b6
      ·skip
       have n6 := bne_iff_ne.1 b6
       refine wL hs hI [(1, ⟨[(17, ciV 88 [.agg [vb t.n.neg, rwU t.n.m, vi t.n.e], .agg [vb u.n.neg, rwU u.n.m, vi u.n.e]] (vb (eqN t.n u.n))), (32, ciV 60 [rwS t.k, rwS u.k] (vb (sameS t.k u.k)))], gg [6, 7, 8, 9, 10, 13, 14, 15, 16, 17, 18, 21, 22, 23, 24, 25, 28, 29, 30, 31, 32, 33, 36, 37, 38, 39, 40, 41, 42] [1011, 1019, 1026, 1034, 1043], []⟩)] [true] 543716415844207946872045391882737068181923155805565008082805981777070751988685988938717271511753400166828125 [ty b1, ty b1, ty b1, ty b1, ty b1, ty b1, ty (ng1 b2), ty (ng1 b2), ty (ng1 b2), ty (ng1 b2), ty (ng1 b2), ty (ng1 b2), ty (ng1 b2), ty (ng1 b3), ty (ng1 b3), ty (ng1 b3), ty (ng1 b3), ty (ng1 b3), ty (ng1 b3), ty (ng1 b4), ty (ng1 b4), ty (ng1 b4), ty (ng1 b4), ty (ng1 b4), ty (ng1 b4), ty (ng1 b4), ty (ng1 b5), ty (ng1 b5), ty (ng1 b5), ty (ng1 b5), ty (ng1 b5), ty (ng1 b5), ty (ng1 b5), ty (ng1 b5), ty b6] .ret [(4, vb false)] [] ⟨⟨⟨ent88, con88 t.n u.n (by omega)⟩, ⟨ent60, con60 _ _ (by omega)⟩, tv⟩, tv⟩ ⟨b1, b1, b1, b1, b1, b1, (ng1 b2), (ng1 b2), (ng1 b2), (ng1 b2), (ng1 b2), (ng1 b2), (ng1 b2), (ng1 b3), (ng1 b3), (ng1 b3), (ng1 b3), (ng1 b3), (ng1 b3), (ng1 b4), (ng1 b4), (ng1 b4), (ng1 b4), (ng1 b4), (ng1 b4), (ng1 b4), (ng1 b5), (ng1 b5), (ng1 b5), (ng1 b5), (ng1 b5), (ng1 b5), (ng1 b5), (ng1 b5), b6, tv⟩ fun a w hs => ?_
       refine then_ret ?_
       exact rK (.val (vb false)) [] hs (by rw [eqR_eq]; simp_all)
      ·skip
       have n6 := bne_eq_false_iff_eq.1 b6
       refine wL hs hI [(1, ⟨[(17, ciV 88 [.agg [vb t.n.neg, rwU t.n.m, vi t.n.e], .agg [vb u.n.neg, rwU u.n.m, vi u.n.e]] (vb (eqN t.n u.n))), (32, ciV 60 [rwS t.k, rwS u.k] (vb (sameS t.k u.k)))], gg [6, 7, 8, 9, 10, 13, 14, 15, 16, 17, 18, 21, 22, 23, 24, 25, 28, 29, 30, 31, 32, 33, 36, 37, 38, 39, 40, 41, 42] [1011, 1019, 1026, 1034, 1043], []⟩)] [false] 853390764773813596192551316223558923949679522602798104117728598165686556183591922793637340267499287921875 [ty b1, ty b1, ty b1, ty b1, ty b1, ty b1, ty (ng1 b2), ty (ng1 b2), ty (ng1 b2), ty (ng1 b2), ty (ng1 b2), ty (ng1 b2), ty (ng1 b2), ty (ng1 b3), ty (ng1 b3), ty (ng1 b3), ty (ng1 b3), ty (ng1 b3), ty (ng1 b3), ty (ng1 b4), ty (ng1 b4), ty (ng1 b4), ty (ng1 b4), ty (ng1 b4), ty (ng1 b4), ty (ng1 b4), ty (ng1 b5), ty (ng1 b5), ty (ng1 b5), ty (ng1 b5), ty (ng1 b5), ty (ng1 b5), ty (ng1 b5), ty (ng1 b5), ty b6] .norm [(2, .ptr 1000 0), (3, .ptr 1001 0)] [(1000, bTr (t)), (1001, bTr (u))] ⟨⟨⟨ent88, con88 t.n u.n (by omega)⟩, ⟨ent60, con60 _ _ (by omega)⟩, tv⟩, tv⟩ ⟨b1, b1, b1, b1, b1, b1, (ng1 b2), (ng1 b2), (ng1 b2), (ng1 b2), (ng1 b2), (ng1 b2), (ng1 b2), (ng1 b3), (ng1 b3), (ng1 b3), (ng1 b3), (ng1 b3), (ng1 b3), (ng1 b4), (ng1 b4), (ng1 b4), (ng1 b4), (ng1 b4), (ng1 b4), (ng1 b4), (ng1 b5), (ng1 b5), (ng1 b5), (ng1 b5), (ng1 b5), (ng1 b5), (ng1 b5), (ng1 b5), b6, tv⟩ fun a w hs => ?_
       refine then_norm ?_
       refine wp_seq ?_
       refine wp_seq ?_
       refine wN hs hI [] 25 [] .norm [(2, .ptr 1000 0), (3, .ptr 1001 0), (5, vi 0)] [(1000, bTr (t)), (1001, bTr (u))] tv fun a w hs => ?_
       refine then_norm ?_
       refine wp_block ?_
       refine loop_L (N := Tryz.f36.ntmps) (w0 := w0) (ow := noO fz) (α := Nat) (fun p => [(2, .ptr 1000 0), (3, .ptr 1001 0), (5, vi (p : Int))]) (fun p => [(1000, bTr (t)), (1001, bTr (u))]) (fun p => p ≤ t.v.length ∧ eqRL (t.v.drop p) (u.v.drop p) = eqRL t.v u.v) (fun p => t.v.length - p) 0 ?_ ?_ ?_
       ·exact ⟨Nat.zero_le _, rfl⟩
       ·exact (hs.cst [(2, .ptr 1000 0), (3, .ptr 1001 0), (5, vi ((0 : Nat) : Int))] [(1000, bTr (t)), (1001, bTr (u))] rfl).rm [(1000, 1000), (1001, 1001)] (by kernel_rfl)
       rintro i hJ a w hs
       obtain ⟨hi, hd⟩ := hJ
       rcases bt (decide ((i : Int) < (t.v.length : Int))) with b7 | b7
       ·skip
        have n7 := of_decide_eq_true b7
        rcases bt (eqR (t.v.getD i (dflt .tree)) (u.v.getD i (dflt .tree))) with b8 | b8
        ·skip
         refine wL hs hI [(6, ⟨[(10, ciV 36 [aTr ((t.v.getD i (dflt .tree))), aTr ((u.v.getD i (dflt .tree)))] (vb (eqR (t.v.getD i (dflt .tree)) (u.v.getD i (dflt .tree)))))], [], []⟩)] [true, false] 2774727611267735474729545600695796875 [ty b7, 0 ≤ (i : Int) ∧ (i : Int) < t.v.length, 0 ≤ (i : Int) ∧ (i : Int) < u.v.length, ty (ng1 b8), InR .i64 ((i : Int) + 1)] .norm [(2, .ptr 1000 0), (3, .ptr 1001 0), (5, vi ((i : Int) + 1))] [(1000, bTr (t)), (1001, bTr (u))] ⟨⟨⟨ent36, ih _ _ (by have h1 := nodes_eq t; have h2 := nodes_at (l := t.v) (i := i) (by omega); omega) (fine_at hft (by omega) _)⟩, tv⟩, tv⟩ ⟨b7, (by omega), (by omega), (ng1 b8), (inR64 (by omega) (by omega)), tv⟩ fun a w hs => ?_
         refine then_norm ⟨i + 1, ⟨by omega, by rw [← hd, eqRL_drop (i := i) (by omega) (by omega), b8]; rfl⟩, by omega, ?_⟩
         (have e0_ : ((i : Int) + 1) = ((((i + 1) : Nat) : Int)) := (by first | rfl | (omega)); exact (hs.cst [(2, .ptr 1000 0), (3, .ptr 1001 0), (5, vi (((i + 1) : Nat) : Int))] [(1000, bTr (t)), (1001, bTr (u))] (by first | (rw [e0_]; done) | (simp only [e0_]; done) | rfl | (simp only [e0_]; rfl))).rm [(1000, 1000), (1001, 1001)] (by kernel_rfl))
        ·skip
         refine wL hs hI [(6, ⟨[(10, ciV 36 [aTr ((t.v.getD i (dflt .tree))), aTr ((u.v.getD i (dflt .tree)))] (vb (eqR (t.v.getD i (dflt .tree)) (u.v.getD i (dflt .tree)))))], [], []⟩)] [true, true] 4434944003151022815711982531734375 [ty b7, 0 ≤ (i : Int) ∧ (i : Int) < t.v.length, 0 ≤ (i : Int) ∧ (i : Int) < u.v.length, ty (ng0 b8)] .ret [(4, vb false)] [] ⟨⟨⟨ent36, ih _ _ (by have h1 := nodes_eq t; have h2 := nodes_at (l := t.v) (i := i) (by omega); omega) (fine_at hft (by omega) _)⟩, tv⟩, tv⟩ ⟨b7, (by omega), (by omega), (ng0 b8), tv⟩ fun a w hs => ?_
         refine then_ret ?_
         refine inb_ret ?_
         refine then_ret ?_
         exact rK (.val (vb false)) [] hs (by rw [eqR_eq, ← hd, eqRL_drop (i := i) (by omega) (by omega), b8]; simp)
       ·skip
        have n7 := of_decide_eq_false b7
        refine wN hs hI [false] 7434078125 [ty b7] (.exit 0) [] [] ⟨b7, tv⟩ fun a w hs => ?_
        refine then_exit ?_
        refine inb_hit ?_
        refine then_norm ?_
        refine wN hs hI [] 650 [] .ret [(4, vb true)] [] tv fun a w hs => ?_
        exact rK (.val (vb true)) [] hs (by rw [eqR_eq, ← hd, List.drop_of_length_le (by omega)]; simp_all [eqRL])
     ·skip
      refine wL hs hI [(1, ⟨[(17, ciV 88 [.agg [vb t.n.neg, rwU t.n.m, vi t.n.e], .agg [vb u.n.neg, rwU u.n.m, vi u.n.e]] (vb (eqN t.n u.n))), (32, ciV 60 [rwS t.k, rwS u.k] (vb (sameS t.k u.k)))], gg [6, 7, 8, 9, 10, 13, 14, 15, 16, 17, 18, 21, 22, 23, 24, 25, 28, 29, 30, 31, 32, 33, 1043] [1011, 1019, 1026, 1034, 36, 37, 38, 39, 40, 41, 42], []⟩)] [true] 89082497571915030015515917006067641250926289847183760760021702570140197015765223031242688496906250 [ty b1, ty b1, ty b1, ty b1, ty b1, ty b1, ty (ng1 b2), ty (ng1 b2), ty (ng1 b2), ty (ng1 b2), ty (ng1 b2), ty (ng1 b2), ty (ng1 b2), ty (ng1 b3), ty (ng1 b3), ty (ng1 b3), ty (ng1 b3), ty (ng1 b3), ty (ng1 b3), ty (ng1 b4), ty (ng1 b4), ty (ng1 b4), ty (ng1 b4), ty (ng1 b4), ty (ng1 b4), ty (ng1 b4), ty (ng0 b5), ty (ng0 b5), ty (ng0 b5), ty (ng0 b5), ty (ng0 b5), ty (ng0 b5), ty (ng0 b5), ty (ng0 b5), true = true] .ret [(4, vb false)] [] ⟨⟨⟨ent88, con88 t.n u.n (by omega)⟩, ⟨ent60, con60 _ _ (by omega)⟩, tv⟩, tv⟩ ⟨b1, b1, b1, b1, b1, b1, (ng1 b2), (ng1 b2), (ng1 b2), (ng1 b2), (ng1 b2), (ng1 b2), (ng1 b2), (ng1 b3), (ng1 b3), (ng1 b3), (ng1 b3), (ng1 b3), (ng1 b3), (ng1 b4), (ng1 b4), (ng1 b4), (ng1 b4), (ng1 b4), (ng1 b4), (ng1 b4), (ng0 b5), (ng0 b5), (ng0 b5), (ng0 b5), (ng0 b5), (ng0 b5), (ng0 b5), (ng0 b5), rfl, tv⟩ fun a w hs => ?_
      refine then_ret ?_
      exact rK (.val (vb false)) [] hs (by rw [eqR_eq]; simp_all)
    ·skip
     have n4 := beq_eq_false_iff_ne.1 b4
     refine wL hs hI [(1, ⟨[(17, ciV 88 [.agg [vb t.n.neg, rwU t.n.m, vi t.n.e], .agg [vb u.n.neg, rwU u.n.m, vi u.n.e]] (vb (eqN t.n u.n)))], gg [6, 7, 8, 9, 10, 13, 14, 15, 16, 17, 18, 21, 22, 23, 24, 25, 1034, 1043] [1011, 1019, 1026, 28, 29, 30, 31, 32, 33, 36, 37, 38, 39, 40, 41, 42], []⟩)] [true] 364881910054563962943553196056853058563794083213414203514799301804790373270710309346515625 [ty b1, ty b1, ty b1, ty b1, ty b1, ty b1, ty (ng1 b2), ty (ng1 b2), ty (ng1 b2), ty (ng1 b2), ty (ng1 b2), ty (ng1 b2), ty (ng1 b2), ty (ng1 b3), ty (ng1 b3), ty (ng1 b3), ty (ng1 b3), ty (ng1 b3), ty (ng1 b3), ty (ng0 b4), ty (ng0 b4), ty (ng0 b4), ty (ng0 b4), ty (ng0 b4), ty (ng0 b4), ty (ng0 b4), true = true, true = true, true = true, true = true, true = true, true = true, true = true, true = true, true = true] .ret [(4, vb false)] [] ⟨⟨⟨ent88, con88 t.n u.n (by omega)⟩, tv⟩, tv⟩ ⟨b1, b1, b1, b1, b1, b1, (ng1 b2), (ng1 b2), (ng1 b2), (ng1 b2), (ng1 b2), (ng1 b2), (ng1 b2), (ng1 b3), (ng1 b3), (ng1 b3), (ng1 b3), (ng1 b3), (ng1 b3), (ng0 b4), (ng0 b4), (ng0 b4), (ng0 b4), (ng0 b4), (ng0 b4), (ng0 b4), rfl, rfl, rfl, rfl, rfl, rfl, rfl, rfl, rfl, tv⟩ fun a w hs => ?_
     refine then_ret ?_
     exact rK (.val (vb false)) [] hs (by rw [eqR_eq]; simp_all)
   ·skip
    refine wL hs hI [(1, ⟨[(17, ciV 88 [.agg [vb t.n.neg, rwU t.n.m, vi t.n.e], .agg [vb u.n.neg, rwU u.n.m, vi u.n.e]] (vb (eqN t.n u.n)))], gg [6, 7, 8, 9, 10, 13, 14, 15, 16, 17, 18, 1026, 1034, 1043] [1011, 1019, 21, 22, 23, 24, 25, 28, 29, 30, 31, 32, 33, 36, 37, 38, 39, 40, 41, 42], []⟩)] [true] 37363907589587349805419847276221753196932513912953126577303909796600540479024250000 [ty b1, ty b1, ty b1, ty b1, ty b1, ty b1, ty (ng1 b2), ty (ng1 b2), ty (ng1 b2), ty (ng1 b2), ty (ng1 b2), ty (ng1 b2), ty (ng1 b2), ty (ng0 b3), ty (ng0 b3), ty (ng0 b3), ty (ng0 b3), ty (ng0 b3), ty (ng0 b3), true = true, true = true, true = true, true = true, true = true, true = true, true = true, true = true, true = true, true = true, true = true, true = true, true = true, true = true, true = true, true = true] .ret [(4, vb false)] [] ⟨⟨⟨ent88, con88 t.n u.n (by omega)⟩, tv⟩, tv⟩ ⟨b1, b1, b1, b1, b1, b1, (ng1 b2), (ng1 b2), (ng1 b2), (ng1 b2), (ng1 b2), (ng1 b2), (ng1 b2), (ng0 b3), (ng0 b3), (ng0 b3), (ng0 b3), (ng0 b3), (ng0 b3), rfl, rfl, rfl, rfl, rfl, rfl, rfl, rfl, rfl, rfl, rfl, rfl, rfl, rfl, rfl, rfl, tv⟩ fun a w hs => ?_
    refine then_ret ?_
    exact rK (.val (vb false)) [] hs (by rw [eqR_eq]; simp_all)
  ·skip
   have n2 := beq_eq_false_iff_ne.1 b2
   refine wL hs hI [(1, ⟨[], gg [6, 7, 8, 9, 10, 1019, 1026, 1034, 1043] [1011, 13, 14, 15, 16, 17, 18, 21, 22, 23, 24, 25, 28, 29, 30, 31, 32, 33, 36, 37, 38, 39, 40, 41, 42], []⟩)] [true] 153042565486949784802999694443404301094622255145623011048287151654561359375 [ty b1, ty b1, ty b1, ty b1, ty b1, ty b1, ty (ng0 b2), ty (ng0 b2), ty (ng0 b2), ty (ng0 b2), ty (ng0 b2), ty (ng0 b2), ty (ng0 b2), true = true, true = true, true = true, true = true, true = true, true = true, true = true, true = true, true = true, true = true, true = true, true = true, true = true, true = true, true = true, true = true, true = true, true = true, true = true, true = true, true = true, true = true] .ret [(4, vb false)] [] ⟨tv, tv⟩ ⟨b1, b1, b1, b1, b1, b1, (ng0 b2), (ng0 b2), (ng0 b2), (ng0 b2), (ng0 b2), (ng0 b2), (ng0 b2), rfl, rfl, rfl, rfl, rfl, rfl, rfl, rfl, rfl, rfl, rfl, rfl, rfl, rfl, rfl, rfl, rfl, rfl, rfl, rfl, rfl, rfl, tv⟩ fun a w hs => ?_
   refine then_ret ?_
   exact rK (.val (vb false)) [] hs (by rw [eqR_eq]; simp_all)
theorem con36 (t u : Tree) (ht : fineT t) : Con Tryz.prog I0 36 [.agg (encTree t), .agg (encTree u)] (.val (vb (eqR t u))) := con36_ (nodes t + 1) t u (Nat.lt_succ_self _) ht
theorem step_keep {out : List (List ByteArray)} {p q : List ByteArray} (h : q ∈ out) : q ∈ normStep out p := by
 unfold normStep
 split
 ·split
  ·exact h
  ·exact List.mem_append_left _ h
 ·exact List.mem_append_left _ h
theorem fold_stay : ∀ (s : List (List ByteArray)) {out : List (List ByteArray)} {q : List ByteArray}, q ∈ out → q ∈ s.foldl normStep out
 | [], _, _, h => h
 | p :: s, _, _, h => fold_stay s (step_keep h)
theorem step_cover (out : List (List ByteArray)) (p : List ByteArray) : ∃ o ∈ normStep out p, startsF o p = true := by
 unfold normStep
 split
 ·rename_i h
  split
  ·rename_i h2
   exact ⟨_, getD_mem (by have := of_decide_eq_true h; omega) _, h2⟩
  ·exact ⟨p, by simp, starts_self p⟩
 ·exact ⟨p, by simp, starts_self p⟩
theorem fold_cover : ∀ (s : List (List ByteArray)) (out : List (List ByteArray)) {p : List ByteArray}, p ∈ s → ∃ o ∈ s.foldl normStep out, startsF o p = true
 | [], _, _, h => by simp at h
 | q :: s, out, p, h => by
  rcases List.mem_cons.1 h with rfl | h
  ·obtain ⟨o, h1, h2⟩ := step_cover out p
   exact ⟨o, fold_stay s h1, h2⟩
  ·exact fold_cover s _ h
theorem norm_cover {l : List (List ByteArray)} {p : List ByteArray} (h : p ∈ l) : ∃ o ∈ normF l, startsF o p = true := fold_cover _ _ (sortP_mem.2 h)
theorem starts_trans {a b c : List ByteArray} (h1 : startsF a b = true) (h2 : startsF b c = true) : startsF a c = true := starts_iff.2 ((starts_iff.1 h1).trans (starts_iff.1 h2))
theorem starts_anti {a b : List ByteArray} (h1 : startsF a b = true) (h2 : startsF b a = true) : a = b := (starts_iff.1 h1).eq_of_length_le (starts_iff.1 h2).length_le
theorem pw_mem {α : Type} {r : α → α → Prop} (hs : ∀ a b, r a b → r b a) : ∀ {l : List α}, l.Pairwise r → ∀ {x y : α}, x ∈ l → y ∈ l → x ≠ y → r x y
 | [], _, _, _, h, _, _ => by simp at h
 | a :: l, h, x, y, hx, hy, hne => by
  rw [List.pairwise_cons] at h
  rcases List.mem_cons.1 hx with rfl | hx'
  ·rcases List.mem_cons.1 hy with rfl | hy'
   ·exact absurd rfl hne
   ·exact h.1 y hy'
  ·rcases List.mem_cons.1 hy with rfl | hy'
   ·exact hs _ _ (h.1 x hx')
   ·exact pw_mem hs h.2 hx' hy' hne
theorem norm_iff {l : List (List ByteArray)} {x : List ByteArray} : x ∈ normF l ↔ x ∈ l ∧ ∀ y ∈ l, startsF y x = true → y = x := by
 constructor
 ·intro h
  refine ⟨normF_mem h, fun y hy hs => ?_⟩
  obtain ⟨o, h1, h2⟩ := norm_cover hy
  have h3 := starts_trans h2 hs
  have h4 : o = x := by
   by_cases e : o = x
   ·exact e
   ·have := pw_mem (fun a b h => Inc.symm h) (normF_inc l) h1 h e
    rw [this.no] at h3; cases h3
  subst h4
  exact starts_anti hs h2
 ·rintro ⟨h1, h2⟩
  obtain ⟨o, h3, h4⟩ := norm_cover h1
  rw [← h2 o (normF_mem h3) h4]; exact h3
theorem norm_nodup (l : List (List ByteArray)) : (normF l).Nodup := (normF_inc l).imp (fun h e => by subst e; have := h.no; rw [starts_self] at this; cases this)
theorem mem_kind {t : Tree} {x : ByteArray} (h : memB t x = true) : t.kind = 7 := by
 by_cases hk : t.kind = 7
 ·exact hk
 ·rw [memB_look, mems_none hk] at h; simp [lookA] at h
theorem con93 (xs ys : List ByteArray) (h : xs.length < 1000000000) (h2 : ys.length < 1000000000) : Con Tryz.prog I0 93 [.row .str xs, .row .str ys] (.val (vb (startsF xs ys))) := by
 refine con_of Tryz.func93 rfl (Nat.le_of_ble_eq_true rfl) stab (fun w0 fz a hI hs => ?_)
 refine wp_seq ?_
 refine wN hs hI [] 25 [] .norm [(0, rwS xs), (1, rwS ys)] [] tv fun a w hs => ?_
 refine then_norm ?_
 refine wp_seq ?_
 rcases bt (decide ((ys.length : Int) < (xs.length : Int))) with b1 | b1
 ·skip
  have n1 := of_decide_eq_true b1
  refine wN hs hI [true] 4736437984375 [ty b1] .ret [(4, vb false)] [] ⟨b1, tv⟩ fun a w hs => ?_
  refine then_ret ?_
  exact rK (.val (vb false)) [] hs (by rw [starts_len (by omega)])
 ·skip
  have n1 := of_decide_eq_false b1
  refine wN hs hI [false] 7434078125 [ty b1] .norm [(0, rwS xs), (1, rwS ys)] [] ⟨b1, tv⟩ fun a w hs => ?_
  refine then_norm ?_
  refine wp_seq ?_
  refine wp_seq ?_
  refine wN hs hI [] 25 [] .norm [(0, rwS xs), (1, rwS ys), (5, vi 0)] [] tv fun a w hs => ?_
  refine then_norm ?_
  refine wp_block ?_
  refine loop_L (N := Tryz.f93.ntmps) (w0 := w0) (ow := noO fz) (α := Nat) (fun p => [(0, rwS xs), (1, rwS ys), (5, vi (p : Int))]) (fun p => []) (fun p => p ≤ xs.length ∧ ∀ j, j < p → eqT (xs.getD j (dflt .str)) (ys.getD j (dflt .str)) = true) (fun p => xs.length - p) 0 ?_ ?_ ?_
  ·exact ⟨Nat.zero_le _, fun j hj => absurd hj (Nat.not_lt_zero _)⟩
  ·(have e0_ : (0) = (((0 : Nat) : Int)) := (by first | rfl | (rfl)); exact (hs.cst [(0, rwS xs), (1, rwS ys), (5, vi ((0 : Nat) : Int))] [] (by first | (rw [e0_]; done) | (simp only [e0_]; done) | rfl | (simp only [e0_]; rfl))).rm [] (by kernel_rfl))
  rintro i hJ a w hs
  obtain ⟨hi, hall⟩ := hJ
  rcases bt (decide ((i : Int) < (xs.length : Int))) with b2 | b2
  ·skip
   have n2 := of_decide_eq_true b2
   rcases bt ((xs.getD i (dflt .str)).toList == (ys.getD i (dflt .str)).toList) with b3 | b3
   ·skip
    have n3 := eq_of_beq b3
    refine wN hs hI [true, false] 7103302684845399894775687987500 [ty b2, 0 ≤ (i : Int) ∧ (i : Int) < xs.length, 0 ≤ (i : Int) ∧ (i : Int) < ys.length, ty (ng1 b3), InR .i64 ((i : Int) + 1)] .norm [(0, rwS xs), (1, rwS ys), (5, vi ((i : Int) + 1))] [] ⟨b2, (by omega), (by omega), (ng1 b3), (inR64 (by omega) (by omega)), tv⟩ fun a w hs => ?_
    refine then_norm ⟨i + 1, ⟨by omega, fun j hj => by rcases Nat.lt_succ_iff_lt_or_eq.1 hj with h | h; exact hall j h; subst h; exact b3⟩, by omega, ?_⟩
    (have e0_ : ((i : Int) + 1) = ((((i + 1) : Nat) : Int)) := (by first | rfl | (omega)); exact (hs.cst [(0, rwS xs), (1, rwS ys), (5, vi (((i + 1) : Nat) : Int))] [] (by first | (rw [e0_]; done) | (simp only [e0_]; done) | rfl | (simp only [e0_]; rfl))).rm [] (by kernel_rfl))
   ·skip
    have n3 := beq_eq_false_iff_ne.1 b3
    refine wN hs hI [true, true] 11353456648063697876273925000 [ty b2, 0 ≤ (i : Int) ∧ (i : Int) < xs.length, 0 ≤ (i : Int) ∧ (i : Int) < ys.length, ty (ng0 b3)] .ret [(4, vb false)] [] ⟨b2, (by omega), (by omega), (ng0 b3), tv⟩ fun a w hs => ?_
    refine then_ret ?_
    refine inb_ret ?_
    refine then_ret ?_
    exact rK (.val (vb false)) [] hs (by rw [starts_no (i := i) (by omega) (by omega) b3])
  ·skip
   have n2 := of_decide_eq_false b2
   refine wN hs hI [false] 297362500 [ty b2] (.exit 0) [] [] ⟨b2, tv⟩ fun a w hs => ?_
   refine then_exit ?_
   refine inb_hit ?_
   refine then_norm ?_
   refine wN hs hI [] 650 [] .ret [(4, vb true)] [] tv fun a w hs => ?_
   exact rK (.val (vb true)) [] hs (by rw [starts_yes (by omega) (fun j hj => hall j (by omega))])
def restD (x : ByteArray) (done : Bool) (l : Mem) : Mem := if done = true then l else delA x l
structure DelJ (t : Tree) (x : ByteArray) (i : Nat) (acc : Mem) (done : Bool) : Prop where
 eq : acc ++ restD x done ((mems t).drop i) = delA x (mems t)
 len : acc.length ≤ i
theorem DelJ.start (t : Tree) (x : ByteArray) : DelJ t x 0 [] false := ⟨by simp [restD], Nat.zero_le _⟩
section
variable {t : Tree} {x : ByteArray} {i : Nat} {acc : Mem} {done : Bool} (J : DelJ t x i acc done) (hk : t.kind = 7) (h1 : i < t.k.length) (h2 : i < t.v.length)
include J hk h1 h2
theorem DelJ.hit (hd : done = false) (h : eqT (t.k.getD i (dflt .str)) x = true) : DelJ t x (i + 1) acc true := by
 refine ⟨?_, by have := J.len; omega⟩
 have he := J.eq
 rw [mems_drop hk h1 h2, hd] at he
 rw [← he]
 have e : delA x ((t.k.getD i (dflt .str), t.v.getD i (dflt .tree)) :: (mems t).drop (i + 1)) = (mems t).drop (i + 1) := by
  simp only [delA]; rw [if_pos (by rw [eqT_comm]; exact h)]
 show acc ++ (mems t).drop (i + 1) = acc ++ delA x _
 rw [e]
theorem DelJ.on (h : done = true ∨ eqT (t.k.getD i (dflt .str)) x = false) : DelJ t x (i + 1) (acc ++ [(t.k.getD i (dflt .str), t.v.getD i (dflt .tree))]) done := by
 refine ⟨?_, by have := J.len; simp; omega⟩
 have he := J.eq
 rw [mems_drop hk h1 h2] at he
 rw [← he]
 rcases h with rfl | h
 ·simp [restD]
 ·have e : delA x ((t.k.getD i (dflt .str), t.v.getD i (dflt .tree)) :: (mems t).drop (i + 1)) = (t.k.getD i (dflt .str), t.v.getD i (dflt .tree)) :: delA x ((mems t).drop (i + 1)) := by
   simp only [delA]; rw [if_neg (by rw [eqT_comm, h]; decide)]
  cases done with
  | true => simp [restD]
  | false =>
   show (acc ++ [_]) ++ delA x _ = acc ++ delA x _
   rw [e]; simp
end
theorem DelJ.fin {t : Tree} {x : ByteArray} {i : Nat} {acc : Mem} {done : Bool} (J : DelJ t x i acc done) (hb : memB t x = true) (he : (mems t).drop i = []) : unsetT t x = objM acc := by
 have h := J.eq
 rw [he] at h
 have e : restD x done [] = [] := by cases done <;> rfl
 rw [e, List.append_nil] at h
 unfold unsetT; rw [if_pos hb, ← h]
theorem con21 (t : Tree) (x : ByteArray) (hv : t.v.length < 100000000) : Con Tryz.prog I0 21 [.agg (encTree t), vs x] (.val (.agg (encTree (unsetT t x)))) := by
 refine con_of Tryz.func21 rfl (Nat.le_of_ble_eq_true rfl) stab (fun w0 fz a hI hs => ?_)
 refine wp_seq ?_
 refine wN hs hI [] 750 [] .norm [(1, vs x), (2, .ptr 1000 0), (4, .ptr 1001 0)] [(1000, bTr (t)), (1001, .var zTr)] tv fun a w hs => ?_
 refine then_norm ?_
 refine wp_seq ?_
 rcases bt (memB t x) with b1 | b1
 ·skip
  refine wL hs hI [(1, ⟨[(2, ciV 69 [aTr (t), vs x] (.tup [aTr ((memV t x)), vb (memB t x)]))], [], []⟩)] [false] 46327118873593750075 [ty (ng1 b1)] .norm [(1, vs x), (2, .ptr 1000 0), (4, .ptr 1001 0)] [(1000, bTr (t)), (1001, .var zTr)] ⟨⟨⟨ent69, con69 _ _ (by omega)⟩, tv⟩, tv⟩ ⟨(ng1 b1), tv⟩ fun a w hs => ?_
  refine then_norm ?_
  refine wp_seq ?_
  refine wN hs hI [] 19375 [] .norm [(1, vs x), (2, .ptr 1000 0), (4, .ptr 1001 0), (7, .ptr 5001 0)] [(1000, bTr (t)), (1001, .var zTr), (5001, .var [vi 7, vb false, vb false, nilv, vi 0, vs (ba []), nilv, nilv])] tv fun a w hs => ?_
  refine then_norm ?_
  refine wp_seq ?_
  refine wN hs hI [] 25 [] .norm [(1, vs x), (2, .ptr 1000 0), (4, .ptr 1001 0), (7, .ptr 5001 0), (8, vb false)] [(1000, bTr (t)), (1001, .var zTr), (5001, .var [vi 7, vb false, vb false, nilv, vi 0, vs (ba []), nilv, nilv])] tv fun a w hs => ?_
  refine then_norm ?_
  refine wp_seq ?_
  refine wp_seq ?_
  refine wN hs hI [] 25 [] .norm [(1, vs x), (2, .ptr 1000 0), (4, .ptr 1001 0), (7, .ptr 5001 0), (8, vb false), (9, vi 0)] [(1000, bTr (t)), (1001, .var zTr), (5001, .var [vi 7, vb false, vb false, nilv, vi 0, vs (ba []), nilv, nilv])] tv fun a w hs => ?_
  refine then_norm ?_
  refine wp_block ?_
  have hk7 := mem_kind (t := t) (x := x) (by assumption)
  have hbx : memB t x = true := by assumption
  refine loop_L (N := Tryz.f21.ntmps) (w0 := w0) (ow := noO fz) (α := Nat × Mem × Bool) (fun p => [(1, vs x), (2, .ptr 1000 0), (4, .ptr 1001 0), (7, .ptr 90000001 0), (8, vb p.2.2), (9, vi ((p.1 : Nat) : Int))]) (fun p => [(1000, bTr (t)), (1001, .var zTr), (90000001, .var [vi 7, vb false, vb false, nilv, vi 0, vs (ba []), .own 90000002, .own 90000003]), (90000002, .sl 9 .str (mK p.2.1)), (90000003, .sl 29 .tree (mV p.2.1))]) (fun p => (p.1 ≤ t.k.length ∧ p.1 ≤ t.v.length) ∧ DelJ t x p.1 p.2.1 p.2.2) (fun p => t.k.length - p.1) (0, [], false) ?_ ?_ ?_
  ·exact ⟨⟨Nat.zero_le _, Nat.zero_le _⟩, DelJ.start t x⟩
  ·(have hs := (hs.nilB 10000005 5001 6 9 .str [vi 7, vb false, vb false, nilv, vi 0, vs (ba []), nilv, nilv] (by kernel_rfl) (by kernel_rfl) (by decide) (by decide) (by kernel_rfl) (by kernel_rfl)).rmT [(1, vs x), (2, .ptr 1000 0), (4, .ptr 1001 0), (7, .ptr 5001 0), (8, vb false), (9, vi 0)] [(1000, bTr (t)), (1001, .var zTr), (5001, .var [vi 7, vb false, vb false, nilv, vi 0, vs (ba []), .own 10000005, nilv]), (10000005, .sl 9 .str ([]))] [(1000, 1000), (1001, 1001), (5001, 5001), (10000005, 10000005)] (by kernel_rfl); have hs := (hs.nilB 10000006 5001 7 29 .tree [vi 7, vb false, vb false, nilv, vi 0, vs (ba []), .own 10000005, nilv] (by kernel_rfl) (by kernel_rfl) (by decide) (by decide) (by kernel_rfl) (by kernel_rfl)).rmT [(1, vs x), (2, .ptr 1000 0), (4, .ptr 1001 0), (7, .ptr 5001 0), (8, vb false), (9, vi 0)] [(1000, bTr (t)), (1001, .var zTr), (5001, .var [vi 7, vb false, vb false, nilv, vi 0, vs (ba []), .own 10000005, .own 10000006]), (10000005, .sl 9 .str ([])), (10000006, .sl 29 .tree ([]))] [(1000, 1000), (1001, 1001), (5001, 5001), (10000005, 10000005), (10000006, 10000006)] (by kernel_rfl); exact (hs.cst [(1, vs x), (2, .ptr 1000 0), (4, .ptr 1001 0), (7, .ptr 5001 0), (8, vb false), (9, vi ((0 : Nat) : Int))] [(1000, bTr (t)), (1001, .var zTr), (5001, .var [vi 7, vb false, vb false, nilv, vi 0, vs (ba []), .own 10000005, .own 10000006]), (10000005, .sl 9 .str (mK ([]))), (10000006, .sl 29 .tree (mV ([])))] rfl).rm [(1000, 1000), (1001, 1001), (90000001, 5001), (90000002, 10000005), (90000003, 10000006)] (by kernel_rfl))
  rintro ⟨i, acc, done⟩ hJ a w hs
  try dsimp only at hJ
  obtain ⟨⟨hi, hi2⟩, hJ⟩ := hJ
  have hln := hJ.len
  have hl1 : (mK acc).length = acc.length := List.length_map _
  have hl2 : (mV acc).length = acc.length := List.length_map _
  rcases bt (decide ((i : Int) < (t.k.length : Int))) with b2 | b2
  ·skip
   have n2 := of_decide_eq_true b2
   rcases bt (decide ((i : Int) < (t.v.length : Int))) with b3 | b3
   ·skip
    have n3 := of_decide_eq_true b3
    rcases bt (done) with b4 | b4
    ·skip
     refine wL hs hI [(7, ⟨[], gg [6, 7, 8, 9, 10, 1011] [], []⟩), (9, ⟨[], gg [] [3, 4, 5, 6, 7, 8, 9, 1010], []⟩)] [true, false] 940114294885949469940402688164793936016723008633411140408940991619601845105489093750 [ty b2, ty b2, ty b2, ty b2, ty b2, ty b2, ty b3, ty (ng1 b4), ty (ng1 b4), ty (ng1 b4), ty (ng1 b4), ty (ng1 b4), ty (ng1 b4), ty (ng1 b4), ty (ng1 b4), false = false, 0 ≤ (i : Int) ∧ (i : Int) < t.k.length, (((mK acc).length + 1) * 16 : Nat) ≤ 140737488355328 ∧ (mK acc).length + 1 ≤ 140737488355328, 0 ≤ (i : Int) ∧ (i : Int) < t.v.length, (((mV acc).length + 1) * 120 : Nat) ≤ 140737488355328 ∧ (mV acc).length + 1 ≤ 140737488355328, InR .i64 ((i : Int) + 1)] .norm [(1, vs x), (2, .ptr 1000 0), (4, .ptr 1001 0), (7, .ptr 90000001 0), (8, vb done), (9, vi ((i : Int) + 1))] [(1000, bTr (t)), (1001, .var zTr), (12008, .sl 9 .str ((mK acc) ++ ([(t.k.getD i (dflt .str))]))), (12017, .sl 29 .tree ((mV acc) ++ ([(Tree.et (t.v.getD i (dflt .tree)))]))), (90000001, .var [vi 7, vb false, vb false, nilv, vi 0, vs (ba []), .own 12008, .own 12017])] ⟨tv, tv, tv⟩ ⟨b2, b2, b2, b2, b2, b2, b3, (ng1 b4), (ng1 b4), (ng1 b4), (ng1 b4), (ng1 b4), (ng1 b4), (ng1 b4), (ng1 b4), rfl, (by omega), (by omega), (by omega), (by omega), (inR64 (by omega) (by omega)), tv⟩ fun a w hs => ?_
     refine then_norm ⟨(i + 1, acc ++ [(t.k.getD i (dflt .str), t.v.getD i (dflt .tree))], done), ⟨⟨by omega, by omega⟩, hJ.on hk7 (by omega) (by omega) (.inl b4)⟩, by omega, ?_⟩
     (have e0_ : ((i : Int) + 1) = ((((i + 1) : Nat) : Int)) := (by first | rfl | (first | rfl | (simp only [mK_add, mV_add, Tree.eta']; rfl) | (simp [mK, mV, Tree.eta']; done))); have e1_ : ((mK acc) ++ ([(t.k.getD i (dflt .str))])) = (mK (acc ++ [(t.k.getD i (dflt .str), t.v.getD i (dflt .tree))])) := (by first | rfl | (first | rfl | (simp only [mK_add, mV_add, Tree.eta']; rfl) | (simp [mK, mV, Tree.eta']; done))); have e2_ : ((mV acc) ++ ([(Tree.et (t.v.getD i (dflt .tree)))])) = (mV (acc ++ [(t.k.getD i (dflt .str), t.v.getD i (dflt .tree))])) := (by first | rfl | (first | rfl | (simp only [mK_add, mV_add, Tree.eta']; rfl) | (simp [mK, mV, Tree.eta']; done))); exact (hs.cst [(1, vs x), (2, .ptr 1000 0), (4, .ptr 1001 0), (7, .ptr 90000001 0), (8, vb done), (9, vi (((i + 1) : Nat) : Int))] [(1000, bTr (t)), (1001, .var zTr), (12008, .sl 9 .str (mK (acc ++ [(t.k.getD i (dflt .str), t.v.getD i (dflt .tree))]))), (12017, .sl 29 .tree (mV (acc ++ [(t.k.getD i (dflt .str), t.v.getD i (dflt .tree))]))), (90000001, .var [vi 7, vb false, vb false, nilv, vi 0, vs (ba []), .own 12008, .own 12017])] (by first | (rw [e0_, e1_, e2_]; done) | (simp only [e0_, e1_, e2_]; done) | rfl | (simp only [e0_, e1_, e2_]; rfl))).rm [(1000, 1000), (1001, 1001), (90000001, 90000001), (90000002, 12008), (90000003, 12017)] (by kernel_rfl))
    ·skip
     rcases bt ((t.k.getD i (dflt .str)).toList == x.toList) with b5 | b5
     ·skip
      have n5 := eq_of_beq b5
      refine wL hs hI [(7, ⟨[], gg [6, 7, 8, 9, 10, 1011] [], []⟩), (9, ⟨[], gg [3, 4, 5, 6, 7, 8, 9, 1010] [], []⟩)] [true, true] 25236000857426652098093290803813755929229228058829902966817218750 [ty b2, ty b2, ty b2, ty b2, ty b2, ty b2, ty b3, ty (ng0 b4), ty (ng0 b4), ty (ng0 b4), ty (ng0 b4), 0 ≤ (i : Int) ∧ (i : Int) < t.k.length, ty (ng0 b4), ty (ng0 b4), ty (ng0 b4), ty (ng0 b4), ty b5, InR .i64 ((i : Int) + 1)] .norm [(1, vs x), (2, .ptr 1000 0), (4, .ptr 1001 0), (7, .ptr 90000001 0), (8, vb true), (9, vi ((i : Int) + 1))] [(1000, bTr (t)), (1001, .var zTr), (90000001, .var [vi 7, vb false, vb false, nilv, vi 0, vs (ba []), .own 90000002, .own 90000003]), (90000002, .sl 9 .str (mK acc)), (90000003, .sl 29 .tree (mV acc))] ⟨tv, tv, tv⟩ ⟨b2, b2, b2, b2, b2, b2, b3, (ng0 b4), (ng0 b4), (ng0 b4), (ng0 b4), (by omega), (ng0 b4), (ng0 b4), (ng0 b4), (ng0 b4), b5, (inR64 (by omega) (by omega)), tv⟩ fun a w hs => ?_
      refine then_norm ⟨(i + 1, acc, true), ⟨⟨by omega, by omega⟩, hJ.hit hk7 (by omega) (by omega) b4 b5⟩, by omega, ?_⟩
      (have e0_ : ((i : Int) + 1) = ((((i + 1) : Nat) : Int)) := (by first | rfl | (first | rfl | (simp only [mK_add, mV_add, Tree.eta']; rfl) | (simp [mK, mV, Tree.eta']; done))); exact (hs.cst [(1, vs x), (2, .ptr 1000 0), (4, .ptr 1001 0), (7, .ptr 90000001 0), (8, vb true), (9, vi (((i + 1) : Nat) : Int))] [(1000, bTr (t)), (1001, .var zTr), (90000001, .var [vi 7, vb false, vb false, nilv, vi 0, vs (ba []), .own 90000002, .own 90000003]), (90000002, .sl 9 .str (mK acc)), (90000003, .sl 29 .tree (mV acc))] (by first | (rw [e0_]; done) | (simp only [e0_]; done) | rfl | (simp only [e0_]; rfl))).rm [(1000, 1000), (1001, 1001), (90000001, 90000001), (90000002, 90000002), (90000003, 90000003)] (by kernel_rfl))
     ·skip
      have n5 := beq_eq_false_iff_ne.1 b5
      refine wL hs hI [(7, ⟨[], gg [6, 7, 8, 9, 10, 1011] [], []⟩), (9, ⟨[], gg [3, 4, 5, 6, 7, 8, 9, 1010] [], []⟩)] [true, false] 5738002288122250182741715626005822363383319144491441363258531123847648996161296963055928546875 [ty b2, ty b2, ty b2, ty b2, ty b2, ty b2, ty b3, ty (ng0 b4), ty (ng0 b4), ty (ng0 b4), ty (ng0 b4), 0 ≤ (i : Int) ∧ (i : Int) < t.k.length, ty (ng0 b4), ty (ng0 b4), ty (ng0 b4), ty (ng0 b4), ty b5, 0 ≤ (i : Int) ∧ (i : Int) < t.k.length, (((mK acc).length + 1) * 16 : Nat) ≤ 140737488355328 ∧ (mK acc).length + 1 ≤ 140737488355328, 0 ≤ (i : Int) ∧ (i : Int) < t.v.length, (((mV acc).length + 1) * 120 : Nat) ≤ 140737488355328 ∧ (mV acc).length + 1 ≤ 140737488355328, InR .i64 ((i : Int) + 1)] .norm [(1, vs x), (2, .ptr 1000 0), (4, .ptr 1001 0), (7, .ptr 90000001 0), (8, vb done), (9, vi ((i : Int) + 1))] [(1000, bTr (t)), (1001, .var zTr), (12008, .sl 9 .str ((mK acc) ++ ([(t.k.getD i (dflt .str))]))), (12017, .sl 29 .tree ((mV acc) ++ ([(Tree.et (t.v.getD i (dflt .tree)))]))), (90000001, .var [vi 7, vb false, vb false, nilv, vi 0, vs (ba []), .own 12008, .own 12017])] ⟨tv, tv, tv⟩ ⟨b2, b2, b2, b2, b2, b2, b3, (ng0 b4), (ng0 b4), (ng0 b4), (ng0 b4), (by omega), (ng0 b4), (ng0 b4), (ng0 b4), (ng0 b4), b5, (by omega), (by omega), (by omega), (by omega), (inR64 (by omega) (by omega)), tv⟩ fun a w hs => ?_
      refine then_norm ⟨(i + 1, acc ++ [(t.k.getD i (dflt .str), t.v.getD i (dflt .tree))], done), ⟨⟨by omega, by omega⟩, hJ.on hk7 (by omega) (by omega) (.inr b5)⟩, by omega, ?_⟩
      (have e0_ : ((i : Int) + 1) = ((((i + 1) : Nat) : Int)) := (by first | rfl | (first | rfl | (simp only [mK_add, mV_add, Tree.eta']; rfl) | (simp [mK, mV, Tree.eta']; done))); have e1_ : ((mK acc) ++ ([(t.k.getD i (dflt .str))])) = (mK (acc ++ [(t.k.getD i (dflt .str), t.v.getD i (dflt .tree))])) := (by first | rfl | (first | rfl | (simp only [mK_add, mV_add, Tree.eta']; rfl) | (simp [mK, mV, Tree.eta']; done))); have e2_ : ((mV acc) ++ ([(Tree.et (t.v.getD i (dflt .tree)))])) = (mV (acc ++ [(t.k.getD i (dflt .str), t.v.getD i (dflt .tree))])) := (by first | rfl | (first | rfl | (simp only [mK_add, mV_add, Tree.eta']; rfl) | (simp [mK, mV, Tree.eta']; done))); exact (hs.cst [(1, vs x), (2, .ptr 1000 0), (4, .ptr 1001 0), (7, .ptr 90000001 0), (8, vb done), (9, vi (((i + 1) : Nat) : Int))] [(1000, bTr (t)), (1001, .var zTr), (12008, .sl 9 .str (mK (acc ++ [(t.k.getD i (dflt .str), t.v.getD i (dflt .tree))]))), (12017, .sl 29 .tree (mV (acc ++ [(t.k.getD i (dflt .str), t.v.getD i (dflt .tree))]))), (90000001, .var [vi 7, vb false, vb false, nilv, vi 0, vs (ba []), .own 12008, .own 12017])] (by first | (rw [e0_, e1_, e2_]; done) | (simp only [e0_, e1_, e2_]; done) | rfl | (simp only [e0_, e1_, e2_]; rfl))).rm [(1000, 1000), (1001, 1001), (90000001, 90000001), (90000002, 12008), (90000003, 12017)] (by kernel_rfl))
   ·skip
    have n3 := of_decide_eq_false b3
    refine wL hs hI [(7, ⟨[], gg [6, 7, 8, 9, 10, 1011] [], []⟩)] [false] 443105818703770001729328125 [ty b2, ty b2, ty b2, ty b2, ty b2, ty b2, ty b3] (.exit 0) [(4, .ptr 1001 0), (7, .ptr 90000001 0)] [(1001, .var zTr), (90000001, .var [vi 7, vb false, vb false, nilv, vi 0, vs (ba []), .own 90000002, .own 90000003]), (90000002, .sl 9 .str (mK acc)), (90000003, .sl 29 .tree (mV acc))] ⟨tv, tv⟩ ⟨b2, b2, b2, b2, b2, b2, b3, tv⟩ fun a w hs => ?_
    refine then_exit ?_
    refine inb_hit ?_
    refine then_norm ?_
    refine wN hs hI [] 16375 [] .ret [(4, .ptr 1001 0)] [(1001, .var [vi 7, vb false, vb false, nilv, vi 0, vs (ba []), .own 90000002, .own 90000003]), (90000002, .sl 9 .str (mK acc)), (90000003, .sl 29 .tree (mV acc))] tv fun a w hs => ?_
    exact rK (.val (.agg [vi 7, vb false, vb false, rwU ([]), vi 0, vs (ba []), rwS (mK acc), rwT (mV acc)])) [90000002, 90000003] hs (by rw [hJ.fin hbx (mems_end (by omega))]; rfl)
  ·skip
   have n2 := of_decide_eq_false b2
   refine wL hs hI [(7, ⟨[], gg [] [6, 7, 8, 9, 10, 1011], []⟩)] [false] 45374035835083000000 [ty b2, ty b2, ty b2, ty b2, ty b2, ty b2, false = false] (.exit 0) [(4, .ptr 1001 0), (7, .ptr 90000001 0)] [(1001, .var zTr), (90000001, .var [vi 7, vb false, vb false, nilv, vi 0, vs (ba []), .own 90000002, .own 90000003]), (90000002, .sl 9 .str (mK acc)), (90000003, .sl 29 .tree (mV acc))] ⟨tv, tv⟩ ⟨b2, b2, b2, b2, b2, b2, rfl, tv⟩ fun a w hs => ?_
   refine then_exit ?_
   refine inb_hit ?_
   refine then_norm ?_
   refine wN hs hI [] 16375 [] .ret [(4, .ptr 1001 0)] [(1001, .var [vi 7, vb false, vb false, nilv, vi 0, vs (ba []), .own 90000002, .own 90000003]), (90000002, .sl 9 .str (mK acc)), (90000003, .sl 29 .tree (mV acc))] tv fun a w hs => ?_
   exact rK (.val (.agg [vi 7, vb false, vb false, rwU ([]), vi 0, vs (ba []), rwS (mK acc), rwT (mV acc)])) [90000002, 90000003] hs (by rw [hJ.fin hbx (mems_end (by omega))]; rfl)
 ·skip
  refine wL hs hI [(1, ⟨[(2, ciV 69 [aTr (t), vs x] (.tup [aTr ((memV t x)), vb (memB t x)]))], [], []⟩)] [true] 726655259137153623046950 [ty (ng0 b1)] .ret [(4, .ptr 1001 0)] [(1001, bTr (t))] ⟨⟨⟨ent69, con69 _ _ (by omega)⟩, tv⟩, tv⟩ ⟨(ng0 b1), tv⟩ fun a w hs => ?_
  refine then_ret ?_
  exact rK (.val (aTr (t))) [] hs (by unfold unsetT; rw [if_neg (by rw [b1]; decide)])
abbrev pAt (l : List (List ByteArray)) (i : Nat) : List ByteArray := l.getD i (dflt .strs)
def coverB (l : List (List ByteArray)) (i k : Nat) : Bool := startsF (pAt l k) (pAt l i) && (decide (((pAt l k).length : Int) < ((pAt l i).length : Int)) || decide ((k : Int) < (i : Int)))
def keepF (l : List (List ByteArray)) (i : Nat) : Bool := (List.range l.length).all fun k => !coverB l i k
structure NrmJ (l : List (List ByteArray)) (i : Nat) (m : List (List ByteArray)) : Prop where
 le : i ≤ l.length
 srt : m.Pairwise Le
 nd : m.Nodup
 mem : ∀ x, x ∈ m ↔ ∃ j, j < i ∧ keepF l j = true ∧ pAt l j = x
 len : m.length ≤ i
theorem NrmJ.start (l : List (List ByteArray)) : NrmJ l 0 [] := ⟨Nat.zero_le _, List.Pairwise.nil, List.nodup_nil, fun x => ⟨fun h => by simp at h, fun ⟨j, h, _⟩ => absurd h (Nat.not_lt_zero _)⟩, Nat.le_refl _⟩
theorem NrmJ.skip {l : List (List ByteArray)} {i : Nat} {m : List (List ByteArray)} (h : NrmJ l i m) (hi : i < l.length) (hk : keepF l i = false) : NrmJ l (i + 1) m := by
 refine ⟨by omega, h.srt, h.nd, fun x => ?_, by have := h.len; omega⟩
 rw [h.mem x]
 refine ⟨fun ⟨j, h1, h2, h3⟩ => ⟨j, by omega, h2, h3⟩, fun ⟨j, h1, h2, h3⟩ => ⟨j, ?_, h2, h3⟩⟩
 rcases Nat.lt_succ_iff_lt_or_eq.1 h1 with h4 | h4
 ·exact h4
 ·subst h4; rw [hk] at h2; cases h2
theorem keep_yes {l : List (List ByteArray)} {i : Nat} (h : keepF l i = true) {k : Nat} (hk : k < l.length) (hs : startsF (pAt l k) (pAt l i) = true) : ¬ (pAt l k).length < (pAt l i).length ∧ ¬ k < i := by
 have h1 := List.all_eq_true.1 h k (by simpa using hk)
 unfold coverB at h1
 rw [hs, Bool.true_and, Bool.not_eq_true', Bool.or_eq_false_iff] at h1
 have h2 := of_decide_eq_false h1.1
 have h3 := of_decide_eq_false h1.2
 omega
structure InsJ (x : List ByteArray) (m : List (List ByteArray)) (k : Nat) : Prop where
 le : k ≤ m.length
 up : ∀ j, k ≤ j → j < m.length → cmpS x (pAt m j) < 0
theorem InsJ.start (x : List ByteArray) (m : List (List ByteArray)) : InsJ x m m.length := ⟨Nat.le_refl _, fun j h1 h2 => absurd h2 (by omega)⟩
theorem InsJ.on {x : List ByteArray} {m : List (List ByteArray)} {k : Nat} (h : InsJ x m k) (hk : 0 < k) (hl : cmpS x (pAt m (k - 1)) < 0) : InsJ x m (k - 1) := by
 refine ⟨by have := h.le; omega, fun j h1 h2 => ?_⟩
 rcases Nat.lt_or_ge j k with h3 | h3
 ·rw [show j = k - 1 by omega]; exact hl
 ·exact h.up j h3 h2
theorem getD_at {m : List (List ByteArray)} {j : Nat} (h : j < m.length) : pAt m j = m[j] := by
 unfold pAt; rw [List.getD_eq_getElem?_getD, List.getElem?_eq_getElem h]; rfl
theorem le_last {m : List (List ByteArray)} (hs : m.Pairwise Le) {j k : Nat} (h : j ≤ k) (hk : k < m.length) : Le (pAt m j) (pAt m k) := by
 rcases Nat.lt_or_eq_of_le h with h1 | h1
 ·rw [getD_at hk, getD_at (show j < m.length by omega)]
  exact List.pairwise_iff_getElem.1 hs j k (by omega) hk h1
 ·subst h1; exact Le.refl _
theorem insP_sorted {x : List ByteArray} {m : List (List ByteArray)} {k : Nat} (hs : m.Pairwise Le) (h : InsJ x m k) (h0 : k = 0 ∨ ¬ cmpS x (pAt m (k - 1)) < 0) : (m.take k ++ [x] ++ m.drop k).Pairwise Le := by
 have hle := h.le
 have h1 : ∀ a ∈ m.take k, Le a x := fun a ha => by
  obtain ⟨j, hj, rfl⟩ := List.mem_iff_getElem.1 ha
  rw [List.length_take] at hj
  rcases h0 with h0 | h0
  ·omega
  ·have h2 := le_last hs (j := j) (k := k - 1) (by omega) (by omega)
   rw [List.getElem_take, ← getD_at (show j < m.length by omega)]
   exact h2.trans h0
 have h2 : ∀ b ∈ m.drop k, Le x b := fun b hb => by
  obtain ⟨j, hj, rfl⟩ := List.mem_iff_getElem.1 hb
  rw [List.length_drop] at hj
  rw [List.getElem_drop, ← getD_at (show k + j < m.length by omega)]
  have h3 := h.up (k + j) (by omega) (by omega)
  intro h4
  have h5 := cmpS_trans h3 h4
  rw [cmpS_self] at h5
  exact absurd h5 (by decide)
 have hm := hs
 rw [← List.take_append_drop k m, List.pairwise_append] at hm
 rw [List.append_assoc, List.pairwise_append]
 refine ⟨hm.1, ?_, fun a ha b hb => ?_⟩
 ·rw [List.singleton_append, List.pairwise_cons]
  exact ⟨h2, hm.2.1⟩
 ·rw [List.singleton_append, List.mem_cons] at hb
  rcases hb with rfl | hb
  ·exact h1 a ha
  ·exact hm.2.2 a ha b hb
theorem insP_perm (x : List ByteArray) (m : List (List ByteArray)) (k : Nat) : (m.take k ++ [x] ++ m.drop k).Perm (x :: m) := by
 rw [List.append_assoc, List.singleton_append]
 refine List.perm_middle.trans ?_
 rw [List.take_append_drop]
theorem NrmJ.put {l : List (List ByteArray)} {i k : Nat} {m : List (List ByteArray)} (h : NrmJ l i m) (hi : i < l.length) (hk : keepF l i = true) (hins : InsJ (pAt l i) m k) (h0 : k = 0 ∨ ¬ cmpS (pAt l i) (pAt m (k - 1)) < 0) : NrmJ l (i + 1) (m.take k ++ [pAt l i] ++ m.drop k) := by
 have hp := insP_perm (pAt l i) m k
 refine ⟨by omega, insP_sorted h.srt hins h0, hp.nodup_iff.2 (List.nodup_cons.2 ⟨fun hm => ?_, h.nd⟩), fun x => ?_, by rw [hp.length_eq, List.length_cons]; have := h.len; omega⟩
 ·obtain ⟨j, h1, h2, h3⟩ := (h.mem _).1 hm
  exact (keep_yes hk (k := j) (by omega) (by rw [h3]; exact starts_self _)).2 h1
 ·rw [hp.mem_iff, List.mem_cons, h.mem x]
  constructor
  ·rintro (rfl | ⟨j, h1, h2, h3⟩)
   ·exact ⟨i, by omega, hk, rfl⟩
   ·exact ⟨j, by omega, h2, h3⟩
  ·rintro ⟨j, h1, h2, h3⟩
   rcases Nat.lt_succ_iff_lt_or_eq.1 h1 with h4 | h4
   ·exact .inr ⟨j, h4, h2, h3⟩
   ·subst h4; exact .inl h3.symm
theorem first_of {l : List (List ByteArray)} {x : List ByteArray} (h : x ∈ l) : ∃ i, i < l.length ∧ pAt l i = x ∧ ∀ j, j < i → pAt l j ≠ x := by
 induction l with
 | nil => simp at h
 | cons y l ih =>
  by_cases he : y = x
  ·exact ⟨0, by simp, he, fun j hj => absurd hj (Nat.not_lt_zero _)⟩
  ·obtain ⟨i, h1, h2, h3⟩ := ih (by rcases List.mem_cons.1 h with h | h; exact absurd h.symm he; exact h)
   refine ⟨i + 1, by simp; omega, h2, fun j hj => ?_⟩
   rcases j with _ | j
   ·exact he
   ·exact h3 j (by omega)
theorem NrmJ.fin {l : List (List ByteArray)} {i : Nat} {m : List (List ByteArray)} (h : NrmJ l i m) (hi : i = l.length) : m = normF l := by
 subst hi
 refine List.Perm.eq_of_pairwise (le := Le) (fun a b _ _ h1 h2 => cmpS_anti h2 h1) h.srt (normF_sorted l) ?_
 rw [List.perm_ext_iff_of_nodup h.nd (norm_nodup l)]
 intro x
 rw [h.mem x, norm_iff]
 constructor
 ·rintro ⟨j, h1, h2, rfl⟩
  refine ⟨getD_mem h1 _, fun y hy hs => ?_⟩
  obtain ⟨k, hk, rfl⟩ := List.mem_iff_getElem.1 hy
  rw [← getD_at hk] at hs ⊢
  have h3 := keep_yes h2 hk hs
  exact (starts_iff.1 hs).eq_of_length_le (by omega)
 ·rintro ⟨h1, h2⟩
  obtain ⟨j, h3, h4, h5⟩ := first_of h1
  refine ⟨j, h3, ?_, h4⟩
  refine all_yes' (fun k hk => ?_)
  cases hc : coverB l j k with
  | false => rfl
  | true =>
   exfalso
   unfold coverB at hc
   rw [Bool.and_eq_true, h4] at hc
   have h6 := h2 _ (getD_mem hk (dflt .strs)) hc.1
   have h7 := hc.2
   rw [show pAt l k = x from h6] at h7
   simp at h7
   exact h5 k (by omega) h6
end Go.Proofs.YtondpnipoogoiaaGreatDoor.F
