import Derived.Test.YtondpnipoogoiaaGreatDoorA5
import Derived.Sort.LotA
import Derived.Test.YtondpnipoogoiaaGreatDoorA4
set_option maxRecDepth 100000
set_option linter.unusedVariables false
set_option linter.unusedSimpArgs false
namespace Go.Proofs.YtondpnipoogoiaaGreatDoor.F
open Go Go.RowKit
def ltB (a b : ByteArray) : Prop := a.toList < b.toList
theorem ltB_irrefl (a : ByteArray) : ¬ ltB a a := List.lt_irrefl _
theorem ltB_trans {a b c : ByteArray} (h1 : ltB a b) (h2 : ltB b c) : ltB a c := List.lt_trans h1 h2
theorem toList_inj {a b : ByteArray} (h : a.toList = b.toList) : a = b := eqT_iff.1 (by unfold eqT; rw [h]; simp)
theorem ltB_tri (a b : ByteArray) : ltB a b ∨ a = b ∨ ltB b a := by
 by_cases h1 : a.toList < b.toList
 ·exact .inl h1
 ·by_cases h2 : b.toList < a.toList
  ·exact .inr (.inr h2)
  ·exact .inr (.inl (toList_inj (List.le_antisymm (List.not_lt.1 h2) (List.not_lt.1 h1))))
theorem ltB_less {a b : ByteArray} : Op.bytesLess a.toList b.toList = true ↔ ltB a b := by rw [bytesLess_eq]; exact decide_eq_true_iff
theorem cmpB_of_lt {a b : ByteArray} (h : ltB a b) : cmpB a b = -1 := if_pos (ltB_less.2 h)
theorem cmpB_self (a : ByteArray) : cmpB a a = 0 := by
 unfold cmpB gtB
 rw [if_neg (fun h => ltB_irrefl a (ltB_less.1 h))]
 simp
theorem cmpB_of_gt {a b : ByteArray} (h : ltB b a) : cmpB a b = 1 := by
 have h1 : ¬ ltB a b := fun h2 => ltB_irrefl _ (ltB_trans h h2)
 have h2 : Op.bytesLess a.toList b.toList = false := by
  cases hb : Op.bytesLess a.toList b.toList with
  | false => rfl
  | true => exact absurd (ltB_less.1 hb) h1
 have h3 : (a.toList == b.toList) = false := by
  cases hb : a.toList == b.toList with
  | false => rfl
  | true =>
   have := toList_inj (eq_of_beq hb)
   subst this; exact absurd h h1
 unfold cmpB gtB
 rw [h2, h3]; rfl
theorem cmpB_neg {a b : ByteArray} : cmpB a b < 0 ↔ ltB a b := by
 rcases ltB_tri a b with h | h | h
 ·rw [cmpB_of_lt h]; simp [h]
 ·subst h; rw [cmpB_self]; simp [ltB_irrefl]
 ·rw [cmpB_of_gt h]; exact ⟨fun h => absurd h (by decide), fun h2 => absurd (ltB_trans h h2) (ltB_irrefl _)⟩
theorem cmpB_zero {a b : ByteArray} : cmpB a b = 0 ↔ a = b := by
 rcases ltB_tri a b with h | h | h
 ·rw [cmpB_of_lt h]; exact ⟨fun h => absurd h (by decide), fun e => by subst e; exact absurd h (ltB_irrefl _)⟩
 ·subst h; simp [cmpB_self]
 ·rw [cmpB_of_gt h]; exact ⟨fun h => absurd h (by decide), fun e => by subst e; exact absurd h (ltB_irrefl _)⟩
theorem cmpB_pos {a b : ByteArray} : 0 < cmpB a b ↔ ltB b a := by
 rcases ltB_tri a b with h | h | h
 ·rw [cmpB_of_lt h]; exact ⟨fun h => absurd h (by decide), fun h2 => absurd (ltB_trans h h2) (ltB_irrefl _)⟩
 ·subst h; rw [cmpB_self]; simp [ltB_irrefl]
 ·rw [cmpB_of_gt h]; simp [h]
theorem cmpS_self : ∀ xs : List ByteArray, cmpS xs xs = 0
 | [] => rfl
 | x :: xs => by rw [cmpS, cmpB_self, if_pos rfl, cmpS_self xs]
theorem cmpS_zero : ∀ {xs ys : List ByteArray}, cmpS xs ys = 0 → xs = ys
 | [], [], _ => rfl
 | [], _ :: _, h => absurd h (by simp [cmpS])
 | _ :: _, [], h => absurd h (by simp [cmpS])
 | x :: xs, y :: ys, h => by
  rw [cmpS] at h
  split at h
  ·rename_i e
   rw [cmpB_zero.1 e, cmpS_zero h]
  ·rename_i e; exact absurd h e
theorem cmpS_swap : ∀ (xs ys : List ByteArray), cmpS xs ys < 0 ↔ 0 < cmpS ys xs
 | [], [] => by simp [cmpS]
 | [], _ :: _ => by simp [cmpS]
 | _ :: _, [] => by simp [cmpS]
 | x :: xs, y :: ys => by
  rw [cmpS, cmpS]
  by_cases e : x = y
  ·subst e
   rw [cmpB_self, if_pos rfl, if_pos rfl]; exact cmpS_swap xs ys
  ·rw [if_neg (fun h => e (cmpB_zero.1 h)), if_neg (fun h => e (cmpB_zero.1 h).symm), cmpB_neg, cmpB_pos]
theorem cmpS_trans : ∀ {xs ys zs : List ByteArray}, cmpS xs ys < 0 → cmpS ys zs < 0 → cmpS xs zs < 0
 | [], [], _, h, _ => absurd h (by simp [cmpS])
 | _ :: _, [], _, h, _ => absurd h (by simp [cmpS])
 | _, _ :: _, [], _, h => absurd h (by simp [cmpS])
 | [], _ :: _, _ :: _, _, _ => by simp [cmpS]
 | x :: xs, y :: ys, z :: zs, h1, h2 => by
  rw [cmpS] at h1 h2 ⊢
  by_cases e1 : x = y
  ·subst e1
   rw [cmpB_self, if_pos rfl] at h1
   by_cases e2 : x = z
   ·subst e2
    rw [cmpB_self, if_pos rfl] at h2 ⊢
    exact cmpS_trans h1 h2
   ·rw [if_neg (fun h => e2 (cmpB_zero.1 h))] at h2 ⊢
    exact h2
  ·rw [if_neg (fun h => e1 (cmpB_zero.1 h)), cmpB_neg] at h1
   by_cases e2 : y = z
   ·subst e2
    rw [if_neg (fun h => e1 (cmpB_zero.1 h)), cmpB_neg]; exact h1
   ·rw [if_neg (fun h => e2 (cmpB_zero.1 h)), cmpB_neg] at h2
    have h3 := ltB_trans h1 h2
    rw [if_neg (fun h => by rw [cmpB_zero.1 h] at h3; exact ltB_irrefl _ h3), cmpB_neg]; exact h3
theorem cmpS_le_trans {xs ys zs : List ByteArray} (h1 : ¬ cmpS xs ys < 0) (h2 : ¬ cmpS ys zs < 0) : ¬ cmpS xs zs < 0 := by
 intro h
 rcases Int.lt_trichotomy (cmpS xs ys) 0 with a | a | a
 ·exact h1 a
 ·rw [cmpS_zero a] at h; exact h2 h
 ·have := cmpS_trans ((cmpS_swap _ _).2 a) h
  exact h2 this
theorem cmpS_anti {xs ys : List ByteArray} (h1 : ¬ cmpS xs ys < 0) (h2 : ¬ cmpS ys xs < 0) : xs = ys := by
 rcases Int.lt_trichotomy (cmpS xs ys) 0 with a | a | a
 ·exact absurd a h1
 ·exact cmpS_zero a
 ·exact absurd ((cmpS_swap _ _).2 a) h2
open Go.Proofs Go.Sort
def sortP (l : List (List ByteArray)) : List (List ByteArray) := l.mergeSort (fun x y => !decide (cmpS y x < 0))
structure It (w : World) (fz : Nat → Prop) (η : Nat → Option Value) where
 v : Value
 xs : List ByteArray
 hr : R w fz η v (.row .str xs)
 len : xs.length < 1000000000
section
variable {w : World} {fz : Nat → Prop} {η : Nat → Option Value}
instance : Inhabited (It w fz η) := ⟨⟨.slice none 0 0, [], .row none 0 .str [] (fun _ _ => .bool false) (Nat.le_refl _) (Nat.zero_le _) (fun i x h => by simp at h) (fun i x j y h => by simp at h), by decide⟩⟩
theorem its : ∀ (xs : List (List ByteArray)) (cs : List Value), cs.length = xs.length → (∀ (i : Nat) (x : List ByteArray) (v : Value), xs[i]? = some x → cs[i]? = some v → R w fz η v (.row .str x)) → (∀ x ∈ xs, x.length < 1000000000) → ∃ l : List (It w fz η), l.map It.v = cs ∧ l.map It.xs = xs
 | [], [], _, _, _ => ⟨[], rfl, rfl⟩
 | [], _ :: _, h, _, _ => by simp at h
 | _ :: _, [], h, _, _ => by simp at h
 | x :: xs, c :: cs, h, hr, hl => by
  obtain ⟨l, h1, h2⟩ := its xs cs (by simpa using h) (fun i x v hx hv => hr (i + 1) x v (by simpa using hx) (by simpa using hv)) (fun x hx => hl x (by simp [hx]))
  exact ⟨⟨c, x, hr 0 x c rfl rfl, hl x (by simp)⟩ :: l, by simp [h1], by simp [h2]⟩
theorem rowS_of {W : World} {v : Value} {xs : List ByteArray} (hr : R w fz η v (.row .str xs)) (hb : ∀ k, fz k → k < w.heap.size → W.heap[k]? = w.heap[k]?) : ∃ A c, v = .slice A xs.length c ∧ RowS W A xs := by
 obtain ⟨A, c, rfl, _, _, h⟩ := hr.row_inv
 refine ⟨A, c, rfl, fun i hi => ?_⟩
 obtain ⟨ad, rfl, hf, hlt, hh⟩ := h i (xs.getD i (dflt .str)) (by rw [List.getD_eq_getElem?_getD, List.getElem?_eq_getElem hi]; rfl)
 obtain ⟨u, hu, hru⟩ := hh 0 _ rfl
 have := hru.lit_inv
 subst this
 refine ⟨ad, rfl, ?_⟩
 have e : i * sz Ty.str + 0 = i := by simp [sz]
 rw [e] at hu
 rw [← hu]
 exact World.cell?_of_block (by rw [F.add_block]; exact hb ad.block hf hlt)
theorem it_one (x : It w fz η) : x.v.oneCell' = true := by
 obtain ⟨A, c, h, _⟩ := x.hr.row_inv
 rw [h]; rfl
theorem it_cmp (g : Nat) (hg : ∀ k, fz k → k ≠ g) (size : Nat) : CmpLays1 Tryz.prog 72 #[] (It.v : It w fz η → Value) (fun x y => cmpS x.xs y.xs) g 0 size w := by
 intro m os dk hs x y
 have hb : ∀ k, fz k → k < w.heap.size → (sortWorld It.v w g 0 m dk os).heap[k]? = w.heap[k]? := by
  intro k hk hlt
  have hne := hg k hk
  unfold sortWorld
  rw [heap_grow_old _ _ (by rw [size_putRow, heap_ahead]; exact hlt)]
  simp [putRow, mapBlock, Array.getElem?_modify, Ne.symm hne]
 obtain ⟨A, c, hA, h1⟩ := rowS_of x.hr hb
 obtain ⟨B, d, hB, h2⟩ := rowS_of y.hr hb
 rw [hA, hB, show (#[Value.slice A x.xs.length c, Value.slice B y.xs.length d] ++ (#[] : Array Value)) = #[Value.slice A x.xs.length c, Value.slice B y.xs.length d] by simp]
 refine (walk72 x.xs y.xs A B c d _ h1 h2 x.len y.len).mono ?_
 rintro e w' ⟨rfl, rfl⟩
 exact ⟨rfl, 0, #[], (grow_empty _).symm⟩
theorem it_swo : SWO (ltOf fun x y : It w fz η => cmpS x.xs y.xs) where
 irrefl x := by simp [ltOf, cmpS_self]
 trans x y z h1 h2 := by simp only [ltOf, decide_eq_true_eq] at *; exact cmpS_trans h1 h2
 ntrans x y z h1 h2 := by simp only [ltOf, decide_eq_false_iff_not] at *; exact cmpS_le_trans h1 h2
end
theorem sort_unique {w : World} {fz : Nat → Prop} {η : Nat → Option Value} {d d' : Array (It w fz η)} {xs : List (List ByteArray)} (hd : d.toList.map It.xs = xs) (hp : PermIn 0 d.size d d') (hs : SortedIn (ltOf fun x y : It w fz η => cmpS x.xs y.xs) 0 d.size d') : d'.toList.map It.xs = sortP xs := by
 have hsz : d'.size = d.size := hp.1
 have hperm : d'.toList.Perm d.toList := by
  have := hp.2.2
  rw [show d'.extract 0 d.size = d' by rw [← hsz]; simp, show d.extract 0 d.size = d by simp] at this
  exact this
 refine List.Perm.eq_of_pairwise (le := fun a b => ¬ cmpS b a < 0) (fun a b _ _ h1 h2 => cmpS_anti h2 h1) ?_ ?_ ?_
 ·rw [List.pairwise_map, List.pairwise_iff_getElem]
  intro i j hi hj hij
  have h := hs i j (Nat.zero_le _) hij (by simpa [hsz] using hj)
  have hi' : i < d'.size := by simpa using hi
  have hj' : j < d'.size := by simpa using hj
  simp only [ltOf, decide_eq_false_iff_not] at h
  rw [getElem!_pos d' i hi', getElem!_pos d' j hj'] at h
  simpa using h
 ·have h := List.pairwise_mergeSort (le := fun x y : List ByteArray => !decide (cmpS y x < 0)) (fun a b c h1 h2 => by
   simp only [Bool.not_eq_true', decide_eq_false_iff_not] at *; exact cmpS_le_trans h2 h1) (fun a b => by
   by_cases h : cmpS b a < 0
   ·have h2 : ¬ cmpS a b < 0 := fun h3 => by have := cmpS_trans h h3; rw [cmpS_self] at this; exact absurd this (by decide)
    simp [h2]
   ·simp [h]) xs
  exact h.imp (fun h => by simpa using h)
 ·exact (hperm.map It.xs).trans (by rw [hd]; exact (List.mergeSort_perm _ _).symm)
theorem putCells_take {α : Type} [Inhabited α] (f : α → Value) (d : Array α) (c : Array Value) (h : d.size ≤ c.size) : (putCells f 0 d c).toList.take d.size = d.toList.map f := by
 refine List.ext_getElem? (fun i => ?_)
 rw [List.getElem?_take, List.getElem?_map]
 by_cases hi : i < d.size
 ·rw [if_pos hi]
  simp only [putCells, Array.getElem?_toList, Array.getElem?_mapIdx]
  rw [Array.getElem?_eq_getElem (show i < c.size by omega), Array.getElem?_eq_getElem hi]
  simp only [Option.map_some]
  rw [if_pos ⟨Nat.zero_le _, by omega⟩, Nat.sub_zero, getElem!_pos d i hi]
 ·rw [if_neg hi]
  simp [hi]
theorem conSort (xs : List (List ByteArray)) (hl : xs.length < 1000000) (hp : ∀ p ∈ xs, p.length < 1000000) : ConB Tryz.prog I0 71 [.own 0, .lit (.func (.func 72) #[] #[])] [(0, .sl 26 .strs xs)] (.val (.tup [])) [(0, .sl 26 .strs (sortP xs))] := by
 intro w fz η vs hI hfz hdom hbox hblk hdis hargs
 obtain ⟨u, hu, cs, ho, hR⟩ := hbox 0 _ rfl
 have hvs : vs = #[u, .func (.func 72) #[] #[]] := by
  obtain ⟨hsz, hel⟩ := hargs
  have h2 : vs.size = 2 := hsz
  have e0 := (hel 0 vs[0] _ (Array.getElem?_eq_getElem (by omega)) rfl).own_inv hu
  have e1 := (hel 1 vs[1] _ (Array.getElem?_eq_getElem (by omega)) rfl).lit_inv
  refine Array.ext h2 (fun i hi hi2 => ?_)
  match i, hi2 with
  | 0, _ => exact e0
  | 1, _ => exact e1
 subst hvs
 have hdom' : ∀ (xs' : List (List ByteArray)) b u, η b = some u → (lkp [(0, Box.sl 26 .strs xs')] b).isSome = true := fun xs' b u h => by
  have := hdom b u h
  simp only [lkp] at this ⊢
  split
  ·rfl
  ·rename_i hne
   rw [if_neg hne] at this; cases this
 have fin : ∀ (w' : World), w'.os = w.os → w'.tape = w.tape → w'.output = w.output → w.heap.size ≤ w'.heap.size → (∀ k, k < w.heap.size → ¬ Bk η k → w'.heap[k]? = w.heap[k]?) → (BoxR w' (FzB w fz η η) η u (.sl 26 .strs (sortP xs))) → PostB w fz η [(0, .sl 26 .strs xs)] w' (.returned (.tuple #[])) (.val (.tup [])) [(0, .sl 26 .strs (sortP xs))] := by
  intro w' h1 h2 h3 h4 h5 h6
  refine ⟨⟨h1, h2, h3, h4, h5⟩, .inr ⟨η, hdom' _, fun b _ u u' h h' => by rw [h] at h'; exact (Option.some.inj h').symm, fun b u k h hk => ⟨Nat.lt_of_lt_of_le (hblk b u k h hk).1 h4, .inr ⟨b, u, h, hk⟩⟩, hdis, fun b B hb => ?_, ⟨.tuple #[], rfl, .tup #[] [] rfl (fun j v a h => by simp at h)⟩⟩⟩
  simp only [lkp] at hb
  split at hb
  ·rename_i he
   simp only [Option.some.injEq] at hb
   subst hb he
   exact ⟨u, hu, h6⟩
  ·cases hb
 have up : ∀ (w' : World) (v : Value) (x : List ByteArray), w.heap.size ≤ w'.heap.size → (∀ k, k < w.heap.size → ¬ Bk η k → w'.heap[k]? = w.heap[k]?) → R w fz η v (.row .str x) → R w' (FzB w fz η η) η v (.row .str x) := fun w' v x hz hb h =>
  h.step hz (fun k hk hlt => hb k hlt (fun ⟨b, u, hb, hk'⟩ => (hblk b u k hb hk').2 hk)) (fun k hk hlt => ⟨.inl hk, fun b u hb hk' => (hblk b u k hb hk').2 hk⟩) (fun b u _ h => h)
 obtain ⟨hlen, ⟨rfl, hn⟩ | ⟨g, cap, cur, rfl, _, hcur, hnc, hcm, hcs, htake⟩⟩ := ho
 ·have hx : xs = [] := List.eq_nil_of_length_eq_zero hn
  subst hx
  refine (AnyF.slices_SortFunc_none (P := Tryz.prog) (ρ := Tryz.sortL_ren) { Tryz.sortL with } none 0 _ w).mono ?_
  rintro e w' ⟨rfl, rfl⟩
  exact fin _ rfl rfl rfl (Nat.le_refl _) (fun _ _ _ => rfl) ⟨[], ⟨by simp [sortP], .inl ⟨rfl, by simp [sortP]⟩⟩, fun i x j a hx => by simp [sortP] at hx⟩
 ·have hcsl : cs.length = xs.length := by rw [hlen]; simp [sz]
  obtain ⟨l, hlv, hlx⟩ := its (w := w) (fz := fz) (η := η) xs cs hcsl (fun i x v hx hv => by
   obtain ⟨v', hv', hr⟩ := hR i x 0 _ hx rfl
   have e : i * sz Ty.strs + 0 = i := by simp [sz]
   rw [e, hv] at hv'
   rw [Option.some.inj hv']; exact hr) (fun x hx => by have := hp x hx; omega)
  have hll : l.length = xs.length := by rw [← hlx, List.length_map]
  have hds : l.toArray.size = xs.length := by simpa using hll
  have hgb : Bk η g := ⟨0, _, hu, rfl⟩
  have hg : g < w.heap.size := (hblk 0 _ g hu rfl).1
  have hgf : ∀ k, fz k → k ≠ g := fun k hk e => by subst e; exact (hblk 0 _ k hu rfl).2 hk
  have htk : cur.toList.take xs.length = cs := by rw [← htake]; simp [sz]
  have hcz : xs.length ≤ cur.size := by rw [hcs]; simpa [sz] using hnc
  have hH : Holds (It.v : It w fz η → Value) w g 0 l.toArray := fun j hj => by
   have hj' : j < l.length := by simpa using hj
   refine ⟨?_, by simp [World.frozen?, hcur]⟩
   have h1 : cs[j]? = some (l[j]).v := by rw [← hlv, List.getElem?_map, List.getElem?_eq_getElem hj']; rfl
   rw [← htk, List.getElem?_take, if_pos (by omega), Array.getElem?_toList] at h1
   simp only [World.cell?, hcur, Nat.zero_add]
   rw [getElem!_pos l.toArray j hj]
   simpa using h1
  have hs := Any.slices_SortFunc (P := Tryz.prog) (ρ := Tryz.sortL_ren) Tryz.sortL (It.v : It w fz η → Value) it_one (fun x y => cmpS x.xs y.xs) it_swo 72 #[] g 0 cap l.toArray w ent72 (it_cmp g hgf _) hH hg (by rw [hds]; omega)
  rw [hds] at hs
  refine hs.mono ?_
  rintro e w' ⟨rfl, d', n, os, hpm, hso, rfl⟩
  rw [← hds] at hpm hso
  have hsu := sort_unique (xs := xs) (by simpa using hlx) hpm hso
  have hd's : d'.size = xs.length := by rw [hpm.1, hds]
  have hheap : (sortWorld It.v w g 0 n d' os).heap[g]? = some (.cells (putCells It.v 0 d' cur) 26 (0, 0)) := by
   unfold sortWorld
   rw [heap_grow_old _ _ (by rw [size_putRow, heap_ahead]; exact hg)]
   simp [putRow, mapBlock, Array.getElem?_modify, hcur, onCells]
  have hbl : ∀ k, k < w.heap.size → ¬ Bk η k → (sortWorld It.v w g 0 n d' os).heap[k]? = w.heap[k]? := fun k hk hn => by
   have hne : g ≠ k := fun e => hn (e ▸ hgb)
   unfold sortWorld
   rw [heap_grow_old _ _ (by rw [size_putRow, heap_ahead]; exact hk)]
   simp [putRow, mapBlock, Array.getElem?_modify, hne]
  have hz : w.heap.size ≤ (sortWorld It.v w g 0 n d' os).heap.size := by unfold sortWorld; rw [size_grow, size_putRow, heap_ahead]; omega
  have hsl : (sortP xs).length = xs.length := List.length_mergeSort _
  refine fin _ rfl rfl rfl hz hbl ⟨d'.toList.map It.v, ⟨by rw [hsl]; simp [sz, hd's], .inr ⟨g, cap, putCells It.v 0 d' cur, by rw [hsl], Nat.zero_le _, hheap, by rw [hsl]; exact hnc, hcm, by rw [← hcs]; simp [putCells], ?_⟩⟩, fun i x j a hx ha => ?_⟩
  ·rw [hsl, show xs.length * sz Ty.strs = d'.size by rw [hd's]; simp [sz]]
   exact putCells_take _ _ _ (by omega)
  ·rw [← hsu, List.getElem?_map] at hx
   obtain ⟨it, hit, rfl⟩ := Option.map_eq_some_iff.1 hx
   cases j with
   | zero =>
    simp only [enc, List.getElem?_cons_zero, Option.some.injEq] at ha
    subst ha
    refine ⟨it.v, ?_, up _ _ _ hz hbl it.hr⟩
    rw [show i * sz Ty.strs + 0 = i by simp [sz], List.getElem?_map, hit]; rfl
   | succ j => simp [enc] at ha
open Go.Proofs.Tryz
def textOk (s : ByteArray) : Bool := decide ((s.size : Int) ≤ 2000) && X.validAt s s.size 0
theorem con215 (s : ByteArray) : Con Tryz.prog I0 215 [vs s] (.val (vb (textOk s))) := by
 refine con_of Tryz.func215 rfl (Nat.le_of_ble_eq_true rfl) stab (fun w0 fz a hI hs => ?_)
 rcases bt (decide ((s.size : Int) ≤ 2000)) with b1 | b1
 ·skip
  have n1 := of_decide_eq_true b1
  refine wL hs hI [(1, ⟨[(5, ciA 249 [vs s] [] [] (.val (vb (X.validAt s s.size 0))))], gg [4, 5, 1006] [], []⟩)] [] [2] [] ((True ∧ True) ∧ ((tr 4 ((ty b1) ∧ True ∧ (ty b1) ∧ (okArgs [vs s]) ∧ (ty b1) ∧ True ∧ True)) ∧ True)) .ret [(2, vb (X.validAt s s.size 0))] [] ⟨⟨⟨ent249, conValid _ rfl⟩, tv⟩, tv⟩ (by kernel_rfl) ⟨⟨tv, tv⟩, tr_mk (⟨b1, tv, b1, rfl, b1, tv, tv⟩) 4, tv⟩ (fun a w hs => ?_)
  exact FnQ_cast (out := .val (vb (X.validAt s s.size 0))) (by simp only [textOk]; rw [b1]; rfl) (ret_ok [] hs ⟨by kernel_rfl, rfl⟩)
 ·skip
  have n1 := of_decide_eq_false b1
  refine wL hs hI [(1, ⟨[], gg [] [4, 5, 1006], []⟩)] [] [2] [] ((True ∧ True) ∧ ((tr 4 ((ty b1) ∧ (ty b1) ∧ (ty b1) ∧ True ∧ True)) ∧ True)) .ret [(2, vb false)] [] ⟨tv, tv⟩ (by kernel_rfl) ⟨⟨tv, tv⟩, tr_mk (⟨b1, b1, b1, tv, tv⟩) 4, tv⟩ (fun a w hs => ?_)
  exact FnQ_cast (out := .val (vb false)) (by simp only [textOk]; rw [b1]; rfl) (ret_ok [] hs ⟨by kernel_rfl, rfl⟩)
def nmOk (l : List ByteArray) (i : Nat) : Bool := textOk (l.getD i (dflt .str)) && (!(decide ((i : Int) > 0)) || Op.bytesLess (l.getD ((i : Int) - 1).toNat (dflt .str)).toList (l.getD i (dflt .str)).toList)
def namesOk (l : List ByteArray) : Bool := (List.range l.length).all (nmOk l) && decide ((l.length : Int) ≤ 300)
theorem all_no' {n : Nat} {q : Nat → Bool} {i : Nat} (h : i < n) (hn : q i = false) : (List.range n).all q = false := List.all_eq_false.2 ⟨i, by simpa using h, by simp [hn]⟩
theorem all_yes' {n : Nat} {q : Nat → Bool} (h : ∀ j, j < n → q j = true) : (List.range n).all q = true := List.all_eq_true.2 (fun j hj => h j (by simpa using hj))
theorem con216 (l : List ByteArray) (hl : l.length < 4611686018427387904) : Con Tryz.prog I0 216 [.row .str l] (.val (vb (namesOk l))) := by
 refine con_of Tryz.func216 rfl (Nat.le_of_ble_eq_true rfl) stab (fun w0 fz a hI hs => ?_)
 refine wp_seq ?_
 refine wN hs hI [] [0] [] (True ∧ True) .norm [(0, .row .str l)] [] (by kernel_rfl) ⟨tv, tv⟩ (fun a w hs => ?_)
 refine then_norm ?_
 refine wp_seq ?_
 refine wp_seq ?_
 refine wN hs hI [] [0, 5, 6, 7] [] (tr 3 True) .norm [(0, .row .str l), (5, .row .str l), (6, vi (l.length : Int)), (7, vi 0)] [] (by kernel_rfl) (tr_mk tv 3) (fun a w hs => ?_)
 refine then_norm ?_
 refine wp_block ?_
 refine loop_L (N := Tryz.f216.ntmps) (w0 := w0) (ow := noO fz) (α := Nat) (fun p => [(0, .row .str l), (5, .row .str l), (6, vi (l.length : Int)), (7, vi (p : Int))]) (fun p => []) (fun p => p ≤ l.length ∧ ∀ j, j < p → nmOk l j = true) (fun p => l.length - p) 0 ?_ ?_ ?_
 ·exact ⟨Nat.zero_le _, fun j hj => absurd hj (Nat.not_lt_zero _)⟩
 ·(have e0_ : (0) = (((0 : Nat) : Int)) := (by first | rfl | (rfl)); exact (hs.cst [(0, .row .str l), (5, .row .str l), (6, vi (l.length : Int)), (7, vi ((0 : Nat) : Int))] [] (by first | rfl | (rw [e0_]; done) | (simp only [e0_]; done) | (simp only [e0_]; rfl))).rm [] (by kernel_rfl))
 rintro i hJ a w hs
 obtain ⟨hi, hall⟩ := hJ
 rcases bt (decide ((i : Int) < (l.length : Int))) with b1 | b1
 ·skip
  have n1 := of_decide_eq_true b1
  rcases bt (textOk (l.getD i (dflt .str))) with b2 | b2
  ·skip
   rcases bt (decide ((i : Int) > 0)) with b3 | b3
   ·skip
    have n3 := of_decide_eq_true b3
    rcases bt (Op.bytesLess (l.getD (((i : Int) - 1).toNat) (dflt .str)).toList (l.getD i (dflt .str)).toList) with b4 | b4
    ·skip
     refine wL hs hI [(4, ⟨[(1, ciA 215 [vs (l.getD i (dflt .str))] [] [] (.val (vb (textOk (l.getD i (dflt .str))))))], gg [4, 5, 6, 7, 8, 9, 10, 11, 12, 13, 14, 1014] [1015], []⟩)] [true, false] [0, 5, 6, 7] [] ((True ∧ True) ∧ (((ty b1) ∧ True) ∧ ((True ∧ (0 ≤ (i : Int) ∧ (i : Int) < l.length) ∧ (tr 3 True)) ∧ (True ∧ (okArgs [vs (l.getD i (dflt .str))]) ∧ True ∧ True ∧ (rp 3 (ng1 b2) (rp 2 b3 ((ty b3) ∧ (InR .i64 ((i : Int) - 1)) ∧ (ty b3) ∧ (0 ≤ ((i : Int) - 1) ∧ ((i : Int) - 1) < l.length) ∧ (rp 3 b3 ((ty (ng1 b2)) ∧ (ty b3) ∧ (ty (ng1 b2)) ∧ True)))))) ∧ (ty (ng1 b4)) ∧ True) ∧ (InR .i64 ((i : Int) + 1)) ∧ True ∧ True)) .norm [(0, .row .str l), (5, .row .str l), (6, vi (l.length : Int)), (7, vi ((i : Int) + 1))] [] ⟨⟨⟨ent215, con215 _⟩, tv⟩, tv⟩ (by kernel_rfl) ⟨⟨tv, tv⟩, ⟨b1, tv⟩, ⟨⟨tv, (by omega), tr_mk tv 3⟩, ⟨tv, rfl, tv, tv, rp_mk (rp_mk (⟨b3, (inR64 (by omega) (by omega)), b3, (by omega), rp_mk (⟨(ng1 b2), b3, (ng1 b2), tv⟩) 3⟩) 2) 3⟩, (ng1 b4), tv⟩, (inR64 (by omega) (by omega)), tv, tv⟩ (fun a w hs => ?_)
     refine then_norm ⟨i + 1, ⟨by omega, fun j hj => by rcases Nat.lt_succ_iff_lt_or_eq.1 hj with h | h; exact hall j h; subst h; simp only [nmOk, b1, b2, b3, b4]; rfl⟩, by omega, ?_⟩
     (have e0_ : ((i : Int) + 1) = ((((i + 1) : Nat) : Int)) := (by first | rfl | (omega)); exact (hs.cst [(0, .row .str l), (5, .row .str l), (6, vi (l.length : Int)), (7, vi (((i + 1) : Nat) : Int))] [] (by first | rfl | (rw [e0_]; done) | (simp only [e0_]; done) | (simp only [e0_]; rfl))).rm [] (by kernel_rfl))
    ·skip
     refine wL hs hI [(4, ⟨[(1, ciA 215 [vs (l.getD i (dflt .str))] [] [] (.val (vb (textOk (l.getD i (dflt .str))))))], gg [4, 5, 6, 7, 8, 9, 10, 11, 12, 13, 14, 1014] [1015], []⟩)] [true, true] [2] [] ((True ∧ True) ∧ (((ty b1) ∧ True) ∧ (True ∧ (0 ≤ (i : Int) ∧ (i : Int) < l.length) ∧ (tr 3 True)) ∧ (True ∧ (okArgs [vs (l.getD i (dflt .str))]) ∧ True ∧ True ∧ (rp 3 (ng1 b2) (rp 2 b3 ((ty b3) ∧ (InR .i64 ((i : Int) - 1)) ∧ (ty b3) ∧ (0 ≤ ((i : Int) - 1) ∧ ((i : Int) - 1) < l.length) ∧ (rp 3 b3 ((ty (ng1 b2)) ∧ (ty b3) ∧ (ty (ng1 b2)) ∧ True)))))) ∧ (ty (ng0 b4)) ∧ (True ∧ True) ∧ True)) .ret [(2, vb false)] [] ⟨⟨⟨ent215, con215 _⟩, tv⟩, tv⟩ (by kernel_rfl) ⟨⟨tv, tv⟩, ⟨b1, tv⟩, ⟨tv, (by omega), tr_mk tv 3⟩, ⟨tv, rfl, tv, tv, rp_mk (rp_mk (⟨b3, (inR64 (by omega) (by omega)), b3, (by omega), rp_mk (⟨(ng1 b2), b3, (ng1 b2), tv⟩) 3⟩) 2) 3⟩, (ng0 b4), ⟨tv, tv⟩, tv⟩ (fun a w hs => ?_)
     refine then_ret ?_
     refine inb_ret ?_
     refine then_ret ?_
     exact FnQ_cast (out := .val (vb false)) (by simp only [namesOk]; rw [all_no' (i := i) (by omega) (by simp only [nmOk, b1, b2, b3, b4]; rfl)]; rfl) (ret_ok [] hs ⟨by kernel_rfl, rfl⟩)
   ·skip
    have n3 := of_decide_eq_false b3
    refine wL hs hI [(4, ⟨[(1, ciA 215 [vs (l.getD i (dflt .str))] [] [] (.val (vb (textOk (l.getD i (dflt .str))))))], gg [4, 5, 6, 14] [7, 8, 9, 10, 11, 12, 13, 1014, 1015], []⟩)] [true, false] [0, 5, 6, 7] [] ((True ∧ True) ∧ (((ty b1) ∧ True) ∧ ((True ∧ (0 ≤ (i : Int) ∧ (i : Int) < l.length) ∧ (tr 3 True)) ∧ (True ∧ (okArgs [vs (l.getD i (dflt .str))]) ∧ True ∧ True ∧ (rp 3 (ng1 b2) ((ty b3) ∧ (ty b3) ∧ (ty b3) ∧ (ty b3) ∧ (ty b3) ∧ (ty b3) ∧ (ty b3) ∧ (ty (ng1 b2)) ∧ (ty b3) ∧ (ty (ng1 b2)) ∧ True))) ∧ (false = false) ∧ True) ∧ (InR .i64 ((i : Int) + 1)) ∧ True ∧ True)) .norm [(0, .row .str l), (5, .row .str l), (6, vi (l.length : Int)), (7, vi ((i : Int) + 1))] [] ⟨⟨⟨ent215, con215 _⟩, tv⟩, tv⟩ (by kernel_rfl) ⟨⟨tv, tv⟩, ⟨b1, tv⟩, ⟨⟨tv, (by omega), tr_mk tv 3⟩, ⟨tv, rfl, tv, tv, rp_mk (⟨b3, b3, b3, b3, b3, b3, b3, (ng1 b2), b3, (ng1 b2), tv⟩) 3⟩, rfl, tv⟩, (inR64 (by omega) (by omega)), tv, tv⟩ (fun a w hs => ?_)
    refine then_norm ⟨i + 1, ⟨by omega, fun j hj => by rcases Nat.lt_succ_iff_lt_or_eq.1 hj with h | h; exact hall j h; subst h; simp only [nmOk, b1, b2, b3]; rfl⟩, by omega, ?_⟩
    (have e0_ : ((i : Int) + 1) = ((((i + 1) : Nat) : Int)) := (by first | rfl | (omega)); exact (hs.cst [(0, .row .str l), (5, .row .str l), (6, vi (l.length : Int)), (7, vi (((i + 1) : Nat) : Int))] [] (by first | rfl | (rw [e0_]; done) | (simp only [e0_]; done) | (simp only [e0_]; rfl))).rm [] (by kernel_rfl))
  ·skip
   refine wL hs hI [(4, ⟨[(1, ciA 215 [vs (l.getD i (dflt .str))] [] [] (.val (vb (textOk (l.getD i (dflt .str))))))], gg [1015] [4, 5, 6, 14], []⟩)] [true, true] [2] [] ((True ∧ True) ∧ (((ty b1) ∧ True) ∧ (True ∧ (0 ≤ (i : Int) ∧ (i : Int) < l.length) ∧ (tr 3 True)) ∧ (True ∧ (okArgs [vs (l.getD i (dflt .str))]) ∧ True ∧ True ∧ (ty (ng0 b2)) ∧ (ty (ng0 b2)) ∧ (ty (ng0 b2)) ∧ (tr 7 ((ty (ng0 b2)) ∧ (ty (ng0 b2)) ∧ True))) ∧ (true = true) ∧ (True ∧ True) ∧ True)) .ret [(2, vb false)] [] ⟨⟨⟨ent215, con215 _⟩, tv⟩, tv⟩ (by kernel_rfl) ⟨⟨tv, tv⟩, ⟨b1, tv⟩, ⟨tv, (by omega), tr_mk tv 3⟩, ⟨tv, rfl, tv, tv, (ng0 b2), (ng0 b2), (ng0 b2), tr_mk (⟨(ng0 b2), (ng0 b2), tv⟩) 7⟩, rfl, ⟨tv, tv⟩, tv⟩ (fun a w hs => ?_)
   refine then_ret ?_
   refine inb_ret ?_
   refine then_ret ?_
   exact FnQ_cast (out := .val (vb false)) (by simp only [namesOk]; rw [all_no' (i := i) (by omega) (by simp only [nmOk, b1, b2]; rfl)]; rfl) (ret_ok [] hs ⟨by kernel_rfl, rfl⟩)
 ·skip
  have n1 := of_decide_eq_false b1
  refine wN hs hI [false] [0] [] ((True ∧ True) ∧ ((ty b1) ∧ True)) (.exit 0) [(0, .row .str l)] [] (by kernel_rfl) ⟨⟨tv, tv⟩, b1, tv⟩ (fun a w hs => ?_)
  refine then_exit ?_
  refine inb_hit ?_
  refine then_norm ?_
  refine wN hs hI [] [2] [] ((tr 4 True) ∧ True) .ret [(2, vb (decide ((l.length : Int) ≤ 300)))] [] (by kernel_rfl) ⟨tr_mk tv 4, tv⟩ (fun a w hs => ?_)
  exact FnQ_cast (out := .val (vb (decide ((l.length : Int) ≤ 300)))) (by simp only [namesOk]; rw [all_yes' (fun j hj => hall j (by omega))]; rfl) (ret_ok [] hs ⟨by kernel_rfl, rfl⟩)
theorem con270 (l : List Int) (hl : l.length < 1000000000) : Con Tryz.prog I0 270 [.row (.int .u32) l] (.own 160 (.int .u32) (trimF l)) := by
 refine con_of Tryz.func270 rfl (Nat.le_of_ble_eq_true rfl) stab (fun w0 fz a hI hs => ?_)
 refine wp_seq ?_
 refine wN hs hI [] [0] [] (True ∧ True) .norm [(0, .row (.int .u32) l)] [] (by kernel_rfl) ⟨tv, tv⟩ (fun a w hs => ?_)
 refine then_norm ?_
 refine wp_seq ?_
 refine wN hs hI [] [0, 3] [] (tr 3 True) .norm [(0, .row (.int .u32) l), (3, vi (l.length : Int))] [] (by kernel_rfl) (tr_mk tv 3) (fun a w hs => ?_)
 refine then_norm ?_
 refine wp_seq ?_
 refine wp_block ?_
 refine loop_L (N := Tryz.f270.ntmps) (w0 := w0) (ow := noO fz) (α := Nat) (fun p => [(0, .row (.int .u32) l), (3, vi (p : Int))]) (fun p => []) (fun p => p ≤ l.length ∧ trimF (l.take p) = trimF l) (fun p => p) l.length ?_ ?_ ?_
 ·exact ⟨Nat.le_refl _, by rw [List.take_length]⟩
 ·exact (hs.cst [(0, .row (.int .u32) l), (3, vi ((l.length : Nat) : Int))] [] rfl).rm [] (by kernel_rfl)
 rintro n hJ a w hs
 obtain ⟨hn, ht⟩ := hJ
 rcases bt (decide ((n : Int) > 0)) with b1 | b1
 ·skip
  have n1 := of_decide_eq_true b1
  rcases bt ((l.getD (((n : Int) - 1).toNat) (dflt (.int .u32))) == 0) with b2 | b2
  ·skip
   have n2 := eq_of_beq b2
   refine wL hs hI [(2, ⟨[], gg [3, 4, 5, 6, 7, 8, 1009] [], []⟩)] [true] [0, 3] [] (((tr 3 (rp 2 b1 ((ty b1) ∧ (InR .i64 ((n : Int) - 1)) ∧ (ty b1) ∧ (0 ≤ ((n : Int) - 1) ∧ ((n : Int) - 1) < l.length) ∧ (rp 2 b1 ((ty b1) ∧ True))))) ∧ (ty b2) ∧ True) ∧ (True ∧ (InR .i64 ((n : Int) - 1)) ∧ True ∧ True)) .norm [(0, .row (.int .u32) l), (3, vi ((n : Int) - 1))] [] ⟨tv, tv⟩ (by kernel_rfl) ⟨⟨tr_mk (rp_mk (⟨b1, (inR64 (by omega) (by omega)), b1, (by omega), rp_mk (⟨b1, tv⟩) 2⟩) 2) 3, b2, tv⟩, tv, (inR64 (by omega) (by omega)), tv, tv⟩ (fun a w hs => ?_)
   refine then_norm ⟨n - 1, ⟨by omega, by obtain ⟨m, rfl⟩ : ∃ m, n = m + 1 := ⟨n - 1, by omega⟩; rw [← ht, trimF_zero (n := m) (by omega) (by have h := eq_of_beq b2; rw [← h]; congr 1; omega)]; rfl⟩, by omega, ?_⟩
   (have e0_ : ((n : Int) - 1) = ((((n - 1) : Nat) : Int)) := (by first | rfl | (omega)); exact (hs.cst [(0, .row (.int .u32) l), (3, vi (((n - 1) : Nat) : Int))] [] (by first | rfl | (rw [e0_]; done) | (simp only [e0_]; done) | (simp only [e0_]; rfl))).rm [] (by kernel_rfl))
  ·skip
   have n2 := beq_eq_false_iff_ne.1 b2
   refine wL hs hI [(2, ⟨[], gg [3, 4, 5, 6, 7, 8, 1009] [], []⟩)] [false] [0, 3] [] ((tr 3 (rp 2 b1 ((ty b1) ∧ (InR .i64 ((n : Int) - 1)) ∧ (ty b1) ∧ (0 ≤ ((n : Int) - 1) ∧ ((n : Int) - 1) < l.length) ∧ (rp 2 b1 ((ty b1) ∧ True))))) ∧ ((ty b2) ∧ True)) (.exit 0) [(0, .row (.int .u32) l), (3, vi (n : Int))] [] ⟨tv, tv⟩ (by kernel_rfl) ⟨tr_mk (rp_mk (⟨b1, (inR64 (by omega) (by omega)), b1, (by omega), rp_mk (⟨b1, tv⟩) 2⟩) 2) 3, b2, tv⟩ (fun a w hs => ?_)
   refine then_exit ?_
   refine inb_hit ?_
   refine then_norm ?_
   rcases bt ((n : Int) == 0) with b3 | b3
   ·skip
    have n3 := eq_of_beq b3
    refine wN hs hI [true] [2] [] ((True ∧ True ∧ True) ∧ ((ty b3) ∧ (True ∧ True) ∧ True)) .ret [(2, nilv)] [] (by kernel_rfl) ⟨⟨tv, tv, tv⟩, b3, ⟨tv, tv⟩, tv⟩ (fun a w hs => ?_)
    exact FnQ_cast (out := .own 160 (.int .u32) ([])) (by obtain rfl : n = 0 := (by omega); rw [← ht]; rfl) (ret_ok [] hs (.inr ⟨by kernel_rfl, rfl⟩))
   ·skip
    have n3 := beq_eq_false_iff_ne.1 b3
    refine wN hs hI [false] [2] [7001] (((True ∧ True ∧ True) ∧ (ty b3) ∧ True) ∧ ((True ∧ ((n : Int) = (n : Int) ∧ 0 ≤ (n : Int) ∧ (4 : Nat) * (n : Int) ≤ 281474976710656 ∧ (n : Int) ≤ 9223372036854775807) ∧ True ∧ True) ∧ (tr 3 True) ∧ (True ∧ True ∧ True) ∧ True)) .ret [(2, .own 7001)] [(7001, .sl 160 (.int .u32) (l.take (List.replicate n (dflt (.int .u32))).length ++ (List.replicate n (dflt (.int .u32))).drop l.length))] (by kernel_rfl) ⟨⟨⟨tv, tv, tv⟩, b3, tv⟩, ⟨tv, (by omega), tv, tv⟩, tr_mk tv 3, ⟨tv, tv, tv⟩, tv⟩ (fun a w hs => ?_)
    exact FnQ_cast (out := .own 160 (.int .u32) (l.take (List.replicate n (dflt (.int .u32))).length ++ (List.replicate n (dflt (.int .u32))).drop l.length)) (by obtain ⟨m, rfl⟩ : ∃ m, n = m + 1 := ⟨n - 1, by omega⟩; rw [← ht, trimF_stop (n := m) (by omega) (by have h := beq_eq_false_iff_ne.1 b2; rwa [show (((m + 1 : Nat) : Int) - 1).toNat = m by omega] at h), List.length_replicate, List.drop_of_length_le (by rw [List.length_replicate]; omega), List.append_nil]) (ret_ok [] hs (.inl ⟨7001, by kernel_rfl, rfl⟩))
 ·skip
  have n1 := of_decide_eq_false b1
  refine wL hs hI [(2, ⟨[], gg [] [3, 4, 5, 6, 7, 8, 1009], []⟩)] [false] [0, 3] [] ((tr 3 ((ty b1) ∧ (ty b1) ∧ (ty b1) ∧ (ty b1) ∧ (ty b1) ∧ (ty b1) ∧ (ty b1) ∧ True)) ∧ ((false = false) ∧ True)) (.exit 0) [(0, .row (.int .u32) l), (3, vi (n : Int))] [] ⟨tv, tv⟩ (by kernel_rfl) ⟨tr_mk (⟨b1, b1, b1, b1, b1, b1, b1, tv⟩) 3, rfl, tv⟩ (fun a w hs => ?_)
  refine then_exit ?_
  refine inb_hit ?_
  refine then_norm ?_
  rcases bt ((n : Int) == 0) with b4 | b4
  ·skip
   have n4 := eq_of_beq b4
   refine wN hs hI [true] [2] [] ((True ∧ True ∧ True) ∧ ((ty b4) ∧ (True ∧ True) ∧ True)) .ret [(2, nilv)] [] (by kernel_rfl) ⟨⟨tv, tv, tv⟩, b4, ⟨tv, tv⟩, tv⟩ (fun a w hs => ?_)
   exact FnQ_cast (out := .own 160 (.int .u32) ([])) (by obtain rfl : n = 0 := (by omega); rw [← ht]; rfl) (ret_ok [] hs (.inr ⟨by kernel_rfl, rfl⟩))
  ·skip
   have n4 := beq_eq_false_iff_ne.1 b4
   refine wN hs hI [false] [2] [7001] (((True ∧ True ∧ True) ∧ (ty b4) ∧ True) ∧ ((True ∧ ((n : Int) = (n : Int) ∧ 0 ≤ (n : Int) ∧ (4 : Nat) * (n : Int) ≤ 281474976710656 ∧ (n : Int) ≤ 9223372036854775807) ∧ True ∧ True) ∧ (tr 3 True) ∧ (True ∧ True ∧ True) ∧ True)) .ret [(2, .own 7001)] [(7001, .sl 160 (.int .u32) (l.take (List.replicate n (dflt (.int .u32))).length ++ (List.replicate n (dflt (.int .u32))).drop l.length))] (by kernel_rfl) ⟨⟨⟨tv, tv, tv⟩, b4, tv⟩, ⟨tv, (by omega), tv, tv⟩, tr_mk tv 3, ⟨tv, tv, tv⟩, tv⟩ (fun a w hs => ?_)
   exact FnQ_cast (out := .own 160 (.int .u32) (l.take (List.replicate n (dflt (.int .u32))).length ++ (List.replicate n (dflt (.int .u32))).drop l.length)) (by exfalso; omega) (ret_ok [] hs (.inl ⟨7001, by kernel_rfl, rfl⟩))
theorem wrapU64 {n : Int} (h0 : 0 ≤ n) (h1 : n < 18446744073709551616) : IntKind.wrap .u64 n = n := by
 simp only [IntKind.wrap, IntKind.bits, IntKind.signed]
 simp; omega
theorem wrapU32 {n : Int} (h0 : 0 ≤ n) (h1 : n < 4294967296) : IntKind.wrap .u32 n = n := by
 simp only [IntKind.wrap, IntKind.bits, IntKind.signed]
 simp; omega
theorem stepX {r x : Int} (r0 : 0 ≤ r) (r1 : r < 4294967296) (x0 : 0 ≤ x) (x1 : x < 4294967296) : bitsOr .u64 (IntKind.wrap .u64 (r * 2 ^ 32)) (IntKind.wrap .u64 x) = r * 4294967296 + x := by
 obtain ⟨r, rfl⟩ : ∃ n : Nat, r = (n : Int) := ⟨r.toNat, by omega⟩
 obtain ⟨x, rfl⟩ : ∃ n : Nat, x = (n : Int) := ⟨x.toNat, by omega⟩
 have e1 : ((r : Int) * 2 ^ 32) = ((r * 4294967296 : Nat) : Int) := by omega
 rw [wrapU64 (by omega) (by omega), wrapU64 (by omega) (by omega), e1]
 unfold bitsOr
 have hb : IntKind.bits .u64 = 64 := rfl
 rw [hb]
 have e2 : (BitVec.ofInt 64 ((r * 4294967296 : Nat) : Int) ||| BitVec.ofInt 64 (x : Int)).toNat = r * 4294967296 + x := by
  rw [BitVec.ofInt_natCast, BitVec.ofInt_natCast, BitVec.toNat_or, BitVec.toNat_ofNat, BitVec.toNat_ofNat, Nat.mod_eq_of_lt (by omega), Nat.mod_eq_of_lt (by omega)]
  have := Nat.shiftLeft_add_eq_or_of_lt (i := 32) (b := x) (by omega) r
  rw [Nat.shiftLeft_eq] at this
  exact this.symm
 rw [e2, wrapU64 (by omega) (by omega)]
 omega
theorem val_set {l : List Int} {m : Nat} {x : Int} (h : m < l.length) : val ((l.set m x).drop m) = x.toNat + 4294967296 * val (l.drop (m + 1)) := by
 rw [List.drop_eq_getElem_cons (by simpa using h), val, List.getElem_set_self, List.drop_set_of_lt (by omega)]
structure SmallJ (a : List Int) (d : Int) (m : Nat) (out : List Int) (r : Int) : Prop where
 le : m ≤ a.length
 len : out.length = a.length
 ok : Ok out
 r0 : 0 ≤ r
 r1 : r < d
 eq : val (a.drop m) = d.toNat * val (out.drop m) + r.toNat
theorem SmallJ.start {a : List Int} {d : Int} (hd : 0 < d) : SmallJ a d a.length (List.replicate a.length (dflt (.int .u32))) 0 := by
 refine ⟨Nat.le_refl _, List.length_replicate, Ok.rep _, Int.le_refl _, hd, ?_⟩
 rw [List.drop_of_length_le (Nat.le_refl _), List.drop_of_length_le (by simp)]
 simp [val]
theorem SmallJ.step {a : List Int} {d : Int} {m : Nat} {out : List Int} {r : Int} (ha : Ok a) (hd : 0 < d) (hd1 : d < 4294967296) (h : SmallJ a d m out r) (hm : (m : Int) - 1 ≥ 0) :
  SmallJ a d (m - 1) (out.set ((m : Int) - 1).toNat (IntKind.wrap .u32 (IntKind.wrap .u64 ((bitsOr .u64 (IntKind.wrap .u64 (r * 2 ^ 32)) (IntKind.wrap .u64 (a.getD ((m : Int) - 1).toNat (dflt (.int .u32))))).tdiv d))))
   ((bitsOr .u64 (IntKind.wrap .u64 (r * 2 ^ 32)) (IntKind.wrap .u64 (a.getD ((m : Int) - 1).toNat (dflt (.int .u32))))).tmod d) := by
 obtain ⟨k, rfl⟩ : ∃ k, m = k + 1 := ⟨m - 1, by omega⟩
 have hk : k < a.length := h.le
 have e1 : (((k + 1 : Nat) : Int) - 1).toNat = k := by omega
 have e2 : k + 1 - 1 = k := rfl
 rw [e1, e2]
 have hx := ha.rdk (k : Int)
 have hxe : a.getD k (dflt (.int .u32)) = rd a k := rfl
 rw [hxe]
 generalize hX : rd a k = x at *
 rw [stepX h.r0 (by have := h.r1; omega) hx.1 hx.2]
 have r0 := h.r0
 have r1 := h.r1
 have hX0 : 0 ≤ r * 4294967296 + x := by omega
 rw [Int.tdiv_eq_ediv_of_nonneg hX0, Int.tmod_eq_emod_of_nonneg hX0]
 have hq : (r * 4294967296 + x) / d < 4294967296 := Int.ediv_lt_of_lt_mul hd (by
  have : r + 1 ≤ d := by omega
  have := Int.mul_le_mul_of_nonneg_right this (show (0 : Int) ≤ 4294967296 by decide)
  rw [Int.mul_comm 4294967296 d]; omega)
 have hq0 : 0 ≤ (r * 4294967296 + x) / d := Int.ediv_nonneg hX0 (by omega)
 rw [wrapU64 hq0 (by omega), wrapU32 hq0 hq]
 refine ⟨by omega, by rw [List.length_set]; exact h.len, h.ok.set _ hq0 hq, Int.emod_nonneg _ (by omega), Int.emod_lt_of_pos _ hd, ?_⟩
 rw [val_set (by rw [h.len]; exact hk), val_drop hk, hX, h.eq]
 have hdm := Int.mul_ediv_add_emod (r * 4294967296 + x) d
 have hm0 := Int.emod_nonneg (r * 4294967296 + x) (show d ≠ 0 by omega)
 obtain ⟨d, rfl⟩ : ∃ n : Nat, d = (n : Int) := ⟨d.toNat, by omega⟩
 obtain ⟨r, rfl⟩ : ∃ n : Nat, r = (n : Int) := ⟨r.toNat, by omega⟩
 obtain ⟨x, rfl⟩ : ∃ n : Nat, x = (n : Int) := ⟨x.toNat, by omega⟩
 simp only [Int.toNat_natCast] at *
 have hc : ((r : Int) * 4294967296 + x) = ((r * 4294967296 + x : Nat) : Int) := by omega
 have e3 : ((r : Int) * 4294967296 + x) / d = ((r * 4294967296 + x) / d : Nat) := by rw [hc]; exact (Int.natCast_ediv _ _).symm
 have e4 : ((r : Int) * 4294967296 + x) % d = ((r * 4294967296 + x) % d : Nat) := by rw [hc]; exact (Int.natCast_emod _ _).symm
 have e5 : (((r : Int) * 4294967296 + x) / d).toNat = (r * 4294967296 + x) / d := by rw [e3]; exact Int.toNat_natCast _
 have e6 : (((r : Int) * 4294967296 + x) % d).toNat = (r * 4294967296 + x) % d := by rw [e4]; exact Int.toNat_natCast _
 rw [e5, e6]
 clear e5 e6 e3 e4 hc
 have hdn := Nat.div_add_mod (r * 4294967296 + x) d
 generalize (r * 4294967296 + x) / d = q at *
 generalize (r * 4294967296 + x) % d = s at *
 generalize val (out.drop (k + 1)) = V at *
 have h9 : d * (q + 4294967296 * V) = d * q + 4294967296 * (d * V) := by rw [Nat.mul_add, Nat.mul_left_comm]
 rw [h9]
 generalize d * V = DV at *
 omega
theorem SmallJ.stop {a : List Int} {d : Int} {out : List Int} {r : Int} (ha : Ok a) (hd : 0 < d) (h : SmallJ a d 0 out r) : trimF out = lim (val a / d.toNat) ∧ r = ((val a % d.toNat : Nat) : Int) := by
 have he := h.eq
 have r0 := h.r0
 have r1 := h.r1
 simp only [List.drop_zero] at he
 rw [trim_lim h.ok]
 have h1 : val a / d.toNat = val out := by
  rw [he, Nat.mul_add_div (by omega), Nat.div_eq_of_lt (by omega), Nat.add_zero]
 have h2 : val a % d.toNat = r.toNat := by
  rw [he, Nat.mul_add_mod, Nat.mod_eq_of_lt (by omega)]
 rw [h1, h2]
 exact ⟨rfl, by omega⟩
theorem con271_10 (l : List Int) (ha : Ok l) (hl : l.length < 1000000000) : Con Tryz.prog I0 271 [.row (.int .u32) l, .lit (.int .u32 10)] (.val (.tup [.row (.int .u32) (lim (val l / 10)), .lit (.int .u32 ((val l % 10 : Nat) : Int))])) := by
 refine con_of Tryz.func271 rfl (Nat.le_of_ble_eq_true rfl) stab (fun w0 fz a hI hs => ?_)
 refine wp_seq ?_
 refine wN hs hI [] [0, 1] [] (True ∧ (True ∧ True)) .norm [(0, .row (.int .u32) l), (1, .lit (.int .u32 10))] [] (by kernel_rfl) ⟨tv, tv, tv⟩ (fun a w hs => ?_)
 refine then_norm ?_
 refine wp_seq ?_
 refine wN hs hI [] [0, 1, 6] [2002] (True ∧ (True ∧ ((l.length : Int) = (l.length : Int) ∧ 0 ≤ (l.length : Int) ∧ (4 : Nat) * (l.length : Int) ≤ 281474976710656 ∧ (l.length : Int) ≤ 9223372036854775807) ∧ True ∧ True)) .norm [(0, .row (.int .u32) l), (1, .lit (.int .u32 10)), (6, .own 2002)] [(2002, .sl 160 (.int .u32) (List.replicate l.length (dflt (.int .u32))))] (by kernel_rfl) ⟨tv, tv, (by omega), tv, tv⟩ (fun a w hs => ?_)
 refine then_norm ?_
 refine wp_seq ?_
 refine wN hs hI [] [0, 1, 6, 7] [2002] (True ∧ True) .norm [(0, .row (.int .u32) l), (1, .lit (.int .u32 10)), (6, .own 2002), (7, .lit (.int .u64 0))] [(2002, .sl 160 (.int .u32) (List.replicate l.length (dflt (.int .u32))))] (by kernel_rfl) ⟨tv, tv⟩ (fun a w hs => ?_)
 refine then_norm ?_
 refine wp_seq ?_
 refine wp_seq ?_
 refine wN hs hI [] [0, 1, 6, 7, 8] [2002] (True ∧ (True ∧ (InR .i64 ((l.length : Int) - 1)) ∧ True ∧ True)) .norm [(0, .row (.int .u32) l), (1, .lit (.int .u32 10)), (6, .own 2002), (7, .lit (.int .u64 0)), (8, vi ((l.length : Int) - 1))] [(2002, .sl 160 (.int .u32) (List.replicate l.length (dflt (.int .u32))))] (by kernel_rfl) ⟨tv, tv, (inR64 (by omega) (by omega)), tv, tv⟩ (fun a w hs => ?_)
 refine then_norm ?_
 refine wp_block ?_
 refine loop_L (N := Tryz.f271.ntmps) (w0 := w0) (ow := noO fz) (α := Nat × List Int × Int) (fun p => [(0, .row (.int .u32) l), (1, .lit (.int .u32 10)), (6, .own 90000001), (7, .lit (.int .u64 p.2.2)), (8, vi (((p.1 : Nat) : Int) - 1))]) (fun p => [(90000001, .sl 160 (.int .u32) p.2.1)]) (fun p => SmallJ l 10 p.1 p.2.1 p.2.2) (fun p => p.1) (l.length, List.replicate l.length (dflt (.int .u32)), 0) ?_ ?_ ?_
 ·exact SmallJ.start (by decide)
 ·exact (hs.cst [(0, .row (.int .u32) l), (1, .lit (.int .u32 10)), (6, .own 2002), (7, .lit (.int .u64 0)), (8, vi (((l.length : Nat) : Int) - 1))] [(2002, .sl 160 (.int .u32) (List.replicate l.length (dflt (.int .u32))))] rfl).rm [(90000001, 2002)] (by kernel_rfl)
 rintro ⟨m, out, r⟩ hJ a w hs
 try dsimp only at hJ
 have hm := hJ.le
 have hln := hJ.len
 rcases bt (decide (((m : Int) - 1) ≥ 0)) with b1 | b1
 ·skip
  have n1 := of_decide_eq_true b1
  refine wN hs hI [true] [0, 1, 6, 7, 8] [90000001] (((True ∧ True ∧ True) ∧ (ty b1) ∧ True) ∧ (((tr 4 ((0 ≤ ((m : Int) - 1) ∧ ((m : Int) - 1) < l.length) ∧ (tr 4 True))) ∧ (tr 7 ((0 ≤ ((m : Int) - 1) ∧ ((m : Int) - 1) < out.length) ∧ (((m : Int) - 1).toNat < out.length) ∧ True)) ∧ (tr 5 True)) ∧ True ∧ (InR .i64 (((m : Int) - 1) - 1)) ∧ True ∧ True)) .norm [(0, .row (.int .u32) l), (1, .lit (.int .u32 10)), (6, .own 90000001), (7, .lit (.int .u64 ((bitsOr .u64 (IntKind.wrap .u64 (r * 2 ^ 32)) (IntKind.wrap .u64 (l.getD (((m : Int) - 1).toNat) (dflt (.int .u32))))).tmod 10))), (8, vi (((m : Int) - 1) - 1))] [(90000001, .sl 160 (.int .u32) (out.set (((m : Int) - 1).toNat) (IntKind.wrap .u32 (IntKind.wrap .u64 ((bitsOr .u64 (IntKind.wrap .u64 (r * 2 ^ 32)) (IntKind.wrap .u64 (l.getD (((m : Int) - 1).toNat) (dflt (.int .u32))))).tdiv 10)))))] (by kernel_rfl) ⟨⟨⟨tv, tv, tv⟩, b1, tv⟩, ⟨tr_mk (⟨(by omega), tr_mk tv 4⟩) 4, tr_mk (⟨(by omega), (by omega), tv⟩) 7, tr_mk tv 5⟩, tv, (inR64 (by omega) (by omega)), tv, tv⟩ (fun a w hs => ?_)
  refine then_norm ⟨(m - 1, out.set (((m : Int) - 1).toNat) (IntKind.wrap .u32 (IntKind.wrap .u64 ((bitsOr .u64 (IntKind.wrap .u64 (r * 2 ^ 32)) (IntKind.wrap .u64 (l.getD (((m : Int) - 1).toNat) (dflt (.int .u32))))).tdiv 10))), (bitsOr .u64 (IntKind.wrap .u64 (r * 2 ^ 32)) (IntKind.wrap .u64 (l.getD (((m : Int) - 1).toNat) (dflt (.int .u32))))).tmod 10), hJ.step ha (by decide) (by decide) (by omega), by omega, ?_⟩
  (have e0_ : ((bitsOr .u64 (IntKind.wrap .u64 (r * 2 ^ 32)) (IntKind.wrap .u64 (l.getD (((m : Int) - 1).toNat) (dflt (.int .u32))))).tmod 10) = (((bitsOr .u64 (IntKind.wrap .u64 (r * 2 ^ 32)) (IntKind.wrap .u64 (l.getD (((m : Int) - 1).toNat) (dflt (.int .u32))))).tmod 10)) := (by first | rfl | (omega)); have e1_ : (((m : Int) - 1) - 1) = ((((m - 1) : Nat) : Int) - 1) := (by first | rfl | (omega)); have e2_ : (out.set (((m : Int) - 1).toNat) (IntKind.wrap .u32 (IntKind.wrap .u64 ((bitsOr .u64 (IntKind.wrap .u64 (r * 2 ^ 32)) (IntKind.wrap .u64 (l.getD (((m : Int) - 1).toNat) (dflt (.int .u32))))).tdiv 10)))) = ((out.set (((m : Int) - 1).toNat) (IntKind.wrap .u32 (IntKind.wrap .u64 ((bitsOr .u64 (IntKind.wrap .u64 (r * 2 ^ 32)) (IntKind.wrap .u64 (l.getD (((m : Int) - 1).toNat) (dflt (.int .u32))))).tdiv 10))))) := (by first | rfl | (omega)); exact (hs.cst [(0, .row (.int .u32) l), (1, .lit (.int .u32 10)), (6, .own 90000001), (7, .lit (.int .u64 ((bitsOr .u64 (IntKind.wrap .u64 (r * 2 ^ 32)) (IntKind.wrap .u64 (l.getD (((m : Int) - 1).toNat) (dflt (.int .u32))))).tmod 10))), (8, vi ((((m - 1) : Nat) : Int) - 1))] [(90000001, .sl 160 (.int .u32) (out.set (((m : Int) - 1).toNat) (IntKind.wrap .u32 (IntKind.wrap .u64 ((bitsOr .u64 (IntKind.wrap .u64 (r * 2 ^ 32)) (IntKind.wrap .u64 (l.getD (((m : Int) - 1).toNat) (dflt (.int .u32))))).tdiv 10)))))] (by first | rfl | (rw [e0_, e1_, e2_]; done) | (simp only [e0_, e1_, e2_]; done) | (simp only [e0_, e1_, e2_]; rfl))).rm [(90000001, 90000001)] (by kernel_rfl))
 ·skip
  have n1 := of_decide_eq_false b1
  refine wN hs hI [false] [6, 7] [90000001] ((True ∧ True ∧ True) ∧ ((ty b1) ∧ True)) (.exit 0) [(6, .own 90000001), (7, .lit (.int .u64 r))] [(90000001, .sl 160 (.int .u32) out)] (by kernel_rfl) ⟨⟨tv, tv, tv⟩, b1, tv⟩ (fun a w hs => ?_)
  refine then_exit ?_
  refine inb_hit ?_
  refine then_norm ?_
  refine wL hs hI [(9, ⟨[(1, ciA 270 [.row (.int .u32) out] [] [90000001] (.own 160 (.int .u32) (trimF out)))], [], []⟩)] [] [4, 5] [10001] ((True ∧ (okArgs [.row (.int .u32) out]) ∧ (tr 4 True)) ∧ True) .ret [(4, .own 10001), (5, .lit (.int .u32 (IntKind.wrap .u32 r)))] [(10001, .sl 160 (.int .u32) (trimF out))] ⟨⟨⟨ent270, con270 _ (by have := hJ.len; omega)⟩, tv⟩, tv⟩ (by kernel_rfl) ⟨⟨tv, rfl, tr_mk tv 4⟩, tv⟩ (fun a w hs => ?_)
  exact FnQ_cast (out := .val (.tup [.row (.int .u32) (trimF out), .lit (.int .u32 (IntKind.wrap .u32 r))])) (by obtain rfl : m = 0 := (by omega); obtain ⟨h1, h2⟩ := hJ.stop ha (by decide); have r0 := hJ.r0; have r1 := hJ.r1; rw [h1, wrapU32 r0 (by omega), h2]; rfl) (ret_ok [10001] hs ⟨by kernel_rfl, rfl⟩)
theorem tz_iter {n : Nat} (h0 : n ≠ 0) (h1 : n % 10 = 0) {m c : Nat} (h : tz m = ((tz n).1, c + (tz n).2)) : tz m = ((tz (n / 10)).1, c + 1 + (tz (n / 10)).2) := by
 rw [h, tz_ten h0 h1]; simp only [Prod.mk.injEq, true_and]; omega
theorem tz_end {n : Nat} (h1 : n % 10 ≠ 0 ∨ n = 0) {m c : Nat} (h : tz m = ((tz n).1, c + (tz n).2)) : tz m = (n, c) := by
 rcases h1 with h1 | rfl
 ·rw [h, tz_self h1]; rfl
 ·rw [h, tz_zero]; rfl
theorem lim_len {n : Nat} {l : List Int} (hl : Ok l) (h : n ≤ val l) : (lim n).length ≤ l.length := lim_len_le (Nat.lt_of_le_of_lt h (val_lt hl))
theorem tz_small {l : List Int} (hl : Ok l) (h : l.length < 1000000000) : (tz (val l)).2 ≤ 32000000000 := by
 have := tz_limbs (val_lt hl); omega
theorem last_split {l : List Int} (h : l.length ≠ 0) : l = l.take (l.length - 1) ++ [rd l ((l.length : Int) - 1)] := by
 have h1 := take_snoc' l (l.length - 1) (by omega)
 rw [show l.length - 1 + 1 = l.length by omega, List.take_of_length_le (Nat.le_refl _)] at h1
 rw [show ((l.length : Int) - 1) = ((l.length - 1 : Nat) : Int) by omega]
 exact h1
theorem top_lim {l : List Int} (hl : Ok l) (h : l.length ≠ 0) (h0 : rd l ((l.length : Int) - 1) ≠ 0) : l = lim (val l) := by
 have h1 := last_split h
 have h2 := trim_lim hl
 rw [h1, trimF_snoc, if_neg h0, ← h1] at h2
 exact h2
theorem tz_two_zero {n : Nat} (h : n ≠ 0) : (tz n).2 = 0 ↔ n % 10 ≠ 0 := by
 constructor
 ·intro hz hm
  rw [tz_ten h hm] at hz
  simp at hz
 ·intro hm
  rw [tz_self hm]
theorem val_zero_of {l : List Int} (hl : Ok l) (h : l.length ≠ 0) (h0 : rd l ((l.length : Int) - 1) ≠ 0) : val l ≠ 0 := by
 intro hz
 have := top_lim hl h h0
 rw [hz, lim_zero] at this
 rw [this] at h
 exact h rfl
def checkN (n : Num) : Bool :=
 if n.m.length = 0 then (!n.neg && n.e == 0) else if n.m.length > 90 then false else if rd n.m ((n.m.length : Int) - 1) = 0 then false else if n.e < -1200 then false else if n.e > 1200 then false else decide (val n.m % 10 ≠ 0)
theorem tzB {l : List Int} (hl : Ok l) (h : l.length ≠ 0) (h0 : rd l ((l.length : Int) - 1) ≠ 0) : ((((tz (val l)).2 : Nat) : Int) == 0) = decide (val l % 10 ≠ 0) := by
 have := tz_two_zero (val_zero_of hl h h0)
 rw [Bool.eq_iff_iff, beq_iff_eq, decide_eq_true_iff, ← this]; omega
theorem con251 (l : List Int) (ha : Ok l) (hl : l.length < 1000000000) : Con Tryz.prog I0 251 [.row (.int .u32) l] (.val (.tup [.row (.int .u32) (lim (tz (val l)).1), vi (((tz (val l)).2 : Nat) : Int)])) := by
 refine con_of Tryz.func251 rfl (Nat.le_of_ble_eq_true rfl) stab (fun w0 fz a hI hs => ?_)
 refine wp_seq ?_
 refine wN hs hI [] [0] [] (True ∧ (True ∧ True)) .norm [(0, .row (.int .u32) l)] [] (by kernel_rfl) ⟨tv, tv, tv⟩ (fun a w hs => ?_)
 refine then_norm ?_
 refine wp_scope_straight ?_
 refine wp_seq ?_
 refine wL hs hI [(1, ⟨[(1, ciA 270 [.row (.int .u32) l] [] [] (.val (.row (.int .u32) (lim (val l)))))], [], []⟩)] [] [0] [] (True ∧ ((okArgs [.row (.int .u32) l]) ∧ True ∧ True)) .norm [(0, .row (.int .u32) (lim (val l)))] [] ⟨⟨⟨ent270, (trim_lim ha ▸ (con270 _ (by omega)).frz)⟩, tv⟩, tv⟩ (by kernel_rfl) ⟨tv, rfl, tv, tv⟩ (fun a w hs => ?_)
 refine then_norm ?_
 refine wp_seq ?_
 refine wN hs hI [] [0, 4] [] (True ∧ True) .norm [(0, .row (.int .u32) (lim (val l))), (4, vi 0)] [] (by kernel_rfl) ⟨tv, tv⟩ (fun a w hs => ?_)
 refine then_norm ?_
 refine wp_seq ?_
 refine wN hs hI [] [0, 4] [] True .norm [(0, .row (.int .u32) (lim (val l))), (4, vi 0)] [] (by kernel_rfl) tv (fun a w hs => ?_)
 refine then_norm ?_
 refine wp_seq ?_
 refine wp_block ?_
 refine loop_L (N := Tryz.f251.ntmps) (w0 := w0) (ow := noO fz) (α := Nat × Nat) (fun p => [(0, .row (.int .u32) (lim p.1)), (4, vi ((p.2 : Nat) : Int))]) (fun p => []) (fun p => p.1 ≤ val l ∧ tz (val l) = ((tz p.1).1, p.2 + (tz p.1).2)) (fun p => p.1) (val l, 0) ?_ ?_ ?_
 ·exact ⟨Nat.le_refl _, by simp⟩
 ·exact (hs.cst [(0, .row (.int .u32) (lim (val l))), (4, vi ((0 : Nat) : Int))] [] rfl).rm [] (by kernel_rfl)
 rintro ⟨n, c⟩ hJ a w hs
 try dsimp only at hJ
 obtain ⟨hn, hz⟩ := hJ
 have hln := lim_len ha hn
 have htz := tz_small ha hl
 rw [hz] at htz
 have hl0 := lim_len_zero n
 have hvl := val_lim n
 rcases bt (decide (((lim n).length : Int) > 0)) with b1 | b1
 ·skip
  have n1 := of_decide_eq_true b1
  rcases bt (((val (lim n) % 10 : Nat) : Int) != 0) with b2 | b2
  ·skip
   have n2 := bne_iff_ne.1 b2
   refine wL hs hI [(4, ⟨[(1, ciA 271 [.row (.int .u32) (lim n), .lit (.int .u32 10)] [] [] (.val (.tup [.row (.int .u32) (lim (val (lim n) / 10)), .lit (.int .u32 ((val (lim n) % 10 : Nat) : Int))])))], [], []⟩)] [true, true] [0, 4] [] (((tr 3 True) ∧ (ty b1) ∧ True) ∧ ((True ∧ (okArgs [.row (.int .u32) (lim n), .lit (.int .u32 10)]) ∧ (tr 5 True)) ∧ (True ∧ True ∧ True) ∧ (ty b2) ∧ True)) (.exit 0) [(0, .row (.int .u32) (lim n)), (4, vi (c : Int))] [] ⟨⟨⟨ent271, con271_10 _ (lim_ok n) (by omega)⟩, tv⟩, tv⟩ (by kernel_rfl) ⟨⟨tr_mk tv 3, b1, tv⟩, ⟨tv, rfl, tr_mk tv 5⟩, ⟨tv, tv, tv⟩, b2, tv⟩ (fun a w hs => ?_)
   refine then_exit ?_
   refine inb_hit ?_
   refine then_norm ?_
   refine wN hs hI [] [2, 3] [] ((tr 4 True) ∧ True) .ret [(2, .row (.int .u32) (lim n)), (3, vi (c : Int))] [] (by kernel_rfl) ⟨tr_mk tv 4, tv⟩ (fun a w hs => ?_)
   refine ng_ret ?_
   exact FnQ_cast (out := .val (.tup [.row (.int .u32) (lim n), vi (c : Int)])) (by have h := bne_iff_ne.1 b2; rw [hvl] at h; rw [tz_end (.inl (by omega)) hz]) (ret_ok [] hs ⟨by kernel_rfl, rfl⟩)
  ·skip
   have n2 := bne_eq_false_iff_eq.1 b2
   refine wL hs hI [(4, ⟨[(1, ciA 271 [.row (.int .u32) (lim n), .lit (.int .u32 10)] [] [] (.val (.tup [.row (.int .u32) (lim (val (lim n) / 10)), .lit (.int .u32 ((val (lim n) % 10 : Nat) : Int))])))], [], []⟩)] [true, false] [0, 4] [] (((tr 3 True) ∧ (ty b1) ∧ True) ∧ ((True ∧ (okArgs [.row (.int .u32) (lim n), .lit (.int .u32 10)]) ∧ (tr 5 True)) ∧ ((True ∧ True ∧ True) ∧ (ty b2) ∧ True) ∧ (True ∧ True ∧ True) ∧ True ∧ (InR .i64 ((c : Int) + 1)) ∧ True ∧ True)) .norm [(0, .row (.int .u32) (lim (val (lim n) / 10))), (4, vi ((c : Int) + 1))] [] ⟨⟨⟨ent271, con271_10 _ (lim_ok n) (by omega)⟩, tv⟩, tv⟩ (by kernel_rfl) ⟨⟨tr_mk tv 3, b1, tv⟩, ⟨tv, rfl, tr_mk tv 5⟩, ⟨⟨tv, tv, tv⟩, b2, tv⟩, ⟨tv, tv, tv⟩, tv, (inR64 (by omega) (by omega)), tv, tv⟩ (fun a w hs => ?_)
   refine then_norm ⟨(n / 10, c + 1), ⟨by omega, tz_iter (by omega) (by have h := bne_eq_false_iff_eq.1 b2; rw [hvl] at h; omega) hz⟩, by omega, ?_⟩
   (have e0_ : (lim (val (lim n) / 10)) = (lim (n / 10)) := (by first | rfl | (rw [hvl])); have e1_ : ((c : Int) + 1) = ((((c + 1) : Nat) : Int)) := (by first | rfl | (omega)); exact (hs.cst [(0, .row (.int .u32) (lim (n / 10))), (4, vi (((c + 1) : Nat) : Int))] [] (by first | rfl | (rw [e0_, e1_]; done) | (simp only [e0_, e1_]; done) | (simp only [e0_, e1_]; rfl))).rm [] (by kernel_rfl))
 ·skip
  have n1 := of_decide_eq_false b1
  refine wN hs hI [false] [0, 4] [] ((tr 3 True) ∧ ((ty b1) ∧ True)) (.exit 0) [(0, .row (.int .u32) (lim n)), (4, vi (c : Int))] [] (by kernel_rfl) ⟨tr_mk tv 3, b1, tv⟩ (fun a w hs => ?_)
  refine then_exit ?_
  refine inb_hit ?_
  refine then_norm ?_
  refine wN hs hI [] [2, 3] [] ((tr 4 True) ∧ True) .ret [(2, .row (.int .u32) (lim n)), (3, vi (c : Int))] [] (by kernel_rfl) ⟨tr_mk tv 4, tv⟩ (fun a w hs => ?_)
  refine ng_ret ?_
  exact FnQ_cast (out := .val (.tup [.row (.int .u32) (lim n), vi (c : Int)])) (by rw [tz_end (.inr (by omega)) hz]) (ret_ok [] hs ⟨by kernel_rfl, rfl⟩)
theorem con214 (n : Num) (ha : Ok n.m) (hl : n.m.length < 1000000000) : Con Tryz.prog I0 214 [.agg [vb n.neg, .row (.int .u32) n.m, vi n.e]] (.val (vb (checkN n))) := by
 refine con_of Tryz.func214 rfl (Nat.le_of_ble_eq_true rfl) stab (fun w0 fz a hI hs => ?_)
 rcases bt ((n.m.length : Int) == 0) with b1 | b1
 ·skip
  have n1 := eq_of_beq b1
  rcases bt (n.neg) with b2 | b2
  ·skip
   refine wL hs hI [(3, ⟨[], gg [] [4, 5, 6, 1007], []⟩)] [true] [2] [] ((True ∧ True ∧ True) ∧ ((tr 4 True) ∧ (True ∧ True ∧ True) ∧ (ty b1) ∧ (tr 4 ((ty (ng1 b2)) ∧ (ty (ng1 b2)) ∧ (ty (ng1 b2)) ∧ (ty (ng1 b2)) ∧ True ∧ True)) ∧ True)) .ret [(2, vb false)] [] ⟨tv, tv⟩ (by kernel_rfl) ⟨⟨tv, tv, tv⟩, tr_mk tv 4, ⟨tv, tv, tv⟩, b1, tr_mk (⟨(ng1 b2), (ng1 b2), (ng1 b2), (ng1 b2), tv, tv⟩) 4, tv⟩ (fun a w hs => ?_)
   exact FnQ_cast (out := .val (vb false)) (by rw [checkN, if_pos (by omega), b2]; rfl) (ret_ok [] hs ⟨by kernel_rfl, rfl⟩)
  ·skip
   refine wL hs hI [(3, ⟨[], gg [4, 5, 6, 1007] [], []⟩)] [true] [2] [] ((True ∧ True ∧ True) ∧ ((tr 4 True) ∧ (True ∧ True ∧ True) ∧ (ty b1) ∧ (tr 4 (rp 4 (ng0 b2) True)) ∧ True)) .ret [(2, vb (n.e == 0))] [] ⟨tv, tv⟩ (by kernel_rfl) ⟨⟨tv, tv, tv⟩, tr_mk tv 4, ⟨tv, tv, tv⟩, b1, tr_mk (rp_mk (tv) 4) 4, tv⟩ (fun a w hs => ?_)
   exact FnQ_cast (out := .val (vb (n.e == 0))) (by rw [checkN, if_pos (by omega), b2]; rfl) (ret_ok [] hs ⟨by kernel_rfl, rfl⟩)
 ·skip
  have n1 := beq_eq_false_iff_ne.1 b1
  rcases bt (decide ((n.m.length : Int) > 90)) with b3 | b3
  ·skip
   have n3 := of_decide_eq_true b3
   refine wL hs hI [(4, ⟨[], gg [1010, 1015, 1020] [3, 4, 5, 6, 7, 8, 9, 12, 13, 14, 17, 18, 19], []⟩)] [false, true] [2] [] ((True ∧ True ∧ True) ∧ ((tr 4 True) ∧ ((True ∧ True ∧ True) ∧ (ty b1) ∧ True) ∧ (tr 3 ((ty b3) ∧ (ty b3) ∧ (ty b3) ∧ (ty b3) ∧ (ty b3) ∧ (ty b3) ∧ (ty b3) ∧ (ty b3) ∧ True ∧ (true = true) ∧ (true = true) ∧ (true = true) ∧ (true = true) ∧ True ∧ (true = true) ∧ (true = true) ∧ (true = true) ∧ (true = true) ∧ True)) ∧ (true = true) ∧ (True ∧ True) ∧ True)) .ret [(2, vb false)] [] ⟨tv, tv⟩ (by kernel_rfl) ⟨⟨tv, tv, tv⟩, tr_mk tv 4, ⟨⟨tv, tv, tv⟩, b1, tv⟩, tr_mk (⟨b3, b3, b3, b3, b3, b3, b3, b3, tv, rfl, rfl, rfl, rfl, tv, rfl, rfl, rfl, rfl, tv⟩) 3, rfl, ⟨tv, tv⟩, tv⟩ (fun a w hs => ?_)
   exact FnQ_cast (out := .val (vb false)) (by rw [checkN, if_neg (by omega), if_pos (by omega)]) (ret_ok [] hs ⟨by kernel_rfl, rfl⟩)
  ·skip
   have n3 := of_decide_eq_false b3
   rcases bt ((n.m.getD (((n.m.length : Int) - 1).toNat) (dflt (.int .u32))) == 0) with b4 | b4
   ·skip
    have n4 := eq_of_beq b4
    refine wL hs hI [(4, ⟨[], gg [3, 4, 5, 6, 7, 8, 9, 1015, 1020] [1010, 12, 13, 14, 17, 18, 19], []⟩)] [false, true] [2] [] ((True ∧ True ∧ True) ∧ ((tr 4 True) ∧ ((True ∧ True ∧ True) ∧ (ty b1) ∧ True) ∧ (tr 3 (rp 3 b3 ((ty b3) ∧ (InR .i64 ((n.m.length : Int) - 1)) ∧ (ty b3) ∧ (0 ≤ ((n.m.length : Int) - 1) ∧ ((n.m.length : Int) - 1) < n.m.length) ∧ (rp 3 b3 ((ty b4) ∧ (ty b4) ∧ (ty b4) ∧ (ty b4) ∧ True ∧ (true = true) ∧ (true = true) ∧ (true = true) ∧ (true = true) ∧ True))))) ∧ (true = true) ∧ (True ∧ True) ∧ True)) .ret [(2, vb false)] [] ⟨tv, tv⟩ (by kernel_rfl) ⟨⟨tv, tv, tv⟩, tr_mk tv 4, ⟨⟨tv, tv, tv⟩, b1, tv⟩, tr_mk (rp_mk (⟨b3, (inR64 (by omega) (by omega)), b3, (by omega), rp_mk (⟨b4, b4, b4, b4, tv, rfl, rfl, rfl, rfl, tv⟩) 3⟩) 3) 3, rfl, ⟨tv, tv⟩, tv⟩ (fun a w hs => ?_)
    exact FnQ_cast (out := .val (vb false)) (by rw [checkN, if_neg (by omega), if_neg (by omega), if_pos (show rd n.m _ = 0 from eq_of_beq b4)]) (ret_ok [] hs ⟨by kernel_rfl, rfl⟩)
   ·skip
    have n4 := beq_eq_false_iff_ne.1 b4
    rcases bt (decide (n.e < (-1200))) with b5 | b5
    ·skip
     have n5 := of_decide_eq_true b5
     refine wL hs hI [(4, ⟨[], gg [3, 4, 5, 6, 7, 8, 9, 12, 13, 14, 1020] [1010, 1015, 17, 18, 19], []⟩)] [false, true] [2] [] ((True ∧ True ∧ True) ∧ ((tr 4 True) ∧ ((True ∧ True ∧ True) ∧ (ty b1) ∧ True) ∧ (tr 3 (rp 3 b3 ((ty b3) ∧ (InR .i64 ((n.m.length : Int) - 1)) ∧ (ty b3) ∧ (0 ≤ ((n.m.length : Int) - 1) ∧ ((n.m.length : Int) - 1) < n.m.length) ∧ (rp 3 b3 (rp 4 b4 ((ty b5) ∧ (ty b5) ∧ (ty b5) ∧ (ty b5) ∧ True)))))) ∧ (true = true) ∧ (True ∧ True) ∧ True)) .ret [(2, vb false)] [] ⟨tv, tv⟩ (by kernel_rfl) ⟨⟨tv, tv, tv⟩, tr_mk tv 4, ⟨⟨tv, tv, tv⟩, b1, tv⟩, tr_mk (rp_mk (⟨b3, (inR64 (by omega) (by omega)), b3, (by omega), rp_mk (rp_mk (⟨b5, b5, b5, b5, tv⟩) 4) 3⟩) 3) 3, rfl, ⟨tv, tv⟩, tv⟩ (fun a w hs => ?_)
     exact FnQ_cast (out := .val (vb false)) (by rw [checkN, if_neg (by omega), if_neg (by omega), if_neg (show ¬ rd n.m _ = 0 from beq_eq_false_iff_ne.1 b4), if_pos (by omega)]) (ret_ok [] hs ⟨by kernel_rfl, rfl⟩)
    ·skip
     have n5 := of_decide_eq_false b5
     rcases bt (decide (n.e > 1200)) with b6 | b6
     ·skip
      have n6 := of_decide_eq_true b6
      refine wL hs hI [(4, ⟨[], gg [3, 4, 5, 6, 7, 8, 9, 12, 13, 14, 17, 18, 19] [1010, 1015, 1020], []⟩)] [false, true] [2] [] ((True ∧ True ∧ True) ∧ ((tr 4 True) ∧ ((True ∧ True ∧ True) ∧ (ty b1) ∧ True) ∧ (tr 3 (rp 3 b3 ((ty b3) ∧ (InR .i64 ((n.m.length : Int) - 1)) ∧ (ty b3) ∧ (0 ≤ ((n.m.length : Int) - 1) ∧ ((n.m.length : Int) - 1) < n.m.length) ∧ (rp 3 b3 (rp 4 b4 (rp 3 b5 ((ty b5) ∧ True))))))) ∧ (ty b6) ∧ (True ∧ True) ∧ True)) .ret [(2, vb false)] [] ⟨tv, tv⟩ (by kernel_rfl) ⟨⟨tv, tv, tv⟩, tr_mk tv 4, ⟨⟨tv, tv, tv⟩, b1, tv⟩, tr_mk (rp_mk (⟨b3, (inR64 (by omega) (by omega)), b3, (by omega), rp_mk (rp_mk (rp_mk (⟨b5, tv⟩) 3) 4) 3⟩) 3) 3, b6, ⟨tv, tv⟩, tv⟩ (fun a w hs => ?_)
      exact FnQ_cast (out := .val (vb false)) (by rw [checkN, if_neg (by omega), if_neg (by omega), if_neg (show ¬ rd n.m _ = 0 from beq_eq_false_iff_ne.1 b4), if_neg (by omega), if_pos (by omega)]) (ret_ok [] hs ⟨by kernel_rfl, rfl⟩)
     ·skip
      have n6 := of_decide_eq_false b6
      refine wL hs hI [(4, ⟨[], gg [3, 4, 5, 6, 7, 8, 9, 12, 13, 14, 17, 18, 19] [1010, 1015, 1020], []⟩), (6, ⟨[(2, ciA 251 [.row (.int .u32) n.m] [] [] (.val (.tup [.row (.int .u32) (lim (tz (val n.m)).1), vi (((tz (val n.m)).2 : Nat) : Int)])))], [], []⟩)] [false, false] [2] [] ((True ∧ True ∧ True) ∧ ((tr 4 True) ∧ ((True ∧ True ∧ True) ∧ (ty b1) ∧ True) ∧ ((tr 3 (rp 3 b3 ((ty b3) ∧ (InR .i64 ((n.m.length : Int) - 1)) ∧ (ty b3) ∧ (0 ≤ ((n.m.length : Int) - 1) ∧ ((n.m.length : Int) - 1) < n.m.length) ∧ (rp 3 b3 (rp 4 b4 (rp 3 b5 ((ty b5) ∧ True))))))) ∧ (ty b6) ∧ True) ∧ (True ∧ True ∧ (okArgs [.row (.int .u32) n.m]) ∧ (tr 5 True)) ∧ (tr 3 True) ∧ True)) .ret [(2, vb ((((tz (val n.m)).2 : Nat) : Int) == 0))] [] ⟨tv, ⟨⟨⟨ent251, con251 _ ha (by omega)⟩, tv⟩, tv⟩⟩ (by kernel_rfl) ⟨⟨tv, tv, tv⟩, tr_mk tv 4, ⟨⟨tv, tv, tv⟩, b1, tv⟩, ⟨tr_mk (rp_mk (⟨b3, (inR64 (by omega) (by omega)), b3, (by omega), rp_mk (rp_mk (rp_mk (⟨b5, tv⟩) 3) 4) 3⟩) 3) 3, b6, tv⟩, ⟨tv, tv, rfl, tr_mk tv 5⟩, tr_mk tv 3, tv⟩ (fun a w hs => ?_)
      exact FnQ_cast (out := .val (vb ((((tz (val n.m)).2 : Nat) : Int) == 0))) (by rw [checkN, if_neg (by omega), if_neg (by omega), if_neg (show ¬ rd n.m _ = 0 from beq_eq_false_iff_ne.1 b4), if_neg (by omega), if_neg (by omega), tzB ha (by omega) (show ¬ rd n.m _ = 0 from beq_eq_false_iff_ne.1 b4)]) (ret_ok [] hs ⟨by kernel_rfl, rfl⟩)
def ownN (n : Num) : Bool := !n.neg && ((n.m.length : Int) == 0 && n.e == 0)
def truthO (t : Tree) : Bool := if t.kind = 2 then true else !t.b
def numO (t : Tree) : Bool := if t.kind = 3 then checkN t.n else ownN t.n
def textO (t : Tree) : Bool := if t.kind = 4 then textOk t.s else if t.kind = 5 then decide ((t.s.size : Int) ≤ 2000) else (t.s.toList == (ba []).toList)
def keysO (t : Tree) : Bool := if t.kind = 7 then namesOk t.k && (t.k.length : Int) == (t.v.length : Int) else (t.k.length : Int) == 0
def itemsO (t : Tree) : Bool := if t.kind = 7 ∨ t.kind = 6 then decide ((t.v.length : Int) ≤ 300) else (t.v.length : Int) == 0
def ownO (t : Tree) : Bool := decide (1 ≤ t.kind ∧ t.kind ≤ 7) && (truthO t && (numO t && (textO t && (keysO t && itemsO t))))
theorem con170 (t : Tree) (ha : Ok t.n.m) (hl : t.n.m.length < 1000000000) (hk : t.k.length < 1000000000) : Con Tryz.prog I0 170 [.agg (encTree t)] (.val (vb (ownO t))) := by
 refine con_of Tryz.func170 rfl (Nat.le_of_ble_eq_true rfl) stab (fun w0 fz a hI hs => ?_)
 refine wp_seq ?_
 refine wN hs hI [] [1] [1000] (True ∧ (True ∧ True)) .norm [(1, .ptr 1000 0)] [(1000, .var (encTree t))] (by kernel_rfl) ⟨tv, tv, tv⟩ (fun a w hs => ?_)
 refine then_norm ?_
 refine wp_cut (N := Tryz.f170.ntmps) (w0 := w0) (ow := noO fz) (T := [(1, .ptr 1000 0), (3, vb (!t.b)), (4, vb (ownN t.n)), (5, vb (t.s.toList == (ba []).toList))]) (B := [(1000, .var (encTree t))]) (True) ?_ ?_
 ·skip
  rcases bt (t.n.neg) with b1 | b1
  ·skip
   refine wL hs hI [(1, ⟨[], gg [] [8, 9, 10, 11, 12, 1013, 15, 16, 17, 18, 1019], []⟩)] [] [1, 3, 4, 5] [1000] (tr 8 ((ty (ng1 b1)) ∧ (ty (ng1 b1)) ∧ (ty (ng1 b1)) ∧ (ty (ng1 b1)) ∧ (ty (ng1 b1)) ∧ (ty (ng1 b1)) ∧ True ∧ (false = false) ∧ (false = false) ∧ (false = false) ∧ (false = false) ∧ (false = false) ∧ (tr 6 True))) .norm [(1, .ptr 1000 0), (3, vb (!t.b)), (4, vb false), (5, vb (t.s.toList == (ba []).toList))] [(1000, .var (encTree t))] ⟨tv, tv⟩ (by kernel_rfl) (tr_mk (⟨(ng1 b1), (ng1 b1), (ng1 b1), (ng1 b1), (ng1 b1), (ng1 b1), tv, rfl, rfl, rfl, rfl, rfl, tr_mk tv 6⟩) 8) (fun a w hs => ?_)
   refine then_norm ⟨trivial, ?_⟩
   (have e0_ : (false) = (ownN t.n) := (by first | rfl | (simp only [ownN, b1]; rfl)); exact (hs.cst [(1, .ptr 1000 0), (3, vb (!t.b)), (4, vb (ownN t.n)), (5, vb (t.s.toList == (ba []).toList))] [(1000, .var (encTree t))] (by first | rfl | (rw [e0_]; done) | (simp only [e0_]; done) | (simp only [e0_]; rfl))).rm [(1000, 1000)] (by kernel_rfl))
  ·skip
   rcases bt ((t.n.m.length : Int) == 0) with b2 | b2
   ·skip
    have n2 := eq_of_beq b2
    refine wL hs hI [(1, ⟨[], gg [8, 9, 10, 11, 12, 1013, 15, 16, 17, 18, 1019] [], []⟩)] [] [1, 3, 4, 5] [1000] (tr 8 (((ty (ng0 b1)) ∧ True) ∧ ((ty (ng0 b1)) ∧ True) ∧ ((ty (ng0 b1)) ∧ True) ∧ ((ty (ng0 b1)) ∧ True) ∧ ((ty (ng0 b1)) ∧ True) ∧ (ty (ng0 b1)) ∧ True ∧ ((ty b2) ∧ True) ∧ ((ty b2) ∧ True) ∧ ((ty b2) ∧ True) ∧ ((ty b2) ∧ True) ∧ (ty b2) ∧ (tr 6 True))) .norm [(1, .ptr 1000 0), (3, vb (!t.b)), (4, vb (t.n.e == 0)), (5, vb (t.s.toList == (ba []).toList))] [(1000, .var (encTree t))] ⟨tv, tv⟩ (by kernel_rfl) (tr_mk (⟨⟨(ng0 b1), tv⟩, ⟨(ng0 b1), tv⟩, ⟨(ng0 b1), tv⟩, ⟨(ng0 b1), tv⟩, ⟨(ng0 b1), tv⟩, (ng0 b1), tv, ⟨b2, tv⟩, ⟨b2, tv⟩, ⟨b2, tv⟩, ⟨b2, tv⟩, b2, tr_mk tv 6⟩) 8) (fun a w hs => ?_)
    refine then_norm ⟨trivial, ?_⟩
    (have e0_ : (t.n.e == 0) = (ownN t.n) := (by first | rfl | (simp only [ownN, b1, b2]; rfl)); exact (hs.cst [(1, .ptr 1000 0), (3, vb (!t.b)), (4, vb (ownN t.n)), (5, vb (t.s.toList == (ba []).toList))] [(1000, .var (encTree t))] (by first | rfl | (rw [e0_]; done) | (simp only [e0_]; done) | (simp only [e0_]; rfl))).rm [(1000, 1000)] (by kernel_rfl))
   ·skip
    have n2 := beq_eq_false_iff_ne.1 b2
    refine wL hs hI [(1, ⟨[], gg [8, 9, 10, 11, 12, 1013] [15, 16, 17, 18, 1019], []⟩)] [] [1, 3, 4, 5] [1000] (tr 8 (((ty (ng0 b1)) ∧ True) ∧ ((ty (ng0 b1)) ∧ True) ∧ ((ty (ng0 b1)) ∧ True) ∧ ((ty (ng0 b1)) ∧ True) ∧ ((ty (ng0 b1)) ∧ True) ∧ (ty (ng0 b1)) ∧ True ∧ (ty b2) ∧ (ty b2) ∧ (ty b2) ∧ (ty b2) ∧ (ty b2) ∧ (tr 6 True))) .norm [(1, .ptr 1000 0), (3, vb (!t.b)), (4, vb false), (5, vb (t.s.toList == (ba []).toList))] [(1000, .var (encTree t))] ⟨tv, tv⟩ (by kernel_rfl) (tr_mk (⟨⟨(ng0 b1), tv⟩, ⟨(ng0 b1), tv⟩, ⟨(ng0 b1), tv⟩, ⟨(ng0 b1), tv⟩, ⟨(ng0 b1), tv⟩, (ng0 b1), tv, b2, b2, b2, b2, b2, tr_mk tv 6⟩) 8) (fun a w hs => ?_)
    refine then_norm ⟨trivial, ?_⟩
    (have e0_ : (false) = (ownN t.n) := (by first | rfl | (simp only [ownN, b1, b2]; rfl)); exact (hs.cst [(1, .ptr 1000 0), (3, vb (!t.b)), (4, vb (ownN t.n)), (5, vb (t.s.toList == (ba []).toList))] [(1000, .var (encTree t))] (by first | rfl | (rw [e0_]; done) | (simp only [e0_]; done) | (simp only [e0_]; rfl))).rm [(1000, 1000)] (by kernel_rfl))
 ·intro hF a w hs
  refine wp_seq ?_
  refine wN hs hI [] [1, 3, 4, 5, 6, 7] [1000] (tr 10 True) .norm [(1, .ptr 1000 0), (3, vb (!t.b)), (4, vb (ownN t.n)), (5, vb (t.s.toList == (ba []).toList)), (6, vb ((t.k.length : Int) == 0)), (7, vb ((t.v.length : Int) == 0))] [(1000, .var (encTree t))] (by kernel_rfl) (tr_mk tv 10) (fun a w hs => ?_)
  refine then_norm ?_
  refine wp_cut (N := Tryz.f170.ntmps) (w0 := w0) (ow := noO fz) (T := [(3, vb (truthO t)), (4, vb (numO t)), (5, vb (textO t)), (6, vb (keysO t)), (7, vb (itemsO t))]) (B := []) (1 ≤ t.kind ∧ t.kind ≤ 7) ?_ ?_
  ·skip
   rcases bt (t.kind == 1) with b3 | b3
   ·skip
    have n3 := eq_of_beq b3
    refine wN hs hI [true] [3, 4, 5, 6, 7] [] ((True ∧ True ∧ True) ∧ (((True ∧ True ∧ True) ∧ (ty b3) ∧ True) ∧ True)) .norm [(3, vb (!t.b)), (4, vb (ownN t.n)), (5, vb (t.s.toList == (ba []).toList)), (6, vb ((t.k.length : Int) == 0)), (7, vb ((t.v.length : Int) == 0))] [] (by kernel_rfl) ⟨⟨tv, tv, tv⟩, ⟨⟨tv, tv, tv⟩, b3, tv⟩, tv⟩ (fun a w hs => ?_)
    refine then_norm ⟨(by omega), ?_⟩
    (have e0_ : (!t.b) = (truthO t) := (by first | rfl | (first | (rw [truthO]; simp only [true_and]; done) | (simp only [truthO, numO, textO, keysO, itemsO]; (repeat (first | rw [if_pos (by omega)] | rw [if_neg (by omega)])); first | rfl | (simp only [b3]; rfl) | skip))); have e1_ : (ownN t.n) = (numO t) := (by first | rfl | (first | (rw [truthO]; simp only [true_and]; done) | (simp only [truthO, numO, textO, keysO, itemsO]; (repeat (first | rw [if_pos (by omega)] | rw [if_neg (by omega)])); first | rfl | (simp only [b3]; rfl) | skip))); have e2_ : (t.s.toList == (ba []).toList) = (textO t) := (by first | rfl | (first | (rw [truthO]; simp only [true_and]; done) | (simp only [truthO, numO, textO, keysO, itemsO]; (repeat (first | rw [if_pos (by omega)] | rw [if_neg (by omega)])); first | rfl | (simp only [b3]; rfl) | skip))); have e3_ : ((t.k.length : Int) == 0) = (keysO t) := (by first | rfl | (first | (rw [truthO]; simp only [true_and]; done) | (simp only [truthO, numO, textO, keysO, itemsO]; (repeat (first | rw [if_pos (by omega)] | rw [if_neg (by omega)])); first | rfl | (simp only [b3]; rfl) | skip))); have e4_ : ((t.v.length : Int) == 0) = (itemsO t) := (by first | rfl | (first | (rw [truthO]; simp only [true_and]; done) | (simp only [truthO, numO, textO, keysO, itemsO]; (repeat (first | rw [if_pos (by omega)] | rw [if_neg (by omega)])); first | rfl | (simp only [b3]; rfl) | skip))); exact (hs.cst [(3, vb (truthO t)), (4, vb (numO t)), (5, vb (textO t)), (6, vb (keysO t)), (7, vb (itemsO t))] [] (by first | rfl | (rw [e0_, e1_, e2_, e3_, e4_]; done) | (simp only [e0_, e1_, e2_, e3_, e4_]; done) | (simp only [e0_, e1_, e2_, e3_, e4_]; rfl))).rm [] (by kernel_rfl))
   ·skip
    have n3 := beq_eq_false_iff_ne.1 b3
    rcases bt (t.kind == 2) with b4 | b4
    ·skip
     have n4 := eq_of_beq b4
     refine wN hs hI [false, true] [3, 4, 5, 6, 7] [] ((True ∧ True ∧ True) ∧ ((((True ∧ True ∧ True) ∧ (ty b3) ∧ True) ∧ (True ∧ True ∧ True) ∧ (ty b4) ∧ True) ∧ (True ∧ True) ∧ True)) .norm [(3, vb true), (4, vb (ownN t.n)), (5, vb (t.s.toList == (ba []).toList)), (6, vb ((t.k.length : Int) == 0)), (7, vb ((t.v.length : Int) == 0))] [] (by kernel_rfl) ⟨⟨tv, tv, tv⟩, ⟨⟨⟨tv, tv, tv⟩, b3, tv⟩, ⟨tv, tv, tv⟩, b4, tv⟩, ⟨tv, tv⟩, tv⟩ (fun a w hs => ?_)
     refine then_norm ⟨(by omega), ?_⟩
     (have e0_ : (true) = (truthO t) := (by first | rfl | (first | (rw [truthO]; simp only [true_and]; done) | (simp only [truthO, numO, textO, keysO, itemsO]; (repeat (first | rw [if_pos (by omega)] | rw [if_neg (by omega)])); first | rfl | (simp only [b3, b4]; rfl) | skip))); have e1_ : (ownN t.n) = (numO t) := (by first | rfl | (first | (rw [truthO]; simp only [true_and]; done) | (simp only [truthO, numO, textO, keysO, itemsO]; (repeat (first | rw [if_pos (by omega)] | rw [if_neg (by omega)])); first | rfl | (simp only [b3, b4]; rfl) | skip))); have e2_ : (t.s.toList == (ba []).toList) = (textO t) := (by first | rfl | (first | (rw [truthO]; simp only [true_and]; done) | (simp only [truthO, numO, textO, keysO, itemsO]; (repeat (first | rw [if_pos (by omega)] | rw [if_neg (by omega)])); first | rfl | (simp only [b3, b4]; rfl) | skip))); have e3_ : ((t.k.length : Int) == 0) = (keysO t) := (by first | rfl | (first | (rw [truthO]; simp only [true_and]; done) | (simp only [truthO, numO, textO, keysO, itemsO]; (repeat (first | rw [if_pos (by omega)] | rw [if_neg (by omega)])); first | rfl | (simp only [b3, b4]; rfl) | skip))); have e4_ : ((t.v.length : Int) == 0) = (itemsO t) := (by first | rfl | (first | (rw [truthO]; simp only [true_and]; done) | (simp only [truthO, numO, textO, keysO, itemsO]; (repeat (first | rw [if_pos (by omega)] | rw [if_neg (by omega)])); first | rfl | (simp only [b3, b4]; rfl) | skip))); exact (hs.cst [(3, vb (truthO t)), (4, vb (numO t)), (5, vb (textO t)), (6, vb (keysO t)), (7, vb (itemsO t))] [] (by first | rfl | (rw [e0_, e1_, e2_, e3_, e4_]; done) | (simp only [e0_, e1_, e2_, e3_, e4_]; done) | (simp only [e0_, e1_, e2_, e3_, e4_]; rfl))).rm [] (by kernel_rfl))
    ·skip
     have n4 := beq_eq_false_iff_ne.1 b4
     rcases bt (t.kind == 3) with b5 | b5
     ·skip
      have n5 := eq_of_beq b5
      refine wL hs hI [(12, ⟨[(2, ciA 214 [.agg [vb t.n.neg, .row (.int .u32) t.n.m, vi t.n.e]] [] [] (.val (vb (checkN t.n))))], [], []⟩)] [false, false, true] [3, 4, 5, 6, 7] [] ((True ∧ True ∧ True) ∧ ((((True ∧ True ∧ True) ∧ (ty b3) ∧ True) ∧ ((True ∧ True ∧ True) ∧ (ty b4) ∧ True) ∧ (True ∧ True ∧ True) ∧ (ty b5) ∧ True) ∧ (True ∧ True ∧ (okArgs [.agg [vb t.n.neg, .row (.int .u32) t.n.m, vi t.n.e]]) ∧ True ∧ True) ∧ True)) .norm [(3, vb (!t.b)), (4, vb (checkN t.n)), (5, vb (t.s.toList == (ba []).toList)), (6, vb ((t.k.length : Int) == 0)), (7, vb ((t.v.length : Int) == 0))] [] ⟨⟨⟨ent214, con214 _ ha hl⟩, tv⟩, tv⟩ (by kernel_rfl) ⟨⟨tv, tv, tv⟩, ⟨⟨⟨tv, tv, tv⟩, b3, tv⟩, ⟨⟨tv, tv, tv⟩, b4, tv⟩, ⟨tv, tv, tv⟩, b5, tv⟩, ⟨tv, tv, rfl, tv, tv⟩, tv⟩ (fun a w hs => ?_)
      refine then_norm ⟨(by omega), ?_⟩
      (have e0_ : (!t.b) = (truthO t) := (by first | rfl | (first | (rw [truthO]; simp only [true_and]; done) | (simp only [truthO, numO, textO, keysO, itemsO]; (repeat (first | rw [if_pos (by omega)] | rw [if_neg (by omega)])); first | rfl | (simp only [b3, b4, b5]; rfl) | skip))); have e1_ : (checkN t.n) = (numO t) := (by first | rfl | (first | (rw [truthO]; simp only [true_and]; done) | (simp only [truthO, numO, textO, keysO, itemsO]; (repeat (first | rw [if_pos (by omega)] | rw [if_neg (by omega)])); first | rfl | (simp only [b3, b4, b5]; rfl) | skip))); have e2_ : (t.s.toList == (ba []).toList) = (textO t) := (by first | rfl | (first | (rw [truthO]; simp only [true_and]; done) | (simp only [truthO, numO, textO, keysO, itemsO]; (repeat (first | rw [if_pos (by omega)] | rw [if_neg (by omega)])); first | rfl | (simp only [b3, b4, b5]; rfl) | skip))); have e3_ : ((t.k.length : Int) == 0) = (keysO t) := (by first | rfl | (first | (rw [truthO]; simp only [true_and]; done) | (simp only [truthO, numO, textO, keysO, itemsO]; (repeat (first | rw [if_pos (by omega)] | rw [if_neg (by omega)])); first | rfl | (simp only [b3, b4, b5]; rfl) | skip))); have e4_ : ((t.v.length : Int) == 0) = (itemsO t) := (by first | rfl | (first | (rw [truthO]; simp only [true_and]; done) | (simp only [truthO, numO, textO, keysO, itemsO]; (repeat (first | rw [if_pos (by omega)] | rw [if_neg (by omega)])); first | rfl | (simp only [b3, b4, b5]; rfl) | skip))); exact (hs.cst [(3, vb (truthO t)), (4, vb (numO t)), (5, vb (textO t)), (6, vb (keysO t)), (7, vb (itemsO t))] [] (by first | rfl | (rw [e0_, e1_, e2_, e3_, e4_]; done) | (simp only [e0_, e1_, e2_, e3_, e4_]; done) | (simp only [e0_, e1_, e2_, e3_, e4_]; rfl))).rm [] (by kernel_rfl))
     ·skip
      have n5 := beq_eq_false_iff_ne.1 b5
      rcases bt (t.kind == 4) with b6 | b6
      ·skip
       have n6 := eq_of_beq b6
       refine wL hs hI [(13, ⟨[(2, ciA 215 [vs t.s] [] [] (.val (vb (textOk t.s))))], [], []⟩)] [false, false, false, true] [3, 4, 5, 6, 7] [] ((True ∧ True ∧ True) ∧ ((((True ∧ True ∧ True) ∧ (ty b3) ∧ True) ∧ ((True ∧ True ∧ True) ∧ (ty b4) ∧ True) ∧ ((True ∧ True ∧ True) ∧ (ty b5) ∧ True) ∧ (True ∧ True ∧ True) ∧ (ty b6) ∧ True) ∧ (True ∧ True ∧ (okArgs [vs t.s]) ∧ True ∧ True) ∧ True)) .norm [(3, vb (!t.b)), (4, vb (ownN t.n)), (5, vb (textOk t.s)), (6, vb ((t.k.length : Int) == 0)), (7, vb ((t.v.length : Int) == 0))] [] ⟨⟨⟨ent215, con215 _⟩, tv⟩, tv⟩ (by kernel_rfl) ⟨⟨tv, tv, tv⟩, ⟨⟨⟨tv, tv, tv⟩, b3, tv⟩, ⟨⟨tv, tv, tv⟩, b4, tv⟩, ⟨⟨tv, tv, tv⟩, b5, tv⟩, ⟨tv, tv, tv⟩, b6, tv⟩, ⟨tv, tv, rfl, tv, tv⟩, tv⟩ (fun a w hs => ?_)
       refine then_norm ⟨(by omega), ?_⟩
       (have e0_ : (!t.b) = (truthO t) := (by first | rfl | (first | (rw [truthO]; simp only [true_and]; done) | (simp only [truthO, numO, textO, keysO, itemsO]; (repeat (first | rw [if_pos (by omega)] | rw [if_neg (by omega)])); first | rfl | (simp only [b3, b4, b5, b6]; rfl) | skip))); have e1_ : (ownN t.n) = (numO t) := (by first | rfl | (first | (rw [truthO]; simp only [true_and]; done) | (simp only [truthO, numO, textO, keysO, itemsO]; (repeat (first | rw [if_pos (by omega)] | rw [if_neg (by omega)])); first | rfl | (simp only [b3, b4, b5, b6]; rfl) | skip))); have e2_ : (textOk t.s) = (textO t) := (by first | rfl | (first | (rw [truthO]; simp only [true_and]; done) | (simp only [truthO, numO, textO, keysO, itemsO]; (repeat (first | rw [if_pos (by omega)] | rw [if_neg (by omega)])); first | rfl | (simp only [b3, b4, b5, b6]; rfl) | skip))); have e3_ : ((t.k.length : Int) == 0) = (keysO t) := (by first | rfl | (first | (rw [truthO]; simp only [true_and]; done) | (simp only [truthO, numO, textO, keysO, itemsO]; (repeat (first | rw [if_pos (by omega)] | rw [if_neg (by omega)])); first | rfl | (simp only [b3, b4, b5, b6]; rfl) | skip))); have e4_ : ((t.v.length : Int) == 0) = (itemsO t) := (by first | rfl | (first | (rw [truthO]; simp only [true_and]; done) | (simp only [truthO, numO, textO, keysO, itemsO]; (repeat (first | rw [if_pos (by omega)] | rw [if_neg (by omega)])); first | rfl | (simp only [b3, b4, b5, b6]; rfl) | skip))); exact (hs.cst [(3, vb (truthO t)), (4, vb (numO t)), (5, vb (textO t)), (6, vb (keysO t)), (7, vb (itemsO t))] [] (by first | rfl | (rw [e0_, e1_, e2_, e3_, e4_]; done) | (simp only [e0_, e1_, e2_, e3_, e4_]; done) | (simp only [e0_, e1_, e2_, e3_, e4_]; rfl))).rm [] (by kernel_rfl))
      ·skip
       have n6 := beq_eq_false_iff_ne.1 b6
       rcases bt (t.kind == 5) with b7 | b7
       ·skip
        have n7 := eq_of_beq b7
        refine wN hs hI [false, false, false, false, true] [3, 4, 5, 6, 7] [] ((True ∧ True ∧ True) ∧ ((((True ∧ True ∧ True) ∧ (ty b3) ∧ True) ∧ ((True ∧ True ∧ True) ∧ (ty b4) ∧ True) ∧ ((True ∧ True ∧ True) ∧ (ty b5) ∧ True) ∧ ((True ∧ True ∧ True) ∧ (ty b6) ∧ True) ∧ (True ∧ True ∧ True) ∧ (ty b7) ∧ True) ∧ (tr 5 True) ∧ True)) .norm [(3, vb (!t.b)), (4, vb (ownN t.n)), (5, vb (decide ((t.s.size : Int) ≤ 2000))), (6, vb ((t.k.length : Int) == 0)), (7, vb ((t.v.length : Int) == 0))] [] (by kernel_rfl) ⟨⟨tv, tv, tv⟩, ⟨⟨⟨tv, tv, tv⟩, b3, tv⟩, ⟨⟨tv, tv, tv⟩, b4, tv⟩, ⟨⟨tv, tv, tv⟩, b5, tv⟩, ⟨⟨tv, tv, tv⟩, b6, tv⟩, ⟨tv, tv, tv⟩, b7, tv⟩, tr_mk tv 5, tv⟩ (fun a w hs => ?_)
        refine then_norm ⟨(by omega), ?_⟩
        (have e0_ : (!t.b) = (truthO t) := (by first | rfl | (first | (rw [truthO]; simp only [true_and]; done) | (simp only [truthO, numO, textO, keysO, itemsO]; (repeat (first | rw [if_pos (by omega)] | rw [if_neg (by omega)])); first | rfl | (simp only [b3, b4, b5, b6, b7]; rfl) | skip))); have e1_ : (ownN t.n) = (numO t) := (by first | rfl | (first | (rw [truthO]; simp only [true_and]; done) | (simp only [truthO, numO, textO, keysO, itemsO]; (repeat (first | rw [if_pos (by omega)] | rw [if_neg (by omega)])); first | rfl | (simp only [b3, b4, b5, b6, b7]; rfl) | skip))); have e2_ : (decide ((t.s.size : Int) ≤ 2000)) = (textO t) := (by first | rfl | (first | (rw [truthO]; simp only [true_and]; done) | (simp only [truthO, numO, textO, keysO, itemsO]; (repeat (first | rw [if_pos (by omega)] | rw [if_neg (by omega)])); first | rfl | (simp only [b3, b4, b5, b6, b7]; rfl) | skip))); have e3_ : ((t.k.length : Int) == 0) = (keysO t) := (by first | rfl | (first | (rw [truthO]; simp only [true_and]; done) | (simp only [truthO, numO, textO, keysO, itemsO]; (repeat (first | rw [if_pos (by omega)] | rw [if_neg (by omega)])); first | rfl | (simp only [b3, b4, b5, b6, b7]; rfl) | skip))); have e4_ : ((t.v.length : Int) == 0) = (itemsO t) := (by first | rfl | (first | (rw [truthO]; simp only [true_and]; done) | (simp only [truthO, numO, textO, keysO, itemsO]; (repeat (first | rw [if_pos (by omega)] | rw [if_neg (by omega)])); first | rfl | (simp only [b3, b4, b5, b6, b7]; rfl) | skip))); exact (hs.cst [(3, vb (truthO t)), (4, vb (numO t)), (5, vb (textO t)), (6, vb (keysO t)), (7, vb (itemsO t))] [] (by first | rfl | (rw [e0_, e1_, e2_, e3_, e4_]; done) | (simp only [e0_, e1_, e2_, e3_, e4_]; done) | (simp only [e0_, e1_, e2_, e3_, e4_]; rfl))).rm [] (by kernel_rfl))
       ·skip
        have n7 := beq_eq_false_iff_ne.1 b7
        rcases bt (t.kind == 7) with b8 | b8
        ·skip
         have n8 := eq_of_beq b8
         rcases bt (namesOk t.k) with b9 | b9
         ·skip
          refine wL hs hI [(15, ⟨[(2, ciA 216 [.row .str t.k] [] [] (.val (vb (namesOk t.k))))], gg [4, 5, 6, 7, 8, 9, 10, 1011] [], []⟩)] [false, false, false, false, false, true] [3, 4, 5, 6, 7] [] ((True ∧ True ∧ True) ∧ (((((True ∧ True ∧ True) ∧ (ty b3) ∧ True) ∧ ((True ∧ True ∧ True) ∧ (ty b4) ∧ True) ∧ ((True ∧ True ∧ True) ∧ (ty b5) ∧ True) ∧ ((True ∧ True ∧ True) ∧ (ty b6) ∧ True) ∧ ((True ∧ True ∧ True) ∧ (ty b7) ∧ True) ∧ (True ∧ True ∧ True) ∧ (ty b8) ∧ True) ∧ True ∧ True ∧ (okArgs [.row .str t.k]) ∧ True ∧ (rp 8 b9 True)) ∧ (tr 5 True) ∧ True)) .norm [(3, vb (!t.b)), (4, vb (ownN t.n)), (5, vb (t.s.toList == (ba []).toList)), (6, vb ((t.k.length : Int) == (t.v.length : Int))), (7, vb (decide ((t.v.length : Int) ≤ 300)))] [] ⟨⟨⟨ent216, con216 _ (by omega)⟩, tv⟩, tv⟩ (by kernel_rfl) ⟨⟨tv, tv, tv⟩, ⟨⟨⟨⟨tv, tv, tv⟩, b3, tv⟩, ⟨⟨tv, tv, tv⟩, b4, tv⟩, ⟨⟨tv, tv, tv⟩, b5, tv⟩, ⟨⟨tv, tv, tv⟩, b6, tv⟩, ⟨⟨tv, tv, tv⟩, b7, tv⟩, ⟨tv, tv, tv⟩, b8, tv⟩, tv, tv, rfl, tv, rp_mk (tv) 8⟩, tr_mk tv 5, tv⟩ (fun a w hs => ?_)
          refine then_norm ⟨(by omega), ?_⟩
          (have e0_ : (!t.b) = (truthO t) := (by first | rfl | (first | (rw [truthO]; simp only [true_and]; done) | (simp only [truthO, numO, textO, keysO, itemsO]; (repeat (first | rw [if_pos (by omega)] | rw [if_neg (by omega)])); first | rfl | (simp only [b3, b4, b5, b6, b7, b8, b9]; rfl) | skip))); have e1_ : (ownN t.n) = (numO t) := (by first | rfl | (first | (rw [truthO]; simp only [true_and]; done) | (simp only [truthO, numO, textO, keysO, itemsO]; (repeat (first | rw [if_pos (by omega)] | rw [if_neg (by omega)])); first | rfl | (simp only [b3, b4, b5, b6, b7, b8, b9]; rfl) | skip))); have e2_ : (t.s.toList == (ba []).toList) = (textO t) := (by first | rfl | (first | (rw [truthO]; simp only [true_and]; done) | (simp only [truthO, numO, textO, keysO, itemsO]; (repeat (first | rw [if_pos (by omega)] | rw [if_neg (by omega)])); first | rfl | (simp only [b3, b4, b5, b6, b7, b8, b9]; rfl) | skip))); have e3_ : ((t.k.length : Int) == (t.v.length : Int)) = (keysO t) := (by first | rfl | (first | (rw [truthO]; simp only [true_and]; done) | (simp only [truthO, numO, textO, keysO, itemsO]; (repeat (first | rw [if_pos (by omega)] | rw [if_neg (by omega)])); first | rfl | (simp only [b3, b4, b5, b6, b7, b8, b9]; rfl) | skip))); have e4_ : (decide ((t.v.length : Int) ≤ 300)) = (itemsO t) := (by first | rfl | (first | (rw [truthO]; simp only [true_and]; done) | (simp only [truthO, numO, textO, keysO, itemsO]; (repeat (first | rw [if_pos (by omega)] | rw [if_neg (by omega)])); first | rfl | (simp only [b3, b4, b5, b6, b7, b8, b9]; rfl) | skip))); exact (hs.cst [(3, vb (truthO t)), (4, vb (numO t)), (5, vb (textO t)), (6, vb (keysO t)), (7, vb (itemsO t))] [] (by first | rfl | (rw [e0_, e1_, e2_, e3_, e4_]; done) | (simp only [e0_, e1_, e2_, e3_, e4_]; done) | (simp only [e0_, e1_, e2_, e3_, e4_]; rfl))).rm [] (by kernel_rfl))
         ·skip
          refine wL hs hI [(15, ⟨[(2, ciA 216 [.row .str t.k] [] [] (.val (vb (namesOk t.k))))], gg [] [4, 5, 6, 7, 8, 9, 10, 1011], []⟩)] [false, false, false, false, false, true] [3, 4, 5, 6, 7] [] ((True ∧ True ∧ True) ∧ (((((True ∧ True ∧ True) ∧ (ty b3) ∧ True) ∧ ((True ∧ True ∧ True) ∧ (ty b4) ∧ True) ∧ ((True ∧ True ∧ True) ∧ (ty b5) ∧ True) ∧ ((True ∧ True ∧ True) ∧ (ty b6) ∧ True) ∧ ((True ∧ True ∧ True) ∧ (ty b7) ∧ True) ∧ (True ∧ True ∧ True) ∧ (ty b8) ∧ True) ∧ True ∧ True ∧ (okArgs [.row .str t.k]) ∧ True ∧ (ty b9) ∧ (ty b9) ∧ (ty b9) ∧ (ty b9) ∧ (ty b9) ∧ (ty b9) ∧ (ty b9) ∧ (ty b9) ∧ True ∧ True) ∧ (tr 5 True) ∧ True)) .norm [(3, vb (!t.b)), (4, vb (ownN t.n)), (5, vb (t.s.toList == (ba []).toList)), (6, vb false), (7, vb (decide ((t.v.length : Int) ≤ 300)))] [] ⟨⟨⟨ent216, con216 _ (by omega)⟩, tv⟩, tv⟩ (by kernel_rfl) ⟨⟨tv, tv, tv⟩, ⟨⟨⟨⟨tv, tv, tv⟩, b3, tv⟩, ⟨⟨tv, tv, tv⟩, b4, tv⟩, ⟨⟨tv, tv, tv⟩, b5, tv⟩, ⟨⟨tv, tv, tv⟩, b6, tv⟩, ⟨⟨tv, tv, tv⟩, b7, tv⟩, ⟨tv, tv, tv⟩, b8, tv⟩, tv, tv, rfl, tv, b9, b9, b9, b9, b9, b9, b9, b9, tv, tv⟩, tr_mk tv 5, tv⟩ (fun a w hs => ?_)
          refine then_norm ⟨(by omega), ?_⟩
          (have e0_ : (!t.b) = (truthO t) := (by first | rfl | (first | (rw [truthO]; simp only [true_and]; done) | (simp only [truthO, numO, textO, keysO, itemsO]; (repeat (first | rw [if_pos (by omega)] | rw [if_neg (by omega)])); first | rfl | (simp only [b3, b4, b5, b6, b7, b8, b9]; rfl) | skip))); have e1_ : (ownN t.n) = (numO t) := (by first | rfl | (first | (rw [truthO]; simp only [true_and]; done) | (simp only [truthO, numO, textO, keysO, itemsO]; (repeat (first | rw [if_pos (by omega)] | rw [if_neg (by omega)])); first | rfl | (simp only [b3, b4, b5, b6, b7, b8, b9]; rfl) | skip))); have e2_ : (t.s.toList == (ba []).toList) = (textO t) := (by first | rfl | (first | (rw [truthO]; simp only [true_and]; done) | (simp only [truthO, numO, textO, keysO, itemsO]; (repeat (first | rw [if_pos (by omega)] | rw [if_neg (by omega)])); first | rfl | (simp only [b3, b4, b5, b6, b7, b8, b9]; rfl) | skip))); have e3_ : (false) = (keysO t) := (by first | rfl | (first | (rw [truthO]; simp only [true_and]; done) | (simp only [truthO, numO, textO, keysO, itemsO]; (repeat (first | rw [if_pos (by omega)] | rw [if_neg (by omega)])); first | rfl | (simp only [b3, b4, b5, b6, b7, b8, b9]; rfl) | skip))); have e4_ : (decide ((t.v.length : Int) ≤ 300)) = (itemsO t) := (by first | rfl | (first | (rw [truthO]; simp only [true_and]; done) | (simp only [truthO, numO, textO, keysO, itemsO]; (repeat (first | rw [if_pos (by omega)] | rw [if_neg (by omega)])); first | rfl | (simp only [b3, b4, b5, b6, b7, b8, b9]; rfl) | skip))); exact (hs.cst [(3, vb (truthO t)), (4, vb (numO t)), (5, vb (textO t)), (6, vb (keysO t)), (7, vb (itemsO t))] [] (by first | rfl | (rw [e0_, e1_, e2_, e3_, e4_]; done) | (simp only [e0_, e1_, e2_, e3_, e4_]; done) | (simp only [e0_, e1_, e2_, e3_, e4_]; rfl))).rm [] (by kernel_rfl))
        ·skip
         have n8 := beq_eq_false_iff_ne.1 b8
         rcases bt (t.kind == 6) with b10 | b10
         ·skip
          have n10 := eq_of_beq b10
          refine wN hs hI [false, false, false, false, false, false, true] [3, 4, 5, 6, 7] [] ((True ∧ True ∧ True) ∧ ((((True ∧ True ∧ True) ∧ (ty b3) ∧ True) ∧ ((True ∧ True ∧ True) ∧ (ty b4) ∧ True) ∧ ((True ∧ True ∧ True) ∧ (ty b5) ∧ True) ∧ ((True ∧ True ∧ True) ∧ (ty b6) ∧ True) ∧ ((True ∧ True ∧ True) ∧ (ty b7) ∧ True) ∧ ((True ∧ True ∧ True) ∧ (ty b8) ∧ True) ∧ (True ∧ True ∧ True) ∧ (ty b10) ∧ True) ∧ (tr 5 True) ∧ True)) .norm [(3, vb (!t.b)), (4, vb (ownN t.n)), (5, vb (t.s.toList == (ba []).toList)), (6, vb ((t.k.length : Int) == 0)), (7, vb (decide ((t.v.length : Int) ≤ 300)))] [] (by kernel_rfl) ⟨⟨tv, tv, tv⟩, ⟨⟨⟨tv, tv, tv⟩, b3, tv⟩, ⟨⟨tv, tv, tv⟩, b4, tv⟩, ⟨⟨tv, tv, tv⟩, b5, tv⟩, ⟨⟨tv, tv, tv⟩, b6, tv⟩, ⟨⟨tv, tv, tv⟩, b7, tv⟩, ⟨⟨tv, tv, tv⟩, b8, tv⟩, ⟨tv, tv, tv⟩, b10, tv⟩, tr_mk tv 5, tv⟩ (fun a w hs => ?_)
          refine then_norm ⟨(by omega), ?_⟩
          (have e0_ : (!t.b) = (truthO t) := (by first | rfl | (first | (rw [truthO]; simp only [true_and]; done) | (simp only [truthO, numO, textO, keysO, itemsO]; (repeat (first | rw [if_pos (by omega)] | rw [if_neg (by omega)])); first | rfl | (simp only [b3, b4, b5, b6, b7, b8, b10]; rfl) | skip))); have e1_ : (ownN t.n) = (numO t) := (by first | rfl | (first | (rw [truthO]; simp only [true_and]; done) | (simp only [truthO, numO, textO, keysO, itemsO]; (repeat (first | rw [if_pos (by omega)] | rw [if_neg (by omega)])); first | rfl | (simp only [b3, b4, b5, b6, b7, b8, b10]; rfl) | skip))); have e2_ : (t.s.toList == (ba []).toList) = (textO t) := (by first | rfl | (first | (rw [truthO]; simp only [true_and]; done) | (simp only [truthO, numO, textO, keysO, itemsO]; (repeat (first | rw [if_pos (by omega)] | rw [if_neg (by omega)])); first | rfl | (simp only [b3, b4, b5, b6, b7, b8, b10]; rfl) | skip))); have e3_ : ((t.k.length : Int) == 0) = (keysO t) := (by first | rfl | (first | (rw [truthO]; simp only [true_and]; done) | (simp only [truthO, numO, textO, keysO, itemsO]; (repeat (first | rw [if_pos (by omega)] | rw [if_neg (by omega)])); first | rfl | (simp only [b3, b4, b5, b6, b7, b8, b10]; rfl) | skip))); have e4_ : (decide ((t.v.length : Int) ≤ 300)) = (itemsO t) := (by first | rfl | (first | (rw [truthO]; simp only [true_and]; done) | (simp only [truthO, numO, textO, keysO, itemsO]; (repeat (first | rw [if_pos (by omega)] | rw [if_neg (by omega)])); first | rfl | (simp only [b3, b4, b5, b6, b7, b8, b10]; rfl) | skip))); exact (hs.cst [(3, vb (truthO t)), (4, vb (numO t)), (5, vb (textO t)), (6, vb (keysO t)), (7, vb (itemsO t))] [] (by first | rfl | (rw [e0_, e1_, e2_, e3_, e4_]; done) | (simp only [e0_, e1_, e2_, e3_, e4_]; done) | (simp only [e0_, e1_, e2_, e3_, e4_]; rfl))).rm [] (by kernel_rfl))
         ·skip
          have n10 := beq_eq_false_iff_ne.1 b10
          refine wN hs hI [false, false, false, false, false, false, false] [2] [] ((True ∧ True ∧ True) ∧ (((((True ∧ True ∧ True) ∧ (ty b3) ∧ True) ∧ ((True ∧ True ∧ True) ∧ (ty b4) ∧ True) ∧ ((True ∧ True ∧ True) ∧ (ty b5) ∧ True) ∧ ((True ∧ True ∧ True) ∧ (ty b6) ∧ True) ∧ ((True ∧ True ∧ True) ∧ (ty b7) ∧ True) ∧ ((True ∧ True ∧ True) ∧ (ty b8) ∧ True) ∧ (True ∧ True ∧ True) ∧ (ty b10) ∧ True) ∧ True) ∧ (True ∧ True) ∧ True)) .ret [(2, vb false)] [] (by kernel_rfl) ⟨⟨tv, tv, tv⟩, ⟨⟨⟨⟨tv, tv, tv⟩, b3, tv⟩, ⟨⟨tv, tv, tv⟩, b4, tv⟩, ⟨⟨tv, tv, tv⟩, b5, tv⟩, ⟨⟨tv, tv, tv⟩, b6, tv⟩, ⟨⟨tv, tv, tv⟩, b7, tv⟩, ⟨⟨tv, tv, tv⟩, b8, tv⟩, ⟨tv, tv, tv⟩, b10, tv⟩, tv⟩, ⟨tv, tv⟩, tv⟩ (fun a w hs => ?_)
          refine then_ret ?_
          exact FnQ_cast (out := .val (vb false)) (by simp only [ownO]; rw [decide_eq_false (by omega)]; rfl) (ret_ok [] hs ⟨by kernel_rfl, rfl⟩)
  ·intro hF a w hs
   rcases bt (truthO t) with b11 | b11
   ·skip
    rcases bt (numO t) with b12 | b12
    ·skip
     rcases bt (textO t) with b13 | b13
     ·skip
      rcases bt (keysO t) with b14 | b14
      ·skip
       refine wL hs hI [(18, ⟨[], gg [2, 1003, 5, 1006, 8, 1009, 11, 1012] [], []⟩)] [] [2] [] ((True ∧ True ∧ (rp 2 b11 (rp 2 b12 (rp 2 b13 (rp 2 b14 True))))) ∧ True) .ret [(2, vb (itemsO t))] [] ⟨tv, tv⟩ (by kernel_rfl) ⟨⟨tv, tv, rp_mk (rp_mk (rp_mk (rp_mk (tv) 2) 2) 2) 2⟩, tv⟩ (fun a w hs => ?_)
       exact FnQ_cast (out := .val (vb (itemsO t))) (by simp only [ownO]; rw [decide_eq_true hF]; simp only [b11, b12, b13, b14]; rfl) (ret_ok [] hs ⟨by kernel_rfl, rfl⟩)
      ·skip
       refine wL hs hI [(18, ⟨[], gg [2, 1003, 5, 1006, 8, 1009] [11, 1012], []⟩)] [] [2] [] ((True ∧ True ∧ (rp 2 b11 (rp 2 b12 (rp 2 b13 ((ty b14) ∧ (ty b14) ∧ True ∧ True))))) ∧ True) .ret [(2, vb false)] [] ⟨tv, tv⟩ (by kernel_rfl) ⟨⟨tv, tv, rp_mk (rp_mk (rp_mk (⟨b14, b14, tv, tv⟩) 2) 2) 2⟩, tv⟩ (fun a w hs => ?_)
       exact FnQ_cast (out := .val (vb false)) (by simp only [ownO]; rw [decide_eq_true hF]; simp only [b11, b12, b13, b14]; rfl) (ret_ok [] hs ⟨by kernel_rfl, rfl⟩)
     ·skip
      refine wL hs hI [(18, ⟨[], gg [2, 1003, 5, 1006] [8, 1009, 11, 1012], []⟩)] [] [2] [] ((True ∧ True ∧ (rp 2 b11 (rp 2 b12 ((ty b13) ∧ (ty b13) ∧ True ∧ (false = false) ∧ (false = false) ∧ True ∧ True)))) ∧ True) .ret [(2, vb false)] [] ⟨tv, tv⟩ (by kernel_rfl) ⟨⟨tv, tv, rp_mk (rp_mk (⟨b13, b13, tv, rfl, rfl, tv, tv⟩) 2) 2⟩, tv⟩ (fun a w hs => ?_)
      exact FnQ_cast (out := .val (vb false)) (by simp only [ownO]; rw [decide_eq_true hF]; simp only [b11, b12, b13]; rfl) (ret_ok [] hs ⟨by kernel_rfl, rfl⟩)
    ·skip
     refine wL hs hI [(18, ⟨[], gg [2, 1003] [5, 1006, 8, 1009, 11, 1012], []⟩)] [] [2] [] ((True ∧ True ∧ (rp 2 b11 ((ty b12) ∧ (ty b12) ∧ True ∧ (false = false) ∧ (false = false) ∧ True ∧ (false = false) ∧ (false = false) ∧ True ∧ True))) ∧ True) .ret [(2, vb false)] [] ⟨tv, tv⟩ (by kernel_rfl) ⟨⟨tv, tv, rp_mk (⟨b12, b12, tv, rfl, rfl, tv, rfl, rfl, tv, tv⟩) 2⟩, tv⟩ (fun a w hs => ?_)
     exact FnQ_cast (out := .val (vb false)) (by simp only [ownO]; rw [decide_eq_true hF]; simp only [b11, b12]; rfl) (ret_ok [] hs ⟨by kernel_rfl, rfl⟩)
   ·skip
    refine wL hs hI [(18, ⟨[], gg [] [2, 1003, 5, 1006, 8, 1009, 11, 1012], []⟩)] [] [2] [] ((True ∧ True ∧ (ty b11) ∧ (ty b11) ∧ True ∧ (false = false) ∧ (false = false) ∧ True ∧ (false = false) ∧ (false = false) ∧ True ∧ (false = false) ∧ (false = false) ∧ True ∧ True) ∧ True) .ret [(2, vb false)] [] ⟨tv, tv⟩ (by kernel_rfl) ⟨⟨tv, tv, b11, b11, tv, rfl, rfl, tv, rfl, rfl, tv, rfl, rfl, tv, tv⟩, tv⟩ (fun a w hs => ?_)
    exact FnQ_cast (out := .val (vb false)) (by simp only [ownO]; rw [decide_eq_true hF]; simp only [b11]; rfl) (ret_ok [] hs ⟨by kernel_rfl, rfl⟩)
mutual
def fineT : Tree → Prop
 | .mk _ _ n s k v => (Ok n.m ∧ n.m.length < 1000000000 ∧ k.length < 1000000000 ∧ v.length < 1000000000) ∧ fineL v
def fineL : List Tree → Prop
 | [] => True
 | t :: l => fineT t ∧ fineL l
end
theorem fine_eq (t : Tree) : fineT t ↔ (Ok t.n.m ∧ t.n.m.length < 1000000000 ∧ t.k.length < 1000000000 ∧ t.v.length < 1000000000) ∧ fineL t.v := by cases t; exact Iff.rfl
theorem fine_mem : ∀ {l : List Tree} {x : Tree}, fineL l → x ∈ l → fineT x
 | [], _, _, h => by simp at h
 | t :: l, x, hl, h => by
  rcases List.mem_cons.1 h with rfl | h
  ·exact hl.1
  ·exact fine_mem hl.2 h
theorem fine_at {t : Tree} (h : fineT t) {i : Nat} (hi : i < t.v.length) (d : Tree) : fineT (t.v.getD i d) := fine_mem ((fine_eq t).1 h).2 (getD_mem hi d)
mutual
def chk : Tree → Int → Int → Bool × Int
 | .mk k b n s ks v, deep, left => if left - 1 < 0 ∨ deep > 64 ∨ ownO (.mk k b n s ks v) = false then (false, left - 1) else chkL v (deep + 1) (left - 1)
def chkL : List Tree → Int → Int → Bool × Int
 | [], _, left => (true, left)
 | x :: l, deep, left => if (chk x deep left).1 = true then chkL l deep (chk x deep left).2 else (false, (chk x deep left).2)
end
theorem chk_eq (t : Tree) (deep left : Int) : chk t deep left = if left - 1 < 0 ∨ deep > 64 ∨ ownO t = false then (false, left - 1) else chkL t.v (deep + 1) (left - 1) := by cases t; rfl
mutual
theorem chk_le : ∀ (t : Tree) (d l : Int), 0 ≤ l → (chk t d l).2 ≤ l ∧ ((chk t d l).1 = true → 0 ≤ (chk t d l).2)
 | .mk k b n s ks v, d, l, h => by
  rw [chk_eq]
  split
  ·exact ⟨by simp; omega, fun h => by simp at h⟩
  ·rename_i hc
   have := chkL_le v (d + 1) (l - 1) (by omega)
   exact ⟨by show (chkL v _ _).2 ≤ l; omega, this.2⟩
theorem chkL_le : ∀ (v : List Tree) (d l : Int), 0 ≤ l → (chkL v d l).2 ≤ l ∧ ((chkL v d l).1 = true → 0 ≤ (chkL v d l).2)
 | [], d, l, h => ⟨Int.le_refl _, fun _ => h⟩
 | x :: v, d, l, h => by
  simp only [chkL]
  have h1 := chk_le x d l h
  split
  ·rename_i hc
   have := chkL_le v d (chk x d l).2 (h1.2 hc)
   exact ⟨by omega, this.2⟩
  ·exact ⟨h1.1, fun h => by simp at h⟩
end
theorem chkL_yes {v : List Tree} {i : Nat} {d l : Int} (hi : i < v.length) (h : (chk (v.getD i (dflt .tree)) d l).1 = true) : chkL (v.drop i) d l = chkL (v.drop (i + 1)) d (chk (v.getD i (dflt .tree)) d l).2 := by
 rw [List.drop_eq_getElem_cons hi, chkL]
 have e : v.getD i (dflt .tree) = v[i] := by rw [List.getD_eq_getElem?_getD, List.getElem?_eq_getElem hi]; rfl
 rw [e] at h ⊢
 rw [if_pos h]
theorem chkL_no {v : List Tree} {i : Nat} {d l : Int} (hi : i < v.length) (h : (chk (v.getD i (dflt .tree)) d l).1 = false) : chkL (v.drop i) d l = (false, (chk (v.getD i (dflt .tree)) d l).2) := by
 rw [List.drop_eq_getElem_cons hi, chkL]
 have e : v.getD i (dflt .tree) = v[i] := by rw [List.getD_eq_getElem?_getD, List.getElem?_eq_getElem hi]; rfl
 rw [e] at h ⊢
 rw [if_neg (by rw [h]; decide)]
theorem con117_ : ∀ (n : Nat) (t : Tree) (deep left : Int), nodes t < n → fineT t → 0 ≤ left → left ≤ 4000 → 0 ≤ deep → deep ≤ 65 → ConB Tryz.prog I0 117 [.agg (encTree t), vi deep, .ptr 0 0] [(0, .var [vi left])] (.val (vb ((chk t deep left).1))) [(0, .var [vi ((chk t deep left).2)])] := by
 intro n
 induction n
 case zero => intro t deep left hn; omega
 rename_i n ih
 intro t deep left hn hft h0 h1 h2 h3
 obtain ⟨⟨hf1, hf2, hf3, hf4⟩, hf5⟩ := (fine_eq t).1 hft
 refine con_ofB Tryz.func117 rfl (Nat.le_of_ble_eq_true rfl) (by kernel_rfl) (fun w0 fz η a hI hs => ?_)
 refine wp_seq ?_
 refine wN hs hI [] [1, 2, 3] [0, 1000] (True ∧ (True ∧ True)) .norm [(1, vi deep), (2, .ptr 0 0), (3, .ptr 1000 0)] [(0, .var [vi left]), (1000, .var (encTree t))] (by kernel_rfl) ⟨tv, tv, tv⟩ (fun a w hs => ?_)
 refine then_norm ?_
 refine wp_seq ?_
 refine wN hs hI [] [1, 2, 3] [0, 1000] (tr 3 ((InR .i64 (left - 1)) ∧ True ∧ True ∧ True)) .norm [(1, vi deep), (2, .ptr 0 0), (3, .ptr 1000 0)] [(0, .var [vi (left - 1)]), (1000, .var (encTree t))] (by kernel_rfl) (tr_mk (⟨(inR64 (by omega) (by omega)), tv, tv, tv⟩) 3) (fun a w hs => ?_)
 refine then_norm ?_
 refine wp_seq ?_
 rcases bt (decide ((left - 1) < 0)) with b1 | b1
 ·skip
  have n1 := of_decide_eq_true b1
  refine wL hs hI [(2, ⟨[], gg [1007, 1012] [5, 6, 9, 10, 11], []⟩)] [true] [6] [0] ((tr 5 ((ty b1) ∧ (ty b1) ∧ (ty b1) ∧ True ∧ (true = true) ∧ (true = true) ∧ (true = true) ∧ (true = true) ∧ True)) ∧ ((true = true) ∧ (True ∧ True) ∧ True)) .ret [(6, vb false)] [(0, .var [vi (left - 1)])] ⟨tv, tv⟩ (by kernel_rfl) ⟨tr_mk (⟨b1, b1, b1, tv, rfl, rfl, rfl, rfl, tv⟩) 5, rfl, ⟨tv, tv⟩, tv⟩ (fun a w hs => ?_)
  refine then_ret ?_
  exact FnQB_cast (out := .val (vb false)) (bo := [(0, .var [vi (left - 1)])]) (by rw [chk_eq t, if_pos (by first | omega | exact .inr (.inr rfl))]) (by rw [chk_eq t, if_pos (by first | omega | exact .inr (.inr rfl))]) (ret_okB _ hs (by kernel_rfl) (by kernel_rfl))
 ·skip
  have n1 := of_decide_eq_false b1
  rcases bt (decide (deep > 64)) with b2 | b2
  ·skip
   have n2 := of_decide_eq_true b2
   refine wL hs hI [(2, ⟨[], gg [5, 6, 1012] [1007, 9, 10, 11], []⟩)] [true] [6] [0] ((tr 5 (rp 3 b1 ((ty b2) ∧ (ty b2) ∧ (ty b2) ∧ (ty b2) ∧ True))) ∧ ((true = true) ∧ (True ∧ True) ∧ True)) .ret [(6, vb false)] [(0, .var [vi (left - 1)])] ⟨tv, tv⟩ (by kernel_rfl) ⟨tr_mk (rp_mk (⟨b2, b2, b2, b2, tv⟩) 3) 5, rfl, ⟨tv, tv⟩, tv⟩ (fun a w hs => ?_)
   refine then_ret ?_
   exact FnQB_cast (out := .val (vb false)) (bo := [(0, .var [vi (left - 1)])]) (by rw [chk_eq t, if_pos (by first | omega | exact .inr (.inr rfl))]) (by rw [chk_eq t, if_pos (by first | omega | exact .inr (.inr rfl))]) (ret_okB _ hs (by kernel_rfl) (by kernel_rfl))
  ·skip
   have n2 := of_decide_eq_false b2
   rcases bt (ownO t) with b3 | b3
   ·skip
    refine wL hs hI [(2, ⟨[(10, ciA 170 [.agg (encTree t)] [] [] (.val (vb (ownO t))))], gg [5, 6, 9, 10, 11] [1007, 1012], []⟩)] [false] [1, 2, 3] [0, 1000] ((tr 5 (rp 3 b1 ((ty b2) ∧ True ∧ (ty b2) ∧ (okArgs [.agg (encTree t)]) ∧ (ty b2) ∧ True ∧ (ty b2) ∧ True))) ∧ ((ty (ng1 b3)) ∧ True)) .norm [(1, vi deep), (2, .ptr 0 0), (3, .ptr 1000 0)] [(0, .var [vi (left - 1)]), (1000, .var (encTree t))] ⟨⟨⟨ent170, con170 _ hf1 hf2 hf3⟩, tv⟩, tv⟩ (by kernel_rfl) ⟨tr_mk (rp_mk (⟨b2, tv, b2, rfl, b2, tv, b2, tv⟩) 3) 5, (ng1 b3), tv⟩ (fun a w hs => ?_)
    refine then_norm ?_
    refine wp_seq ?_
    refine wp_seq ?_
    refine wN hs hI [] [1, 2, 28, 29, 30] [0] (tr 4 True) .norm [(1, vi deep), (2, .ptr 0 0), (28, .row .tree t.v), (29, vi (t.v.length : Int)), (30, vi 0)] [(0, .var [vi (left - 1)])] (by kernel_rfl) (tr_mk tv 4) (fun a w hs => ?_)
    refine then_norm ?_
    refine wp_block ?_
    refine loop_L (N := Tryz.f117.ntmps) (w0 := w0) (ow := ownB fz η) (α := Nat × Int) (fun p => [(1, vi deep), (2, .ptr 0 0), (28, .row .tree t.v), (29, vi (t.v.length : Int)), (30, vi ((p.1 : Nat) : Int))]) (fun p => [(0, .var [vi p.2])]) (fun p => p.1 ≤ t.v.length ∧ chkL (t.v.drop p.1) (deep + 1) p.2 = chkL t.v (deep + 1) (left - 1) ∧ 0 ≤ p.2 ∧ p.2 ≤ 4000) (fun p => t.v.length - p.1) (0, left - 1) ?_ ?_ ?_
    ·exact ⟨Nat.zero_le _, rfl, by omega, by omega⟩
    ·exact (hs.cst [(1, vi deep), (2, .ptr 0 0), (28, .row .tree t.v), (29, vi (t.v.length : Int)), (30, vi ((0 : Nat) : Int))] [(0, .var [vi (left - 1)])] rfl).rm [(0, 0)] (by kernel_rfl)
    rintro ⟨i, l⟩ hJ a w hs
    try dsimp only at hJ
    obtain ⟨hi, hd, hl0, hl1⟩ := hJ
    have hle := chk_le (t.v.getD i (dflt .tree)) (deep + 1) l hl0
    rcases bt (decide ((i : Int) < (t.v.length : Int))) with b4 | b4
    ·skip
     have n4 := of_decide_eq_true b4
     rcases bt ((chk (t.v.getD i (dflt .tree)) (deep + 1) l).1) with b5 | b5
     ·skip
      refine wL hs hI [(7, ⟨[(4, ciB 117 [.agg (encTree (t.v.getD i (dflt .tree))), vi (deep + 1), .ptr 0 0] [] (.val (vb ((chk (t.v.getD i (dflt .tree)) (deep + 1) l).1))) [(0, .var [vi l])] [(0, .var [vi ((chk (t.v.getD i (dflt .tree)) (deep + 1) l).2)])] [(0, 0)])], [], []⟩)] [true, false] [1, 2, 28, 29, 30] [0] ((True ∧ True) ∧ (((ty b4) ∧ True) ∧ (((0 ≤ (i : Int) ∧ (i : Int) < t.v.length) ∧ (tr 3 True)) ∧ (True ∧ True ∧ (InR .i64 (deep + 1)) ∧ True ∧ (okArgs [.agg (encTree (t.v.getD i (dflt .tree))), vi (deep + 1), .ptr 0 0] ∧ okBxs [some (.var [vi l])]) ∧ True ∧ True) ∧ (ty (ng1 b5)) ∧ True) ∧ (InR .i64 ((i : Int) + 1)) ∧ True ∧ True)) .norm [(1, vi deep), (2, .ptr 0 0), (28, .row .tree t.v), (29, vi (t.v.length : Int)), (30, vi ((i : Int) + 1))] [(0, .var [vi ((chk (t.v.getD i (dflt .tree)) (deep + 1) l).2)])] ⟨⟨⟨ent117, ih _ _ _ (by have h1 := nodes_eq t; have h2 := nodes_at (l := t.v) (i := i) (by omega); omega) (fine_at hft (by omega) _) hl0 hl1 (by omega) (by omega)⟩, tv⟩, tv⟩ (by kernel_rfl) ⟨⟨tv, tv⟩, ⟨b4, tv⟩, ⟨⟨(by omega), tr_mk tv 3⟩, ⟨tv, tv, (inR64 (by omega) (by omega)), tv, ⟨rfl, rfl⟩, tv, tv⟩, (ng1 b5), tv⟩, (inR64 (by omega) (by omega)), tv, tv⟩ (fun a w hs => ?_)
      refine then_norm ⟨(i + 1, (chk (t.v.getD i (dflt .tree)) (deep + 1) l).2), ⟨by omega, by rw [← chkL_yes (by omega) b5]; exact hd, hle.2 b5, by omega⟩, by omega, ?_⟩
      (have e0_ : ((i : Int) + 1) = ((((i + 1) : Nat) : Int)) := (by first | rfl | (omega)); have e1_ : ((chk (t.v.getD i (dflt .tree)) (deep + 1) l).2) = (((chk (t.v.getD i (dflt .tree)) (deep + 1) l).2)) := (by first | rfl | (omega)); exact (hs.cst [(1, vi deep), (2, .ptr 0 0), (28, .row .tree t.v), (29, vi (t.v.length : Int)), (30, vi (((i + 1) : Nat) : Int))] [(0, .var [vi ((chk (t.v.getD i (dflt .tree)) (deep + 1) l).2)])] (by first | rfl | (rw [e0_, e1_]; done) | (simp only [e0_, e1_]; done) | (simp only [e0_, e1_]; rfl))).rm [(0, 0)] (by kernel_rfl))
     ·skip
      refine wL hs hI [(7, ⟨[(4, ciB 117 [.agg (encTree (t.v.getD i (dflt .tree))), vi (deep + 1), .ptr 0 0] [] (.val (vb ((chk (t.v.getD i (dflt .tree)) (deep + 1) l).1))) [(0, .var [vi l])] [(0, .var [vi ((chk (t.v.getD i (dflt .tree)) (deep + 1) l).2)])] [(0, 0)])], [], []⟩)] [true, true] [6] [0] ((True ∧ True) ∧ (((ty b4) ∧ True) ∧ ((0 ≤ (i : Int) ∧ (i : Int) < t.v.length) ∧ (tr 3 True)) ∧ (True ∧ True ∧ (InR .i64 (deep + 1)) ∧ True ∧ (okArgs [.agg (encTree (t.v.getD i (dflt .tree))), vi (deep + 1), .ptr 0 0] ∧ okBxs [some (.var [vi l])]) ∧ True ∧ True) ∧ (ty (ng0 b5)) ∧ (True ∧ True) ∧ True)) .ret [(6, vb false)] [(0, .var [vi ((chk (t.v.getD i (dflt .tree)) (deep + 1) l).2)])] ⟨⟨⟨ent117, ih _ _ _ (by have h1 := nodes_eq t; have h2 := nodes_at (l := t.v) (i := i) (by omega); omega) (fine_at hft (by omega) _) hl0 hl1 (by omega) (by omega)⟩, tv⟩, tv⟩ (by kernel_rfl) ⟨⟨tv, tv⟩, ⟨b4, tv⟩, ⟨(by omega), tr_mk tv 3⟩, ⟨tv, tv, (inR64 (by omega) (by omega)), tv, ⟨rfl, rfl⟩, tv, tv⟩, (ng0 b5), ⟨tv, tv⟩, tv⟩ (fun a w hs => ?_)
      refine then_ret ?_
      refine inb_ret ?_
      refine then_ret ?_
      exact FnQB_cast (out := .val (vb false)) (bo := [(0, .var [vi ((chk (t.v.getD i (dflt .tree)) (deep + 1) l).2)])]) (by rw [chk_eq t, if_neg (by rintro (h | h | h); omega; omega; rw [b3] at h; cases h), ← hd, chkL_no (by omega) b5]) (by rw [chk_eq t, if_neg (by rintro (h | h | h); omega; omega; rw [b3] at h; cases h), ← hd, chkL_no (by omega) b5]) (ret_okB _ hs (by kernel_rfl) (by kernel_rfl))
    ·skip
     have n4 := of_decide_eq_false b4
     refine wN hs hI [false] [] [0] ((True ∧ True) ∧ ((ty b4) ∧ True)) (.exit 0) [] [(0, .var [vi l])] (by kernel_rfl) ⟨⟨tv, tv⟩, b4, tv⟩ (fun a w hs => ?_)
     refine then_exit ?_
     refine inb_hit ?_
     refine then_norm ?_
     refine wN hs hI [] [6] [0] ((True ∧ True) ∧ True) .ret [(6, vb true)] [(0, .var [vi l])] (by kernel_rfl) ⟨⟨tv, tv⟩, tv⟩ (fun a w hs => ?_)
     exact FnQB_cast (out := .val (vb true)) (bo := [(0, .var [vi l])]) (by rw [chk_eq t, if_neg (by rintro (h | h | h); omega; omega; rw [b3] at h; cases h), ← hd, List.drop_of_length_le (by omega)]; rfl) (by rw [chk_eq t, if_neg (by rintro (h | h | h); omega; omega; rw [b3] at h; cases h), ← hd, List.drop_of_length_le (by omega)]; rfl) (ret_okB _ hs (by kernel_rfl) (by kernel_rfl))
   ·skip
    refine wL hs hI [(2, ⟨[(10, ciA 170 [.agg (encTree t)] [] [] (.val (vb (ownO t))))], gg [5, 6, 9, 10, 11] [1007, 1012], []⟩)] [true] [6] [0] ((tr 5 (rp 3 b1 ((ty b2) ∧ True ∧ (ty b2) ∧ (okArgs [.agg (encTree t)]) ∧ (ty b2) ∧ True ∧ (ty b2) ∧ True))) ∧ ((ty (ng0 b3)) ∧ (True ∧ True) ∧ True)) .ret [(6, vb false)] [(0, .var [vi (left - 1)])] ⟨⟨⟨ent170, con170 _ hf1 hf2 hf3⟩, tv⟩, tv⟩ (by kernel_rfl) ⟨tr_mk (rp_mk (⟨b2, tv, b2, rfl, b2, tv, b2, tv⟩) 3) 5, (ng0 b3), ⟨tv, tv⟩, tv⟩ (fun a w hs => ?_)
    refine then_ret ?_
    exact FnQB_cast (out := .val (vb false)) (bo := [(0, .var [vi (left - 1)])]) (by rw [chk_eq t, if_pos (by first | omega | exact .inr (.inr b3))]) (by rw [chk_eq t, if_pos (by first | omega | exact .inr (.inr b3))]) (ret_okB _ hs (by kernel_rfl) (by kernel_rfl))
theorem Ok.at {l : List Int} (h : Ok l) (n : Nat) : 0 ≤ l.getD n (dflt (.int .u32)) ∧ l.getD n (dflt (.int .u32)) < 4294967296 := h.rdk (n : Int)
theorem stepA {r x : Int} (r0 : 0 ≤ r) (r1 : r < 4294967296) (x0 : 0 ≤ x) (x1 : x < 4294967296) : IntKind.wrap .u64 (IntKind.wrap .u64 (r * 2 ^ 32) + IntKind.wrap .u64 x) = r * 4294967296 + x := by
 have e1 : r * 2 ^ 32 = r * 4294967296 := rfl
 rw [e1, wrapU64 (n := r * 4294967296) (by omega) (by omega), wrapU64 (n := x) (by omega) (by omega), wrapU64 (by omega) (by omega)]
theorem con250 (l : List Int) (hl : l.length < 1000000000) : Con Tryz.prog I0 250 [.row (.int .u32) l] (.own 160 (.int .u32) (trimF l)) := by
 refine con_of Tryz.func250 rfl (Nat.le_of_ble_eq_true rfl) stab (fun w0 fz a hI hs => ?_)
 refine wp_seq ?_
 refine wN hs hI [] [0] [] (True ∧ True) .norm [(0, .row (.int .u32) l)] [] (by kernel_rfl) ⟨tv, tv⟩ (fun a w hs => ?_)
 refine then_norm ?_
 refine wp_seq ?_
 refine wN hs hI [] [0, 3] [] (tr 3 True) .norm [(0, .row (.int .u32) l), (3, vi (l.length : Int))] [] (by kernel_rfl) (tr_mk tv 3) (fun a w hs => ?_)
 refine then_norm ?_
 refine wp_seq ?_
 refine wp_block ?_
 refine loop_L (N := Tryz.f250.ntmps) (w0 := w0) (ow := noO fz) (α := Nat) (fun p => [(0, .row (.int .u32) l), (3, vi (p : Int))]) (fun p => []) (fun p => p ≤ l.length ∧ trimF (l.take p) = trimF l) (fun p => p) l.length ?_ ?_ ?_
 ·exact ⟨Nat.le_refl _, by rw [List.take_length]⟩
 ·exact (hs.cst [(0, .row (.int .u32) l), (3, vi ((l.length : Nat) : Int))] [] rfl).rm [] (by kernel_rfl)
 rintro n hJ a w hs
 obtain ⟨hn, ht⟩ := hJ
 rcases bt (decide ((n : Int) > 0)) with b1 | b1
 ·skip
  have n1 := of_decide_eq_true b1
  rcases bt ((l.getD (((n : Int) - 1).toNat) (dflt (.int .u32))) == 0) with b2 | b2
  ·skip
   have n2 := eq_of_beq b2
   refine wL hs hI [(2, ⟨[], gg [3, 4, 5, 6, 7, 8, 1009] [], []⟩)] [true] [0, 3] [] (((tr 3 (rp 2 b1 ((ty b1) ∧ (InR .i64 ((n : Int) - 1)) ∧ (ty b1) ∧ (0 ≤ ((n : Int) - 1) ∧ ((n : Int) - 1) < l.length) ∧ (rp 2 b1 ((ty b1) ∧ True))))) ∧ (ty b2) ∧ True) ∧ (True ∧ (InR .i64 ((n : Int) - 1)) ∧ True ∧ True)) .norm [(0, .row (.int .u32) l), (3, vi ((n : Int) - 1))] [] ⟨tv, tv⟩ (by kernel_rfl) ⟨⟨tr_mk (rp_mk (⟨b1, (inR64 (by omega) (by omega)), b1, (by omega), rp_mk (⟨b1, tv⟩) 2⟩) 2) 3, b2, tv⟩, tv, (inR64 (by omega) (by omega)), tv, tv⟩ (fun a w hs => ?_)
   refine then_norm ⟨n - 1, ⟨by omega, by obtain ⟨m, rfl⟩ : ∃ m, n = m + 1 := ⟨n - 1, by omega⟩; rw [← ht, trimF_zero (n := m) (by omega) (by have h := eq_of_beq b2; rw [← h]; congr 1; omega)]; rfl⟩, by omega, ?_⟩
   (have e0_ : ((n : Int) - 1) = ((((n - 1) : Nat) : Int)) := (by first | rfl | (omega)); exact (hs.cst [(0, .row (.int .u32) l), (3, vi (((n - 1) : Nat) : Int))] [] (by first | rfl | (rw [e0_]; done) | (simp only [e0_]; done) | (simp only [e0_]; rfl))).rm [] (by kernel_rfl))
  ·skip
   have n2 := beq_eq_false_iff_ne.1 b2
   refine wL hs hI [(2, ⟨[], gg [3, 4, 5, 6, 7, 8, 1009] [], []⟩)] [false] [0, 3] [] ((tr 3 (rp 2 b1 ((ty b1) ∧ (InR .i64 ((n : Int) - 1)) ∧ (ty b1) ∧ (0 ≤ ((n : Int) - 1) ∧ ((n : Int) - 1) < l.length) ∧ (rp 2 b1 ((ty b1) ∧ True))))) ∧ ((ty b2) ∧ True)) (.exit 0) [(0, .row (.int .u32) l), (3, vi (n : Int))] [] ⟨tv, tv⟩ (by kernel_rfl) ⟨tr_mk (rp_mk (⟨b1, (inR64 (by omega) (by omega)), b1, (by omega), rp_mk (⟨b1, tv⟩) 2⟩) 2) 3, b2, tv⟩ (fun a w hs => ?_)
   refine then_exit ?_
   refine inb_hit ?_
   refine then_norm ?_
   refine wN hs hI [] [2] [5003] ((True ∧ True ∧ (0 ≤ (0 : Int) ∧ (0 : Int) ≤ (n : Int) ∧ (n : Int) ≤ (l.length : Int) ∧ (l.length : Int) ≤ (l.length : Int)) ∧ (((l.take n).length * 4 : Nat) ≤ 140737488355328 ∧ (l.take n).length ≤ 140737488355328) ∧ True ∧ True) ∧ True) .ret [(2, .own 5003)] [(5003, .sl 160 (.int .u32) (l.take n))] (by kernel_rfl) ⟨⟨tv, tv, (by (repeat' apply And.intro) <;> (try split) <;> omega), (by simp only [List.length_take]; omega), tv, tv⟩, tv⟩ (fun a w hs => ?_)
   exact FnQ_cast (out := .own 160 (.int .u32) (l.take n)) (by obtain ⟨m, rfl⟩ : ∃ m, n = m + 1 := ⟨n - 1, by omega⟩; rw [← ht, trimF_stop (n := m) (by omega) (by have h := beq_eq_false_iff_ne.1 b2; rwa [show (((m + 1 : Nat) : Int) - 1).toNat = m by omega] at h)]) (ret_ok [] hs (.inl ⟨5003, by kernel_rfl, rfl⟩))
 ·skip
  have n1 := of_decide_eq_false b1
  refine wL hs hI [(2, ⟨[], gg [] [3, 4, 5, 6, 7, 8, 1009], []⟩)] [false] [0, 3] [] ((tr 3 ((ty b1) ∧ (ty b1) ∧ (ty b1) ∧ (ty b1) ∧ (ty b1) ∧ (ty b1) ∧ (ty b1) ∧ True)) ∧ ((false = false) ∧ True)) (.exit 0) [(0, .row (.int .u32) l), (3, vi (n : Int))] [] ⟨tv, tv⟩ (by kernel_rfl) ⟨tr_mk (⟨b1, b1, b1, b1, b1, b1, b1, tv⟩) 3, rfl, tv⟩ (fun a w hs => ?_)
  refine then_exit ?_
  refine inb_hit ?_
  refine then_norm ?_
  refine wN hs hI [] [2] [5003] ((True ∧ True ∧ (0 ≤ (0 : Int) ∧ (0 : Int) ≤ (n : Int) ∧ (n : Int) ≤ (l.length : Int) ∧ (l.length : Int) ≤ (l.length : Int)) ∧ (((l.take n).length * 4 : Nat) ≤ 140737488355328 ∧ (l.take n).length ≤ 140737488355328) ∧ True ∧ True) ∧ True) .ret [(2, .own 5003)] [(5003, .sl 160 (.int .u32) (l.take n))] (by kernel_rfl) ⟨⟨tv, tv, (by (repeat' apply And.intro) <;> (try split) <;> omega), (by simp only [List.length_take]; omega), tv, tv⟩, tv⟩ (fun a w hs => ?_)
  exact FnQ_cast (out := .own 160 (.int .u32) (l.take n)) (by obtain rfl : n = 0 := (by omega); rw [← ht]; rfl) (ret_ok [] hs (.inl ⟨5003, by kernel_rfl, rfl⟩))
theorem con218_10 (l : List Int) (ha : Ok l) (hl : l.length < 1000000000) : Con Tryz.prog I0 218 [.row (.int .u32) l, .lit (.int .u32 10)] (.val (.tup [.row (.int .u32) (lim (val l / 10)), .lit (.int .u32 ((val l % 10 : Nat) : Int))])) := by
 refine con_of Tryz.func218 rfl (Nat.le_of_ble_eq_true rfl) stab (fun w0 fz a hI hs => ?_)
 refine wp_seq ?_
 refine wN hs hI [] [0, 1] [] (True ∧ (True ∧ True)) .norm [(0, .row (.int .u32) l), (1, .lit (.int .u32 10))] [] (by kernel_rfl) ⟨tv, tv, tv⟩ (fun a w hs => ?_)
 refine then_norm ?_
 refine wp_seq ?_
 refine wN hs hI [] [0, 1, 6] [2002] (True ∧ (True ∧ ((l.length : Int) = (l.length : Int) ∧ 0 ≤ (l.length : Int) ∧ (4 : Nat) * (l.length : Int) ≤ 281474976710656 ∧ (l.length : Int) ≤ 9223372036854775807) ∧ True ∧ True)) .norm [(0, .row (.int .u32) l), (1, .lit (.int .u32 10)), (6, .own 2002)] [(2002, .sl 160 (.int .u32) (List.replicate l.length (dflt (.int .u32))))] (by kernel_rfl) ⟨tv, tv, (by omega), tv, tv⟩ (fun a w hs => ?_)
 refine then_norm ?_
 refine wp_seq ?_
 refine wN hs hI [] [0, 1, 6, 7] [2002] (True ∧ True) .norm [(0, .row (.int .u32) l), (1, .lit (.int .u32 10)), (6, .own 2002), (7, .lit (.int .u64 0))] [(2002, .sl 160 (.int .u32) (List.replicate l.length (dflt (.int .u32))))] (by kernel_rfl) ⟨tv, tv⟩ (fun a w hs => ?_)
 refine then_norm ?_
 refine wp_seq ?_
 refine wp_seq ?_
 refine wN hs hI [] [0, 1, 6, 7, 8] [2002] (True ∧ (True ∧ (InR .i64 ((l.length : Int) - 1)) ∧ True ∧ True)) .norm [(0, .row (.int .u32) l), (1, .lit (.int .u32 10)), (6, .own 2002), (7, .lit (.int .u64 0)), (8, vi ((l.length : Int) - 1))] [(2002, .sl 160 (.int .u32) (List.replicate l.length (dflt (.int .u32))))] (by kernel_rfl) ⟨tv, tv, (inR64 (by omega) (by omega)), tv, tv⟩ (fun a w hs => ?_)
 refine then_norm ?_
 refine wp_block ?_
 refine loop_L (N := Tryz.f218.ntmps) (w0 := w0) (ow := noO fz) (α := Nat × List Int × Int) (fun p => [(0, .row (.int .u32) l), (1, .lit (.int .u32 10)), (6, .own 90000001), (7, .lit (.int .u64 p.2.2)), (8, vi (((p.1 : Nat) : Int) - 1))]) (fun p => [(90000001, .sl 160 (.int .u32) p.2.1)]) (fun p => SmallJ l 10 p.1 p.2.1 p.2.2) (fun p => p.1) (l.length, List.replicate l.length (dflt (.int .u32)), 0) ?_ ?_ ?_
 ·exact SmallJ.start (by decide)
 ·exact (hs.cst [(0, .row (.int .u32) l), (1, .lit (.int .u32 10)), (6, .own 2002), (7, .lit (.int .u64 0)), (8, vi (((l.length : Nat) : Int) - 1))] [(2002, .sl 160 (.int .u32) (List.replicate l.length (dflt (.int .u32))))] rfl).rm [(90000001, 2002)] (by kernel_rfl)
 rintro ⟨m, out, r⟩ hJ a w hs
 try dsimp only at hJ
 have hm := hJ.le
 have hln := hJ.len
 have hr0 := hJ.r0
 have hr1 := hJ.r1
 rcases bt (decide (((m : Int) - 1) ≥ 0)) with b1 | b1
 ·skip
  have n1 := of_decide_eq_true b1
  refine wN hs hI [true] [0, 1, 6, 7, 8] [90000001] (((True ∧ True ∧ True) ∧ (ty b1) ∧ True) ∧ (((tr 4 ((0 ≤ ((m : Int) - 1) ∧ ((m : Int) - 1) < l.length) ∧ (tr 4 True))) ∧ (tr 7 ((0 ≤ ((m : Int) - 1) ∧ ((m : Int) - 1) < out.length) ∧ (((m : Int) - 1).toNat < out.length) ∧ True)) ∧ (tr 5 True)) ∧ True ∧ (InR .i64 (((m : Int) - 1) - 1)) ∧ True ∧ True)) .norm [(0, .row (.int .u32) l), (1, .lit (.int .u32 10)), (6, .own 90000001), (7, .lit (.int .u64 ((IntKind.wrap .u64 ((IntKind.wrap .u64 (r * 2 ^ 32)) + (IntKind.wrap .u64 (l.getD (((m : Int) - 1).toNat) (dflt (.int .u32)))))).tmod 10))), (8, vi (((m : Int) - 1) - 1))] [(90000001, .sl 160 (.int .u32) (out.set (((m : Int) - 1).toNat) (IntKind.wrap .u32 (IntKind.wrap .u64 ((IntKind.wrap .u64 ((IntKind.wrap .u64 (r * 2 ^ 32)) + (IntKind.wrap .u64 (l.getD (((m : Int) - 1).toNat) (dflt (.int .u32)))))).tdiv 10)))))] (by kernel_rfl) ⟨⟨⟨tv, tv, tv⟩, b1, tv⟩, ⟨tr_mk (⟨(by omega), tr_mk tv 4⟩) 4, tr_mk (⟨(by omega), (by omega), tv⟩) 7, tr_mk tv 5⟩, tv, (inR64 (by omega) (by omega)), tv, tv⟩ (fun a w hs => ?_)
  refine then_norm ⟨(m - 1, out.set (((m : Int) - 1).toNat) (IntKind.wrap .u32 (IntKind.wrap .u64 ((IntKind.wrap .u64 ((IntKind.wrap .u64 (r * 2 ^ 32)) + (IntKind.wrap .u64 (l.getD (((m : Int) - 1).toNat) (dflt (.int .u32)))))).tdiv 10))), (IntKind.wrap .u64 ((IntKind.wrap .u64 (r * 2 ^ 32)) + (IntKind.wrap .u64 (l.getD (((m : Int) - 1).toNat) (dflt (.int .u32)))))).tmod 10), (by have h := hJ.step ha (by decide) (by decide) (by omega); have hx := ha.at ((m : Int) - 1).toNat; rw [stepX hr0 (by omega) hx.1 hx.2] at h; rw [stepA hr0 (by omega) hx.1 hx.2]; exact h), by omega, ?_⟩
  (have e0_ : ((IntKind.wrap .u64 ((IntKind.wrap .u64 (r * 2 ^ 32)) + (IntKind.wrap .u64 (l.getD (((m : Int) - 1).toNat) (dflt (.int .u32)))))).tmod 10) = (((IntKind.wrap .u64 ((IntKind.wrap .u64 (r * 2 ^ 32)) + (IntKind.wrap .u64 (l.getD (((m : Int) - 1).toNat) (dflt (.int .u32)))))).tmod 10)) := (by first | rfl | (omega)); have e1_ : (((m : Int) - 1) - 1) = ((((m - 1) : Nat) : Int) - 1) := (by first | rfl | (omega)); have e2_ : (out.set (((m : Int) - 1).toNat) (IntKind.wrap .u32 (IntKind.wrap .u64 ((IntKind.wrap .u64 ((IntKind.wrap .u64 (r * 2 ^ 32)) + (IntKind.wrap .u64 (l.getD (((m : Int) - 1).toNat) (dflt (.int .u32)))))).tdiv 10)))) = ((out.set (((m : Int) - 1).toNat) (IntKind.wrap .u32 (IntKind.wrap .u64 ((IntKind.wrap .u64 ((IntKind.wrap .u64 (r * 2 ^ 32)) + (IntKind.wrap .u64 (l.getD (((m : Int) - 1).toNat) (dflt (.int .u32)))))).tdiv 10))))) := (by first | rfl | (omega)); exact (hs.cst [(0, .row (.int .u32) l), (1, .lit (.int .u32 10)), (6, .own 90000001), (7, .lit (.int .u64 ((IntKind.wrap .u64 ((IntKind.wrap .u64 (r * 2 ^ 32)) + (IntKind.wrap .u64 (l.getD (((m : Int) - 1).toNat) (dflt (.int .u32)))))).tmod 10))), (8, vi ((((m - 1) : Nat) : Int) - 1))] [(90000001, .sl 160 (.int .u32) (out.set (((m : Int) - 1).toNat) (IntKind.wrap .u32 (IntKind.wrap .u64 ((IntKind.wrap .u64 ((IntKind.wrap .u64 (r * 2 ^ 32)) + (IntKind.wrap .u64 (l.getD (((m : Int) - 1).toNat) (dflt (.int .u32)))))).tdiv 10)))))] (by first | rfl | (rw [e0_, e1_, e2_]; done) | (simp only [e0_, e1_, e2_]; done) | (simp only [e0_, e1_, e2_]; rfl))).rm [(90000001, 90000001)] (by kernel_rfl))
 ·skip
  have n1 := of_decide_eq_false b1
  refine wN hs hI [false] [6, 7] [90000001] ((True ∧ True ∧ True) ∧ ((ty b1) ∧ True)) (.exit 0) [(6, .own 90000001), (7, .lit (.int .u64 r))] [(90000001, .sl 160 (.int .u32) out)] (by kernel_rfl) ⟨⟨tv, tv, tv⟩, b1, tv⟩ (fun a w hs => ?_)
  refine then_exit ?_
  refine inb_hit ?_
  refine then_norm ?_
  refine wL hs hI [(9, ⟨[(1, ciA 250 [.row (.int .u32) out] [] [90000001] (.own 160 (.int .u32) (trimF out)))], [], []⟩)] [] [4, 5] [10001] ((True ∧ (okArgs [.row (.int .u32) out]) ∧ (tr 4 True)) ∧ True) .ret [(4, .own 10001), (5, .lit (.int .u32 (IntKind.wrap .u32 r)))] [(10001, .sl 160 (.int .u32) (trimF out))] ⟨⟨⟨ent250, con250 _ (by have := hJ.len; omega)⟩, tv⟩, tv⟩ (by kernel_rfl) ⟨⟨tv, rfl, tr_mk tv 4⟩, tv⟩ (fun a w hs => ?_)
  exact FnQ_cast (out := .val (.tup [.row (.int .u32) (trimF out), .lit (.int .u32 (IntKind.wrap .u32 r))])) (by obtain rfl : m = 0 := (by omega); obtain ⟨h1, h2⟩ := hJ.stop ha (by decide); rw [h1, wrapU32 hr0 (by omega), h2]; rfl) (ret_ok [10001] hs ⟨by kernel_rfl, rfl⟩)
theorem con174 (n : Num) (ha : Ok n.m) (hl : n.m.length < 1000000000) : Con Tryz.prog I0 174 [.agg [vb n.neg, .row (.int .u32) n.m, vi n.e]] (.val (vb (checkN n))) := by
 refine con_of Tryz.func174 rfl (Nat.le_of_ble_eq_true rfl) stab (fun w0 fz a hI hs => ?_)
 rcases bt ((n.m.length : Int) == 0) with b1 | b1
 ·skip
  have n1 := eq_of_beq b1
  rcases bt (n.neg) with b2 | b2
  ·skip
   refine wL hs hI [(3, ⟨[], gg [] [4, 5, 6, 1007], []⟩)] [true] [2] [] ((True ∧ True ∧ True) ∧ ((tr 4 True) ∧ (True ∧ True ∧ True) ∧ (ty b1) ∧ (tr 4 ((ty (ng1 b2)) ∧ (ty (ng1 b2)) ∧ (ty (ng1 b2)) ∧ (ty (ng1 b2)) ∧ True ∧ True)) ∧ True)) .ret [(2, vb false)] [] ⟨tv, tv⟩ (by kernel_rfl) ⟨⟨tv, tv, tv⟩, tr_mk tv 4, ⟨tv, tv, tv⟩, b1, tr_mk (⟨(ng1 b2), (ng1 b2), (ng1 b2), (ng1 b2), tv, tv⟩) 4, tv⟩ (fun a w hs => ?_)
   exact FnQ_cast (out := .val (vb false)) (by rw [checkN, if_pos (by omega), b2]; rfl) (ret_ok [] hs ⟨by kernel_rfl, rfl⟩)
  ·skip
   refine wL hs hI [(3, ⟨[], gg [4, 5, 6, 1007] [], []⟩)] [true] [2] [] ((True ∧ True ∧ True) ∧ ((tr 4 True) ∧ (True ∧ True ∧ True) ∧ (ty b1) ∧ (tr 4 (rp 4 (ng0 b2) True)) ∧ True)) .ret [(2, vb (n.e == 0))] [] ⟨tv, tv⟩ (by kernel_rfl) ⟨⟨tv, tv, tv⟩, tr_mk tv 4, ⟨tv, tv, tv⟩, b1, tr_mk (rp_mk (tv) 4) 4, tv⟩ (fun a w hs => ?_)
   exact FnQ_cast (out := .val (vb (n.e == 0))) (by rw [checkN, if_pos (by omega), b2]; rfl) (ret_ok [] hs ⟨by kernel_rfl, rfl⟩)
 ·skip
  have n1 := beq_eq_false_iff_ne.1 b1
  rcases bt (decide ((n.m.length : Int) > 90)) with b3 | b3
  ·skip
   have n3 := of_decide_eq_true b3
   refine wL hs hI [(4, ⟨[], gg [1010, 1015, 1020] [3, 4, 5, 6, 7, 8, 9, 12, 13, 14, 17, 18, 19], []⟩)] [false, true] [2] [] ((True ∧ True ∧ True) ∧ ((tr 4 True) ∧ ((True ∧ True ∧ True) ∧ (ty b1) ∧ True) ∧ (tr 3 ((ty b3) ∧ (ty b3) ∧ (ty b3) ∧ (ty b3) ∧ (ty b3) ∧ (ty b3) ∧ (ty b3) ∧ (ty b3) ∧ True ∧ (true = true) ∧ (true = true) ∧ (true = true) ∧ (true = true) ∧ True ∧ (true = true) ∧ (true = true) ∧ (true = true) ∧ (true = true) ∧ True)) ∧ (true = true) ∧ (True ∧ True) ∧ True)) .ret [(2, vb false)] [] ⟨tv, tv⟩ (by kernel_rfl) ⟨⟨tv, tv, tv⟩, tr_mk tv 4, ⟨⟨tv, tv, tv⟩, b1, tv⟩, tr_mk (⟨b3, b3, b3, b3, b3, b3, b3, b3, tv, rfl, rfl, rfl, rfl, tv, rfl, rfl, rfl, rfl, tv⟩) 3, rfl, ⟨tv, tv⟩, tv⟩ (fun a w hs => ?_)
   exact FnQ_cast (out := .val (vb false)) (by rw [checkN, if_neg (by omega), if_pos (by omega)]) (ret_ok [] hs ⟨by kernel_rfl, rfl⟩)
  ·skip
   have n3 := of_decide_eq_false b3
   rcases bt ((n.m.getD (((n.m.length : Int) - 1).toNat) (dflt (.int .u32))) == 0) with b4 | b4
   ·skip
    have n4 := eq_of_beq b4
    refine wL hs hI [(4, ⟨[], gg [3, 4, 5, 6, 7, 8, 9, 1015, 1020] [1010, 12, 13, 14, 17, 18, 19], []⟩)] [false, true] [2] [] ((True ∧ True ∧ True) ∧ ((tr 4 True) ∧ ((True ∧ True ∧ True) ∧ (ty b1) ∧ True) ∧ (tr 3 (rp 3 b3 ((ty b3) ∧ (InR .i64 ((n.m.length : Int) - 1)) ∧ (ty b3) ∧ (0 ≤ ((n.m.length : Int) - 1) ∧ ((n.m.length : Int) - 1) < n.m.length) ∧ (rp 3 b3 ((ty b4) ∧ (ty b4) ∧ (ty b4) ∧ (ty b4) ∧ True ∧ (true = true) ∧ (true = true) ∧ (true = true) ∧ (true = true) ∧ True))))) ∧ (true = true) ∧ (True ∧ True) ∧ True)) .ret [(2, vb false)] [] ⟨tv, tv⟩ (by kernel_rfl) ⟨⟨tv, tv, tv⟩, tr_mk tv 4, ⟨⟨tv, tv, tv⟩, b1, tv⟩, tr_mk (rp_mk (⟨b3, (inR64 (by omega) (by omega)), b3, (by omega), rp_mk (⟨b4, b4, b4, b4, tv, rfl, rfl, rfl, rfl, tv⟩) 3⟩) 3) 3, rfl, ⟨tv, tv⟩, tv⟩ (fun a w hs => ?_)
    exact FnQ_cast (out := .val (vb false)) (by rw [checkN, if_neg (by omega), if_neg (by omega), if_pos (show rd n.m _ = 0 from eq_of_beq b4)]) (ret_ok [] hs ⟨by kernel_rfl, rfl⟩)
   ·skip
    have n4 := beq_eq_false_iff_ne.1 b4
    rcases bt (decide (n.e < (-1200))) with b5 | b5
    ·skip
     have n5 := of_decide_eq_true b5
     refine wL hs hI [(4, ⟨[], gg [3, 4, 5, 6, 7, 8, 9, 12, 13, 14, 1020] [1010, 1015, 17, 18, 19], []⟩)] [false, true] [2] [] ((True ∧ True ∧ True) ∧ ((tr 4 True) ∧ ((True ∧ True ∧ True) ∧ (ty b1) ∧ True) ∧ (tr 3 (rp 3 b3 ((ty b3) ∧ (InR .i64 ((n.m.length : Int) - 1)) ∧ (ty b3) ∧ (0 ≤ ((n.m.length : Int) - 1) ∧ ((n.m.length : Int) - 1) < n.m.length) ∧ (rp 3 b3 (rp 4 b4 ((ty b5) ∧ (ty b5) ∧ (ty b5) ∧ (ty b5) ∧ True)))))) ∧ (true = true) ∧ (True ∧ True) ∧ True)) .ret [(2, vb false)] [] ⟨tv, tv⟩ (by kernel_rfl) ⟨⟨tv, tv, tv⟩, tr_mk tv 4, ⟨⟨tv, tv, tv⟩, b1, tv⟩, tr_mk (rp_mk (⟨b3, (inR64 (by omega) (by omega)), b3, (by omega), rp_mk (rp_mk (⟨b5, b5, b5, b5, tv⟩) 4) 3⟩) 3) 3, rfl, ⟨tv, tv⟩, tv⟩ (fun a w hs => ?_)
     exact FnQ_cast (out := .val (vb false)) (by rw [checkN, if_neg (by omega), if_neg (by omega), if_neg (show ¬ rd n.m _ = 0 from beq_eq_false_iff_ne.1 b4), if_pos (by omega)]) (ret_ok [] hs ⟨by kernel_rfl, rfl⟩)
    ·skip
     have n5 := of_decide_eq_false b5
     rcases bt (decide (n.e > 1200)) with b6 | b6
     ·skip
      have n6 := of_decide_eq_true b6
      refine wL hs hI [(4, ⟨[], gg [3, 4, 5, 6, 7, 8, 9, 12, 13, 14, 17, 18, 19] [1010, 1015, 1020], []⟩)] [false, true] [2] [] ((True ∧ True ∧ True) ∧ ((tr 4 True) ∧ ((True ∧ True ∧ True) ∧ (ty b1) ∧ True) ∧ (tr 3 (rp 3 b3 ((ty b3) ∧ (InR .i64 ((n.m.length : Int) - 1)) ∧ (ty b3) ∧ (0 ≤ ((n.m.length : Int) - 1) ∧ ((n.m.length : Int) - 1) < n.m.length) ∧ (rp 3 b3 (rp 4 b4 (rp 3 b5 ((ty b5) ∧ True))))))) ∧ (ty b6) ∧ (True ∧ True) ∧ True)) .ret [(2, vb false)] [] ⟨tv, tv⟩ (by kernel_rfl) ⟨⟨tv, tv, tv⟩, tr_mk tv 4, ⟨⟨tv, tv, tv⟩, b1, tv⟩, tr_mk (rp_mk (⟨b3, (inR64 (by omega) (by omega)), b3, (by omega), rp_mk (rp_mk (rp_mk (⟨b5, tv⟩) 3) 4) 3⟩) 3) 3, b6, ⟨tv, tv⟩, tv⟩ (fun a w hs => ?_)
      exact FnQ_cast (out := .val (vb false)) (by rw [checkN, if_neg (by omega), if_neg (by omega), if_neg (show ¬ rd n.m _ = 0 from beq_eq_false_iff_ne.1 b4), if_neg (by omega), if_pos (by omega)]) (ret_ok [] hs ⟨by kernel_rfl, rfl⟩)
     ·skip
      have n6 := of_decide_eq_false b6
      refine wL hs hI [(4, ⟨[], gg [3, 4, 5, 6, 7, 8, 9, 12, 13, 14, 17, 18, 19] [1010, 1015, 1020], []⟩), (6, ⟨[(2, ciA 218 [.row (.int .u32) n.m, .lit (.int .u32 10)] [] [] (.val (.tup [.row (.int .u32) (lim (val n.m / 10)), .lit (.int .u32 ((val n.m % 10 : Nat) : Int))])))], [], []⟩)] [false, false] [2] [] ((True ∧ True ∧ True) ∧ ((tr 4 True) ∧ ((True ∧ True ∧ True) ∧ (ty b1) ∧ True) ∧ ((tr 3 (rp 3 b3 ((ty b3) ∧ (InR .i64 ((n.m.length : Int) - 1)) ∧ (ty b3) ∧ (0 ≤ ((n.m.length : Int) - 1) ∧ ((n.m.length : Int) - 1) < n.m.length) ∧ (rp 3 b3 (rp 4 b4 (rp 3 b5 ((ty b5) ∧ True))))))) ∧ (ty b6) ∧ True) ∧ (True ∧ True ∧ (okArgs [.row (.int .u32) n.m, .lit (.int .u32 10)]) ∧ (tr 5 True)) ∧ (tr 3 True) ∧ True)) .ret [(2, vb (((val n.m % 10 : Nat) : Int) != 0))] [] ⟨tv, ⟨⟨⟨ent218, con218_10 _ ha hl⟩, tv⟩, tv⟩⟩ (by kernel_rfl) ⟨⟨tv, tv, tv⟩, tr_mk tv 4, ⟨⟨tv, tv, tv⟩, b1, tv⟩, ⟨tr_mk (rp_mk (⟨b3, (inR64 (by omega) (by omega)), b3, (by omega), rp_mk (rp_mk (rp_mk (⟨b5, tv⟩) 3) 4) 3⟩) 3) 3, b6, tv⟩, ⟨tv, tv, rfl, tr_mk tv 5⟩, tr_mk tv 3, tv⟩ (fun a w hs => ?_)
      exact FnQ_cast (out := .val (vb (((val n.m % 10 : Nat) : Int) != 0))) (by rw [checkN, if_neg (by omega), if_neg (by omega), if_neg (show ¬ rd n.m _ = 0 from beq_eq_false_iff_ne.1 b4), if_neg (by omega), if_neg (by omega)]; have e1 : (((val n.m % 10 : Nat) : Int) != 0) = decide (val n.m % 10 ≠ 0) := (by rw [Bool.eq_iff_iff, bne_iff_ne, decide_eq_true_iff]; omega); rw [e1]) (ret_ok [] hs ⟨by kernel_rfl, rfl⟩)
end Go.Proofs.YtondpnipoogoiaaGreatDoor.F
