import Derived.Test.YtondpnipoogoiaaGreatDoorA9
set_option maxRecDepth 100000
set_option linter.unusedVariables false
set_option linter.unusedSimpArgs false
namespace Go.Proofs.YtondpnipoogoiaaGreatDoor.F
open Go Go.RowKit
theorem chk_own {t : Tree} {d l : Int} (h : (chk t d l).1 = true) : ownO t = true ∧ (chkL t.v (d + 1) (l - 1)).1 = true := by
 rw [chk_eq] at h
 split at h
 ·cases h
 ·rename_i hc
  refine ⟨?_, h⟩
  cases ho : ownO t with
  | true => rfl
  | false => exact absurd (.inr (.inr ho)) hc
theorem chkL_mem : ∀ {v : List Tree} {d l : Int} {c : Tree}, (chkL v d l).1 = true → c ∈ v → ∃ l', (chk c d l').1 = true
 | [], _, _, _, _, h => by simp at h
 | x :: v, d, l, c, h, hc => by
  simp only [chkL] at h
  split at h
  ·rename_i h1
   rcases List.mem_cons.1 hc with rfl | hc
   ·exact ⟨l, h1⟩
   ·exact chkL_mem h hc
  ·cases h
theorem chk_get : ∀ (q : List ByteArray) {t : Tree} {d l : Int}, (chk t d l).1 = true → (getF q t).2 = true → ownO (getF q t).1 = true
 | [], t, d, l, h, _ => (chk_own h).1
 | x :: q, t, d, l, h, hb => by
  rw [getF_cons] at hb ⊢
  split
  ·rename_i hm
   rw [if_pos hm] at hb
   obtain ⟨l', h1⟩ := chkL_mem (chk_own h).2 (mem_cutV hm)
   exact chk_get q h1 hb
  ·rename_i hm
   rw [if_neg hm] at hb; cases hb
theorem can_valid {t : Tree} (h : validT t = true) : Can t := fun q hk => by
 cases hb : (getF q t).2 with
 | true => exact own_can (chk_get q h hb) hk
 | false => rw [getF_miss hb] at hk; exact absurd hk (by decide)
theorem names_step {l : List ByteArray} (h : namesOk l = true) {i : Nat} (hi : i + 1 < l.length) : ltB (l.getD i (dflt .str)) (l.getD (i + 1) (dflt .str)) := by
 unfold namesOk at h
 rw [Bool.and_eq_true] at h
 have h1 := List.all_eq_true.1 h.1 (i + 1) (by simpa using hi)
 unfold nmOk at h1
 rw [Bool.and_eq_true, Bool.or_eq_true] at h1
 rcases h1.2 with h2 | h2
 ·simp at h2
 ·rw [show ((((i + 1 : Nat) : Int) - 1)).toNat = i by omega] at h2
  exact ltB_less.1 h2
theorem names_lt {l : List ByteArray} (h : namesOk l = true) (i : Nat) : ∀ n, i + 1 + n < l.length → ltB (l.getD i (dflt .str)) (l.getD (i + 1 + n) (dflt .str))
 | 0, hn => names_step h hn
 | n + 1, hn => ltB_trans (names_lt h i n (by omega)) (names_step h (i := i + 1 + n) hn)
theorem names_nodup {l : List ByteArray} (h : namesOk l = true) : l.Nodup := by
 refine List.pairwise_iff_getElem.2 (fun i j hi hj hij e => ?_)
 have h1 := names_lt h i (j - i - 1) (by omega)
 rw [show i + 1 + (j - i - 1) = j by omega] at h1
 have e1 : l.getD i (dflt .str) = l[i] := by rw [List.getD_eq_getElem?_getD, List.getElem?_eq_getElem hi]; rfl
 have e2 : l.getD j (dflt .str) = l[j] := by rw [List.getD_eq_getElem?_getD, List.getElem?_eq_getElem hj]; rfl
 rw [e1, e2, e] at h1
 exact ltB_irrefl _ h1
theorem own_nodup {t : Tree} (h : ownO t = true) : Nodup (mems t) := by
 unfold Nodup
 rw [mems_k]
 by_cases hk : t.kind = 7
 ·unfold cutK
  simp only [ownO, Bool.and_eq_true] at h
  have h1 := h.2.2.2.2.1
  unfold keysO at h1
  rw [if_pos hk, Bool.and_eq_true] at h1
  rw [if_pos hk]
  exact (names_nodup h1.1).sublist (List.take_sublist _ _)
 ·unfold cutK; rw [if_neg hk]; exact List.nodup_nil
theorem nd_valid {t : Tree} (h : validT t = true) : ND t := fun q => by
 cases hb : (getF q t).2 with
 | true => exact own_nodup (chk_get q h hb)
 | false => rw [getF_miss hb]; exact nd_zero []
theorem can_to {t v : Tree} (ht : validT t = true) (hv : validT v = true) (s : List (List ByteArray)) (i : Nat) : Can (apTo v t s i) := can_all (can_valid hv) (nd_valid hv) (s.take i) (can_valid ht) (nd_valid ht)
theorem do_set {t v : Tree} {s : List (List ByteArray)} {i : Nat} (hi : i < s.length) (h : (getF (s.getD i (dflt .strs)) v).2 = true) : setP (s.getD i (dflt .strs)) (apTo v t s i) (getF (s.getD i (dflt .strs)) v).1 = apTo v t s (i + 1) := by rw [apTo_yes hi h]
theorem do_clear {t v : Tree} {s : List (List ByteArray)} {i : Nat} (hi : i < s.length) (h : (getF (s.getD i (dflt .strs)) v).2 = false) : unsetP (s.getD i (dflt .strs)) (apTo v t s i) = apTo v t s (i + 1) := by rw [apTo_no hi h]
theorem do_stay {t v : Tree} {s : List (List ByteArray)} {i : Nat} (hi : i < s.length) (ht : validT t = true) (hv : validT v = true) (hp : s.getD i (dflt .strs) ≠ []) (h : (getF (s.getD i (dflt .strs)) v).2 = false) (h2 : (getF (s.getD i (dflt .strs)) (apTo v t s i)).2 = false) : apTo v t s i = apTo v t s (i + 1) := by
 rw [apTo_no hi h, unsetP_self (can_to ht hv s i) hp h2]
theorem fineL_of : ∀ {l : List Tree}, (∀ u ∈ l, fineT u) → fineL l
 | [], _ => trivial
 | x :: l, h => ⟨h x (by simp), fineL_of (fun u hu => h u (by simp [hu]))⟩
theorem fine_objM {l : Mem} (hl : l.length < 1000000000) (h : ∀ p ∈ l, fineT p.2) : fineT (objM l) := by
 rw [fine_eq]
 refine ⟨⟨Ok.nil, by show (0 : Nat) < 1000000000; decide, ?_, ?_⟩, fineL_of (fun u hu => ?_)⟩
 ·show (l.map (·.1)).length < _; rw [List.length_map]; exact hl
 ·show (l.map (·.2)).length < _; rw [List.length_map]; exact hl
 ·obtain ⟨p, hp, rfl⟩ := List.mem_map.1 (show u ∈ l.map (·.2) from hu)
  exact h p hp
theorem mems_nodes (t : Tree) : (mems t).length ≤ nodes t := by
 have h1 := mems_lev t
 have h2 := nodes_eq t
 have h3 := nodesL_len t.v; omega
theorem fine_memV {t : Tree} (h : fineT t) (x : ByteArray) : fineT (memV t x) := by
 cases hb : memB t x with
 | true => exact fine_mem ((fine_eq t).1 h).2 (mem_cutV hb)
 | false => rw [memV_zero hb]; exact (fine_eq _).2 ⟨⟨Ok.nil, by decide, by decide, by decide⟩, trivial⟩
theorem fine_setT {t v : Tree} (ht : fineT t) (hv : fineT v) (hn : nodes t < 100000000) (x : ByteArray) : fineT (setT t x v) := by
 have h1 := keys_ins x v (mems t)
 have h2 := mems_nodes t
 refine fine_objM (by omega) (fun p hp => ?_)
 rcases ins_mem hp with rfl | hp
 ·exact hv
 ·exact fine_mem ((fine_eq t).1 ht).2 (mems_in hp)
theorem fine_unsetT {t : Tree} (ht : fineT t) (hn : nodes t < 100000000) (x : ByteArray) : fineT (unsetT t x) := by
 unfold unsetT
 split
 ·have h1 := (del_sub x (mems t)).length_le
  have h2 := mems_nodes t
  exact fine_objM (by omega) (fun p hp => fine_mem ((fine_eq t).1 ht).2 (mems_in ((del_sub x _).subset hp)))
 ·exact ht
theorem fine_setP {v : Tree} (hv : fineT v) : ∀ (p : List ByteArray) {t : Tree}, fineT t → nodes t < 100000000 → fineT (setP p t v)
 | [], t, _, _ => hv
 | x :: p, t, h, hn => fine_setT h (fine_setP hv p (fine_memV h x) (Nat.lt_of_le_of_lt (memV_nodes' t x) hn)) hn x
theorem fine_unsetP : ∀ (p : List ByteArray) {t : Tree}, fineT t → nodes t < 100000000 → fineT (unsetP p t)
 | [], t, h, _ => h
 | [x], t, h, hn => fine_unsetT h hn x
 | x :: m :: p, t, h, hn => by
  rw [unsetP]
  split
  ·exact fine_setT h (fine_unsetP (m :: p) (fine_memV h x) (Nat.lt_of_le_of_lt (memV_nodes' t x) hn)) hn x
  ·exact h
theorem fine_getF {v : Tree} (h : fineT v) : ∀ (p : List ByteArray) , fineT (getF p v).1 := by
 intro p
 induction p generalizing v with
 | nil => exact h
 | cons x p ih =>
  rw [getF_cons]
  split
  ·exact ih (fine_memV h x)
  ·exact (fine_eq _).2 ⟨⟨Ok.nil, by decide, by decide, by decide⟩, trivial⟩
theorem fine_to {t v : Tree} (ht : fineT t) (hv : fineT v) (s : List (List ByteArray)) (hn : ∀ i, i ≤ s.length → nodes (apTo v t s i) < 100000000) : ∀ i, i ≤ s.length → fineT (apTo v t s i)
 | 0, _ => by simpa [apTo] using ht
 | i + 1, h => by
  have ih := fine_to ht hv s hn i (by omega)
  have h1 := hn i (by omega)
  rw [apTo_succ (by omega) (dflt .strs)]
  unfold apStep
  split
  ·exact fine_setP (fine_getF hv _) _ ih h1
  ·exact fine_unsetP _ ih h1
theorem to_nodes {t v : Tree} {l : List (List ByteArray)} (ht : validT t = true) (hv : validT v = true) (hc : checkF l = true) (i : Nat) (hi : i ≤ (normF l).length) : nodes (apTo v t (normF l) i) ≤ 200000 := by
 have h1 := apTo_more measNodes v t (normF l) (fun p hp => ((check_paths hc).2 p (normF_mem hp)).2) i
 have h2 := (valid_nodes ht).1
 have h3 := (valid_nodes hv).1
 have h4 := normF_len l
 have h5 := (check_paths hc).1
 have h6 : i * (nodes v + 63) ≤ 60 * (2000 + 63) := Nat.mul_le_mul (by omega) (by omega)
 omega
theorem to_weight {t v : Tree} {l : List (List ByteArray)} (ht : validT t = true) (hv : validT v = true) (hc : checkF l = true) (i : Nat) (hi : i ≤ (normF l).length) : weight (apTo v t (normF l) i) ≤ 1000000000 := by
 have h1 := apTo_more measWeight v t (normF l) (fun p hp => ((check_paths hc).2 p (normF_mem hp)).2) i
 have h2 := valid_weight ht
 have h3 := valid_weight hv
 have h4 := normF_len l
 have h5 := (check_paths hc).1
 have h6 : i * (weight v + 63) ≤ 60 * (4002000 + 63) := Nat.mul_le_mul (by omega) (by omega)
 omega
theorem fine_apply {t v : Tree} (ht : fineT t) (hv : fineT v) (l : List (List ByteArray)) (w : Int) : fineT (applyF t l (normF l) v w).1 := by
 have hz : fineT Tree.zero := (fine_eq _).2 ⟨⟨Ok.nil, by decide, by decide, by decide⟩, trivial⟩
 unfold applyF
 split
 ·exact hz
 ·rename_i hc
  split
  ·exact hz
  ·rw [← apTo_all]
   simp only [not_or, Bool.not_eq_false] at hc
   exact fine_to ht hv _ (fun i hi => by have := to_nodes hc.1 hc.2.1 hc.2.2 i hi; omega) _ (Nat.le_refl _)
mutual
def okT : Tree → Prop
 | .mk _ _ n _ _ v => Ok n.m ∧ okL v
def okL : List Tree → Prop
 | [] => True
 | t :: l => okT t ∧ okL l
end
mutual
theorem light_fine : ∀ (t : Tree) (m : Int), okT t → 0 ≤ lightF t m → fineT t ∧ nodes t ≤ m - lightF t m
 | .mk k b n s ks v, m, ho, h => by
  rw [lightF_eq] at h ⊢
  split at h
  ·omega
  ·rename_i h1
   split at h
   ·omega
   ·rename_i h2
    rw [if_neg h1, if_neg h2]
    have ih := lightL_fine v (m - 1) ho.2 h
    simp only [Tree.n, Tree.k, Tree.v, Tree.s] at h1
    refine ⟨(fine_eq _).2 ⟨⟨ho.1, ?_, ?_, ?_⟩, ih.1⟩, ?_⟩
    ·show n.m.length < _; omega
    ·show ks.length < _; omega
    ·show v.length < _; omega
    ·show ((1 + nodesL v : Nat) : Int) ≤ m - lightL v (m - 1)
     omega
theorem lightL_fine : ∀ (l : List Tree) (m : Int), okL l → 0 ≤ lightL l m → fineL l ∧ nodesL l ≤ m - lightL l m
 | [], m, _, h => ⟨trivial, by simp [nodesL, lightL]⟩
 | t :: l, m, ho, h => by
  simp only [lightL] at h ⊢
  split at h
  ·rename_i h0
   rw [if_pos h0]
   have hp : 0 ≤ lightF t m := by
    by_cases hq : 0 ≤ lightF t m
    ·exact hq
    ·rw [lightL_end (.inr (by omega))] at h; omega
   have h1 := light_fine t m ho.1 hp
   have h2 := lightL_fine l (lightF t m) ho.2 h
   refine ⟨⟨h1.1, h2.1⟩, ?_⟩
   show ((nodes t + nodesL l : Nat) : Int) ≤ _
   omega
  ·omega
end
theorem short_in {l : List (List ByteArray)} (h : shortF l = true) : l.length ≤ 70 ∧ ∀ p ∈ l, p.length ≤ 80 ∧ ∀ x ∈ p, x.size ≤ 2100 := by
 unfold shortF at h
 rw [Bool.and_eq_true] at h
 have h1 := of_decide_eq_true h.2
 refine ⟨by omega, fun p hp => ?_⟩
 obtain ⟨i, hi, rfl⟩ := List.mem_iff_getElem.1 hp
 have h2 := List.all_eq_true.1 h.1 i (by simp; omega)
 have e : l.getD i (dflt .strs) = l[i] := by rw [List.getD_eq_getElem?_getD, List.getElem?_eq_getElem hi]; rfl
 rw [e] at h2
 unfold shP at h2
 rw [Bool.and_eq_true] at h2
 have h3 := of_decide_eq_true h2.1
 refine ⟨by omega, fun x hx => ?_⟩
 obtain ⟨j, hj, rfl⟩ := List.mem_iff_getElem.1 hx
 have h4 := of_decide_eq_true (List.all_eq_true.1 h2.2 j (by simpa using hj))
 have e2 : l[i].getD j (dflt .str) = l[i][j] := by rw [List.getD_eq_getElem?_getD, List.getElem?_eq_getElem hj]; rfl
 rw [e2] at h4; omega
def walkF (t : Tree) (d n : Int) : Int := if (chk t d (2000 - n)).1 = true then 2000 - (chk t d (2000 - n)).2 else -1
structure WalkJ (v : List Tree) (d n0 : Int) (i : Nat) (n : Int) : Prop where
 le : i ≤ v.length
 lo : -1 ≤ n
 hi : n ≤ 2000
 eq : if n ≥ 0 then chkL (v.drop i) (d + 1) (2000 - n) = chkL v (d + 1) (2000 - n0) else (chkL v (d + 1) (2000 - n0)).1 = false
theorem WalkJ.start {v : List Tree} {d n : Int} (h0 : 0 ≤ n) (h1 : n ≤ 2000) : WalkJ v d n 0 n := ⟨Nat.zero_le _, by omega, h1, by rw [if_pos h0]; rfl⟩
theorem walkF_in (t : Tree) {d n : Int} (h : n ≤ 2000) (h0 : 0 ≤ n) : -1 ≤ walkF t d n ∧ walkF t d n ≤ 2000 := by
 unfold walkF
 have h1 := chk_le t d (2000 - n) (by omega)
 split
 ·rename_i hc
  have := h1.2 hc; omega
 ·omega
theorem WalkJ.on {v : List Tree} {d n0 n : Int} {i : Nat} (h : WalkJ v d n0 i n) (hi : i < v.length) (hn : n ≥ 0) : WalkJ v d n0 (i + 1) (walkF (v.getD i (dflt .tree)) (d + 1) n) := by
 have hq := walkF_in (v.getD i (dflt .tree)) (d := d + 1) h.hi hn
 refine ⟨by omega, hq.1, hq.2, ?_⟩
 have he := h.eq
 rw [if_pos hn] at he
 unfold walkF
 by_cases hc : (chk (v.getD i (dflt .tree)) (d + 1) (2000 - n)).1 = true
 ·have h1 := chk_le (v.getD i (dflt .tree)) (d + 1) (2000 - n) (by have := h.hi; omega)
  have h2 := h.hi
  rw [if_pos hc, if_pos (by omega), show 2000 - (2000 - (chk (v.getD i (dflt .tree)) (d + 1) (2000 - n)).2) = (chk (v.getD i (dflt .tree)) (d + 1) (2000 - n)).2 by omega, ← chkL_yes hi hc]
  exact he
 ·rw [if_neg hc, if_neg (by omega), ← he, chkL_no hi (by simpa using hc)]
theorem WalkJ.fin {t : Tree} {d n0 n : Int} {i : Nat} (h : WalkJ t.v d (n0 + 1) i n) (hi : ¬ (i < t.v.length ∧ n ≥ 0)) (h1 : n0 + 1 ≤ 2000) (h2 : d ≤ 64) (h3 : ownO t = true) : n = walkF t d n0 := by
 have he := h.eq
 unfold walkF
 rw [chk_eq, if_neg (c := 2000 - n0 - 1 < 0 ∨ d > 64 ∨ ownO t = false) (by rintro (a | a | a); omega; omega; rw [h3] at a; cases a), show 2000 - n0 - 1 = 2000 - (n0 + 1) by omega]
 by_cases hn : n ≥ 0
 ·rw [if_pos hn, List.drop_of_length_le (by omega), chkL] at he
  rw [← he, if_pos rfl]; show n = 2000 - (2000 - n); omega
 ·rw [if_neg hn] at he
  rw [if_neg (by rw [he]; decide)]
  have := h.lo; omega
theorem walk_no {t : Tree} {d n : Int} (h : n + 1 > 2000 ∨ d > 64 ∨ ownO t = false) : walkF t d n = -1 := by
 unfold walkF
 rw [chk_eq, if_pos (c := 2000 - n - 1 < 0 ∨ d > 64 ∨ ownO t = false) (by rcases h with h | h | h; exact .inl (by omega); exact .inr (.inl h); exact .inr (.inr h))]
 rfl
theorem walk_valid (t : Tree) : decide (walkF t 1 0 ≥ 0) = validT t := by
 unfold walkF validT
 have h := chk_le t 1 2000 (by decide)
 rw [show (2000 : Int) - 0 = 2000 from rfl]
 cases hc : (chk t 1 2000).1 with
 | true => rw [if_pos rfl, decide_eq_true (by omega)]
 | false => rw [if_neg (by decide)]; rfl
def bN (s : ByteArray) (i : Nat) : Nat := ((s.data[i]?).getD 0).toNat
theorem byteAt_bN (s : ByteArray) (i : Nat) : byteAt s (i : Int) = (bN s i : Int) := rfl
theorem bN_lt (s : ByteArray) (i : Nat) : bN s i < 256 := by unfold bN; exact UInt8.toNat_lt _
theorem bN_get (s : ByteArray) (i : Nat) : (s.get! i).toNat = bN s i := by
 unfold bN
 show (s.data[i]!).toNat = _
 rw [getElem!_def]
 cases h : s.data[i]? <;> rfl
def contB (s : ByteArray) (i : Nat) : Bool := decide (i < s.size) && (bN s i / 64 == 2)
def rune2 (s : ByteArray) (i : Nat) : Nat := bN s i % 32 * 64 + bN s (i + 1) % 64
def rune3 (s : ByteArray) (i : Nat) : Nat := bN s i % 16 * 4096 + bN s (i + 1) % 64 * 64 + bN s (i + 2) % 64
def rune4 (s : ByteArray) (i : Nat) : Nat := bN s i % 8 * 262144 + bN s (i + 1) % 64 * 4096 + bN s (i + 2) % 64 * 64 + bN s (i + 3) % 64
def c2B (s : ByteArray) (i : Nat) : Bool := decide ((bN s i : Int) ≥ 194) && (decide ((bN s i : Int) < 224) && contB s (i + 1))
def c3B (s : ByteArray) (i : Nat) : Bool := decide ((bN s i : Int) ≥ 224) && (decide ((bN s i : Int) < 240) && (contB s (i + 1) && contB s (i + 2)))
def c4B (s : ByteArray) (i : Nat) : Bool := decide ((bN s i : Int) ≥ 240) && (decide ((bN s i : Int) < 245) && (contB s (i + 1) && (contB s (i + 2) && contB s (i + 3))))
def runeF (s : ByteArray) (i : Nat) : Int × Int :=
 if bN s i < 128 then ((bN s i : Int), 1)
 else if c2B s i = true then ((rune2 s i : Int), 2)
 else if c3B s i = true then (if 2048 ≤ rune3 s i ∧ (rune3 s i < 55296 ∨ 57343 < rune3 s i) then ((rune3 s i : Int), 3) else (-1, 1))
 else if c4B s i = true then (if 65536 ≤ rune4 s i ∧ rune4 s i ≤ 1114111 then ((rune4 s i : Int), 4) else (-1, 1))
 else (-1, 1)
theorem rune_in (s : ByteArray) (i : Nat) : 1 ≤ (runeF s i).2 ∧ (runeF s i).2 ≤ 4 := by
 unfold runeF
 (repeat' split) <;> simp
theorem rune_dec (s : ByteArray) (i : Nat) (h : i < s.size) : (runeF s i).2 = ((Utf8.decode s i).2 : Int) ∧ ((runeF s i).1 < 0 ↔ (Utf8.decode s i).1 = 65533 ∧ (Utf8.decode s i).2 = 1) := by
 have b0 := bN_lt s i
 unfold runeF c2B c3B c4B Utf8.decode rune2 rune3 rune4 contB
 simp only [bN_get, Nat.add_zero, Utf8.runeError, Utf8.valid]
 rw [show (decide ((bN s i : Int) ≥ 194)) = decide (194 ≤ bN s i) from by simp; omega, show (decide ((bN s i : Int) < 224)) = decide (bN s i < 224) from by simp; omega, show (decide ((bN s i : Int) ≥ 224)) = decide (224 ≤ bN s i) from by simp; omega, show (decide ((bN s i : Int) < 240)) = decide (bN s i < 240) from by simp; omega, show (decide ((bN s i : Int) ≥ 240)) = decide (240 ≤ bN s i) from by simp; omega, show (decide ((bN s i : Int) < 245)) = decide (bN s i < 245) from by simp; omega]
 generalize bN s i = x at *
 generalize bN s (i + 1) = y at *
 generalize bN s (i + 2) = z at *
 generalize bN s (i + 3) = u at *
 generalize hA : (decide (i + 1 < s.size) && y / 64 == 2) = A at *
 generalize hB : (decide (i + 2 < s.size) && z / 64 == 2) = B at *
 generalize hC : (decide (i + 3 < s.size) && u / 64 == 2) = C at *
 clear hA hB hC h
 have e2 : ∀ (p q : Prop) [Decidable p] [Decidable q] (D : Bool), ((decide p && (decide q && D)) = true) = (p ∧ q ∧ D = true) := by intros; simp
 simp only [e2]
 by_cases h0 : x < 128
 ·rw [if_pos h0, if_pos h0]
  refine ⟨rfl, ⟨fun h => ?_, fun h => ?_⟩⟩
  ·simp at h; omega
  ·simp at h; omega
 ·rw [if_neg h0, if_neg h0]
  cases A
  ·simp
  ·by_cases h2 : x / 32 = 6
   ·by_cases h3 : 194 ≤ x
    ·rw [if_pos ⟨h3, by omega, rfl⟩, if_pos (by simpa using h2), if_pos (by omega)]
     refine ⟨rfl, ⟨fun h => ?_, fun h => ?_⟩⟩
     ·simp at h; omega
     ·simp at h
    ·rw [if_neg (by omega), if_neg (by omega), if_neg (by omega), if_pos (by simpa using h2), if_neg (by omega)]
     simp
   ·rw [if_neg (by omega), if_neg (c := ((x / 32 == 6 && true) = true)) (by simpa using h2)]
    cases B
    ·simp
    ·by_cases h4 : x / 16 = 14
     ·rw [if_pos ⟨by omega, by omega, rfl⟩, if_pos (c := ((x / 16 == 14 && true && true) = true)) (by simpa using h4)]
      by_cases h5 : 2048 ≤ x % 16 * 4096 + y % 64 * 64 + z % 64 ∧ (x % 16 * 4096 + y % 64 * 64 + z % 64 < 55296 ∨ 57343 < x % 16 * 4096 + y % 64 * 64 + z % 64)
      ·rw [if_pos h5, if_pos (by simp; omega)]
       refine ⟨rfl, ⟨fun h => ?_, fun h => ?_⟩⟩
       ·simp at h; omega
       ·simp at h
      ·rw [if_neg h5, if_neg (by simp; omega)]
       simp
     ·rw [if_neg (by omega), if_neg (c := ((x / 16 == 14 && true && true) = true)) (by simpa using h4)]
      cases C
      ·simp
      ·by_cases h6 : x / 8 = 30
       ·rw [if_pos (c := ((x / 8 == 30 && true && true && true) = true)) (by simpa using h6)]
        by_cases h7 : x < 245
        ·rw [if_pos ⟨by omega, h7, rfl⟩]
         by_cases h8 : 65536 ≤ x % 8 * 262144 + y % 64 * 4096 + z % 64 * 64 + u % 64 ∧ x % 8 * 262144 + y % 64 * 4096 + z % 64 * 64 + u % 64 ≤ 1114111
         ·rw [if_pos h8, if_pos (by simp; omega)]
          refine ⟨rfl, ⟨fun h => ?_, fun h => ?_⟩⟩
          ·simp at h; omega
          ·simp at h
         ·rw [if_neg h8, if_neg (by simp; omega)]
          simp
        ·rw [if_neg (by omega), if_neg (by simp; omega)]
         simp
       ·rw [if_neg (by omega), if_neg (c := ((x / 8 == 30 && true && true && true) = true)) (by simpa using h6)]
        simp
def runesF (s : ByteArray) : Nat → Nat → List Int
 | 0, _ => []
 | b + 1, i => if i < s.size then (runeF s i).1 :: runesF s b (i + (runeF s i).2.toNat) else []
theorem runes_end (s : ByteArray) (b i : Nat) (h : ¬ i < s.size) : runesF s b i = [] := by
 cases b with
 | zero => rfl
 | succ b => rw [runesF, if_neg h]
theorem runes_valid (s : ByteArray) : ∀ b i, ((runesF s b i).all fun r => decide (0 ≤ r)) = X.validAt s b i
 | 0, i => rfl
 | b + 1, i => by
  rw [runesF, X.validAt]
  split
  ·rename_i h
   obtain ⟨h1, h2⟩ := rune_dec s i h
   have e : (runeF s i).2.toNat = (Utf8.decode s i).2 := by omega
   rw [List.all_cons, e, runes_valid s b]
   by_cases hr : (Utf8.decode s i).1 = 65533
   ·rw [if_pos hr]
    by_cases hk : (Utf8.decode s i).2 = 1
    ·rw [if_pos hk, decide_eq_false (by have := h2.2 ⟨hr, hk⟩; omega)]; rfl
    ·rw [if_neg hk, decide_eq_true (by
      by_cases hq : (runeF s i).1 < 0
      ·exact absurd (h2.1 hq).2 hk
      ·omega)]; rfl
   ·rw [if_neg hr, decide_eq_true (by
     by_cases hq : (runeF s i).1 < 0
     ·exact absurd (h2.1 hq).1 hr
     ·omega)]; rfl
  ·rfl
structure RunJ (s : ByteArray) (i : Nat) (acc : List Int) : Prop where
 len : acc.length ≤ i
 le : i ≤ s.size + 4
 eq : ∃ b, acc ++ runesF s b i = runesF s s.size 0 ∧ s.size ≤ i + b
theorem RunJ.start (s : ByteArray) : RunJ s 0 [] := ⟨Nat.zero_le _, Nat.zero_le _, s.size, rfl, by omega⟩
theorem RunJ.on {s : ByteArray} {i : Nat} {acc : List Int} (h : RunJ s i acc) (hi : i < s.size) : RunJ s (i + (runeF s i).2.toNat) (acc ++ [(runeF s i).1]) := by
 obtain ⟨h1, h2, b, h3, h4⟩ := h
 have hr := rune_in s i
 obtain ⟨c, rfl⟩ : ∃ c, b = c + 1 := ⟨b - 1, by omega⟩
 refine ⟨by simp; omega, by omega, c, ?_, by omega⟩
 rw [runesF, if_pos hi] at h3
 rw [List.append_assoc]; exact h3
theorem RunJ.fin {s : ByteArray} {i : Nat} {acc : List Int} (h : RunJ s i acc) (hi : ¬ i < s.size) : acc = runesF s s.size 0 := by
 obtain ⟨_, _, b, h3, _⟩ := h
 rw [runes_end s b i hi, List.append_nil] at h3; exact h3
theorem runes_len (s : ByteArray) : ∀ b i, (runesF s b i).length ≤ b
 | 0, i => Nat.le_refl _
 | b + 1, i => by
  rw [runesF]
  split
  ·have := runes_len s b (i + (runeF s i).2.toNat); simp; omega
  ·simp
theorem valid_no {s : ByteArray} {j : Nat} (hj : j < (runesF s s.size 0).length) (h : (runesF s s.size 0).getD j (dflt (.int .i32)) < 0) : X.validAt s s.size 0 = false := by
 rw [← runes_valid, List.all_eq_false]
 exact ⟨_, getD_mem hj (dflt (.int .i32)), by simpa using h⟩
theorem valid_yes {s : ByteArray} (h : ∀ j, j < (runesF s s.size 0).length → ¬ (runesF s s.size 0).getD j (dflt (.int .i32)) < 0) : X.validAt s s.size 0 = true := by
 rw [← runes_valid, List.all_eq_true]
 intro x hx
 obtain ⟨j, hj, rfl⟩ := List.mem_iff_getElem.1 hx
 have h1 := h j hj
 rw [List.getD_eq_getElem?_getD, List.getElem?_eq_getElem hj] at h1
 simp only [Option.getD_some] at h1
 simp; omega
theorem wrap32 {n : Int} (h0 : 0 ≤ n) (h1 : n < 2147483648) : IntKind.wrap .i32 n = n := by
 simp only [IntKind.wrap, IntKind.bits, IntKind.signed]
 simp; omega
theorem or32 (k : Nat) {a b : Nat} (hb : b < 2 ^ k) (h : a * 2 ^ k + b < 2147483648) : bitsOr .i32 ((a * 2 ^ k : Nat) : Int) (b : Int) = ((a * 2 ^ k + b : Nat) : Int) := by
 unfold bitsOr
 have hb' : IntKind.bits .i32 = 32 := rfl
 rw [hb']
 have e2 : (BitVec.ofInt 32 ((a * 2 ^ k : Nat) : Int) ||| BitVec.ofInt 32 (b : Int)).toNat = a * 2 ^ k + b := by
  rw [BitVec.ofInt_natCast, BitVec.ofInt_natCast, BitVec.toNat_or, BitVec.toNat_ofNat, BitVec.toNat_ofNat, Nat.mod_eq_of_lt (by omega), Nat.mod_eq_of_lt (by omega)]
  have := Nat.shiftLeft_add_eq_or_of_lt (i := k) (b := b) hb a
  rw [Nat.shiftLeft_eq] at this
  exact this.symm
 rw [e2, wrap32 (by omega) (by omega)]
theorem and_i32 : ∀ b : Nat, b < 256 → bitsAnd .i32 (b : Int) 31 = ((b % 32 : Nat) : Int) ∧ bitsAnd .i32 (b : Int) 15 = ((b % 16 : Nat) : Int) ∧ bitsAnd .i32 (b : Int) 7 = ((b % 8 : Nat) : Int) := by decide +kernel
theorem and_u8 : ∀ b : Nat, b < 256 → bitsAnd .u8 (b : Int) 63 = ((b % 64 : Nat) : Int) ∧ (bitsAnd .u8 (b : Int) 192 == 128) = (b / 64 == 2) := by decide +kernel
theorem shl32 {x : Nat} (k : Nat) (h : x * 2 ^ k < 2147483648) : IntKind.wrap .i32 ((x : Int) * 2 ^ k) = ((x * 2 ^ k : Nat) : Int) := by
 have e : ((x : Int) * 2 ^ k) = ((x * 2 ^ k : Nat) : Int) := by simp
 rw [e, wrap32 (by omega) (by omega)]
open Go.Proofs.Tryz
theorem contB_lt {s : ByteArray} {k : Nat} (h : contB s k = true) : k < s.size := by
 unfold contB at h; rw [Bool.and_eq_true] at h; exact of_decide_eq_true h.1
theorem cont_in {s : ByteArray} {at_ : Int} {k : Nat} (h : at_ = k) : (bitsAnd .u8 (byteAt s at_) 192 == 128) = (bN s k / 64 == 2) := by
 subst h; rw [byteAt_bN]; exact (and_u8 _ (bN_lt s k)).2
theorem b32 (s : ByteArray) (i : Nat) : IntKind.wrap .i32 (byteAt s (i : Int)) = (bN s i : Int) := by
 rw [byteAt_bN]; have := bN_lt s i; exact wrap32 (by omega) (by omega)
theorem low6 {s : ByteArray} {at_ : Int} {k : Nat} (h : at_ = k) : IntKind.wrap .i32 (bitsAnd .u8 (byteAt s at_) 63) = ((bN s k % 64 : Nat) : Int) := by
 subst h
 rw [byteAt_bN, (and_u8 _ (bN_lt s k)).1]
 exact wrap32 (by omega) (by omega)
theorem p6 : (2 : Nat) ^ 6 = 64 := rfl
theorem p12 : (2 : Nat) ^ 12 = 4096 := rfl
theorem p18 : (2 : Nat) ^ 18 = 262144 := rfl
theorem mul_lo (X y : Nat) : X * 2 ^ 12 + y * 2 ^ 6 = (X * 64 + y) * 2 ^ 6 := by rw [p12, p6]; omega
theorem rune2_eq (s : ByteArray) (i : Nat) : bitsOr .i32 (IntKind.wrap .i32 ((bitsAnd .i32 (bN s i : Int) 31) * 2 ^ 6)) (IntKind.wrap .i32 (bitsAnd .u8 (byteAt s ((i : Int) + 1)) 63)) = (rune2 s i : Int) := by
 have h := bN_lt s i
 rw [low6 (k := i + 1) (by omega), (and_i32 _ h).1, shl32 6 (by omega), or32 6 (by omega) (by omega)]; rfl
theorem rune3_eq (s : ByteArray) (i : Nat) : bitsOr .i32 (bitsOr .i32 (IntKind.wrap .i32 ((bitsAnd .i32 (bN s i : Int) 15) * 2 ^ 12)) (IntKind.wrap .i32 ((IntKind.wrap .i32 (bitsAnd .u8 (byteAt s ((i : Int) + 1)) 63)) * 2 ^ 6))) (IntKind.wrap .i32 (bitsAnd .u8 (byteAt s ((i : Int) + 2)) 63)) = (rune3 s i : Int) := by
 have h := bN_lt s i
 rw [low6 (k := i + 1) (by omega), low6 (k := i + 2) (by omega), (and_i32 _ h).2.1, shl32 12 (by rw [p12]; omega), shl32 6 (by omega), or32 12 (by rw [p12]; omega) (by rw [p12]; omega)]
 have e : bN s i % 16 * 2 ^ 12 + bN s (i + 1) % 64 * 2 ^ 6 = (bN s i % 16 * 64 + bN s (i + 1) % 64) * 2 ^ 6 := mul_lo _ _
 rw [e, or32 6 (by omega) (by omega)]
 unfold rune3; omega
theorem rune4_eq (s : ByteArray) (i : Nat) : bitsOr .i32 (bitsOr .i32 (bitsOr .i32 (IntKind.wrap .i32 ((bitsAnd .i32 (bN s i : Int) 7) * 2 ^ 18)) (IntKind.wrap .i32 ((IntKind.wrap .i32 (bitsAnd .u8 (byteAt s ((i : Int) + 1)) 63)) * 2 ^ 12))) (IntKind.wrap .i32 ((IntKind.wrap .i32 (bitsAnd .u8 (byteAt s ((i : Int) + 2)) 63)) * 2 ^ 6))) (IntKind.wrap .i32 (bitsAnd .u8 (byteAt s ((i : Int) + 3)) 63)) = (rune4 s i : Int) := by
 have h := bN_lt s i
 rw [low6 (k := i + 1) (by omega), low6 (k := i + 2) (by omega), low6 (k := i + 3) (by omega), (and_i32 _ h).2.2, shl32 18 (by rw [p18]; omega), shl32 12 (by rw [p12]; omega), shl32 6 (by omega), or32 18 (by rw [p18]; omega) (by rw [p18]; omega)]
 have e : bN s i % 8 * 2 ^ 18 + bN s (i + 1) % 64 * 2 ^ 12 = (bN s i % 8 * 64 + bN s (i + 1) % 64) * 2 ^ 12 := by rw [p18, p12, Nat.add_mul, Nat.mul_assoc]
 rw [e, or32 12 (by rw [p12]; omega) (by rw [p12]; omega)]
 have e2 : (bN s i % 8 * 64 + bN s (i + 1) % 64) * 2 ^ 12 + bN s (i + 2) % 64 * 2 ^ 6 = ((bN s i % 8 * 64 + bN s (i + 1) % 64) * 64 + bN s (i + 2) % 64) * 2 ^ 6 := mul_lo _ _
 rw [e2, or32 6 (by omega) (by omega)]
 unfold rune4; omega
theorem con276 (s : ByteArray) (at_ : Int) (k : Nat) (hk : at_ = k) : Con Tryz.prog I0 276 [vs s, vi at_] (.val (vb (contB s k))) := by
 refine con_of Tryz.func276 rfl (Nat.le_of_ble_eq_true rfl) stab (fun w0 fz a hI hs => ?_)
 rcases bt (decide (at_ < (s.size : Int))) with b1 | b1
 ·skip
  have n1 := of_decide_eq_true b1
  refine wL hs hI [(1, ⟨[], gg [5, 6, 7, 8, 9, 1010] [], []⟩)] [] [4] [] ((True ∧ True) ∧ ((tr 5 (rp 2 b1 ((ty b1) ∧ (0 ≤ at_ ∧ at_ < s.size) ∧ (rp 3 b1 True)))) ∧ True)) .ret [(4, vb ((bitsAnd .u8 (byteAt s at_) 192) == 128))] [] ⟨tv, tv⟩ (by kernel_rfl) ⟨⟨tv, tv⟩, tr_mk (rp_mk (⟨b1, (by omega), rp_mk (tv) 3⟩) 2) 5, tv⟩ (fun a w hs => ?_)
  exact FnQ_cast (out := .val (vb ((bitsAnd .u8 (byteAt s at_) 192) == 128))) (by unfold contB; rw [← cont_in (s := s) hk, show decide (k < s.size) = true from by simp; omega]; simp_all) (ret_ok [] hs ⟨by kernel_rfl, rfl⟩)
 ·skip
  have n1 := of_decide_eq_false b1
  refine wL hs hI [(1, ⟨[], gg [] [5, 6, 7, 8, 9, 1010], []⟩)] [] [4] [] ((True ∧ True) ∧ ((tr 5 ((ty b1) ∧ (ty b1) ∧ (ty b1) ∧ (ty b1) ∧ (ty b1) ∧ (ty b1) ∧ True ∧ True)) ∧ True)) .ret [(4, vb false)] [] ⟨tv, tv⟩ (by kernel_rfl) ⟨⟨tv, tv⟩, tr_mk (⟨b1, b1, b1, b1, b1, b1, tv, tv⟩) 5, tv⟩ (fun a w hs => ?_)
  exact FnQ_cast (out := .val (vb false)) (by unfold contB; rw [← cont_in (s := s) hk, show decide (k < s.size) = false from by simp; omega]; simp_all) (ret_ok [] hs ⟨by kernel_rfl, rfl⟩)
theorem con261 (s : ByteArray) (i : Nat) (hi : i < s.size) (hz : s.size < 4294967281) : Con Tryz.prog I0 261 [vs s, vi (i : Int)] (.val (.tup [.lit (.int .i32 ((runeF s i).1)), vi ((runeF s i).2)])) := by
 refine con_of Tryz.func261 rfl (Nat.le_of_ble_eq_true rfl) stab (fun w0 fz a hI hs => ?_)
 refine wp_seq ?_
 refine wN hs hI [] [0, 1] [] (True ∧ (True ∧ True)) .norm [(0, vs s), (1, vi (i : Int))] [] (by kernel_rfl) ⟨tv, tv, tv⟩ (fun a w hs => ?_)
 refine then_norm ?_
 refine wp_seq ?_
 have b1 : (decide ((i : Int) < 0)) = false := by exact decide_eq_false (by omega)
 have b2 : (decide ((i : Int) ≥ (s.size : Int))) = false := by exact decide_eq_false (by omega)
 refine wL hs hI [(1, ⟨[], gg [3, 4, 5, 6] [1007], []⟩)] [false] [0, 1] [] ((tr 3 (rp 4 b1 ((ty b1) ∧ True))) ∧ ((ty b2) ∧ True)) .norm [(0, vs s), (1, vi (i : Int))] [] ⟨tv, tv⟩ (by kernel_rfl) ⟨tr_mk (rp_mk (⟨b1, tv⟩) 4) 3, b2, tv⟩ (fun a w hs => ?_)
 refine then_norm ?_
 refine wp_cut (N := Tryz.f261.ntmps) (w0 := w0) (ow := noO fz) (T := [(0, vs s), (1, vi (i : Int)), (6, .lit (.int .i32 (bN s i : Int)))]) (B := []) (True) ?_ ?_
 ·skip
  refine wN hs hI [] [0, 1, 6] [] (True ∧ (True ∧ (0 ≤ (i : Int) ∧ (i : Int) < s.size) ∧ True ∧ True ∧ True)) .norm [(0, vs s), (1, vi (i : Int)), (6, .lit (.int .i32 (IntKind.wrap .i32 (byteAt s (i : Int)))))] [] (by kernel_rfl) ⟨tv, tv, (by omega), tv, tv, tv⟩ (fun a w hs => ?_)
  refine then_norm ⟨trivial, ?_⟩
  (have e0_ : (IntKind.wrap .i32 (byteAt s (i : Int))) = ((bN s i : Int)) := (by first | rfl | (exact b32 s i)); exact (hs.cst [(0, vs s), (1, vi (i : Int)), (6, .lit (.int .i32 (bN s i : Int)))] [] (by first | rfl | (rw [e0_]; done) | (simp only [e0_]; done) | (simp only [e0_]; rfl))).rm [] (by kernel_rfl))
 ·intro hF a w hs
  refine wp_seq ?_
  refine wp_block ?_
  refine wp_seq ?_
  refine wN hs hI [] [0, 1, 6, 21] [] (tr 3 True) .norm [(0, vs s), (1, vi (i : Int)), (6, .lit (.int .i32 (bN s i : Int))), (21, vb (decide ((bN s i : Int) < 128)))] [] (by kernel_rfl) (tr_mk tv 3) (fun a w hs => ?_)
  refine then_norm ?_
  refine cond_L (c := 21) hs (b := decide ((bN s i : Int) < 128)) rfl (fun hb => ?_) (fun hb => ?_)
  ·have b3 := hb
   clear hb
   have n3 := of_decide_eq_true b3
   refine wN hs hI [] [4, 5] [] ((tr 3 True) ∧ True) .ret [(4, .lit (.int .i32 (bN s i : Int))), (5, vi 1)] [] (by kernel_rfl) ⟨tr_mk tv 3, tv⟩ (fun a w hs => ?_)
   refine inb_ret ?_
   refine then_ret ?_
   exact FnQ_cast (out := .val (.tup [.lit (.int .i32 (bN s i : Int)), vi 1])) (by rw [runeF, if_pos (by omega)]) (ret_ok [] hs ⟨by kernel_rfl, rfl⟩)
  ·have b4 := hb
   clear hb
   have n4 := of_decide_eq_false b4
   refine wp_cut (N := Tryz.f261.ntmps) (w0 := w0) (ow := noO fz) (T := [(0, vs s), (1, vi (i : Int)), (6, .lit (.int .i32 (bN s i : Int))), (25, vb (c2B s i))]) (B := []) (True) ?_ ?_
   ·skip
    rcases bt (decide ((bN s i : Int) ≥ 194)) with b5 | b5
    ·skip
     have n5 := of_decide_eq_true b5
     rcases bt (decide ((bN s i : Int) < 224)) with b6 | b6
     ·skip
      have n6 := of_decide_eq_true b6
      refine wL hs hI [(6, ⟨[(10, ciA 276 [vs s, vi ((i : Int) + 1)] [] [] (.val (vb (contB s (i + 1)))))], gg [3, 4, 1005, 7, 8, 9, 10, 1011] [], []⟩)] [] [0, 1, 6, 25] [] (tr 3 (rp 3 b5 (rp 2 b6 ((ty b6) ∧ (InR .i64 ((i : Int) + 1)) ∧ (ty b6) ∧ (okArgs [vs s, vi ((i : Int) + 1)]) ∧ (ty b6) ∧ True ∧ True)))) .norm [(0, vs s), (1, vi (i : Int)), (6, .lit (.int .i32 (bN s i : Int))), (25, vb (contB s (i + 1)))] [] ⟨⟨⟨ent276, con276 _ _ (i + 1) (by omega)⟩, tv⟩, tv⟩ (by kernel_rfl) (tr_mk (rp_mk (rp_mk (⟨b6, (inR64 (by omega) (by omega)), b6, rfl, b6, tv, tv⟩) 2) 3) 3) (fun a w hs => ?_)
      refine then_norm ⟨trivial, ?_⟩
      (have e0_ : (contB s (i + 1)) = (c2B s i) := (by first | rfl | (simp [c2B, b5, b6])); exact (hs.cst [(0, vs s), (1, vi (i : Int)), (6, .lit (.int .i32 (bN s i : Int))), (25, vb (c2B s i))] [] (by first | rfl | (rw [e0_]; done) | (simp only [e0_]; done) | (simp only [e0_]; rfl))).rm [] (by kernel_rfl))
     ·skip
      have n6 := of_decide_eq_false b6
      refine wL hs hI [(6, ⟨[], gg [3, 4, 1005] [7, 8, 9, 10, 1011], []⟩)] [] [0, 1, 6, 25] [] (tr 3 (rp 3 b5 ((ty b6) ∧ (ty b6) ∧ (ty b6) ∧ (ty b6) ∧ (ty b6) ∧ True ∧ True))) .norm [(0, vs s), (1, vi (i : Int)), (6, .lit (.int .i32 (bN s i : Int))), (25, vb false)] [] ⟨tv, tv⟩ (by kernel_rfl) (tr_mk (rp_mk (⟨b6, b6, b6, b6, b6, tv, tv⟩) 3) 3) (fun a w hs => ?_)
      refine then_norm ⟨trivial, ?_⟩
      (have e0_ : (false) = (c2B s i) := (by first | rfl | (simp [c2B, b5, b6])); exact (hs.cst [(0, vs s), (1, vi (i : Int)), (6, .lit (.int .i32 (bN s i : Int))), (25, vb (c2B s i))] [] (by first | rfl | (rw [e0_]; done) | (simp only [e0_]; done) | (simp only [e0_]; rfl))).rm [] (by kernel_rfl))
    ·skip
     have n5 := of_decide_eq_false b5
     refine wL hs hI [(6, ⟨[], gg [] [3, 4, 1005, 7, 8, 9, 10, 1011], []⟩)] [] [0, 1, 6, 25] [] (tr 3 ((ty b5) ∧ (ty b5) ∧ (ty b5) ∧ True ∧ (false = false) ∧ (false = false) ∧ (false = false) ∧ (false = false) ∧ (false = false) ∧ True ∧ True)) .norm [(0, vs s), (1, vi (i : Int)), (6, .lit (.int .i32 (bN s i : Int))), (25, vb false)] [] ⟨tv, tv⟩ (by kernel_rfl) (tr_mk (⟨b5, b5, b5, tv, rfl, rfl, rfl, rfl, rfl, tv, tv⟩) 3) (fun a w hs => ?_)
     refine then_norm ⟨trivial, ?_⟩
     (have e0_ : (false) = (c2B s i) := (by first | rfl | (simp [c2B, b5])); exact (hs.cst [(0, vs s), (1, vi (i : Int)), (6, .lit (.int .i32 (bN s i : Int))), (25, vb (c2B s i))] [] (by first | rfl | (rw [e0_]; done) | (simp only [e0_]; done) | (simp only [e0_]; rfl))).rm [] (by kernel_rfl))
   ·intro hF a w hs
    refine cond_L (c := 25) hs (b := c2B s i) rfl (fun hb => ?_) (fun hb => ?_)
    ·have b7 := hb
     clear hb
     have hc1 := contB_lt (s := s) (k := i + 1) (by have hq : c2B s i = true := (by assumption); simp only [c2B, Bool.and_eq_true] at hq; exact hq.2.2)
     refine wN hs hI [] [4, 5] [] ((tr 5 ((InR .i64 ((i : Int) + 1)) ∧ (0 ≤ ((i : Int) + 1) ∧ ((i : Int) + 1) < s.size) ∧ (tr 5 True))) ∧ True) .ret [(4, .lit (.int .i32 (bitsOr .i32 (IntKind.wrap .i32 ((bitsAnd .i32 (bN s i : Int) 31) * 2 ^ 6)) (IntKind.wrap .i32 (bitsAnd .u8 (byteAt s ((i : Int) + 1)) 63))))), (5, vi 2)] [] (by kernel_rfl) ⟨tr_mk (⟨(inR64 (by omega) (by omega)), (by omega), tr_mk tv 5⟩) 5, tv⟩ (fun a w hs => ?_)
     refine inb_ret ?_
     refine then_ret ?_
     exact FnQ_cast (out := .val (.tup [.lit (.int .i32 (bitsOr .i32 (IntKind.wrap .i32 ((bitsAnd .i32 (bN s i : Int) 31) * 2 ^ 6)) (IntKind.wrap .i32 (bitsAnd .u8 (byteAt s ((i : Int) + 1)) 63)))), vi 2])) (by rw [rune2_eq]; rw [runeF, if_neg (by omega), if_pos b7]) (ret_ok [] hs ⟨by kernel_rfl, rfl⟩)
    ·have b8 := hb
     clear hb
     refine wp_cut (N := Tryz.f261.ntmps) (w0 := w0) (ow := noO fz) (T := [(0, vs s), (1, vi (i : Int)), (6, .lit (.int .i32 (bN s i : Int))), (48, vb (c3B s i))]) (B := []) (True) ?_ ?_
     ·skip
      rcases bt (decide ((bN s i : Int) ≥ 224)) with b9 | b9
      ·skip
       have n9 := of_decide_eq_true b9
       rcases bt (decide ((bN s i : Int) < 240)) with b10 | b10
       ·skip
        have n10 := of_decide_eq_true b10
        rcases bt (contB s (i + 1)) with b11 | b11
        ·skip
         refine wL hs hI [(8, ⟨[(10, ciA 276 [vs s, vi ((i : Int) + 1)] [] [] (.val (vb (contB s (i + 1))))), (16, ciA 276 [vs s, vi ((i : Int) + 2)] [] [] (.val (vb (contB s (i + 2)))))], gg [3, 4, 1005, 7, 8, 9, 10, 1011, 13, 14, 15, 16, 1017] [], []⟩)] [] [0, 1, 6, 48] [] (tr 3 (rp 3 b9 (rp 2 b10 ((ty b10) ∧ (InR .i64 ((i : Int) + 1)) ∧ (ty b10) ∧ (okArgs [vs s, vi ((i : Int) + 1)]) ∧ (ty b10) ∧ True ∧ (rp 2 b11 ((ty b11) ∧ (InR .i64 ((i : Int) + 2)) ∧ (ty b11) ∧ (okArgs [vs s, vi ((i : Int) + 2)]) ∧ (ty b11) ∧ True ∧ True)))))) .norm [(0, vs s), (1, vi (i : Int)), (6, .lit (.int .i32 (bN s i : Int))), (48, vb (contB s (i + 2)))] [] ⟨⟨⟨ent276, con276 _ _ (i + 1) (by omega)⟩, ⟨⟨ent276, con276 _ _ (i + 2) (by omega)⟩, tv⟩⟩, tv⟩ (by kernel_rfl) (tr_mk (rp_mk (rp_mk (⟨b10, (inR64 (by omega) (by omega)), b10, rfl, b10, tv, rp_mk (⟨b11, (inR64 (by omega) (by omega)), b11, rfl, b11, tv, tv⟩) 2⟩) 2) 3) 3) (fun a w hs => ?_)
         refine then_norm ⟨trivial, ?_⟩
         (have e0_ : (contB s (i + 2)) = (c3B s i) := (by first | rfl | (simp [c3B, b9, b10, b11])); exact (hs.cst [(0, vs s), (1, vi (i : Int)), (6, .lit (.int .i32 (bN s i : Int))), (48, vb (c3B s i))] [] (by first | rfl | (rw [e0_]; done) | (simp only [e0_]; done) | (simp only [e0_]; rfl))).rm [] (by kernel_rfl))
        ·skip
         refine wL hs hI [(8, ⟨[(10, ciA 276 [vs s, vi ((i : Int) + 1)] [] [] (.val (vb (contB s (i + 1)))))], gg [3, 4, 1005, 7, 8, 9, 10, 1011] [13, 14, 15, 16, 1017], []⟩)] [] [0, 1, 6, 48] [] (tr 3 (rp 3 b9 (rp 2 b10 ((ty b10) ∧ (InR .i64 ((i : Int) + 1)) ∧ (ty b10) ∧ (okArgs [vs s, vi ((i : Int) + 1)]) ∧ (ty b10) ∧ True ∧ (ty b11) ∧ (ty b11) ∧ (ty b11) ∧ (ty b11) ∧ (ty b11) ∧ True ∧ True)))) .norm [(0, vs s), (1, vi (i : Int)), (6, .lit (.int .i32 (bN s i : Int))), (48, vb false)] [] ⟨⟨⟨ent276, con276 _ _ (i + 1) (by omega)⟩, tv⟩, tv⟩ (by kernel_rfl) (tr_mk (rp_mk (rp_mk (⟨b10, (inR64 (by omega) (by omega)), b10, rfl, b10, tv, b11, b11, b11, b11, b11, tv, tv⟩) 2) 3) 3) (fun a w hs => ?_)
         refine then_norm ⟨trivial, ?_⟩
         (have e0_ : (false) = (c3B s i) := (by first | rfl | (simp [c3B, b9, b10, b11])); exact (hs.cst [(0, vs s), (1, vi (i : Int)), (6, .lit (.int .i32 (bN s i : Int))), (48, vb (c3B s i))] [] (by first | rfl | (rw [e0_]; done) | (simp only [e0_]; done) | (simp only [e0_]; rfl))).rm [] (by kernel_rfl))
       ·skip
        have n10 := of_decide_eq_false b10
        refine wL hs hI [(8, ⟨[], gg [3, 4, 1005] [7, 8, 9, 10, 1011, 13, 14, 15, 16, 1017], []⟩)] [] [0, 1, 6, 48] [] (tr 3 (rp 3 b9 ((ty b10) ∧ (ty b10) ∧ (ty b10) ∧ (ty b10) ∧ (ty b10) ∧ True ∧ (false = false) ∧ (false = false) ∧ (false = false) ∧ (false = false) ∧ (false = false) ∧ True ∧ True))) .norm [(0, vs s), (1, vi (i : Int)), (6, .lit (.int .i32 (bN s i : Int))), (48, vb false)] [] ⟨tv, tv⟩ (by kernel_rfl) (tr_mk (rp_mk (⟨b10, b10, b10, b10, b10, tv, rfl, rfl, rfl, rfl, rfl, tv, tv⟩) 3) 3) (fun a w hs => ?_)
        refine then_norm ⟨trivial, ?_⟩
        (have e0_ : (false) = (c3B s i) := (by first | rfl | (simp [c3B, b9, b10])); exact (hs.cst [(0, vs s), (1, vi (i : Int)), (6, .lit (.int .i32 (bN s i : Int))), (48, vb (c3B s i))] [] (by first | rfl | (rw [e0_]; done) | (simp only [e0_]; done) | (simp only [e0_]; rfl))).rm [] (by kernel_rfl))
      ·skip
       have n9 := of_decide_eq_false b9
       refine wL hs hI [(8, ⟨[], gg [] [3, 4, 1005, 7, 8, 9, 10, 1011, 13, 14, 15, 16, 1017], []⟩)] [] [0, 1, 6, 48] [] (tr 3 ((ty b9) ∧ (ty b9) ∧ (ty b9) ∧ True ∧ (false = false) ∧ (false = false) ∧ (false = false) ∧ (false = false) ∧ (false = false) ∧ True ∧ (false = false) ∧ (false = false) ∧ (false = false) ∧ (false = false) ∧ (false = false) ∧ True ∧ True)) .norm [(0, vs s), (1, vi (i : Int)), (6, .lit (.int .i32 (bN s i : Int))), (48, vb false)] [] ⟨tv, tv⟩ (by kernel_rfl) (tr_mk (⟨b9, b9, b9, tv, rfl, rfl, rfl, rfl, rfl, tv, rfl, rfl, rfl, rfl, rfl, tv, tv⟩) 3) (fun a w hs => ?_)
       refine then_norm ⟨trivial, ?_⟩
       (have e0_ : (false) = (c3B s i) := (by first | rfl | (simp [c3B, b9])); exact (hs.cst [(0, vs s), (1, vi (i : Int)), (6, .lit (.int .i32 (bN s i : Int))), (48, vb (c3B s i))] [] (by first | rfl | (rw [e0_]; done) | (simp only [e0_]; done) | (simp only [e0_]; rfl))).rm [] (by kernel_rfl))
     ·intro hF a w hs
      refine cond_L (c := 48) hs (b := c3B s i) rfl (fun hb => ?_) (fun hb => ?_)
      ·have b12 := hb
       clear hb
       have hc1 := contB_lt (s := s) (k := i + 1) (by have hq : c3B s i = true := (by assumption); simp only [c3B, Bool.and_eq_true] at hq; exact hq.2.2.1)
       have hc2 := contB_lt (s := s) (k := i + 2) (by have hq : c3B s i = true := (by assumption); simp only [c3B, Bool.and_eq_true] at hq; exact hq.2.2.2)
       refine wp_cut (N := Tryz.f261.ntmps) (w0 := w0) (ow := noO fz) (T := [(7, .lit (.int .i32 (rune3 s i : Int)))]) (B := []) (True) ?_ ?_
       ·skip
        refine wN hs hI [] [7] [] (tr 5 ((InR .i64 ((i : Int) + 1)) ∧ (0 ≤ ((i : Int) + 1) ∧ ((i : Int) + 1) < s.size) ∧ (tr 6 ((InR .i64 ((i : Int) + 2)) ∧ (0 ≤ ((i : Int) + 2) ∧ ((i : Int) + 2) < s.size) ∧ (tr 4 True))))) .norm [(7, .lit (.int .i32 (bitsOr .i32 (bitsOr .i32 (IntKind.wrap .i32 ((bitsAnd .i32 (bN s i : Int) 15) * 2 ^ 12)) (IntKind.wrap .i32 ((IntKind.wrap .i32 (bitsAnd .u8 (byteAt s ((i : Int) + 1)) 63)) * 2 ^ 6))) (IntKind.wrap .i32 (bitsAnd .u8 (byteAt s ((i : Int) + 2)) 63)))))] [] (by kernel_rfl) (tr_mk (⟨(inR64 (by omega) (by omega)), (by omega), tr_mk (⟨(inR64 (by omega) (by omega)), (by omega), tr_mk tv 4⟩) 6⟩) 5) (fun a w hs => ?_)
        refine then_norm ⟨trivial, ?_⟩
        (have e0_ : (bitsOr .i32 (bitsOr .i32 (IntKind.wrap .i32 ((bitsAnd .i32 (bN s i : Int) 15) * 2 ^ 12)) (IntKind.wrap .i32 ((IntKind.wrap .i32 (bitsAnd .u8 (byteAt s ((i : Int) + 1)) 63)) * 2 ^ 6))) (IntKind.wrap .i32 (bitsAnd .u8 (byteAt s ((i : Int) + 2)) 63))) = ((rune3 s i : Int)) := (by first | rfl | (exact rune3_eq s i)); exact (hs.cst [(7, .lit (.int .i32 (rune3 s i : Int)))] [] (by first | rfl | (rw [e0_]; done) | (simp only [e0_]; done) | (simp only [e0_]; rfl))).rm [] (by kernel_rfl))
       ·intro hF a w hs
        rcases bt (decide ((rune3 s i : Int) ≥ 2048)) with b13 | b13
        ·skip
         have n13 := of_decide_eq_true b13
         rcases bt (decide ((rune3 s i : Int) < 55296)) with b14 | b14
         ·skip
          have n14 := of_decide_eq_true b14
          refine wL hs hI [(10, ⟨[], gg [3, 4, 5, 8, 1008, 1009] [6, 7], []⟩)] [true] [4, 5] [] ((tr 3 (rp 3 b13 ((ty b14) ∧ (ty b14) ∧ (ty b13) ∧ (ty b14) ∧ (ty b13) ∧ True))) ∧ ((true = true) ∧ (tr 3 True) ∧ True)) .ret [(4, .lit (.int .i32 (rune3 s i : Int))), (5, vi 3)] [] ⟨tv, tv⟩ (by kernel_rfl) ⟨tr_mk (rp_mk (⟨b14, b14, b13, b14, b13, tv⟩) 3) 3, rfl, tr_mk tv 3, tv⟩ (fun a w hs => ?_)
          refine inb_ret ?_
          refine then_ret ?_
          exact FnQ_cast (out := .val (.tup [.lit (.int .i32 (rune3 s i : Int)), vi 3])) (by rw [runeF, if_neg (by omega), if_neg (by rw [b8]; decide), if_pos b12, if_pos (by omega)]) (ret_ok [] hs ⟨by kernel_rfl, rfl⟩)
         ·skip
          have n14 := of_decide_eq_false b14
          rcases bt (decide ((rune3 s i : Int) > 57343)) with b15 | b15
          ·skip
           have n15 := of_decide_eq_true b15
           refine wL hs hI [(10, ⟨[], gg [3, 4, 5, 6, 7, 8, 1009] [1008], []⟩)] [true] [4, 5] [] ((tr 3 (rp 3 b13 (rp 2 b14 ((ty b13) ∧ (ty b14) ∧ (ty b13) ∧ True)))) ∧ ((ty b15) ∧ (tr 3 True) ∧ True)) .ret [(4, .lit (.int .i32 (rune3 s i : Int))), (5, vi 3)] [] ⟨tv, tv⟩ (by kernel_rfl) ⟨tr_mk (rp_mk (rp_mk (⟨b13, b14, b13, tv⟩) 2) 3) 3, b15, tr_mk tv 3, tv⟩ (fun a w hs => ?_)
           refine inb_ret ?_
           refine then_ret ?_
           exact FnQ_cast (out := .val (.tup [.lit (.int .i32 (rune3 s i : Int)), vi 3])) (by rw [runeF, if_neg (by omega), if_neg (by rw [b8]; decide), if_pos b12, if_pos (by omega)]) (ret_ok [] hs ⟨by kernel_rfl, rfl⟩)
          ·skip
           have n15 := of_decide_eq_false b15
           refine wL hs hI [(10, ⟨[], gg [3, 4, 5, 6, 7, 8, 1009] [1008], []⟩)] [false] [] [] ((tr 3 (rp 3 b13 (rp 2 b14 ((ty b13) ∧ (ty b14) ∧ (ty b13) ∧ True)))) ∧ ((ty b15) ∧ True)) .norm [] [] ⟨tv, tv⟩ (by kernel_rfl) ⟨tr_mk (rp_mk (rp_mk (⟨b13, b14, b13, tv⟩) 2) 3) 3, b15, tv⟩ (fun a w hs => ?_)
           refine inb_norm ?_
           refine then_norm ?_
           refine wN hs hI [] [4, 5] [] ((True ∧ True ∧ True) ∧ True) .ret [(4, .lit (.int .i32 (-1))), (5, vi 1)] [] (by kernel_rfl) ⟨⟨tv, tv, tv⟩, tv⟩ (fun a w hs => ?_)
           exact FnQ_cast (out := .val (.tup [.lit (.int .i32 (-1)), vi 1])) (by rw [runeF, if_neg (by omega), if_neg (by rw [b8]; decide), if_pos b12, if_neg (by omega)]) (ret_ok [] hs ⟨by kernel_rfl, rfl⟩)
        ·skip
         have n13 := of_decide_eq_false b13
         refine wL hs hI [(10, ⟨[], gg [] [3, 4, 5, 8, 1009], []⟩)] [false] [] [] ((tr 3 ((ty b13) ∧ (ty b13) ∧ (ty b13) ∧ True ∧ True ∧ (ty b13) ∧ (ty b13) ∧ True)) ∧ ((false = false) ∧ True)) .norm [] [] ⟨tv, tv⟩ (by kernel_rfl) ⟨tr_mk (⟨b13, b13, b13, tv, tv, b13, b13, tv⟩) 3, rfl, tv⟩ (fun a w hs => ?_)
         refine inb_norm ?_
         refine then_norm ?_
         refine wN hs hI [] [4, 5] [] ((True ∧ True ∧ True) ∧ True) .ret [(4, .lit (.int .i32 (-1))), (5, vi 1)] [] (by kernel_rfl) ⟨⟨tv, tv, tv⟩, tv⟩ (fun a w hs => ?_)
         exact FnQ_cast (out := .val (.tup [.lit (.int .i32 (-1)), vi 1])) (by rw [runeF, if_neg (by omega), if_neg (by rw [b8]; decide), if_pos b12, if_neg (by omega)]) (ret_ok [] hs ⟨by kernel_rfl, rfl⟩)
      ·have b16 := hb
       clear hb
       refine wp_cut (N := Tryz.f261.ntmps) (w0 := w0) (ow := noO fz) (T := [(0, vs s), (1, vi (i : Int)), (6, .lit (.int .i32 (bN s i : Int))), (96, vb (c4B s i))]) (B := []) (True) ?_ ?_
       ·skip
        rcases bt (decide ((bN s i : Int) ≥ 240)) with b17 | b17
        ·skip
         have n17 := of_decide_eq_true b17
         rcases bt (decide ((bN s i : Int) < 245)) with b18 | b18
         ·skip
          have n18 := of_decide_eq_true b18
          rcases bt (contB s (i + 1)) with b19 | b19
          ·skip
           rcases bt (contB s (i + 2)) with b20 | b20
           ·skip
            refine wL hs hI [(12, ⟨[(10, ciA 276 [vs s, vi ((i : Int) + 1)] [] [] (.val (vb (contB s (i + 1))))), (16, ciA 276 [vs s, vi ((i : Int) + 2)] [] [] (.val (vb (contB s (i + 2))))), (22, ciA 276 [vs s, vi ((i : Int) + 3)] [] [] (.val (vb (contB s (i + 3)))))], gg [3, 4, 1005, 7, 8, 9, 10, 1011, 13, 14, 15, 16, 1017, 19, 20, 21, 22, 1023] [], []⟩)] [] [0, 1, 6, 96] [] (tr 3 (rp 3 b17 (rp 2 b18 ((ty b18) ∧ (InR .i64 ((i : Int) + 1)) ∧ (ty b18) ∧ (okArgs [vs s, vi ((i : Int) + 1)]) ∧ (ty b18) ∧ True ∧ (rp 2 b19 ((ty b19) ∧ (InR .i64 ((i : Int) + 2)) ∧ (ty b19) ∧ (okArgs [vs s, vi ((i : Int) + 2)]) ∧ (ty b19) ∧ True ∧ (rp 2 b20 ((ty b20) ∧ (InR .i64 ((i : Int) + 3)) ∧ (ty b20) ∧ (okArgs [vs s, vi ((i : Int) + 3)]) ∧ (ty b20) ∧ True ∧ True)))))))) .norm [(0, vs s), (1, vi (i : Int)), (6, .lit (.int .i32 (bN s i : Int))), (96, vb (contB s (i + 3)))] [] ⟨⟨⟨ent276, con276 _ _ (i + 1) (by omega)⟩, ⟨⟨ent276, con276 _ _ (i + 2) (by omega)⟩, ⟨⟨ent276, con276 _ _ (i + 3) (by omega)⟩, tv⟩⟩⟩, tv⟩ (by kernel_rfl) (tr_mk (rp_mk (rp_mk (⟨b18, (inR64 (by omega) (by omega)), b18, rfl, b18, tv, rp_mk (⟨b19, (inR64 (by omega) (by omega)), b19, rfl, b19, tv, rp_mk (⟨b20, (inR64 (by omega) (by omega)), b20, rfl, b20, tv, tv⟩) 2⟩) 2⟩) 2) 3) 3) (fun a w hs => ?_)
            refine then_norm ⟨trivial, ?_⟩
            (have e0_ : (contB s (i + 3)) = (c4B s i) := (by first | rfl | (simp [c4B, b17, b18, b19, b20])); exact (hs.cst [(0, vs s), (1, vi (i : Int)), (6, .lit (.int .i32 (bN s i : Int))), (96, vb (c4B s i))] [] (by first | rfl | (rw [e0_]; done) | (simp only [e0_]; done) | (simp only [e0_]; rfl))).rm [] (by kernel_rfl))
           ·skip
            refine wL hs hI [(12, ⟨[(10, ciA 276 [vs s, vi ((i : Int) + 1)] [] [] (.val (vb (contB s (i + 1))))), (16, ciA 276 [vs s, vi ((i : Int) + 2)] [] [] (.val (vb (contB s (i + 2)))))], gg [3, 4, 1005, 7, 8, 9, 10, 1011, 13, 14, 15, 16, 1017] [19, 20, 21, 22, 1023], []⟩)] [] [0, 1, 6, 96] [] (tr 3 (rp 3 b17 (rp 2 b18 ((ty b18) ∧ (InR .i64 ((i : Int) + 1)) ∧ (ty b18) ∧ (okArgs [vs s, vi ((i : Int) + 1)]) ∧ (ty b18) ∧ True ∧ (rp 2 b19 ((ty b19) ∧ (InR .i64 ((i : Int) + 2)) ∧ (ty b19) ∧ (okArgs [vs s, vi ((i : Int) + 2)]) ∧ (ty b19) ∧ True ∧ (ty b20) ∧ (ty b20) ∧ (ty b20) ∧ (ty b20) ∧ (ty b20) ∧ True ∧ True)))))) .norm [(0, vs s), (1, vi (i : Int)), (6, .lit (.int .i32 (bN s i : Int))), (96, vb false)] [] ⟨⟨⟨ent276, con276 _ _ (i + 1) (by omega)⟩, ⟨⟨ent276, con276 _ _ (i + 2) (by omega)⟩, tv⟩⟩, tv⟩ (by kernel_rfl) (tr_mk (rp_mk (rp_mk (⟨b18, (inR64 (by omega) (by omega)), b18, rfl, b18, tv, rp_mk (⟨b19, (inR64 (by omega) (by omega)), b19, rfl, b19, tv, b20, b20, b20, b20, b20, tv, tv⟩) 2⟩) 2) 3) 3) (fun a w hs => ?_)
            refine then_norm ⟨trivial, ?_⟩
            (have e0_ : (false) = (c4B s i) := (by first | rfl | (simp [c4B, b17, b18, b19, b20])); exact (hs.cst [(0, vs s), (1, vi (i : Int)), (6, .lit (.int .i32 (bN s i : Int))), (96, vb (c4B s i))] [] (by first | rfl | (rw [e0_]; done) | (simp only [e0_]; done) | (simp only [e0_]; rfl))).rm [] (by kernel_rfl))
          ·skip
           refine wL hs hI [(12, ⟨[(10, ciA 276 [vs s, vi ((i : Int) + 1)] [] [] (.val (vb (contB s (i + 1)))))], gg [3, 4, 1005, 7, 8, 9, 10, 1011] [13, 14, 15, 16, 1017, 19, 20, 21, 22, 1023], []⟩)] [] [0, 1, 6, 96] [] (tr 3 (rp 3 b17 (rp 2 b18 ((ty b18) ∧ (InR .i64 ((i : Int) + 1)) ∧ (ty b18) ∧ (okArgs [vs s, vi ((i : Int) + 1)]) ∧ (ty b18) ∧ True ∧ (ty b19) ∧ (ty b19) ∧ (ty b19) ∧ (ty b19) ∧ (ty b19) ∧ True ∧ (false = false) ∧ (false = false) ∧ (false = false) ∧ (false = false) ∧ (false = false) ∧ True ∧ True)))) .norm [(0, vs s), (1, vi (i : Int)), (6, .lit (.int .i32 (bN s i : Int))), (96, vb false)] [] ⟨⟨⟨ent276, con276 _ _ (i + 1) (by omega)⟩, tv⟩, tv⟩ (by kernel_rfl) (tr_mk (rp_mk (rp_mk (⟨b18, (inR64 (by omega) (by omega)), b18, rfl, b18, tv, b19, b19, b19, b19, b19, tv, rfl, rfl, rfl, rfl, rfl, tv, tv⟩) 2) 3) 3) (fun a w hs => ?_)
           refine then_norm ⟨trivial, ?_⟩
           (have e0_ : (false) = (c4B s i) := (by first | rfl | (simp [c4B, b17, b18, b19])); exact (hs.cst [(0, vs s), (1, vi (i : Int)), (6, .lit (.int .i32 (bN s i : Int))), (96, vb (c4B s i))] [] (by first | rfl | (rw [e0_]; done) | (simp only [e0_]; done) | (simp only [e0_]; rfl))).rm [] (by kernel_rfl))
         ·skip
          have n18 := of_decide_eq_false b18
          refine wL hs hI [(12, ⟨[], gg [3, 4, 1005] [7, 8, 9, 10, 1011, 13, 14, 15, 16, 1017, 19, 20, 21, 22, 1023], []⟩)] [] [0, 1, 6, 96] [] (tr 3 (rp 3 b17 ((ty b18) ∧ (ty b18) ∧ (ty b18) ∧ (ty b18) ∧ (ty b18) ∧ True ∧ (false = false) ∧ (false = false) ∧ (false = false) ∧ (false = false) ∧ (false = false) ∧ True ∧ (false = false) ∧ (false = false) ∧ (false = false) ∧ (false = false) ∧ (false = false) ∧ True ∧ True))) .norm [(0, vs s), (1, vi (i : Int)), (6, .lit (.int .i32 (bN s i : Int))), (96, vb false)] [] ⟨tv, tv⟩ (by kernel_rfl) (tr_mk (rp_mk (⟨b18, b18, b18, b18, b18, tv, rfl, rfl, rfl, rfl, rfl, tv, rfl, rfl, rfl, rfl, rfl, tv, tv⟩) 3) 3) (fun a w hs => ?_)
          refine then_norm ⟨trivial, ?_⟩
          (have e0_ : (false) = (c4B s i) := (by first | rfl | (simp [c4B, b17, b18])); exact (hs.cst [(0, vs s), (1, vi (i : Int)), (6, .lit (.int .i32 (bN s i : Int))), (96, vb (c4B s i))] [] (by first | rfl | (rw [e0_]; done) | (simp only [e0_]; done) | (simp only [e0_]; rfl))).rm [] (by kernel_rfl))
        ·skip
         have n17 := of_decide_eq_false b17
         refine wL hs hI [(12, ⟨[], gg [] [3, 4, 1005, 7, 8, 9, 10, 1011, 13, 14, 15, 16, 1017, 19, 20, 21, 22, 1023], []⟩)] [] [0, 1, 6, 96] [] (tr 3 ((ty b17) ∧ (ty b17) ∧ (ty b17) ∧ True ∧ (false = false) ∧ (false = false) ∧ (false = false) ∧ (false = false) ∧ (false = false) ∧ True ∧ (false = false) ∧ (false = false) ∧ (false = false) ∧ (false = false) ∧ (false = false) ∧ True ∧ (false = false) ∧ (false = false) ∧ (false = false) ∧ (false = false) ∧ (false = false) ∧ True ∧ True)) .norm [(0, vs s), (1, vi (i : Int)), (6, .lit (.int .i32 (bN s i : Int))), (96, vb false)] [] ⟨tv, tv⟩ (by kernel_rfl) (tr_mk (⟨b17, b17, b17, tv, rfl, rfl, rfl, rfl, rfl, tv, rfl, rfl, rfl, rfl, rfl, tv, rfl, rfl, rfl, rfl, rfl, tv, tv⟩) 3) (fun a w hs => ?_)
         refine then_norm ⟨trivial, ?_⟩
         (have e0_ : (false) = (c4B s i) := (by first | rfl | (simp [c4B, b17])); exact (hs.cst [(0, vs s), (1, vi (i : Int)), (6, .lit (.int .i32 (bN s i : Int))), (96, vb (c4B s i))] [] (by first | rfl | (rw [e0_]; done) | (simp only [e0_]; done) | (simp only [e0_]; rfl))).rm [] (by kernel_rfl))
       ·intro hF a w hs
        refine cond_L (c := 96) hs (b := c4B s i) rfl (fun hb => ?_) (fun hb => ?_)
        ·have b21 := hb
         clear hb
         have hc1 := contB_lt (s := s) (k := i + 1) (by have hq : c4B s i = true := (by assumption); simp only [c4B, Bool.and_eq_true] at hq; exact hq.2.2.1)
         have hc2 := contB_lt (s := s) (k := i + 2) (by have hq : c4B s i = true := (by assumption); simp only [c4B, Bool.and_eq_true] at hq; exact hq.2.2.2.1)
         have hc3 := contB_lt (s := s) (k := i + 3) (by have hq : c4B s i = true := (by assumption); simp only [c4B, Bool.and_eq_true] at hq; exact hq.2.2.2.2)
         refine wp_cut (N := Tryz.f261.ntmps) (w0 := w0) (ow := noO fz) (T := [(8, .lit (.int .i32 (rune4 s i : Int)))]) (B := []) (True) ?_ ?_
         ·skip
          refine wN hs hI [] [8] [] (tr 5 ((InR .i64 ((i : Int) + 1)) ∧ (0 ≤ ((i : Int) + 1) ∧ ((i : Int) + 1) < s.size) ∧ (tr 6 ((InR .i64 ((i : Int) + 2)) ∧ (0 ≤ ((i : Int) + 2) ∧ ((i : Int) + 2) < s.size) ∧ (tr 6 ((InR .i64 ((i : Int) + 3)) ∧ (0 ≤ ((i : Int) + 3) ∧ ((i : Int) + 3) < s.size) ∧ (tr 4 True))))))) .norm [(8, .lit (.int .i32 (bitsOr .i32 (bitsOr .i32 (bitsOr .i32 (IntKind.wrap .i32 ((bitsAnd .i32 (bN s i : Int) 7) * 2 ^ 18)) (IntKind.wrap .i32 ((IntKind.wrap .i32 (bitsAnd .u8 (byteAt s ((i : Int) + 1)) 63)) * 2 ^ 12))) (IntKind.wrap .i32 ((IntKind.wrap .i32 (bitsAnd .u8 (byteAt s ((i : Int) + 2)) 63)) * 2 ^ 6))) (IntKind.wrap .i32 (bitsAnd .u8 (byteAt s ((i : Int) + 3)) 63)))))] [] (by kernel_rfl) (tr_mk (⟨(inR64 (by omega) (by omega)), (by omega), tr_mk (⟨(inR64 (by omega) (by omega)), (by omega), tr_mk (⟨(inR64 (by omega) (by omega)), (by omega), tr_mk tv 4⟩) 6⟩) 6⟩) 5) (fun a w hs => ?_)
          refine then_norm ⟨trivial, ?_⟩
          (have e0_ : (bitsOr .i32 (bitsOr .i32 (bitsOr .i32 (IntKind.wrap .i32 ((bitsAnd .i32 (bN s i : Int) 7) * 2 ^ 18)) (IntKind.wrap .i32 ((IntKind.wrap .i32 (bitsAnd .u8 (byteAt s ((i : Int) + 1)) 63)) * 2 ^ 12))) (IntKind.wrap .i32 ((IntKind.wrap .i32 (bitsAnd .u8 (byteAt s ((i : Int) + 2)) 63)) * 2 ^ 6))) (IntKind.wrap .i32 (bitsAnd .u8 (byteAt s ((i : Int) + 3)) 63))) = ((rune4 s i : Int)) := (by first | rfl | (exact rune4_eq s i)); exact (hs.cst [(8, .lit (.int .i32 (rune4 s i : Int)))] [] (by first | rfl | (rw [e0_]; done) | (simp only [e0_]; done) | (simp only [e0_]; rfl))).rm [] (by kernel_rfl))
         ·intro hF a w hs
          rcases bt (decide ((rune4 s i : Int) ≥ 65536)) with b22 | b22
          ·skip
           have n22 := of_decide_eq_true b22
           rcases bt (decide ((rune4 s i : Int) ≤ 1114111)) with b23 | b23
           ·skip
            have n23 := of_decide_eq_true b23
            refine wL hs hI [(14, ⟨[], gg [3, 4, 1005] [], []⟩)] [true] [4, 5] [] ((tr 3 (rp 2 b22 ((ty b22) ∧ True))) ∧ ((ty b23) ∧ (tr 3 True) ∧ True)) .ret [(4, .lit (.int .i32 (rune4 s i : Int))), (5, vi 4)] [] ⟨tv, tv⟩ (by kernel_rfl) ⟨tr_mk (rp_mk (⟨b22, tv⟩) 2) 3, b23, tr_mk tv 3, tv⟩ (fun a w hs => ?_)
            refine inb_ret ?_
            refine then_ret ?_
            exact FnQ_cast (out := .val (.tup [.lit (.int .i32 (rune4 s i : Int)), vi 4])) (by rw [runeF, if_neg (by omega), if_neg (by rw [b8]; decide), if_neg (by rw [b16]; decide), if_pos b21, if_pos (by omega)]) (ret_ok [] hs ⟨by kernel_rfl, rfl⟩)
           ·skip
            have n23 := of_decide_eq_false b23
            refine wL hs hI [(14, ⟨[], gg [3, 4, 1005] [], []⟩)] [false] [] [] ((tr 3 (rp 2 b22 ((ty b22) ∧ True))) ∧ ((ty b23) ∧ True)) .norm [] [] ⟨tv, tv⟩ (by kernel_rfl) ⟨tr_mk (rp_mk (⟨b22, tv⟩) 2) 3, b23, tv⟩ (fun a w hs => ?_)
            refine inb_norm ?_
            refine then_norm ?_
            refine wN hs hI [] [4, 5] [] ((True ∧ True ∧ True) ∧ True) .ret [(4, .lit (.int .i32 (-1))), (5, vi 1)] [] (by kernel_rfl) ⟨⟨tv, tv, tv⟩, tv⟩ (fun a w hs => ?_)
            exact FnQ_cast (out := .val (.tup [.lit (.int .i32 (-1)), vi 1])) (by rw [runeF, if_neg (by omega), if_neg (by rw [b8]; decide), if_neg (by rw [b16]; decide), if_pos b21, if_neg (by omega)]) (ret_ok [] hs ⟨by kernel_rfl, rfl⟩)
          ·skip
           have n22 := of_decide_eq_false b22
           refine wL hs hI [(14, ⟨[], gg [] [3, 4, 1005], []⟩)] [false] [] [] ((tr 3 ((ty b22) ∧ (ty b22) ∧ (ty b22) ∧ True)) ∧ ((false = false) ∧ True)) .norm [] [] ⟨tv, tv⟩ (by kernel_rfl) ⟨tr_mk (⟨b22, b22, b22, tv⟩) 3, rfl, tv⟩ (fun a w hs => ?_)
           refine inb_norm ?_
           refine then_norm ?_
           refine wN hs hI [] [4, 5] [] ((True ∧ True ∧ True) ∧ True) .ret [(4, .lit (.int .i32 (-1))), (5, vi 1)] [] (by kernel_rfl) ⟨⟨tv, tv, tv⟩, tv⟩ (fun a w hs => ?_)
           exact FnQ_cast (out := .val (.tup [.lit (.int .i32 (-1)), vi 1])) (by rw [runeF, if_neg (by omega), if_neg (by rw [b8]; decide), if_neg (by rw [b16]; decide), if_pos b21, if_neg (by omega)]) (ret_ok [] hs ⟨by kernel_rfl, rfl⟩)
        ·have b24 := hb
         clear hb
         refine wN hs hI [] [] [] True .norm [] [] (by kernel_rfl) tv (fun a w hs => ?_)
         refine inb_norm ?_
         refine then_norm ?_
         refine wN hs hI [] [4, 5] [] ((True ∧ True ∧ True) ∧ True) .ret [(4, .lit (.int .i32 (-1))), (5, vi 1)] [] (by kernel_rfl) ⟨⟨tv, tv, tv⟩, tv⟩ (fun a w hs => ?_)
         exact FnQ_cast (out := .val (.tup [.lit (.int .i32 (-1)), vi 1])) (by rw [runeF, if_neg (by omega), if_neg (by rw [b8]; decide), if_neg (by rw [b16]; decide), if_neg (by rw [b24]; decide)]) (ret_ok [] hs ⟨by kernel_rfl, rfl⟩)
theorem con236 (s : ByteArray) (hz : s.size < 4294967281) : Con Tryz.prog I0 236 [vs s] (.val (.row (.int .i32) (runesF s s.size 0))) := by
 refine con_of Tryz.func236 rfl (Nat.le_of_ble_eq_true rfl) stab (fun w0 fz a hI hs => ?_)
 refine wp_seq ?_
 refine wN hs hI [] [0] [] (True ∧ True) .norm [(0, vs s)] [] (by kernel_rfl) ⟨tv, tv⟩ (fun a w hs => ?_)
 refine then_norm ?_
 refine wp_seq ?_
 refine wN hs hI [] [0, 3] [] (True ∧ True) .norm [(0, vs s), (3, nilv)] [] (by kernel_rfl) ⟨tv, tv⟩ (fun a w hs => ?_)
 refine then_norm ?_
 refine wp_seq ?_
 refine wp_seq ?_
 refine wN hs hI [] [0, 3, 4] [] (True ∧ True) .norm [(0, vs s), (3, nilv), (4, vi 0)] [] (by kernel_rfl) ⟨tv, tv⟩ (fun a w hs => ?_)
 refine then_norm ?_
 refine wp_block ?_
 refine loop_L (N := Tryz.f236.ntmps) (w0 := w0) (ow := noO fz) (α := Nat × List Int) (fun p => [(0, vs s), (3, .own 90000001), (4, vi ((p.1 : Nat) : Int))]) (fun p => [(90000001, .sl 21 (.int .i32) p.2)]) (fun p => RunJ s p.1 p.2) (fun p => s.size - p.1) (0, []) ?_ ?_ ?_
 ·exact RunJ.start s
 ·(have hs := (hs.nil 10000005 3 21 (.int .i32) (by kernel_rfl) (by decide) (by kernel_rfl) (by kernel_rfl)).rmT [(0, vs s), (3, .own 10000005), (4, vi 0)] [(10000005, .sl 21 (.int .i32) ([]))] [(10000005, 10000005)] (by kernel_rfl); exact (hs.cst [(0, vs s), (3, .own 10000005), (4, vi ((0 : Nat) : Int))] [(10000005, .sl 21 (.int .i32) ([]))] rfl).rm [(90000001, 10000005)] (by kernel_rfl))
 rintro ⟨i, acc⟩ hJ a w hs
 try dsimp only at hJ
 have hln := hJ.len
 have hle := hJ.le
 have hri := rune_in s i
 rcases bt (decide ((i : Int) < (s.size : Int))) with b1 | b1
 ·skip
  have n1 := of_decide_eq_true b1
  refine wL hs hI [(4, ⟨[(2, ciA 261 [vs s, vi (i : Int)] [] [] (.val (.tup [.lit (.int .i32 ((runeF s i).1)), vi ((runeF s i).2)])))], [], []⟩)] [true] [0, 3, 4] [6003] (((tr 4 True) ∧ (ty b1) ∧ True) ∧ ((True ∧ True ∧ (okArgs [vs s, vi (i : Int)]) ∧ (tr 5 True)) ∧ (tr 3 ((((acc.length + 1) * 4 : Nat) ≤ 140737488355328 ∧ acc.length + 1 ≤ 140737488355328) ∧ True ∧ True)) ∧ True ∧ True ∧ (InR .i64 ((i : Int) + ((runeF s i).2))) ∧ True ∧ True)) .norm [(0, vs s), (3, .own 6003), (4, vi ((i : Int) + ((runeF s i).2)))] [(6003, .sl 21 (.int .i32) (acc ++ ([(runeF s i).1])))] ⟨⟨⟨ent261, con261 s i (by omega) hz⟩, tv⟩, tv⟩ (by kernel_rfl) ⟨⟨tr_mk tv 4, b1, tv⟩, ⟨tv, tv, rfl, tr_mk tv 5⟩, tr_mk (⟨(by omega), tv, tv⟩) 3, tv, tv, (inR64 (by omega) (by omega)), tv, tv⟩ (fun a w hs => ?_)
  refine then_norm ⟨(i + (runeF s i).2.toNat, acc ++ [(runeF s i).1]), hJ.on (by omega), by omega, ?_⟩
  (have e0_ : ((i : Int) + ((runeF s i).2)) = ((((i + (runeF s i).2.toNat) : Nat) : Int)) := (by first | rfl | (first | rfl | omega)); have e1_ : (acc ++ ([(runeF s i).1])) = ((acc ++ [(runeF s i).1])) := (by first | rfl | (first | rfl | omega)); exact (hs.cst [(0, vs s), (3, .own 6003), (4, vi (((i + (runeF s i).2.toNat) : Nat) : Int))] [(6003, .sl 21 (.int .i32) (acc ++ [(runeF s i).1]))] (by first | rfl | (rw [e0_, e1_]; done) | (simp only [e0_, e1_]; done) | (simp only [e0_, e1_]; rfl))).rm [(90000001, 6003)] (by kernel_rfl))
 ·skip
  have n1 := of_decide_eq_false b1
  refine wN hs hI [false] [3] [90000001] ((tr 4 True) ∧ ((ty b1) ∧ True)) (.exit 0) [(3, .own 90000001)] [(90000001, .sl 21 (.int .i32) acc)] (by kernel_rfl) ⟨tr_mk tv 4, b1, tv⟩ (fun a w hs => ?_)
  refine then_exit ?_
  refine inb_hit ?_
  refine then_norm ?_
  refine wN hs hI [] [2] [90000001] ((True ∧ True ∧ True) ∧ True) .ret [(2, .own 90000001)] [(90000001, .sl 21 (.int .i32) acc)] (by kernel_rfl) ⟨⟨tv, tv, tv⟩, tv⟩ (fun a w hs => ?_)
  exact FnQ_cast (out := .val (.row (.int .i32) acc)) (by rw [hJ.fin (by omega)]) (ret_ok [90000001] hs ⟨by kernel_rfl, rfl⟩)
theorem con200 (s : ByteArray) (hz : s.size < 4294967281) : Con Tryz.prog I0 200 [vs s] (.val (vb (X.validAt s s.size 0))) := by
 have hrl := runes_len s s.size 0
 refine con_of Tryz.func200 rfl (Nat.le_of_ble_eq_true rfl) stab (fun w0 fz a hI hs => ?_)
 refine wp_seq ?_
 refine wN hs hI [] [0] [] (True ∧ True) .norm [(0, vs s)] [] (by kernel_rfl) ⟨tv, tv⟩ (fun a w hs => ?_)
 refine then_norm ?_
 refine wp_seq ?_
 refine wL hs hI [(1, ⟨[(1, ciA 236 [vs s] [] [] (.val (.row (.int .i32) (runesF s s.size 0))))], [], []⟩)] [] [3] [] (True ∧ ((okArgs [vs s]) ∧ True ∧ True)) .norm [(3, .row (.int .i32) (runesF s s.size 0))] [] ⟨⟨⟨ent236, con236 s hz⟩, tv⟩, tv⟩ (by kernel_rfl) ⟨tv, rfl, tv, tv⟩ (fun a w hs => ?_)
 refine then_norm ?_
 refine wp_seq ?_
 refine wp_seq ?_
 refine wN hs hI [] [3, 4] [] (True ∧ True) .norm [(3, .row (.int .i32) (runesF s s.size 0)), (4, vi 0)] [] (by kernel_rfl) ⟨tv, tv⟩ (fun a w hs => ?_)
 refine then_norm ?_
 refine wp_block ?_
 refine loop_L (N := Tryz.f200.ntmps) (w0 := w0) (ow := noO fz) (α := Nat) (fun p => [(3, .row (.int .i32) (runesF s s.size 0)), (4, vi (p : Int))]) (fun p => []) (fun p => p ≤ (runesF s s.size 0).length ∧ ∀ j, j < p → ¬ (runesF s s.size 0).getD j (dflt (.int .i32)) < 0) (fun p => (runesF s s.size 0).length - p) 0 ?_ ?_ ?_
 ·exact ⟨Nat.zero_le _, fun j hj => absurd hj (Nat.not_lt_zero _)⟩
 ·exact (hs.cst [(3, .row (.int .i32) (runesF s s.size 0)), (4, vi ((0 : Nat) : Int))] [] rfl).rm [] (by kernel_rfl)
 rintro i hJ a w hs
 obtain ⟨hi, hall⟩ := hJ
 rcases bt (decide ((i : Int) < ((runesF s s.size 0).length : Int))) with b1 | b1
 ·skip
  have n1 := of_decide_eq_true b1
  rcases bt (decide (((runesF s s.size 0).getD i (dflt (.int .i32))) < 0)) with b2 | b2
  ·skip
   have n2 := of_decide_eq_true b2
   refine wN hs hI [true, true] [2] [] (((tr 4 True) ∧ (ty b1) ∧ True) ∧ ((True ∧ True ∧ (0 ≤ (i : Int) ∧ (i : Int) < (runesF s s.size 0).length) ∧ True ∧ True ∧ True) ∧ (ty b2) ∧ (True ∧ True) ∧ True)) .ret [(2, vb false)] [] (by kernel_rfl) ⟨⟨tr_mk tv 4, b1, tv⟩, ⟨tv, tv, (by omega), tv, tv, tv⟩, b2, ⟨tv, tv⟩, tv⟩ (fun a w hs => ?_)
   refine then_ret ?_
   refine inb_ret ?_
   refine then_ret ?_
   exact FnQ_cast (out := .val (vb false)) (by rw [valid_no (j := i) (by omega) (of_decide_eq_true b2)]) (ret_ok [] hs ⟨by kernel_rfl, rfl⟩)
  ·skip
   have n2 := of_decide_eq_false b2
   refine wN hs hI [true, false] [3, 4] [] (((tr 4 True) ∧ (ty b1) ∧ True) ∧ (((True ∧ True ∧ (0 ≤ (i : Int) ∧ (i : Int) < (runesF s s.size 0).length) ∧ True ∧ True ∧ True) ∧ (ty b2) ∧ True) ∧ True ∧ (InR .i64 ((i : Int) + 1)) ∧ True ∧ True)) .norm [(3, .row (.int .i32) (runesF s s.size 0)), (4, vi ((i : Int) + 1))] [] (by kernel_rfl) ⟨⟨tr_mk tv 4, b1, tv⟩, ⟨⟨tv, tv, (by omega), tv, tv, tv⟩, b2, tv⟩, tv, (inR64 (by omega) (by omega)), tv, tv⟩ (fun a w hs => ?_)
   refine then_norm ⟨i + 1, ⟨by omega, fun j hj => by rcases Nat.lt_succ_iff_lt_or_eq.1 hj with h | h; exact hall j h; subst h; exact of_decide_eq_false b2⟩, by omega, ?_⟩
   (have e0_ : ((i : Int) + 1) = ((((i + 1) : Nat) : Int)) := (by first | rfl | (omega)); exact (hs.cst [(3, .row (.int .i32) (runesF s s.size 0)), (4, vi (((i + 1) : Nat) : Int))] [] (by first | rfl | (rw [e0_]; done) | (simp only [e0_]; done) | (simp only [e0_]; rfl))).rm [] (by kernel_rfl))
 ·skip
  have n1 := of_decide_eq_false b1
  refine wN hs hI [false] [] [] ((tr 4 True) ∧ ((ty b1) ∧ True)) (.exit 0) [] [] (by kernel_rfl) ⟨tr_mk tv 4, b1, tv⟩ (fun a w hs => ?_)
  refine then_exit ?_
  refine inb_hit ?_
  refine then_norm ?_
  refine wN hs hI [] [2] [] ((True ∧ True) ∧ True) .ret [(2, vb true)] [] (by kernel_rfl) ⟨⟨tv, tv⟩, tv⟩ (fun a w hs => ?_)
  exact FnQ_cast (out := .val (vb true)) (by rw [valid_yes (fun j hj => hall j (by omega))]) (ret_ok [] hs ⟨by kernel_rfl, rfl⟩)
theorem leB_not {x y : ByteArray} : (Op.bytesLess x.toList y.toList || x.toList == y.toList) = !Op.bytesLess y.toList x.toList := by
 have e : (x.toList == y.toList) = eqT x y := rfl
 rw [e]
 rcases ltB_tri x y with h | h | h
 ·rw [ltB_less.2 h, show Op.bytesLess y.toList x.toList = false from by
   cases hq : Op.bytesLess y.toList x.toList with
   | false => rfl
   | true => exact absurd (ltB_trans h (ltB_less.1 hq)) (ltB_irrefl _)]; rfl
 ·subst h
  rw [eqT_self, show Op.bytesLess x.toList x.toList = false from by
   cases hq : Op.bytesLess x.toList x.toList with
   | false => rfl
   | true => exact absurd (ltB_less.1 hq) (ltB_irrefl _)]; rfl
 ·rw [ltB_less.2 h, show Op.bytesLess x.toList y.toList = false from by
   cases hq : Op.bytesLess x.toList y.toList with
   | false => rfl
   | true => exact absurd (ltB_trans h (ltB_less.1 hq)) (ltB_irrefl _), eqT_ne.2 (fun e => by subst e; exact ltB_irrefl _ h)]; rfl
theorem nm_yes {l : List ByteArray} {i : Nat} (h1 : X.validAt (l.getD i (dflt .str)) (l.getD i (dflt .str)).size 0 = true) (h2 : ((l.getD i (dflt .str)).size : Int) ≤ 2000) (h3 : i = 0 ∨ (Op.bytesLess (l.getD i (dflt .str)).toList (l.getD ((i : Int) - 1).toNat (dflt .str)).toList || (l.getD i (dflt .str)).toList == (l.getD ((i : Int) - 1).toNat (dflt .str)).toList) = false) : nmOk l i = true := by
 unfold nmOk textOk
 rw [h1, decide_eq_true h2]
 rcases h3 with h3 | h3
 ·subst h3; rfl
 ·rw [leB_not] at h3
  have h4 : Op.bytesLess (l.getD ((i : Int) - 1).toNat (dflt .str)).toList (l.getD i (dflt .str)).toList = true := by simpa using h3
  rw [h4]; simp
theorem nm_bad {l : List ByteArray} {i : Nat} (h : X.validAt (l.getD i (dflt .str)) (l.getD i (dflt .str)).size 0 = false ∨ ((l.getD i (dflt .str)).size : Int) > 2000 ∨ (0 < i ∧ (Op.bytesLess (l.getD i (dflt .str)).toList (l.getD ((i : Int) - 1).toNat (dflt .str)).toList || (l.getD i (dflt .str)).toList == (l.getD ((i : Int) - 1).toNat (dflt .str)).toList) = true)) : nmOk l i = false := by
 unfold nmOk textOk
 rcases h with h | h | ⟨h, h2⟩
 ·rw [h]; simp
 ·rw [decide_eq_false (by omega)]; rfl
 ·rw [leB_not] at h2
  have h4 : Op.bytesLess (l.getD ((i : Int) - 1).toNat (dflt .str)).toList (l.getD i (dflt .str)).toList = false := by simpa using h2
  rw [h4, decide_eq_true (show (i : Int) > 0 by omega)]; simp
theorem con201 (l : List ByteArray) (hsm : ∀ x ∈ l, x.size < 4294967281) (hl : l.length < 4611686018427387904) : Con Tryz.prog I0 201 [.row .str l] (.val (vb (namesOk l))) := by
 refine con_of Tryz.func201 rfl (Nat.le_of_ble_eq_true rfl) stab (fun w0 fz a hI hs => ?_)
 refine wp_seq ?_
 refine wN hs hI [] [0] [] (True ∧ True) .norm [(0, .row .str l)] [] (by kernel_rfl) ⟨tv, tv⟩ (fun a w hs => ?_)
 refine then_norm ?_
 refine wp_seq ?_
 refine wp_seq ?_
 refine wN hs hI [] [0, 3] [] (True ∧ True) .norm [(0, .row .str l), (3, vi 0)] [] (by kernel_rfl) ⟨tv, tv⟩ (fun a w hs => ?_)
 refine then_norm ?_
 refine wp_block ?_
 refine loop_L (N := Tryz.f201.ntmps) (w0 := w0) (ow := noO fz) (α := Nat) (fun p => [(0, .row .str l), (3, vi (p : Int))]) (fun p => []) (fun p => p ≤ l.length ∧ ∀ j, j < p → nmOk l j = true) (fun p => l.length - p) 0 ?_ ?_ ?_
 ·exact ⟨Nat.zero_le _, fun j hj => absurd hj (Nat.not_lt_zero _)⟩
 ·exact (hs.cst [(0, .row .str l), (3, vi ((0 : Nat) : Int))] [] rfl).rm [] (by kernel_rfl)
 rintro i hJ a w hs
 obtain ⟨hi, hall⟩ := hJ
 rcases bt (decide ((i : Int) < (l.length : Int))) with b1 | b1
 ·skip
  have n1 := of_decide_eq_true b1
  rcases bt (X.validAt (l.getD i (dflt .str)) (l.getD i (dflt .str)).size 0) with b2 | b2
  ·skip
   rcases bt (decide (((l.getD i (dflt .str)).size : Int) > 2000)) with b3 | b3
   ·skip
    have n3 := of_decide_eq_true b3
    refine wL hs hI [(4, ⟨[(4, ciA 200 [vs (l.getD i (dflt .str))] [] [] (.val (vb (X.validAt (l.getD i (dflt .str)) (l.getD i (dflt .str)).size 0))))], gg [7, 8, 9, 10, 11, 12, 1029] [1013, 15, 16, 17, 28], []⟩)] [true, true] [2] [] (((tr 4 True) ∧ (ty b1) ∧ True) ∧ ((True ∧ True ∧ (0 ≤ (i : Int) ∧ (i : Int) < l.length) ∧ True ∧ (okArgs [vs (l.getD i (dflt .str))]) ∧ True ∧ True ∧ ((ty (ng1 b2)) ∧ True) ∧ ((ty (ng1 b2)) ∧ True) ∧ ((ty (ng1 b2)) ∧ 0 ≤ (i : Int) ∧ (i : Int) < l.length) ∧ ((ty (ng1 b2)) ∧ True) ∧ ((ty (ng1 b2)) ∧ True) ∧ ((ty (ng1 b2)) ∧ True) ∧ (ty (ng1 b2)) ∧ True ∧ (ty b3) ∧ (ty b3) ∧ (ty b3) ∧ (tr 10 ((ty b3) ∧ (ty b3) ∧ True))) ∧ (true = true) ∧ (True ∧ True) ∧ True)) .ret [(2, vb false)] [] ⟨⟨⟨ent200, con200 _ (hsm _ (getD_mem (by omega) _))⟩, tv⟩, tv⟩ (by kernel_rfl) ⟨⟨tr_mk tv 4, b1, tv⟩, ⟨tv, tv, (by omega), tv, rfl, tv, tv, ⟨(ng1 b2), tv⟩, ⟨(ng1 b2), tv⟩, ⟨(ng1 b2), (by omega)⟩, ⟨(ng1 b2), tv⟩, ⟨(ng1 b2), tv⟩, ⟨(ng1 b2), tv⟩, (ng1 b2), tv, b3, b3, b3, tr_mk (⟨b3, b3, tv⟩) 10⟩, rfl, ⟨tv, tv⟩, tv⟩ (fun a w hs => ?_)
    refine then_ret ?_
    refine inb_ret ?_
    refine then_ret ?_
    exact FnQ_cast (out := .val (vb false)) (by simp only [namesOk]; rw [all_no' (i := i) (by omega) (nm_bad (.inr (.inl (by omega))))]; rfl) (ret_ok [] hs ⟨by kernel_rfl, rfl⟩)
   ·skip
    have n3 := of_decide_eq_false b3
    rcases bt (decide ((i : Int) > 0)) with b4 | b4
    ·skip
     have n4 := of_decide_eq_true b4
     rcases bt (Op.bytesLess (l.getD i (dflt .str)).toList (l.getD (((i : Int) - 1).toNat) (dflt .str)).toList || (l.getD i (dflt .str)).toList == (l.getD (((i : Int) - 1).toNat) (dflt .str)).toList) with b5 | b5
     ·skip
      refine wL hs hI [(4, ⟨[(4, ciA 200 [vs (l.getD i (dflt .str))] [] [] (.val (vb (X.validAt (l.getD i (dflt .str)) (l.getD i (dflt .str)).size 0))))], gg [7, 8, 9, 10, 11, 12, 15, 16, 17, 18, 19, 20, 21, 22, 23, 24, 25, 26, 27, 28, 1028] [1013, 1029], []⟩)] [true, true] [2] [] (((tr 4 True) ∧ (ty b1) ∧ True) ∧ ((True ∧ True ∧ (0 ≤ (i : Int) ∧ (i : Int) < l.length) ∧ True ∧ (okArgs [vs (l.getD i (dflt .str))]) ∧ True ∧ True ∧ ((ty (ng1 b2)) ∧ True) ∧ ((ty (ng1 b2)) ∧ True) ∧ ((ty (ng1 b2)) ∧ 0 ≤ (i : Int) ∧ (i : Int) < l.length) ∧ ((ty (ng1 b2)) ∧ True) ∧ ((ty (ng1 b2)) ∧ True) ∧ ((ty (ng1 b2)) ∧ True) ∧ (ty (ng1 b2)) ∧ True ∧ ((ty b3) ∧ True) ∧ ((ty b3) ∧ True) ∧ ((ty b3) ∧ True) ∧ ((ty b4) ∧ True) ∧ ((ty b4) ∧ True) ∧ ((ty b4) ∧ 0 ≤ (i : Int) ∧ (i : Int) < l.length) ∧ ((ty b4) ∧ True) ∧ ((ty b4) ∧ True) ∧ ((ty b4) ∧ True) ∧ ((ty b4) ∧ (InR .i64 ((i : Int) - 1))) ∧ ((ty b4) ∧ 0 ≤ ((i : Int) - 1) ∧ ((i : Int) - 1) < l.length) ∧ ((ty b4) ∧ True) ∧ ((ty b4) ∧ True) ∧ ((ty b3) ∧ (ty b4)) ∧ (ty b3) ∧ True) ∧ (ty b5) ∧ (True ∧ True) ∧ True)) .ret [(2, vb false)] [] ⟨⟨⟨ent200, con200 _ (hsm _ (getD_mem (by omega) _))⟩, tv⟩, tv⟩ (by kernel_rfl) ⟨⟨tr_mk tv 4, b1, tv⟩, ⟨tv, tv, (by omega), tv, rfl, tv, tv, ⟨(ng1 b2), tv⟩, ⟨(ng1 b2), tv⟩, ⟨(ng1 b2), (by omega)⟩, ⟨(ng1 b2), tv⟩, ⟨(ng1 b2), tv⟩, ⟨(ng1 b2), tv⟩, (ng1 b2), tv, ⟨b3, tv⟩, ⟨b3, tv⟩, ⟨b3, tv⟩, ⟨b4, tv⟩, ⟨b4, tv⟩, ⟨b4, (by omega)⟩, ⟨b4, tv⟩, ⟨b4, tv⟩, ⟨b4, tv⟩, ⟨b4, (inR64 (by omega) (by omega))⟩, ⟨b4, (by omega)⟩, ⟨b4, tv⟩, ⟨b4, tv⟩, ⟨b3, b4⟩, b3, tv⟩, b5, ⟨tv, tv⟩, tv⟩ (fun a w hs => ?_)
      refine then_ret ?_
      refine inb_ret ?_
      refine then_ret ?_
      exact FnQ_cast (out := .val (vb false)) (by simp only [namesOk]; rw [all_no' (i := i) (by omega) (nm_bad (.inr (.inr ⟨by omega, by simp_all⟩)))]; rfl) (ret_ok [] hs ⟨by kernel_rfl, rfl⟩)
     ·skip
      refine wL hs hI [(4, ⟨[(4, ciA 200 [vs (l.getD i (dflt .str))] [] [] (.val (vb (X.validAt (l.getD i (dflt .str)) (l.getD i (dflt .str)).size 0))))], gg [7, 8, 9, 10, 11, 12, 15, 16, 17, 18, 19, 20, 21, 22, 23, 24, 25, 26, 27, 28, 1028] [1013, 1029], []⟩)] [true, false] [0, 3] [] (((tr 4 True) ∧ (ty b1) ∧ True) ∧ (((True ∧ True ∧ (0 ≤ (i : Int) ∧ (i : Int) < l.length) ∧ True ∧ (okArgs [vs (l.getD i (dflt .str))]) ∧ True ∧ True ∧ ((ty (ng1 b2)) ∧ True) ∧ ((ty (ng1 b2)) ∧ True) ∧ ((ty (ng1 b2)) ∧ 0 ≤ (i : Int) ∧ (i : Int) < l.length) ∧ ((ty (ng1 b2)) ∧ True) ∧ ((ty (ng1 b2)) ∧ True) ∧ ((ty (ng1 b2)) ∧ True) ∧ (ty (ng1 b2)) ∧ True ∧ ((ty b3) ∧ True) ∧ ((ty b3) ∧ True) ∧ ((ty b3) ∧ True) ∧ ((ty b4) ∧ True) ∧ ((ty b4) ∧ True) ∧ ((ty b4) ∧ 0 ≤ (i : Int) ∧ (i : Int) < l.length) ∧ ((ty b4) ∧ True) ∧ ((ty b4) ∧ True) ∧ ((ty b4) ∧ True) ∧ ((ty b4) ∧ (InR .i64 ((i : Int) - 1))) ∧ ((ty b4) ∧ 0 ≤ ((i : Int) - 1) ∧ ((i : Int) - 1) < l.length) ∧ ((ty b4) ∧ True) ∧ ((ty b4) ∧ True) ∧ ((ty b3) ∧ (ty b4)) ∧ (ty b3) ∧ True) ∧ (ty b5) ∧ True) ∧ True ∧ (InR .i64 ((i : Int) + 1)) ∧ True ∧ True)) .norm [(0, .row .str l), (3, vi ((i : Int) + 1))] [] ⟨⟨⟨ent200, con200 _ (hsm _ (getD_mem (by omega) _))⟩, tv⟩, tv⟩ (by kernel_rfl) ⟨⟨tr_mk tv 4, b1, tv⟩, ⟨⟨tv, tv, (by omega), tv, rfl, tv, tv, ⟨(ng1 b2), tv⟩, ⟨(ng1 b2), tv⟩, ⟨(ng1 b2), (by omega)⟩, ⟨(ng1 b2), tv⟩, ⟨(ng1 b2), tv⟩, ⟨(ng1 b2), tv⟩, (ng1 b2), tv, ⟨b3, tv⟩, ⟨b3, tv⟩, ⟨b3, tv⟩, ⟨b4, tv⟩, ⟨b4, tv⟩, ⟨b4, (by omega)⟩, ⟨b4, tv⟩, ⟨b4, tv⟩, ⟨b4, tv⟩, ⟨b4, (inR64 (by omega) (by omega))⟩, ⟨b4, (by omega)⟩, ⟨b4, tv⟩, ⟨b4, tv⟩, ⟨b3, b4⟩, b3, tv⟩, b5, tv⟩, tv, (inR64 (by omega) (by omega)), tv, tv⟩ (fun a w hs => ?_)
      refine then_norm ⟨i + 1, ⟨by omega, fun j hj => by rcases Nat.lt_succ_iff_lt_or_eq.1 hj with h | h; exact hall j h; subst h; exact nm_yes (by simpa using b2) (by omega) (by exact .inr (by simpa [Bool.or_eq_false_iff] using b5))⟩, by omega, ?_⟩
      (have e0_ : ((i : Int) + 1) = ((((i + 1) : Nat) : Int)) := (by first | rfl | (omega)); exact (hs.cst [(0, .row .str l), (3, vi (((i + 1) : Nat) : Int))] [] (by first | rfl | (rw [e0_]; done) | (simp only [e0_]; done) | (simp only [e0_]; rfl))).rm [] (by kernel_rfl))
    ·skip
     have n4 := of_decide_eq_false b4
     refine wL hs hI [(4, ⟨[(4, ciA 200 [vs (l.getD i (dflt .str))] [] [] (.val (vb (X.validAt (l.getD i (dflt .str)) (l.getD i (dflt .str)).size 0))))], gg [7, 8, 9, 10, 11, 12, 15, 16, 17, 28] [1013, 18, 19, 20, 21, 22, 23, 24, 25, 26, 27, 1028, 1029], []⟩)] [true, false] [0, 3] [] (((tr 4 True) ∧ (ty b1) ∧ True) ∧ (((True ∧ True ∧ (0 ≤ (i : Int) ∧ (i : Int) < l.length) ∧ True ∧ (okArgs [vs (l.getD i (dflt .str))]) ∧ True ∧ True ∧ ((ty (ng1 b2)) ∧ True) ∧ ((ty (ng1 b2)) ∧ True) ∧ ((ty (ng1 b2)) ∧ 0 ≤ (i : Int) ∧ (i : Int) < l.length) ∧ ((ty (ng1 b2)) ∧ True) ∧ ((ty (ng1 b2)) ∧ True) ∧ ((ty (ng1 b2)) ∧ True) ∧ (ty (ng1 b2)) ∧ True ∧ ((ty b3) ∧ True) ∧ ((ty b3) ∧ True) ∧ ((ty b3) ∧ True) ∧ (ty b4) ∧ (ty b4) ∧ (ty b4) ∧ (ty b4) ∧ (ty b4) ∧ (ty b4) ∧ (ty b4) ∧ (ty b4) ∧ (ty b4) ∧ (ty b4) ∧ ((ty b3) ∧ (ty b4)) ∧ (ty b3) ∧ True) ∧ (false = false) ∧ True) ∧ True ∧ (InR .i64 ((i : Int) + 1)) ∧ True ∧ True)) .norm [(0, .row .str l), (3, vi ((i : Int) + 1))] [] ⟨⟨⟨ent200, con200 _ (hsm _ (getD_mem (by omega) _))⟩, tv⟩, tv⟩ (by kernel_rfl) ⟨⟨tr_mk tv 4, b1, tv⟩, ⟨⟨tv, tv, (by omega), tv, rfl, tv, tv, ⟨(ng1 b2), tv⟩, ⟨(ng1 b2), tv⟩, ⟨(ng1 b2), (by omega)⟩, ⟨(ng1 b2), tv⟩, ⟨(ng1 b2), tv⟩, ⟨(ng1 b2), tv⟩, (ng1 b2), tv, ⟨b3, tv⟩, ⟨b3, tv⟩, ⟨b3, tv⟩, b4, b4, b4, b4, b4, b4, b4, b4, b4, b4, ⟨b3, b4⟩, b3, tv⟩, rfl, tv⟩, tv, (inR64 (by omega) (by omega)), tv, tv⟩ (fun a w hs => ?_)
     refine then_norm ⟨i + 1, ⟨by omega, fun j hj => by rcases Nat.lt_succ_iff_lt_or_eq.1 hj with h | h; exact hall j h; subst h; exact nm_yes (by simpa using b2) (by omega) (by exact .inl (by omega))⟩, by omega, ?_⟩
     (have e0_ : ((i : Int) + 1) = ((((i + 1) : Nat) : Int)) := (by first | rfl | (omega)); exact (hs.cst [(0, .row .str l), (3, vi (((i + 1) : Nat) : Int))] [] (by first | rfl | (rw [e0_]; done) | (simp only [e0_]; done) | (simp only [e0_]; rfl))).rm [] (by kernel_rfl))
  ·skip
   refine wL hs hI [(4, ⟨[(4, ciA 200 [vs (l.getD i (dflt .str))] [] [] (.val (vb (X.validAt (l.getD i (dflt .str)) (l.getD i (dflt .str)).size 0))))], gg [1013, 1029] [7, 8, 9, 10, 11, 12, 15, 16, 17, 28], []⟩)] [true, true] [2] [] (((tr 4 True) ∧ (ty b1) ∧ True) ∧ ((True ∧ True ∧ (0 ≤ (i : Int) ∧ (i : Int) < l.length) ∧ True ∧ (okArgs [vs (l.getD i (dflt .str))]) ∧ True ∧ True ∧ (ty (ng0 b2)) ∧ (ty (ng0 b2)) ∧ (ty (ng0 b2)) ∧ (ty (ng0 b2)) ∧ (ty (ng0 b2)) ∧ (ty (ng0 b2)) ∧ (ty (ng0 b2)) ∧ True ∧ (true = true) ∧ (true = true) ∧ (true = true) ∧ (tr 10 ((true = true) ∧ (true = true) ∧ True))) ∧ (true = true) ∧ (True ∧ True) ∧ True)) .ret [(2, vb false)] [] ⟨⟨⟨ent200, con200 _ (hsm _ (getD_mem (by omega) _))⟩, tv⟩, tv⟩ (by kernel_rfl) ⟨⟨tr_mk tv 4, b1, tv⟩, ⟨tv, tv, (by omega), tv, rfl, tv, tv, (ng0 b2), (ng0 b2), (ng0 b2), (ng0 b2), (ng0 b2), (ng0 b2), (ng0 b2), tv, rfl, rfl, rfl, tr_mk (⟨rfl, rfl, tv⟩) 10⟩, rfl, ⟨tv, tv⟩, tv⟩ (fun a w hs => ?_)
   refine then_ret ?_
   refine inb_ret ?_
   refine then_ret ?_
   exact FnQ_cast (out := .val (vb false)) (by simp only [namesOk]; rw [all_no' (i := i) (by omega) (nm_bad (.inl b2))]; rfl) (ret_ok [] hs ⟨by kernel_rfl, rfl⟩)
 ·skip
  have n1 := of_decide_eq_false b1
  refine wN hs hI [false] [0] [] ((tr 4 True) ∧ ((ty b1) ∧ True)) (.exit 0) [(0, .row .str l)] [] (by kernel_rfl) ⟨tr_mk tv 4, b1, tv⟩ (fun a w hs => ?_)
  refine then_exit ?_
  refine inb_hit ?_
  refine then_norm ?_
  refine wN hs hI [] [2] [] ((tr 4 True) ∧ True) .ret [(2, vb (decide ((l.length : Int) ≤ 300)))] [] (by kernel_rfl) ⟨tr_mk tv 4, tv⟩ (fun a w hs => ?_)
  exact FnQ_cast (out := .val (vb (decide ((l.length : Int) ≤ 300)))) (by simp only [namesOk]; rw [all_yes' (fun j hj => hall j (by omega))]; simp) (ret_ok [] hs ⟨by kernel_rfl, rfl⟩)
theorem con199 (n : Num) : Con Tryz.prog I0 199 [.agg [vb n.neg, .row (.int .u32) n.m, vi n.e]] (.val (vb (ownN n))) := by
 refine con_of Tryz.func199 rfl (Nat.le_of_ble_eq_true rfl) stab (fun w0 fz a hI hs => ?_)
 rcases bt (n.neg) with b1 | b1
 ·skip
  refine wL hs hI [(1, ⟨[], gg [] [4, 5, 6, 7, 1008, 10, 11, 12, 1013], []⟩)] [] [2] [] ((True ∧ True ∧ True) ∧ ((tr 4 ((ty (ng1 b1)) ∧ (ty (ng1 b1)) ∧ (ty (ng1 b1)) ∧ (ty (ng1 b1)) ∧ (ty (ng1 b1)) ∧ True ∧ (false = false) ∧ (false = false) ∧ (false = false) ∧ (false = false) ∧ True ∧ True)) ∧ True)) .ret [(2, vb false)] [] ⟨tv, tv⟩ (by kernel_rfl) ⟨⟨tv, tv, tv⟩, tr_mk (⟨(ng1 b1), (ng1 b1), (ng1 b1), (ng1 b1), (ng1 b1), tv, rfl, rfl, rfl, rfl, tv, tv⟩) 4, tv⟩ (fun a w hs => ?_)
  exact FnQ_cast (out := .val (vb false)) (by simp only [ownN, b1]; rfl) (ret_ok [] hs ⟨by kernel_rfl, rfl⟩)
 ·skip
  rcases bt ((n.m.length : Int) == 0) with b2 | b2
  ·skip
   have n2 := eq_of_beq b2
   refine wL hs hI [(1, ⟨[], gg [4, 5, 6, 7, 1008, 10, 11, 12, 1013] [], []⟩)] [] [2] [] ((True ∧ True ∧ True) ∧ ((tr 4 (rp 5 (ng0 b1) (rp 4 b2 True))) ∧ True)) .ret [(2, vb (n.e == 0))] [] ⟨tv, tv⟩ (by kernel_rfl) ⟨⟨tv, tv, tv⟩, tr_mk (rp_mk (rp_mk (tv) 4) 5) 4, tv⟩ (fun a w hs => ?_)
   exact FnQ_cast (out := .val (vb (n.e == 0))) (by simp only [ownN, b1, b2]; rfl) (ret_ok [] hs ⟨by kernel_rfl, rfl⟩)
  ·skip
   have n2 := beq_eq_false_iff_ne.1 b2
   refine wL hs hI [(1, ⟨[], gg [4, 5, 6, 7, 1008] [10, 11, 12, 1013], []⟩)] [] [2] [] ((True ∧ True ∧ True) ∧ ((tr 4 (rp 5 (ng0 b1) ((ty b2) ∧ (ty b2) ∧ (ty b2) ∧ (ty b2) ∧ True ∧ True))) ∧ True)) .ret [(2, vb false)] [] ⟨tv, tv⟩ (by kernel_rfl) ⟨⟨tv, tv, tv⟩, tr_mk (rp_mk (⟨b2, b2, b2, b2, tv, tv⟩) 5) 4, tv⟩ (fun a w hs => ?_)
   exact FnQ_cast (out := .val (vb false)) (by simp only [ownN, b1, b2]; rfl) (ret_ok [] hs ⟨by kernel_rfl, rfl⟩)
end Go.Proofs.YtondpnipoogoiaaGreatDoor.F
