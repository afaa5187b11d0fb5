import Derived.Test.YtondpnipoogoiaaGreatDoorB8
import Derived.Shelf.Strings.Builder1
import Derived.Test.YtondpnipoogoiaaGreatDoorProg
import Derived.LoopIn
import Derived.WalkMore
import Derived.Laws.RangeAny
import Derived.Test.YtondpnipoogoiaaGreatDoorB1
import Derived.Test.YtondpnipoogoiaaGreatDoorB4
import Derived.Test.YtondpnipoogoiaaGreatDoorB7
set_option maxRecDepth 100000
set_option linter.unusedVariables false
set_option linter.unusedSimpArgs false
namespace Go.Proofs.YtondpnipoogoiaaGreatDoor.F
open Go Go.RowKit
structure OneN (n : Nat) (t : Tree) : Prop where
 own : ownO t = true
 ok : Ok t.n.m
 len : t.n.m.length ≤ 3
 k : t.k.length ≤ n
 sorted : ((mems t).map (·.1)).Pairwise ltB
 texts : ∀ p ∈ mems t, textOk p.1 = true
def GoodN (n : Nat) : Nat → Tree → Prop
 | 0, _ => False
 | d + 1, t => OneN n t ∧ t.v.length ≤ n ∧ ∀ u ∈ t.v, GoodN n d u
def MemN (n d : Nat) (t : Tree) : Prop := (mems t).length ≤ n ∧ ((mems t).map (·.1)).Pairwise ltB ∧ ∀ p ∈ mems t, textOk p.1 = true ∧ GoodN n d p.2
theorem goodN_T : ∀ {d : Nat} {t : Tree}, GoodT d t → GoodN 3 d t
 | 0, _, h => h.elim
 | d + 1, t, ⟨h1, h2, h3⟩ => ⟨⟨h1.own, h1.ok, h1.len, h1.k, h1.sorted, h1.texts⟩, h2, fun u hu => goodN_T (h3 u hu)⟩
theorem goodN_mono {n m : Nat} (hn : n ≤ m) : ∀ {d e : Nat} {t : Tree}, d ≤ e → GoodN n d t → GoodN m e t
 | 0, _, _, _, h => h.elim
 | d + 1, 0, _, hd, _ => absurd hd (Nat.not_succ_le_zero d)
 | d + 1, e + 1, t, hd, ⟨h1, h2, h3⟩ => ⟨⟨h1.own, h1.ok, h1.len, Nat.le_trans h1.k hn, h1.sorted, h1.texts⟩, Nat.le_trans h2 hn, fun u hu => goodN_mono hn (Nat.le_of_succ_le_succ hd) (h3 u hu)⟩
theorem goodN_fine {n : Nat} (hn : n < 1000000000) : ∀ {d : Nat} {t : Tree}, GoodN n d t → fineT t
 | 0, _, h => h.elim
 | d + 1, t, ⟨h1, h2, h3⟩ => by
  have hl : ∀ l : List Tree, (∀ u ∈ l, fineT u) → fineL l := by
   intro l
   induction l with
   | nil => intro _; trivial
   | cons x l ih => exact fun h => ⟨h x (by simp), ih (fun u hu => h u (by simp [hu]))⟩
  rw [fine_eq]
  exact ⟨⟨h1.ok, by have := h1.len; omega, by have := h1.k; omega, by omega⟩, hl _ (fun u hu => goodN_fine hn (h3 u hu))⟩
theorem chk_goodN {n : Nat} : ∀ {d : Nat} {t : Tree} {e l : Int}, GoodN n d t → e + d ≤ 65 → (nodes t : Int) ≤ l → (chk t e l).1 = true ∧ (chk t e l).2 = l - nodes t
 | 0, _, _, _, h, _, _ => h.elim
 | d + 1, t, e, l, ⟨h1, h2, h3⟩, he, hl => by
  have hn := nodes_eq t
  have key : ∀ (v : List Tree) (l : Int), (∀ u ∈ v, GoodN n d u) → (nodesL v : Int) ≤ l → (chkL v (e + 1) l).1 = true ∧ (chkL v (e + 1) l).2 = l - nodesL v := by
   intro v
   induction v with
   | nil => intro l _ _; simp [chkL, nodesL]
   | cons x v ih =>
    intro l hv hl
    simp only [nodesL] at hl
    have hx := chk_goodN (e := e + 1) (l := l) (hv x (by simp)) (by omega) (by omega)
    simp only [chkL]
    rw [if_pos hx.1, hx.2]
    have := ih (l - nodes x) (fun u hu => hv u (by simp [hu])) (by omega)
    simp only [nodesL]
    exact ⟨this.1, by rw [this.2]; omega⟩
  rw [chk_eq, if_neg (by
   rintro (h | h | h)
   ·omega
   ·omega
   ·rw [h1.own] at h; cases h)]
  have := key t.v (l - 1) h3 (by omega)
  exact ⟨this.1, by rw [this.2]; omega⟩
theorem goodN_mem {n d : Nat} {t : Tree} (h : GoodN n (d + 1) t) : MemN n d t := ⟨by have := mems_lev t; have := h.2.1; omega, h.1.sorted, fun p hp => ⟨h.1.texts p hp, h.2.2 _ (mems_in hp)⟩⟩
theorem obj_goodN {n d : Nat} {L : Mem} (hn : n ≤ 300) (h1 : L.length ≤ n) (h2 : (L.map (·.1)).Pairwise ltB) (h3 : ∀ p ∈ L, textOk p.1 = true ∧ GoodN n d p.2) : GoodN n (d + 1) (objM L) := by
 refine ⟨⟨own_obj (by omega) h2 (fun p hp => (h3 p hp).1), Ok.nil, Nat.zero_le _, ?_, by rw [mems_objM]; exact h2, by rw [mems_objM]; exact fun p hp => (h3 p hp).1⟩, ?_, fun u hu => ?_⟩
 ·show (L.map (·.1)).length ≤ n; rw [List.length_map]; exact h1
 ·show (L.map (·.2)).length ≤ n; rw [List.length_map]; exact h1
 ·obtain ⟨p, hp, rfl⟩ := List.mem_map.1 (show u ∈ L.map (·.2) from hu)
  exact (h3 p hp).2
theorem setN {n d : Nat} {t u : Tree} {x : ByteArray} (hn : n + 1 ≤ 300) (hx : textOk x = true) (h : MemN n d t) (hu : GoodN (n + 1) d u) : GoodN (n + 1) (d + 1) (setT t x u) := by
 unfold setT
 refine obj_goodN hn ?_ (ins_sorted h.2.1) (fun p hp => ?_)
 ·have := keys_ins x u (mems t)
  have := h.1; omega
 ·rcases ins_mem hp with rfl | hp
  ·exact ⟨hx, hu⟩
  ·have := h.2.2 p hp
   exact ⟨this.1, goodN_mono (Nat.le_succ n) (Nat.le_refl _) this.2⟩
theorem unsetN {n d : Nat} {t : Tree} {x : ByteArray} (hn : n ≤ 300) (h : GoodN n d t) : GoodN n d (unsetT t x) := by
 unfold unsetT
 split
 ·cases d with
  | zero => exact h.elim
  | succ d =>
   have hm := goodN_mem h
   have hs := del_sub x (mems t)
   refine obj_goodN hn (Nat.le_trans hs.length_le hm.1) (hm.2.1.sublist (hs.map _)) (fun p hp => hm.2.2 p (hs.subset hp))
 ·exact h
open Go.Proofs.Tryz
theorem nil_row {w : World} {fz : Nat → Prop} {η : Nat → Option Value} {v : Value} (τ : Ty) (h : R w fz η v nilv) : R w fz η v (.row τ []) := by
 rw [h.lit_inv]
 exact .row none 0 τ [] (fun _ _ => .bool false) (Nat.le_refl _) (Nat.zero_le _) (fun i x h => by simp at h) (fun i x j y h => by simp at h)
def Wk : List AV → List AV → Prop
 | [], [] => True
 | a :: l, b :: m => (a = b ∨ (a = nilv ∧ ∃ τ, b = .row τ []) ∨ ∃ l', a = .agg l' ∧ ∃ m', b = .agg m' ∧ Wk1 l' m') ∧ Wk l m
 | _, _ => False
where Wk1 : List AV → List AV → Prop
 | [], [] => True
 | a :: l, b :: m => (a = b ∨ (a = nilv ∧ ∃ τ, b = .row τ [])) ∧ Wk1 l m
 | _, _ => False
theorem wk1_len : ∀ {l m : List AV}, Wk.Wk1 l m → l.length = m.length
 | [], [], _ => rfl
 | _ :: _, _ :: _, h => by simp [wk1_len h.2]
theorem wk_len : ∀ {l m : List AV}, Wk l m → l.length = m.length
 | [], [], _ => rfl
 | _ :: _, _ :: _, h => by simp [wk_len h.2]
theorem wk1_at : ∀ {l m : List AV} {j : Nat} {b : AV}, Wk.Wk1 l m → m[j]? = some b → ∃ a, l[j]? = some a ∧ (a = b ∨ (a = nilv ∧ ∃ τ, b = .row τ []))
 | [], [], _, _, _, hb => by simp at hb
 | a :: l, b :: m, 0, _, h, hb => by
  simp only [List.getElem?_cons_zero, Option.some.injEq] at hb
  subst hb
  exact ⟨a, rfl, h.1⟩
 | a :: l, b :: m, j + 1, _, h, hb => by simpa using wk1_at h.2 (by simpa using hb)
theorem wk_at : ∀ {l m : List AV} {j : Nat} {b : AV}, Wk l m → m[j]? = some b → ∃ a, l[j]? = some a ∧ (a = b ∨ (a = nilv ∧ ∃ τ, b = .row τ []) ∨ ∃ l', a = .agg l' ∧ ∃ m', b = .agg m' ∧ Wk.Wk1 l' m')
 | [], [], _, _, _, hb => by simp at hb
 | a :: l, b :: m, 0, _, h, hb => by
  simp only [List.getElem?_cons_zero, Option.some.injEq] at hb
  subst hb
  exact ⟨a, rfl, h.1⟩
 | a :: l, b :: m, j + 1, _, h, hb => by simpa using wk_at h.2 (by simpa using hb)
theorem wk_R {w : World} {fz : Nat → Prop} {η : Nat → Option Value} {v : Value} {a b : AV} (hR : R w fz η v a) (h : a = b ∨ (a = nilv ∧ ∃ τ, b = .row τ []) ∨ ∃ l', a = .agg l' ∧ ∃ m', b = .agg m' ∧ Wk.Wk1 l' m') : R w fz η v b := by
 rcases h with rfl | ⟨rfl, τ, rfl⟩ | ⟨l', rfl, m', rfl, hw⟩
 ·exact hR
 ·exact nil_row τ hR
 ·obtain ⟨vs, rfl, hl, hel⟩ := hR.agg_inv
  refine .agg vs m' (by rw [hl, wk1_len hw]) (fun j v b hv hb => ?_)
  obtain ⟨a, ha, hab⟩ := wk1_at hw hb
  have := hel j v a hv ha
  rcases hab with rfl | ⟨rfl, τ, rfl⟩
  ·exact this
  ·exact nil_row τ this
theorem Con.told {P : Program} {I : World → Prop} {f : FuncId} {args args' : List AV} {out : COut} (h : Con P I f args' out) (hw : Wk args args') : Con P I f args out := fun w fz vs hI hf hR => by
 refine h w fz vs hI hf ⟨by rw [hR.1, wk_len hw], fun j v b hv hb => ?_⟩
 obtain ⟨a, ha, hab⟩ := wk_at hw hb
 exact wk_R (hR.2 j v a hv ha) hab
theorem chk_own {t : Tree} {d l : Int} (h : (chk t d l).1 = true) : ownO t = true ∧ (chkL t.v (d + 1) (l - 1)).1 = true := by
 rw [chk_eq] at h
 split at h
 ·cases h
 ·rename_i hc
  refine ⟨?_, h⟩
  cases ho : ownO t with
  | true => rfl
  | false => exact absurd (.inr (.inr ho)) hc
theorem chkL_mem : ∀ {v : List Tree} {d l : Int} {c : Tree}, (chkL v d l).1 = true → c ∈ v → ∃ l', (chk c d l').1 = true
 | [], _, _, _, _, h => by simp at h
 | x :: v, d, l, c, h, hc => by
  simp only [chkL] at h
  split at h
  ·rename_i h1
   rcases List.mem_cons.1 hc with rfl | hc
   ·exact ⟨l, h1⟩
   ·exact chkL_mem h hc
  ·cases h
theorem fineL_of : ∀ {l : List Tree}, (∀ u ∈ l, fineT u) → fineL l
 | [], _ => trivial
 | x :: l, h => ⟨h x (by simp), fineL_of (fun u hu => h u (by simp [hu]))⟩
theorem fine_memV {t : Tree} (h : fineT t) (x : ByteArray) : fineT (memV t x) := by
 cases hb : memB t x with
 | true => exact fine_mem ((fine_eq t).1 h).2 (mem_cutV hb)
 | false => rw [memV_zero hb]; exact (fine_eq _).2 ⟨⟨Ok.nil, by decide, by decide, by decide⟩, trivial⟩
def walkF (t : Tree) (d n : Int) : Int := if (chk t d (2000 - n)).1 = true then 2000 - (chk t d (2000 - n)).2 else -1
structure WalkJ (v : List Tree) (d n0 : Int) (i : Nat) (n : Int) : Prop where
 le : i ≤ v.length
 lo : -1 ≤ n
 hi : n ≤ 2000
 eq : if n ≥ 0 then chkL (v.drop i) (d + 1) (2000 - n) = chkL v (d + 1) (2000 - n0) else (chkL v (d + 1) (2000 - n0)).1 = false
theorem WalkJ.start {v : List Tree} {d n : Int} (h0 : 0 ≤ n) (h1 : n ≤ 2000) : WalkJ v d n 0 n := ⟨Nat.zero_le _, by omega, h1, by rw [if_pos h0]; rfl⟩
theorem walkF_in (t : Tree) {d n : Int} (h : n ≤ 2000) (h0 : 0 ≤ n) : -1 ≤ walkF t d n ∧ walkF t d n ≤ 2000 := by
 unfold walkF
 have h1 := chk_le t d (2000 - n) (by omega)
 split
 ·rename_i hc
  have := h1.2 hc; omega
 ·omega
theorem WalkJ.on {v : List Tree} {d n0 n : Int} {i : Nat} (h : WalkJ v d n0 i n) (hi : i < v.length) (hn : n ≥ 0) : WalkJ v d n0 (i + 1) (walkF (v.getD i (dflt .tree)) (d + 1) n) := by
 have hq := walkF_in (v.getD i (dflt .tree)) (d := d + 1) h.hi hn
 refine ⟨by omega, hq.1, hq.2, ?_⟩
 have he := h.eq
 rw [if_pos hn] at he
 unfold walkF
 by_cases hc : (chk (v.getD i (dflt .tree)) (d + 1) (2000 - n)).1 = true
 ·have h1 := chk_le (v.getD i (dflt .tree)) (d + 1) (2000 - n) (by have := h.hi; omega)
  have h2 := h.hi
  rw [if_pos hc, if_pos (by omega), show 2000 - (2000 - (chk (v.getD i (dflt .tree)) (d + 1) (2000 - n)).2) = (chk (v.getD i (dflt .tree)) (d + 1) (2000 - n)).2 by omega, ← chkL_yes hi hc]
  exact he
 ·rw [if_neg hc, if_neg (by omega), ← he, chkL_no hi (by simpa using hc)]
theorem WalkJ.fin {t : Tree} {d n0 n : Int} {i : Nat} (h : WalkJ t.v d (n0 + 1) i n) (hi : ¬ (i < t.v.length ∧ n ≥ 0)) (h1 : n0 + 1 ≤ 2000) (h2 : d ≤ 64) (h3 : ownO t = true) : n = walkF t d n0 := by
 have he := h.eq
 unfold walkF
 rw [chk_eq, if_neg (c := 2000 - n0 - 1 < 0 ∨ d > 64 ∨ ownO t = false) (by rintro (a | a | a); omega; omega; rw [h3] at a; cases a), show 2000 - n0 - 1 = 2000 - (n0 + 1) by omega]
 by_cases hn : n ≥ 0
 ·rw [if_pos hn, List.drop_of_length_le (by omega), chkL] at he
  rw [← he, if_pos rfl]; show n = 2000 - (2000 - n); omega
 ·rw [if_neg hn] at he
  rw [if_neg (by rw [he]; decide)]
  have := h.lo; omega
def bN (s : ByteArray) (i : Nat) : Nat := ((s.data[i]?).getD 0).toNat
def contB (s : ByteArray) (i : Nat) : Bool := decide (i < s.size) && (bN s i / 64 == 2)
def rune2 (s : ByteArray) (i : Nat) : Nat := bN s i % 32 * 64 + bN s (i + 1) % 64
def rune3 (s : ByteArray) (i : Nat) : Nat := bN s i % 16 * 4096 + bN s (i + 1) % 64 * 64 + bN s (i + 2) % 64
def rune4 (s : ByteArray) (i : Nat) : Nat := bN s i % 8 * 262144 + bN s (i + 1) % 64 * 4096 + bN s (i + 2) % 64 * 64 + bN s (i + 3) % 64
def c2B (s : ByteArray) (i : Nat) : Bool := decide ((bN s i : Int) ≥ 194) && (decide ((bN s i : Int) < 224) && contB s (i + 1))
def c3B (s : ByteArray) (i : Nat) : Bool := decide ((bN s i : Int) ≥ 224) && (decide ((bN s i : Int) < 240) && (contB s (i + 1) && contB s (i + 2)))
def c4B (s : ByteArray) (i : Nat) : Bool := decide ((bN s i : Int) ≥ 240) && (decide ((bN s i : Int) < 245) && (contB s (i + 1) && (contB s (i + 2) && contB s (i + 3))))
def runeF (s : ByteArray) (i : Nat) : Int × Int :=
 if bN s i < 128 then ((bN s i : Int), 1)
 else if c2B s i = true then ((rune2 s i : Int), 2)
 else if c3B s i = true then (if 2048 ≤ rune3 s i ∧ (rune3 s i < 55296 ∨ 57343 < rune3 s i) then ((rune3 s i : Int), 3) else (-1, 1))
 else if c4B s i = true then (if 65536 ≤ rune4 s i ∧ rune4 s i ≤ 1114111 then ((rune4 s i : Int), 4) else (-1, 1))
 else (-1, 1)
theorem rune_in (s : ByteArray) (i : Nat) : 1 ≤ (runeF s i).2 ∧ (runeF s i).2 ≤ 4 := by
 unfold runeF
 (repeat' split) <;> simp
def runesF (s : ByteArray) : Nat → Nat → List Int
 | 0, _ => []
 | b + 1, i => if i < s.size then (runeF s i).1 :: runesF s b (i + (runeF s i).2.toNat) else []
theorem runes_end (s : ByteArray) (b i : Nat) (h : ¬ i < s.size) : runesF s b i = [] := by
 cases b with
 | zero => rfl
 | succ b => rw [runesF, if_neg h]
structure RunJ (s : ByteArray) (i : Nat) (acc : List Int) : Prop where
 len : acc.length ≤ i
 le : i ≤ s.size + 4
 eq : ∃ b, acc ++ runesF s b i = runesF s s.size 0 ∧ s.size ≤ i + b
theorem RunJ.start (s : ByteArray) : RunJ s 0 [] := ⟨Nat.zero_le _, Nat.zero_le _, s.size, rfl, by omega⟩
theorem RunJ.on {s : ByteArray} {i : Nat} {acc : List Int} (h : RunJ s i acc) (hi : i < s.size) : RunJ s (i + (runeF s i).2.toNat) (acc ++ [(runeF s i).1]) := by
 obtain ⟨h1, h2, b, h3, h4⟩ := h
 have hr := rune_in s i
 obtain ⟨c, rfl⟩ : ∃ c, b = c + 1 := ⟨b - 1, by omega⟩
 refine ⟨by simp; omega, by omega, c, ?_, by omega⟩
 rw [runesF, if_pos hi] at h3
 rw [List.append_assoc]; exact h3
theorem RunJ.fin {s : ByteArray} {i : Nat} {acc : List Int} (h : RunJ s i acc) (hi : ¬ i < s.size) : acc = runesF s s.size 0 := by
 obtain ⟨_, _, b, h3, _⟩ := h
 rw [runes_end s b i hi, List.append_nil] at h3; exact h3
theorem p6 : (2 : Nat) ^ 6 = 64 := rfl
theorem con64_ : ∀ (n : Nat) (t : Tree), nodes t < n → nodes t < 4611686018427387904 → Con Tryz.prog I0 64 [.agg (encTree t)] (.val (vi ((nodes t : Nat) : Int))) := by
 intro n
 induction n
 case zero => intro t hn; omega
 rename_i n ih
 intro t hn hw
 refine con_of Tryz.func64 rfl (Nat.le_of_ble_eq_true rfl) stab (fun w0 fz a hI hs => ?_)
 refine wp_seq ?_
 refine wN hs hI [] 750 [] .norm [(1, .ptr 1000 0)] [(1000, bTr (t))] tv fun a w hs => ?_
 refine then_norm ?_
 refine wp_seq ?_
 refine wN hs hI [] 25 [] .norm [(1, .ptr 1000 0), (3, vi 1)] [(1000, bTr (t))] tv fun a w hs => ?_
 refine then_norm ?_
 refine wp_seq ?_
 refine wp_seq ?_
 refine wN hs hI [] 25 [] .norm [(1, .ptr 1000 0), (3, vi 1), (4, vi 0)] [(1000, bTr (t))] tv fun a w hs => ?_
 refine then_norm ?_
 refine wp_block ?_
 refine loop_L (N := Tryz.f64.ntmps) (w0 := w0) (ow := noO fz) (α := Nat) (fun p => [(1, .ptr 1000 0), (3, vi ((1 + nodesL (t.v.take p) : Nat) : Int)), (4, vi (p : Int))]) (fun p => [(1000, bTr (t))]) (fun p => p ≤ t.v.length) (fun p => t.v.length - p) 0 ?_ ?_ ?_
 ·exact Nat.zero_le _
 ·(have e0_ : (1) = (((1 + nodesL (t.v.take 0) : Nat) : Int)) := (by first | rfl | (simp only [List.take_zero, nodesL]; omega)); have e1_ : (0) = (((0 : Nat) : Int)) := (by first | rfl | (simp only [List.take_zero, nodesL]; omega)); exact (hs.cst [(1, .ptr 1000 0), (3, vi ((1 + nodesL (t.v.take 0) : Nat) : Int)), (4, vi ((0 : Nat) : Int))] [(1000, bTr (t))] (by first | (rw [e0_, e1_]; done) | (simp only [e0_, e1_]; done) | rfl | (simp only [e0_, e1_]; rfl))).rm [(1000, 1000)] (by kernel_rfl))
 rintro i hJ a w hs
 have hwt := nodes_eq t
 have hle := nodesL_le t.v i
 have hlen := nodesL_len t.v
 rcases bt (decide ((i : Int) < (t.v.length : Int))) with b1 | b1
 ·skip
  have n1 := of_decide_eq_true b1
  have ht1 := nodesL_take t.v i (by omega)
  have hle1 := nodesL_le t.v (i + 1)
  refine wL hs hI [(5, ⟨[(6, ciV 64 [aTr ((t.v.getD i (dflt .tree)))] (vi ((nodes (t.v.getD i (dflt .tree)) : Nat) : Int)))], [], []⟩)] [true] 284132111119038143165393062500 [ty b1, 0 ≤ (i : Int) ∧ (i : Int) < t.v.length, InR .i64 (((1 + nodesL (t.v.take i) : Nat) : Int) + ((nodes (t.v.getD i (dflt .tree)) : Nat) : Int)), InR .i64 ((i : Int) + 1)] .norm [(1, .ptr 1000 0), (3, vi (((1 + nodesL (t.v.take i) : Nat) : Int) + ((nodes (t.v.getD i (dflt .tree)) : Nat) : Int))), (4, vi ((i : Int) + 1))] [(1000, bTr (t))] ⟨⟨⟨ent64, ih _ (by have h1 := nodes_eq t; have h2 := nodes_at (l := t.v) (i := i) (by omega); omega) (by have := weightL_take t.v i (by omega); have := weightL_le t.v (i + 1); have := nodesL_take t.v i (by omega); have := nodesL_le t.v (i + 1); have := weight_eq t; have := nodes_eq t; omega)⟩, tv⟩, tv⟩ ⟨b1, (by omega), (inR64 (by omega) (by omega)), (inR64 (by omega) (by omega)), tv⟩ fun a w hs => ?_
  refine then_norm ⟨i + 1, by omega, by omega, ?_⟩
  (have e0_ : (((1 + nodesL (t.v.take i) : Nat) : Int) + ((nodes (t.v.getD i (dflt .tree)) : Nat) : Int)) = (((1 + nodesL (t.v.take (i + 1)) : Nat) : Int)) := (by first | rfl | (omega)); have e1_ : ((i : Int) + 1) = ((((i + 1) : Nat) : Int)) := (by first | rfl | (omega)); exact (hs.cst [(1, .ptr 1000 0), (3, vi ((1 + nodesL (t.v.take (i + 1)) : Nat) : Int)), (4, vi (((i + 1) : Nat) : Int))] [(1000, bTr (t))] (by first | (rw [e0_, e1_]; done) | (simp only [e0_, e1_]; done) | rfl | (simp only [e0_, e1_]; rfl))).rm [(1000, 1000)] (by kernel_rfl))
 ·skip
  have n1 := of_decide_eq_false b1
  refine wN hs hI [false] 7434078125 [ty b1] (.exit 0) [(3, vi ((1 + nodesL (t.v.take i) : Nat) : Int))] [] ⟨b1, tv⟩ fun a w hs => ?_
  refine then_exit ?_
  refine inb_hit ?_
  refine then_norm ?_
  refine wN hs hI [] 16375 [] .ret [(2, vi ((1 + nodesL (t.v.take i) : Nat) : Int))] [] tv fun a w hs => ?_
  exact rK (.val (vi ((1 + nodesL (t.v.take i) : Nat) : Int))) [] hs (by have h1 := nodes_eq t; have h2 : t.v.take i = t.v := List.take_of_length_le (by omega); rw [h2, ← h1])
theorem con64 (t : Tree) (h : nodes t < 4611686018427387904) : Con Tryz.prog I0 64 [.agg (encTree t)] (.val (vi ((nodes t : Nat) : Int))) := con64_ (nodes t + 1) t (Nat.lt_succ_self _) h
theorem con66_ : ∀ (n : Nat) (t : Tree), nodes t < n → nodes t < 4611686018427387904 → Con Tryz.prog I0 66 [.agg (encTree t)] (.val (vi ((depth t : Nat) : Int))) := by
 intro n
 induction n
 case zero => intro t hn; omega
 rename_i n ih
 intro t hn hw
 refine con_of Tryz.func66 rfl (Nat.le_of_ble_eq_true rfl) stab (fun w0 fz a hI hs => ?_)
 refine wp_seq ?_
 refine wN hs hI [] 750 [] .norm [(1, .ptr 1000 0)] [(1000, bTr (t))] tv fun a w hs => ?_
 refine then_norm ?_
 refine wp_seq ?_
 refine wN hs hI [] 25 [] .norm [(1, .ptr 1000 0), (3, vi 0)] [(1000, bTr (t))] tv fun a w hs => ?_
 refine then_norm ?_
 refine wp_seq ?_
 refine wp_seq ?_
 refine wN hs hI [] 25 [] .norm [(1, .ptr 1000 0), (3, vi 0), (4, vi 0)] [(1000, bTr (t))] tv fun a w hs => ?_
 refine then_norm ?_
 refine wp_block ?_
 refine loop_L (N := Tryz.f66.ntmps) (w0 := w0) (ow := noO fz) (α := Nat) (fun p => [(1, .ptr 1000 0), (3, vi ((depthL (t.v.take p) : Nat) : Int)), (4, vi (p : Int))]) (fun p => [(1000, bTr (t))]) (fun p => p ≤ t.v.length) (fun p => t.v.length - p) 0 ?_ ?_ ?_
 ·exact Nat.zero_le _
 ·exact (hs.cst [(1, .ptr 1000 0), (3, vi ((depthL (t.v.take 0) : Nat) : Int)), (4, vi ((0 : Nat) : Int))] [(1000, bTr (t))] rfl).rm [(1000, 1000)] (by kernel_rfl)
 rintro i hJ a w hs
 have hwt := nodes_eq t
 have hlen := nodesL_len t.v
 have hdl := depthL_le (t.v.take i)
 have hle := nodesL_le t.v i
 rcases bt (decide ((i : Int) < (t.v.length : Int))) with b1 | b1
 ·skip
  have n1 := of_decide_eq_true b1
  have ht1 := depthL_take t.v i (by omega)
  refine wL hs hI [(5, ⟨[(6, ciV 66 [aTr ((t.v.getD i (dflt .tree)))] (vi ((depth (t.v.getD i (dflt .tree)) : Nat) : Int)))], [], []⟩)] [true] 284132111119033374793811031250 [ty b1, 0 ≤ (i : Int) ∧ (i : Int) < t.v.length, InR .i64 ((i : Int) + 1)] .norm [(1, .ptr 1000 0), (3, vi (max ((depthL (t.v.take i) : Nat) : Int) ((depth (t.v.getD i (dflt .tree)) : Nat) : Int))), (4, vi ((i : Int) + 1))] [(1000, bTr (t))] ⟨⟨⟨ent66, ih _ (by have h1 := nodes_eq t; have h2 := nodes_at (l := t.v) (i := i) (by omega); omega) (by have := weightL_take t.v i (by omega); have := weightL_le t.v (i + 1); have := nodesL_take t.v i (by omega); have := nodesL_le t.v (i + 1); have := weight_eq t; have := nodes_eq t; omega)⟩, tv⟩, tv⟩ ⟨b1, (by omega), (inR64 (by omega) (by omega)), tv⟩ fun a w hs => ?_
  refine then_norm ⟨i + 1, by omega, by omega, ?_⟩
  (have e0_ : (max ((depthL (t.v.take i) : Nat) : Int) ((depth (t.v.getD i (dflt .tree)) : Nat) : Int)) = (((depthL (t.v.take (i + 1)) : Nat) : Int)) := (by first | rfl | (omega)); have e1_ : ((i : Int) + 1) = ((((i + 1) : Nat) : Int)) := (by first | rfl | (omega)); exact (hs.cst [(1, .ptr 1000 0), (3, vi ((depthL (t.v.take (i + 1)) : Nat) : Int)), (4, vi (((i + 1) : Nat) : Int))] [(1000, bTr (t))] (by first | (rw [e0_, e1_]; done) | (simp only [e0_, e1_]; done) | rfl | (simp only [e0_, e1_]; rfl))).rm [(1000, 1000)] (by kernel_rfl))
 ·skip
  have n1 := of_decide_eq_false b1
  refine wN hs hI [false] 7434078125 [ty b1] (.exit 0) [(3, vi ((depthL (t.v.take i) : Nat) : Int))] [] ⟨b1, tv⟩ fun a w hs => ?_
  refine then_exit ?_
  refine inb_hit ?_
  refine then_norm ?_
  refine wN hs hI [] 410010 [InR .i64 (((depthL (t.v.take i) : Nat) : Int) + 1)] .ret [(2, vi (((depthL (t.v.take i) : Nat) : Int) + 1))] [] ⟨(inR64 (by omega) (by omega)), tv⟩ fun a w hs => ?_
  exact rK (.val (vi (((depthL (t.v.take i) : Nat) : Int) + 1))) [] hs (by have h1 := depth_eq t; have h2 : t.v.take i = t.v := List.take_of_length_le (by omega); rw [h2, show (((depthL t.v : Nat) : Int) + 1) = ((depth t : Nat) : Int) by omega])
theorem con66 (t : Tree) (h : nodes t < 4611686018427387904) : Con Tryz.prog I0 66 [.agg (encTree t)] (.val (vi ((depth t : Nat) : Int))) := con66_ (nodes t + 1) t (Nat.lt_succ_self _) h
def zeroF (t : Tree) : Bool := t.kind == 0 && (!t.b && (!t.n.neg && ((t.n.m.length : Int) == 0 && (t.n.e == 0 && ((t.s.toList == (ba []).toList) && ((t.k.length : Int) == 0 && (t.v.length : Int) == 0))))))
def fromF (k : Int) : Bool := k == 4 || k == 5
def valueF (k : Int) : Bool := (k == 1 || k == 3) || k == 6
def wordsL : List ByteArray := [ba [97, 100, 100], ba [114, 101, 109, 111, 118, 101], ba [114, 101, 112, 108, 97, 99, 101], ba [109, 111, 118, 101], ba [99, 111, 112, 121], ba [116, 101, 115, 116]]
def memOk (t : Tree) (x : ByteArray) : Bool := memB t x && ((memV t x).kind == 4)
def exactF (t : Tree) (l : List ByteArray) : Bool := t.kind == 7 && decide (t.k = l)
def textT (s : ByteArray) : Tree := .mk 4 false ⟨false, [], 0⟩ s [] []
theorem con115  : Con Tryz.prog I0 115 [] (.val (.row .str wordsL)) := by
 refine con_of Tryz.func115 rfl (Nat.le_of_ble_eq_true rfl) stab (fun w0 fz a hI hs => ?_)
 refine wN hs hI [] 11812525 [] .ret [(0, .own 2000)] [(2000, .sl 9 .str ([(ba [97, 100, 100]), (ba [114, 101, 109, 111, 118, 101]), (ba [114, 101, 112, 108, 97, 99, 101]), (ba [109, 111, 118, 101]), (ba [99, 111, 112, 121]), (ba [116, 101, 115, 116])]))] tv fun a w hs => ?_
 exact rK (.val (rwS ([(ba [97, 100, 100]), (ba [114, 101, 109, 111, 118, 101]), (ba [114, 101, 112, 108, 97, 99, 101]), (ba [109, 111, 118, 101]), (ba [99, 111, 112, 121]), (ba [116, 101, 115, 116])]))) [2000] hs rfl
theorem con113 (k : Int) : Con Tryz.prog I0 113 [vi k] (.val (vb (fromF k))) := by
 refine con_of Tryz.func113 rfl (Nat.le_of_ble_eq_true rfl) stab (fun w0 fz a hI hs => ?_)
 rcases bt (k == 4) with b1 | b1
 ·skip
  have n1 := eq_of_beq b1
  refine wL hs hI [(1, ⟨[], gg [1005] [3, 4], []⟩)] [] 115394581046900 [ty b1, ty b1, ty b1] .ret [(2, vb true)] [] ⟨tv, tv⟩ ⟨b1, b1, b1, tv⟩ fun a w hs => ?_
  exact rK (.val (vb true)) [] hs (by simp only [fromF, b1]; first | done | rfl)
 ·skip
  have n1 := beq_eq_false_iff_ne.1 b1
  refine wL hs hI [(1, ⟨[], gg [3, 4] [1005], []⟩)] [] 72121619893390650 [ty b1, ty b1, ty b1] .ret [(2, vb (k == 5))] [] ⟨tv, tv⟩ ⟨b1, b1, b1, tv⟩ fun a w hs => ?_
  exact rK (.val (vb (k == 5))) [] hs (by simp only [fromF, b1]; first | done | rfl)
theorem con116 (k : Int) : Con Tryz.prog I0 116 [vi k] (.val (vb (valueF k))) := by
 refine con_of Tryz.func116 rfl (Nat.le_of_ble_eq_true rfl) stab (fun w0 fz a hI hs => ?_)
 rcases bt (k == 1) with b1 | b1
 ·skip
  have n1 := eq_of_beq b1
  refine wL hs hI [(1, ⟨[], gg [1005, 1009] [3, 4, 7, 8], []⟩)] [] 45076012604366203150 [ty b1, ty b1, ty b1, true = true, true = true, true = true] .ret [(2, vb true)] [] ⟨tv, tv⟩ ⟨b1, b1, b1, rfl, rfl, rfl, tv⟩ fun a w hs => ?_
  exact rK (.val (vb true)) [] hs (by simp only [valueF, b1]; first | done | rfl)
 ·skip
  have n1 := beq_eq_false_iff_ne.1 b1
  rcases bt (k == 3) with b2 | b2
  ·skip
   have n2 := eq_of_beq b2
   refine wL hs hI [(1, ⟨[], gg [3, 4, 1009] [1005, 7, 8], []⟩)] [] 28172507881942647296900 [ty b1, ty b1, ty b1, ty b2, ty b2, ty b2] .ret [(2, vb true)] [] ⟨tv, tv⟩ ⟨b1, b1, b1, b2, b2, b2, tv⟩ fun a w hs => ?_
   exact rK (.val (vb true)) [] hs (by simp only [valueF, b1, b2]; first | done | rfl)
  ·skip
   have n2 := beq_eq_false_iff_ne.1 b2
   refine wL hs hI [(1, ⟨[], gg [3, 4, 7, 8] [1005, 1009], []⟩)] [] 17607817426319440205890650 [ty b1, ty b1, ty b1, ty b2, ty b2, ty b2] .ret [(2, vb (k == 6))] [] ⟨tv, tv⟩ ⟨b1, b1, b1, b2, b2, b2, tv⟩ fun a w hs => ?_
   exact rK (.val (vb (k == 6))) [] hs (by simp only [valueF, b1, b2]; first | done | rfl)
theorem con106 (t : Tree) : Con Tryz.prog I0 106 [.agg (encTree t)] (.val (vb (zeroF t))) := by
 refine con_of Tryz.func106 rfl (Nat.le_of_ble_eq_true rfl) stab (fun w0 fz a hI hs => ?_)
 rcases bt (t.kind == 0) with b1 | b1
 ·skip
  have n1 := eq_of_beq b1
  rcases bt (t.b) with b2 | b2
  ·skip
   refine wL hs hI [(1, ⟨[], gg [4, 5, 6, 1007] [9, 10, 11, 12, 1013, 15, 16, 17, 18, 19, 1020, 22, 23, 24, 25, 1026, 28, 29, 30, 1031, 33, 34, 35, 36, 1037, 39, 40, 41, 42, 1043], []⟩)] [] 5965760595733901778426197274951070849135774647032667044545411745707032000 [ty b1, ty b1, ty b1, ty b1, ty (ng1 b2), ty (ng1 b2), ty (ng1 b2), ty (ng1 b2), ty (ng1 b2), false = false, false = false, false = false, false = false, false = false, false = false, false = false, false = false, false = false, false = false, false = false, false = false, false = false, false = false, false = false, false = false, false = false, false = false, false = false, false = false, false = false, false = false, false = false, false = false, false = false] .ret [(2, vb false)] [] ⟨tv, tv⟩ ⟨b1, b1, b1, b1, (ng1 b2), (ng1 b2), (ng1 b2), (ng1 b2), (ng1 b2), rfl, rfl, rfl, rfl, rfl, rfl, rfl, rfl, rfl, rfl, rfl, rfl, rfl, rfl, rfl, rfl, rfl, rfl, rfl, rfl, rfl, rfl, rfl, rfl, rfl, tv⟩ fun a w hs => ?_
   exact rK (.val (vb false)) [] hs (by simp only [zeroF, b1, b2]; first | done | rfl)
  ·skip
   rcases bt (t.n.neg) with b3 | b3
   ·skip
    refine wL hs hI [(1, ⟨[], gg [4, 5, 6, 1007, 9, 10, 11, 12, 1013] [15, 16, 17, 18, 19, 1020, 22, 23, 24, 25, 1026, 28, 29, 30, 1031, 33, 34, 35, 36, 1037, 39, 40, 41, 42, 1043], []⟩)] [] 2330375232708555382197733310527762055423123088704070141597182179490725199219500 [ty b1, ty b1, ty b1, ty b1, ty (ng0 b2), ty (ng0 b2), ty (ng0 b2), ty (ng0 b2), ty (ng0 b2), ty (ng1 b3), ty (ng1 b3), ty (ng1 b3), ty (ng1 b3), ty (ng1 b3), ty (ng1 b3), false = false, false = false, false = false, false = false, false = false, false = false, false = false, false = false, false = false, false = false, false = false, false = false, false = false, false = false, false = false, false = false, false = false, false = false, false = false] .ret [(2, vb false)] [] ⟨tv, tv⟩ ⟨b1, b1, b1, b1, (ng0 b2), (ng0 b2), (ng0 b2), (ng0 b2), (ng0 b2), (ng1 b3), (ng1 b3), (ng1 b3), (ng1 b3), (ng1 b3), (ng1 b3), rfl, rfl, rfl, rfl, rfl, rfl, rfl, rfl, rfl, rfl, rfl, rfl, rfl, rfl, rfl, rfl, rfl, rfl, rfl, tv⟩ fun a w hs => ?_
    exact rK (.val (vb false)) [] hs (by simp only [zeroF, b1, b2, b3]; first | done | rfl)
   ·skip
    rcases bt ((t.n.m.length : Int) == 0) with b4 | b4
    ·skip
     have n4 := eq_of_beq b4
     rcases bt (t.n.e == 0) with b5 | b5
     ·skip
      have n5 := eq_of_beq b5
      rcases bt (t.s.toList == (ba []).toList) with b6 | b6
      ·skip
       have n6 := eq_of_beq b6
       rcases bt ((t.k.length : Int) == 0) with b7 | b7
       ·skip
        have n7 := eq_of_beq b7
        refine wL hs hI [(1, ⟨[], gg [4, 5, 6, 1007, 9, 10, 11, 12, 1013, 15, 16, 17, 18, 19, 1020, 22, 23, 24, 25, 1026, 28, 29, 30, 1031, 33, 34, 35, 36, 1037, 39, 40, 41, 42, 1043] [], []⟩)] [] 21194639272912858197721409947259981485613961870882300275790419411007260245642195665520072604219118753907000 [ty b1, ty b1, ty b1, ty b1, ty (ng0 b2), ty (ng0 b2), ty (ng0 b2), ty (ng0 b2), ty (ng0 b2), ty (ng0 b3), ty (ng0 b3), ty (ng0 b3), ty (ng0 b3), ty (ng0 b3), ty (ng0 b3), ty b4, ty b4, ty b4, ty b4, ty b4, ty b5, ty b5, ty b5, ty b5, ty b6, ty b6, ty b6, ty b6, ty b6, ty b7, ty b7, ty b7, ty b7, ty b7] .ret [(2, vb ((t.v.length : Int) == 0))] [] ⟨tv, tv⟩ ⟨b1, b1, b1, b1, (ng0 b2), (ng0 b2), (ng0 b2), (ng0 b2), (ng0 b2), (ng0 b3), (ng0 b3), (ng0 b3), (ng0 b3), (ng0 b3), (ng0 b3), b4, b4, b4, b4, b4, b5, b5, b5, b5, b6, b6, b6, b6, b6, b7, b7, b7, b7, b7, tv⟩ fun a w hs => ?_
        exact rK (.val (vb ((t.v.length : Int) == 0))) [] hs (by simp only [zeroF, b1, b2, b3, b4, b5, b6, b7]; first | done | rfl)
       ·skip
        have n7 := beq_eq_false_iff_ne.1 b7
        refine wL hs hI [(1, ⟨[], gg [4, 5, 6, 1007, 9, 10, 11, 12, 1013, 15, 16, 17, 18, 19, 1020, 22, 23, 24, 25, 1026, 28, 29, 30, 1031, 33, 34, 35, 36, 1037] [39, 40, 41, 42, 1043], []⟩)] [] 54258276538656916986166809464985552603171742389457473044337574320331955372391045481587449709574219500 [ty b1, ty b1, ty b1, ty b1, ty (ng0 b2), ty (ng0 b2), ty (ng0 b2), ty (ng0 b2), ty (ng0 b2), ty (ng0 b3), ty (ng0 b3), ty (ng0 b3), ty (ng0 b3), ty (ng0 b3), ty (ng0 b3), ty b4, ty b4, ty b4, ty b4, ty b4, ty b5, ty b5, ty b5, ty b5, ty b6, ty b6, ty b6, ty b6, ty b6, ty b7, ty b7, ty b7, ty b7, ty b7] .ret [(2, vb false)] [] ⟨tv, tv⟩ ⟨b1, b1, b1, b1, (ng0 b2), (ng0 b2), (ng0 b2), (ng0 b2), (ng0 b2), (ng0 b3), (ng0 b3), (ng0 b3), (ng0 b3), (ng0 b3), (ng0 b3), b4, b4, b4, b4, b4, b5, b5, b5, b5, b6, b6, b6, b6, b6, b7, b7, b7, b7, b7, tv⟩ fun a w hs => ?_
        exact rK (.val (vb false)) [] hs (by simp only [zeroF, b1, b2, b3, b4, b5, b6, b7]; first | done | rfl)
      ·skip
       have n6 := beq_eq_false_iff_ne.1 b6
       refine wL hs hI [(1, ⟨[], gg [4, 5, 6, 1007, 9, 10, 11, 12, 1013, 15, 16, 17, 18, 19, 1020, 22, 23, 24, 25, 1026, 28, 29, 30, 1031] [33, 34, 35, 36, 1037, 39, 40, 41, 42, 1043], []⟩)] [] 138901187938961707484587032230363014664119660515066028997367234924335358906925345460573832032000 [ty b1, ty b1, ty b1, ty b1, ty (ng0 b2), ty (ng0 b2), ty (ng0 b2), ty (ng0 b2), ty (ng0 b2), ty (ng0 b3), ty (ng0 b3), ty (ng0 b3), ty (ng0 b3), ty (ng0 b3), ty (ng0 b3), ty b4, ty b4, ty b4, ty b4, ty b4, ty b5, ty b5, ty b5, ty b5, ty b6, ty b6, ty b6, ty b6, ty b6, false = false, false = false, false = false, false = false, false = false] .ret [(2, vb false)] [] ⟨tv, tv⟩ ⟨b1, b1, b1, b1, (ng0 b2), (ng0 b2), (ng0 b2), (ng0 b2), (ng0 b2), (ng0 b3), (ng0 b3), (ng0 b3), (ng0 b3), (ng0 b3), (ng0 b3), b4, b4, b4, b4, b4, b5, b5, b5, b5, b6, b6, b6, b6, b6, rfl, rfl, rfl, rfl, rfl, tv⟩ fun a w hs => ?_
       exact rK (.val (vb false)) [] hs (by simp only [zeroF, b1, b2, b3, b4, b5, b6]; first | done | rfl)
     ·skip
      have n5 := beq_eq_false_iff_ne.1 b5
      refine wL hs hI [(1, ⟨[], gg [4, 5, 6, 1007, 9, 10, 11, 12, 1013, 15, 16, 17, 18, 19, 1020, 22, 23, 24, 25, 1026] [28, 29, 30, 1031, 33, 34, 35, 36, 1037, 39, 40, 41, 42, 1043], []⟩)] [] 8889676028093549279013570062743232938503658257503158685023751199120548941815892855326172625 [ty b1, ty b1, ty b1, ty b1, ty (ng0 b2), ty (ng0 b2), ty (ng0 b2), ty (ng0 b2), ty (ng0 b2), ty (ng0 b3), ty (ng0 b3), ty (ng0 b3), ty (ng0 b3), ty (ng0 b3), ty (ng0 b3), ty b4, ty b4, ty b4, ty b4, ty b4, ty b5, ty b5, ty b5, ty b5, false = false, false = false, false = false, false = false, false = false, false = false, false = false, false = false, false = false, false = false] .ret [(2, vb false)] [] ⟨tv, tv⟩ ⟨b1, b1, b1, b1, (ng0 b2), (ng0 b2), (ng0 b2), (ng0 b2), (ng0 b2), (ng0 b3), (ng0 b3), (ng0 b3), (ng0 b3), (ng0 b3), (ng0 b3), b4, b4, b4, b4, b4, b5, b5, b5, b5, rfl, rfl, rfl, rfl, rfl, rfl, rfl, rfl, rfl, rfl, tv⟩ fun a w hs => ?_
      exact rK (.val (vb false)) [] hs (by simp only [zeroF, b1, b2, b3, b4, b5]; first | done | rfl)
    ·skip
     have n4 := beq_eq_false_iff_ne.1 b4
     refine wL hs hI [(1, ⟨[], gg [4, 5, 6, 1007, 9, 10, 11, 12, 1013, 15, 16, 17, 18, 19, 1020] [22, 23, 24, 25, 1026, 28, 29, 30, 1031, 33, 34, 35, 36, 1037, 39, 40, 41, 42, 1043], []⟩)] [] 22757570631919486154274739360622676322569340241902500198988642902501548329989115235125 [ty b1, ty b1, ty b1, ty b1, ty (ng0 b2), ty (ng0 b2), ty (ng0 b2), ty (ng0 b2), ty (ng0 b2), ty (ng0 b3), ty (ng0 b3), ty (ng0 b3), ty (ng0 b3), ty (ng0 b3), ty (ng0 b3), ty b4, ty b4, ty b4, ty b4, ty b4, false = false, false = false, false = false, false = false, false = false, false = false, false = false, false = false, false = false, false = false, false = false, false = false, false = false, false = false] .ret [(2, vb false)] [] ⟨tv, tv⟩ ⟨b1, b1, b1, b1, (ng0 b2), (ng0 b2), (ng0 b2), (ng0 b2), (ng0 b2), (ng0 b3), (ng0 b3), (ng0 b3), (ng0 b3), (ng0 b3), (ng0 b3), b4, b4, b4, b4, b4, rfl, rfl, rfl, rfl, rfl, rfl, rfl, rfl, rfl, rfl, rfl, rfl, rfl, rfl, tv⟩ fun a w hs => ?_
     exact rK (.val (vb false)) [] hs (by simp only [zeroF, b1, b2, b3, b4]; first | done | rfl)
 ·skip
  have n1 := beq_eq_false_iff_ne.1 b1
  refine wL hs hI [(1, ⟨[], gg [] [4, 5, 6, 1007, 9, 10, 11, 12, 1013, 15, 16, 17, 18, 19, 1020, 22, 23, 24, 25, 1026, 28, 29, 30, 1031, 33, 34, 35, 36, 1037, 39, 40, 41, 42, 1043], []⟩)] [] 381808678126969713819276625596868433019039766758211702070233763672625 [ty b1, ty b1, ty b1, ty b1, false = false, false = false, false = false, false = false, false = false, false = false, false = false, false = false, false = false, false = false, false = false, false = false, false = false, false = false, false = false, false = false, false = false, false = false, false = false, false = false, false = false, false = false, false = false, false = false, false = false, false = false, false = false, false = false, false = false, false = false] .ret [(2, vb false)] [] ⟨tv, tv⟩ ⟨b1, b1, b1, b1, rfl, rfl, rfl, rfl, rfl, rfl, rfl, rfl, rfl, rfl, rfl, rfl, rfl, rfl, rfl, rfl, rfl, rfl, rfl, rfl, rfl, rfl, rfl, rfl, rfl, rfl, rfl, rfl, rfl, rfl, tv⟩ fun a w hs => ?_
  exact rK (.val (vb false)) [] hs (by simp only [zeroF, b1]; first | done | rfl)
theorem con210 (t : Tree) : Con Tryz.prog I0 210 [.agg (encTree t)] (.val (vb (zeroF t))) := by
 refine con_of Tryz.func210 rfl (Nat.le_of_ble_eq_true rfl) stab (fun w0 fz a hI hs => ?_)
 rcases bt (t.kind == 0) with b1 | b1
 ·skip
  have n1 := eq_of_beq b1
  rcases bt (t.b) with b2 | b2
  ·skip
   refine wL hs hI [(1, ⟨[], gg [4, 5, 6, 1007] [9, 10, 11, 12, 1013, 15, 16, 17, 18, 19, 1020, 22, 23, 24, 25, 1026, 28, 29, 30, 1031, 33, 34, 35, 36, 1037, 39, 40, 41, 42, 1043], []⟩)] [] 5965760595733901778426197274951070849135774647032667044545411745707032000 [ty b1, ty b1, ty b1, ty b1, ty (ng1 b2), ty (ng1 b2), ty (ng1 b2), ty (ng1 b2), ty (ng1 b2), false = false, false = false, false = false, false = false, false = false, false = false, false = false, false = false, false = false, false = false, false = false, false = false, false = false, false = false, false = false, false = false, false = false, false = false, false = false, false = false, false = false, false = false, false = false, false = false, false = false] .ret [(2, vb false)] [] ⟨tv, tv⟩ ⟨b1, b1, b1, b1, (ng1 b2), (ng1 b2), (ng1 b2), (ng1 b2), (ng1 b2), rfl, rfl, rfl, rfl, rfl, rfl, rfl, rfl, rfl, rfl, rfl, rfl, rfl, rfl, rfl, rfl, rfl, rfl, rfl, rfl, rfl, rfl, rfl, rfl, rfl, tv⟩ fun a w hs => ?_
   exact rK (.val (vb false)) [] hs (by simp only [zeroF, b1, b2]; first | done | rfl)
  ·skip
   rcases bt (t.n.neg) with b3 | b3
   ·skip
    refine wL hs hI [(1, ⟨[], gg [4, 5, 6, 1007, 9, 10, 11, 12, 1013] [15, 16, 17, 18, 19, 1020, 22, 23, 24, 25, 1026, 28, 29, 30, 1031, 33, 34, 35, 36, 1037, 39, 40, 41, 42, 1043], []⟩)] [] 2330375232708555382197733310527762055423123088704070141597182179490725199219500 [ty b1, ty b1, ty b1, ty b1, ty (ng0 b2), ty (ng0 b2), ty (ng0 b2), ty (ng0 b2), ty (ng0 b2), ty (ng1 b3), ty (ng1 b3), ty (ng1 b3), ty (ng1 b3), ty (ng1 b3), ty (ng1 b3), false = false, false = false, false = false, false = false, false = false, false = false, false = false, false = false, false = false, false = false, false = false, false = false, false = false, false = false, false = false, false = false, false = false, false = false, false = false] .ret [(2, vb false)] [] ⟨tv, tv⟩ ⟨b1, b1, b1, b1, (ng0 b2), (ng0 b2), (ng0 b2), (ng0 b2), (ng0 b2), (ng1 b3), (ng1 b3), (ng1 b3), (ng1 b3), (ng1 b3), (ng1 b3), rfl, rfl, rfl, rfl, rfl, rfl, rfl, rfl, rfl, rfl, rfl, rfl, rfl, rfl, rfl, rfl, rfl, rfl, rfl, tv⟩ fun a w hs => ?_
    exact rK (.val (vb false)) [] hs (by simp only [zeroF, b1, b2, b3]; first | done | rfl)
   ·skip
    rcases bt ((t.n.m.length : Int) == 0) with b4 | b4
    ·skip
     have n4 := eq_of_beq b4
     rcases bt (t.n.e == 0) with b5 | b5
     ·skip
      have n5 := eq_of_beq b5
      rcases bt (t.s.toList == (ba []).toList) with b6 | b6
      ·skip
       have n6 := eq_of_beq b6
       rcases bt ((t.k.length : Int) == 0) with b7 | b7
       ·skip
        have n7 := eq_of_beq b7
        refine wL hs hI [(1, ⟨[], gg [4, 5, 6, 1007, 9, 10, 11, 12, 1013, 15, 16, 17, 18, 19, 1020, 22, 23, 24, 25, 1026, 28, 29, 30, 1031, 33, 34, 35, 36, 1037, 39, 40, 41, 42, 1043] [], []⟩)] [] 21194639272912858197721409947259981485613961870882300275790419411007260245642195665520072604219118753907000 [ty b1, ty b1, ty b1, ty b1, ty (ng0 b2), ty (ng0 b2), ty (ng0 b2), ty (ng0 b2), ty (ng0 b2), ty (ng0 b3), ty (ng0 b3), ty (ng0 b3), ty (ng0 b3), ty (ng0 b3), ty (ng0 b3), ty b4, ty b4, ty b4, ty b4, ty b4, ty b5, ty b5, ty b5, ty b5, ty b6, ty b6, ty b6, ty b6, ty b6, ty b7, ty b7, ty b7, ty b7, ty b7] .ret [(2, vb ((t.v.length : Int) == 0))] [] ⟨tv, tv⟩ ⟨b1, b1, b1, b1, (ng0 b2), (ng0 b2), (ng0 b2), (ng0 b2), (ng0 b2), (ng0 b3), (ng0 b3), (ng0 b3), (ng0 b3), (ng0 b3), (ng0 b3), b4, b4, b4, b4, b4, b5, b5, b5, b5, b6, b6, b6, b6, b6, b7, b7, b7, b7, b7, tv⟩ fun a w hs => ?_
        exact rK (.val (vb ((t.v.length : Int) == 0))) [] hs (by simp only [zeroF, b1, b2, b3, b4, b5, b6, b7]; first | done | rfl)
       ·skip
        have n7 := beq_eq_false_iff_ne.1 b7
        refine wL hs hI [(1, ⟨[], gg [4, 5, 6, 1007, 9, 10, 11, 12, 1013, 15, 16, 17, 18, 19, 1020, 22, 23, 24, 25, 1026, 28, 29, 30, 1031, 33, 34, 35, 36, 1037] [39, 40, 41, 42, 1043], []⟩)] [] 54258276538656916986166809464985552603171742389457473044337574320331955372391045481587449709574219500 [ty b1, ty b1, ty b1, ty b1, ty (ng0 b2), ty (ng0 b2), ty (ng0 b2), ty (ng0 b2), ty (ng0 b2), ty (ng0 b3), ty (ng0 b3), ty (ng0 b3), ty (ng0 b3), ty (ng0 b3), ty (ng0 b3), ty b4, ty b4, ty b4, ty b4, ty b4, ty b5, ty b5, ty b5, ty b5, ty b6, ty b6, ty b6, ty b6, ty b6, ty b7, ty b7, ty b7, ty b7, ty b7] .ret [(2, vb false)] [] ⟨tv, tv⟩ ⟨b1, b1, b1, b1, (ng0 b2), (ng0 b2), (ng0 b2), (ng0 b2), (ng0 b2), (ng0 b3), (ng0 b3), (ng0 b3), (ng0 b3), (ng0 b3), (ng0 b3), b4, b4, b4, b4, b4, b5, b5, b5, b5, b6, b6, b6, b6, b6, b7, b7, b7, b7, b7, tv⟩ fun a w hs => ?_
        exact rK (.val (vb false)) [] hs (by simp only [zeroF, b1, b2, b3, b4, b5, b6, b7]; first | done | rfl)
      ·skip
       have n6 := beq_eq_false_iff_ne.1 b6
       refine wL hs hI [(1, ⟨[], gg [4, 5, 6, 1007, 9, 10, 11, 12, 1013, 15, 16, 17, 18, 19, 1020, 22, 23, 24, 25, 1026, 28, 29, 30, 1031] [33, 34, 35, 36, 1037, 39, 40, 41, 42, 1043], []⟩)] [] 138901187938961707484587032230363014664119660515066028997367234924335358906925345460573832032000 [ty b1, ty b1, ty b1, ty b1, ty (ng0 b2), ty (ng0 b2), ty (ng0 b2), ty (ng0 b2), ty (ng0 b2), ty (ng0 b3), ty (ng0 b3), ty (ng0 b3), ty (ng0 b3), ty (ng0 b3), ty (ng0 b3), ty b4, ty b4, ty b4, ty b4, ty b4, ty b5, ty b5, ty b5, ty b5, ty b6, ty b6, ty b6, ty b6, ty b6, false = false, false = false, false = false, false = false, false = false] .ret [(2, vb false)] [] ⟨tv, tv⟩ ⟨b1, b1, b1, b1, (ng0 b2), (ng0 b2), (ng0 b2), (ng0 b2), (ng0 b2), (ng0 b3), (ng0 b3), (ng0 b3), (ng0 b3), (ng0 b3), (ng0 b3), b4, b4, b4, b4, b4, b5, b5, b5, b5, b6, b6, b6, b6, b6, rfl, rfl, rfl, rfl, rfl, tv⟩ fun a w hs => ?_
       exact rK (.val (vb false)) [] hs (by simp only [zeroF, b1, b2, b3, b4, b5, b6]; first | done | rfl)
     ·skip
      have n5 := beq_eq_false_iff_ne.1 b5
      refine wL hs hI [(1, ⟨[], gg [4, 5, 6, 1007, 9, 10, 11, 12, 1013, 15, 16, 17, 18, 19, 1020, 22, 23, 24, 25, 1026] [28, 29, 30, 1031, 33, 34, 35, 36, 1037, 39, 40, 41, 42, 1043], []⟩)] [] 8889676028093549279013570062743232938503658257503158685023751199120548941815892855326172625 [ty b1, ty b1, ty b1, ty b1, ty (ng0 b2), ty (ng0 b2), ty (ng0 b2), ty (ng0 b2), ty (ng0 b2), ty (ng0 b3), ty (ng0 b3), ty (ng0 b3), ty (ng0 b3), ty (ng0 b3), ty (ng0 b3), ty b4, ty b4, ty b4, ty b4, ty b4, ty b5, ty b5, ty b5, ty b5, false = false, false = false, false = false, false = false, false = false, false = false, false = false, false = false, false = false, false = false] .ret [(2, vb false)] [] ⟨tv, tv⟩ ⟨b1, b1, b1, b1, (ng0 b2), (ng0 b2), (ng0 b2), (ng0 b2), (ng0 b2), (ng0 b3), (ng0 b3), (ng0 b3), (ng0 b3), (ng0 b3), (ng0 b3), b4, b4, b4, b4, b4, b5, b5, b5, b5, rfl, rfl, rfl, rfl, rfl, rfl, rfl, rfl, rfl, rfl, tv⟩ fun a w hs => ?_
      exact rK (.val (vb false)) [] hs (by simp only [zeroF, b1, b2, b3, b4, b5]; first | done | rfl)
    ·skip
     have n4 := beq_eq_false_iff_ne.1 b4
     refine wL hs hI [(1, ⟨[], gg [4, 5, 6, 1007, 9, 10, 11, 12, 1013, 15, 16, 17, 18, 19, 1020] [22, 23, 24, 25, 1026, 28, 29, 30, 1031, 33, 34, 35, 36, 1037, 39, 40, 41, 42, 1043], []⟩)] [] 22757570631919486154274739360622676322569340241902500198988642902501548329989115235125 [ty b1, ty b1, ty b1, ty b1, ty (ng0 b2), ty (ng0 b2), ty (ng0 b2), ty (ng0 b2), ty (ng0 b2), ty (ng0 b3), ty (ng0 b3), ty (ng0 b3), ty (ng0 b3), ty (ng0 b3), ty (ng0 b3), ty b4, ty b4, ty b4, ty b4, ty b4, false = false, false = false, false = false, false = false, false = false, false = false, false = false, false = false, false = false, false = false, false = false, false = false, false = false, false = false] .ret [(2, vb false)] [] ⟨tv, tv⟩ ⟨b1, b1, b1, b1, (ng0 b2), (ng0 b2), (ng0 b2), (ng0 b2), (ng0 b2), (ng0 b3), (ng0 b3), (ng0 b3), (ng0 b3), (ng0 b3), (ng0 b3), b4, b4, b4, b4, b4, rfl, rfl, rfl, rfl, rfl, rfl, rfl, rfl, rfl, rfl, rfl, rfl, rfl, rfl, tv⟩ fun a w hs => ?_
     exact rK (.val (vb false)) [] hs (by simp only [zeroF, b1, b2, b3, b4]; first | done | rfl)
 ·skip
  have n1 := beq_eq_false_iff_ne.1 b1
  refine wL hs hI [(1, ⟨[], gg [] [4, 5, 6, 1007, 9, 10, 11, 12, 1013, 15, 16, 17, 18, 19, 1020, 22, 23, 24, 25, 1026, 28, 29, 30, 1031, 33, 34, 35, 36, 1037, 39, 40, 41, 42, 1043], []⟩)] [] 381808678126969713819276625596868433019039766758211702070233763672625 [ty b1, ty b1, ty b1, ty b1, false = false, false = false, false = false, false = false, false = false, false = false, false = false, false = false, false = false, false = false, false = false, false = false, false = false, false = false, false = false, false = false, false = false, false = false, false = false, false = false, false = false, false = false, false = false, false = false, false = false, false = false, false = false, false = false, false = false, false = false] .ret [(2, vb false)] [] ⟨tv, tv⟩ ⟨b1, b1, b1, b1, rfl, rfl, rfl, rfl, rfl, rfl, rfl, rfl, rfl, rfl, rfl, rfl, rfl, rfl, rfl, rfl, rfl, rfl, rfl, rfl, rfl, rfl, rfl, rfl, rfl, rfl, rfl, rfl, rfl, rfl, tv⟩ fun a w hs => ?_
  exact rK (.val (vb false)) [] hs (by simp only [zeroF, b1]; first | done | rfl)
theorem con56 (s : ByteArray) : Con Tryz.prog I0 56 [vs s] (.val (.agg (encTree (textT s)))) := by
 refine con_of Tryz.func56 rfl (Nat.le_of_ble_eq_true rfl) stab (fun w0 fz a hI hs => ?_)
 refine wN hs hI [] 295390650 [] .ret [(2, .ptr 1000 0)] [(1000, .var [vi 4, vb false, vb false, nilv, vi 0, vs s, nilv, nilv])] tv fun a w hs => ?_
 exact rK (.val (.agg [vi 4, vb false, vb false, rwU ([]), vi 0, vs s, rwS ([]), rwT ([])])) [] hs rfl
theorem con118y (b : Bool) (e : Int) (h : b = true) : Con Tryz.prog I0 118 [vb b, vi e] (.val (.tup [])) := by
 refine con_of Tryz.func118 rfl (Nat.le_of_ble_eq_true rfl) stab (fun w0 fz a hI hs => ?_)
 have b1 : (b) = true := by exact h
 refine wN hs hI [false] 475750 [ty (ng1 b1)] .norm [] [] ⟨(ng1 b1), tv⟩ fun a w hs => ?_
 exact nK (.val (.tup [])) [] hs rfl
theorem con118n (b : Bool) (e : Int) (h : b = false) : Con Tryz.prog I0 118 [vb b, vi e] (.thr (.iface 38 (.int .i64 e))) := by
 refine con_of Tryz.func118 rfl (Nat.le_of_ble_eq_true rfl) stab (fun w0 fz a hI hs => ?_)
 have b1 : (b) = false := by exact h
 refine wN hs hI [true] 304694500 [ty (ng0 b1)] (.thr (.iface 38 (.int .i64 e))) [] [] ⟨(ng0 b1), tv⟩ fun a w hs => ?_
 exact tK (.iface 38 (.int .i64 e)) hs rfl
theorem con121y (t : Tree) (x : ByteArray) (hk : (cutK t).length < 1000000000) (h : memOk t x = true) : Con Tryz.prog I0 121 [.agg (encTree t), vs x] (.val (vs ((memV t x).s))) := by
 have hm := h
 simp only [memOk, Bool.and_eq_true] at hm
 have h1 := hm.1
 have h2 := hm.2
 refine con_of Tryz.func121 rfl (Nat.le_of_ble_eq_true rfl) stab (fun w0 fz a hI hs => ?_)
 have b1 : (memB t x) = true := by exact h1
 have b2 : (((memV t x).kind) == 4) = true := by exact h2
 refine wL hs hI [(1, ⟨[(2, ciV 122 [aTr (t), vs x] (.tup [aTr ((memV t x)), vb (memB t x)]))], [], []⟩), (2, ⟨[(6, ciV 118 [vb (((memV t x).kind) == 4), vi 2] (.tup []))], gg [2, 3, 4, 1005] [], []⟩)] [] 1732498596140885308462396264068603750750 [ty b1, ty b1, ty b1, ty b1] .ret [(4, vs ((memV t x).s))] [] ⟨⟨⟨ent122, con122 _ _ (by omega)⟩, tv⟩, ⟨⟨ent118, con118y _ _ (by first | rfl | assumption | (simp_all; done))⟩, tv⟩, tv⟩ ⟨b1, b1, b1, b1, tv⟩ fun a w hs => ?_
 exact rK (.val (vs ((memV t x).s))) [] hs rfl
theorem con121n (t : Tree) (x : ByteArray) (hk : (cutK t).length < 1000000000) (h : memOk t x = false) : Con Tryz.prog I0 121 [.agg (encTree t), vs x] (.thr (.iface 38 (.int .i64 2))) := by
 refine con_of Tryz.func121 rfl (Nat.le_of_ble_eq_true rfl) stab (fun w0 fz a hI hs => ?_)
 rcases bt (memB t x) with b1 | b1
 ·skip
  rcases bt (((memV t x).kind) == 4) with b2 | b2
  ·exact absurd h (by simp [memOk, b1, b2])
  ·skip
   have n2 := beq_eq_false_iff_ne.1 b2
   refine wL hs hI [(1, ⟨[(2, ciV 122 [aTr (t), vs x] (.tup [aTr ((memV t x)), vb (memB t x)]))], [], []⟩), (2, ⟨[(6, ciA 118 [vb (((memV t x).kind) == 4), vi 2] [] [] (.thr (.iface 38 (.int .i64 2))))], gg [2, 3, 4, 1005] [], []⟩)] [] 7105427609834089875213623282000 [ty b1, ty b1, ty b1, ty b1] (.thr (.iface 38 (.int .i64 2))) [] [] ⟨⟨⟨ent122, con122 _ _ (by omega)⟩, tv⟩, ⟨⟨ent118, con118n _ _ (by first | rfl | assumption | (simp_all; done))⟩, tv⟩, tv⟩ ⟨b1, b1, b1, b1, tv⟩ fun a w hs => ?_
   exact tK (.iface 38 (.int .i64 2)) hs rfl
 ·skip
  refine wL hs hI [(1, ⟨[(2, ciV 122 [aTr (t), vs x] (.tup [aTr ((memV t x)), vb (memB t x)]))], [], []⟩), (2, ⟨[(6, ciA 118 [vb false, vi 2] [] [] (.thr (.iface 38 (.int .i64 2))))], gg [] [2, 3, 4, 1005], []⟩)] [] 454749445632100097656485125 [ty b1, ty b1, ty b1, ty b1] (.thr (.iface 38 (.int .i64 2))) [] [] ⟨⟨⟨ent122, con122 _ _ (by omega)⟩, tv⟩, ⟨⟨ent118, con118n _ _ (by first | rfl | assumption | (simp_all; done))⟩, tv⟩, tv⟩ ⟨b1, b1, b1, b1, tv⟩ fun a w hs => ?_
  exact tK (.iface 38 (.int .i64 2)) hs rfl
theorem con120y (t : Tree) (l : List ByteArray) (hk : t.k.length < 1000000000) (hl : l.length < 1000000000) (h : exactF t l = true) : Con Tryz.prog I0 120 [.agg (encTree t), .row .str l] (.val (.tup [])) := by
 have hm := h
 simp only [exactF, Bool.and_eq_true] at hm
 have h1 := hm.1
 have h2 := hm.2
 refine con_of Tryz.func120 rfl (Nat.le_of_ble_eq_true rfl) stab (fun w0 fz a hI hs => ?_)
 have b1 : (t.kind == 7) = true := by exact h1
 have b2 : (decide (t.k = l)) = true := by exact h2
 refine wL hs hI [(1, ⟨[(7, ciV 134 [rwS t.k, rwS l] (vb (decide (t.k = l)))), (9, ciV 118 [vb (decide (t.k = l)), vi 2] (.tup []))], gg [4, 5, 6, 7, 1008] [], []⟩)] [] 29103830456319681796900 [ty b1, ty b1, ty b1, ty b1, ty b1] .norm [] [] ⟨⟨⟨ent134, con134 _ _ (by omega) (by omega)⟩, ⟨ent118, con118y _ _ (by first | rfl | assumption | (simp_all; done))⟩, tv⟩, tv⟩ ⟨b1, b1, b1, b1, b1, tv⟩ fun a w hs => ?_
 exact nK (.val (.tup [])) [] hs rfl
theorem con120n (t : Tree) (l : List ByteArray) (hk : t.k.length < 1000000000) (hl : l.length < 1000000000) (h : exactF t l = false) : Con Tryz.prog I0 120 [.agg (encTree t), .row .str l] (.thr (.iface 38 (.int .i64 2))) := by
 refine con_of Tryz.func120 rfl (Nat.le_of_ble_eq_true rfl) stab (fun w0 fz a hI hs => ?_)
 rcases bt (t.kind == 7) with b1 | b1
 ·skip
  have n1 := eq_of_beq b1
  rcases bt (decide (t.k = l)) with b2 | b2
  ·exact absurd h (by simp [exactF, b1, b2])
  ·skip
   have n2 := of_decide_eq_false b2
   refine wL hs hI [(1, ⟨[(7, ciV 134 [rwS t.k, rwS l] (vb (decide (t.k = l)))), (9, ciA 118 [vb (decide (t.k = l)), vi 2] [] [] (.thr (.iface 38 (.int .i64 2))))], gg [4, 5, 6, 7, 1008] [], []⟩)] [] 1164153218618265781275 [ty b1, ty b1, ty b1, ty b1, ty b1] (.thr (.iface 38 (.int .i64 2))) [] [] ⟨⟨⟨ent134, con134 _ _ (by omega) (by omega)⟩, ⟨ent118, con118n _ _ (by first | rfl | assumption | (simp_all; done))⟩, tv⟩, tv⟩ ⟨b1, b1, b1, b1, b1, tv⟩ fun a w hs => ?_
   exact tK (.iface 38 (.int .i64 2)) hs rfl
 ·skip
  have n1 := beq_eq_false_iff_ne.1 b1
  refine wL hs hI [(1, ⟨[(9, ciA 118 [vb false, vi 2] [] [] (.thr (.iface 38 (.int .i64 2))))], gg [] [4, 5, 6, 7, 1008], []⟩)] [] 2980232788046900 [ty b1, ty b1, ty b1, ty b1, ty b1] (.thr (.iface 38 (.int .i64 2))) [] [] ⟨⟨⟨ent118, con118n _ _ (by first | rfl | assumption | (simp_all; done))⟩, tv⟩, tv⟩ ⟨b1, b1, b1, b1, b1, tv⟩ fun a w hs => ?_
  exact tK (.iface 38 (.int .i64 2)) hs rfl
def badTok (s : ByteArray) : Bool := decide ((s.size : Int) > 2000) || !X.validAt s s.size 0
def pathOk (p : List ByteArray) : Bool := decide ((p.length : Int) ≤ 63) && !(p.any badTok)
def oneF (x : Opn) : Bool :=
 if (x.op == 4 || x.op == 5) = true then pathOk x.path && (pathOk x.frm && zeroF x.value)
 else if ((x.op == 1 || x.op == 3) || x.op == 6) = true then pathOk x.path && ((x.frm.length : Int) == 0 && validT x.value)
 else if (x.op == 2) = true then pathOk x.path && ((x.frm.length : Int) == 0 && zeroF x.value) else false
def opsF (l : List Opn) : Bool := decide ((l.length : Int) ≤ 60) && !(l.any fun x => !oneF x)
def fineO (x : Opn) : Prop := x.path.length < 1000000000 ∧ x.frm.length < 1000000000 ∧ fineT x.value
theorem con248 (s : ByteArray) : Con Tryz.prog I0 248 [vs s] (.val (vb (badTok s))) := by
 refine con_of Tryz.func248 rfl (Nat.le_of_ble_eq_true rfl) stab (fun w0 fz a hI hs => ?_)
 rcases bt (decide ((s.size : Int) > 2000)) with b1 | b1
 ·skip
  have n1 := of_decide_eq_true b1
  refine wL hs hI [(1, ⟨[], gg [1007] [4, 5, 6], []⟩)] [] 72121619897421900 [ty b1, ty b1, ty b1, ty b1] .ret [(2, vb true)] [] ⟨tv, tv⟩ ⟨b1, b1, b1, b1, tv⟩ fun a w hs => ?_
  exact rK (.val (vb true)) [] hs (by simp only [badTok, b1]; first | done | rfl)
 ·skip
  have n1 := of_decide_eq_false b1
  refine wL hs hI [(1, ⟨[(5, ciV 249 [vs s] (vb (X.validAt s s.size 0)))], gg [4, 5, 6] [1007], []⟩)] [] 1126900315249154453150 [ty b1, ty b1, ty b1, ty b1] .ret [(2, vb (!(X.validAt s s.size 0)))] [] ⟨⟨⟨ent249, conValid _ rfl⟩, tv⟩, tv⟩ ⟨b1, b1, b1, b1, tv⟩ fun a w hs => ?_
  exact rK (.val (vb (!(X.validAt s s.size 0)))) [] hs (by simp only [badTok, b1]; first | done | rfl)
theorem con140_248 (xs : List ByteArray) (hlen : xs.length < 4611686018427387904) : Con Tryz.prog I0 140 [.row .str xs, .lit (.func (.func 248) #[] #[])] (.val (vi (idxF badTok xs))) := by
 refine con_of Tryz.func140 rfl (Nat.le_of_ble_eq_true rfl) stab (fun w0 fz a hI hs => ?_)
 refine wp_seq ?_
 refine wN hs hI [] 25 [] .norm [(0, rwS xs), (1, .lit (.func (.func 248) #[] #[]))] [] tv fun a w hs => ?_
 refine then_norm ?_
 refine wp_seq ?_
 refine wp_seq ?_
 refine wN hs hI [] 19375 [] .norm [(0, rwS xs), (1, .lit (.func (.func 248) #[] #[])), (7, vi (xs.length : Int)), (8, vi 0)] [] tv fun a w hs => ?_
 refine then_norm ?_
 refine wp_block ?_
 refine loop_L (N := Tryz.f140.ntmps) (w0 := w0) (ow := noO fz) (α := Nat) (fun p => [(0, rwS xs), (1, .lit (.func (.func 248) #[] #[])), (7, vi (xs.length : Int)), (8, vi (p : Int))]) (fun p => []) (fun p => p ≤ xs.length ∧ ∀ j, j < p → ∀ d, badTok (xs.getD j d) = false) (fun p => xs.length - p) 0 ?_ ?_ ?_
 ·exact ⟨Nat.zero_le _, fun j hj => absurd hj (Nat.not_lt_zero _)⟩
 ·(have e0_ : (0) = (((0 : Nat) : Int)) := (by first | rfl | (rfl)); exact (hs.cst [(0, rwS xs), (1, .lit (.func (.func 248) #[] #[])), (7, vi (xs.length : Int)), (8, vi ((0 : Nat) : Int))] [] (by first | (rw [e0_]; done) | (simp only [e0_]; done) | rfl | (simp only [e0_]; rfl))).rm [] (by kernel_rfl))
 rintro i hJ a w hs
 obtain ⟨hi, hall⟩ := hJ
 rcases bt (decide ((i : Int) < (xs.length : Int))) with b1 | b1
 ·skip
  have n1 := of_decide_eq_true b1
  rcases bt (badTok (xs.getD i (dflt .str))) with b2 | b2
  ·skip
   refine wL hs hI [(4, ⟨[(5, ciV 248 [vs (xs.getD i (dflt .str))] (vb (badTok (xs.getD i (dflt .str)))))], [], []⟩)] [true, true] 18188953533768170177737775 [ty b1, 0 ≤ (i : Int) ∧ (i : Int) < xs.length, ty b2] .ret [(4, vi (i : Int))] [] ⟨⟨⟨ent248, con248 _⟩, tv⟩, tv⟩ ⟨b1, (by omega), b2, tv⟩ fun a w hs => ?_
   refine then_ret ?_
   refine inb_ret ?_
   refine then_ret ?_
   exact rK (.val (vi (i : Int))) [] hs (by rw [idxF_at (q := badTok) (i := i) (dflt .str) (by omega) b2 (fun j hj d => hall j hj d)])
  ·skip
   refine wL hs hI [(4, ⟨[(5, ciV 248 [vs (xs.getD i (dflt .str))] (vb (badTok (xs.getD i (dflt .str)))))], [], []⟩)] [true, false] 18184492126106732189456525 [ty b1, 0 ≤ (i : Int) ∧ (i : Int) < xs.length, ty b2, InR .i64 ((i : Int) + 1)] .norm [(0, rwS xs), (1, .lit (.func (.func 248) #[] #[])), (7, vi (xs.length : Int)), (8, vi ((i : Int) + 1))] [] ⟨⟨⟨ent248, con248 _⟩, tv⟩, tv⟩ ⟨b1, (by omega), b2, (inR64 (by omega) (by omega)), tv⟩ fun a w hs => ?_
   refine then_norm ⟨i + 1, ⟨by omega, fun j hj d => by rcases Nat.lt_succ_iff_lt_or_eq.1 hj with h | h; exact hall j h d; subst h; rw [getD_any (by omega) d (dflt .str)]; exact b2⟩, by omega, ?_⟩
   (have e0_ : ((i : Int) + 1) = ((((i + 1) : Nat) : Int)) := (by first | rfl | (omega)); exact (hs.cst [(0, rwS xs), (1, .lit (.func (.func 248) #[] #[])), (7, vi (xs.length : Int)), (8, vi (((i + 1) : Nat) : Int))] [] (by first | (rw [e0_]; done) | (simp only [e0_]; done) | rfl | (simp only [e0_]; rfl))).rm [] (by kernel_rfl))
 ·skip
  have n1 := of_decide_eq_false b1
  refine wN hs hI [false] 19025 [ty b1] (.exit 0) [] [] ⟨b1, tv⟩ fun a w hs => ?_
  refine then_exit ?_
  refine inb_hit ?_
  refine then_norm ?_
  refine wN hs hI [] 650 [] .ret [(4, vi (-1))] [] tv fun a w hs => ?_
  exact rK (.val (vi (-1))) [] hs (by rw [idxF_no (q := badTok) (fun j hj d => hall j (by omega) d)])
theorem con83_248 (xs : List ByteArray) (hlen : xs.length < 4611686018427387904) : Con Tryz.prog I0 83 [.row .str xs, .lit (.func (.func 248) #[] #[])] (.val (vb (xs.any badTok))) := by
 refine con_of Tryz.func83 rfl (Nat.le_of_ble_eq_true rfl) stab (fun w0 fz a hI hs => ?_)
 refine wL hs hI [(1, ⟨[(2, ciV 140 [rwS xs, .lit (.func (.func 248) #[] #[])] (vi (idxF badTok xs)))], [], []⟩)] [] 184630868775 [] .ret [(4, vb (decide ((idxF badTok xs) ≥ 0)))] [] ⟨⟨⟨ent140, con140_248 _ (by omega)⟩, tv⟩, tv⟩ tv fun a w hs => ?_
 exact rK (.val (vb (decide ((idxF badTok xs) ≥ 0)))) [] hs (by rw [← idxF_any])
theorem con211 (p : List ByteArray) (hp : p.length < 1000000000) : Con Tryz.prog I0 211 [.row .str p] (.val (vb (pathOk p))) := by
 refine con_of Tryz.func211 rfl (Nat.le_of_ble_eq_true rfl) stab (fun w0 fz a hI hs => ?_)
 rcases bt (decide ((p.length : Int) ≤ 63)) with b1 | b1
 ·skip
  have n1 := of_decide_eq_true b1
  refine wL hs hI [(1, ⟨[(5, ciV 83 [rwS p, .lit (.func (.func 248) #[] #[])] (vb (p.any badTok)))], gg [4, 5, 6, 1007] [], []⟩)] [] 1126900315249154453150 [ty b1, ty b1, ty b1, ty b1] .ret [(2, vb (!(p.any badTok)))] [] ⟨⟨⟨ent83, con83_248 _ (by omega)⟩, tv⟩, tv⟩ ⟨b1, b1, b1, b1, tv⟩ fun a w hs => ?_
  exact rK (.val (vb (!(p.any badTok)))) [] hs (by simp only [pathOk, b1]; first | done | rfl)
 ·skip
  have n1 := of_decide_eq_false b1
  refine wL hs hI [(1, ⟨[], gg [] [4, 5, 6, 1007], []⟩)] [] 72121619897421900 [ty b1, ty b1, ty b1, ty b1] .ret [(2, vb false)] [] ⟨tv, tv⟩ ⟨b1, b1, b1, b1, tv⟩ fun a w hs => ?_
  exact rK (.val (vb false)) [] hs (by simp only [pathOk, b1]; first | done | rfl)
theorem con163 (x : Opn) (h : fineO x) : Con Tryz.prog I0 163 [.agg (enc .opn x)] (.val (vb (oneF x))) := by
 obtain ⟨h1, h2, hv⟩ := h
 refine con_of Tryz.func163 rfl (Nat.le_of_ble_eq_true rfl) stab (fun w0 fz a hI hs => ?_)
 rcases bt (x.op == 4) with b1 | b1
 ·skip
  have n1 := eq_of_beq b1
  rcases bt (pathOk x.path) with b2 | b2
  ·skip
   rcases bt (pathOk x.frm) with b3 | b3
   ·skip
    refine wL hs hI [(1, ⟨[(6, ciV 210 [aTr (x.value)] (vb (zeroF x.value)))], [], []⟩), (9, ⟨[(2, ciV 211 [rwS x.frm] (vb (pathOk x.frm)))], [], []⟩), (12, ⟨[(2, ciV 211 [rwS x.path] (vb (pathOk x.path)))], gg [4, 1005, 7, 1008] [], []⟩)] [true] 103265227670993484687777374829327012456968426696923828875 [ty b1, ty b2, ty b2, ty b3, ty b3] .ret [(2, vb (zeroF x.value))] [] ⟨⟨⟨ent210, con210 _⟩, tv⟩, ⟨⟨ent211, con211 _ (by omega)⟩, tv⟩, ⟨⟨ent211, con211 _ (by omega)⟩, tv⟩, tv⟩ ⟨b1, b2, b2, b3, b3, tv⟩ fun a w hs => ?_
    exact rK (.val (vb (zeroF x.value))) [] hs (by simp only [oneF, b1, b2, b3]; first | done | rfl | (simp; done))
   ·skip
    refine wL hs hI [(1, ⟨[(6, ciV 210 [aTr (x.value)] (vb (zeroF x.value)))], [], []⟩), (9, ⟨[(2, ciV 211 [rwS x.frm] (vb (pathOk x.frm)))], [], []⟩), (12, ⟨[(2, ciV 211 [rwS x.path] (vb (pathOk x.path)))], gg [4, 1005] [7, 1008], []⟩)] [true] 4130609106819790077413223371056513905540108673242188250 [ty b1, ty b2, ty b2, ty b3, ty b3] .ret [(2, vb false)] [] ⟨⟨⟨ent210, con210 _⟩, tv⟩, ⟨⟨ent211, con211 _ (by omega)⟩, tv⟩, ⟨⟨ent211, con211 _ (by omega)⟩, tv⟩, tv⟩ ⟨b1, b2, b2, b3, b3, tv⟩ fun a w hs => ?_
    exact rK (.val (vb false)) [] hs (by simp only [oneF, b1, b2, b3]; first | done | rfl | (simp; done))
  ·skip
   refine wL hs hI [(1, ⟨[(6, ciV 210 [aTr (x.value)] (vb (zeroF x.value)))], [], []⟩), (9, ⟨[(2, ciV 211 [rwS x.frm] (vb (pathOk x.frm)))], [], []⟩), (12, ⟨[(2, ciV 211 [rwS x.path] (vb (pathOk x.path)))], gg [] [4, 1005, 7, 1008], []⟩)] [true] 165224364268790646747397686428879432395100586083985125 [ty b1, ty b2, ty b2, false = false, false = false] .ret [(2, vb false)] [] ⟨⟨⟨ent210, con210 _⟩, tv⟩, ⟨⟨ent211, con211 _ (by omega)⟩, tv⟩, ⟨⟨ent211, con211 _ (by omega)⟩, tv⟩, tv⟩ ⟨b1, b2, b2, rfl, rfl, tv⟩ fun a w hs => ?_
   exact rK (.val (vb false)) [] hs (by simp only [oneF, b1, b2]; first | done | rfl | (simp; done))
 ·skip
  have n1 := beq_eq_false_iff_ne.1 b1
  rcases bt (x.op == 5) with b4 | b4
  ·skip
   have n4 := eq_of_beq b4
   rcases bt (pathOk x.path) with b5 | b5
   ·skip
    rcases bt (pathOk x.frm) with b6 | b6
    ·skip
     refine wL hs hI [(1, ⟨[(6, ciV 210 [aTr (x.value)] (vb (zeroF x.value)))], [], []⟩), (9, ⟨[(2, ciV 211 [rwS x.frm] (vb (pathOk x.frm)))], [], []⟩), (12, ⟨[(2, ciV 211 [rwS x.path] (vb (pathOk x.path)))], gg [4, 1005, 7, 1008] [], []⟩)] [false, true] 1008449488974545748904075926067664841045765250936150543359375750 [ty b1, ty b4, ty b5, ty b5, ty b6, ty b6] .ret [(2, vb (zeroF x.value))] [] ⟨⟨⟨ent210, con210 _⟩, tv⟩, ⟨⟨ent211, con211 _ (by omega)⟩, tv⟩, ⟨⟨ent211, con211 _ (by omega)⟩, tv⟩, tv⟩ ⟨b1, b4, b5, b5, b6, b6, tv⟩ fun a w hs => ?_
     exact rK (.val (vb (zeroF x.value))) [] hs (by simp only [oneF, b1, b4, b5, b6]; first | done | rfl | (simp; done))
    ·skip
     refine wL hs hI [(1, ⟨[(6, ciV 210 [aTr (x.value)] (vb (zeroF x.value)))], [], []⟩), (9, ⟨[(2, ciV 211 [rwS x.frm] (vb (pathOk x.frm)))], [], []⟩), (12, ⟨[(2, ciV 211 [rwS x.path] (vb (pathOk x.path)))], gg [4, 1005] [7, 1008], []⟩)] [false, true] 40337979558787012474738509482992003629473082736134521630860125 [ty b1, ty b4, ty b5, ty b5, ty b6, ty b6] .ret [(2, vb false)] [] ⟨⟨⟨ent210, con210 _⟩, tv⟩, ⟨⟨ent211, con211 _ (by omega)⟩, tv⟩, ⟨⟨ent211, con211 _ (by omega)⟩, tv⟩, tv⟩ ⟨b1, b4, b5, b5, b6, b6, tv⟩ fun a w hs => ?_
     exact rK (.val (vb false)) [] hs (by simp only [oneF, b1, b4, b5, b6]; first | done | rfl | (simp; done))
   ·skip
    refine wL hs hI [(1, ⟨[(6, ciV 210 [aTr (x.value)] (vb (zeroF x.value)))], [], []⟩), (9, ⟨[(2, ciV 211 [rwS x.frm] (vb (pathOk x.frm)))], [], []⟩), (12, ⟨[(2, ciV 211 [rwS x.path] (vb (pathOk x.path)))], gg [] [4, 1005, 7, 1008], []⟩)] [false, true] 1613519182312408659642555531550260727666363134980194238282000 [ty b1, ty b4, ty b5, ty b5, false = false, false = false] .ret [(2, vb false)] [] ⟨⟨⟨ent210, con210 _⟩, tv⟩, ⟨⟨ent211, con211 _ (by omega)⟩, tv⟩, ⟨⟨ent211, con211 _ (by omega)⟩, tv⟩, tv⟩ ⟨b1, b4, b5, b5, rfl, rfl, tv⟩ fun a w hs => ?_
    exact rK (.val (vb false)) [] hs (by simp only [oneF, b1, b4, b5]; first | done | rfl | (simp; done))
  ·skip
   have n4 := beq_eq_false_iff_ne.1 b4
   rcases bt (x.op == 1) with b7 | b7
   ·skip
    have n7 := eq_of_beq b7
    rcases bt (pathOk x.path) with b8 | b8
    ·skip
     rcases bt ((x.frm.length : Int) == 0) with b9 | b9
     ·skip
      have n9 := eq_of_beq b9
      refine wL hs hI [(1, ⟨[(6, ciV 210 [aTr (x.value)] (vb (zeroF x.value)))], [], []⟩), (10, ⟨[(2, ciV 57 [aTr (x.value)] (vb (validT x.value)))], [], []⟩), (12, ⟨[(2, ciV 211 [rwS x.path] (vb (pathOk x.path)))], gg [4, 1005, 7, 1008] [], []⟩)] [false, false, true, true] 6155087212979405205713354040940359428990720107410592071726918213037110125 [ty b1, ty b4, ty b7, ty b7, ty b8, ty b8, ty b9, ty b9] .ret [(2, vb (validT x.value))] [] ⟨⟨⟨ent210, con210 _⟩, tv⟩, ⟨⟨ent57, con57 _ hv⟩, tv⟩, ⟨⟨ent211, con211 _ (by omega)⟩, tv⟩, tv⟩ ⟨b1, b4, b7, b7, b8, b8, b9, b9, tv⟩ fun a w hs => ?_
      exact rK (.val (vb (validT x.value))) [] hs (by simp only [oneF, b1, b4, b7, b8, b9]; first | done | rfl | (simp; done))
     ·skip
      have n9 := beq_eq_false_iff_ne.1 b9
      refine wL hs hI [(1, ⟨[(6, ciV 210 [aTr (x.value)] (vb (zeroF x.value)))], [], []⟩), (10, ⟨[(2, ciV 57 [aTr (x.value)] (vb (validT x.value)))], [], []⟩), (12, ⟨[(2, ciV 211 [rwS x.path] (vb (pathOk x.path)))], gg [4, 1005] [7, 1008], []⟩)] [false, false, true, true] 246203488517987136686636410418674630307296229236666157856583587792969500 [ty b1, ty b4, ty b7, ty b7, ty b8, ty b8, ty b9, ty b9] .ret [(2, vb false)] [] ⟨⟨⟨ent210, con210 _⟩, tv⟩, ⟨⟨ent57, con57 _ hv⟩, tv⟩, ⟨⟨ent211, con211 _ (by omega)⟩, tv⟩, tv⟩ ⟨b1, b4, b7, b7, b8, b8, b9, b9, tv⟩ fun a w hs => ?_
      exact rK (.val (vb false)) [] hs (by simp only [oneF, b1, b4, b7, b8, b9]; first | done | rfl | (simp; done))
    ·skip
     refine wL hs hI [(1, ⟨[(6, ciV 210 [aTr (x.value)] (vb (zeroF x.value)))], [], []⟩), (10, ⟨[(2, ciV 57 [aTr (x.value)] (vb (validT x.value)))], [], []⟩), (12, ⟨[(2, ciV 211 [rwS x.path] (vb (pathOk x.path)))], gg [] [4, 1005, 7, 1008], []⟩)] [false, false, true, true] 9848139540481009885513644601769461228886075421026952579617492822266375 [ty b1, ty b4, ty b7, ty b7, ty b8, ty b8, false = false, false = false] .ret [(2, vb false)] [] ⟨⟨⟨ent210, con210 _⟩, tv⟩, ⟨⟨ent57, con57 _ hv⟩, tv⟩, ⟨⟨ent211, con211 _ (by omega)⟩, tv⟩, tv⟩ ⟨b1, b4, b7, b7, b8, b8, rfl, rfl, tv⟩ fun a w hs => ?_
     exact rK (.val (vb false)) [] hs (by simp only [oneF, b1, b4, b7, b8]; first | done | rfl | (simp; done))
   ·skip
    have n7 := beq_eq_false_iff_ne.1 b7
    rcases bt (x.op == 3) with b10 | b10
    ·skip
     have n10 := eq_of_beq b10
     rcases bt (pathOk x.path) with b11 | b11
     ·skip
      rcases bt ((x.frm.length : Int) == 0) with b12 | b12
      ·skip
       have n12 := eq_of_beq b12
       refine wL hs hI [(1, ⟨[(6, ciV 210 [aTr (x.value)] (vb (zeroF x.value)))], [], []⟩), (10, ⟨[(2, ciV 57 [aTr (x.value)] (vb (validT x.value)))], [], []⟩), (12, ⟨[(2, ciV 211 [rwS x.path] (vb (pathOk x.path)))], gg [4, 1005, 7, 1008] [], []⟩)] [false, false, false, true, true] 2404330942570080158481778922242327905288433154313725115056194379925720361328875 [ty b1, ty b4, ty b7, ty b10, ty b10, ty b11, ty b11, ty b12, ty b12] .ret [(2, vb (validT x.value))] [] ⟨⟨⟨ent210, con210 _⟩, tv⟩, ⟨⟨ent57, con57 _ hv⟩, tv⟩, ⟨⟨ent211, con211 _ (by omega)⟩, tv⟩, tv⟩ ⟨b1, b4, b7, b10, b10, b11, b11, b12, b12, tv⟩ fun a w hs => ?_
       exact rK (.val (vb (validT x.value))) [] hs (by simp only [oneF, b1, b4, b7, b10, b11, b12]; first | done | rfl | (simp; done))
      ·skip
       have n12 := beq_eq_false_iff_ne.1 b12
       refine wL hs hI [(1, ⟨[(6, ciV 210 [aTr (x.value)] (vb (zeroF x.value)))], [], []⟩), (10, ⟨[(2, ciV 57 [aTr (x.value)] (vb (validT x.value)))], [], []⟩), (12, ⟨[(2, ciV 211 [rwS x.path] (vb (pathOk x.path)))], gg [4, 1005] [7, 1008], []⟩)] [false, false, false, true, true] 96173237702338725268217347819794780802720701902035304950594916939727929688250 [ty b1, ty b4, ty b7, ty b10, ty b10, ty b11, ty b11, ty b12, ty b12] .ret [(2, vb false)] [] ⟨⟨⟨ent210, con210 _⟩, tv⟩, ⟨⟨ent57, con57 _ hv⟩, tv⟩, ⟨⟨ent211, con211 _ (by omega)⟩, tv⟩, tv⟩ ⟨b1, b4, b7, b10, b10, b11, b11, b12, b12, tv⟩ fun a w hs => ?_
       exact rK (.val (vb false)) [] hs (by simp only [oneF, b1, b4, b7, b10, b11, b12]; first | done | rfl | (simp; done))
     ·skip
      refine wL hs hI [(1, ⟨[(6, ciV 210 [aTr (x.value)] (vb (zeroF x.value)))], [], []⟩), (10, ⟨[(2, ciV 57 [aTr (x.value)] (vb (validT x.value)))], [], []⟩), (12, ⟨[(2, ciV 211 [rwS x.path] (vb (pathOk x.path)))], gg [] [4, 1005, 7, 1008], []⟩)] [false, false, false, true, true] 3846929508000394486528767422566199131466735567801240389280036091797021485125 [ty b1, ty b4, ty b7, ty b10, ty b10, ty b11, ty b11, false = false, false = false] .ret [(2, vb false)] [] ⟨⟨⟨ent210, con210 _⟩, tv⟩, ⟨⟨ent57, con57 _ hv⟩, tv⟩, ⟨⟨ent211, con211 _ (by omega)⟩, tv⟩, tv⟩ ⟨b1, b4, b7, b10, b10, b11, b11, rfl, rfl, tv⟩ fun a w hs => ?_
      exact rK (.val (vb false)) [] hs (by simp only [oneF, b1, b4, b7, b10, b11]; first | done | rfl | (simp; done))
    ·skip
     have n10 := beq_eq_false_iff_ne.1 b10
     rcases bt (x.op == 6) with b13 | b13
     ·skip
      have n13 := eq_of_beq b13
      rcases bt (pathOk x.path) with b14 | b14
      ·skip
       rcases bt ((x.frm.length : Int) == 0) with b15 | b15
       ·skip
        have n15 := eq_of_beq b15
        refine wL hs hI [(1, ⟨[(6, ciV 210 [aTr (x.value)] (vb (zeroF x.value)))], [], []⟩), (10, ⟨[(2, ciV 57 [aTr (x.value)] (vb (validT x.value)))], [], []⟩), (12, ⟨[(2, ciV 211 [rwS x.path] (vb (pathOk x.path)))], gg [4, 1005, 7, 1008] [], []⟩)] [false, false, false, false, true] 1502706839106300099051111826401454940886877336670042086641327522709965698388672625 [ty b1, ty b4, ty b7, ty b10, ty b13, ty b14, ty b14, ty b15, ty b15] .ret [(2, vb (validT x.value))] [] ⟨⟨⟨ent210, con210 _⟩, tv⟩, ⟨⟨ent57, con57 _ hv⟩, tv⟩, ⟨⟨ent211, con211 _ (by omega)⟩, tv⟩, tv⟩ ⟨b1, b4, b7, b10, b13, b14, b14, b15, b15, tv⟩ fun a w hs => ?_
        exact rK (.val (vb (validT x.value))) [] hs (by simp only [oneF, b1, b4, b7, b10, b13, b14, b15]; first | done | rfl | (simp; done))
       ·skip
        have n15 := beq_eq_false_iff_ne.1 b15
        refine wL hs hI [(1, ⟨[(6, ciV 210 [aTr (x.value)] (vb (zeroF x.value)))], [], []⟩), (10, ⟨[(2, ciV 57 [aTr (x.value)] (vb (validT x.value)))], [], []⟩), (12, ⟨[(2, ciV 211 [rwS x.path] (vb (pathOk x.path)))], gg [4, 1005] [7, 1008], []⟩)] [false, false, false, false, true] 60108273563961703292635842387371738083307053912735955325327858343720428613282000 [ty b1, ty b4, ty b7, ty b10, ty b13, ty b14, ty b14, ty b15, ty b15] .ret [(2, vb false)] [] ⟨⟨⟨ent210, con210 _⟩, tv⟩, ⟨⟨ent57, con57 _ hv⟩, tv⟩, ⟨⟨ent211, con211 _ (by omega)⟩, tv⟩, tv⟩ ⟨b1, b4, b7, b10, b13, b14, b14, b15, b15, tv⟩ fun a w hs => ?_
        exact rK (.val (vb false)) [] hs (by simp only [oneF, b1, b4, b7, b10, b13, b14, b15]; first | done | rfl | (simp; done))
      ·skip
       refine wL hs hI [(1, ⟨[(6, ciV 210 [aTr (x.value)] (vb (zeroF x.value)))], [], []⟩), (10, ⟨[(2, ciV 57 [aTr (x.value)] (vb (validT x.value)))], [], []⟩), (12, ⟨[(2, ciV 211 [rwS x.path] (vb (pathOk x.path)))], gg [] [4, 1005, 7, 1008], []⟩)] [false, false, false, false, true] 2404330942500246554080479639103874538773324953839664974506057813763610986328875 [ty b1, ty b4, ty b7, ty b10, ty b13, ty b14, ty b14, false = false, false = false] .ret [(2, vb false)] [] ⟨⟨⟨ent210, con210 _⟩, tv⟩, ⟨⟨ent57, con57 _ hv⟩, tv⟩, ⟨⟨ent211, con211 _ (by omega)⟩, tv⟩, tv⟩ ⟨b1, b4, b7, b10, b13, b14, b14, rfl, rfl, tv⟩ fun a w hs => ?_
       exact rK (.val (vb false)) [] hs (by simp only [oneF, b1, b4, b7, b10, b13, b14]; first | done | rfl | (simp; done))
     ·skip
      have n13 := beq_eq_false_iff_ne.1 b13
      rcases bt (x.op == 2) with b16 | b16
      ·skip
       have n16 := eq_of_beq b16
       rcases bt (pathOk x.path) with b17 | b17
       ·skip
        rcases bt ((x.frm.length : Int) == 0) with b18 | b18
        ·skip
         have n18 := eq_of_beq b18
         refine wL hs hI [(1, ⟨[(6, ciV 210 [aTr (x.value)] (vb (zeroF x.value)))], [], []⟩), (12, ⟨[(2, ciV 211 [rwS x.path] (vb (pathOk x.path)))], gg [4, 1005, 7, 1008] [], []⟩)] [false, false, false, false, false, true] 1502706839106300099051070468454817703751824625158124308743421033039689056542969500 [ty b1, ty b4, ty b7, ty b10, ty b13, ty b16, ty b17, ty b17, ty b18, ty b18] .ret [(2, vb (zeroF x.value))] [] ⟨⟨⟨ent210, con210 _⟩, tv⟩, ⟨⟨ent211, con211 _ (by omega)⟩, tv⟩, tv⟩ ⟨b1, b4, b7, b10, b13, b16, b17, b17, b18, b18, tv⟩ fun a w hs => ?_
         exact rK (.val (vb (zeroF x.value))) [] hs (by simp only [oneF, b1, b4, b7, b10, b13, b16, b17, b18]; first | done | rfl | (simp; done))
        ·skip
         have n18 := beq_eq_false_iff_ne.1 b18
         refine wL hs hI [(1, ⟨[(6, ciV 210 [aTr (x.value)] (vb (zeroF x.value)))], [], []⟩), (12, ⟨[(2, ciV 211 [rwS x.path] (vb (pathOk x.path)))], gg [4, 1005] [7, 1008], []⟩)] [false, false, false, false, false, true] 60108273563961703292594484440734500948254342400818177427421368673443786767578875 [ty b1, ty b4, ty b7, ty b10, ty b13, ty b16, ty b17, ty b17, ty b18, ty b18] .ret [(2, vb false)] [] ⟨⟨⟨ent210, con210 _⟩, tv⟩, ⟨⟨ent211, con211 _ (by omega)⟩, tv⟩, tv⟩ ⟨b1, b4, b7, b10, b13, b16, b17, b17, b18, b18, tv⟩ fun a w hs => ?_
         exact rK (.val (vb false)) [] hs (by simp only [oneF, b1, b4, b7, b10, b13, b16, b17, b18]; first | done | rfl | (simp; done))
       ·skip
        refine wL hs hI [(1, ⟨[(6, ciV 210 [aTr (x.value)] (vb (zeroF x.value)))], [], []⟩), (12, ⟨[(2, ciV 211 [rwS x.path] (vb (pathOk x.path)))], gg [] [4, 1005, 7, 1008], []⟩)] [false, false, false, false, false, true] 2404330942500246554039121692466637403720613441921887076599568143486969140625750 [ty b1, ty b4, ty b7, ty b10, ty b13, ty b16, ty b17, ty b17, false = false, false = false] .ret [(2, vb false)] [] ⟨⟨⟨ent210, con210 _⟩, tv⟩, ⟨⟨ent211, con211 _ (by omega)⟩, tv⟩, tv⟩ ⟨b1, b4, b7, b10, b13, b16, b17, b17, rfl, rfl, tv⟩ fun a w hs => ?_
        exact rK (.val (vb false)) [] hs (by simp only [oneF, b1, b4, b7, b10, b13, b16, b17]; first | done | rfl | (simp; done))
      ·skip
       have n16 := beq_eq_false_iff_ne.1 b16
       refine wL hs hI [(1, ⟨[(6, ciV 210 [aTr (x.value)] (vb (zeroF x.value)))], [], []⟩)] [false, false, false, false, false, false] 630919358943735668092183963012154097487016255080714821808007813250 [ty b1, ty b4, ty b7, ty b10, ty b13, ty b16] .ret [(2, vb false)] [] ⟨⟨⟨ent210, con210 _⟩, tv⟩, tv⟩ ⟨b1, b4, b7, b10, b13, b16, tv⟩ fun a w hs => ?_
       exact rK (.val (vb false)) [] hs (by simp only [oneF, b1, b4, b7, b10, b13, b16]; first | done | rfl | (simp; done))
theorem con162 (x : Opn) (h : fineO x) : Con Tryz.prog I0 162 [.agg (enc .opn x)] (.val (vb (!oneF x))) := by
 refine con_of Tryz.func162 rfl (Nat.le_of_ble_eq_true rfl) stab (fun w0 fz a hI hs => ?_)
 refine wL hs hI [(1, ⟨[(1, ciV 163 [.agg (enc .opn x)] (vb (oneF x)))], [], []⟩)] [] 184628953875 [] .ret [(2, vb (!(oneF x)))] [] ⟨⟨⟨ent163, con163 _ h⟩, tv⟩, tv⟩ tv fun a w hs => ?_
 exact rK (.val (vb (!(oneF x)))) [] hs rfl
theorem con209 (xs : List Opn) (H : ∀ x ∈ xs, fineO x) (hlen : xs.length < 4611686018427387904) : Con Tryz.prog I0 209 [.row .opn xs, .lit (.func (.func 162) #[] #[])] (.val (vi (idxF (fun x => !oneF x) xs))) := by
 refine con_of Tryz.func209 rfl (Nat.le_of_ble_eq_true rfl) stab (fun w0 fz a hI hs => ?_)
 refine wp_seq ?_
 refine wN hs hI [] 25 [] .norm [(0, .row .opn xs), (1, .lit (.func (.func 162) #[] #[]))] [] tv fun a w hs => ?_
 refine then_norm ?_
 refine wp_seq ?_
 refine wp_seq ?_
 refine wN hs hI [] 19375 [] .norm [(0, .row .opn xs), (1, .lit (.func (.func 162) #[] #[])), (7, vi (xs.length : Int)), (8, vi 0)] [] tv fun a w hs => ?_
 refine then_norm ?_
 refine wp_block ?_
 refine loop_L (N := Tryz.f209.ntmps) (w0 := w0) (ow := noO fz) (α := Nat) (fun p => [(0, .row .opn xs), (1, .lit (.func (.func 162) #[] #[])), (7, vi (xs.length : Int)), (8, vi (p : Int))]) (fun p => []) (fun p => p ≤ xs.length ∧ ∀ j, j < p → ∀ d, (fun x => !oneF x) (xs.getD j d) = false) (fun p => xs.length - p) 0 ?_ ?_ ?_
 ·exact ⟨Nat.zero_le _, fun j hj => absurd hj (Nat.not_lt_zero _)⟩
 ·(have e0_ : (0) = (((0 : Nat) : Int)) := (by first | rfl | (rfl)); exact (hs.cst [(0, .row .opn xs), (1, .lit (.func (.func 162) #[] #[])), (7, vi (xs.length : Int)), (8, vi ((0 : Nat) : Int))] [] (by first | (rw [e0_]; done) | (simp only [e0_]; done) | rfl | (simp only [e0_]; rfl))).rm [] (by kernel_rfl))
 rintro i hJ a w hs
 obtain ⟨hi, hall⟩ := hJ
 rcases bt (decide ((i : Int) < (xs.length : Int))) with b1 | b1
 ·skip
  have n1 := of_decide_eq_true b1
  rcases bt (!oneF (xs.getD i (dflt .opn))) with b2 | b2
  ·skip
   refine wL hs hI [(4, ⟨[(5, ciV 162 [.agg (enc .opn (xs.getD i (dflt .opn)))] (vb (!oneF (xs.getD i (dflt .opn)))))], [], []⟩)] [true, true] 18188953533768170177737775 [ty b1, 0 ≤ (i : Int) ∧ (i : Int) < xs.length, ty b2] .ret [(4, vi (i : Int))] [] ⟨⟨⟨ent162, con162 _ (H _ (getD_mem (by omega) _))⟩, tv⟩, tv⟩ ⟨b1, (by omega), b2, tv⟩ fun a w hs => ?_
   refine then_ret ?_
   refine inb_ret ?_
   refine then_ret ?_
   exact rK (.val (vi (i : Int))) [] hs (by rw [idxF_at (q := (fun x => !oneF x)) (i := i) (dflt .opn) (by omega) (by first | exact b2 | (simp only [b2]; rfl)) (fun j hj d => hall j hj d)])
  ·skip
   refine wL hs hI [(4, ⟨[(5, ciV 162 [.agg (enc .opn (xs.getD i (dflt .opn)))] (vb (!oneF (xs.getD i (dflt .opn)))))], [], []⟩)] [true, false] 18184492126106732189456525 [ty b1, 0 ≤ (i : Int) ∧ (i : Int) < xs.length, ty b2, InR .i64 ((i : Int) + 1)] .norm [(0, .row .opn xs), (1, .lit (.func (.func 162) #[] #[])), (7, vi (xs.length : Int)), (8, vi ((i : Int) + 1))] [] ⟨⟨⟨ent162, con162 _ (H _ (getD_mem (by omega) _))⟩, tv⟩, tv⟩ ⟨b1, (by omega), b2, (inR64 (by omega) (by omega)), tv⟩ fun a w hs => ?_
   refine then_norm ⟨i + 1, ⟨by omega, fun j hj d => by rcases Nat.lt_succ_iff_lt_or_eq.1 hj with h | h; exact hall j h d; subst h; rw [getD_any (by omega) d (dflt .opn)]; exact b2⟩, by omega, ?_⟩
   (have e0_ : ((i : Int) + 1) = ((((i + 1) : Nat) : Int)) := (by first | rfl | (omega)); exact (hs.cst [(0, .row .opn xs), (1, .lit (.func (.func 162) #[] #[])), (7, vi (xs.length : Int)), (8, vi (((i + 1) : Nat) : Int))] [] (by first | (rw [e0_]; done) | (simp only [e0_]; done) | rfl | (simp only [e0_]; rfl))).rm [] (by kernel_rfl))
 ·skip
  have n1 := of_decide_eq_false b1
  refine wN hs hI [false] 19025 [ty b1] (.exit 0) [] [] ⟨b1, tv⟩ fun a w hs => ?_
  refine then_exit ?_
  refine inb_hit ?_
  refine then_norm ?_
  refine wN hs hI [] 650 [] .ret [(4, vi (-1))] [] tv fun a w hs => ?_
  exact rK (.val (vi (-1))) [] hs (by rw [idxF_no (q := (fun x => !oneF x)) (fun j hj d => hall j (by omega) d)])
theorem con161 (xs : List Opn) (H : ∀ x ∈ xs, fineO x) (hlen : xs.length < 4611686018427387904) : Con Tryz.prog I0 161 [.row .opn xs, .lit (.func (.func 162) #[] #[])] (.val (vb (xs.any (fun x => !oneF x)))) := by
 refine con_of Tryz.func161 rfl (Nat.le_of_ble_eq_true rfl) stab (fun w0 fz a hI hs => ?_)
 refine wL hs hI [(1, ⟨[(2, ciV 209 [.row .opn xs, .lit (.func (.func 162) #[] #[])] (vi (idxF (fun x => !oneF x) xs)))], [], []⟩)] [] 184630868775 [] .ret [(4, vb (decide ((idxF (fun x => !oneF x) xs) ≥ 0)))] [] ⟨⟨⟨ent209, con209 _ H (by omega)⟩, tv⟩, tv⟩ tv fun a w hs => ?_
 exact rK (.val (vb (decide ((idxF (fun x => !oneF x) xs) ≥ 0)))) [] hs (by rw [← idxF_any])
theorem con107 (xs : List Opn) (H : ∀ x ∈ xs, fineO x) (hlen : xs.length < 4611686018427387904) : Con Tryz.prog I0 107 [.row .opn xs] (.val (vb (opsF xs))) := by
 refine con_of Tryz.func107 rfl (Nat.le_of_ble_eq_true rfl) stab (fun w0 fz a hI hs => ?_)
 rcases bt (decide ((xs.length : Int) ≤ 60)) with b1 | b1
 ·skip
  have n1 := of_decide_eq_true b1
  refine wL hs hI [(1, ⟨[(5, ciV 161 [.row .opn xs, .lit (.func (.func 162) #[] #[])] (vb (xs.any (fun x => !oneF x))))], gg [4, 5, 6, 1007] [], []⟩)] [] 1126900315249154453150 [ty b1, ty b1, ty b1, ty b1] .ret [(2, vb (!(xs.any (fun x => !oneF x))))] [] ⟨⟨⟨ent161, con161 _ H (by omega)⟩, tv⟩, tv⟩ ⟨b1, b1, b1, b1, tv⟩ fun a w hs => ?_
  exact rK (.val (vb (!(xs.any (fun x => !oneF x))))) [] hs (by simp only [opsF, b1]; first | done | rfl)
 ·skip
  have n1 := of_decide_eq_false b1
  refine wL hs hI [(1, ⟨[], gg [] [4, 5, 6, 1007], []⟩)] [] 72121619897421900 [ty b1, ty b1, ty b1, ty b1] .ret [(2, vb false)] [] ⟨tv, tv⟩ ⟨b1, b1, b1, b1, tv⟩ fun a w hs => ?_
  exact rK (.val (vb false)) [] hs (by simp only [opsF, b1]; first | done | rfl)
end Go.Proofs.YtondpnipoogoiaaGreatDoor.F
namespace Go.Proofs.YtondpnipoogoiaaGreatDoor.B1
open Go.Shelf
def ren : Go.Shelf.Ren := ⟨fun | 167 => 168 | 240 => 197 | 276 => 234 | 169 => 149 | n => n, fun | 0 => 0 | 3 => 3 | 4 => 4 | 5 => 5 | 9 => 9 | 20 => 20 | 37 => 140 | 70 => 139 | 72 => 142 | 75 => 145 | 80 => 148 | 164 => 216 | 127 => 187 | n => n, fun | n => n⟩
theorem lays167 : Go.Proofs.Lays.n167 Tryz.prog ren := {
 mixed := by kernel_rfl
 f167 := Tryz.func168.trans (congrArg some (by kernel_rfl))
 f240 := Tryz.func197.trans (congrArg some (by kernel_rfl))
 f276 := Tryz.func234.trans (congrArg some (by kernel_rfl))
 t0 := Tryz.underlying0
 a0 := Tryz.isAgg0
 z0 := Tryz.sizeOf0
 v0 := Tryz.zeroValue0
 t4 := Tryz.underlying4
 a4 := Tryz.isAgg4
 z4 := Tryz.sizeOf4
 v4 := Tryz.zeroValue4
 t5 := Tryz.underlying5
 a5 := Tryz.isAgg5
 z5 := Tryz.sizeOf5
 v5 := Tryz.zeroValue5
 t9 := Tryz.underlying9
 a9 := Tryz.isAgg9
 z9 := Tryz.sizeOf9
 v9 := Tryz.zeroValue9
 t20 := Tryz.underlying20
 a20 := Tryz.isAgg20
 z20 := Tryz.sizeOf20
 v20 := Tryz.zeroValue20
 t37 := Tryz.underlying140
 a37 := Tryz.isAgg140
 z37 := Tryz.sizeOf140
 v37 := Tryz.zeroValue140
 t70 := Tryz.underlying139
 a70 := Tryz.isAgg139
 z70 := Tryz.sizeOf139
 v70 := Tryz.zeroValue139
 t72 := Tryz.underlying142
 a72 := Tryz.isAgg142
 z72 := Tryz.sizeOf142
 v72 := Tryz.zeroValue142
 t75 := Tryz.underlying145
 a75 := Tryz.isAgg145
 z75 := Tryz.sizeOf145
 v75 := Tryz.zeroValue145
 t164 := Tryz.underlying216
 a164 := Tryz.isAgg216
 z164 := Tryz.sizeOf216
 v164 := Tryz.zeroValue216 }
theorem extra : Builder.Extra Tryz.prog ren := {
 sizeBuilder := by kernel_rfl
 liesBuilder := by kernel_rfl
 t5 := Tryz.underlying5
 a5 := Tryz.isAgg5
 z5 := Tryz.sizeOf5
 v5 := Tryz.zeroValue5
 infoByte := by kernel_rfl
 cellsByte := by kernel_rfl
 sizeByte := by kernel_rfl
 neB5 := by decide }
open Go.RowKit in
theorem WriteByte (B b : Nat) (bs : List Value) (c : Int) (w : World) (h : Lib.IsBuilder 142 5 B b bs w) (hlen : bs.length + 1 ≤ 140737488355328) (hBw : B ≤ w.heap.size) :
  Calls Tryz.prog 168 #[.pointer (some ⟨b, 0, none⟩), .int .u8 c] w fun e w' => e = .returned .nilIface ∧ (Lib.BuilderAt 142 5 B b (.pointer (some ⟨b, 0, none⟩)) (bs ++ [.int .u8 c]) w' ∧ Below B w w') := Any.Builder_WriteByte lays167 extra B b bs c w h hlen hBw
end Go.Proofs.YtondpnipoogoiaaGreatDoor.B1
namespace Go.Proofs.YtondpnipoogoiaaGreatDoor.X
open Go Go.RowKit
def tok : List UInt8 → Option (List UInt8)
 | [] => some []
 | [c] => if c = 126 then none else some [c]
 | c :: d :: r => if c = 126 then (if d = 48 then (tok r).map (126 :: ·) else if d = 49 then (tok r).map (47 :: ·) else none) else (tok (d :: r)).map (c :: ·)
theorem tok_plain (c : UInt8) (r : List UInt8) (h : c ≠ 126) : tok (c :: r) = (tok r).map (c :: ·) := by
 cases r with
 | nil => simp [tok, h]
 | cons d r => simp [tok, h]
theorem tok_none (r : List UInt8) (h0 : ∀ r', r ≠ 48 :: r') (h1 : ∀ r', r ≠ 49 :: r') : tok (126 :: r) = none := by
 cases r with
 | nil => simp [tok]
 | cons d r =>
  have a : d ≠ 48 := fun e => h0 r (by rw [e])
  have b : d ≠ 49 := fun e => h1 r (by rw [e])
  simp [tok, a, b]
def pointer_token.f (s : ByteArray) : Option (ByteArray × Bool) :=
 if s.size ≤ 140737488355328 then some (match tok s.data.toList with | some l => (⟨l.toArray⟩, true) | none => (ByteArray.empty, false)) else none
theorem cells_snoc (bs : List UInt8) (c : UInt8) : Lib.byteCells (bs ++ [c]) = Lib.byteCells bs ++ [.int .u8 c.toNat] := by simp [Lib.byteCells]
def TokRel (s : ByteArray) (w w' : World) (i : Nat) : Prop :=
 ∃ bs : List UInt8, Lib.IsBuilder 142 5 w.heap.size w.heap.size (Lib.byteCells bs) w' ∧ Below w.heap.size w w' ∧ bs.length ≤ i ∧ tok s.data.toList = (tok (s.data.toList.drop i)).map (bs ++ ·)
set_option maxHeartbeats 8000000 in
theorem pointer_token.calls (s : ByteArray) (r1 : ByteArray) (r2 : Bool) (w : World) (h : pointer_token.f s = some (r1, r2)) :
  Calls Tryz.prog 252 #[.string s] w fun e w' => e = .returned (.tuple #[.string r1, .bool r2]) ∧ Below w.heap.size w w' := by
 unfold pointer_token.f at h
 by_cases hc : s.size ≤ 140737488355328
 case neg => rw [if_neg hc] at h; exact absurd h (by simp)
 rw [if_pos hc] at h
 have HH := Hide0.mk (Option.some.inj h)
 clear h
 go_enter Tryz.func252, Tryz.ntmps252
 go_wp2
 refine wp_scope_straight ?_
 refine wp_seq ?_
 have HF : Hide0 (TokRel s w (w.alloc (.cells #[.pointer none, .slice none 0 0] 142)) 0) := ⟨[], Lib.fresh_isBuilder 142 5 w, (Below.refl _ _).alloc (Nat.le_refl _) _, Nat.le_refl _, by cases h : tok s.data.toList <;> simp [h]⟩
 go_wp2
 refine wp_label ?_
 go_wp2
 go_loopw [5] (fun n w' => ∃ i : Nat, i ≤ s.size ∧ n = .int .i64 i ∧ Hide0 (TokRel s w w' i)) (fun n _ => s.size - (intOf n).toNat)
 case atStart => exact ⟨0, Nat.zero_le _, rfl, HF⟩
 case round =>
  clear HF
  obtain ⟨i, hi, rfl, HR⟩ := hrel
  obtain ⟨bs, hI, hB, hlen, htok⟩ := HR.out
  have HI := Hide0.mk hI
  have HB := Hide0.mk hB
  have HT := Hide0.mk htok
  clear hI hB htok HR
  by_cases hlt : i < s.size
  ·obtain ⟨x, hx⟩ : ∃ x, s[i]'hlt = x := ⟨_, rfl⟩
   have hd : s.data.toList.drop i = x :: s.data.toList.drop (i + 1) := by
    have hl : i < s.data.toList.length := by rw [← Lib.size_eq]; exact hlt
    rw [List.drop_eq_getElem_cons hl, ← hx]
    rfl
   have hB5 : (Lib.byteCells bs).length + 1 ≤ 140737488355328 := by simp [Lib.byteCells]; omega
   by_cases hq : x = 126
   ·subst hq
    by_cases hl2 : i + 1 < s.size
    ·obtain ⟨y, hy⟩ : ∃ y, s[i + 1]'hl2 = y := ⟨_, rfl⟩
     have hd2 : s.data.toList.drop (i + 1) = y :: s.data.toList.drop (i + 1 + 1) := by
      have hl : i + 1 < s.data.toList.length := by rw [← Lib.size_eq]; exact hl2
      rw [List.drop_eq_getElem_cons hl, ← hy]
      rfl
     by_cases h48 : y = 48
     ·subst h48
      have HT2 := Hide0.mk (show tok s.data.toList = (tok (s.data.toList.drop (i + 1 + 1))).map ((bs ++ [126]) ++ ·) from by
       rw [HT.out, hd, hd2]; cases h : tok (s.data.toList.drop (i + 1 + 1)) <;> simp [tok, h])
      clear hd hd2 HT
      go_wp2_with fail
      refine (B1.WriteByte _ _ _ _ _ HI.out hB5 HB.out.size).mono ?_
      rintro e w2 ⟨rfl, hB2, hb2⟩
      have HR2 := Hide0.mk (show TokRel s w w2 (i + 1 + 1) from ⟨bs ++ [126], .inr (by rw [cells_snoc]; exact hB2), HB.out.trans hb2, by simp; omega, HT2.out⟩)
      clear hB2 hb2
      go_wp2
      go_round
      case rel => exact ⟨i + 1 + 1, by omega, by go_num, HR2⟩
      case measure => simp [intOf]; omega
     ·have h48' : ¬ ((y.toNat : Int) = 48) := fun e => h48 (UInt8.toNat_inj.1 (by simpa using (by omega : y.toNat = 48)))
      by_cases h49 : y = 49
      ·subst h49
       have HT2 := Hide0.mk (show tok s.data.toList = (tok (s.data.toList.drop (i + 1 + 1))).map ((bs ++ [47]) ++ ·) from by
        rw [HT.out, hd, hd2]; cases h : tok (s.data.toList.drop (i + 1 + 1)) <;> simp [tok, h])
       clear hd hd2 HT
       go_wp2_with fail
       refine (B1.WriteByte _ _ _ _ _ HI.out hB5 HB.out.size).mono ?_
       rintro e w2 ⟨rfl, hB2, hb2⟩
       have HR2 := Hide0.mk (show TokRel s w w2 (i + 1 + 1) from ⟨bs ++ [47], .inr (by rw [cells_snoc]; exact hB2), HB.out.trans hb2, by simp; omega, HT2.out⟩)
       clear hB2 hb2
       go_wp2
       go_round
       case rel => exact ⟨i + 1 + 1, by omega, by go_num, HR2⟩
       case measure => simp [intOf]; omega
      ·have h49' : ¬ ((y.toNat : Int) = 49) := fun e => h49 (UInt8.toNat_inj.1 (by simpa using (by omega : y.toNat = 49)))
       have hfin : tok s.data.toList = none := by rw [HT.out, hd, tok_none]; rfl; all_goals (intro r' e; rw [hd2] at e; injection e; contradiction)
       have H2 := HH.out
       rw [hfin] at H2
       obtain ⟨rfl, rfl⟩ := Prod.mk.inj H2
       clear HH H2 hd hd2 HT
       go_wp2
       (try rw [Exit.noGoto_ret])
       go_ret2
       exact ⟨rfl, HB.out⟩
    ·have hfin : tok s.data.toList = none := by
      rw [HT.out, hd, List.drop_of_length_le (by rw [← Lib.size_eq]; omega), tok_none]; rfl; all_goals (intro r' e; cases e)
     have H2 := HH.out
     rw [hfin] at H2
     obtain ⟨rfl, rfl⟩ := Prod.mk.inj H2
     clear HH H2 hd HT
     go_wp2
     (try rw [Exit.noGoto_ret])
     go_ret2
     exact ⟨rfl, HB.out⟩
   ·have hq' : ¬ ((x.toNat : Int) = 126) := fun e => hq (UInt8.toNat_inj.1 (by simpa using (by omega : x.toNat = 126)))
    have HT2 := Hide0.mk (show tok s.data.toList = (tok (s.data.toList.drop (i + 1))).map ((bs ++ [x]) ++ ·) from by
     rw [HT.out, hd, tok_plain _ _ hq]; cases h : tok (s.data.toList.drop (i + 1)) <;> simp [h])
    clear hd HT
    go_wp2_with fail
    refine (B1.WriteByte _ _ _ _ _ HI.out hB5 HB.out.size).mono ?_
    rintro e w2 ⟨rfl, hB2, hb2⟩
    have HR2 := Hide0.mk (show TokRel s w w2 (i + 1) from ⟨bs ++ [x], .inr (by rw [cells_snoc]; exact hB2), HB.out.trans hb2, by simp; omega, HT2.out⟩)
    clear hB2 hb2
    go_wp2
    go_round
    case rel => exact ⟨i + 1, by omega, by go_num, HR2⟩
    case measure => simp [intOf]; omega
  ·obtain rfl : i = s.size := by omega
   have hfin : tok s.data.toList = some bs := by
    rw [HT.out, List.drop_of_length_le (by rw [← Lib.size_eq]; exact Nat.le_refl _)]
    simp [tok]
   go_wp2_with fail
   refine (Tryz.Builder_String_any _ _ bs _ HI.out HB.out.size).mono ?_
   rintro e w3 ⟨rfl, hb3⟩
   have HW3 := Hide0.mk (HB.out.trans hb3)
   have H2 := HH.out
   rw [hfin] at H2
   obtain ⟨rfl, rfl⟩ := Prod.mk.inj H2
   clear hb3 HH H2
   go_wp2
   (try rw [Exit.noGoto_ret])
   go_ret2
   exact ⟨rfl, HW3.out⟩
end Go.Proofs.YtondpnipoogoiaaGreatDoor.X
namespace Go.Proofs.YtondpnipoogoiaaGreatDoor.F
open Go Go.RowKit Go.Proofs.Tryz
def tokF (s : ByteArray) : ByteArray × Bool := match X.tok s.data.toList with
 | some l => (⟨l.toArray⟩, true)
 | none => (ByteArray.empty, false)
theorem con252 (s : ByteArray) (h : s.size ≤ 140737488355328) : Con Tryz.prog I0 252 [vs s] (.val (.tup [vs (tokF s).1, vb (tokF s).2])) := by
 intro w fz vs hI hfz hR
 have hv : vs = #[Value.string s] := by
  refine Array.ext (by simpa using hR.1) (fun i h1 h2 => ?_)
  have h3 : i = 0 := by simpa using h2
  subst h3
  exact (hR.2 0 vs[0] (.lit (.string s)) (Array.getElem?_eq_getElem h1) rfl).lit_inv
 subst hv
 refine (X.pointer_token.calls s (tokF s).1 (tokF s).2 w (by unfold X.pointer_token.f; rw [if_pos h]; rfl)).mono fun e w' hh => ?_
 refine ⟨⟨_, hh.1, .tup _ _ rfl (fun j v a hv ha => ?_)⟩, hh.2⟩
 rcases j with _ | _ | j
 ·simp at hv ha; subst hv ha; exact .lit _
 ·simp at hv ha; subst hv ha; exact .lit _
 ·simp at ha
theorem str_pos {s : ByteArray} (h : (s.toList == (ba []).toList) = false) : 0 < s.size := by
 rcases Nat.eq_zero_or_pos s.size with h0 | h0
 ·exfalso
  have e : s = ba [] := by
   obtain ⟨⟨l⟩⟩ := s
   cases l with
   | nil => rfl
   | cons x l => simp [ByteArray.size] at h0
  subst e
  rw [beq_self_eq_true] at h
  cases h
 ·exact h0
def partsF (s : ByteArray) : List ByteArray := splitF (s.extract 1 s.size) 47
def pparseF (s : ByteArray) : List ByteArray × Int :=
 if (s.toList == (ba []).toList) = true then ([], 0)
 else if (byteAt s 0 != 47 || !X.validAt s s.size 0) = true then ([], 2)
 else if ((partsF s).any fun q => !(tokF q).2) = true then ([], 2)
 else if (((partsF s).length : Int) > 63) then ([], 4) else ((partsF s).map fun q => (tokF q).1, 0)
theorem parts_len (s : ByteArray) : (partsF s).length ≤ s.size + 1 := by
 have h := split_len (s.extract 1 s.size) 47
 rw [ByteArray.size_extract] at h
 unfold partsF; omega
theorem parts_size {s : ByteArray} {q : ByteArray} (h : q ∈ partsF s) : q.size ≤ s.size := by
 have h := split_size (s := s.extract 1 s.size) (c := 47) q h
 rw [ByteArray.size_extract] at h; omega
theorem pparse_bad {s : ByteArray} (h0 : (s.toList == (ba []).toList) = false) (h1 : (byteAt s 0 != 47 || !X.validAt s s.size 0) = true) : pparseF s = ([], 2) := by
 unfold pparseF; rw [if_neg (by rw [h0]; decide), if_pos h1]
theorem pparse_tok {s : ByteArray} {i : Nat} (h0 : (s.toList == (ba []).toList) = false) (h1 : (byteAt s 0 != 47 || !X.validAt s s.size 0) = false) (hi : i < (partsF s).length) (ht : (tokF ((partsF s).getD i (dflt .str))).2 = false) : pparseF s = ([], 2) := by
 unfold pparseF; rw [if_neg (by rw [h0]; decide), if_neg (by rw [h1]; decide), if_pos (List.any_eq_true.2 ⟨_, getD_mem hi (dflt .str), by rw [ht]; rfl⟩)]
theorem pparse_all {s : ByteArray} (h0 : (s.toList == (ba []).toList) = false) (h1 : (byteAt s 0 != 47 || !X.validAt s s.size 0) = false) (ht : ∀ j, j < (partsF s).length → (tokF ((partsF s).getD j (dflt .str))).2 = true) : pparseF s = if (((partsF s).length : Int) > 63) then ([], 4) else ((partsF s).map fun q => (tokF q).1, 0) := by
 have h2 : ((partsF s).any fun q => !(tokF q).2) = false := by
  rw [List.any_eq_false]
  intro x hx
  obtain ⟨j, hj, rfl⟩ := List.mem_iff_getElem.1 hx
  have := ht j hj
  rw [List.getD_eq_getElem?_getD, List.getElem?_eq_getElem hj] at this
  simpa using this
 unfold pparseF; rw [if_neg (by rw [h0]; decide), if_neg (by rw [h1]; decide), if_neg (by rw [h2]; decide)]
theorem con217 (s : ByteArray) (hs0 : s.size < 4294960000) : Con Tryz.prog I0 217 [vs s] (.val (.tup [.row .str ((pparseF s).1), vi ((pparseF s).2)])) := by
 refine con_of Tryz.func217 rfl (Nat.le_of_ble_eq_true rfl) stab (fun w0 fz a hI hs => ?_)
 refine wp_seq ?_
 refine wN hs hI [] 750 [] .norm [(0, vs s)] [] tv fun a w hs => ?_
 refine then_norm ?_
 refine wp_seq ?_
 rcases bt (s.toList == (ba []).toList) with b1 | b1
 ·skip
  have n1 := eq_of_beq b1
  refine wN hs hI [true] 7580085125 [ty b1] .ret [(2, nilv), (3, vi 0)] [] ⟨b1, tv⟩ fun a w hs => ?_
  refine then_ret ?_
  exact rK (.val (.tup [rwS ([]), vi 0])) [] hs (by simp only [pparseF]; rw [if_pos b1])
 ·skip
  have n1 := beq_eq_false_iff_ne.1 b1
  have hpos := str_pos b1
  refine wN hs hI [false] 475750 [ty b1] .norm [(0, vs s)] [] ⟨b1, tv⟩ fun a w hs => ?_
  refine then_norm ?_
  refine wp_seq ?_
  rcases bt ((byteAt s 0) != 47) with b2 | b2
  ·skip
   have n2 := bne_iff_ne.1 b2
   refine wL hs hI [(3, ⟨[], gg [1007] [4, 5, 6], []⟩)] [true] 1850606727599804385 [0 ≤ (0 : Int) ∧ (0 : Int) < s.size, ty b2, ty b2, ty b2, ty b2, true = true] .ret [(2, nilv), (3, vi 2)] [] ⟨tv, tv⟩ ⟨(by omega), b2, b2, b2, b2, rfl, tv⟩ fun a w hs => ?_
   refine then_ret ?_
   exact rK (.val (.tup [rwS ([]), vi 2])) [] hs (by rw [pparse_bad b1 (by simp only [b2]; first | done | rfl)])
  ·skip
   have n2 := bne_eq_false_iff_eq.1 b2
   rcases bt (X.validAt s s.size 0) with b3 | b3
   ·skip
    refine wL hs hI [(3, ⟨[(5, ciV 249 [vs s] (vb (X.validAt s s.size 0)))], gg [4, 5, 6] [1007], []⟩)] [false] 1814961433370188760 [0 ≤ (0 : Int) ∧ (0 : Int) < s.size, ty b2, ty b2, ty b2, ty b2, ty (ng1 b3)] .norm [(0, vs s)] [] ⟨⟨⟨ent249, conValid _ rfl⟩, tv⟩, tv⟩ ⟨(by omega), b2, b2, b2, b2, (ng1 b3), tv⟩ fun a w hs => ?_
    refine then_norm ?_
    refine wp_seq ?_
    refine wN hs hI [] 25 [] .norm [(0, vs s), (4, nilv)] [] tv fun a w hs => ?_
    refine then_norm ?_
    refine wp_seq ?_
    refine wp_seq ?_
    refine wL hs hI [(6, ⟨[(2, ciA 82 [vs (s.extract 1 s.size), vs (ba [47])] [] [] (.own 9 .str (partsF s)))], [], []⟩)] [] 12203210 [0 ≤ (1 : Int) ∧ (1 : Int) ≤ (s.size : Int) ∧ (s.size : Int) ≤ (s.size : Int)] .norm [(4, nilv), (21, .own 7002), (22, vi ((partsF s).length : Int)), (23, vi 0)] [(7002, .sl 9 .str (partsF s))] ⟨⟨⟨ent82, conSplit _ _ (by rw [ByteArray.size_extract]; omega)⟩, tv⟩, tv⟩ ⟨(by (repeat' apply And.intro) <;> (try split) <;> omega), tv⟩ fun a w hs => ?_
    refine then_norm ?_
    refine wp_block ?_
    have h00 : (s.toList == (ba []).toList) = false := b1
    have h01 : (byteAt s 0 != 47 || !X.validAt s s.size 0) = false := by simp only [b2, b3]; first | done | rfl
    refine loop_L (N := Tryz.f217.ntmps) (w0 := w0) (ow := noO fz) (α := Nat) (fun p => [(4, .own 90000001), (21, .own 7002), (22, vi ((partsF s).length : Int)), (23, vi (p : Int))]) (fun p => [(7002, .sl 9 .str (partsF s)), (90000001, .sl 9 .str (((partsF s).take p).map (fun q => (tokF q).1)))]) (fun p => p ≤ (partsF s).length ∧ ∀ j, j < p → (tokF ((partsF s).getD j (dflt .str))).2 = true) (fun p => (partsF s).length - p) 0 ?_ ?_ ?_
    ·exact ⟨Nat.zero_le _, fun j hj => absurd hj (Nat.not_lt_zero _)⟩
    ·(have hs := (hs.nil 10000005 4 9 .str (by kernel_rfl) (by decide) (by kernel_rfl) (by kernel_rfl)).rmT [(4, .own 10000005), (21, .own 7002), (22, vi ((partsF s).length : Int)), (23, vi 0)] [(7002, .sl 9 .str (partsF s)), (10000005, .sl 9 .str ([]))] [(7002, 7002), (10000005, 10000005)] (by kernel_rfl); exact (hs.cst [(4, .own 10000005), (21, .own 7002), (22, vi ((partsF s).length : Int)), (23, vi ((0 : Nat) : Int))] [(7002, .sl 9 .str (partsF s)), (10000005, .sl 9 .str (((partsF s).take 0).map (fun q => (tokF q).1)))] rfl).rm [(7002, 7002), (90000001, 10000005)] (by kernel_rfl))
    rintro i hJ a w hs
    obtain ⟨hi, hall⟩ := hJ
    have hpl := parts_len s
    have htk := take_map_len (f := fun q => (tokF q).1) hi
    rcases bt (decide ((i : Int) < ((partsF s).length : Int))) with b4 | b4
    ·skip
     have n4 := of_decide_eq_true b4
     rcases bt ((tokF ((partsF s).getD i (dflt .str))).2) with b5 | b5
     ·skip
      refine wL hs hI [(9, ⟨[(1, ciV 252 [vs ((partsF s).getD i (dflt .str))] (.tup [vs ((tokF ((partsF s).getD i (dflt .str))).1), vb ((tokF ((partsF s).getD i (dflt .str))).2)]))], [], []⟩)] [true, false] 43355208312068516067238524436969297065900 [ty b4, 0 ≤ (i : Int) ∧ (i : Int) < (partsF s).length, i < (partsF s).length, ty (ng1 b5), (((((partsF s).take i).map (fun q => (tokF q).1)).length + 1) * 16 : Nat) ≤ 140737488355328 ∧ (((partsF s).take i).map (fun q => (tokF q).1)).length + 1 ≤ 140737488355328, InR .i64 ((i : Int) + 1)] .norm [(4, .own 13003), (21, .own 7002), (22, vi ((partsF s).length : Int)), (23, vi ((i : Int) + 1))] [(7002, .sl 9 .str (partsF s)), (13003, .sl 9 .str ((((partsF s).take i).map (fun q => (tokF q).1)) ++ ([(tokF ((partsF s).getD i (dflt .str))).1])))] ⟨⟨⟨ent252, con252 _ (by have := parts_size (getD_mem (l := partsF s) (i := i) (by omega) (dflt .str)); omega)⟩, tv⟩, tv⟩ ⟨b4, (by omega), (by omega), (ng1 b5), (by omega), (inR64 (by omega) (by omega)), tv⟩ fun a w hs => ?_
      refine then_norm ⟨i + 1, ⟨by omega, fun j hj => by rcases Nat.lt_succ_iff_lt_or_eq.1 hj with h | h; exact hall j h; subst h; exact b5⟩, by omega, ?_⟩
      (have e0_ : ((i : Int) + 1) = ((((i + 1) : Nat) : Int)) := (by first | rfl | (omega)); have e1_ : ((((partsF s).take i).map (fun q => (tokF q).1)) ++ ([(tokF ((partsF s).getD i (dflt .str))).1])) = (((partsF s).take (i + 1)).map (fun q => (tokF q).1)) := (by exact take_map_succ (f := fun q => (tokF q).1) (by omega) _); exact (hs.cst [(4, .own 13003), (21, .own 7002), (22, vi ((partsF s).length : Int)), (23, vi (((i + 1) : Nat) : Int))] [(7002, .sl 9 .str (partsF s)), (13003, .sl 9 .str (((partsF s).take (i + 1)).map (fun q => (tokF q).1)))] (by first | (rw [e0_, e1_]; done) | (simp only [e0_, e1_]; done) | rfl | (simp only [e0_, e1_]; rfl))).rm [(7002, 7002), (90000001, 13003)] (by kernel_rfl))
     ·skip
      refine wL hs hI [(9, ⟨[(1, ciV 252 [vs ((partsF s).getD i (dflt .str))] (.tup [vs ((tokF ((partsF s).getD i (dflt .str))).1), vb ((tokF ((partsF s).getD i (dflt .str))).2)]))], [], []⟩)] [true, true] 177633847021507099151629941597150 [ty b4, 0 ≤ (i : Int) ∧ (i : Int) < (partsF s).length, i < (partsF s).length, ty (ng0 b5)] .ret [(2, nilv), (3, vi 2)] [] ⟨⟨⟨ent252, con252 _ (by have := parts_size (getD_mem (l := partsF s) (i := i) (by omega) (dflt .str)); omega)⟩, tv⟩, tv⟩ ⟨b4, (by omega), (by omega), (ng0 b5), tv⟩ fun a w hs => ?_
      refine then_ret ?_
      refine inb_ret ?_
      refine then_ret ?_
      exact rK (.val (.tup [rwS ([]), vi 2])) [] hs (by rw [pparse_tok (i := i) h00 h01 (by omega) b5])
    ·skip
     have n4 := of_decide_eq_false b4
     refine wN hs hI [false] 19025 [ty b4] (.exit 0) [(4, .own 90000001)] [(90000001, .sl 9 .str (((partsF s).take i).map (fun q => (tokF q).1)))] ⟨b4, tv⟩ fun a w hs => ?_
     refine then_exit ?_
     refine inb_hit ?_
     refine then_norm ?_
     rcases bt (decide (((((partsF s).take i).map (fun q => (tokF q).1)).length : Int) > 63)) with b6 | b6
     ·skip
      have n6 := of_decide_eq_true b6
      refine wN hs hI [true] 189502128750 [ty b6] .ret [(2, nilv), (3, vi 4)] [] ⟨b6, tv⟩ fun a w hs => ?_
      exact rK (.val (.tup [rwS ([]), vi 4])) [] hs (by obtain rfl : i = (partsF s).length := (by omega); rw [pparse_all h00 h01 (fun j hj => hall j hj), if_pos (by omega)])
     ·skip
      have n6 := of_decide_eq_false b6
      refine wN hs hI [false] 115386974785000 [ty b6] .ret [(2, .own 90000001), (3, vi 0)] [(90000001, .sl 9 .str (((partsF s).take i).map (fun q => (tokF q).1)))] ⟨b6, tv⟩ fun a w hs => ?_
      exact rK (.val (.tup [rwS (((partsF s).take i).map (fun q => (tokF q).1)), vi 0])) [90000001] hs (by obtain rfl : i = (partsF s).length := (by omega); rw [pparse_all h00 h01 (fun j hj => hall j hj), if_neg (by omega)]; rw [List.take_length])
   ·skip
    refine wL hs hI [(3, ⟨[(5, ciV 249 [vs s] (vb (X.validAt s s.size 0)))], gg [4, 5, 6] [1007], []⟩)] [true] 28915730118751485423135 [0 ≤ (0 : Int) ∧ (0 : Int) < s.size, ty b2, ty b2, ty b2, ty b2, ty (ng0 b3)] .ret [(2, nilv), (3, vi 2)] [] ⟨⟨⟨ent249, conValid _ rfl⟩, tv⟩, tv⟩ ⟨(by omega), b2, b2, b2, b2, (ng0 b3), tv⟩ fun a w hs => ?_
    refine then_ret ?_
    exact rK (.val (.tup [rwS ([]), vi 2])) [] hs (by rw [pparse_bad b1 (by simp only [b2, b3]; first | done | rfl)])
end Go.Proofs.YtondpnipoogoiaaGreatDoor.F
