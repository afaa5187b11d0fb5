/- MaskOrder -/
import Derived.Test.YtondpnipoogoiaaGreatDoorO12
import Derived.Test.YtondpnipoogoiaaGreatDoorO4
namespace Go.Proofs.YtondpnipoogoiaaGreatDoor.F
open Go Go.RowKit
set_option linter.unusedVariables false
set_option linter.unusedSimpArgs false
theorem step_keep {out : List (List ByteArray)} {p q : List ByteArray} (h : q ∈ out) : q ∈ normStep out p := by
  unfold normStep
  split
  · split
    · exact h
    · exact List.mem_append_left _ h
  · exact List.mem_append_left _ h
theorem fold_stay : ∀ (s : List (List ByteArray)) {out : List (List ByteArray)} {q : List ByteArray}, q ∈ out → q ∈ s.foldl normStep out
  | [], _, _, h => h
  | p :: s, _, _, h => fold_stay s (step_keep h)
theorem step_cover (out : List (List ByteArray)) (p : List ByteArray) : ∃ o ∈ normStep out p, startsF o p = true := by
  unfold normStep
  split
  · rename_i h
    split
    · rename_i h2
      exact ⟨_, getD_mem (by have := of_decide_eq_true h; omega) _, h2⟩
    · exact ⟨p, by simp, starts_self p⟩
  · exact ⟨p, by simp, starts_self p⟩
theorem fold_cover : ∀ (s : List (List ByteArray)) (out : List (List ByteArray)) {p : List ByteArray}, p ∈ s → ∃ o ∈ s.foldl normStep out, startsF o p = true
  | [], _, _, h => by simp at h
  | q :: s, out, p, h => by
    rcases List.mem_cons.1 h with rfl | h
    · obtain ⟨o, h1, h2⟩ := step_cover out p
      exact ⟨o, fold_stay s h1, h2⟩
    · exact fold_cover s _ h
theorem norm_cover {l : List (List ByteArray)} {p : List ByteArray} (h : p ∈ l) : ∃ o ∈ normF l, startsF o p = true := fold_cover _ _ (sortP_mem.2 h)
theorem starts_trans {a b c : List ByteArray} (h1 : startsF a b = true) (h2 : startsF b c = true) : startsF a c = true := starts_iff.2 ((starts_iff.1 h1).trans (starts_iff.1 h2))
theorem starts_anti {a b : List ByteArray} (h1 : startsF a b = true) (h2 : startsF b a = true) : a = b := (starts_iff.1 h1).eq_of_length_le (starts_iff.1 h2).length_le
theorem pw_mem {α : Type} {r : α → α → Prop} (hs : ∀ a b, r a b → r b a) : ∀ {l : List α}, l.Pairwise r → ∀ {x y : α}, x ∈ l → y ∈ l → x ≠ y → r x y
  | [], _, _, _, h, _, _ => by simp at h
  | a :: l, h, x, y, hx, hy, hne => by
    rw [List.pairwise_cons] at h
    rcases List.mem_cons.1 hx with rfl | hx'
    · rcases List.mem_cons.1 hy with rfl | hy'
      · exact absurd rfl hne
      · exact h.1 y hy'
    · rcases List.mem_cons.1 hy with rfl | hy'
      · exact hs _ _ (h.1 x hx')
      · exact pw_mem hs h.2 hx' hy' hne
theorem norm_iff {l : List (List ByteArray)} {x : List ByteArray} : x ∈ normF l ↔ x ∈ l ∧ ∀ y ∈ l, startsF y x = true → y = x := by
  constructor
  · intro h
    refine ⟨normF_mem h, fun y hy hs => ?_⟩
    obtain ⟨o, h1, h2⟩ := norm_cover hy
    have h3 := starts_trans h2 hs
    have h4 : o = x := by
      by_cases e : o = x
      · exact e
      · have := pw_mem (fun a b h => Inc.symm h) (normF_inc l) h1 h e
        rw [this.no] at h3; cases h3
    subst h4
    exact starts_anti hs h2
  · rintro ⟨h1, h2⟩
    obtain ⟨o, h3, h4⟩ := norm_cover h1
    rw [← h2 o (normF_mem h3) h4]; exact h3
theorem norm_nodup (l : List (List ByteArray)) : (normF l).Nodup := (normF_inc l).imp (fun h e => by subst e; have := h.no; rw [starts_self] at this; cases this)
theorem norm_same {l m : List (List ByteArray)} (h : ∀ x, x ∈ l ↔ x ∈ m) : normF l = normF m := by
  refine List.Perm.eq_of_pairwise (le := Le) (fun a b _ _ h1 h2 => cmpS_anti h2 h1) (normF_sorted l) (normF_sorted m) ?_
  rw [List.perm_ext_iff_of_nodup (norm_nodup l) (norm_nodup m)]
  intro x
  rw [norm_iff, norm_iff, h x]
  exact ⟨fun ⟨a, b⟩ => ⟨a, fun y hy => b y ((h y).2 hy)⟩, fun ⟨a, b⟩ => ⟨a, fun y hy => b y ((h y).1 hy)⟩⟩
theorem norm_turn (p : List (List ByteArray)) (c : Nat) : normF (p.drop c ++ p ++ p.take c) = normF p := norm_same (fun x => by
  simp only [List.mem_append]
  exact ⟨fun h => by
    rcases h with (h | h) | h
    · exact List.mem_of_mem_drop h
    · exact h
    · exact List.mem_of_mem_take h, fun h => .inl (.inr h)⟩)
def Can (t : Tree) : Prop := ∀ q, (getF q t).1.kind = 7 → objM (mems (getF q t).1) = (getF q t).1
theorem can_zero : Can Tree.zero := fun q h => by rw [getF_zero] at h; exact absurd h (by decide)
theorem can_memV {t : Tree} (h : Can t) (x : ByteArray) : Can (memV t x) := by
  cases hb : memB t x with
  | true => intro q; have := h (x :: q); rw [getF_cons, if_pos hb] at this; exact this
  | false => rw [memV_zero hb]; exact can_zero
theorem can_get {v : Tree} (h : Can v) : ∀ (p : List ByteArray), Can (getF p v).1
  | [] => h
  | x :: p => by
    rw [getF_cons]
    split
    · exact can_get (can_memV h x) p
    · exact can_zero
theorem can_set {t u : Tree} (h : Can t) (hu : Can u) (x : ByteArray) : Can (setT t x u) := by
  intro q
  cases q with
  | nil => intro _; show objM (mems (setT t x u)) = setT t x u; unfold setT; rw [mems_objM]
  | cons y q =>
    rw [getF_cons, memB_set, memV_set]
    by_cases he : eqT y x = true
    · simp only [he, if_true]; exact hu q
    · simp only [he]
      have := h (y :: q)
      rw [getF_cons] at this
      simpa using this
theorem can_unset {t : Tree} (h : Can t) (hn : ND t) (x : ByteArray) : Can (unsetT t x) := by
  intro q
  cases q with
  | nil =>
    show (unsetT t x).kind = 7 → objM (mems (unsetT t x)) = unsetT t x
    unfold unsetT
    split
    · intro _; rw [mems_objM]
    · exact h []
  | cons y q =>
    rw [getF_cons]
    by_cases he : eqT y x = true
    · rw [eqT_iff] at he
      subst he
      rw [memB_look, look_unsetT_self (t := t) (hn [])]
      exact fun h => absurd (show (0 : Int) = 7 from h) (by decide)
    · have he' : eqT y x = false := by simpa using he
      rw [memB_unset_ne he', memV_unset_ne he']
      have := h (y :: q)
      rwa [getF_cons] at this
theorem can_setP {v : Tree} (hv : Can v) : ∀ (p : List ByteArray) {t : Tree}, Can t → Can (setP p t v)
  | [], t, h => hv
  | x :: p, t, h => can_set h (can_setP hv p (can_memV h x)) x
theorem can_unsetP : ∀ (p : List ByteArray) {t : Tree}, Can t → ND t → Can (unsetP p t)
  | [], t, h, _ => h
  | [x], t, h, hn => can_unset h hn x
  | x :: m :: p, t, h, hn => by
    rw [unsetP]
    split
    · exact can_set h (can_unsetP (m :: p) (can_memV h x) (nd_memV hn x)) x
    · exact h
theorem can_all {v : Tree} (hv : Can v) (hn : ND v) : ∀ (s : List (List ByteArray)) {t : Tree}, Can t → ND t → Can (apAll t s v)
  | [], t, h, _ => h
  | p :: s, t, h, h2 => can_all hv hn s (t := apStep v t p) (by
    unfold apStep
    split
    · exact can_setP (can_get hv p) p h
    · exact can_unsetP p h h2) (nd_step hn h2 p)
theorem rep_self {x : ByteArray} : ∀ {l : Mem} {u : Tree}, lookA x l = some u → repA x u l = l
  | [], _, h => by simp [lookA] at h
  | (y, z) :: l, u, h => by
    simp only [lookA] at h
    simp only [repA]
    split at h
    · rename_i he
      rw [if_pos he, Option.some.inj h]
    · rename_i he
      rw [if_neg he, rep_self h]
theorem mem_kind {t : Tree} {x : ByteArray} (h : memB t x = true) : t.kind = 7 := by
  by_cases hk : t.kind = 7
  · exact hk
  · rw [memB_look, mems_none hk] at h; simp [lookA] at h
theorem set_self {t : Tree} (hc : Can t) {x : ByteArray} (h : memB t x = true) : setT t x (memV t x) = t := by
  have hk := mem_kind h
  rw [memB_look] at h
  obtain ⟨u, hu⟩ := Option.isSome_iff_exists.1 h
  have hv : memV t x = u := by rw [memV_look, hu]; rfl
  unfold setT insA
  rw [if_pos h, hv, rep_self hu]
  exact hc [] hk
theorem setP_self : ∀ {p : List ByteArray} {t v : Tree}, Can t → getF p t = (v, true) → setP p t v = t
  | [], t, v, _, h => by simp only [getF, Prod.mk.injEq] at h; exact h.1.symm
  | x :: p, t, v, hc, h => by
    rw [getF_cons] at h
    split at h
    · rename_i hb
      rw [setP, setP_self (can_memV hc x) h, set_self hc hb]
    · simp at h
theorem unsetP_self : ∀ {p : List ByteArray} {t : Tree}, Can t → p ≠ [] → (getF p t).2 = false → unsetP p t = t
  | [], t, _, h, _ => absurd rfl h
  | [x], t, hc, _, h => by
    rw [getF_cons] at h
    split at h
    · cases h
    · rename_i hb
      rw [unsetP]; unfold unsetT; rw [if_neg hb]
  | x :: m :: p, t, hc, _, h => by
    rw [unsetP]
    split
    · rename_i hb
      rw [getF_cons, if_pos hb] at h
      rw [unsetP_self (can_memV hc x) (by simp) h, set_self hc hb]
    · rfl
theorem step_again {v t : Tree} (hc : Can t) {p : List ByteArray} (hp : p ≠ []) (h : getF p t = getF p v) : apStep v t p = t := by
  unfold apStep
  split
  · rename_i hb; exact setP_self hc (by rw [h]; exact Prod.ext rfl hb)
  · rename_i hb; exact unsetP_self hc hp (by rw [h]; simpa using hb)
theorem all_again {v : Tree} : ∀ {s : List (List ByteArray)} {t : Tree}, Can t → (∀ p ∈ s, p ≠ [] ∧ getF p t = getF p v) → apAll t s v = t
  | [], t, _, _ => rfl
  | p :: s, t, hc, h => by
    have h1 := h p (by simp)
    show apAll (apStep v t p) s v = t
    rw [step_again hc h1.1 h1.2]
    exact all_again hc (fun q hq => h q (by simp [hq]))
end Go.Proofs.YtondpnipoogoiaaGreatDoor.F
namespace Go.Proofs.YtondpnipoogoiaaGreatDoor.F
open Go Go.RowKit
set_option linter.unusedVariables false
set_option linter.unusedSimpArgs false
structure OneN (n : Nat) (t : Tree) : Prop where
  own : ownO t = true
  ok : Ok t.n.m
  len : t.n.m.length ≤ 3
  k : t.k.length ≤ n
  sorted : ((mems t).map (·.1)).Pairwise ltB
  texts : ∀ p ∈ mems t, textOk p.1 = true
def GoodN (n : Nat) : Nat → Tree → Prop
  | 0, _ => False
  | d + 1, t => OneN n t ∧ t.v.length ≤ n ∧ ∀ u ∈ t.v, GoodN n d u
def MemN (n d : Nat) (t : Tree) : Prop := (mems t).length ≤ n ∧ ((mems t).map (·.1)).Pairwise ltB ∧ ∀ p ∈ mems t, textOk p.1 = true ∧ GoodN n d p.2
theorem goodN_T : ∀ {d : Nat} {t : Tree}, GoodT d t → GoodN 3 d t
  | 0, _, h => h.elim
  | d + 1, t, ⟨h1, h2, h3⟩ => ⟨⟨h1.own, h1.ok, h1.len, h1.k, h1.sorted, h1.texts⟩, h2, fun u hu => goodN_T (h3 u hu)⟩
theorem goodN_mono {n m : Nat} (hn : n ≤ m) : ∀ {d e : Nat} {t : Tree}, d ≤ e → GoodN n d t → GoodN m e t
  | 0, _, _, _, h => h.elim
  | d + 1, 0, _, hd, _ => absurd hd (Nat.not_succ_le_zero d)
  | d + 1, e + 1, t, hd, ⟨h1, h2, h3⟩ => ⟨⟨h1.own, h1.ok, h1.len, Nat.le_trans h1.k hn, h1.sorted, h1.texts⟩, Nat.le_trans h2 hn, fun u hu => goodN_mono hn (Nat.le_of_succ_le_succ hd) (h3 u hu)⟩
theorem goodN_fit {n : Nat} : ∀ {d : Nat} {t : Tree}, GoodN n d t → Fit n d t
  | 0, _, h => h.elim
  | d + 1, t, ⟨_, h2, h3⟩ => ⟨h2, fun u hu => goodN_fit (h3 u hu)⟩
theorem goodN_fine {n : Nat} (hn : n < 1000000000) : ∀ {d : Nat} {t : Tree}, GoodN n d t → fineT t
  | 0, _, h => h.elim
  | d + 1, t, ⟨h1, h2, h3⟩ => by
    have hl : ∀ l : List Tree, (∀ u ∈ l, fineT u) → fineL l := by
      intro l
      induction l with
      | nil => intro _; trivial
      | cons x l ih => exact fun h => ⟨h x (by simp), ih (fun u hu => h u (by simp [hu]))⟩
    rw [fine_eq]
    exact ⟨⟨h1.ok, by have := h1.len; omega, by have := h1.k; omega, by omega⟩, hl _ (fun u hu => goodN_fine hn (h3 u hu))⟩
theorem chk_goodN {n : Nat} : ∀ {d : Nat} {t : Tree} {e l : Int}, GoodN n d t → e + d ≤ 65 → (nodes t : Int) ≤ l → (chk t e l).1 = true ∧ (chk t e l).2 = l - nodes t
  | 0, _, _, _, h, _, _ => h.elim
  | d + 1, t, e, l, ⟨h1, h2, h3⟩, he, hl => by
    have hn := nodes_eq t
    have key : ∀ (v : List Tree) (l : Int), (∀ u ∈ v, GoodN n d u) → (nodesL v : Int) ≤ l → (chkL v (e + 1) l).1 = true ∧ (chkL v (e + 1) l).2 = l - nodesL v := by
      intro v
      induction v with
      | nil => intro l _ _; simp [chkL, nodesL]
      | cons x v ih =>
        intro l hv hl
        simp only [nodesL] at hl
        have hx := chk_goodN (e := e + 1) (l := l) (hv x (by simp)) (by omega) (by omega)
        simp only [chkL]
        rw [if_pos hx.1, hx.2]
        have := ih (l - nodes x) (fun u hu => hv u (by simp [hu])) (by omega)
        simp only [nodesL]
        exact ⟨this.1, by rw [this.2]; omega⟩
    rw [chk_eq, if_neg (by
      rintro (h | h | h)
      · omega
      · omega
      · rw [h1.own] at h; cases h)]
    have := key t.v (l - 1) h3 (by omega)
    exact ⟨this.1, by rw [this.2]; omega⟩
theorem goodN_mem {n d : Nat} {t : Tree} (h : GoodN n (d + 1) t) : MemN n d t := ⟨by have := mems_lev t; have := h.2.1; omega, h.1.sorted, fun p hp => ⟨h.1.texts p hp, h.2.2 _ (mems_in hp)⟩⟩
theorem mem_zeroN (n d : Nat) : MemN n d Tree.zero := by
  have : mems Tree.zero = [] := no_mems rfl
  exact ⟨by rw [this]; exact Nat.zero_le _, by rw [this]; exact List.Pairwise.nil, by rw [this]; intro p hp; simp at hp⟩
theorem look_mem {x : ByteArray} : ∀ {l : Mem} {u : Tree}, lookA x l = some u → (x, u) ∈ l
  | [], _, h => by simp [lookA] at h
  | (y, z) :: l, u, h => by
    simp only [lookA] at h
    split at h
    · rename_i he
      rw [eqT_iff] at he
      subst he
      rw [Option.some.inj h]; exact List.mem_cons_self ..
    · exact List.mem_cons_of_mem _ (look_mem h)
theorem memN_V {n d : Nat} {t : Tree} {x : ByteArray} (h : MemN n (d + 1) t) : MemN n d (memV t x) := by
  cases hb : memB t x with
  | true =>
    rw [memB_look] at hb
    obtain ⟨u, hu⟩ := Option.isSome_iff_exists.1 hb
    rw [memV_look, hu]
    exact goodN_mem (h.2.2 _ (look_mem hu)).2
  | false => rw [memV_zero hb]; exact mem_zeroN n d
theorem obj_goodN {n d : Nat} {L : Mem} (hn : n ≤ 300) (h1 : L.length ≤ n) (h2 : (L.map (·.1)).Pairwise ltB) (h3 : ∀ p ∈ L, textOk p.1 = true ∧ GoodN n d p.2) : GoodN n (d + 1) (objM L) := by
  refine ⟨⟨own_obj (by omega) h2 (fun p hp => (h3 p hp).1), Ok.nil, Nat.zero_le _, ?_, by rw [mems_objM]; exact h2, by rw [mems_objM]; exact fun p hp => (h3 p hp).1⟩, ?_, fun u hu => ?_⟩
  · show (L.map (·.1)).length ≤ n; rw [List.length_map]; exact h1
  · show (L.map (·.2)).length ≤ n; rw [List.length_map]; exact h1
  · obtain ⟨p, hp, rfl⟩ := List.mem_map.1 (show u ∈ L.map (·.2) from hu)
    exact (h3 p hp).2
theorem setN {n d : Nat} {t u : Tree} {x : ByteArray} (hn : n + 1 ≤ 300) (hx : textOk x = true) (h : MemN n d t) (hu : GoodN (n + 1) d u) : GoodN (n + 1) (d + 1) (setT t x u) := by
  unfold setT
  refine obj_goodN hn ?_ (ins_sorted h.2.1) (fun p hp => ?_)
  · have := keys_ins x u (mems t)
    have := h.1; omega
  · rcases ins_mem hp with rfl | hp
    · exact ⟨hx, hu⟩
    · have := h.2.2 p hp
      exact ⟨this.1, goodN_mono (Nat.le_succ n) (Nat.le_refl _) this.2⟩
theorem unsetN {n d : Nat} {t : Tree} {x : ByteArray} (hn : n ≤ 300) (h : GoodN n d t) : GoodN n d (unsetT t x) := by
  unfold unsetT
  split
  · cases d with
    | zero => exact h.elim
    | succ d =>
      have hm := goodN_mem h
      have hs := del_sub x (mems t)
      refine obj_goodN hn (Nat.le_trans hs.length_le hm.1) (hm.2.1.sublist (hs.map _)) (fun p hp => hm.2.2 p (hs.subset hp))
  · exact h
theorem setPN {n E : Nat} {v : Tree} (hn : n + 1 ≤ 300) (hv : GoodN n E v) : ∀ (p : List ByteArray) {D : Nat} {t : Tree}, (∀ x ∈ p, textOk x = true) → p ≠ [] → MemN n D t → p.length + E ≤ D + 1 → GoodN (n + 1) (D + 1) (setP p t v)
  | [], _, _, _, h, _, _ => absurd rfl h
  | [x], D, t, hx, _, ht, h => by
    rw [setP]
    exact setN hn (hx x (by simp)) ht (goodN_mono (Nat.le_succ n) (by simp at h; omega) hv)
  | x :: y :: p, 0, t, hx, _, ht, h => by
    have := (show 0 < E from by cases E with | zero => exact hv.elim | succ E => exact Nat.succ_pos E)
    simp only [List.length_cons] at h; omega
  | x :: y :: p, D + 1, t, hx, _, ht, h => by
    rw [setP]
    simp only [List.length_cons] at h
    exact setN hn (hx x (by simp)) ht (setPN hn hv (y :: p) (fun z hz => hx z (by simp only [List.mem_cons] at hz ⊢; exact .inr hz)) (by simp) (memN_V ht) (by simp only [List.length_cons]; omega))
theorem unsetPN {n : Nat} (hn : n + 1 ≤ 300) : ∀ (p : List ByteArray) {D : Nat} {t : Tree}, (∀ x ∈ p, textOk x = true) → GoodN n D t → GoodN (n + 1) D (unsetP p t)
  | [], D, t, _, h => goodN_mono (Nat.le_succ n) (Nat.le_refl _) h
  | [x], D, t, _, h => goodN_mono (Nat.le_succ n) (Nat.le_refl _) (unsetN (by omega) h)
  | x :: m :: p, 0, t, _, h => h.elim
  | x :: m :: p, D + 1, t, hx, h => by
    rw [unsetP]
    split
    · rename_i hb
      exact setN hn (hx x (by simp)) (goodN_mem h) (unsetPN hn (m :: p) (fun z hz => hx z (by simp only [List.mem_cons] at hz ⊢; exact .inr hz)) (h.2.2 _ (mem_cutV hb)))
    · exact goodN_mono (Nat.le_succ n) (Nat.le_refl _) h
theorem getN {n : Nat} : ∀ (p : List ByteArray) {E : Nat} {v : Tree}, GoodN n E v → (getF p v).2 = true → GoodN n E (getF p v).1
  | [], E, v, h, _ => h
  | x :: p, 0, v, h, _ => h.elim
  | x :: p, E + 1, v, h, hb => by
    rw [getF_cons] at hb ⊢
    split
    · rename_i hm
      rw [if_pos hm] at hb
      exact goodN_mono (Nat.le_refl _) (Nat.le_succ E) (getN p (h.2.2 _ (mem_cutV hm)) hb)
    · rename_i hm
      rw [if_neg hm] at hb; cases hb
theorem stepN {n D E : Nat} {v t : Tree} (hn : n + 1 ≤ 300) (hv : GoodN n E v) (ht : GoodN n (D + 1) t) (p : List ByteArray) (hx : ∀ x ∈ p, textOk x = true) (hp : p ≠ []) (h : p.length + E ≤ D + 1) : GoodN (n + 1) (D + 1) (apStep v t p) := by
  unfold apStep
  split
  · rename_i hb; exact setPN hn (getN p hv hb) p hx hp (goodN_mem ht) h
  · exact unsetPN hn p hx ht
theorem allN {D E : Nat} {v : Tree} : ∀ (s : List (List ByteArray)) {n : Nat} {t : Tree}, n + s.length ≤ 300 → GoodN n E v → GoodN n (D + 1) t → (∀ p ∈ s, (∀ x ∈ p, textOk x = true) ∧ p ≠ [] ∧ p.length + E ≤ D + 1) → GoodN (n + s.length) (D + 1) (apAll t s v)
  | [], n, t, _, _, h, _ => h
  | p :: s, n, t, hn, hv, h, hs => by
    simp only [List.length_cons] at hn
    have h1 := hs p (by simp)
    have := allN s (by omega) (goodN_mono (Nat.le_succ n) (Nat.le_refl _) hv) (stepN (by omega) hv h p h1.1 h1.2.1 h1.2.2) (fun q hq => hs q (by simp [hq]))
    rw [List.length_cons, show n + (s.length + 1) = n + 1 + s.length by omega]
    exact this
theorem nmF_text {n : Int} (h : 0 ≤ n ∧ n < 4) : textOk (nmF n) = true := by
  have : n = 0 ∨ n = 1 ∨ n = 2 ∨ n = 3 := by omega
  have e0 : textOk (nmF 0) = true := by kernel_rfl
  have e1 : textOk (nmF 1) = true := by kernel_rfl
  have e2 : textOk (nmF 2) = true := by kernel_rfl
  have e3 : textOk (nmF 3) = true := by kernel_rfl
  rcases this with rfl | rfl | rfl | rfl <;> assumption
theorem paths_text {l : List Int} {p : List ByteArray} (h : p ∈ pathsF l) : ∀ x ∈ p, textOk x = true := by
  obtain ⟨y, _, rfl⟩ := List.mem_map.1 h
  have hv := (placeF_in y 1048576 (by decide)).1
  have hk := kF_in hv
  intro s hs
  unfold pthF at hs
  simp only [pathF, stepsF, List.mem_cons, List.mem_map, List.mem_range] at hs
  rcases hs with rfl | ⟨m, hm, rfl⟩
  · exact nmF_text (tm4 hv)
  · exact nmF_text (ix4 hv (by omega))
theorem own_can {t : Tree} (h : ownO t = true) (hk : t.kind = 7) : objM (mems t) = t := by
  have hkm := mems_k t
  have hvm := mems_v t
  obtain ⟨kind, b, n, s, k, v⟩ := t
  obtain rfl : kind = 7 := hk
  simp only [ownO, truthO, numO, ownN, textO, keysO, itemsO, Tree.kind, Tree.b, Tree.n, Tree.s, Tree.k, Tree.v, Bool.and_eq_true, decide_eq_true_eq] at h
  simp at h
  obtain ⟨hb, ⟨hn1, hn2, hn3⟩, hs, ⟨_, hl⟩, _⟩ := h
  unfold cutK at hkm
  unfold cutV at hvm
  simp only [Tree.kind, Tree.k, Tree.v, if_true] at hkm hvm
  rw [List.take_of_length_le (by omega)] at hkm hvm
  unfold objM
  rw [hkm, hvm]
  obtain ⟨neg, m, e⟩ := n
  subst hb
  simp at hn1 hn2 hn3
  subst hn1 hn2 hn3
  have hs' : s = ba [] := toList_inj (by simpa using hs)
  subst hs'
  rfl
theorem can_good {d : Nat} {t : Tree} (h : GoodT d t) : Can t := by
  intro q
  induction q generalizing d t with
  | nil => cases d with
    | zero => exact h.elim
    | succ d => exact own_can h.1.own
  | cons x q ih =>
    rw [getF_cons]
    split
    · rename_i hb
      cases d with
      | zero => exact h.elim
      | succ d => exact ih (h.2.2 _ (mem_cutV hb))
    · exact fun h => absurd (show (0 : Int) = 7 from h) (by decide)
theorem good_aM (l k m : List Int) : GoodN 15 8 (aM l k m) := by
  have h := allN (D := 7) (E := 5) (pM m) (n := 3) (t := madeT l) (v := madeT k) (by have := pM_len m; omega) (goodN_T (good_madeT k)) (goodN_mono (Nat.le_refl _) (by decide) (goodN_T (good_madeT l))) (fun p hp => ⟨paths_text (normF_mem hp), fun e => by have := (pM_in hp).1; rw [e] at this; exact absurd this (by decide), by have := (pM_in hp).2; omega⟩)
  exact goodN_mono (by have := pM_len m; omega) (Nat.le_refl _) h
theorem valid_aM (l k m : List Int) : validT (aM l k m) = true := (chk_goodN (good_aM l k m) (by decide) (by have := nodes_aM l k m; omega)).1
end Go.Proofs.YtondpnipoogoiaaGreatDoor.F
namespace Go.Proofs.YtondpnipoogoiaaGreatDoor.F
open Go Go.RowKit Go.Proofs.Tryz
set_option linter.unusedVariables false
set_option linter.unusedSimpArgs false
theorem nil_row {w : World} {fz : Nat → Prop} {η : Nat → Option Value} {v : Value} (τ : Ty) (h : R w fz η v nilv) : R w fz η v (.row τ []) := by
  rw [h.lit_inv]
  exact .row none 0 τ [] (fun _ _ => .bool false) (Nat.le_refl _) (Nat.zero_le _) (fun i x h => by simp at h) (fun i x j y h => by simp at h)
def Wk : List AV → List AV → Prop
  | [], [] => True
  | a :: l, b :: m => (a = b ∨ (a = nilv ∧ ∃ τ, b = .row τ []) ∨ ∃ l', a = .agg l' ∧ ∃ m', b = .agg m' ∧ Wk1 l' m') ∧ Wk l m
  | _, _ => False
where Wk1 : List AV → List AV → Prop
  | [], [] => True
  | a :: l, b :: m => (a = b ∨ (a = nilv ∧ ∃ τ, b = .row τ [])) ∧ Wk1 l m
  | _, _ => False
theorem wk1_len : ∀ {l m : List AV}, Wk.Wk1 l m → l.length = m.length
  | [], [], _ => rfl
  | _ :: _, _ :: _, h => by simp [wk1_len h.2]
theorem wk_len : ∀ {l m : List AV}, Wk l m → l.length = m.length
  | [], [], _ => rfl
  | _ :: _, _ :: _, h => by simp [wk_len h.2]
theorem wk1_at : ∀ {l m : List AV} {j : Nat} {b : AV}, Wk.Wk1 l m → m[j]? = some b → ∃ a, l[j]? = some a ∧ (a = b ∨ (a = nilv ∧ ∃ τ, b = .row τ []))
  | [], [], _, _, _, hb => by simp at hb
  | a :: l, b :: m, 0, _, h, hb => by
    simp only [List.getElem?_cons_zero, Option.some.injEq] at hb
    subst hb
    exact ⟨a, rfl, h.1⟩
  | a :: l, b :: m, j + 1, _, h, hb => by simpa using wk1_at h.2 (by simpa using hb)
theorem wk_at : ∀ {l m : List AV} {j : Nat} {b : AV}, Wk l m → m[j]? = some b → ∃ a, l[j]? = some a ∧ (a = b ∨ (a = nilv ∧ ∃ τ, b = .row τ []) ∨ ∃ l', a = .agg l' ∧ ∃ m', b = .agg m' ∧ Wk.Wk1 l' m')
  | [], [], _, _, _, hb => by simp at hb
  | a :: l, b :: m, 0, _, h, hb => by
    simp only [List.getElem?_cons_zero, Option.some.injEq] at hb
    subst hb
    exact ⟨a, rfl, h.1⟩
  | a :: l, b :: m, j + 1, _, h, hb => by simpa using wk_at h.2 (by simpa using hb)
theorem wk_R {w : World} {fz : Nat → Prop} {η : Nat → Option Value} {v : Value} {a b : AV} (hR : R w fz η v a) (h : a = b ∨ (a = nilv ∧ ∃ τ, b = .row τ []) ∨ ∃ l', a = .agg l' ∧ ∃ m', b = .agg m' ∧ Wk.Wk1 l' m') : R w fz η v b := by
  rcases h with rfl | ⟨rfl, τ, rfl⟩ | ⟨l', rfl, m', rfl, hw⟩
  · exact hR
  · exact nil_row τ hR
  · obtain ⟨vs, rfl, hl, hel⟩ := hR.agg_inv
    refine .agg vs m' (by rw [hl, wk1_len hw]) (fun j v b hv hb => ?_)
    obtain ⟨a, ha, hab⟩ := wk1_at hw hb
    have := hel j v a hv ha
    rcases hab with rfl | ⟨rfl, τ, rfl⟩
    · exact this
    · exact nil_row τ this
theorem Con.told {P : Program} {I : World → Prop} {f : FuncId} {args args' : List AV} {out : COut} (h : Con P I f args' out) (hw : Wk args args') : Con P I f args out := fun w fz vs hI hf hR => by
  refine h w fz vs hI hf ⟨by rw [hR.1, wk_len hw], fun j v b hv hb => ?_⟩
  obtain ⟨a, ha, hab⟩ := wk_at hw hb
  exact wk_R (hR.2 j v a hv ha) hab
def awT : Tree := .mk 7 false ⟨false, [], 0⟩ (ba []) [ba [97]] [.mk 7 false ⟨false, [], 0⟩ (ba []) [ba [98], ba [99]] [.mk 2 false ⟨false, [], 0⟩ (ba []) [] [], .mk 1 false ⟨false, [], 0⟩ (ba []) [] []]]
def awV : Tree := .mk 7 false ⟨false, [], 0⟩ (ba []) [] []
def awR : Tree := .mk 7 false ⟨false, [], 0⟩ (ba []) [ba [97]] [.mk 7 false ⟨false, [], 0⟩ (ba []) [ba [99]] [.mk 1 false ⟨false, [], 0⟩ (ba []) [] []]]
theorem fine_leaf {t : Tree} (h : Ok t.n.m ∧ t.n.m.length < 1000000000 ∧ t.k.length < 1000000000 ∧ t.v.length < 1000000000) (h2 : fineL t.v) : fineT t := (fine_eq t).2 ⟨h, h2⟩
theorem fine_awT : fineT awT := fine_leaf ⟨Ok.nil, by decide, by decide, by decide⟩ ⟨fine_leaf ⟨Ok.nil, by decide, by decide, by decide⟩ ⟨fine_leaf ⟨Ok.nil, by decide, by decide, by decide⟩ trivial, fine_leaf ⟨Ok.nil, by decide, by decide, by decide⟩ trivial, trivial⟩, trivial⟩
theorem fine_awV : fineT awV := fine_leaf ⟨Ok.nil, by decide, by decide, by decide⟩ trivial
theorem aw_norm : normF [[ba [97], ba [98]]] = [[ba [97], ba [98]]] := norm_keep (List.pairwise_singleton _ _) (List.pairwise_singleton _ _)
theorem aw_apply : applyF awT [[ba [97], ba [98]]] (normF [[ba [97], ba [98]]]) awV 100 = (awR, 0) := by rw [aw_norm]; kernel_rfl
theorem con26W : Con Tryz.prog I0 26 [.agg [vi 7, vb false, vb false, nilv, vi 0, vs (ba []), .row .str [ba [97]], .row .tree awT.v], .row .strs [[ba [97], ba [98]]], .agg [vi 7, vb false, vb false, nilv, vi 0, vs (ba []), nilv, nilv], vi 100] (.val (.tup [.agg [vi 7, vb false, vb false, .row (.int .u32) [], vi 0, vs (ba []), .row .str [ba [97]], .row .tree awR.v], vi 0])) := by
  have h := con26 awT awV [[ba [97], ba [98]]] 100 fine_awT fine_awV (smalls_of (by kernel_rfl)) (by decide)
  rw [aw_apply] at h
  exact Con.told h ⟨.inr (.inr ⟨_, rfl, _, rfl, .inl rfl, .inl rfl, .inl rfl, .inr ⟨rfl, _, rfl⟩, .inl rfl, .inl rfl, .inl rfl, .inl rfl, trivial⟩), .inl rfl, .inr (.inr ⟨_, rfl, _, rfl, .inl rfl, .inl rfl, .inl rfl, .inr ⟨rfl, _, rfl⟩, .inl rfl, .inl rfl, .inr ⟨rfl, _, rfl⟩, .inr ⟨rfl, _, rfl⟩, trivial⟩), .inl rfl, trivial⟩
theorem con37t : Con Tryz.prog I0 37 [vs (ba [95, 97, 49])] (.val (vb true)) := by
  have h := con37 (ba [95, 97, 49]) (by decide)
  rw [show nameF (ba [95, 97, 49]) = true by kernel_rfl] at h
  exact h
theorem con37f : Con Tryz.prog I0 37 [vs (ba [49, 97])] (.val (vb false)) := by
  have h := con37 (ba [49, 97]) (by decide)
  rw [show nameF (ba [49, 97]) = false by kernel_rfl] at h
  exact h
set_option maxRecDepth 100000 in
theorem con23  : Con Tryz.prog I0 23 [] (.val (vb true)) := by
 refine con_of Tryz.func23 rfl (Nat.le_of_ble_eq_true rfl) stab (fun w0 fz a hI hs => ?_)
 refine way_L (tt := tt) (rs := [(2, ⟨[(7, ciA 26 [.agg [vi 7, vb false, vb false, nilv, vi 0, vs (ba []), .row .str ([(ba [97])]), .row .tree ([(Tree.mk 7 false ⟨false, [], 0⟩ (ba []) ([(ba [98]), (ba [99])]) ([(Tree.mk 2 false ⟨false, [], 0⟩ (ba []) ([]) ([])), (Tree.mk 1 false ⟨false, [], 0⟩ (ba []) ([]) ([]))]))])], .row .strs ([[(ba [97]), (ba [98])]]), .agg [vi 7, vb false, vb false, nilv, vi 0, vs (ba []), nilv, nilv], vi 100] [] [3000, 3002, 3005] (.val (.tup [.agg [vi 7, vb false, vb false, .row (.int .u32) ([]), vi 0, vs (ba []), .row .str ([(ba [97])]), .row .tree ([(Tree.mk 7 false ⟨false, [], 0⟩ (ba []) ([(ba [99])]) ([(Tree.mk 1 false ⟨false, [], 0⟩ (ba []) ([]) ([]))]))])], vi 0])))], [], []⟩), (3, ⟨[(28, ciA 37 [vs (ba [95, 97, 49])] [] [] (.val (vb true))), (31, ciA 37 [vs (ba [49, 97])] [] [] (.val (vb false)))], [(3, true), (4, true), (5, true), (6, true), (1007, true), (9, true), (10, true), (11, true), (12, true), (13, true), (14, true), (15, true), (1016, true), (18, true), (19, true), (20, true), (21, true), (22, true), (23, true), (24, true), (25, true), (1026, true), (28, true), (1029, true), (31, true), (32, true), (1033, true)], []⟩)]) (bs := []) (tk := [0]) (bk := []) (C := (True ∧ True) ∧ (tr 7 True) ∧ (tr 7 ((okArgs [.agg [vi 7, vb false, vb false, nilv, vi 0, vs (ba []), .row .str ([(ba [97])]), .row .tree ([(Tree.mk 7 false ⟨false, [], 0⟩ (ba []) ([(ba [98]), (ba [99])]) ([(Tree.mk 2 false ⟨false, [], 0⟩ (ba []) ([]) ([])), (Tree.mk 1 false ⟨false, [], 0⟩ (ba []) ([]) ([]))]))])], .row .strs ([[(ba [97]), (ba [98])]]), .agg [vi 7, vb false, vb false, nilv, vi 0, vs (ba []), nilv, nilv], vi 100]) ∧ (tr 6 True))) ∧ (tr 3 ((true = true) ∧ True ∧ (true = true) ∧ True ∧ (true = true) ∧ True ∧ (true = true) ∧ True ∧ (true = true) ∧ True ∧ (true = true) ∧ True ∧ (true = true) ∧ True ∧ (true = true) ∧ ((0 : Int) ≤ 0 ∧ (0 : Int) < ((1 : Nat) : Int)) ∧ (true = true) ∧ True ∧ (true = true) ∧ True ∧ (true = true) ∧ True ∧ (true = true) ∧ True ∧ (true = true) ∧ True ∧ (true = true) ∧ True ∧ (true = true) ∧ True ∧ (true = true) ∧ ((0 : Int) ≤ 0 ∧ (0 : Int) < ((1 : Nat) : Int)) ∧ (true = true) ∧ True ∧ (true = true) ∧ True ∧ (true = true) ∧ ((0 : Int) ≤ 0 ∧ (0 : Int) < ((1 : Nat) : Int)) ∧ (true = true) ∧ True ∧ (true = true) ∧ True ∧ (true = true) ∧ True ∧ (true = true) ∧ (okArgs [vs (ba [95, 97, 49])]) ∧ (true = true) ∧ True ∧ (true = true) ∧ (okArgs [vs (ba [49, 97])]) ∧ (true = true) ∧ True ∧ (true = true) ∧ True ∧ True)) ∧ True) (lv := .ret) (T' := [(0, vb true)]) (B' := []) mix hI hs ?_ ?_ ?_ ?_
 ·exact ⟨⟨⟨ent26, con26W⟩, trivial⟩, ⟨⟨ent37, con37t⟩, ⟨ent37, con37f⟩, trivial⟩, trivial⟩
 ·kernel_rfl
 ·exact ⟨⟨trivial, trivial⟩, tr_mk trivial 7, tr_mk (⟨rfl, tr_mk trivial 6⟩) 7, tr_mk (⟨rfl, trivial, rfl, trivial, rfl, trivial, rfl, trivial, rfl, trivial, rfl, trivial, rfl, trivial, rfl, (by decide), rfl, trivial, rfl, trivial, rfl, trivial, rfl, trivial, rfl, trivial, rfl, trivial, rfl, trivial, rfl, (by decide), rfl, trivial, rfl, trivial, rfl, (by decide), rfl, trivial, rfl, trivial, rfl, trivial, rfl, rfl, rfl, trivial, rfl, rfl, rfl, trivial, rfl, trivial, trivial⟩) 3, trivial⟩
 intro a w hs
 exact FnQ_cast (out := .val (vb true)) (rfl) (ret_ok [] hs ⟨by kernel_rfl, rfl⟩)
end Go.Proofs.YtondpnipoogoiaaGreatDoor.F
namespace Go.Proofs.YtondpnipoogoiaaGreatDoor.F
open Go Go.RowKit
set_option linter.unusedVariables false
set_option linter.unusedSimpArgs false
def delB (b : Nat) (B : BL) : BL := B.filter fun p => !(p.1 == b)
theorem lkp_delB (b : Nat) : ∀ (B : BL) (c : Nat), lkp (delB b B) c = if c = b then none else lkp B c
  | [], c => by simp [delB, lkp]
  | (k, X) :: B, c => by
    have ih := lkp_delB b B c
    unfold delB at ih ⊢
    by_cases hk : k = b
    · subst hk
      rw [List.filter_cons_of_neg (by simp), ih]
      simp only [lkp]
      by_cases hc : c = k
      · simp [hc]
      · simp [hc]
    · rw [List.filter_cons_of_pos (by simpa using hk)]
      simp only [lkp, ih]
      by_cases hc : c = k
      · subst hc; simp [hk]
      · simp [hc]
section
variable {N : Nat} {w0 : World} {T : TL} {B : BL} {a : Act} {w : World}
theorem SimL.letgo {ow : Own} (hs : SimL N w0 ow T B a w) (t b : Nat) (e : TypeId) (τ : Ty) (xs : List (El τ)) (ht : lkp T t = some (.own b)) (hb : lkp B b = some (.sl e τ xs)) : SimL N w0 ow ((t, .row τ xs) :: T) (delB b B) a w := by
  obtain ⟨η, s⟩ := hs
  have s2 := s.drop [b]
  have hb2 : updB (lkp B) [b] [] = lkp (delB b B) := by
    funext c
    rw [lkp_delB]
    simp only [updB, lkp, List.contains_cons, List.contains_nil, Bool.or_false, beq_iff_eq]
  rw [hb2] at s2
  obtain ⟨v, hv, hR⟩ := s.tmp t _ ht
  have h2 := R_frz1 s hR [b]
  simp only [frz1, List.contains_cons, List.contains_nil, Bool.or_false, beq_self_eq_true, if_true, hb] at h2
  refine ⟨_, s2.size, s2.nod, s2.frame, fun t' av h => ?_, s2.dom, s2.new, s2.apart, s2.pin, s2.pinlt⟩
  simp only [lkp] at h
  split at h
  · rename_i he
    simp only [Option.some.injEq] at h
    subst h he
    exact ⟨v, hv, h2⟩
  · exact s2.tmp t' av h
end
theorem apply_ok {t v r : Tree} {l : List (List ByteArray)} (ht : validT t = true) (hv : validT v = true) (hc : checkF l = true) (hr : apAll t (normF l) v = r) (hw : weight r ≤ 100000) (hn : nodes r ≤ 2000) (hd : depth r ≤ 64) (hf : fewT r = true) : applyF t l (normF l) v 100000 = (r, 0) := by
  unfold applyF
  rw [hr, if_neg (by rw [ht, hv, hc]; simp), if_neg (by
    rintro (h | h | h | h)
    · omega
    · omega
    · omega
    · rw [hf] at h; cases h)]
theorem weight_aM (l k m : List Int) : weight (aM l k m) ≤ 100000 := by
  have h := all_more measWeight (madeT k) (pM m) (madeT l) (fun p h => (pM_in h).2)
  have h1 := nodes_M l
  have h2 := nodes_M k
  have h3 := good_weight (good_madeT l)
  have h4 := good_weight (good_madeT k)
  have : (pM m).length * (weight (madeT k) + 3) ≤ 12 * 1213 := Nat.mul_le_mul (pM_len m) (by omega)
  show weight (apAll (madeT l) (pM m) (madeT k)) ≤ _
  omega
theorem again_aM (l k m : List Int) : apAll (aM l k m) (pM m) (madeT k) = aM l k m :=
  all_again (can_all (can_good (good_madeT k)) (good_nd (good_madeT k)) (pM m) (can_good (good_madeT l)) (good_nd (good_madeT l))) (fun p hp => ⟨fun e => by have := (pM_in hp).1; rw [e] at this; exact absurd this (by decide), takes_M l k m hp⟩)
def qM (m : List Int) (c : Nat) : List (List ByteArray) := (pathsF m).drop c ++ pathsF m ++ (pathsF m).take c
theorem qM_norm (m : List Int) (c : Nat) : normF (qM m c) = pM m := norm_turn (pathsF m) c
theorem qM_len (m : List Int) (c : Nat) : (qM m c).length ≤ 36 := by
  have := paths_len m
  unfold qM
  simp only [List.length_append, List.length_drop, List.length_take]; omega
theorem qM_mem {m : List Int} {c : Nat} {p : List ByteArray} (h : p ∈ qM m c) : p ∈ pathsF m := by
  unfold qM at h
  simp only [List.mem_append] at h
  rcases h with (h | h) | h
  · exact List.mem_of_mem_drop h
  · exact h
  · exact List.mem_of_mem_take h
theorem qM_check (m : List Int) (c : Nat) : checkF (qM m c) = true := by
  have hl := qM_len m c
  have h := paths_ok m
  simp only [checkF, Bool.and_eq_true, decide_eq_true_eq, Bool.not_eq_true'] at h ⊢
  refine ⟨by omega, ?_⟩
  rw [List.any_eq_false]
  intro p hp
  exact List.any_eq_false.1 h.2 p (qM_mem hp)
theorem apply_to {t : Tree} (l k m : List Int) {p : List (List ByteArray)} (ht : validT t = true) (hc : checkF p = true) (hp : normF p = pM m) (hr : apAll t (pM m) (madeT k) = aM l k m) : applyF t p (normF p) (madeT k) 100000 = (aM l k m, 0) :=
  apply_ok ht (good_valid (good_madeT k) (by decide)) hc (by rw [hp]; exact hr) (weight_aM l k m) (by have := nodes_aM l k m; omega) (by have := fit_depth (goodN_fit (good_aM l k m)); omega) (fit_few (by decide) (goodN_fit (good_aM l k m)))
theorem text_back (m : List Int) : (textF (pathsF m)).size ≤ 7563840 ∧ parseF (textF (pathsF m)) = (pathsF m, 0) := by
  by_cases h : pathsF m = []
  · rw [h]
    have e : textF [] = ba [] := by kernel_rfl
    rw [e]
    exact ⟨by decide, by kernel_rfl⟩
  · have := fine_of (paths_ok m) h (n := 0) (by decide)
    exact ⟨this.size, this.back⟩
end Go.Proofs.YtondpnipoogoiaaGreatDoor.F
namespace Go.Proofs.YtondpnipoogoiaaGreatDoor.F
open Go Go.RowKit Go.Proofs.Tryz
set_option linter.unusedVariables false
set_option linter.unusedSimpArgs false
theorem con26M (l k m : List Int) : Con Tryz.prog I0 26 [.agg [vi ((madeT l).kind), vb ((madeT l).b), vb ((madeT l).n.neg), .row (.int .u32) ((madeT l).n.m), vi ((madeT l).n.e), vs ((madeT l).s), .row .str ((madeT l).k), .row .tree ((madeT l).v)], .row .strs (pM m), .agg [vi ((madeT k).kind), vb ((madeT k).b), vb ((madeT k).n.neg), .row (.int .u32) ((madeT k).n.m), vi ((madeT k).n.e), vs ((madeT k).s), .row .str ((madeT k).k), .row .tree ((madeT k).v)], vi 100000] (.val (.tup [.agg [vi ((aM l k m).kind), vb ((aM l k m).b), vb ((aM l k m).n.neg), .row (.int .u32) ((aM l k m).n.m), vi ((aM l k m).n.e), vs ((aM l k m).s), .row .str ((aM l k m).k), .row .tree ((aM l k m).v)], vi 0])) := by
  have h := con26 (madeT l) (madeT k) (pM m) 100000 (good_fine (good_madeT l)) (good_fine (good_madeT k)) (smalls_of (pM_check m)) (by have := pM_len m; omega)
  rw [apply_M] at h
  exact h
end Go.Proofs.YtondpnipoogoiaaGreatDoor.F
namespace Go.Proofs.YtondpnipoogoiaaGreatDoor.F
open Go Go.RowKit Go.Proofs.Tryz
set_option linter.unusedVariables false
set_option linter.unusedSimpArgs false
def cO (m : List Int) (sp : Int) : Int := placeF sp (((pathsF m).length : Int) + 1)
theorem cO_in (m : List Int) (sp : Int) : 0 ≤ cO m sp ∧ cO m sp ≤ (pathsF m).length := by
  have := placeF_in sp (((pathsF m).length : Int) + 1) (by omega)
  unfold cO; omega
theorem con26G {t : Tree} (l k m : List Int) {p : List (List ByteArray)} (hf : fineT t) (hv : validT t = true) (hc : checkF p = true) (hn : normF p = pM m) (hl : p.length < 1000000) (hr : apAll t (pM m) (madeT k) = aM l k m) : Con Tryz.prog I0 26 [.agg [vi t.kind, vb t.b, vb t.n.neg, .row (.int .u32) t.n.m, vi t.n.e, vs t.s, .row .str t.k, .row .tree t.v], .row .strs p, .agg [vi ((madeT k).kind), vb ((madeT k).b), vb ((madeT k).n.neg), .row (.int .u32) ((madeT k).n.m), vi ((madeT k).n.e), vs ((madeT k).s), .row .str ((madeT k).k), .row .tree ((madeT k).v)], vi 100000] (.val (.tup [.agg [vi ((aM l k m).kind), vb ((aM l k m).b), vb ((aM l k m).n.neg), .row (.int .u32) ((aM l k m).n.m), vi ((aM l k m).n.e), vs ((aM l k m).s), .row .str ((aM l k m).k), .row .tree ((aM l k m).v)], vi 0])) := by
  have h := con26 t (madeT k) p 100000 hf (good_fine (good_madeT k)) (smalls_of hc) hl
  rw [apply_to l k m hv hc hn hr] at h
  exact h
theorem fine_aM (l k m : List Int) : fineT (aM l k m) := goodN_fine (by decide) (good_aM l k m)
theorem con18a (l k m : List Int) : Con Tryz.prog I0 18 [.agg [vi ((aM l k m).kind), vb ((aM l k m).b), vb ((aM l k m).n.neg), .row (.int .u32) ((aM l k m).n.m), vi ((aM l k m).n.e), vs ((aM l k m).s), .row .str ((aM l k m).k), .row .tree ((aM l k m).v)], .agg [vi ((aM l k m).kind), vb ((aM l k m).b), vb ((aM l k m).n.neg), .row (.int .u32) ((aM l k m).n.m), vi ((aM l k m).n.e), vs ((aM l k m).s), .row .str ((aM l k m).k), .row .tree ((aM l k m).v)]] (.val (vb true)) := by
  have h := con18 _ _ (fine_aM l k m) (fine_aM l k m)
  rw [sameT_self] at h
  exact h
theorem con24G (p : List (List ByteArray)) (m : List Int) (hn : normF p = pM m) (hl : p.length < 1000000) (hp : ∀ q ∈ p, q.length < 1000000) : Con Tryz.prog I0 24 [.row .strs p] (.val (.row .strs (pM m))) := by
  have h := (con24 p hl hp).frz
  rw [hn] at h
  exact h
theorem con35G (p : List (List ByteArray)) (hl : p.length < 4294967296) (hp : ∀ x ∈ p, x.length < 4294967296) : Con Tryz.prog I0 35 [.row .strs p, .row .strs p] (.val (vb true)) := by
  have h := con35 p p hl hp
  rw [sameP_self] at h
  exact h
theorem con31B (m : List Int) : Con Tryz.prog I0 31 [vs (textF (pathsF m))] (.val (.tup [.row .strs (pathsF m), vi 0])) := by
  have h := con31 (textF (pathsF m)) (by have := (text_back m).1; omega)
  rw [(text_back m).2] at h
  exact h
set_option maxRecDepth 100000 in
theorem con7 (l k m : List Int) (sp : Int) : Con Tryz.prog I0 7 [.row (.int .i64) l, .row (.int .i64) k, .row (.int .i64) m, vi sp] (.val (vb true)) := by
 have hpl := paths_len m
 have hco := cO_in m sp
 have hd1 : ((pathsF m).drop (cO m sp).toNat).length ≤ 12 := by rw [List.length_drop]; omega
 have ht1 : ((pathsF m).take (cO m sp).toNat).length ≤ 12 := by rw [List.length_take]; omega
 have ha1 : ((pathsF m).drop (cO m sp).toNat ++ pathsF m).length ≤ 24 := by rw [List.length_append]; omega
 refine con_of Tryz.func7 rfl (Nat.le_of_ble_eq_true rfl) stab (fun w0 fz a hI hs => ?_)
 refine wp_seq ?_
 refine way_L (tt := tt) (rs := []) (bs := []) (tk := [0, 1, 2, 3]) (bk := []) (C := True ∧ True) (lv := .norm) (T' := [(0, .row (.int .i64) l), (1, .row (.int .i64) k), (2, .row (.int .i64) m), (3, vi sp)]) (B' := []) mix hI hs ?_ ?_ ?_ ?_
 ·exact trivial
 ·kernel_rfl
 ·exact ⟨trivial, trivial⟩
 intro a w hs
 refine then_norm ?_
 refine wp_seq ?_
 rcases Bool.eq_false_or_eq_true (decide ((l.length : Int) > 60)) with b1 | b1
 ·skip
  have n1 := of_decide_eq_true b1
  refine way_L (tt := tt) (rs := [(1, ⟨[], [(4, false), (5, false), (6, false), (1007, true)], []⟩), (2, ⟨[(0, ciA 23 [] [] [] (.val (vb true)))], [], []⟩)]) (bs := [true]) (tk := [8]) (bk := []) (C := (tr 4 (((decide ((l.length : Int) > 60)) = true) ∧ ((decide ((l.length : Int) > 60)) = true) ∧ ((decide ((l.length : Int) > 60)) = true) ∧ ((decide ((l.length : Int) > 60)) = true) ∧ True)) ∧ (true = true) ∧ ((okArgs []) ∧ True ∧ True) ∧ True) (lv := .ret) (T' := [(8, vb true)]) (B' := []) mix hI hs ?_ ?_ ?_ ?_
  ·exact ⟨trivial, ⟨⟨ent23, con23⟩, trivial⟩, trivial⟩
  ·kernel_rfl
  ·exact ⟨tr_mk (⟨b1, b1, b1, b1, trivial⟩) 4, rfl, ⟨rfl, trivial, trivial⟩, trivial⟩
  intro a w hs
  refine then_ret ?_
  exact FnQ_cast (out := .val (vb true)) (rfl) (ret_ok [] hs ⟨by kernel_rfl, rfl⟩)
 ·skip
  have n1 := of_decide_eq_false b1
  rcases Bool.eq_false_or_eq_true (decide ((k.length : Int) > 60)) with b2 | b2
  ·skip
   have n2 := of_decide_eq_true b2
   refine way_L (tt := tt) (rs := [(1, ⟨[], [(4, true), (5, true), (6, true), (1007, false)], []⟩), (2, ⟨[(0, ciA 23 [] [] [] (.val (vb true)))], [], []⟩)]) (bs := [true]) (tk := [8]) (bk := []) (C := (tr 4 (((decide ((l.length : Int) > 60)) = false) ∧ True ∧ ((decide ((l.length : Int) > 60)) = false) ∧ True ∧ ((decide ((l.length : Int) > 60)) = false) ∧ True ∧ ((decide ((l.length : Int) > 60)) = false) ∧ True)) ∧ ((decide ((k.length : Int) > 60)) = true) ∧ ((okArgs []) ∧ True ∧ True) ∧ True) (lv := .ret) (T' := [(8, vb true)]) (B' := []) mix hI hs ?_ ?_ ?_ ?_
   ·exact ⟨trivial, ⟨⟨ent23, con23⟩, trivial⟩, trivial⟩
   ·kernel_rfl
   ·exact ⟨tr_mk (⟨b1, trivial, b1, trivial, b1, trivial, b1, trivial⟩) 4, b2, ⟨rfl, trivial, trivial⟩, trivial⟩
   intro a w hs
   refine then_ret ?_
   exact FnQ_cast (out := .val (vb true)) (rfl) (ret_ok [] hs ⟨by kernel_rfl, rfl⟩)
  ·skip
   have n2 := of_decide_eq_false b2
   refine way_L (tt := tt) (rs := [(1, ⟨[], [(4, true), (5, true), (6, true), (1007, false)], []⟩)]) (bs := [false]) (tk := [0, 1, 2, 3]) (bk := []) (C := (tr 4 (((decide ((l.length : Int) > 60)) = false) ∧ True ∧ ((decide ((l.length : Int) > 60)) = false) ∧ True ∧ ((decide ((l.length : Int) > 60)) = false) ∧ True ∧ ((decide ((l.length : Int) > 60)) = false) ∧ True)) ∧ ((decide ((k.length : Int) > 60)) = false) ∧ True) (lv := .norm) (T' := [(0, .row (.int .i64) l), (1, .row (.int .i64) k), (2, .row (.int .i64) m), (3, vi sp)]) (B' := []) mix hI hs ?_ ?_ ?_ ?_
   ·exact ⟨trivial, trivial⟩
   ·kernel_rfl
   ·exact ⟨tr_mk (⟨b1, trivial, b1, trivial, b1, trivial, b1, trivial⟩) 4, b2, trivial⟩
   intro a w hs
   refine then_norm ?_
   refine wp_seq ?_
   refine way_L (tt := tt) (rs := [(3, ⟨[(1, ciA 13 [.row (.int .i64) l, vi 4] [] [] (.val (.agg (encTree (madeT l))))), (3, ciA 13 [.row (.int .i64) k, vi 4] [] [] (.val (.agg (encTree (madeT k)))))], [], []⟩)]) (bs := []) (tk := [2, 3, 9, 10]) (bk := [4004, 4005]) (C := True ∧ (okArgs [.row (.int .i64) l, vi 4]) ∧ True ∧ (okArgs [.row (.int .i64) k, vi 4]) ∧ (tr 4 True)) (lv := .norm) (T' := [(2, .row (.int .i64) m), (3, vi sp), (9, .ptr 4004 0), (10, .ptr 4005 0)]) (B' := [(4004, .var [vi ((madeT l).kind), vb ((madeT l).b), vb ((madeT l).n.neg), .row (.int .u32) ((madeT l).n.m), vi ((madeT l).n.e), vs ((madeT l).s), .row .str ((madeT l).k), .row .tree ((madeT l).v)]), (4005, .var [vi ((madeT k).kind), vb ((madeT k).b), vb ((madeT k).n.neg), .row (.int .u32) ((madeT k).n.m), vi ((madeT k).n.e), vs ((madeT k).s), .row .str ((madeT k).k), .row .tree ((madeT k).v)])]) mix hI hs ?_ ?_ ?_ ?_
   ·exact ⟨⟨⟨ent13, con13 _⟩, ⟨ent13, con13 _⟩, trivial⟩, trivial⟩
   ·kernel_rfl
   ·exact ⟨trivial, rfl, trivial, rfl, tr_mk trivial 4⟩
   intro a w hs
   refine then_norm ?_
   refine wp_seq ?_
   refine way_L (tt := tt) (rs := [(4, ⟨[(1, ciA 25 [.row (.int .i64) m] [] [] (.val (.row .strs (pathsF m))))], [], []⟩)]) (bs := []) (tk := [3, 9, 10, 11]) (bk := [4004, 4005]) (C := True ∧ (okArgs [.row (.int .i64) m]) ∧ True ∧ True) (lv := .norm) (T' := [(3, vi sp), (9, .ptr 4004 0), (10, .ptr 4005 0), (11, .row .strs (pathsF m))]) (B' := [(4004, .var [vi ((madeT l).kind), vb ((madeT l).b), vb ((madeT l).n.neg), .row (.int .u32) ((madeT l).n.m), vi ((madeT l).n.e), vs ((madeT l).s), .row .str ((madeT l).k), .row .tree ((madeT l).v)]), (4005, .var [vi ((madeT k).kind), vb ((madeT k).b), vb ((madeT k).n.neg), .row (.int .u32) ((madeT k).n.m), vi ((madeT k).n.e), vs ((madeT k).s), .row .str ((madeT k).k), .row .tree ((madeT k).v)])]) mix hI hs ?_ ?_ ?_ ?_
   ·exact ⟨⟨⟨ent25, (con25 _).frz⟩, trivial⟩, trivial⟩
   ·kernel_rfl
   ·exact ⟨trivial, rfl, trivial, trivial⟩
   intro a w hs
   refine then_norm ?_
   refine wp_seq ?_
   refine way_L (tt := tt) (rs := [(5, ⟨[(4, ciA 17 [vi sp, vi (((pathsF m).length : Int) + 1)] [] [] (.val (vi (cO m sp))))], [], []⟩)]) (bs := []) (tk := [9, 10, 11, 12]) (bk := [4004, 4005]) (C := tr 3 ((InR .i64 (((pathsF m).length : Int) + 1)) ∧ (okArgs [vi sp, vi (((pathsF m).length : Int) + 1)]) ∧ True ∧ True)) (lv := .norm) (T' := [(9, .ptr 4004 0), (10, .ptr 4005 0), (11, .row .strs (pathsF m)), (12, vi (cO m sp))]) (B' := [(4004, .var [vi ((madeT l).kind), vb ((madeT l).b), vb ((madeT l).n.neg), .row (.int .u32) ((madeT l).n.m), vi ((madeT l).n.e), vs ((madeT l).s), .row .str ((madeT l).k), .row .tree ((madeT l).v)]), (4005, .var [vi ((madeT k).kind), vb ((madeT k).b), vb ((madeT k).n.neg), .row (.int .u32) ((madeT k).n.m), vi ((madeT k).n.e), vs ((madeT k).s), .row .str ((madeT k).k), .row .tree ((madeT k).v)])]) mix hI hs ?_ ?_ ?_ ?_
   ·exact ⟨⟨⟨ent17, con17 _ _ (by omega) (by omega)⟩, trivial⟩, trivial⟩
   ·kernel_rfl
   ·exact tr_mk (⟨(inR64 (by omega) (by omega)), ⟨rfl, ⟨trivial, trivial⟩⟩⟩) 3
   intro a w hs
   refine then_norm ?_
   refine wp_cut (N := Tryz.f7.ntmps) (w0 := w0) (ow := noO fz) (T := [(9, .ptr 4004 0), (10, .ptr 4005 0), (11, .row .strs (pathsF m)), (13, .row .strs (qM m (cO m sp).toNat))]) (B := [(4004, .var [vi ((madeT l).kind), vb ((madeT l).b), vb ((madeT l).n.neg), .row (.int .u32) ((madeT l).n.m), vi ((madeT l).n.e), vs ((madeT l).s), .row .str ((madeT l).k), .row .tree ((madeT l).v)]), (4005, .var [vi ((madeT k).kind), vb ((madeT k).b), vb ((madeT k).n.neg), .row (.int .u32) ((madeT k).n.m), vi ((madeT k).n.e), vs ((madeT k).s), .row .str ((madeT k).k), .row .tree ((madeT k).v)])]) (True) ?_ ?_
   ·skip
    refine way_L (tt := tt) (rs := []) (bs := []) (tk := [9, 10, 11, 13]) (bk := [4004, 4005, 7009]) (C := True ∧ True ∧ (0 ≤ (cO m sp) ∧ (cO m sp) ≤ ((pathsF m).length : Int) ∧ ((pathsF m).length : Int) ≤ ((pathsF m).length : Int) ∧ ((pathsF m).length : Int) ≤ ((pathsF m).length : Int)) ∧ ((((pathsF m).drop (cO m sp).toNat).length * 24 : Nat) ≤ 140737488355328 ∧ ((pathsF m).drop (cO m sp).toNat).length ≤ 140737488355328) ∧ True ∧ (((((pathsF m).drop (cO m sp).toNat).length + (pathsF m).length) * 24 : Nat) ≤ 140737488355328 ∧ ((pathsF m).drop (cO m sp).toNat).length + (pathsF m).length ≤ 140737488355328) ∧ True ∧ True ∧ (0 ≤ (0 : Int) ∧ (0 : Int) ≤ (cO m sp) ∧ (cO m sp) ≤ ((pathsF m).length : Int) ∧ ((pathsF m).length : Int) ≤ ((pathsF m).length : Int)) ∧ ((((((pathsF m).drop (cO m sp).toNat) ++ (pathsF m)).length + ((pathsF m).take (cO m sp).toNat).length) * 24 : Nat) ≤ 140737488355328 ∧ (((pathsF m).drop (cO m sp).toNat) ++ (pathsF m)).length + ((pathsF m).take (cO m sp).toNat).length ≤ 140737488355328) ∧ True ∧ True) (lv := .norm) (T' := [(9, .ptr 4004 0), (10, .ptr 4005 0), (11, .row .strs (pathsF m)), (13, .own 7009)]) (B' := [(4004, .var [vi ((madeT l).kind), vb ((madeT l).b), vb ((madeT l).n.neg), .row (.int .u32) ((madeT l).n.m), vi ((madeT l).n.e), vs ((madeT l).s), .row .str ((madeT l).k), .row .tree ((madeT l).v)]), (4005, .var [vi ((madeT k).kind), vb ((madeT k).b), vb ((madeT k).n.neg), .row (.int .u32) ((madeT k).n.m), vi ((madeT k).n.e), vs ((madeT k).s), .row .str ((madeT k).k), .row .tree ((madeT k).v)]), (7009, .sl 26 .strs ((((pathsF m).drop (cO m sp).toNat) ++ (pathsF m)) ++ ((pathsF m).take (cO m sp).toNat)))]) mix hI hs ?_ ?_ ?_ ?_
    ·exact trivial
    ·kernel_rfl
    ·exact ⟨trivial, trivial, (by (repeat' apply And.intro) <;> (try split) <;> omega), ⟨by omega, by omega⟩, trivial, ⟨by omega, by omega⟩, trivial, trivial, (by (repeat' apply And.intro) <;> (try split) <;> omega), ⟨by omega, by omega⟩, trivial, trivial⟩
    intro a w hs
    refine then_norm ⟨trivial, ?_⟩
    (have hs := (hs.letgo 13 7009 26 .strs ((((pathsF m).drop (cO m sp).toNat) ++ (pathsF m)) ++ ((pathsF m).take (cO m sp).toNat)) (by kernel_rfl) (by kernel_rfl)).ren (T' := [(9, .ptr 4004 0), (10, .ptr 4005 0), (11, .row .strs (pathsF m)), (13, .row .strs ((((pathsF m).drop (cO m sp).toNat) ++ (pathsF m)) ++ ((pathsF m).take (cO m sp).toNat)))]) (B' := [(4004, .var [vi ((madeT l).kind), vb ((madeT l).b), vb ((madeT l).n.neg), .row (.int .u32) ((madeT l).n.m), vi ((madeT l).n.e), vs ((madeT l).s), .row .str ((madeT l).k), .row .tree ((madeT l).v)]), (4005, .var [vi ((madeT k).kind), vb ((madeT k).b), vb ((madeT k).n.neg), .row (.int .u32) ((madeT k).n.m), vi ((madeT k).n.e), vs ((madeT k).s), .row .str ((madeT k).k), .row .tree ((madeT k).v)])]) [(4004, 4004), (4005, 4005)] (by kernel_rfl) (by kernel_rfl) (by kernel_rfl); exact (SimL.cast hs (T' := [(9, .ptr 4004 0), (10, .ptr 4005 0), (11, .row .strs (pathsF m)), (13, .row .strs (qM m (cO m sp).toNat))]) (B' := [(4004, .var [vi ((madeT l).kind), vb ((madeT l).b), vb ((madeT l).n.neg), .row (.int .u32) ((madeT l).n.m), vi ((madeT l).n.e), vs ((madeT l).s), .row .str ((madeT l).k), .row .tree ((madeT l).v)]), (4005, .var [vi ((madeT k).kind), vb ((madeT k).b), vb ((madeT k).n.neg), .row (.int .u32) ((madeT k).n.m), vi ((madeT k).n.e), vs ((madeT k).s), .row .str ((madeT k).k), .row .tree ((madeT k).v)])]) (by rfl) rfl).ren [(4004, 4004), (4005, 4005)] (by kernel_rfl) (by kernel_rfl) (by kernel_rfl))
   ·intro hF a w hs
    refine way_L (tt := tt) (rs := [(7, ⟨[(3, ciA 26 [.agg (encTree (madeT l)), .row .strs (pathsF m), .agg (encTree (madeT k)), vi 100000] [] [] (.val (.tup [.agg (encTree (aM l k m)), vi 0])))], [], []⟩), (8, ⟨[(3, ciA 26 [.agg (encTree (madeT l)), .row .strs (qM m (cO m sp).toNat), .agg (encTree (madeT k)), vi 100000] [] [] (.val (.tup [.agg (encTree (aM l k m)), vi 0])))], [], []⟩), (9, ⟨[(3, ciA 26 [.agg (encTree (aM l k m)), .row .strs (pathsF m), .agg (encTree (madeT k)), vi 100000] [] [] (.val (.tup [.agg (encTree (aM l k m)), vi 0])))], [], []⟩), (10, ⟨[(1, ciA 41 [.row .strs (pathsF m)] [] [] (.val (vs (textF (pathsF m))))), (2, ciA 31 [vs (textF (pathsF m))] [] [] (.val (.tup [.row .strs (pathsF m), vi 0])))], [], []⟩), (11, ⟨[(1, ciA 24 [.row .strs (pathsF m)] [] [] (.val (.row .strs (pM m))))], [], []⟩), (12, ⟨[(3, ciA 26 [.agg (encTree (madeT l)), .row .strs (pM m), .agg (encTree (madeT k)), vi 100000] [] [] (.val (.tup [.agg (encTree (aM l k m)), vi 0])))], [], []⟩), (13, ⟨[(21, ciA 18 [.agg (encTree (aM l k m)), .agg (encTree (aM l k m))] [] [] (.val (vb true))), (26, ciA 18 [.agg (encTree (aM l k m)), .agg (encTree (aM l k m))] [] [] (.val (vb true))), (31, ciA 18 [.agg (encTree (aM l k m)), .agg (encTree (aM l k m))] [] [] (.val (vb true))), (36, ciA 35 [.row .strs (pathsF m), .row .strs (pathsF m)] [] [] (.val (vb true))), (40, ciA 24 [.row .strs (qM m (cO m sp).toNat)] [] [] (.val (.row .strs (pM m)))), (42, ciA 35 [.row .strs (pM m), .row .strs (pM m)] [] [] (.val (vb true))), (46, ciA 24 [.row .strs (pM m)] [] [] (.val (.row .strs (pM m)))), (48, ciA 35 [.row .strs (pM m), .row .strs (pM m)] [] [] (.val (vb true))), (51, ciA 23 [] [] [] (.val (vb true)))], [(3, true), (4, true), (1005, true), (7, true), (8, true), (1009, true), (11, true), (12, true), (1013, true), (15, true), (16, true), (1017, true), (19, true), (20, true), (21, true), (1022, true), (24, true), (25, true), (26, true), (1027, true), (29, true), (30, true), (31, true), (1032, true), (34, true), (35, true), (36, true), (1037, true), (39, true), (40, true), (41, true), (42, true), (1043, true), (45, true), (46, true), (47, true), (48, true), (1049, true), (51, true), (1052, true)], []⟩)]) (bs := []) (tk := [8]) (bk := []) (C := (tr 3 ((okArgs [.agg (encTree (madeT l)), .row .strs (pathsF m), .agg (encTree (madeT k)), vi 100000]) ∧ (tr 6 True))) ∧ (tr 3 ((okArgs [.agg (encTree (madeT l)), .row .strs (qM m (cO m sp).toNat), .agg (encTree (madeT k)), vi 100000]) ∧ (tr 6 True))) ∧ (tr 3 ((okArgs [.agg (encTree (aM l k m)), .row .strs (pathsF m), .agg (encTree (madeT k)), vi 100000]) ∧ (tr 6 True))) ∧ (True ∧ (okArgs [.row .strs (pathsF m)]) ∧ (okArgs [vs (textF (pathsF m))]) ∧ (tr 5 True)) ∧ (True ∧ (okArgs [.row .strs (pathsF m)]) ∧ True ∧ True) ∧ (tr 3 ((okArgs [.agg (encTree (madeT l)), .row .strs (pM m), .agg (encTree (madeT k)), vi 100000]) ∧ (tr 6 True))) ∧ (tr 3 ((true = true) ∧ True ∧ (true = true) ∧ True ∧ (true = true) ∧ True ∧ (true = true) ∧ True ∧ (true = true) ∧ True ∧ (true = true) ∧ True ∧ (true = true) ∧ True ∧ (true = true) ∧ True ∧ (true = true) ∧ True ∧ (true = true) ∧ True ∧ (true = true) ∧ True ∧ (true = true) ∧ True ∧ (true = true) ∧ True ∧ (true = true) ∧ True ∧ (true = true) ∧ (okArgs [.agg (encTree (aM l k m)), .agg (encTree (aM l k m))]) ∧ (true = true) ∧ True ∧ (true = true) ∧ True ∧ (true = true) ∧ True ∧ (true = true) ∧ (okArgs [.agg (encTree (aM l k m)), .agg (encTree (aM l k m))]) ∧ (true = true) ∧ True ∧ (true = true) ∧ True ∧ (true = true) ∧ True ∧ (true = true) ∧ (okArgs [.agg (encTree (aM l k m)), .agg (encTree (aM l k m))]) ∧ (true = true) ∧ True ∧ (true = true) ∧ True ∧ (true = true) ∧ True ∧ (true = true) ∧ (okArgs [.row .strs (pathsF m), .row .strs (pathsF m)]) ∧ (true = true) ∧ True ∧ (true = true) ∧ True ∧ (true = true) ∧ (okArgs [.row .strs (qM m (cO m sp).toNat)]) ∧ (true = true) ∧ True ∧ (true = true) ∧ (okArgs [.row .strs (pM m), .row .strs (pM m)]) ∧ (true = true) ∧ True ∧ (true = true) ∧ True ∧ (true = true) ∧ (okArgs [.row .strs (pM m)]) ∧ (true = true) ∧ True ∧ (true = true) ∧ (okArgs [.row .strs (pM m), .row .strs (pM m)]) ∧ (true = true) ∧ True ∧ (true = true) ∧ (okArgs []) ∧ (true = true) ∧ True ∧ True)) ∧ True) (lv := .ret) (T' := [(8, vb true)]) (B' := []) mix hI hs ?_ ?_ ?_ ?_
    ·exact ⟨⟨⟨ent26, con26G (t := madeT l) l k m (p := pathsF m) (good_fine (good_madeT l)) (good_valid (good_madeT l) (by decide)) (paths_ok m) rfl (by have := paths_len m; omega) rfl⟩, trivial⟩, ⟨⟨ent26, con26G (t := madeT l) l k m (p := qM m (cO m sp).toNat) (good_fine (good_madeT l)) (good_valid (good_madeT l) (by decide)) (qM_check m (cO m sp).toNat) (qM_norm m (cO m sp).toNat) (by have := qM_len m (cO m sp).toNat; omega) rfl⟩, trivial⟩, ⟨⟨ent26, con26G (t := aM l k m) l k m (p := pathsF m) (fine_aM l k m) (valid_aM l k m) (paths_ok m) rfl (by have := paths_len m; omega) (again_aM l k m)⟩, trivial⟩, ⟨⟨ent41, con41 _ (smalls_of (paths_ok m)) (by have := paths_len m; omega)⟩, ⟨ent31, con31B m⟩, trivial⟩, ⟨⟨ent24, con24G (pathsF m) m rfl (by have := paths_len m; omega) (fun p hp => by have := (paths_in hp).2; omega)⟩, trivial⟩, ⟨⟨ent26, con26M l k m⟩, trivial⟩, ⟨⟨ent18, con18a l k m⟩, ⟨ent18, con18a l k m⟩, ⟨ent18, con18a l k m⟩, ⟨ent35, con35G (pathsF m) (by have := paths_len m; omega) (fun p hp => by have := (paths_in hp).2; omega)⟩, ⟨ent24, con24G (qM m (cO m sp).toNat) m (qM_norm m (cO m sp).toNat) (by have := qM_len m (cO m sp).toNat; omega) (fun p hp => by have := (paths_in (qM_mem hp)).2; omega)⟩, ⟨ent35, con35G (pM m) (by have := pM_len m; omega) (fun p hp => by have := (pM_in hp).2; omega)⟩, ⟨ent24, con24G (pM m) m (norm_norm (pathsF m)) (by have := pM_len m; omega) (fun p hp => by have := (pM_in hp).2; omega)⟩, ⟨ent35, con35G (pM m) (by have := pM_len m; omega) (fun p hp => by have := (pM_in hp).2; omega)⟩, ⟨ent23, con23⟩, trivial⟩, trivial⟩
    ·kernel_rfl
    ·exact ⟨tr_mk (⟨rfl, tr_mk trivial 6⟩) 3, tr_mk (⟨rfl, tr_mk trivial 6⟩) 3, tr_mk (⟨rfl, tr_mk trivial 6⟩) 3, ⟨trivial, rfl, rfl, tr_mk trivial 5⟩, ⟨trivial, rfl, trivial, trivial⟩, tr_mk (⟨rfl, tr_mk trivial 6⟩) 3, tr_mk (⟨rfl, trivial, rfl, trivial, rfl, trivial, rfl, trivial, rfl, trivial, rfl, trivial, rfl, trivial, rfl, trivial, rfl, trivial, rfl, trivial, rfl, trivial, rfl, trivial, rfl, trivial, rfl, trivial, rfl, rfl, rfl, trivial, rfl, trivial, rfl, trivial, rfl, rfl, rfl, trivial, rfl, trivial, rfl, trivial, rfl, rfl, rfl, trivial, rfl, trivial, rfl, trivial, rfl, rfl, rfl, trivial, rfl, trivial, rfl, rfl, rfl, trivial, rfl, rfl, rfl, trivial, rfl, trivial, rfl, rfl, rfl, trivial, rfl, rfl, rfl, trivial, rfl, rfl, rfl, trivial, trivial⟩) 3, trivial⟩
    intro a w hs
    exact FnQ_cast (out := .val (vb true)) (rfl) (ret_ok [] hs ⟨by kernel_rfl, rfl⟩)
theorem law_MaskOrder (l k m : List Int) (sp : Int) : Con Tryz.prog I0 7 [.row (.int .i64) l, .row (.int .i64) k, .row (.int .i64) m, vi sp] (.val (vb true)) := con7 l k m sp
end Go.Proofs.YtondpnipoogoiaaGreatDoor.F
namespace Go.Proofs.YtondpnipoogoiaaGreatDoor.X
open Go.ChangeShapes Go.WideShapes Go.ChangeAt Go.RowKit
set_option linter.unusedSimpArgs false
theorem rl_maskOrder {W : World} {fz : Nat → Prop} {η : Nat → Option Value} {v0 : Value} {l0 : List Int} (y0 : Go.Proofs.YtondpnipoogoiaaGreatDoor.F.R W fz η v0 (.row (.int .i64) l0)) {v1 : Value} {l1 : List Int} (y1 : Go.Proofs.YtondpnipoogoiaaGreatDoor.F.R W fz η v1 (.row (.int .i64) l1)) {v2 : Value} {l2 : List Int} (y2 : Go.Proofs.YtondpnipoogoiaaGreatDoor.F.R W fz η v2 (.row (.int .i64) l2)) {a3 : Int} : Go.Proofs.YtondpnipoogoiaaGreatDoor.F.RL W fz η #[v0, v1, v2, .int .i64 a3] [.row (.int .i64) l0, .row (.int .i64) l1, .row (.int .i64) l2, .lit (.int .i64 a3)] := by
  refine ⟨rfl, fun j v a hv ha => ?_⟩
  rcases j with _ | j
  · simp only [List.getElem?_toArray, List.getElem?_cons_zero, List.getElem?_cons_succ, Option.some.injEq] at hv ha
    subst hv ha
    exact y0
  rcases j with _ | j
  · simp only [List.getElem?_toArray, List.getElem?_cons_zero, List.getElem?_cons_succ, Option.some.injEq] at hv ha
    subst hv ha
    exact y1
  rcases j with _ | j
  · simp only [List.getElem?_toArray, List.getElem?_cons_zero, List.getElem?_cons_succ, Option.some.injEq] at hv ha
    subst hv ha
    exact y2
  rcases j with _ | j
  · simp only [List.getElem?_toArray, List.getElem?_cons_zero, List.getElem?_cons_succ, Option.some.injEq] at hv ha
    subst hv ha
    exact .lit _
  · simp at ha
set_option maxRecDepth 100000 in
theorem contractMaskOrder (H : Type) (enc : TypeId × Value → H) (W : World) (base : Nat) (args : Array Value) (ds gs : List (DataW H)) (before : List MemPlace)
    (hval : ∀ (j : Nat) t v, Tryz.f7.params[j]? = some t → args[j]? = some v → Value.okWide Tryz.prog W .any base t v)
    (hW : DataW.Whole enc Tryz.prog Tryz.f7.params.toList Rows.maskOrderSpec.vars false W args.toList ds gs before) (hL : laidMetH Tryz.prog Rows.maskOrderRow.laid W) (hS : W.ShapedOpen Tryz.prog) :
    Calls Tryz.prog 7 args W fun e W' => ∃ v, e = .returned v ∧ Rows.maskOrderSpec.post enc Tryz.prog Tryz.f7 false true false false W args v W' := by
  have hW' := hW
  obtain ⟨p, q, hA0, hV, rfl, hfz, hnd⟩ := hW
  have hA : DataW.TrodAll enc Tryz.prog W 0 (fun _ => true) true Tryz.f7.params.toList args.toList ds p := hA0
  rw [Tryz.params7] at hA hval
  obtain ⟨v0, vs0, d0, ds0, p0, q0, hargs, rfl, rfl, h0, r0⟩ := trodAll_cons hA
  obtain ⟨v1, vs1, d1, ds1, p1, q1, rfl, rfl, rfl, h1, r1⟩ := trodAll_cons r0
  obtain ⟨v2, vs2, d2, ds2, p2, q2, rfl, rfl, rfl, h2, r2⟩ := trodAll_cons r1
  obtain ⟨v3, vs3, d3, ds3, p3, q3, rfl, rfl, rfl, h3, r3⟩ := trodAll_cons r2
  obtain ⟨rfl, rfl, rfl⟩ := trodAll_nil r3
  obtain rfl : args = #[v0, v1, v2, v3] := by cases args; simp_all
  obtain ⟨rfl, rfl⟩ := trodVars_none hV
  have k0 := h0
  have lt0 : ∀ x ∈ p0, x.block < W.heap.size := by obtain ⟨m, hm⟩ := k0; exact DataW.trod_lt m _ _ _ hm
  obtain ⟨a0, y0⟩ := open_rowI (hval 0 22 v0 rfl rfl) h0
  have k1 := h1
  have lt1 : ∀ x ∈ p1, x.block < W.heap.size := by obtain ⟨m, hm⟩ := k1; exact DataW.trod_lt m _ _ _ hm
  obtain ⟨a1, y1⟩ := open_rowI (hval 1 22 v1 rfl rfl) h1
  have k2 := h2
  have lt2 : ∀ x ∈ p2, x.block < W.heap.size := by obtain ⟨m, hm⟩ := k2; exact DataW.trod_lt m _ _ _ hm
  obtain ⟨a2, y2⟩ := open_rowI (hval 2 22 v2 rfl rfl) h2
  obtain ⟨a3, rfl, rfl, rfl, w3⟩ := open_int Tryz.underlying3 (hval 3 3 v3 rfl rfl) h3
  clear hA0
  have hv1 : Go.Proofs.YtondpnipoogoiaaGreatDoor.F.RL W (fun k => k < W.heap.size) Go.Proofs.YtondpnipoogoiaaGreatDoor.F.noη #[v0, v1, v2, .int .i64 a3] [.row (.int .i64) a0, .row (.int .i64) a1, .row (.int .i64) a2, .lit (.int .i64 a3)] := rl_maskOrder y0 y1 y2
  refine (Go.Proofs.YtondpnipoogoiaaGreatDoor.F.law_MaskOrder a0 a1 a2 a3 W _ _ (laid_of hL hS) (fun k h => h) hv1).mono fun e W' hp => ?_
  obtain ⟨⟨v, rfl, hR⟩, bel⟩ := hp
  obtain rfl := hR.lit_inv
  exact ⟨_, rfl, _, _, _, [], _, [], hW', trodAll_mk1 (shut_bool Tryz.underlying4 _), (trodAll_cons_mk (Below.trod laidOut (by kernel_rfl) (of_decide_eq_true (by kernel_rfl)) k0 bel lt0) (trodAll_cons_mk (Below.trod laidOut (by kernel_rfl) (of_decide_eq_true (by kernel_rfl)) k1 bel lt1) (trodAll_cons_mk (Below.trod laidOut (by kernel_rfl) (of_decide_eq_true (by kernel_rfl)) k2 bel lt2) (trodAll_cons_mk (shut_int Tryz.underlying3 w3) trodAll_mk0)))), rfl, bel.frame _, fun h => by cases h⟩
theorem readsMaskOrder (os : Os) {H : Type} (enc : TypeId × Value → H) : ∃ places, DataW.whole enc Tryz.prog ((laidWorld os).forCall (fun _ _ => 0) ⟨#[], #[.slice none 0 0, .slice none 0 0, .slice none 0 0, .int .i64 0], []⟩).memory Tryz.f7.params.toList Rows.maskOrderSpec.vars false #[Value.slice none 0 0, Value.slice none 0 0, Value.slice none 0 0, Value.int .i64 0].toList 8 = some ([.nil, .nil, .nil, .lit (.int .i64 0)], [], places) :=
  ⟨[], by kernel_rfl⟩
set_option maxRecDepth 100000 in
theorem metMaskOrder (os : Os) : laidMet Tryz.prog Rows.maskOrderRow.laid ((laidWorld os).forCall (fun _ _ => 0) ⟨#[], #[.slice none 0 0, .slice none 0 0, .slice none 0 0, .int .i64 0], []⟩).memory :=
  laidMet_of_run' 8 (by kernel_rfl) (by kernel_rfl)
set_option maxRecDepth 100000 in
theorem liftedMaskOrder (os : Os) (started : os.Started) (H : Type) (enc : TypeId × Value → H) (F : Stop.Interp) :
    ReturnsInHanded {} Tryz.checked os 7 .any ((OpenSpec.ofChange Rows.maskOrderSpec).preRow enc Tryz.prog Tryz.f7 Rows.maskOrderRow.domain false Rows.maskOrderRow.laid) (((OpenSpec.ofChange Rows.maskOrderSpec).at F).post enc Tryz.prog Tryz.f7 false true false false) := by
  obtain ⟨places, hx⟩ := readsMaskOrder os enc
  refine returnsInHanded_of_row (C := Tryz.checked) (s := OpenSpec.ofChange Rows.maskOrderSpec) own started (by kernel_rfl) Tryz.func7
    (witness_row_at (enc := enc) (C := Tryz.checked) false (laidWorld os) #[.slice none 0 0, .slice none 0 0, .slice none 0 0, .int .i64 0] rfl (by kernel_rfl) (by kernel_rfl) (by kernel_rfl)
      (OpenSpec.preRow_of_cond 8 hx (by kernel_rfl) (fun k hk => by cases hk) (by kernel_rfl) (metMaskOrder os))) ?_
  intro W base args ds gs before hval hW _ _ _ hL hS _
  exact contractMaskOrder H enc W base args ds gs before hval hW hL hS
theorem saidMaskOrder : Rows.MaskOrderSaid :=
  OpenClaim.holds_of_cond 7 Tryz.f7 rfl rfl rfl rfl rfl rfl rfl ⟨rfl, rfl, rfl, rfl, rfl⟩ rfl rfl rfl rfl rfl (by kernel_rfl) Tryz.func7 (by kernel_rfl)
    (of_decide_eq_true (by kernel_rfl)) (by unfold Func.isWrapper; first | (rw [if_pos (by decide +kernel)]; kernel_rfl) | (rw [if_neg (by decide +kernel)]; exact ⟨rfl, rfl⟩))
    (fun os started H enc _ F => by rw [OpenClaim.pre_eq_preRow]; exact liftedMaskOrder os started H enc F)
theorem plainMaskOrder (f : FuncId) (fn : Func) (hf : Tryz.pinned.checked.prog.funcNamed "erratum/erratumlaw17.MaskOrder" = some f) (hfn : Tryz.pinned.checked.prog.funcs[f]? = some fn) :
    true = Tryz.pinned.checked.prog.looks [] ∧ ∀ (j : Nat) t, fn.params[j]? = some t → Tryz.pinned.checked.prog.wantsStandIn t = false := by
  obtain rfl : f = 7 := Option.some.inj ((show Tryz.prog.funcNamed "erratum/erratumlaw17.MaskOrder" = some 7 by kernel_rfl).symm.trans hf) |>.symm
  obtain rfl : fn = Tryz.f7 := (Option.some.inj (Tryz.func7.symm.trans hfn)).symm
  refine ⟨by kernel_rfl, fun j t ht => ?_⟩
  rw [Tryz.params7] at ht
  have hm : t = 22 ∨ t = 22 ∨ t = 22 ∨ t = 3 := by simpa using Array.mem_of_getElem? ht
  rcases hm with rfl | rfl | rfl | rfl
  · exact (show Tryz.prog.wantsStandIn 22 = false by kernel_rfl)
  · exact (show Tryz.prog.wantsStandIn 22 = false by kernel_rfl)
  · exact (show Tryz.prog.wantsStandIn 22 = false by kernel_rfl)
  · exact (show Tryz.prog.wantsStandIn 3 = false by kernel_rfl)
theorem cardMaskOrder : Rows.MaskOrderCardSaid :=
  Claim7.holds_tied_plain_at .later [] _ _ _ _ saidMaskOrder (fun _ h => by cases h) (by kernel_rfl) (fun _ h => by cases h) maskOrder_row_tie rfl ⟨rfl, rfl⟩ (by kernel_rfl) rfl plainMaskOrder (by kernel_rfl)
end Go.Proofs.YtondpnipoogoiaaGreatDoor.X
