import Derived.Test.YtondpnipoogoiaaGreatDoorE3
import Derived.Deep.Cut
import Derived.IntWalk
import Derived.LoopN
import Derived.Scope
import Derived.Test.YtondpnipoogoiaaGreatDoorE1
import Derived.Test.YtondpnipoogoiaaGreatDoorProg
set_option maxRecDepth 100000
set_option linter.unusedVariables false
set_option linter.unusedSimpArgs false
namespace Go.Proofs.YtondpnipoogoiaaGreatDoor.F
open Go Go.RowKit
def edges (o : Oper) : List Nat := (o.after.toList.filter (Region.binds .any)).map (·.on)
def ancOk (ops : List Oper) (anc : List (List Nat)) : Bool :=
 (List.range ops.length).all fun j => match ops[j]? with
  | some o => (edges o).all (· < j) && (anc.getD j []).all fun i => (edges o).any fun e => e == i || (anc.getD e []).contains i
  | none => true
def wrs (e : Ef) : List Nat := e.E.del ++ e.E.ins.map (·.1)
def indep (a b : Ef) : Bool :=
 (match a.dst with | some d => !b.T.contains d && b.dst != some d | none => true) && (match b.dst with | some d => !a.T.contains d | none => true) &&
 (wrs a).all (fun k => !b.K.contains k && !hits b k) && (wrs b).all (fun k => !a.K.contains k)
def pairsOk (es : List Ef) (anc : List (List Nat)) : Bool :=
 (List.range es.length).all fun j => (List.range j).all fun i => (anc.getD j []).contains i || (match es[i]?, es[j]? with | some a, some b => indep a b | _, _ => true)
def mentOk (es : List Ef) (anc : List (List Nat)) (ks : List Nat) (kb : Nat) : Bool :=
 (List.range es.length).all fun i => (nk (kb + i)).all (fun k => !ks.contains k && decide (1000 ≤ k)) && (match es[i]? with
  | some e => sub (optKeys e.E.val ++ insKeys e.E.ins) (ks ++ (i :: anc.getD i []).flatMap fun m => nk (kb + m))
  | none => true)
def deadOk (es : List Ef) (anc : List (List Nat)) (dead : List Nat) : Bool :=
 dead.all fun i => (anc.getD i []).any fun k => match es[k]? with | some e => e.th.isSome | none => false
def gOk (es : List Ef) (anc : List (List Nat)) (bx : Bx) : Bool :=
 (List.range es.length).all fun j => match es[j]? with
  | some e => e.G.all fun k => ((List.range es.length).all fun i => match es[i]? with | some a => !a.E.del.contains k || (anc.getD i []).contains j | none => true) && ((bx k).isSome || (anc.getD j []).any fun i => match es[i]? with | some a => (lkp a.E.ins k).isSome | none => false)
  | none => true
theorem bxF_live {D : Nat → Bool} {k : Nat} : ∀ (es : List Ef) (i : Nat) (bx : Bx), (∀ m e, es[m]? = some e → D (i + m) = true → e.E.del.contains k = false) → ((bx k).isSome = true ∨ ∃ m e, es[m]? = some e ∧ D (i + m) = true ∧ (lkp e.E.ins k).isSome = true) → (bxF es D i bx k).isSome = true
 | [], i, bx, _, h => by
  rcases h with h | ⟨m, e, h, _⟩
  ·exact h
  ·simp at h
 | e :: es, i, bx, hd, h => by
  simp only [bxF]
  refine bxF_live es (i + 1) _ (fun m e' hm hD => hd (m + 1) e' hm (by rwa [show i + (m + 1) = i + 1 + m by omega])) ?_
  have up : D i = true → (lkp e.E.ins k).isSome = true ∨ (bx k).isSome = true → (updB bx e.E.del e.E.ins k).isSome = true := fun hD hh => by
   unfold updB
   split
   ·rfl
   ·rename_i hn
    have h0 := hd 0 e rfl hD
    rcases hh with hh | hh
    ·rw [hn] at hh; cases hh
    ·rw [h0]; simpa using hh
  rcases h with h | ⟨m, e', hm, hD, hins⟩
  ·left
   split
   ·rename_i hD; exact up hD (.inr h)
   ·exact h
  ·match m with
   | 0 =>
    simp only [List.getElem?_cons_zero, Option.some.injEq] at hm
    subst hm
    left
    rw [Nat.add_zero] at hD
    rw [if_pos hD]
    exact up hD (.inl hins)
   | m + 1 => exact .inr ⟨m, e', hm, by rwa [show i + 1 + m = i + (m + 1) by omega], hins⟩
theorem gOk_live {es : List Ef} {anc : List (List Nat)} {bx : Bx} (hg : gOk es anc bx = true) {j : Nat} {e : Ef} (hj : es[j]? = some e) {k : Nat} (hk : e.G.contains k = true) {D : Nat → Bool} (hD : D j = false) (hpre : ∀ i ∈ anc.getD j [], D i = true) (hcl : ∀ i, D i = true → ∀ m ∈ anc.getD i [], D m = true) : (bxF es D 0 bx k).isSome = true := by
 have hl : j < es.length := (List.getElem?_eq_some_iff.1 hj).1
 have h1 := List.all_eq_true.1 hg j (by simp [hl])
 rw [hj] at h1
 have h2 := List.all_eq_true.1 h1 k (by simpa using hk)
 simp only [Bool.and_eq_true, Bool.or_eq_true] at h2
 refine bxF_live es 0 bx (fun m e' hm hDm => ?_) ?_
 rw [Nat.zero_add] at hDm
 have hml : m < es.length := (List.getElem?_eq_some_iff.1 hm).1
 have h3 := List.all_eq_true.1 h2.1 m (by simp [hml])
 rw [hm] at h3
 simp only [Bool.or_eq_true, Bool.not_eq_true'] at h3
 rcases h3 with h3 | h3
 exact h3
 have := hcl m hDm j (by simpa using h3)
 rw [hD] at this; cases this
 rcases h2.2 with h3 | h3
 exact .inl h3
 obtain ⟨i, hi, h4⟩ := List.any_eq_true.1 h3
 right
 split at h4
 rename_i a ha
 exact ⟨i, a, ha, by rw [Nat.zero_add]; exact hpre i hi, h4⟩
 cases h4
def chkD (N : Nat) (ops : List Oper) (es : List Ef) (anc : List (List Nat)) (ks dead : List Nat) (kb : Nat) (bx : Bx) : Bool :=
 decide (kb + es.length ≤ 1000000) && ancOk ops anc && pairsOk es anc && mentOk es anc ks kb && deadOk es anc dead && ops.all (dstOk N) && gOk es anc bx
theorem hits_wrs {e : Ef} {b : Nat} (h : hits e b = true) : b ∈ wrs e := by
 simp only [hits, Bool.or_eq_true] at h
 simp only [wrs, List.mem_append]
 rcases h with h | h
 exact .inl (by simpa using h)
 right
 obtain ⟨B, hB⟩ := Option.isSome_iff_exists.1 h
 exact List.mem_map.2 ⟨(b, B), lkp_mem hB, rfl⟩
def Dn (l : Array Bool) (i : Nat) : Bool := l.getD i false
theorem Dn_set {l : Array Bool} {i : Nat} (hi : i < l.size) (k : Nat) : Dn (l.setIfInBounds i true) k = (Dn l k || k == i) := by
 unfold Dn
 simp only [Array.getD_eq_getD_getElem?]
 by_cases h : i = k
 subst h; rw [Array.getElem?_setIfInBounds_self_of_lt hi]; simp
 rw [Array.getElem?_setIfInBounds_ne h]
 have : (k == i) = false := by simp; exact fun e => h e.symm
 rw [this]; simp
section
variable {P : Program} {I : World → Prop} {w0 : World} {ow : Own} {N kb : Nat} {tm : Tm} {bx : Bx} {tt : TypeId → Option Ty} {cs : List (Nat × CI)} {ops : Array Oper} {gd : List (Nat × Bool)} {dead ks : List Nat} {es : List Ef} {anc : List (List Nat)} {C : Prop}
def Closed (ops : Array Oper) (D : Nat → Bool) : Prop := ∀ j o, D j = true → ops[j]? = some o → ∀ e ∈ edges o, D e = true
theorem anc_edge (h : ancOk ops.toList anc = true) {j : Nat} {o : Oper} (ho : ops[j]? = some o) : (∀ e ∈ edges o, e < j) ∧ ∀ i ∈ anc.getD j [], ∃ e ∈ edges o, e = i ∨ i ∈ anc.getD e [] := by
 unfold ancOk at h
 have hh := h
 clear hh
 have hj : j < ops.size := (Array.getElem?_eq_some_iff.1 ho).1
 have h1 := List.all_eq_true.1 h j (by simp [hj])
 have ho2 : ops.toList[j]? = some o := by rw [Array.getElem?_toList]; exact ho
 rw [ho2] at h1
 simp only [Bool.and_eq_true, List.all_eq_true, decide_eq_true_eq, List.any_eq_true, Bool.or_eq_true, beq_iff_eq] at h1
 refine ⟨h1.1, fun i hi => ?_⟩
 obtain ⟨e, he, hh⟩ := h1.2 i hi
 exact ⟨e, he, hh.imp id (fun h => by simpa using h)⟩
theorem anc_in (h : ancOk ops.toList anc = true) {D : Nat → Bool} (hc : Closed ops D) (hsz : ∀ j, D j = true → j < ops.size) : ∀ (j : Nat) (o : Oper), ops[j]? = some o → (∀ e ∈ edges o, D e = true) → ∀ i ∈ anc.getD j [], D i = true := by
 intro j
 induction j using Nat.strongRecOn with
 | _ j ih =>
  intro o ho hd i hi
  obtain ⟨h1, h2⟩ := anc_edge h ho
  obtain ⟨e, he, hh⟩ := h2 i hi
  have hde := hd e he
  rcases hh with rfl | hh
  exact hde
  have hlt := hsz e hde
  have hoe : ops[e]? = some ops[e] := Array.getElem?_eq_getElem hlt
  exact ih e (h1 e he) _ hoe (fun e' he' => hc e _ hde hoe e' he') i hh
theorem opD_ext {i : Nat} {o : Oper} {tm tm' : Tm} {bx bx' : Bx} {Ck : Prop} {e : Ef} (h : opD P tt ops cs gd kb i o tm bx = some (Ck, e)) (ht : ∀ t, e.T.contains t = true → tm t = tm' t) (hb : ∀ b, e.K.contains b = true → bx b = bx' b) (hgg : ∀ b, e.G.contains b = true → (bx b).isSome = (bx' b).isSome) : opD P tt ops cs gd kb i o tm' bx' = some (Ck, e) := by
 obtain ⟨h1, h2, h3, _, _⟩ := opDc_TK h
 have e1 : restr tm (opT ops o) = restr tm' (opT ops o) := restr_ext (by rw [h1] at ht; exact ht)
 rw [h2] at hb
 have e3 := opK_ext hb
 have e2 : restrG bx (opK o (opT ops o) (restr tm (opT ops o)) bx) (opG o (restr tm (opT ops o))) = restrG bx' (opK o (opT ops o) (restr tm (opT ops o)) bx) (opG o (restr tm (opT ops o))) := restrG_ext hb (by rw [h3] at hgg; exact hgg)
 unfold opD at h ⊢
 rw [← e1, ← e3, ← e2]
 exact h
theorem pairs_at (h : pairsOk es anc = true) {i j : Nat} {a b : Ef} (hij : i < j) (ha : es[i]? = some a) (hb : es[j]? = some b) : i ∈ anc.getD j [] ∨ indep a b = true := by
 have hj : j < es.length := (List.getElem?_eq_some_iff.1 hb).1
 have h1 := List.all_eq_true.1 h j (by simp [hj])
 have h2 := List.all_eq_true.1 h1 i (by simp [hij])
 rw [ha, hb] at h2
 simp only [Bool.or_eq_true] at h2
 exact h2.imp (fun h => by simpa using h) id
theorem ind_dst {a b : Ef} (h : indep a b = true) : (∀ d, a.dst = some d → b.T.contains d = false ∧ b.dst ≠ some d) ∧ (∀ d, b.dst = some d → a.T.contains d = false) ∧ (∀ k, hits a k = true → b.K.contains k = false ∧ hits b k = false) ∧ (∀ k, hits b k = true → a.K.contains k = false) := by
 simp only [indep, Bool.and_eq_true] at h
 obtain ⟨⟨⟨h1, h2⟩, h3⟩, h4⟩ := h
 refine ⟨fun d hd => ?_, fun d hd => ?_, fun k hk => ?_, fun k hk => ?_⟩
 rw [hd] at h1; simp only [Bool.and_eq_true, Bool.not_eq_true', bne_iff_ne] at h1; exact ⟨h1.1, h1.2⟩
 rw [hd] at h2; simpa using h2
 have := List.all_eq_true.1 h3 k (hits_wrs hk)
 simp only [Bool.and_eq_true, Bool.not_eq_true'] at this
 exact this
 have := List.all_eq_true.1 h4 k (hits_wrs hk)
 simpa using this
section
variable {D : Nat → Bool} (hpair : pairsOk es anc = true) (hcl : ∀ j, D j = true → ∀ i ∈ anc.getD j [], D i = true)
include hpair hcl
theorem look_tm {j : Nat} {e : Ef} (hj : es[j]? = some e) (hD : D j = false) (hpre : ∀ i ∈ anc.getD j [], D i = true) {t : Nat} (ht : e.T.contains t = true) (tm : Tm) : tmF es D 0 tm t = tmF es (fun m => decide (m < 0 + j)) 0 tm t := by
 refine tmF_ext es 0 tm tm rfl (fun k e' hk hd => ?_)
 simp only [Nat.zero_add]
 rcases Nat.lt_trichotomy k j with hlt | rfl | hgt
 rw [decide_eq_true hlt]
 rcases pairs_at hpair hlt hk hj with h | h
 exact hpre k h
 have := (ind_dst h).1 t hd; rw [this.1] at ht; cases ht
 rw [hD]; simp
 rw [decide_eq_false (by omega)]
 rcases pairs_at hpair hgt hj hk with h | h
 cases hDk : D k with
 | false => rfl
 | true => have := hcl k hDk j h; rw [hD] at this; cases this
 have := (ind_dst h).2.1 t hd; rw [this] at ht; cases ht
theorem look_bx {j : Nat} {e : Ef} (hj : es[j]? = some e) (hD : D j = false) (hpre : ∀ i ∈ anc.getD j [], D i = true) {t : Nat} (ht : e.K.contains t = true) (bx : Bx) : bxF es D 0 bx t = bxF es (fun m => decide (m < 0 + j)) 0 bx t := by
 refine bxF_ext es 0 bx bx rfl (fun k e' hk hd => ?_)
 simp only [Nat.zero_add]
 rcases Nat.lt_trichotomy k j with hlt | rfl | hgt
 rw [decide_eq_true hlt]
 rcases pairs_at hpair hlt hk hj with h | h
 exact hpre k h
 have := (ind_dst h).2.2.1 t hd; rw [this.1] at ht; cases ht
 rw [hD]; simp
 rw [decide_eq_false (by omega)]
 rcases pairs_at hpair hgt hj hk with h | h
 cases hDk : D k with
 | false => rfl
 | true => have := hcl k hDk j h; rw [hD] at this; cases this
 have := (ind_dst h).2.2.2 t hd; rw [this] at ht; cases ht
theorem with_tm {D' : Nat → Bool} {j : Nat} {e : Ef} (hj : es[j]? = some e) (hD : D j = false) (hD' : ∀ k, D' k = (D k || k == j)) (tm : Tm) : tmF es D' 0 tm = upd (tmF es D 0 tm) e.dst e.E.val := by
 funext t
 simp only [upd]
 split
 rename_i ht
 refine tmF_last es 0 j tm e hj ht (by rw [Nat.zero_add, hD']; simp) (fun k e' hk hk' he => ?_)
 rw [Nat.zero_add, hD']
 have hne : (k == j) = false := by simp; omega
 rw [hne, Bool.or_false]
 rcases pairs_at hpair hk hj hk' with h | h
 cases hDk : D k with
 | false => rfl
 | true => have := hcl k hDk j h; rw [hD] at this; cases this
 exact absurd he ((ind_dst h).1 t ht).2
 rename_i ht
 refine tmF_ext es 0 tm tm rfl (fun k e' hk he => ?_)
 rw [Nat.zero_add, hD']
 have hne : k ≠ j := fun h => by subst h; rw [hj] at hk; injection hk with hk; subst hk; exact ht he
 have : (k == j) = false := by simpa using hne
 rw [this, Bool.or_false]
theorem with_bx {D' : Nat → Bool} {j : Nat} {e : Ef} (hj : es[j]? = some e) (hD : D j = false) (hD' : ∀ k, D' k = (D k || k == j)) (bx : Bx) : bxF es D' 0 bx = updB (bxF es D 0 bx) e.E.del e.E.ins := by
 funext t
 by_cases ht : hits e t = true
 refine bxF_last (bxF es D 0 bx) es 0 j bx e hj ht (by rw [Nat.zero_add, hD']; simp) (fun k e' hk hk' he => ?_)
 rw [Nat.zero_add, hD']
 have hne : (k == j) = false := by simp; omega
 rw [hne, Bool.or_false]
 rcases pairs_at hpair hk hj hk' with h | h
 cases hDk : D k with
 | false => rfl
 | true => have := hcl k hDk j h; rw [hD] at this; cases this
 have := ((ind_dst h).2.2.1 t ht).2; rw [this] at he; cases he
 rw [updB_ne (by simpa using ht)]
 refine bxF_ext es 0 bx bx rfl (fun k e' hk he => ?_)
 rw [Nat.zero_add, hD']
 have hne : k ≠ j := fun h => by subst h; rw [hj] at hk; injection hk with hk; subst hk; exact ht he
 have : (k == j) = false := by simpa using hne
 rw [this, Bool.or_false]
end
end
theorem tmF_val {D : Nat → Bool} {t : Nat} : ∀ (es : List Ef) (i : Nat) (tm : Tm), tmF es D i tm t = tm t ∨ ∃ k e, es[k]? = some e ∧ D (i + k) = true ∧ tmF es D i tm t = e.E.val
 | [], _, _ => .inl rfl
 | e :: es, i, tm => by
  simp only [tmF]
  rcases tmF_val (D := D) (t := t) es (i + 1) (if D i then upd tm e.dst e.E.val else tm) with h | ⟨k, e', h1, h2, h3⟩
  rw [h]
  split
  rename_i hD
  by_cases hd : e.dst = some t
  exact .inr ⟨0, e, rfl, by simpa using hD, by simp [upd, hd]⟩
  exact .inl (by simp [upd, hd])
  exact .inl rfl
  exact .inr ⟨k + 1, e', by simpa using h1, by rwa [show i + (k + 1) = i + 1 + k by omega], h3⟩
theorem bxF_val {D : Nat → Bool} {b : Nat} {B : Box} : ∀ (es : List Ef) (i : Nat) (bx : Bx), bxF es D i bx b = some B → bx b = some B ∨ ∃ k e, es[k]? = some e ∧ D (i + k) = true ∧ lkp e.E.ins b = some B
 | [], _, _, h => .inl h
 | e :: es, i, bx, h => by
  simp only [bxF] at h
  rcases bxF_val (D := D) es (i + 1) _ h with h | ⟨k, e', h1, h2, h3⟩
  split at h
  rename_i hD
  unfold updB at h
  split at h
  rename_i B0 hi
  simp only [Option.some.injEq] at h
  subst h
  exact .inr ⟨0, e, rfl, by simpa using hD, hi⟩
  split at h
  cases h
  exact .inl h
  exact .inl h
  exact .inr ⟨k + 1, e', by simpa using h1, by rwa [show i + (k + 1) = i + 1 + k by omega], h3⟩
section
variable {P : Program} {I : World → Prop} {w0 : World} {ow : Own} {N kb : Nat} {tm : Tm} {bx : Bx} {tt : TypeId → Option Ty} {cs : List (Nat × CI)} {ops : Array Oper} {gd : List (Nat × Bool)} {dead ks : List Nat} {es : List Ef} {anc : List (List Nat)} {C : Prop}
theorem restr_some {α : Type} {f : Nat → Option α} {l : List Nat} {t : Nat} {x : α} (h : restr f l t = some x) : f t = some x := by
 simp only [restr] at h
 split at h
 exact h
 cases h
theorem BoxR.one {fz : Nat → Prop} {η : Nat → Option Value} {w : World} {u : Value} {B : Box} (hr : BoxR w fz η u B) : u.oneCell' = true := by
 cases B with
 | var l => obtain ⟨g, C, e, rfl, _⟩ := hr; rfl
 | any => exact hr
 | full e τ xs => obtain ⟨⟨cs, ho, _⟩, _⟩ := hr; rcases ho.2 with ⟨rfl, _⟩ | ⟨g, cap, cur, rfl, _⟩ <;> rfl
 | sl e τ xs => obtain ⟨cs, ho, _⟩ := hr; rcases ho.2 with ⟨rfl, _⟩ | ⟨g, cap, cur, rfl, _⟩ <;> rfl
theorem Sim.weakenG {η : Nat → Option Value} {tm' : Tm} {bx' : Bx} {a : Act} {w : World} (s : Sim N w0 ow η tm bx a w) (h1 : ∀ t x, tm' t = some x → tm t = some x) (h2 : ∀ b B, bx' b = some B → bx b = some B ∨ B = .any ∧ (bx b).isSome = true) : Sim N w0 ow η tm' bx' a w :=
 ⟨s.size, s.nod, s.frame, fun t x h => s.tmp t x (h1 t x h), fun b B h => by
  rcases h2 b B h with h3 | ⟨rfl, h3⟩
  ·exact s.dom b B h3
  ·obtain ⟨B, hB⟩ := Option.isSome_iff_exists.1 h3
   obtain ⟨u, hu, hr⟩ := s.dom b B hB
   exact ⟨u, hu, hr.one⟩, s.new, s.apart, s.pin, s.pinlt⟩
theorem restrG_some {f : Bx} {K G : List Nat} {b : Nat} {B : Box} (h : restrG f K G b = some B) : f b = some B ∨ B = .any ∧ (f b).isSome = true := by
 simp only [restrG] at h
 split at h
 exact .inl h
 split at h
 right
 rw [Option.map_eq_some_iff] at h
 obtain ⟨B0, hB, rfl⟩ := h
 exact ⟨rfl, by rw [hB]; rfl⟩
 cases h
theorem ment_at (h : mentOk es anc ks kb = true) {i : Nat} {e : Ef} (he : es[i]? = some e) : (∀ k ∈ nk (kb + i), ks.contains k = false ∧ 1000 ≤ k) ∧ sub (optKeys e.E.val ++ insKeys e.E.ins) (ks ++ (i :: anc.getD i []).flatMap fun m => nk (kb + m)) = true := by
 have hi : i < es.length := (List.getElem?_eq_some_iff.1 he).1
 have h1 := List.all_eq_true.1 h i (by simp [hi])
 rw [he] at h1
 simp only [Bool.and_eq_true] at h1
 exact ⟨fun k hk => by simpa using List.all_eq_true.1 h1.1 k hk, h1.2⟩
theorem nk_inj {a b k : Nat} (ha : a < 1000000) (hb : b < 1000000) (h1 : k ∈ nk a) (h2 : k ∈ nk b) : a = b := by
 simp only [nk, List.mem_cons, List.not_mem_nil, or_false] at h1 h2
 omega
theorem fresh_at (h : mentOk es anc ks kb = true) (hlim : kb + es.length ≤ 1000000) (hancl : ∀ j, j < es.length → ∀ i ∈ anc.getD j [], i < j) (hinv : Inv ks tm bx) {D : Nat → Bool} (hcl : ∀ j, D j = true → ∀ i ∈ anc.getD j [], D i = true) {i : Nat} {e : Ef} (he : es[i]? = some e) (hD : D i = false) : ∀ key ∈ nk (kb + i), Fresh key (tmF es D 0 tm) (bxF es D 0 bx) := by
 intro key hkey
 obtain ⟨hk, _⟩ := ment_at h he
 obtain ⟨hk, h1000⟩ := hk key hkey
 have hil : i < es.length := (List.getElem?_eq_some_iff.1 he).1
 have no : ∀ k e', es[k]? = some e' → D k = true → key ∈ optKeys e'.E.val ++ insKeys e'.E.ins → False := by
  intro k e' hk' hDk hmem
  have hkl : k < es.length := (List.getElem?_eq_some_iff.1 hk').1
  have h2 := sub_mem (ment_at h hk').2 hmem
  have h3 : key ∈ ks ++ (k :: anc.getD k []).flatMap fun m => nk (kb + m) := by simpa using h2
  rw [List.mem_append] at h3
  rcases h3 with h3 | h3
  have : ks.contains key = true := by simpa using h3
  rw [hk] at this; cases this
  rw [List.mem_flatMap] at h3
  obtain ⟨m, hm, hm2⟩ := h3
  have hml : m < es.length := by
   rcases List.mem_cons.1 hm with rfl | hm
   exact hkl
   have := hancl k hkl m hm; omega
  have : kb + m = kb + i := nk_inj (by omega) (by omega) hm2 hkey
  have : m = i := by omega
  subst this
  rcases List.mem_cons.1 hm with rfl | hm
  rw [hD] at hDk; cases hDk
  have := hcl k hDk m hm; rw [hD] at this; cases this
 refine ⟨fun t av ht => ?_, fun b B hB => ?_, h1000⟩
 cases hm : ment key av with
 | false => rfl
 | true =>
  exfalso
  rcases tmF_val (D := D) (t := t) es 0 tm with h1 | ⟨k, e', h1, h2, h3⟩
  rw [h1] at ht
  have := hinv.1 t av ht _ hm
  rw [hk] at this; cases this
  rw [h3] at ht
  rw [Nat.zero_add] at h2
  exact no k e' h1 h2 (by rw [ht]; exact List.mem_append_left _ (mem_keysA av hm))
 cases hm : mentB key B with
 | false => rfl
 | true =>
  exfalso
  rcases bxF_val (D := D) es 0 bx hB with h1 | ⟨k, e', h1, h2, h3⟩
  have := hinv.2 b B h1 _ hm
  rw [hk] at this; cases this
  rw [Nat.zero_add] at h2
  exact no k e' h1 h2 (List.mem_append_right _ (insKeys_mem h3 (mem_keysB hm)))
theorem anc_lt {ops : List Oper} {anc : List (List Nat)} (h : ancOk ops anc = true) : ∀ (j : Nat), j < ops.length → ∀ i ∈ anc.getD j [], i < j := by
 intro j
 induction j using Nat.strongRecOn with
 | _ j ih =>
  intro hj i hi
  have h1 := List.all_eq_true.1 h j (by simp [hj])
  rw [List.getElem?_eq_getElem hj] at h1
  simp only [Bool.and_eq_true, List.all_eq_true, decide_eq_true_eq, List.any_eq_true, Bool.or_eq_true, beq_iff_eq] at h1
  obtain ⟨e, he, hh⟩ := h1.2 i hi
  have hlt := h1.1 e he
  rcases hh with rfl | hh
  exact hlt
  have := ih e hlt (by omega) i (by simpa using hh); omega
theorem count_set {l : Array Bool} {n i : Nat} (hn : l.size = n) (hi : i < n) (hl : Dn l i = false) {f : Nat} (h : (List.range n).countP (fun k => !Dn l k) = f + 1) : (List.range n).countP (fun k => !Dn (l.setIfInBounds i true) k) = f := by
 have e : ∀ k, Dn (l.setIfInBounds i true) k = (Dn l k || k == i) := Dn_set (by omega)
 have key : ∀ m, (List.range m).countP (fun k => !Dn l k) = (List.range m).countP (fun k => !(Dn l k || k == i)) + (if i < m then 1 else 0) := by
  intro m
  induction m with
  | zero => simp
  | succ m ih =>
   rw [List.range_succ, List.countP_append, List.countP_append, ih]
   by_cases him : m = i
   subst him
   simp [hl]
   have : (m == i) = false := by simpa using him
   simp only [List.countP_cons, List.countP_nil, this, Bool.or_false]
   by_cases h1 : i < m
   simp only [if_pos h1, if_pos (show i < m + 1 by omega)]; omega
   simp only [if_neg h1, if_neg (show ¬ i < m + 1 by omega)]; omega
 have := key n
 rw [if_pos hi, h] at this
 simp only [e]; omega
theorem draw_any {Q : Exit → Act → World → Prop} (hcs : Cons P I cs) (hI : ∀ w', Fr ow w0 w' → I w') (hrun : runD P tt ops cs gd dead kb 0 ops.toList tm bx = some (C, es)) (hC : C) (hchk : chkD N ops.toList es anc ks dead kb bx = true) (hinv : Inv ks tm bx)
  (hn : (∀ e ∈ es, e.th = none) → ∀ η' a' w', Sim N w0 ow η' (tmF es (fun _ => true) 0 tm) (bxF es (fun _ => true) 0 bx) a' w' → Q .normal a' w')
  (ht : ∀ e ∈ es, ∀ v, e.th = some v → ∀ η' tm' bx' a' w', Sim N w0 ow η' tm' bx' a' w' → Q (.panic [{ v, recovered := false }]) a' w') :
  ∀ (fuel : Nat) (l : Array Bool) (η : Nat → Option Value) (a : Act) (w : World), l.size = ops.size → Closed ops (Dn l) → (∀ i e, Dn l i = true → es[i]? = some e → e.th = none ∧ e.dead = false) → (List.range ops.size).countP (fun i => !Dn l i) = fuel →
  Sim N w0 ow η (tmF es (Dn l) 0 tm) (bxF es (Dn l) 0 bx) a w → wpAny P .any ops Q fuel l a w := by
 obtain ⟨hlen, hat⟩ := runD_at ops.toList 0 tm bx C es hrun hC
 simp only [chkD, Bool.and_eq_true] at hchk
 obtain ⟨⟨⟨⟨⟨⟨hlim, hanc⟩, hpair⟩, hment⟩, hdead⟩, hdst⟩, hgok⟩ := hchk
 have hlim : kb + es.length ≤ 1000000 := by simpa using hlim
 have hancl : ∀ j, j < es.length → ∀ i ∈ anc.getD j [], i < j := fun j hj => anc_lt hanc j (by omega)
 have hszD : ∀ (l : Array Bool), l.size = ops.size → ∀ j, Dn l j = true → j < ops.size := fun l hl j hj => by
  rcases Nat.lt_or_ge j l.size with h | h
  ·omega
  ·unfold Dn at hj
   rw [Array.getD_eq_getD_getElem?, Array.getElem?_eq_none h] at hj
   cases hj
 intro fuel
 induction fuel with
 | zero =>
  intro l η a w hl hc hth hcount s
  have hall : ∀ i, i < ops.size → Dn l i = true := fun i hi => by
   have := List.countP_eq_zero.1 hcount i (by simp [hi])
   simpa using this
  have hready : Region.ready .any ops l = [] := by
   unfold Region.ready
   rw [List.filter_eq_nil_iff]
   intro i hi
   have hi' : i < ops.size := by simpa using hi
   have h1 := hall i hi'
   have : l.getD i true = true := by
    unfold Dn at h1
    rw [Array.getD_eq_getD_getElem?, Array.getElem?_eq_getElem (by omega)] at h1 ⊢
    exact h1
   simp [this]
  refine ⟨hready, hn (fun e he => ?_) η a w ?_⟩
  ·obtain ⟨i, hi⟩ := List.getElem?_of_mem he
   have hlt : i < ops.size := by have := (List.getElem?_eq_some_iff.1 hi).1; simp at hlen; omega
   exact (hth i e (hall i hlt) hi).1
  ·have e1 : tmF es (Dn l) 0 tm = tmF es (fun _ => true) 0 tm := by
    funext t; refine tmF_ext es 0 tm tm rfl (fun k e hk _ => ?_)
    have hlt : k < ops.size := by have := (List.getElem?_eq_some_iff.1 hk).1; simp at hlen; omega
    rw [Nat.zero_add]; exact hall k hlt
   have e2 : bxF es (Dn l) 0 bx = bxF es (fun _ => true) 0 bx := by
    funext t; refine bxF_ext es 0 bx bx rfl (fun k e hk _ => ?_)
    have hlt : k < ops.size := by have := (List.getElem?_eq_some_iff.1 hk).1; simp at hlen; omega
    rw [Nat.zero_add]; exact hall k hlt
   rw [← e1, ← e2]; exact s
 | succ fuel ih =>
  intro l η a w hl hc hth hcount s
  -- what is ready
  have hrd : ∀ i, i ∈ Region.ready .any ops l ↔ i < ops.size ∧ Dn l i = false ∧ ∀ o, ops[i]? = some o → ∀ e ∈ edges o, Dn l e = true := by
   intro i
   unfold Region.ready
   rw [List.mem_filter]
   constructor
   ·rintro ⟨h1, h2⟩
    have hi : i < ops.size := by simpa using h1
    have ho : ops[i]? = some ops[i] := Array.getElem?_eq_getElem hi
    rw [ho] at h2
    simp only [Bool.and_eq_true, Bool.not_eq_true', Option.map_some, Option.getD_some] at h2
    refine ⟨hi, ?_, fun o ho' e he => ?_⟩
    ·have := h2.1
     unfold Dn
     rw [Array.getD_eq_getD_getElem?, Array.getElem?_eq_getElem (by omega)] at this ⊢
     exact this
    ·rw [ho] at ho'
     injection ho' with ho'
     subst ho'
     simp only [edges, List.mem_map, List.mem_filter] at he
     obtain ⟨e0, ⟨h3, h4⟩, rfl⟩ := he
     have h5 := Array.all_eq_true'.1 h2.2 e0 (by simpa using h3)
     simp only [h4, Bool.not_true, Bool.false_or] at h5
     exact h5
   ·rintro ⟨hi, h2, h3⟩
    have ho : ops[i]? = some ops[i] := Array.getElem?_eq_getElem hi
    refine ⟨by simpa using hi, ?_⟩
    rw [ho]
    simp only [Bool.and_eq_true, Bool.not_eq_true', Option.map_some, Option.getD_some]
    refine ⟨?_, Array.all_eq_true'.2 fun e0 he0 => ?_⟩
    ·unfold Dn at h2
     rw [Array.getD_eq_getD_getElem?, Array.getElem?_eq_getElem (by omega)] at h2 ⊢
     exact h2
    ·by_cases hb : Region.binds .any e0 = true
     ·have := h3 _ ho e0.on (by simp only [edges, List.mem_map, List.mem_filter]; exact ⟨e0, ⟨by simpa using he0, hb⟩, rfl⟩)
      unfold Dn at this
      simp [hb, this]
     ·simp [hb]
  have hclA : ∀ j, Dn l j = true → ∀ i ∈ anc.getD j [], Dn l i = true := fun j hj i hi => by
   have hlt := hszD l hl j hj
   have ho : ops[j]? = some ops[j] := Array.getElem?_eq_getElem hlt
   exact anc_in hanc hc (hszD l hl) j _ ho (fun e he => hc j _ hj ho e he) i hi
  refine ⟨fun hnil => ?_, fun i hi => ?_⟩
  ·exfalso
   have hex : ∃ i, i < ops.size ∧ Dn l i = false := by
    have hpos : 0 < (List.range ops.size).countP (fun i => !Dn l i) := by omega
    obtain ⟨i, h1, h2⟩ := List.countP_pos_iff.1 hpos
    exact ⟨i, by simpa using h1, by simpa using h2⟩
   have hmin : ∀ m, (∃ i, i < m ∧ i < ops.size ∧ Dn l i = false) → ∃ i, i < ops.size ∧ Dn l i = false ∧ ∀ k, k < i → k < ops.size → Dn l k = true := by
    intro m
    induction m with
    | zero => rintro ⟨i, h, _⟩; omega
    | succ m ihm =>
     rintro ⟨i, h1, h2, h3⟩
     by_cases hx : ∃ i, i < m ∧ i < ops.size ∧ Dn l i = false
     ·exact ihm hx
     ·refine ⟨i, h2, h3, fun k hk hk2 => ?_⟩
      cases hDk : Dn l k with
      | true => rfl
      | false => exact absurd ⟨k, by omega, hk2, hDk⟩ hx
   obtain ⟨i, h1, h2⟩ := hex
   obtain ⟨i, h1, h2, h3⟩ := hmin ops.size ⟨i, h1, h1, h2⟩
   have : i ∈ Region.ready .any ops l := (hrd i).2 ⟨h1, h2, fun o ho e he => h3 e ((anc_edge hanc ho).1 e he) (by have := (anc_edge hanc ho).1 e he; omega)⟩
   rw [hnil] at this; cases this
  ·obtain ⟨hi1, hDi, hedge⟩ := (hrd i).1 hi
   have ho : ops[i]? = some ops[i] := Array.getElem?_eq_getElem hi1
   obtain ⟨e, he, hh⟩ := hat i ops[i] (by rw [Array.getElem?_toList]; exact ho)
   rw [Nat.zero_add] at hh
   have hpre : ∀ k ∈ anc.getD i [], Dn l k = true := anc_in hanc hc (hszD l hl) i _ ho (hedge _ ho)
   rcases hh with ⟨_, hd⟩ | ⟨hnd, Ck, hop, hCk⟩
   ·exfalso
    have h1 := List.all_eq_true.1 hdead i (by simpa using hd)
    obtain ⟨k, hk, h2⟩ := List.any_eq_true.1 h1
    have hDk := hpre k hk
    split at h2
    ·rename_i e' he'
     rw [(hth k e' hDk he').1] at h2; cases h2
    ·cases h2
   ·have hT := fun t ht => (look_tm (D := Dn l) hpair hclA he hDi hpre (t := t) ht tm).symm
    have hB := fun t ht => (look_bx (D := Dn l) hpair hclA he hDi hpre (t := t) ht bx).symm
    simp only [Nat.zero_add] at hT hB
    have hjes : i < es.length := (List.getElem?_eq_some_iff.1 he).1
    have hG := fun t (ht : e.G.contains t = true) => (gOk_live hgok he ht (D := fun m => decide (m < i)) (by simp) (fun k hk => by have := hancl i hjes k hk; simpa using this) (fun k hk m hm => by
     have hk2 : k < i := by simpa using hk
     have := hancl k (by omega) m hm
     simp; omega)).trans (gOk_live hgok he ht (D := Dn l) hDi hpre hclA).symm
    have hop2 := opD_ext hop hT hB hG
    have hfresh := fresh_at hment hlim hancl hinv hclA he hDi
    obtain ⟨hT1, hK1, hG1, hdstE, hdeadE⟩ := opDc_TK hop2
    have hdstN : dstOk N ops[i] = true := List.all_eq_true.1 hdst ops[i] (by simp)
    -- behind the operation
    have next : ∀ η' a' w', e.th = none → Sim N w0 ow η' (upd (tmF es (Dn l) 0 tm) ops[i].dst e.E.val) (updB (bxF es (Dn l) 0 bx) e.E.del e.E.ins) a' w' → wpAny P .any ops Q fuel (l.setIfInBounds i true) a' w' := by
     intro η' a' w' hnt hs
     have hset := Dn_set (l := l) (i := i) (by omega)
     refine ih (l.setIfInBounds i true) η' a' w' (by simpa using hl) (fun j o hj hoj e' he' => ?_) (fun k e' hk hek => ?_) (count_set hl hi1 hDi hcount) ?_
     ·rw [hset] at hj ⊢
      simp only [Bool.or_eq_true, beq_iff_eq] at hj ⊢
      rcases hj with hj | rfl
      ·exact .inl (hc j o hj hoj e' he')
      ·exact .inl (hedge o hoj e' he')
     ·rw [hset] at hk
      simp only [Bool.or_eq_true, beq_iff_eq] at hk
      rcases hk with hk | rfl
      ·exact hth k e' hk hek
      ·rw [he] at hek; injection hek with hek; subst hek; exact ⟨hnt, hdeadE⟩
     ·rw [with_tm hpair hclA he hDi hset, with_bx hpair hclA he hDi hset, hdstE]; exact hs
    have sr : ∀ T K G, Sim N w0 ow η (restr (tmF es (Dn l) 0 tm) T) (restrG (bxF es (Dn l) 0 bx) K G) a w := fun T K G => s.weakenG (fun t x h => restr_some h) (fun b B h => restrG_some h)
    have hm0 : ∀ T, ∀ k ∈ nk (kb + i), ∀ x y, evalA (restr (tmF es (Dn l) 0 tm) T) x = some y → ment k y = false := fun T k hk x y hy => by
     have hf2 : Fresh k (restr (tmF es (Dn l) 0 tm) T) (fun _ => none) := ⟨fun t av h => (hfresh k hk).1 t av (restr_some h), (fun b B h => by cases h), (hfresh k hk).2.2⟩
     exact hf2.ev hy
    have mem : e ∈ es := List.mem_of_getElem? he
    have run : ∀ (p : Wr × Option Value), opE P tt cs gd (kb + i) i ops[i] (restr (tmF es (Dn l) 0 tm) (opT ops ops[i])) (restrG (bxF es (Dn l) 0 bx) (opK ops[i] (opT ops ops[i]) (restr (tmF es (Dn l) 0 tm) (opT ops ops[i])) (bxF es (Dn l) 0 bx)) (opG ops[i] (restr (tmF es (Dn l) 0 tm) (opT ops ops[i])))) = some p → p.1 = e.E → p.2 = e.th → e.E.cond →
      ops[i].wp P a w (wpAny P .any ops Q fuel (l.setIfInBounds i true)) Q := by
     rintro ⟨E, th⟩ hE rfl rfl hcond
     refine opE_ok s (sr _ _ _) (hm0 _) hE hcond hfresh hcs hI hdstN (fun hnt η' a' w' hs => next η' a' w' hnt hs) (fun v hv η2 tm2 bx2 w' hs _ => ht e mem v hv η2 tm2 bx2 a w' hs)
    unfold wpOp
    rw [ho]
    simp only
    have hop3 := hop2
    unfold opD opDc at hop3
    simp only at hop3
    split at hop3
    ·rename_i hg
     rw [if_pos (by simp [Region.wanted, hg])]
     simp only [Option.map_eq_some_iff, Prod.mk.injEq] at hop3
     obtain ⟨p, hp, h1, h2⟩ := hop3
     subst h1 h2
     exact .inl (run p hp rfl rfl hCk)
    ·rename_i j want hg
     split at hop3
     ·rename_i b hb hgd
      simp only [Option.map_eq_some_iff, Prod.mk.injEq] at hop3
      obtain ⟨q, ⟨p, hp, hq⟩, h1, h2⟩ := hop3
      subst hq h1 h2
      have hy := yielded_lit (sr _ [] []) hb
      rw [if_pos (by simp [Region.wanted, hg, hy, hCk.1])]
      exact .inl (run p hp rfl rfl hCk.2)
     ·rename_i b hb hgd
      simp only [Option.some.injEq, Prod.mk.injEq] at hop3
      obtain ⟨h1, h2⟩ := hop3
      subst h1
      have hy := yielded_lit (sr _ [] []) hb
      rw [if_neg (by simp [Region.wanted, hg, hy, hCk])]
      have hv : e.E = ⟨True, some undA, [], [], false⟩ := by rw [← h2]
      have hth0 : e.th = none := by rw [← h2]
      refine next η _ w hth0 ?_
      rw [hv]
      simp only
      rw [updB_nil]
      exact s.put (dstOk_lt hdstN) (fun x hx => by simp only [Option.some.injEq] at hx; subst hx; exact .lit _)
     ·rename_i l hb
      simp only [Option.some.injEq, Prod.mk.injEq] at hop3
      obtain ⟨h1, h2⟩ := hop3
      subst h1
      have hy := yielded_und (sr _ [] []) hb
      rw [if_neg (by simp [Region.wanted, hg, hy])]
      have hv : e.E = ⟨True, some undA, [], [], false⟩ := by rw [← h2]
      have hth0 : e.th = none := by rw [← h2]
      refine next η _ w hth0 ?_
      rw [hv]
      simp only
      rw [updB_nil]
      exact s.put (dstOk_lt hdstN) (fun x hx => by simp only [Option.some.injEq] at hx; subst hx; exact .lit _)
     ·cases hop3
theorem Dn_rep (n i : Nat) : Dn (Array.replicate n false) i = false := by
 unfold Dn
 rw [Array.getD_eq_getD_getElem?, Array.getElem?_replicate]
 split <;> rfl
theorem draw_ok {Q : Exit → Act → World → Prop} {id : Nat} {η : Nat → Option Value} {a : Act} {w : World} (hmix : P.follows .mixedOrders = true) (hcs : Cons P I cs) (hI : ∀ w', Fr ow w0 w' → I w') (hrun : runD P tt ops cs gd dead kb 0 ops.toList tm bx = some (C, es)) (hC : C)
  (hchk : chkD N ops.toList es anc ks dead kb bx = true) (hinv : Inv ks tm bx) (s : Sim N w0 ow η tm bx a w)
  (hn : (∀ e ∈ es, e.th = none) → ∀ η' a' w', Sim N w0 ow η' (tmF es (fun _ => true) 0 tm) (bxF es (fun _ => true) 0 bx) a' w' → Q .normal a' w')
  (ht : ∀ e ∈ es, ∀ v, e.th = some v → ∀ η' tm' bx' a' w', Sim N w0 ow η' tm' bx' a' w' → Q (.panic [{ v, recovered := false }]) a' w') : (Code.region id ops true).wp P Q a w := by
 refine wp_region_any hmix (draw_any hcs hI hrun hC hchk hinv hn ht ops.size (Array.replicate ops.size false) η a _ (by simp) (fun j o hj => ?_) (fun i e hi => ?_) ?_ ?_)
 ·rw [Dn_rep] at hj; cases hj
 ·rw [Dn_rep] at hi; cases hi
 ·rw [List.countP_eq_length.2]
  ·simp
  ·intro k hk; rw [Dn_rep]; rfl
 ·have e1 : tmF es (Dn (Array.replicate ops.size false)) 0 tm = tm := by funext t; exact tmF_none es 0 tm (fun k e _ _ => Dn_rep _ _)
  have e2 : bxF es (Dn (Array.replicate ops.size false)) 0 bx = bx := by funext t; exact bxF_none es 0 bx (fun k e _ _ => Dn_rep _ _)
  rw [e1, e2]
  exact s.below (Below.drew (Below.refl _ _))
end
inductive Lv where
 | norm | exit (id : Nat) | ret | thr (v : Value)
structure RI where
 cs : List (Nat × CI)
 gd : List (Nat × Bool)
 dead : List Nat
structure Way where
 C : Prop
 lv : Lv
 tm : Tm
 bx : Bx
 ks : List Nat
 bs : List Bool
def ancs (ops : List Oper) : List (List Nat) := ops.foldl (fun acc o => acc ++ [(edges o).flatMap fun e => e :: acc.getD e []]) []
def thOf : List Ef → Option Value
 | [] => none
 | e :: es => match e.th with
  | some v => some v
  | none => thOf es
def oneTh (es : List Ef) : Bool := (es.filter (fun e => e.th.isSome)).length ≤ 1
def newKeys (kb n : Nat) : List Nat := (List.range n).flatMap fun m => nk (kb + m)
def runR (P : Program) (tt : TypeId → Option Ty) (N : Nat) (ri : RI) (kb : Nat) (ops : Array Oper) (draw : Bool) (tm : Tm) (bx : Bx) (ks : List Nat) : Option (Prop × RO × List Nat) :=
  if draw then
    match runD P tt ops ri.cs ri.gd ri.dead kb 0 ops.toList tm bx with
    | some (C, es) => if chkD N ops.toList es (ancs ops.toList) ks ri.dead kb bx = true ∧ oneTh es = true then
        match thOf es with
        | some v => some (C, .thr v (fun _ => none) (fun _ => none), ks)
        | none => some (C, .norm (tmF es (fun _ => true) 0 tm) (bxF es (fun _ => true) 0 bx), ks ++ newKeys kb ops.size)
      else none
    | none => none
  else match runL P tt N ops ri.cs ri.gd kb 0 ops.toList tm bx ks with
    | some (C, r) => some (C, r, ks ++ newKeys kb ops.size)
    | none => none
def runC (P : Program) (tt : TypeId → Option Ty) (N : Nat) (rs : List (Nat × RI)) : Code → Tm → Bx → List Nat → List Bool → Option Way
 | .skip, tm, bx, ks, bs => some ⟨True, .norm, tm, bx, ks, bs⟩
 | .label _, tm, bx, ks, bs => some ⟨True, .norm, tm, bx, ks, bs⟩
 | .ret, tm, bx, ks, bs => some ⟨True, .ret, tm, bx, ks, bs⟩
 | .exit id, tm, bx, ks, bs => some ⟨True, .exit id, tm, bx, ks, bs⟩
 | .region id ops draw, tm, bx, ks, bs =>
  match runR P tt N ((rs.lookup id).getD ⟨[], [], []⟩) (1000 * (id + 1)) ops draw tm bx ks with
  | some (C, .norm tm' bx', ks') => some ⟨C, .norm, tm', bx', ks', bs⟩
  | some (C, .thr v tm' bx', ks') => some ⟨C, .thr v, tm', bx', ks', bs⟩
  | none => none
 | .seq x y, tm, bx, ks, bs => match runC P tt N rs x tm bx ks bs with
  | some ⟨C, .norm, tm', bx', ks', bs'⟩ => match runC P tt N rs y tm' bx' ks' bs' with
   | some W => some ⟨C ∧ W.C, W.lv, W.tm, W.bx, W.ks, W.bs⟩
   | none => none
  | some W => some W
  | none => none
 | .cond c x y, tm, bx, ks, bs => match evalA tm c, bs with
  | some (.lit (.bool b)), true :: bs' => match runC P tt N rs x tm bx ks bs' with
   | some W => some ⟨b = true ∧ W.C, W.lv, W.tm, W.bx, W.ks, W.bs⟩
   | none => none
  | some (.lit (.bool b)), false :: bs' => match runC P tt N rs y tm bx ks bs' with
   | some W => some ⟨b = false ∧ W.C, W.lv, W.tm, W.bx, W.ks, W.bs⟩
   | none => none
  | _, _ => none
 | .block id x, tm, bx, ks, bs => match runC P tt N rs x tm bx ks bs with
  | some ⟨C, .exit j, tm', bx', ks', bs'⟩ => if j = id then some ⟨C, .norm, tm', bx', ks', bs'⟩ else some ⟨C, .exit j, tm', bx', ks', bs'⟩
  | some W => some W
  | none => none
 | _, _, _, _, _ => none
def AllCons (P : Program) (I : World → Prop) : List (Nat × RI) → Prop
 | [] => True
 | (_, ri) :: l => Cons P I ri.cs ∧ AllCons P I l
theorem AllCons.of {P : Program} {I : World → Prop} : ∀ {l : List (Nat × RI)} {i : Nat}, AllCons P I l → Cons P I ((l.lookup i).getD ⟨[], [], []⟩).cs
 | [], _, _ => trivial
 | (j, ri) :: l, i, h => by
  simp only [List.lookup]
  split
  exact h.1
  exact AllCons.of h.2
section
variable {P : Program} {I : World → Prop} {w0 : World} {ow : Own} {N : Nat} {tt : TypeId → Option Ty} {rs : List (Nat × RI)}
theorem Inv.more {ks ks' : List Nat} {tm : Tm} {bx : Bx} (h : Inv ks tm bx) : Inv (ks ++ ks') tm bx := by
 have up : ∀ b, ks.contains b = true → (ks ++ ks').contains b = true := fun b hb => by
  have : b ∈ ks := by simpa using hb
  simpa using (.inl this : b ∈ ks ∨ b ∈ ks')
 exact ⟨fun t av ht b hb => up b (h.1 t av ht b hb), fun b B hB b' hb' => up b' (h.2 b B hB b' hb')⟩
theorem newKeys_mem {kb n i k : Nat} (h : i < n) (hk : k ∈ nk (kb + i)) : k ∈ newKeys kb n := by
 simp only [newKeys, List.mem_flatMap, List.mem_range]
 exact ⟨i, h, hk⟩
theorem runL_inv {ops : Array Oper} {cs : List (Nat × CI)} {gd : List (Nat × Bool)} {kb n : Nat} : ∀ (l : List Oper) (i : Nat) (tm : Tm) (bx : Bx) (ks : List Nat) (C : Prop) (tm' : Tm) (bx' : Bx), runL P tt N ops cs gd kb i l tm bx ks = some (C, .norm tm' bx') → i + l.length ≤ n →
    ∀ base, (∀ b, ks.contains b = true → (base ++ newKeys kb n).contains b = true) → Inv ks tm bx → Inv (base ++ newKeys kb n) tm' bx'
  | [], i, tm, bx, ks, C, tm', bx', h, _, base, hb, hinv => by
    simp only [runL, Option.some.injEq, Prod.mk.injEq, RO.norm.injEq] at h
    obtain ⟨_, rfl, rfl⟩ := h
    exact ⟨fun t av ht b hm => hb b (hinv.1 t av ht b hm), fun b B hB b' hm => hb b' (hinv.2 b B hB b' hm)⟩
  | o :: rest, i, tm, bx, ks, C, tm', bx', h, hn, base, hb, hinv => by
    simp only [List.length_cons] at hn
    have hgo : ∀ C', (match opE P tt cs gd (kb + i) i o tm bx with
      | some (E, none) => if effOk (kb + i) ks E = true ∧ dstOk N o = true then
          (runL P tt N ops cs gd kb (i + 1) rest (upd tm o.dst E.val) (updB bx E.del E.ins) (if E.fresh then nk (kb + i) ++ ks else ks)).map fun p => (E.cond ∧ p.1, p.2) else none
      | some (E, some v) => if effOk (kb + i) ks E = true ∧ dstOk N o = true then some (E.cond, RO.thr v (if calB cs i then fun _ => none else tm) (if calB cs i then fun _ => none else bx)) else none
      | none => none) = some (C', .norm tm' bx') → Inv (base ++ newKeys kb n) tm' bx' := by
      intro C' hh
      split at hh
      · rename_i E hE
        split at hh
        · rename_i hc
          simp only [Option.map_eq_some_iff] at hh
          obtain ⟨⟨C2, r2⟩, h2, h3⟩ := hh
          simp only [Prod.mk.injEq] at h3
          obtain ⟨_, rfl⟩ := h3
          refine runL_inv rest (i + 1) _ _ _ C2 tm' bx' h2 (by omega) base (fun b hbb => ?_) (hinv.step hc.1 o.dst)
          split at hbb
          · have hbb' : b ∈ nk (kb + i) ++ ks := by simpa only [List.contains_iff_mem] using hbb
            rcases List.mem_append.1 hbb' with hbb | hbb
            · simp only [List.contains_iff_mem, List.mem_append]
              exact .inr (newKeys_mem (by omega) hbb)
            · exact hb b (by simpa using hbb)
          · exact hb b hbb
        · cases hh
      · split at hh
        · simp at hh
        · cases hh
      · cases hh
    simp only [runL] at h
    split at h
    · exact hgo C h
    · split at h
      · simp only [Option.map_eq_some_iff] at h
        obtain ⟨⟨C2, r2⟩, h2, h3⟩ := h
        simp only [Prod.mk.injEq] at h3
        obtain ⟨_, rfl⟩ := h3
        exact hgo C2 h2
      · split at h
        · simp only [Option.map_eq_some_iff] at h
          obtain ⟨⟨C2, r2⟩, h2, h3⟩ := h
          simp only [Prod.mk.injEq] at h3
          obtain ⟨_, rfl⟩ := h3
          exact runL_inv rest (i + 1) _ _ _ C2 tm' bx' h2 (by omega) base hb (hinv.und o.dst)
        · cases h
      · split at h
        · simp only [Option.map_eq_some_iff] at h
          obtain ⟨⟨C2, r2⟩, h2, h3⟩ := h
          simp only [Prod.mk.injEq] at h3
          obtain ⟨_, rfl⟩ := h3
          exact runL_inv rest (i + 1) _ _ _ C2 tm' bx' h2 (by omega) base hb (hinv.und o.dst)
        · cases h
      · cases h
theorem draw_inv {ops : List Oper} {es : List Ef} {anc : List (List Nat)} {ks dead : List Nat} {kb : Nat} {tm : Tm} {bx : Bx} (hchk : chkD N ops es anc ks dead kb bx = true) (hlen : es.length = ops.length) (hinv : Inv ks tm bx) :
  Inv (ks ++ newKeys kb ops.length) (tmF es (fun _ => true) 0 tm) (bxF es (fun _ => true) 0 bx) := by
 simp only [chkD, Bool.and_eq_true] at hchk
 obtain ⟨⟨⟨⟨⟨⟨_, hanc⟩, _⟩, hment⟩, _⟩, _⟩, _⟩ := hchk
 have up : ∀ (k : Nat) (e : Ef) (b : Nat), es[k]? = some e → b ∈ optKeys e.E.val ++ insKeys e.E.ins → (ks ++ newKeys kb ops.length).contains b = true := by
  intro k e b hk hb
  have hlt : k < ops.length := by have := (List.getElem?_eq_some_iff.1 hk).1; omega
  have h2 := sub_mem (ment_at hment hk).2 hb
  simp only [List.contains_iff_mem, List.mem_append, List.mem_flatMap] at h2 ⊢
  rcases h2 with h2 | ⟨m, hm, hm2⟩
  ·exact .inl h2
  ·right
   have hmn : m < ops.length := by
    rcases List.mem_cons.1 hm with rfl | hm
    ·exact hlt
    ·have := anc_lt hanc k hlt m hm; omega
   exact newKeys_mem hmn hm2
 have h0 := hinv.more (ks' := newKeys kb ops.length)
 refine ⟨fun t av ht b hm => ?_, fun b B hB b' hm => ?_⟩
 ·rcases tmF_val (D := fun _ => true) (t := t) es 0 tm with h1 | ⟨k, e, h1, _, h3⟩
  ·rw [h1] at ht; exact h0.1 t av ht b hm
  ·rw [h3] at ht; exact up k e b h1 (by rw [ht]; exact List.mem_append_left _ (mem_keysA av hm))
 ·rcases bxF_val (D := fun _ => true) es 0 bx hB with h1 | ⟨k, e, h1, _, h3⟩
  ·exact h0.2 b B h1 b' hm
  ·exact up k e b' h1 (List.mem_append_right _ (insKeys_mem h3 (mem_keysB hm)))
theorem thOf_none : ∀ {es : List Ef}, thOf es = none → ∀ e ∈ es, e.th = none
 | [], _, e, he => by simp at he
 | e0 :: es, h, e, he => by
  simp only [thOf] at h
  split at h
  cases h
  rename_i hn
  rcases List.mem_cons.1 he with rfl | he
  exact hn
  exact thOf_none h e he
theorem thOf_some : ∀ {es : List Ef} {v : Value}, thOf es = some v → oneTh es = true → ∀ e ∈ es, ∀ v', e.th = some v' → v' = v
 | [], v, h, _, e, he, _, _ => by simp at he
 | e0 :: es, v, h, ho, e, he, v', hv => by
  simp only [thOf] at h
  split at h
  rename_i v0 h0
  simp only [Option.some.injEq] at h
  subst h
  rcases List.mem_cons.1 he with rfl | he
  rw [h0] at hv; injection hv with hv; exact hv.symm
  exfalso
  unfold oneTh at ho
  simp only [List.filter_cons, h0, Option.isSome_some, if_true, List.length_cons, decide_eq_true_eq] at ho
  have : e ∈ es.filter (fun e => e.th.isSome) := List.mem_filter.2 ⟨he, by rw [hv]; rfl⟩
  have := List.length_pos_of_mem this
  omega
  rename_i hn
  rcases List.mem_cons.1 he with rfl | he
  rw [hn] at hv; cases hv
  refine thOf_some h ?_ e he v' hv
  unfold oneTh at ho ⊢
  simp only [List.filter_cons, hn, Option.isSome_none] at ho
  exact ho
def LvQ (N : Nat) (w0 : World) (ow : Own) (Q : Exit → Act → World → Prop) (W : Way) : Prop :=
 match W.lv with
 | .norm => ∀ η a w, Sim N w0 ow η W.tm W.bx a w → Inv W.ks W.tm W.bx → Q .normal a w
 | .exit id => ∀ η a w, Sim N w0 ow η W.tm W.bx a w → Inv W.ks W.tm W.bx → Q (.exit id) a w
 | .ret => ∀ η a w, Sim N w0 ow η W.tm W.bx a w → Inv W.ks W.tm W.bx → Q .ret a w
 | .thr v => ∀ η a w, Sim N w0 ow η W.tm W.bx a w → Q (.panic [{ v, recovered := false }]) a w
theorem runR_ok (hmix : P.follows .mixedOrders = true) {ri : RI} (hcs : Cons P I ri.cs) (hI : ∀ w', Fr ow w0 w' → I w') {id kb : Nat} {ops : Array Oper} {draw : Bool} {tm : Tm} {bx : Bx} {ks ks' : List Nat} {C : Prop} {r : RO} (h : runR P tt N ri kb ops draw tm bx ks = some (C, r, ks')) (hC : C) (hinv : Inv ks tm bx)
  {η : Nat → Option Value} {a : Act} {w : World} (s : Sim N w0 ow η tm bx a w) {Q : Exit → Act → World → Prop}
  (hn : ∀ tm' bx', r = .norm tm' bx' → Inv ks' tm' bx' → ∀ η' a' w', Sim N w0 ow η' tm' bx' a' w' → Q .normal a' w') (ht : ∀ v tm' bx', r = .thr v tm' bx' → ∀ η' a' w', Sim N w0 ow η' tm' bx' a' w' → Q (.panic [{ v, recovered := false }]) a' w') : (Code.region id ops draw).wp P Q a w := by
 unfold runR at h
 cases draw with
 | true =>
  rw [if_pos rfl] at h
  split at h
  ·rename_i C' es hrun
   split at h
   ·rename_i hc
    have hlen := (fun hC => (runD_at ops.toList 0 tm bx C' es hrun hC).1)
    split at h
    ·rename_i v hv
     simp only [Option.some.injEq, Prod.mk.injEq] at h
     obtain ⟨rfl, rfl, rfl⟩ := h
     refine draw_ok hmix hcs hI hrun hC hc.1 hinv s (fun hall => ?_) (fun e he v' hv' => ?_)
     ·exfalso
      have : ∀ es : List Ef, (∀ e ∈ es, e.th = none) → thOf es = none := by
       intro es; induction es with
       | nil => intro _; rfl
       | cons e es ih => intro h; simp only [thOf, h e (List.mem_cons_self ..)]; exact ih (fun e' he' => h e' (List.mem_cons_of_mem _ he'))
      rw [this es hall] at hv; cases hv
     ·rw [thOf_some hv hc.2 e he v' hv']; exact fun η2 tm2 bx2 a2 w2 hs2 => ht v _ _ rfl η2 a2 w2 (hs2.weaken (fun t x h => by cases h) (fun b B h => by cases h))
    ·rename_i hv
     simp only [Option.some.injEq, Prod.mk.injEq] at h
     obtain ⟨rfl, rfl, rfl⟩ := h
     have hi := draw_inv hc.1 (hlen hC) hinv
     rw [Array.length_toList] at hi
     exact draw_ok hmix hcs hI hrun hC hc.1 hinv s (fun _ => hn _ _ rfl hi) (fun e he v' hv' => by rw [thOf_none hv e he] at hv'; cases hv')
   ·cases h
  ·cases h
 | false =>
  rw [if_neg (by decide)] at h
  split at h
  ·rename_i C' r' hrun
   simp only [Option.some.injEq, Prod.mk.injEq] at h
   obtain ⟨rfl, rfl, rfl⟩ := h
   refine wp_region_list (runL_ok hcs hI ops.toList 0 η tm bx ks a w C' r' hrun hC s hinv (fun tm' bx' hr => ?_) ht)
   subst hr
   refine hn tm' bx' rfl (runL_inv ops.toList 0 tm bx ks C' tm' bx' hrun (by simp) ks (fun b hb => ?_) hinv)
   have : b ∈ ks := by simpa using hb
   simp only [List.contains_iff_mem, List.mem_append]
   exact .inl this
  ·cases h
theorem runC_ok (hmix : P.follows .mixedOrders = true) (hall : AllCons P I rs) (hI : ∀ w', Fr ow w0 w' → I w') : ∀ (c : Code) (tm : Tm) (bx : Bx) (ks : List Nat) (bs : List Bool) (W : Way), runC P tt N rs c tm bx ks bs = some W → W.C → Inv ks tm bx →
  ∀ (η : Nat → Option Value) (a : Act) (w : World) (Q : Exit → Act → World → Prop), Sim N w0 ow η tm bx a w → LvQ N w0 ow Q W → c.wp P Q a w := by
 intro c
 induction c with
 | skip =>
  intro tm bx ks bs W h hC hinv η a w Q s hq
  simp only [runC, Option.some.injEq] at h
  subst h
  exact wp_skip (hq η a w s hinv)
 | label l =>
  intro tm bx ks bs W h hC hinv η a w Q s hq
  simp only [runC, Option.some.injEq] at h
  subst h
  exact wp_label (hq η a w s hinv)
 | ret =>
  intro tm bx ks bs W h hC hinv η a w Q s hq
  simp only [runC, Option.some.injEq] at h
  subst h
  exact wp_ret (hq η a w s hinv)
 | exit id =>
  intro tm bx ks bs W h hC hinv η a w Q s hq
  simp only [runC, Option.some.injEq] at h
  subst h
  exact wp_exit (hq η a w s hinv)
 | region id ops draw =>
  intro tm bx ks bs W h hC hinv η a w Q s hq
  simp only [runC] at h
  split at h
  ·rename_i C tm' bx' ks' hr
   simp only [Option.some.injEq] at h
   subst h
   refine runR_ok hmix hall.of hI hr hC hinv s (fun tm2 bx2 he hi η' a' w' s' => ?_) (fun v _ _ he => by cases he)
   injection he with h1 h2
   subst h1 h2
   exact hq η' a' w' s' hi
  ·rename_i C v tm' bx' ks' hr
   simp only [Option.some.injEq] at h
   subst h
   refine runR_ok hmix hall.of hI hr hC hinv s (fun tm2 bx2 he => by cases he) (fun v' tm2 bx2 he => ?_)
   injection he with h1 h2 h3
   subst h1 h2 h3
   exact hq
  ·cases h
 | seq x y ihx ihy =>
  intro tm bx ks bs W h hC hinv η a w Q s hq
  simp only [runC] at h
  split at h
  ·rename_i C tm' bx' ks' bs' hx
   split at h
   ·rename_i W2 hy
    simp only [Option.some.injEq] at h
    subst h
    refine wp_seq (ihx tm bx ks bs _ hx hC.1 hinv η a w _ s ?_)
    intro η' a' w' s' hi
    refine ihy tm' bx' ks' bs' W2 hy hC.2 hi η' a' w' Q s' ?_
    unfold LvQ at hq ⊢
    exact hq
   ·cases h
  ·rename_i W1 hx hno
   simp only [Option.some.injEq] at h
   subst h
   refine wp_seq (ihx tm bx ks bs _ hno hC hinv η a w _ s ?_)
   unfold LvQ at hq ⊢
   split at hq
   ·rename_i hlv
    exfalso
    obtain ⟨c0, l0, t0, b0, k0, s0⟩ := W1
    simp only at hlv
    subst hlv
    exact hx _ _ _ _ _ rfl
   ·exact hq
   ·exact hq
   ·exact hq
  ·cases h
 | cond c x y ihx ihy =>
  intro tm bx ks bs W h hC hinv η a w Q s hq
  simp only [runC] at h
  split at h
  ·rename_i b bs' hc
   split at h
   ·rename_i W2 hx
    simp only [Option.some.injEq] at h
    subst h
    have hv := (s.ev hc).lit_inv
    refine wp_cond hv ?_
    rw [if_pos hC.1]
    refine ihx tm bx ks bs' W2 hx hC.2 hinv η a w Q s ?_
    unfold LvQ at hq ⊢; exact hq
   ·cases h
  ·rename_i b bs' hc
   split at h
   ·rename_i W2 hx
    simp only [Option.some.injEq] at h
    subst h
    have hv := (s.ev hc).lit_inv
    refine wp_cond hv ?_
    rw [if_neg (by rw [hC.1]; decide)]
    refine ihy tm bx ks bs' W2 hx hC.2 hinv η a w Q s ?_
    unfold LvQ at hq ⊢; exact hq
   ·cases h
  ·cases h
 | block id x ih =>
  intro tm bx ks bs W h hC hinv η a w Q s hq
  simp only [runC] at h
  split at h
  ·rename_i C j tm' bx' ks' bs' hx
   split at h
   ·rename_i hj
    simp only [Option.some.injEq] at h
    subst h hj
    refine wp_block (ih tm bx ks bs _ hx hC hinv η a w _ s ?_)
    intro η' a' w' s' hi
    simp only [Exit.inBlock, if_true]
    exact hq η' a' w' s' hi
   ·rename_i hj
    simp only [Option.some.injEq] at h
    subst h
    refine wp_block (ih tm bx ks bs _ hx hC hinv η a w _ s ?_)
    intro η' a' w' s' hi
    simp only [Exit.inBlock, if_neg hj]
    exact hq η' a' w' s' hi
  ·rename_i W1 hx hno
   simp only [Option.some.injEq] at h
   subst h
   refine wp_block (ih tm bx ks bs _ hno hC hinv η a w _ s ?_)
   unfold LvQ at hq ⊢
   split at hq
   ·exact hq
   ·rename_i id' hlv
    exfalso
    obtain ⟨c0, l0, t0, b0, k0, s0⟩ := W1
    simp only at hlv
    subst hlv
    exact hx _ _ _ _ _ _ rfl
   ·exact hq
   ·exact hq
  ·cases h
 | _ =>
  intro tm bx ks bs W h
  simp [runC] at h
end
abbrev TL := List (Nat × AV)
def keysT : TL → List Nat
 | [] => []
 | (_, v) :: l => keysA v ++ keysT l
def keysBL : BL → List Nat
 | [] => []
 | (_, B) :: l => keysB B ++ keysBL l
theorem keysT_mem : ∀ {T : TL} {t : Nat} {v : AV} {b : Nat}, (t, v) ∈ T → b ∈ keysA v → b ∈ keysT T
 | [], _, _, _, h, _ => by simp at h
 | (k, y) :: l, t, v, b, h, hb => by
  simp only [keysT, List.mem_append]
  rcases List.mem_cons.1 h with h | h
  injection h with h1 h2; subst h2; exact .inl hb
  exact .inr (keysT_mem h hb)
theorem keysBL_mem : ∀ {T : BL} {t : Nat} {v : Box} {b : Nat}, (t, v) ∈ T → b ∈ keysB v → b ∈ keysBL T
 | [], _, _, _, h, _ => by simp at h
 | (k, y) :: l, t, v, b, h, hb => by
  simp only [keysBL, List.mem_append]
  rcases List.mem_cons.1 h with h | h
  injection h with h1 h2; subst h2; exact .inl hb
  exact .inr (keysBL_mem h hb)
def ksOf (T : TL) (B : BL) : List Nat := keysT T ++ keysBL B
theorem inv_of (T : TL) (B : BL) : Inv (ksOf T B) (lkp T) (lkp B) := by
 refine ⟨fun t av ht b hb => ?_, fun b B' hB b' hb => ?_⟩
 have := keysT_mem (lkp_mem ht) (mem_keysA av hb)
 simp only [ksOf, List.contains_iff_mem, List.mem_append]; exact .inl this
 have := keysBL_mem (lkp_mem hB) (mem_keysB hb)
 simp only [ksOf, List.contains_iff_mem, List.mem_append]; exact .inr this
def SimL (N : Nat) (w0 : World) (ow : Own) (T : TL) (B : BL) (a : Act) (w : World) : Prop := ∃ η, Sim N w0 ow η (lkp T) (lkp B) a w
def proj {α : Type} (f : Nat → Option α) : List Nat → List (Nat × α)
 | [] => []
 | t :: l => match f t with
  | some x => (t, x) :: proj f l
  | none => proj f l
theorem lkp_proj {α : Type} {f : Nat → Option α} : ∀ {l : List Nat} {t : Nat} {x : α}, lkp (proj f l) t = some x → f t = some x
 | [], _, _, h => by cases h
 | k :: l, t, x, h => by
  simp only [proj] at h
  split at h
  rename_i y hy
  simp only [lkp] at h
  split at h
  rename_i e; subst e; rw [hy]; exact h
  exact lkp_proj h
  exact lkp_proj h
def projC (P : Program) (tt : TypeId → Option Ty) (N : Nat) (rs : List (Nat × RI)) (c : Code) (T : TL) (B : BL) (bs : List Bool) (tk bk : List Nat) : Option (Prop × Lv × TL × BL) :=
 match runC P tt N rs c (lkp T) (lkp B) (ksOf T B) bs with
 | some W => some (W.C, W.lv, proj W.tm tk, proj W.bx bk)
 | none => none
def tr : Nat → Prop → Prop
 | 0, p => p
 | n + 1, p => True ∧ tr n p
def LvL (N : Nat) (w0 : World) (ow : Own) (Q : Exit → Act → World → Prop) (lv : Lv) (T : TL) (B : BL) : Prop :=
 match lv with
 | .norm => ∀ a w, SimL N w0 ow T B a w → Q .normal a w
 | .exit id => ∀ a w, SimL N w0 ow T B a w → Q (.exit id) a w
 | .ret => ∀ a w, SimL N w0 ow T B a w → Q .ret a w
 | .thr v => ∀ a w, SimL N w0 ow T B a w → Q (.panic [{ v, recovered := false }]) a w
section
variable {P : Program} {I : World → Prop} {w0 : World} {ow : Own} {N : Nat} {tt : TypeId → Option Ty} {rs : List (Nat × RI)} {T T' : TL} {B B' : BL} {a : Act} {w : World} {Q : Exit → Act → World → Prop}
theorem way_L (hmix : P.follows .mixedOrders = true) (hI : ∀ w', Fr ow w0 w' → I w') {c : Code} {bs : List Bool} {tk bk : List Nat} {C : Prop} {lv : Lv} (hs : SimL N w0 ow T B a w) (hall : AllCons P I rs) (he : projC P tt N rs c T B bs tk bk = some (C, lv, T', B')) (hC : C) (hq : LvL N w0 ow Q lv T' B') : c.wp P Q a w := by
 obtain ⟨η, s⟩ := hs
 unfold projC at he
 split at he
 rename_i W hW
 simp only [Option.some.injEq, Prod.mk.injEq] at he
 obtain ⟨rfl, rfl, rfl, rfl⟩ := he
 refine runC_ok hmix hall hI c _ _ _ bs W hW hC (inv_of T B) η a w Q s ?_
 unfold LvL at hq
 unfold LvQ
 split at hq
 rename_i hlv
 try rw [hlv]
 exact fun η a w s _ => hq a w ⟨η, s.weaken (fun t x h => lkp_proj h) (fun b x h => lkp_proj h)⟩
 rename_i id hlv
 try rw [hlv]
 exact fun η a w s _ => hq a w ⟨η, s.weaken (fun t x h => lkp_proj h) (fun b x h => lkp_proj h)⟩
 rename_i hlv
 try rw [hlv]
 exact fun η a w s _ => hq a w ⟨η, s.weaken (fun t x h => lkp_proj h) (fun b x h => lkp_proj h)⟩
 rename_i v hlv
 try rw [hlv]
 exact fun η a w s => hq a w ⟨η, s.weaken (fun t x h => lkp_proj h) (fun b x h => lkp_proj h)⟩
 cases he
theorem loop_L {c : Code} {α : Type} (S : α → TL) (SB : α → BL) (J : α → Prop) (m : α → Nat) (p0 : α) (h0 : J p0) (hs : SimL N w0 ow (S p0) (SB p0) a w)
  (round : ∀ p, J p → ∀ a w, SimL N w0 ow (S p) (SB p) a w → c.wp P (Exit.then (fun a' w' => ∃ p', J p' ∧ m p' < m p ∧ SimL N w0 ow (S p') (SB p') a' w') Q) a w) : (Code.loop c).wp P Q a w := by
 have key : ∀ n p, m p = n → J p → ∀ a w, SimL N w0 ow (S p) (SB p) a w → ∀ (b : Frame) (k : List Item) (cs : List Frame), ∃ e a' w', Q e a' w' ∧ Arrives P (lone (b.at a (.code c :: .inLoop c :: k)) cs w) b k cs e a' w' := by
  intro n
  induction n using Nat.strongRecOn with
  | _ n ih =>
   intro p hn hJ a w hs b k cs
   obtain ⟨e, a₁, w₁, hq, harr⟩ := round p hJ a w hs b (.inLoop c :: k) cs
   cases e with
   | normal =>
    obtain ⟨p', hJ', hlt, hs'⟩ := hq
    obtain ⟨e₂, a₂, w₂, hq₂, harr₂⟩ := ih (m p') (hn ▸ hlt) p' rfl hJ' a₁ w₁ hs' b k cs
    exact ⟨e₂, a₂, w₂, hq₂, .of_steps (Steps.trans harr (.one step_inLoop)) harr₂⟩
   | exit id => exact ⟨_, a₁, w₁, hq, .pass (x := .inLoop c) rfl (fun _ _ => .inl (by simp)) harr⟩
   | goto l => exact ⟨_, a₁, w₁, hq, .pass (x := .inLoop c) rfl (fun _ _ => .inl (by simp)) harr⟩
   | ret => exact ⟨_, a₁, w₁, hq, .pass (x := .inLoop c) rfl (fun _ _ => .inl (by simp)) harr⟩
   | panic ch => exact ⟨_, a₁, w₁, hq, .pass (x := .inLoop c) rfl (fun _ _ => .inl (by simp)) harr⟩
   | outgrown => exact ⟨_, a₁, w₁, hq, .pass (x := .inLoop c) rfl (fun _ _ => .inl (by simp)) harr⟩
 intro b k cs
 obtain ⟨e, a', w', hq, harr⟩ := key _ p0 rfl h0 a w hs b k cs
 exact ⟨e, a', w', hq, .of_steps (.one step_loop) harr⟩
def rnη (ρ : List (Nat × Nat)) (η : Nat → Option Value) (b : Nat) : Option Value := match lkp ρ b with
 | some c => η c
 | none => none
theorem R_rn1 {ρ : List (Nat × Nat)} {fz fz' : Nat → Prop} {η : Nat → Option Value} {v : Value} {x : AV} (hf : ∀ k, fz k → k < w.heap.size → fz' k) (hp : plain1 ρ x = true) (h : R w fz η v (rn1 ρ x)) : R w fz' (rnη ρ η) v x := by
 have st : ∀ y, keysA y = [] → R w fz η v y → R w fz' (rnη ρ η) v y := fun y hk h => h.step (Nat.le_refl _) (fun _ _ _ => rfl) hf (fun b u hb _ => by rw [ment_none hk] at hb; cases hb)
 have lk : ∀ b, (lkp ρ b).isSome = true → rnη ρ η b = η (rnk ρ b) := fun b hb => by
  obtain ⟨c, hc⟩ := Option.isSome_iff_exists.1 hb
  simp [rnη, rnk, hc]
 cases x with
 | own b => exact .own _ _ (fun u hu => h.own_inv (by rw [lk b hp] at hu; exact hu))
 | ptr b off => exact .ptr _ _ _ (fun u hu => h.ptr_inv (by rw [lk b hp] at hu; exact hu))
 | op τ b i off => exact .op _ _ _ _ _ (fun u hu => h.op_inv (by rw [lk b hp] at hu; exact hu))
 | ot τ b lo => exact .ot _ _ _ _ (fun u hu => h.ot_inv (by rw [lk b hp] at hu; exact hu))
 | agg l => simp [plain1] at hp
 | tup l => simp [plain1] at hp
 | clo f l => simp [plain1] at hp
 | _ => exact st _ rfl h
theorem R_rn {ρ : List (Nat × Nat)} {fz fz' : Nat → Prop} {η : Nat → Option Value} {v : Value} {x : AV} (hf : ∀ k, fz k → k < w.heap.size → fz' k) (hp : plain ρ x = true) (h : R w fz η v (rn ρ x)) : R w fz' (rnη ρ η) v x := by
 have elems : ∀ (vs : Array Value) (l : List AV), l.all (plain1 ρ) = true → (∀ (j : Nat) u y, vs[j]? = some u → (l.map (rn1 ρ))[j]? = some y → R w fz η u y) → ∀ (j : Nat) u y, vs[j]? = some u → l[j]? = some y → R w fz' (rnη ρ η) u y := fun vs l hl hR j u y hu hy =>
  R_rn1 hf (List.all_eq_true.1 hl y (List.mem_of_getElem? hy)) (hR j u _ hu (by rw [List.getElem?_map, hy]; rfl))
 cases x with
 | agg l => obtain ⟨vs, rfl, h1, h2⟩ := R.agg_inv h; exact .agg _ _ (by simpa using h1) (elems vs l hp h2)
 | tup l => obtain ⟨vs, rfl, h1, h2⟩ := R.tup_inv h; exact .tup _ _ (by simpa using h1) (elems vs l hp h2)
 | clo f l => obtain ⟨vs, rfl, h1, h2⟩ := R.clo_inv h; exact .clo _ _ _ (by simpa using h1) (elems vs l hp h2)
 | _ => exact R_rn1 hf hp h
def renOk (ρ : List (Nat × Nat)) (T' : TL) (B' : BL) : Bool := injOk ρ && ρ.all (fun p => decide (1000 ≤ p.1) || p.1 == p.2) && T'.all (fun p => plain ρ p.2) && B'.all (fun p => (lkp ρ p.1).isSome && plainB ρ p.2)
theorem SimL.ren (hs : SimL N w0 ow T B a w) (ρ : List (Nat × Nat)) (hok : renOk ρ T' B' = true) (hT : T'.map (fun p => lkp T p.1) = T'.map (fun p => some (rn ρ p.2))) (hB : B'.map (fun p => lkp B (rnk ρ p.1)) = B'.map (fun p => some (rnB ρ p.2))) : SimL N w0 ow T' B' a w := by
 obtain ⟨η, s⟩ := hs
 simp only [renOk, Bool.and_eq_true] at hok
 obtain ⟨⟨⟨h1, h4⟩, h2⟩, h3⟩ := hok
 have hinj : (ρ.map (·.2)).Nodup := by simpa [injOk] using h1
 have map_at : ∀ {α β : Type} (l : List (Nat × α)) (f g : Nat × α → β), l.map f = l.map g → ∀ p ∈ l, f p = g p := fun l f g h p hp => by
  induction l with
  | nil => simp at hp
  | cons q l ih =>
   simp only [List.map_cons, List.cons.injEq] at h
   rcases List.mem_cons.1 hp with rfl | hp
   ·exact h.1
   ·exact ih h.2 hp
 have sub : ∀ b u, rnη ρ η b = some u → ∃ c, lkp ρ b = some c ∧ η c = some u := fun b u h => by
  simp only [rnη] at h
  split at h
  ·rename_i c hc; exact ⟨c, hc, h⟩
  ·cases h
 have hf : ∀ k, Fz (Amb w0 ow) η k → k < w.heap.size → Fz (Amb w0 ow) (rnη ρ η) k := fun k hk _ => ⟨hk.1, fun b u hb => by
  obtain ⟨c, _, hc⟩ := sub b u hb
  exact hk.2 c u hc⟩
 refine ⟨rnη ρ η, s.size, s.nod, s.frame, fun t av ht => ?_, fun b Bx hBx => ?_, fun b u k hb hk => ?_, fun b b' u u' k hb hb' hk hk' => ?_, fun b u u' hp hb => ?_, s.pinlt⟩
 ·have hm := lkp_mem ht
  have he := map_at T' _ _ hT (t, av) hm
  obtain ⟨v, hv, hr⟩ := s.tmp t _ he
  exact ⟨v, hv, R_rn hf (List.all_eq_true.1 h2 (t, av) hm) hr⟩
 ·have hm := lkp_mem hBx
  have he := map_at B' _ _ hB (b, Bx) hm
  have hp := List.all_eq_true.1 h3 (b, Bx) hm
  simp only [Bool.and_eq_true] at hp
  obtain ⟨c, hc⟩ := Option.isSome_iff_exists.1 hp.1
  have hrk : rnk ρ b = c := by simp [rnk, hc]
  simp only [hrk] at he
  obtain ⟨u, hu, hr⟩ := s.dom c _ he
  refine ⟨u, by simp [rnη, hc, hu], ?_⟩
  cases Bx with
  | any => exact hr
  | var l =>
   obtain ⟨g, C, e, rfl, q1, q2, q3⟩ := hr
   refine ⟨g, C, e, rfl, q1, by simpa using q2, fun j v x hv hx => ?_⟩
   exact R_rn1 hf (List.all_eq_true.1 hp.2 x (List.mem_of_getElem? hx)) (q3 j v _ hv (by rw [List.getElem?_map, hx]; rfl))
  | sl e τ xs =>
   obtain ⟨cs, q1, q2⟩ := hr
   refine ⟨cs, q1, fun i x j y hx hy => ?_⟩
   obtain ⟨v, hv, hr⟩ := q2 i x j y hx hy
   exact ⟨v, hv, hr.step (Nat.le_refl _) (fun _ _ _ => rfl) hf (fun b u hb _ => by rw [enc_ment' hy] at hb; cases hb)⟩
  | full e τ xs =>
   obtain ⟨⟨cs, q1, q2⟩, qc⟩ := hr
   refine ⟨⟨cs, q1, fun i x j y hx hy => ?_⟩, qc⟩
   obtain ⟨v, hv, hr⟩ := q2 i x j y hx hy
   exact ⟨v, hv, hr.step (Nat.le_refl _) (fun _ _ _ => rfl) hf (fun b u hb _ => by rw [enc_ment' hy] at hb; cases hb)⟩
 ·obtain ⟨c, _, hc⟩ := sub b u hb
  exact s.new c u k hc hk
 ·obtain ⟨c, hbc, hc⟩ := sub b u hb
  obtain ⟨c', hbc', hc'⟩ := sub b' u' hb'
  have := s.apart c c' u u' k hc hc' hk hk'
  subst this
  exact nodup_inj hinj hbc hbc'
 ·obtain ⟨c, hbc, hc⟩ := sub b u' hb
  have hlt := s.pinlt b u hp
  have h5 := List.all_eq_true.1 h4 (b, c) (lkp_mem hbc)
  simp only [Bool.or_eq_true, decide_eq_true_eq, beq_iff_eq] at h5
  rcases h5 with h5 | rfl
  ·omega
  ·exact s.pin b u u' hp hc
end
def num : Nat → List AV → TL
 | _, [] => []
 | i, a :: l => (i, a) :: num (i + 1) l
theorem num_at : ∀ {l : List AV} {i t : Nat} {x : AV}, lkp (num i l) t = some x → i ≤ t ∧ l[t - i]? = some x
 | [], _, _, _, h => by cases h
 | a :: l, i, t, x, h => by
  simp only [num, lkp] at h
  split at h
  rename_i e; subst e; simp at h; simp [h]
  obtain ⟨h1, h2⟩ := num_at h
  refine ⟨by omega, ?_⟩
  rw [show t - i = (t - (i + 1)) + 1 by omega, List.getElem?_cons_succ]; exact h2
def FnQ (P : Program) (fn : Func) (w0 : World) (ow : Own) (out : COut) : Exit → Act → World → Prop := bodyPost P fn (fun e w' => Post w0 ow.f w' e out ∧ Below w0.heap.size w0 w')
def noO (fz : Nat → Prop) : Own := ⟨fun _ => False, fz, fun _ => none, []⟩
section
variable {P : Program} {I : World → Prop} {w0 : World} {ow : Own} {N : Nat} {T : TL} {B : BL} {a : Act} {w : World}
theorem con_of {f : FuncId} {fn : Func} {c : Code} {args : List AV} {out : COut} (hf : P.funcs[f]? = some fn) (hb : fn.body = some c) (hN : args.length ≤ fn.ntmps) (hI0 : ∀ w w', I w → Below w.heap.size w w' → I w')
  (h : ∀ (w0 : World) (fz : Nat → Prop) (a : Act), (∀ w', Fr (noO fz) w0 w' → I w') → SimL fn.ntmps w0 (noO fz) (num 0 args) [] a w0 → c.wp P (FnQ P fn w0 (noO fz) out) a w0) : Con P I f args out := by
 intro w fz vs hI hfz hR
 refine calls_of_wp hf hb (h w fz _ (fun w' hfr => hI0 w w' hI (hfr.below (fun _ h => h))) ⟨noη, ?_⟩)
 refine ⟨?_, rfl, Fr.refl _ _, fun t av ht => ?_, (fun b B h => by cases h), (fun b u k h => by cases h), (fun b b' u u' k h => by cases h), (fun b u u' h => by cases h), (fun b u h => by cases h)⟩
 ·have := hR.1; simp; omega
 ·obtain ⟨_, h1⟩ := num_at ht
  rw [Nat.sub_zero] at h1
  have hlt : t < vs.size := by have := (List.getElem?_eq_some_iff.1 h1).1; have := hR.1; omega
  refine ⟨vs[t], ?_, ?_⟩
  ·show (vs ++ Array.replicate (fn.ntmps - vs.size) undef)[t]? = some vs[t]
   rw [Array.getElem?_append_left hlt]; exact Array.getElem?_eq_getElem hlt
  ·exact (hR.2 t _ av (Array.getElem?_eq_getElem hlt) h1).step (Nat.le_refl _) (fun _ _ _ => rfl) (fun k hk _ => ⟨.inl hk, fun b u h => by cases h⟩) (fun b u _ h => h)
def frz2 (bx : Bx) (del : List Nat) : AV → AV
 | .tup l => .tup (l.map (frz bx del))
 | a => frz bx del a
def fit2 : AV → AV → AV
 | .tup l, .tup m => if l.length = m.length then .tup (List.zipWith fit l m) else .tup l
 | a, b => fit a b
theorem R_frz2 {η : Nat → Option Value} {tm : Tm} {bx : Bx} {v : Value} {x : AV} (s : Sim N w0 ow η tm bx a w) (h : R w (Fz (Amb w0 ow) η) η v x) (del : List Nat) : R w (Fz (Amb w0 ow) (dropη η del)) (dropη η del) v (frz2 bx del x) := by
 unfold frz2
 split
 obtain ⟨vs, rfl, hl, hR⟩ := h.tup_inv
 refine .tup _ _ (by simpa using hl) (fun j u y hu hy => ?_)
 rw [List.getElem?_map, Option.map_eq_some_iff] at hy
 obtain ⟨y0, hy0, rfl⟩ := hy
 exact R_frz s (hR j u y0 hu hy0) del
 exact R_frz s h del
theorem R_fit2 {fz : Nat → Prop} {η : Nat → Option Value} {v : Value} {a b : AV} (h : R w fz η v a) : R w fz η v (fit2 a b) := by
 unfold fit2
 split
 split
 rename_i l m hlm
 obtain ⟨vs, rfl, hl, hR⟩ := h.tup_inv
 refine .tup _ _ (by simp; omega) (fun j u y hu hy => ?_)
 rw [List.getElem?_zipWith] at hy
 split at hy
 rename_i x z hx hz
 simp only [Option.some.injEq] at hy
 subst hy
 exact R_fit (hR j u x hu hx)
 cases hy
 exact h
 exact R_fit h
def resOf (P : Program) (tm : Tm) (bx : Bx) : ResultVar → Option AV
 | .tmp t => tm t
 | .cell t ty => match tm t with
  | some (.ptr b off) => match bx b with
   | some (.var l) => cut P ty l off
   | _ => none
  | _ => none
def resA (P : Program) (fn : Func) (tm : Tm) (bx : Bx) : Option AV := match fn.results.toList with
 | [] => some (.tup [])
 | [r] => resOf P tm bx r
 | [r, q] => match resOf P tm bx r, resOf P tm bx q with
  | some x, some y => some (.tup [x, y])
  | _, _ => none
 | [r, q, p] => match resOf P tm bx r, resOf P tm bx q, resOf P tm bx p with
  | some x, some y, some z => some (.tup [x, y, z])
  | _, _, _ => none
 | _ => none
def resSem (tmps : Array Value) : ResultVar → Sem Value
 | .tmp t => pure (tmps.getD t undef)
 | .cell a t => do loadVar t (← asAddr (tmps.getD a undef))
theorem resOf_ok {η : Nat → Option Value} {tm : Tm} {bx : Bx} (s : Sim N w0 ow η tm bx a w) {r : ResultVar} {x : AV} (h : resOf P tm bx r = some x) :
  ∃ v, (resSem a.tmps r).run P w = .ok v w ∧ R w (Fz (Amb w0 ow) η) η v x := by
 cases r with
 | tmp t =>
  obtain ⟨v, hv, hr⟩ := s.tmp t x h
  exact ⟨v, by simp [resSem, Array.getD_eq_getD_getElem?, hv], hr⟩
 | cell t ty =>
  simp only [resOf] at h
  split at h
  ·rename_i b off ht
   split at h
   ·rename_i l hb
    obtain ⟨v, hv, hr⟩ := s.tmp t _ ht
    obtain ⟨u, hu, g, C, e, rfl, q1, q2, q3⟩ := s.dom b _ hb
    obtain ⟨g', hg, rfl⟩ := hr.ptr_inv hu
    injection hg with hg; injection hg with hg; injection hg with hg
    subst hg
    obtain ⟨v, hrun, hR⟩ := loadVar_cut (P := P) (w := w) (ad := ⟨g, 0, none⟩) (l := l) (fun j y hj => by
     have hlt : j < C.size := by have := (List.getElem?_eq_some_iff.1 hj).1; omega
     exact ⟨C[j], by rw [lit_add]; simp [World.cell?, q1, hlt], q3 j _ _ (Array.getElem?_eq_getElem hlt) hj⟩) h
    rw [lit_add] at hrun
    exact ⟨v, by simp [resSem, Array.getD_eq_getD_getElem?, hv, asAddr, hrun], hR⟩
   ·cases h
  ·cases h
theorem results_eq (fn : Func) (tmps : Array Value) : results fn tmps = (do
  let vs ← fn.results.mapM (resSem tmps)
  pure (if h : vs.size = 1 then vs[0] else .tuple vs)) := by
 unfold results
 congr 1
theorem resA_ok {η : Nat → Option Value} {tm : Tm} {bx : Bx} (s : Sim N w0 ow η tm bx a w) {fn : Func} {x : AV} (h : resA P fn tm bx = some x) : ∃ v, (results fn a.tmps).run P w = .ok v w ∧ R w (Fz (Amb w0 ow) η) η v x := by
 unfold resA at h
 have arr : ∀ l, fn.results.toList = l → fn.results = l.toArray := fun l hl => by rw [← hl]
 have one : ∀ (v : Value) (x : AV) (C : List Value) (l : List AV), R w (Fz (Amb w0 ow) η) η v x → RLl w (Fz (Amb w0 ow) η) η C l → RLl w (Fz (Amb w0 ow) η) η (v :: C) (x :: l) := fun v x C l h1 h2 => RLl_cons.2 ⟨h1, h2⟩
 have tup : ∀ (C : List Value) (l : List AV), RLl w (Fz (Amb w0 ow) η) η C l → R w (Fz (Amb w0 ow) η) η (.tuple C.toArray) (.tup l) := fun C l h => .tup _ _ (by simpa using h.1) (fun j u y hu hy => h.2 j u y (by simpa using hu) hy)
 split at h
 rename_i hl
 simp only [Option.some.injEq] at h
 subst h
 exact ⟨.tuple #[], by simp [results_eq, arr _ hl], tup [] [] RLl_nil⟩
 rename_i r hl
 obtain ⟨v, h1, h2⟩ := resOf_ok (P := P) s h
 exact ⟨v, by simp [results_eq, arr _ hl, h1], h2⟩
 rename_i r q hl
 split at h
 rename_i x y hx hy
 simp only [Option.some.injEq] at h
 subst h
 obtain ⟨v, h1, h2⟩ := resOf_ok (P := P) s hx
 obtain ⟨v', h3, h4⟩ := resOf_ok (P := P) s hy
 exact ⟨.tuple #[v, v'], by simp [results_eq, arr _ hl, h1, h3], tup [v, v'] _ (one _ _ _ _ h2 (one _ _ _ _ h4 RLl_nil))⟩
 cases h
 rename_i r q p hl
 split at h
 rename_i x y z hx hy hz
 simp only [Option.some.injEq] at h
 subst h
 obtain ⟨v, h1, h2⟩ := resOf_ok (P := P) s hx
 obtain ⟨v', h3, h4⟩ := resOf_ok (P := P) s hy
 obtain ⟨v'', h5, h6⟩ := resOf_ok (P := P) s hz
 exact ⟨.tuple #[v, v', v''], by simp [results_eq, arr _ hl, h1, h3, h5], tup [v, v', v''] _ (one _ _ _ _ h2 (one _ _ _ _ h4 (one _ _ _ _ h6 RLl_nil)))⟩
 cases h
 cases h
def retOk (P : Program) (fn : Func) (T : TL) (B : BL) (del : List Nat) : COut → Prop
 | .val r => (resA P fn (lkp T) (lkp B)).map (fun x => fit2 (frz2 (lkp B) del x) r) = some r ∧ keysA r = []
 | .own e τ xs => (∃ b, resA P fn (lkp T) (lkp B) = some (.own b) ∧ lkp B b = some (.sl e τ xs)) ∨ (resA P fn (lkp T) (lkp B) = some nilv ∧ xs = [])
 | .thr _ => False
theorem ret_ok {fn : Func} {fz : Nat → Prop} {T : TL} {B : BL} {out : COut} (del : List Nat) (hs : SimL N w0 (noO fz) T B a w) (h : retOk P fn T B del out) : FnQ P fn w0 (noO fz) out .ret a w := by
 obtain ⟨η, s⟩ := hs
 have hbel : Below w0.heap.size w0 w := s.frame.below (fun _ h => h)
 have amb : ∀ k, Amb w0 (noO fz) k → fz k ∨ w0.heap.size ≤ k := fun k hk => by
  rcases hk with h | h | h
  exact .inl h
  exact h.elim
  exact .inr h
 cases out with
 | val r =>
  obtain ⟨h1, h2⟩ := h
  rw [Option.map_eq_some_iff] at h1
  obtain ⟨x, hx, hr⟩ := h1
  obtain ⟨v, hrun, hR⟩ := resA_ok s hx
  refine ⟨s.nod, v, hrun, ⟨v, rfl, ?_⟩, hbel⟩
  have h3 := R_fit2 (b := r) (R_frz2 s hR del)
  rw [hr] at h3
  exact h3.step (Nat.le_refl _) (fun _ _ _ => rfl) (fun k hk _ => amb k hk.1) (fun b u hb _ => by rw [ment_none h2] at hb; cases hb)
 | own e τ xs =>
  rcases h with ⟨b, h1, h2⟩ | ⟨h1, rfl⟩
  obtain ⟨v, hrun, hR⟩ := resA_ok s h1
  obtain ⟨u, hu, cs, q1, q2⟩ := s.dom b _ h2
  have hv := hR.own_inv hu
  subst hv
  refine ⟨s.nod, v, hrun, ⟨v, rfl, fun k hk => ?_, cs, q1, fun i x j y hx hy => ?_⟩, hbel⟩
  obtain ⟨h3, h4⟩ := s.new b v k hu hk
  exact ⟨h4.resolve_right (fun h => h), h3⟩
  obtain ⟨vv, h3, h4⟩ := q2 i x j y hx hy
  exact ⟨vv, h3, h4.step (Nat.le_refl _) (fun _ _ _ => rfl) (fun k hk _ => ⟨amb k hk.1, fun he => hk.2 b v hu he⟩) (fun b u hb _ => by rw [enc_ment' hy] at hb; cases hb)⟩
  obtain ⟨v, hrun, hR⟩ := resA_ok s h1
  have hv := hR.lit_inv
  subst hv
  exact ⟨s.nod, _, hrun, ⟨_, rfl, fun k hk => by simp [blk] at hk, [], World.ownsRow_nil w 0 e _, fun i x j y hx => by simp at hx⟩, hbel⟩
 | thr v => exact h.elim
theorem norm_ok {fn : Func} {fz : Nat → Prop} {T : TL} {B : BL} {out : COut} (del : List Nat) (hs : SimL N w0 (noO fz) T B a w) (h : retOk P fn T B del out) : FnQ P fn w0 (noO fz) out .normal a w := ret_ok del hs h
theorem thr_ok {fn : Func} {fz : Nat → Prop} {T : TL} {B : BL} {v : Value} (hs : SimL N w0 (noO fz) T B a w) : FnQ P fn w0 (noO fz) (.thr v) (.panic [{ v, recovered := false }]) a w := by
 obtain ⟨η, s⟩ := hs
 exact ⟨s.nod, rfl, s.frame.below (fun _ h => h)⟩
end
@[reducible] def ba (l : List UInt8) : ByteArray := ⟨l.toArray⟩
@[reducible] def bitsOr (k : IntKind) (x y : Int) : Int := k.wrap (BitVec.ofInt k.bits x ||| BitVec.ofInt k.bits y).toNat
@[reducible] def bitsAnd (k : IntKind) (x y : Int) : Int := k.wrap (BitVec.ofInt k.bits x &&& BitVec.ofInt k.bits y).toNat
def okArgs (l : List AV) : Prop := l = l
theorem inR64 {n : Int} (h0 : -9223372036854775808 ≤ n) (h1 : n ≤ 9223372036854775807) : InR .i64 n := by
 exact IntWalk.i64_in _ ⟨by omega, by omega⟩
section
variable {P : Program} {w0 : World} {ow : Own} {N : Nat} {a : Act} {w : World} {Q : Exit → Act → World → Prop} {K : Act → World → Prop} {id j : Nat} {ch : List PanicEntry}
theorem then_norm (h : K a w) : Exit.then K Q .normal a w := h
theorem then_ret (h : Q .ret a w) : Exit.then K Q .ret a w := h
theorem then_exit (h : Q (.exit id) a w) : Exit.then K Q (.exit id) a w := h
theorem then_thr (h : Q (.panic ch) a w) : Exit.then K Q (.panic ch) a w := h
theorem inb_norm (h : Q .normal a w) : Exit.inBlock id Q .normal a w := h
theorem inb_ret (h : Q .ret a w) : Exit.inBlock id Q .ret a w := h
theorem inb_thr (h : Q (.panic ch) a w) : Exit.inBlock id Q (.panic ch) a w := h
theorem inb_hit (h : Q .normal a w) : Exit.inBlock id Q (.exit id) a w := by simpa [Exit.inBlock] using h
theorem FnQ_cast {fn : Func} {out out' : COut} {e : Exit} (h : out = out') (hq : FnQ P fn w0 ow out e a w) : FnQ P fn w0 ow out' e a w := h ▸ hq
theorem cond_L {T : TL} {B : BL} {c : Nat} {x y : Code} {b : Bool} (hs : SimL N w0 ow T B a w) (he : lkp T c = some (.lit (.bool b))) (ht : b = true → x.wp P Q a w) (hf : b = false → y.wp P Q a w) : (Code.cond (.tmp c) x y).wp P Q a w := by
 obtain ⟨η, s⟩ := hs
 have hv := (s.ev (x := .tmp c) he).lit_inv
 exact wp_cond_split hv ht hf
theorem wp_cut {x y : Code} {T : TL} {B : BL} (F : Prop) (h1 : x.wp P (Exit.then (fun a w => F ∧ SimL N w0 ow T B a w) Q) a w) (h2 : F → ∀ a w, SimL N w0 ow T B a w → y.wp P Q a w) : (Code.seq x y).wp P Q a w :=
 wp_seq (wp_mono h1 (fun e a w he => by cases e <;> first | exact h2 he.1 _ _ he.2 | exact he))
end
def okBxs (l : List (Option Box)) : Prop := l = l
def ciA (f : FuncId) (args : List AV) (snap del : List Nat) (out : COut) : CI := { f, args, snap, del, out }
def ciB (f : FuncId) (args : List AV) (del : List Nat) (out : COut) (bi bo : BL) (ρ : List (Nat × Nat)) : CI := { f, args, snap := [], del, out, bi, bo, ρ }
def FnQB (P : Program) (fn : Func) (w0 : World) (fz : Nat → Prop) (η : Nat → Option Value) (bi : BL) (out : COut) (bo : BL) : Exit → Act → World → Prop := bodyPost P fn (fun e w' => PostB w0 fz η bi w' e out bo)
section
variable {P : Program} {I : World → Prop} {w w' w0 : World} {fz fz' : Nat → Prop} {η η' : Nat → Option Value} {N : Nat} {T : TL} {B : BL} {a : Act}
theorem BoxR_up {u : Value} {X : Box} (hf : ∀ k, fz k → k < w.heap.size → fz' k) (hη : ∀ b u, mentB b X = true → η' b = some u → η b = some u) (h : BoxR w fz η u X) : BoxR w fz' η' u X := by
 cases X with
 | any => exact h
 | var l =>
  obtain ⟨g, C, e, rfl, q1, q2, q3⟩ := h
  exact ⟨g, C, e, rfl, q1, q2, fun j v x hv hx => (q3 j v x hv hx).step (Nat.le_refl _) (fun _ _ _ => rfl) hf (fun b u hb hu => hη b u (mentL_of hx hb) hu)⟩
 | sl e τ xs =>
  obtain ⟨cs, q1, q2⟩ := h
  refine ⟨cs, q1, fun i x j y hx hy => ?_⟩
  obtain ⟨v, hv, hr⟩ := q2 i x j y hx hy
  exact ⟨v, hv, hr.step (Nat.le_refl _) (fun _ _ _ => rfl) hf (fun b u hb _ => by rw [enc_ment' hy] at hb; cases hb)⟩
 | full e τ xs =>
  obtain ⟨⟨cs, q1, q2⟩, qc⟩ := h
  refine ⟨⟨cs, q1, fun i x j y hx hy => ?_⟩, qc⟩
  obtain ⟨v, hv, hr⟩ := q2 i x j y hx hy
  exact ⟨v, hv, hr.step (Nat.le_refl _) (fun _ _ _ => rfl) hf (fun b u hb _ => by rw [enc_ment' hy] at hb; cases hb)⟩
theorem con_ofB {f : FuncId} {fn : Func} {c : Code} {args : List AV} {bi bo : BL} {out : COut} (hf : P.funcs[f]? = some fn) (hb : fn.body = some c) (hN : args.length ≤ fn.ntmps) (hk : (bi.map (·.1)).all (· < 1000) = true)
  (h : ∀ (w0 : World) (fz : Nat → Prop) (η : Nat → Option Value) (a : Act), (∀ w', Fr (ownB fz η) w0 w' → I w') → SimL fn.ntmps w0 (ownB fz η) (num 0 args) bi a w0 → c.wp P (FnQB P fn w0 fz η bi out bo) a w0) : ConB P I f args bi out bo := by
 intro w fz η vs hI hfz hd hbx hnew hap hR
 have hun : ∀ k, fz k → k < w.heap.size → Fz (Amb w (ownB fz η)) η k := fun k h1 _ => ⟨.inl h1, fun b u hb hk => (hnew b u k hb hk).2 h1⟩
 refine calls_of_wp hf hb (h w fz η _ hI ⟨η, ?_⟩)
 refine ⟨?_, rfl, Fr.refl _ _, fun t av ht => ?_, fun b B h => ?_, fun b u k h1 h2 => ⟨(hnew b u k h1 h2).1, .inr ⟨b, u, h1, h2⟩⟩, hap, fun b u u' h1 h2 => ?_, fun b u h => ?_⟩
 ·have := hR.1; simp; omega
 ·obtain ⟨_, h1⟩ := num_at ht
  rw [Nat.sub_zero] at h1
  have hlt : t < vs.size := by have := (List.getElem?_eq_some_iff.1 h1).1; have := hR.1; omega
  refine ⟨vs[t], ?_, ?_⟩
  ·show (vs ++ Array.replicate (fn.ntmps - vs.size) undef)[t]? = some vs[t]
   rw [Array.getElem?_append_left hlt]; exact Array.getElem?_eq_getElem hlt
  ·exact (hR.2 t _ av (Array.getElem?_eq_getElem hlt) h1).step (Nat.le_refl _) (fun _ _ _ => rfl) hun (fun b u _ h => h)
 ·obtain ⟨u, hu, hr⟩ := hbx b B h
  exact ⟨u, hu, BoxR_up hun (fun _ _ _ h => h) hr⟩
 ·have h1' : η b = some u := h1
  rw [h2] at h1'; injection h1'
 ·obtain ⟨X, hX⟩ := Option.isSome_iff_exists.1 (hd b u h)
  have := List.all_eq_true.1 hk b (List.mem_map.2 ⟨(b, X), lkp_mem hX, rfl⟩)
  simpa using this
theorem ownB_of {bi bo : BL} {out : COut} {e : Ending} (s : Sim N w0 (ownB fz η) η' (lkp T) (lkp bo) a w)
  (ho : ∀ η2 : Nat → Option Value, (∀ b, η2 b = if (lkp bo b).isSome then η' b else none) → (∀ v x, (∀ b, ment b x = true → (lkp bo b).isSome = true) → R w (Fz (Amb w0 (ownB fz η)) η') η' v x → R w (FzB w0 fz η η2) η2 v x) → OutB w (FzB w0 fz η η2) η2 e out) : PostB w0 fz η bi w e out bo := by
 refine ⟨⟨s.frame.os, s.frame.tape, s.frame.output, s.frame.size, fun k hk hn => s.frame.block k hk hn⟩, .inr ?_⟩
 obtain ⟨η2, h2⟩ : ∃ η2 : Nat → Option Value, ∀ b, η2 b = if (lkp bo b).isSome then η' b else none := ⟨_, fun _ => rfl⟩
 have sub : ∀ b u, η2 b = some u → (lkp bo b).isSome = true ∧ η' b = some u := fun b u h => by
  rw [h2] at h
  split at h
  ·rename_i hb; exact ⟨hb, h⟩
  ·cases h
 have hf : ∀ k, Fz (Amb w0 (ownB fz η)) η' k → k < w.heap.size → FzB w0 fz η η2 k := fun k hk _ => by
  refine ⟨?_, fun b u hb => hk.2 b u (sub b u hb).2⟩
  rcases hk.1 with h1 | h1 | h1
  ·exact .inl h1
  ·exact .inr (.inr h1)
  ·exact .inr (.inl h1)
 refine ⟨η2, fun b u h => (sub b u h).1, fun b _ u u' h1 h3 => s.pin b u u' h1 (sub b u' h3).2, fun b u k h1 h3 => s.new b u k (sub b u h1).2 h3, fun b b' u u' k h1 h3 => s.apart b b' u u' k (sub b u h1).2 (sub b' u' h3).2, fun b X hX => ?_, ho η2 h2 (fun v x _ hR => hR.step (Nat.le_refl _) (fun _ _ _ => rfl) hf (fun b u _ h => (sub b u h).2))⟩
 obtain ⟨u, hu, hr⟩ := s.dom b X hX
 exact ⟨u, by rw [h2, hX]; exact hu, BoxR_up hf (fun b u _ h => (sub b u h).2) hr⟩
theorem SimL.nil {ow : Own} (hs : SimL N w0 ow T B a w) (k t : Nat) (e : TypeId) (τ : Ty) (ht : lkp T t = some nilv) (hk : 1000 ≤ k) (hT : T.all (fun p => !(keysA p.2).contains k) = true) (hB : B.all (fun p => !(keysB p.2).contains k) = true) : SimL N w0 ow ((t, .own k) :: T) ((k, .sl e τ []) :: B) a w := by
 obtain ⟨η, s⟩ := hs
 have hf : Fresh k (lkp T) (lkp B) := ⟨fun t av h => by
   cases hm : ment k av with
   | false => rfl
   | true => have := List.all_eq_true.1 hT (t, av) (lkp_mem h); simp at this; exact absurd (mem_keysA av hm) this, fun b X h => by
   cases hm : mentB k X with
   | false => rfl
   | true => have := List.all_eq_true.1 hB (b, X) (lkp_mem h); simp at this; exact absurd (mem_keysB hm) this, hk⟩
 obtain ⟨tr, hs2⟩ := s.grow (w' := w) (B := .sl e τ []) (v := .slice none 0 0) (del := []) (row := none) hf ⟨rfl, rfl, rfl, Nat.le_refl _, fun _ _ _ => rfl⟩ (.inl rfl) (fun k hk => by simp [blk] at hk)
 have s2 := hs2 ⟨[], World.ownsRow_nil w 0 e _, fun i x j y hx => by simp at hx⟩
 obtain ⟨v, hv, hR⟩ := s.tmp t _ ht
 have hvn := hR.lit_inv
 have hb : updB (lkp B) [] [(k, .sl e τ [])] = lkp ((k, .sl e τ []) :: B) := by
  funext c
  simp only [updB, lkp]
  by_cases hc : c = k
  ·simp [hc]
  ·simp [hc]
 rw [hb] at s2
 refine ⟨_, s2.size, s2.nod, s2.frame, fun t' av h => ?_, s2.dom, s2.new, s2.apart, s2.pin, s2.pinlt⟩
 simp only [lkp] at h
 split at h
 ·rename_i he
  simp only [Option.some.injEq] at h
  subst h he
  exact ⟨v, hv, .own _ _ (fun u hu => by simp [setη] at hu; rw [hvn, ← hu])⟩
 ·exact s2.tmp t' av h
theorem SimL.nilB {ow : Own} (hs : SimL N w0 ow T B a w) (k b j : Nat) (e : TypeId) (τ : Ty) (l : List AV) (hb : lkp B b = some (.var l)) (hl : l[j]? = some nilv) (hbk : b ≠ k) (hk : 1000 ≤ k) (hT : T.all (fun p => !(keysA p.2).contains k) = true) (hB : B.all (fun p => !(keysB p.2).contains k) = true) : SimL N w0 ow T ((b, .var (l.set j (.own k))) :: (k, .sl e τ []) :: B) a w := by
 obtain ⟨η, s⟩ := hs
 have hf : Fresh k (lkp T) (lkp B) := ⟨fun t av h => by
   cases hm : ment k av with
   | false => rfl
   | true => have := List.all_eq_true.1 hT (t, av) (lkp_mem h); simp at this; exact absurd (mem_keysA av hm) this, fun b X h => by
   cases hm : mentB k X with
   | false => rfl
   | true => have := List.all_eq_true.1 hB (b, X) (lkp_mem h); simp at this; exact absurd (mem_keysB hm) this, hk⟩
 obtain ⟨tr, hs2⟩ := s.grow (w' := w) (B := .sl e τ []) (v := .slice none 0 0) (del := []) (row := none) hf ⟨rfl, rfl, rfl, Nat.le_refl _, fun _ _ _ => rfl⟩ (.inl rfl) (fun k hk => by simp [blk] at hk)
 have s2 := hs2 ⟨[], World.ownsRow_nil w 0 e _, fun i x j y hx => by simp at hx⟩
 have hb2 : updB (lkp B) [] [(k, .sl e τ [])] = lkp ((k, .sl e τ []) :: B) := by
  funext c
  simp only [updB, lkp]
  by_cases hc : c = k
  ·simp [hc]
  ·simp [hc]
 rw [hb2] at s2
 refine ⟨_, s2.size, s2.nod, s2.frame, s2.tmp, fun c X h => ?_, s2.new, s2.apart, s2.pin, s2.pinlt⟩
 rw [lkp] at h
 split at h
 ·rename_i he
  simp only [Option.some.injEq] at h
  subst h he
  obtain ⟨u, hu, hr⟩ := s2.dom c (.var l) (by simp only [lkp]; rw [if_neg hbk]; exact hb)
  obtain ⟨g, C, ee, rfl, q1, q2, q3⟩ := hr
  refine ⟨_, hu, g, C, ee, rfl, q1, by rw [List.length_set]; exact q2, fun i v x hv hx => ?_⟩
  rw [List.getElem?_set] at hx
  split at hx
  ·rename_i hij
   subst hij
   split at hx
   ·simp only [Option.some.injEq] at hx
    subst hx
    have hvn := (q3 j v _ hv hl).lit_inv
    exact .own _ _ (fun u hu => by simp [setη] at hu; rw [hvn, ← hu])
   ·cases hx
  ·exact q3 i v x hv hx
 ·exact s2.dom c X h
theorem ret_okB {fn : Func} {bi : BL} {r : AV} (bo : BL) (hs : SimL N w0 (ownB fz η) T bo a w) (h : resA P fn (lkp T) (lkp bo) = some r) (hk : (keysA r).all (fun b => (lkp bo b).isSome) = true) : FnQB P fn w0 fz η bi (.val r) bo .ret a w := by
 obtain ⟨η', s⟩ := hs
 obtain ⟨v, hrun, hR⟩ := resA_ok s h
 refine ⟨s.nod, v, hrun, ownB_of s (fun η2 _ hup => ⟨v, rfl, hup v r (fun b hb => ?_) hR⟩)⟩
 exact List.all_eq_true.1 hk b (mem_keysA r hb)
theorem norm_okB {fn : Func} {bi : BL} {r : AV} (bo : BL) (hs : SimL N w0 (ownB fz η) T bo a w) (h : resA P fn (lkp T) (lkp bo) = some r) (hk : (keysA r).all (fun b => (lkp bo b).isSome) = true) : FnQB P fn w0 fz η bi (.val r) bo .normal a w := ret_okB bo hs h hk
theorem ng_ret {Q : Exit → Act → World → Prop} (h : Q .ret a w) : Exit.noGoto Q .ret a w := h
theorem FnQB_cast {fn : Func} {bi bo bo' : BL} {out out' : COut} {e : Exit} (h : out = out') (h' : bo = bo') (hq : FnQB P fn w0 fz η bi out bo e a w) : FnQB P fn w0 fz η bi out' bo' e a w := h ▸ h' ▸ hq
theorem Con.frz {f : FuncId} {args : List AV} {e : TypeId} {τ : Ty} {xs : List (El τ)} (h : Con P I f args (.own e τ xs)) : Con P I f args (.val (.row τ xs)) := by
 intro w fz vs hI hfz hR
 refine (h w fz vs hI hfz hR).mono ?_
 rintro en w' ⟨⟨v, rfl, hb, cs, ho, hel⟩, hbel⟩
 refine ⟨⟨v, rfl, ?_⟩, hbel⟩
 rcases ho.2 with ⟨rfl, h0⟩ | ⟨g, cap, cur, rfl, q0, q1, q2, q3, _⟩
 have : xs = [] := by cases xs; rfl; simp at h0
 subst this
 exact .nil τ
 obtain ⟨hge, hlt⟩ := hb g rfl
 refine .row_mk q2 q3 (fun i x hx => ⟨⟨g, 0, none⟩, rfl, .inr hge, hlt, fun j y hy => ?_⟩)
 obtain ⟨vv, hv, hrr⟩ := hel i x j y hx hy
 exact ⟨vv, ho.cells rfl _ _ hv, hrr.step (Nat.le_refl _) (fun _ _ _ => rfl) (fun k hk _ => hk.1) (fun b u _ hu => hu)⟩
theorem SimL.isNil {ow : Own} (hs : SimL N w0 ow T B a w) (t : Nat) (τ : Ty) (xs : List (El τ)) (ht : lkp T t = some (.row τ xs)) : ∃ b : Bool, (b = true → xs = []) ∧ SimL N w0 ow ((t, .rown τ xs b) :: T) B a w := by
 obtain ⟨η, s⟩ := hs
 obtain ⟨v, hv, hr⟩ := s.tmp t _ ht
 obtain ⟨A, c, rfl, hc, hm, hel⟩ := hr.row_inv
 refine ⟨A.isNone, fun hb => ?_, η, ⟨s.size, s.nod, s.frame, fun k av hk => ?_, s.dom, s.new, s.apart, s.pin, s.pinlt⟩⟩
 cases xs with
 | nil => rfl
 | cons x xs =>
  obtain ⟨ad, hA, _⟩ := hel 0 x rfl
  rw [hA] at hb; cases hb
 simp only [lkp] at hk
 split at hk
 rename_i e
 simp only [Option.some.injEq] at hk
 subst hk e
 exact ⟨_, hv, .rown A c τ xs hr⟩
 exact s.tmp k av hk
end
end Go.Proofs.YtondpnipoogoiaaGreatDoor.F
namespace Go.Proofs.YtondpnipoogoiaaGreatDoor.X
open Go.ChangeShapes Go.WideShapes Go.ChangeAt Go.RowKit
theorem laidOut : laidOutB Tryz.prog = true := by kernel_rfl
theorem open_rowI {H : Type} {enc : TypeId × Value → H} {W : World} {base : Nat} {v : Value} {d : DataW H} {p : List MemPlace} (hv : Value.okWide Tryz.prog W .any base 22 v) (h : DataW.Trod enc Tryz.prog W 0 (fun _ => true) true 22 v d p) :
  ∃ l : List Int, Go.Proofs.YtondpnipoogoiaaGreatDoor.F.R W (fun k => k < W.heap.size) Go.Proofs.YtondpnipoogoiaaGreatDoor.F.noη v (.row (.int .i64) l) := by
 obtain ⟨m, hm⟩ := h
 obtain ⟨a0, n0, c0, rfl⟩ := Go.WideShapes.okWide_slice Tryz.underlying22 hv
 have one : ∀ a n c, (Value.slice a0 n0 c0).cells.toList = [.slice a n c] → Value.slice a0 n0 c0 = .slice a n c := fun a n c h => by have h' : [Value.slice a0 n0 c0] = [.slice a n c] := h; exact (List.cons.inj h').1
 rcases Go.ChangeShapes.open_ints Tryz.underlying22 Tryz.underlying3 (by kernel_rfl) hm with ⟨hcs, _⟩ | ⟨x, len, cap, zs, hcs, _, hl, hm', hz, _, hcell, hwz⟩
 ·rw [one _ _ _ hcs]
  exact ⟨[], Go.Proofs.YtondpnipoogoiaaGreatDoor.F.R.row_mk (τ := .int .i64) (xs := ([] : List Int)) (Nat.le_refl _) (by decide) (fun i x hx => by simp at hx)⟩
 ·rw [one _ _ _ hcs]
  have hz' : zs.length = cap := hz
  have hlen : (zs.take len).length = len := by rw [List.length_take]; omega
  refine ⟨zs.take len, ?_⟩
  have := Go.Proofs.YtondpnipoogoiaaGreatDoor.F.R.row_mk (w := W) (fz := fun k => k < W.heap.size) (η := Go.Proofs.YtondpnipoogoiaaGreatDoor.F.noη) (A := some x) (c := cap) (τ := .int .i64) (xs := zs.take len) (by rw [hlen]; exact hl) hm' (fun i y hy => ?_)
  ·rw [hlen] at this; exact this
  ·have hi : i < len := by have := (List.getElem?_eq_some_iff.1 hy).1; rwa [hlen] at this
   rw [List.getElem?_take, if_pos hi] at hy
   have hiz : i < zs.length := (List.getElem?_eq_some_iff.1 hy).1
   have hc := hcell i hiz
   have hg : zs.getD i 0 = y := by rw [List.getD_eq_getElem?_getD, hy]; rfl
   rw [hg] at hc
   have hb : x.block < W.heap.size := by
    have h9 := World.block_lt_of_cell? W _ (hcell 0 (by omega))
    rwa [Go.Proofs.YtondpnipoogoiaaGreatDoor.F.add_block] at h9
   refine ⟨x, rfl, hb, hb, fun j a ha => ?_⟩
   rcases j with _ | j
   ·simp only [Go.Proofs.YtondpnipoogoiaaGreatDoor.F.enc, List.getElem?_cons_zero, Option.some.injEq] at ha
    subst ha
    exact ⟨_, by simpa [Go.Proofs.YtondpnipoogoiaaGreatDoor.F.sz] using hc, .lit _⟩
   ·simp [Go.Proofs.YtondpnipoogoiaaGreatDoor.F.enc] at ha
end Go.Proofs.YtondpnipoogoiaaGreatDoor.X
namespace Go.Proofs.YtondpnipoogoiaaGreatDoor.F
open Go Go.RowKit
def rd (l : List Int) (i : Int) : Int := l.getD i.toNat 0
def trimF (l : List Int) : List Int := (l.reverse.dropWhile (· == 0)).reverse
theorem trimF_nil : trimF [] = [] := rfl
theorem trimF_snoc (l : List Int) (x : Int) : trimF (l ++ [x]) = if x = 0 then trimF l else l ++ [x] := by
 unfold trimF
 by_cases h : x = 0 <;> simp [h]
theorem take_snoc' (l : List Int) (m : Nat) (h : m < l.length) : l.take (m + 1) = l.take m ++ [rd l m] := by
 rw [List.take_succ_eq_append_getElem h]
 simp [rd, h]
theorem getD_rd (l : List Int) (n : Nat) : l.getD n (dflt (.int .u32)) = rd l n := rfl
theorem trimF_zero {l : List Int} {n : Nat} (h : n < l.length) (hz : l.getD n (dflt (.int .u32)) = 0) : trimF (l.take (n + 1)) = trimF (l.take n) := by
 rw [take_snoc' l n h, trimF_snoc, if_pos (by rw [← getD_rd]; exact hz)]
theorem trimF_stop {l : List Int} {n : Nat} (h : n < l.length) (hz : l.getD n (dflt (.int .u32)) ≠ 0) : trimF (l.take (n + 1)) = l.take (n + 1) := by
 rw [take_snoc' l n h, trimF_snoc, if_neg (by rw [← getD_rd]; exact hz)]
def Ok (l : List Int) : Prop := ∀ x ∈ l, 0 ≤ x ∧ x < 4294967296
def val : List Int → Nat
 | [] => 0
 | x :: l => x.toNat + 4294967296 * val l
def lim (n : Nat) : List Int := if n = 0 then [] else ((n % 4294967296 : Nat) : Int) :: lim (n / 4294967296)
termination_by n
decreasing_by omega
theorem Ok.nil : Ok [] := fun x hx => by simp at hx
theorem Ok.cons {x : Int} {l : List Int} (h0 : 0 ≤ x) (h1 : x < 4294967296) (h : Ok l) : Ok (x :: l) := fun y hy => by
 rcases List.mem_cons.1 hy with rfl | hy
 exact ⟨h0, h1⟩
 exact h y hy
theorem Ok.head {x : Int} {l : List Int} (h : Ok (x :: l)) : 0 ≤ x ∧ x < 4294967296 := h x (by simp)
theorem Ok.tail {x : Int} {l : List Int} (h : Ok (x :: l)) : Ok l := fun y hy => h y (by simp [hy])
theorem Ok.append {a b : List Int} (ha : Ok a) (hb : Ok b) : Ok (a ++ b) := fun x hx => by
 rcases List.mem_append.1 hx with h | h
 exact ha x h
 exact hb x h
theorem Ok.take {a : List Int} (h : Ok a) (n : Nat) : Ok (a.take n) := fun x hx => h x (List.mem_of_mem_take hx)
theorem Ok.drop {a : List Int} (h : Ok a) (n : Nat) : Ok (a.drop n) := fun x hx => h x (List.mem_of_mem_drop hx)
theorem Ok.set {a : List Int} (h : Ok a) (n : Nat) {x : Int} (h0 : 0 ≤ x) (h1 : x < 4294967296) : Ok (a.set n x) := fun y hy => by
 rcases List.mem_or_eq_of_mem_set hy with hy | rfl
 exact h y hy
 exact ⟨h0, h1⟩
theorem Ok.rep (n : Nat) : Ok (List.replicate n 0) := fun x hx => by
 obtain rfl := List.eq_of_mem_replicate hx
 omega
theorem Ok.rdk {l : List Int} (h : Ok l) (i : Int) : 0 ≤ rd l i ∧ rd l i < 4294967296 := by
 unfold rd
 rw [List.getD_eq_getElem?_getD]
 rcases Nat.lt_or_ge i.toNat l.length with hi | hi
 rw [List.getElem?_eq_getElem hi]
 exact h _ (List.getElem_mem hi)
 rw [List.getElem?_eq_none hi]
 simp
theorem lim_zero : lim 0 = [] := by unfold lim; simp
theorem lim_pos {n : Nat} (h : n ≠ 0) : lim n = ((n % 4294967296 : Nat) : Int) :: lim (n / 4294967296) := by rw [lim, if_neg h]
theorem lim_ok (n : Nat) : Ok (lim n) := by
 induction n using Nat.strongRecOn with
 | _ n ih =>
  by_cases h : n = 0
  subst h; rw [lim_zero]; exact Ok.nil
  rw [lim_pos h]
  exact Ok.cons (by omega) (by omega) (ih _ (by omega))
theorem val_lim (n : Nat) : val (lim n) = n := by
 induction n using Nat.strongRecOn with
 | _ n ih =>
  by_cases h : n = 0
  subst h; rw [lim_zero]; rfl
  rw [lim_pos h, val, ih _ (by omega)]
  omega
theorem lim_nil_iff (n : Nat) : lim n = [] ↔ n = 0 := by
 constructor
 intro h
 have := val_lim n
 rw [h] at this
 exact this.symm
 rintro rfl
 exact lim_zero
theorem lim_len_zero (n : Nat) : (lim n).length = 0 ↔ n = 0 := by rw [List.length_eq_zero_iff, lim_nil_iff]
theorem val_append (a b : List Int) : val (a ++ b) = val a + 4294967296 ^ a.length * val b := by
 induction a with
 | nil => simp [val]
 | cons x a ih => simp only [List.cons_append, val, ih, List.length_cons, Nat.pow_succ]; grind
theorem val_lt {l : List Int} (h : Ok l) : val l < 4294967296 ^ l.length := by
 induction l with
 | nil => simp [val]
 | cons x l ih =>
  have := ih h.tail
  have := h.head
  simp only [val, List.length_cons, Nat.pow_succ]
  omega
theorem trim_lim {l : List Int} (h : Ok l) : trimF l = lim (val l) := by
 have key : ∀ (n : Nat) (l : List Int), l.length = n → Ok l → trimF l = lim (val l) := by
  intro n
  induction n with
  | zero =>
   intro l hl _
   obtain rfl := List.eq_nil_of_length_eq_zero hl
   simp [trimF_nil, val, lim_zero]
  | succ n ih =>
   intro l hl hok
   rcases List.eq_nil_or_concat l with rfl | ⟨l', x, rfl⟩
   simp at hl
   rw [List.concat_eq_append] at hl hok ⊢
   have hx := hok x (by simp)
   have hok' : Ok l' := fun y hy => hok y (by simp [hy])
   rw [trimF_snoc]
   by_cases h0 : x = 0
   subst h0
   rw [if_pos rfl, ih l' (by simpa using hl) hok', val_append]
   simp [val]
   rw [if_neg h0]
   have key2 : ∀ (l' : List Int), Ok l' → l' ++ [x] = lim (val (l' ++ [x])) := by
    intro l'
    induction l' with
    | nil =>
     intro _
     have : x.toNat ≠ 0 := by omega
     simp only [List.nil_append, val, Nat.mul_zero, Nat.add_zero]
     rw [lim_pos this, Nat.mod_eq_of_lt (by omega), Nat.div_eq_of_lt (by omega), lim_zero]
     congr 1
     omega
    | cons y l' ih2 =>
     intro hok
     have hy := hok.head
     have ih3 := ih2 hok.tail
     have hv : val (l' ++ [x]) ≠ 0 := by
      intro hz
      rw [hz, lim_zero] at ih3
      simp at ih3
     simp only [List.cons_append, val]
     rw [lim_pos (by omega), show (y.toNat + 4294967296 * val (l' ++ [x])) % 4294967296 = y.toNat by omega, show (y.toNat + 4294967296 * val (l' ++ [x])) / 4294967296 = val (l' ++ [x]) by omega, ← ih3]
     congr 1
     omega
   exact key2 l' hok'
 exact key _ l rfl h
theorem lim_trim (n : Nat) : trimF (lim n) = lim n := by rw [trim_lim (lim_ok n), val_lim]
theorem lim_len_le {n k : Nat} (h : n < 4294967296 ^ k) : (lim n).length ≤ k := by
  induction k generalizing n with
  | zero => have : n = 0 := by omega
            subst this; simp [lim_zero]
  | succ k ih =>
    by_cases h0 : n = 0
    · subst h0; simp [lim_zero]
    · rw [lim_pos h0, List.length_cons]
      have := ih (n := n / 4294967296) (by rw [Nat.pow_succ] at h; omega)
      omega
theorem val_drop {l : List Int} {m : Nat} (h : m < l.length) : val (l.drop m) = (rd l m).toNat + 4294967296 * val (l.drop (m + 1)) := by
 rw [List.drop_eq_getElem_cons h, val]
 congr 2
 simp [rd, h]
theorem val_take_drop (l : List Int) (m : Nat) (h : m ≤ l.length) : val l = val (l.take m) + 4294967296 ^ m * val (l.drop m) := by
 have := val_append (l.take m) (l.drop m)
 rw [List.take_append_drop, List.length_take, Nat.min_eq_left h] at this
 exact this
theorem rd_ge {l : List Int} {i : Int} (h : (l.length : Int) ≤ i) : rd l i = 0 := by
 unfold rd
 rw [List.getD_eq_getElem?_getD, List.getElem?_eq_none (by omega)]
 rfl
def tz (n : Nat) : Nat × Nat := if n = 0 then (0, 0) else if n % 10 = 0 then ((tz (n / 10)).1, (tz (n / 10)).2 + 1) else (n, 0)
termination_by n
decreasing_by all_goals omega
theorem tz_zero : tz 0 = (0, 0) := by rw [tz]; simp
theorem tz_ten {n : Nat} (h : n ≠ 0) (h1 : n % 10 = 0) : tz n = ((tz (n / 10)).1, (tz (n / 10)).2 + 1) := by rw [tz, if_neg h, if_pos h1]
theorem tz_self {n : Nat} (h1 : n % 10 ≠ 0) : tz n = (n, 0) := by rw [tz, if_neg (by omega), if_neg h1]
theorem tz_val (n : Nat) : (tz n).1 * 10 ^ (tz n).2 = n := by
 induction n using Nat.strongRecOn with
 | _ n ih =>
  by_cases h : n = 0
  subst h; rw [tz_zero]; rfl
  by_cases h1 : n % 10 = 0
  rw [tz_ten h h1]
  have := ih (n / 10) (by omega)
  simp only [Nat.pow_succ]
  rw [← Nat.mul_assoc, this]
  omega
  rw [tz_self h1]; simp
theorem tz_mod {n : Nat} (h : n ≠ 0) : (tz n).1 % 10 ≠ 0 := by
 induction n using Nat.strongRecOn with
 | _ n ih =>
  by_cases h1 : n % 10 = 0
  rw [tz_ten h h1]
  exact ih (n / 10) (by omega) (by omega)
  rw [tz_self h1]; exact h1
theorem tz_le (n : Nat) : (tz n).1 ≤ n := by
 have h := tz_val n
 have : 1 ≤ 10 ^ (tz n).2 := Nat.pow_pos (by decide)
 calc (tz n).1 = (tz n).1 * 1 := by rw [Nat.mul_one]
  _ ≤ (tz n).1 * 10 ^ (tz n).2 := Nat.mul_le_mul_left _ this
  _ = n := h
theorem tz_bits (m : Nat) : ∀ n : Nat, n < 2 ^ m → (tz n).2 ≤ m := by
 induction m with
 | zero =>
  intro n h
  obtain rfl : n = 0 := by simpa using h
  rw [tz_zero]; exact Nat.le_refl _
 | succ m ih =>
  intro n h
  by_cases h0 : n = 0
  subst h0; rw [tz_zero]; exact Nat.zero_le _
  by_cases h1 : n % 10 = 0
  rw [tz_ten h0 h1]
  have := ih (n / 10) (by rw [Nat.pow_succ] at h; omega)
  simp only
  omega
  rw [tz_self h1]; exact Nat.zero_le _
theorem tz_limbs {n L : Nat} (h : n < 4294967296 ^ L) : (tz n).2 ≤ 32 * L := by
 refine tz_bits _ n ?_
 rw [Nat.pow_mul]
 exact h
end Go.Proofs.YtondpnipoogoiaaGreatDoor.F
namespace Go.Proofs.YtondpnipoogoiaaGreatDoor.X
open Go.RowKit Go.Proofs.YtondpnipoogoiaaGreatDoor.F
section
variable {H : Type} {enc' : TypeId × Value → H} {W : World}
abbrev rl (W : World) (C : List Value) (l : List AV) : Prop := RLl W (fun k => k < W.heap.size) noη C l
def Opens (enc' : TypeId × Value → H) (W : World) (τ : Ty) (t : TypeId) (Pr : El τ → Prop) (n : Nat) : Prop :=
 ∀ cs x, DataW.trod enc' Tryz.prog W 0 (fun _ => true) true n t cs = some x → ∃ e : El τ, rl W cs (enc τ e) ∧ Pr e
theorem opens_int {k : IntKind} {t : TypeId} (ht : Tryz.prog.underlying t = some (.int k)) (n : Nat) : Opens enc' W (.int k) t (fun e => (Lit.int k e).wf = true) n := by
 intro cs x h
 obtain ⟨m, rfl, _, hw⟩ := DataW.trod_int ht h
 exact ⟨m, RLl_cons.2 ⟨.lit _, RLl_nil⟩, hw⟩
theorem opens_str {t : TypeId} (ht : Tryz.prog.underlying t = some .string) (n : Nat) : Opens enc' W .str t (fun e => e.size ≤ maxLen) n := by
 intro cs x h
 obtain ⟨s, rfl, _, hw⟩ := DataW.trod_string ht h
 exact ⟨s, RLl_cons.2 ⟨.lit _, RLl_nil⟩, hw⟩
theorem list_of {α : Type} {Q : Nat → α → Prop} : ∀ (n : Nat), (∀ i, i < n → ∃ x, Q i x) → ∃ xs : List α, xs.length = n ∧ ∀ i x, xs[i]? = some x → Q i x
 | 0, _ => ⟨[], rfl, fun i x h => by simp at h⟩
 | n + 1, h => by
  obtain ⟨xs, h1, h2⟩ := list_of n (fun i hi => h i (by omega))
  obtain ⟨x, hx⟩ := h n (by omega)
  refine ⟨xs ++ [x], by simp [h1], fun i y hy => ?_⟩
  rw [List.getElem?_append] at hy
  split at hy
  exact h2 i y hy
  rename_i hn
  have : i = n := by
   have := (List.getElem?_eq_some_iff.1 hy).1
   simp at this; omega
  subst this
  rw [h1] at hy
  simp at hy
  subst hy
  exact hx
theorem opens_row {τ : Ty} {t e : TypeId} {Pr : El τ → Prop} {n : Nat} (ht : Tryz.prog.underlying t = some (.slice e)) (hc : Tryz.prog.cellsOf e = sz τ) (ih : ∀ m, m < n → Opens enc' W τ e Pr m) {cs : List Value} {x : DataW H × List MemPlace} (h : DataW.trod enc' Tryz.prog W 0 (fun _ => true) true n t cs = some x) :
  ∃ xs : List (El τ), rl W cs [.row τ xs] ∧ (∀ y ∈ xs, Pr y) ∧ xs.length ≤ maxLen := by
 rcases DataW.trod_slice ht h with ⟨rfl, _⟩ | ⟨a, len, cap, elems, rest, m, rfl, rfl, _, _, hl, hm, he, hel, _⟩
 ·exact ⟨[], RLl_cons.2 ⟨.row none 0 τ [] (fun _ _ => .bool false) (Nat.le_refl _) (Nat.zero_le _) (fun i x h => by simp at h) (fun i x j y h => by simp at h), RLl_nil⟩, fun y h => by simp at h, Nat.zero_le _⟩
 ·rw [hc] at hel
  have one : ∀ i, i < len → ∃ y : El τ, (∃ cs', W.cells? 0 (a.add (i * sz τ)) (sz τ) = some cs' ∧ rl W cs' (enc τ y)) ∧ Pr y := by
   intro i hi
   have h1 := hel i hi
   have hi' : i < elems.length := by omega
   rw [List.getElem?_eq_getElem hi'] at h1
   obtain ⟨cs', hcs, htr⟩ := Option.bind_eq_some_iff.1 h1
   obtain ⟨y, hy, hp⟩ := ih m (Nat.lt_succ_self m) cs' _ htr
   exact ⟨y, ⟨cs', hcs, hy⟩, hp⟩
  obtain ⟨xs, hxl, hxs⟩ := list_of len one
  refine ⟨xs, RLl_cons.2 ⟨?_, RLl_nil⟩, fun y hy => ?_, by omega⟩
  ·rw [← hxl]
   refine R.row_mk (by omega) hm (fun i y hy => ?_)
   obtain ⟨⟨cs', hcs, hr⟩, _⟩ := hxs i y hy
   obtain ⟨_, hcl, hcell⟩ := World.cells?_some hcs
   have hb : a.block < W.heap.size := by
    have := World.cells?_block hcs (sz_pos τ)
    rwa [F.add_block] at this
   refine ⟨a, rfl, hb, hb, fun j b hjb => ?_⟩
   have hj : j < sz τ := by
    have := (List.getElem?_eq_some_iff.1 hjb).1
    rwa [enc_len] at this
   have hj' : j < cs'.length := by omega
   refine ⟨cs'[j], ?_, hr.2 j _ b (List.getElem?_eq_getElem hj') hjb⟩
   have := hcell j hj
   rw [F.add_add] at this
   rw [this, List.getElem?_eq_getElem hj']
  ·obtain ⟨i, hi⟩ := List.mem_iff_getElem?.1 hy
   exact (hxs i y hi).2
theorem opens_bool {t : TypeId} (ht : Tryz.prog.underlying t = some .bool) (n : Nat) : Opens enc' W .bool t (fun _ => True) n := by
 intro cs x h
 obtain ⟨b, rfl, _⟩ := DataW.trod_bool ht h
 exact ⟨b, RLl_cons.2 ⟨.lit _, RLl_nil⟩, trivial⟩
theorem rl_one {C : List Value} {a : AV} (h : rl W C [a]) : ∃ c, C = [c] ∧ R W (fun k => k < W.heap.size) noη c a := by
 obtain ⟨h1, h2⟩ := h
 match C, h1 with
 | [c], _ => exact ⟨c, rfl, h2 0 c a rfl rfl⟩
def OkN (n : Num) : Prop := Ok n.m ∧ n.m.length ≤ maxLen ∧ (Lit.int .i64 n.e).wf = true
theorem got {α : Type} {xs : List α} {i n : Nat} (h : xs.length = n) (hi : i < n) : ∃ y, xs[i]? = some y := ⟨_, List.getElem?_eq_getElem (by omega)⟩
theorem list3 {α : Type} : ∀ {l : List α}, l.length = 3 → ∃ a b c, l = [a, b, c]
 | [a, b, c], _ => ⟨a, b, c, rfl⟩
theorem list8 {α : Type} : ∀ {l : List α}, l.length = 8 → ∃ a b c d e f g h, l = [a, b, c, d, e, f, g, h]
 | [a, b, c, d, e, f, g, h], _ => ⟨a, b, c, d, e, f, g, h, rfl⟩
theorem wf_u32 {y : Int} (h : (Lit.int .u32 y).wf = true) : 0 ≤ y ∧ y < 4294967296 := by
 simp [Lit.wf, IntKind.min, IntKind.max, IntKind.signed, IntKind.bits] at h
 omega
theorem opens_num (n : Nat) : Opens enc' W .num 25 OkN n := by
 intro cs x h
 obtain ⟨xs, m, rfl, _, hl, hx, hf⟩ := DataW.trod_struct Tryz.underlying25 h
 have hl3 : cs.length = 3 := hl.trans (by kernel_rfl)
 have hx3 : xs.length = 3 := hx
 obtain ⟨c0, c1, c2, rfl⟩ : ∃ c0 c1 c2, cs = [c0, c1, c2] := by
  exact list3 hl3
 have k1 : Tryz.prog.cellsOf 4 = 1 := by kernel_rfl
 have k2 : Tryz.prog.cellsOf 23 = 1 := by kernel_rfl
 have k3 : Tryz.prog.cellsOf 3 = 1 := by kernel_rfl
 have h0 : DataW.trod enc' Tryz.prog W 0 (fun _ => true) true m 4 (([c0, c1, c2].drop 0).take (Tryz.prog.cellsOf 4)) = xs[0]? := hf 0 _ rfl
 have h1 : DataW.trod enc' Tryz.prog W 0 (fun _ => true) true m 23 (([c0, c1, c2].drop 1).take (Tryz.prog.cellsOf 23)) = xs[1]? := hf 1 _ rfl
 have h2 : DataW.trod enc' Tryz.prog W 0 (fun _ => true) true m 3 (([c0, c1, c2].drop 2).take (Tryz.prog.cellsOf 3)) = xs[2]? := hf 2 _ rfl
 rw [k1] at h0; rw [k2] at h1; rw [k3] at h2
 obtain ⟨y0, e0⟩ := got hx3 (show 0 < 3 by decide)
 obtain ⟨y1, e1⟩ := got hx3 (show 1 < 3 by decide)
 obtain ⟨y2, e2⟩ := got hx3 (show 2 < 3 by decide)
 rw [e0] at h0; rw [e1] at h1; rw [e2] at h2
 obtain ⟨b, hb, _⟩ := opens_bool Tryz.underlying4 m _ _ h0
 obtain ⟨l, hr, hok, hlen⟩ := opens_row (τ := .int .u32) Tryz.underlying23 (by kernel_rfl) (fun m' _ => opens_int Tryz.underlying160 m') h1
 obtain ⟨e, he, hw⟩ := opens_int Tryz.underlying3 m _ _ h2
 obtain ⟨_, q0, r0⟩ := rl_one hb
 obtain ⟨_, q1, r1⟩ := rl_one hr
 obtain ⟨_, q2, r2⟩ := rl_one he
 simp at q0 q1 q2
 subst q0 q1 q2
 refine ⟨⟨b, l, e⟩, RLl_cons.2 ⟨r0, RLl_cons.2 ⟨r1, RLl_cons.2 ⟨r2, RLl_nil⟩⟩⟩, ⟨fun y hy => ?_, hlen, hw⟩⟩
 exact wf_u32 (hok y hy)
mutual
def WfT : Tree → Prop
 | .mk k _ n s ks v => ((Lit.int .i64 k).wf = true ∧ OkN n ∧ s.size ≤ maxLen ∧ ks.length ≤ maxLen ∧ (∀ y ∈ ks, y.size ≤ maxLen) ∧ v.length ≤ maxLen) ∧ WfL v
def WfL : List Tree → Prop
 | [] => True
 | t :: l => WfT t ∧ WfL l
end
theorem wfL_of : ∀ {l : List Tree}, (∀ t ∈ l, WfT t) → WfL l
 | [], _ => trivial
 | t :: l, h => ⟨h t (by simp), wfL_of (fun u hu => h u (by simp [hu]))⟩
theorem opens_tree (n : Nat) : Opens enc' W .tree 29 WfT n := by
 induction n using Nat.strongRecOn with
 | ind n ih =>
  intro cs x h
  obtain ⟨xs, m, rfl, _, hl, hx, hf⟩ := DataW.trod_struct Tryz.underlying29 h
  have hl3 : cs.length = 8 := hl.trans (by kernel_rfl)
  have hx3 : xs.length = 6 := hx
  obtain ⟨c0, c1, c2, c3, c4, c5, c6, c7, rfl⟩ : ∃ c0 c1 c2 c3 c4 c5 c6 c7, cs = [c0, c1, c2, c3, c4, c5, c6, c7] := by
   exact list8 hl3
  have k0 : Tryz.prog.cellsOf 3 = 1 := by kernel_rfl
  have k1 : Tryz.prog.cellsOf 4 = 1 := by kernel_rfl
  have k2 : Tryz.prog.cellsOf 25 = 3 := by kernel_rfl
  have k3 : Tryz.prog.cellsOf 9 = 1 := by kernel_rfl
  have k4 : Tryz.prog.cellsOf 26 = 1 := by kernel_rfl
  have k5 : Tryz.prog.cellsOf 27 = 1 := by kernel_rfl
  have h0 : DataW.trod enc' Tryz.prog W 0 (fun _ => true) true m 3 (([c0, c1, c2, c3, c4, c5, c6, c7].drop 0).take (Tryz.prog.cellsOf 3)) = xs[0]? := hf 0 _ rfl
  have h1 : DataW.trod enc' Tryz.prog W 0 (fun _ => true) true m 4 (([c0, c1, c2, c3, c4, c5, c6, c7].drop 1).take (Tryz.prog.cellsOf 4)) = xs[1]? := hf 1 _ rfl
  have h2 : DataW.trod enc' Tryz.prog W 0 (fun _ => true) true m 25 (([c0, c1, c2, c3, c4, c5, c6, c7].drop 2).take (Tryz.prog.cellsOf 25)) = xs[2]? := hf 2 _ rfl
  have h3 : DataW.trod enc' Tryz.prog W 0 (fun _ => true) true m 9 (([c0, c1, c2, c3, c4, c5, c6, c7].drop 5).take (Tryz.prog.cellsOf 9)) = xs[3]? := hf 3 _ rfl
  have h4 : DataW.trod enc' Tryz.prog W 0 (fun _ => true) true m 26 (([c0, c1, c2, c3, c4, c5, c6, c7].drop 6).take (Tryz.prog.cellsOf 26)) = xs[4]? := hf 4 _ rfl
  have h5 : DataW.trod enc' Tryz.prog W 0 (fun _ => true) true m 27 (([c0, c1, c2, c3, c4, c5, c6, c7].drop 7).take (Tryz.prog.cellsOf 27)) = xs[5]? := hf 5 _ rfl
  rw [k0] at h0; rw [k1] at h1; rw [k2] at h2; rw [k3] at h3; rw [k4] at h4; rw [k5] at h5
  obtain ⟨y0, e0⟩ := got hx3 (show 0 < 6 by decide)
  obtain ⟨y1, e1⟩ := got hx3 (show 1 < 6 by decide)
  obtain ⟨y2, e2⟩ := got hx3 (show 2 < 6 by decide)
  obtain ⟨y3, e3⟩ := got hx3 (show 3 < 6 by decide)
  obtain ⟨y4, e4⟩ := got hx3 (show 4 < 6 by decide)
  obtain ⟨y5, e5⟩ := got hx3 (show 5 < 6 by decide)
  rw [e0] at h0; rw [e1] at h1; rw [e2] at h2; rw [e3] at h3; rw [e4] at h4; rw [e5] at h5
  obtain ⟨kd, p0, w0⟩ := opens_int Tryz.underlying3 m _ _ h0
  obtain ⟨b, p1, _⟩ := opens_bool Tryz.underlying4 m _ _ h1
  obtain ⟨nn, p2, w2⟩ := opens_num m _ _ h2
  obtain ⟨s, p3, w3⟩ := opens_str Tryz.underlying9 m _ _ h3
  obtain ⟨ks, p4, w4, w4'⟩ := opens_row (τ := .str) Tryz.underlying26 (by kernel_rfl) (fun m' _ => opens_str Tryz.underlying9 m') h4
  obtain ⟨v, p5, w5, w5'⟩ := opens_row (τ := .tree) Tryz.underlying27 (by kernel_rfl) (fun m' hm => ih m' (by omega)) h5
  obtain ⟨_, q0, r0⟩ := rl_one p0
  obtain ⟨_, q1, r1⟩ := rl_one p1
  obtain ⟨_, q3, r3⟩ := rl_one p3
  obtain ⟨_, q4, r4⟩ := rl_one p4
  obtain ⟨_, q5, r5⟩ := rl_one p5
  obtain ⟨r20, p2⟩ := RLl_cons.1 p2
  obtain ⟨r21, p2⟩ := RLl_cons.1 p2
  obtain ⟨r22, p2⟩ := RLl_cons.1 p2
  simp at q0 q1 q3 q4 q5
  subst q0 q1 q3 q4 q5
  exact ⟨.mk kd b nn s ks v, RLl_cons.2 ⟨r0, RLl_cons.2 ⟨r1, RLl_cons.2 ⟨r20, RLl_cons.2 ⟨r21, RLl_cons.2 ⟨r22, RLl_cons.2 ⟨r3, RLl_cons.2 ⟨r4, RLl_cons.2 ⟨r5, RLl_nil⟩⟩⟩⟩⟩⟩⟩⟩, ⟨w0, w2, w3, w4', w4, w5'⟩, wfL_of w5⟩
theorem open_tree {base : Nat} {v : Value} {d : DataW H} {p : List MemPlace} (hv : Value.okWide Tryz.prog W .any base 29 v) (h : DataW.Trod enc' Tryz.prog W 0 (fun _ => true) true 29 v d p) :
  ∃ t : Tree, R W (fun k => k < W.heap.size) noη v (.agg (encTree t)) ∧ WfT t := by
 obtain ⟨cs, rfl, _⟩ := Go.WideShapes.okWide_struct Tryz.underlying29 hv
 obtain ⟨n, hn⟩ := h
 obtain ⟨t, ht, hw⟩ := opens_tree n _ _ hn
 exact ⟨t, .agg cs _ (by have := ht.1; simpa [Value.cells] using this) (fun j u a hu ha => ht.2 j u a (by simpa [Value.cells] using hu) ha), hw⟩
end
end Go.Proofs.YtondpnipoogoiaaGreatDoor.X
namespace Go.Proofs.YtondpnipoogoiaaGreatDoor.F
open Go Go.RowKit
def Tree.et (t : Tree) : Tree := Tree.mk t.kind t.b ⟨t.n.neg, t.n.m, t.n.e⟩ t.s t.k t.v
theorem Tree.eta' (t : Tree) : t.et = t := by cases t; rfl
abbrev rwS (l : List ByteArray) : AV := .row .str l
abbrev rwT (l : List Tree) : AV := .row .tree l
abbrev rwU (l : List Int) : AV := .row (.int .u32) l
abbrev aTr (t : Tree) : AV := .agg (encTree t)
abbrev bTr (t : Tree) : Box := .var (encTree t)
abbrev e8 (l : List AV) (t : Tree) (m : List AV) : List AV := l ++ (encTree t ++ m)
abbrev zTr : List AV := [vi 0, vb false, vb false, nilv, vi 0, vs (ba []), nilv, nilv]
abbrev ciV (f : FuncId) (args : List AV) (x : AV) : CI := ciA f args [] [] (.val x)
abbrev rc (cs : List (Nat × CI)) : RI := ⟨cs, [], []⟩
abbrev rg (cs : List (Nat × CI)) (t f : List Nat) : RI := ⟨cs, t.map (fun i => (i, true)) ++ f.map (fun i => (i, false)), []⟩
def bz : Nat → Nat → List Bool
 | 0, _ => []
 | k + 1, n => (n % 2 == 1) :: bz k (n / 2)
def AllP : List Prop → Prop
 | [] => True
 | p :: l => p ∧ AllP l
def okC (c : CI) : Prop := match isB c with
 | true => okArgs (c.args.map (rn c.ρ)) ∧ okBxs (c.bi.map (fun p => some (rnB c.ρ p.2)))
 | false => okArgs c.args
theorem okC_ok (c : CI) : okC c := by
 unfold okC
 split
 exact ⟨rfl, rfl⟩
 rfl
def topP : List Prop → Prop
 | [] => True
 | p :: _ => p
def andP : List Prop → List Prop
 | q :: p :: l => (p ∧ q) :: l
 | l => l
def headC : List CI → Prop
 | [] => True
 | c :: _ => okC c
def foldP : Prop → List Prop → Prop
 | q, [] => q
 | q, p :: l => foldP (p ∧ q) l
def endP : List Prop → Prop
 | [] => True
 | q :: l => foldP q l
def skI : Nat → Nat → List CI → List Prop → List Prop → Prop
 | 0, _, _, _, st => endP st
 | f + 1, n, cs, l, st => match n with
  | 0 => endP st
  | k + 1 => match (k + 1) % 10 with
   | 0 => skI f ((k + 1) / 10) cs l (True :: True :: st)
   | 1 => skI f ((k + 1) / 10) cs l (True :: st)
   | 2 => skI f ((k + 1) / 10) cs l (andP st)
   | 3 => skI f ((k + 1) / 10) cs l.tail (topP l :: st)
   | 4 => skI f ((k + 1) / 10) cs.tail l (headC cs :: st)
   | 5 => skI f ((k + 1) / 10) cs.tail l.tail (topP l :: st)
   | 6 => skI f ((k + 1) / 10) cs l (andP (andP (andP (andP st))))
   | 7 => skI f ((k + 1) / 10) cs l.tail (True :: topP l :: st)
   | 8 => skI f ((k + 1) / 10) cs l (True :: True :: True :: st)
   | _ => skI f ((k + 1) / 10) cs l (andP (andP st))
structure Pk where
 p : Prop
 h : p
def q1 {p : Prop} (h : p) : Pk := ⟨p, h⟩
def q2 (p : Prop) (h : p := by omega) : Pk := ⟨p, h⟩
def q3 (n : Int) (h0 : -9223372036854775808 ≤ n := by omega) (h1 : n ≤ 9223372036854775807 := by omega) : Pk := ⟨InR .i64 n, inR64 h0 h1⟩
def q4 (n : Int) (m : Nat) (h : 0 ≤ n ∧ n < (m : Int) := by omega) : Pk := ⟨0 ≤ n ∧ n < (m : Int), h⟩
def q0 (b : Bool) : Pk := ⟨b = b, rfl⟩
def q5 (c n : Int) (hc : c ≠ 0 := by decide) (h0 : -9223372036854775808 ≤ n := by omega) (h1 : n ≤ 9223372036854775807 := by omega) : Pk := ⟨c ≠ 0 ∧ InR .i64 n, hc, inR64 h0 h1⟩
def q6 (c : Int) (hc : c ≠ 0 := by decide) : Pk := ⟨c ≠ 0, hc⟩
def q7 (a b k : Nat) (h : (a + b) * k ≤ 140737488355328 ∧ a + b ≤ 140737488355328 := by omega) : Pk := ⟨(a + b) * k ≤ 140737488355328 ∧ a + b ≤ 140737488355328, h⟩
theorem dT {p : Prop} [Decidable p] (h : decide p = true) : p := of_decide_eq_true h
theorem dF {p : Prop} [Decidable p] (h : decide p = false) : ¬ p := of_decide_eq_false h
theorem nB {α : Type} [BEq α] [LawfulBEq α] {a b : α} (h : (a == b) = false) : a ≠ b := beq_eq_false_iff_ne.1 h
theorem bd (p : Prop) [Decidable p] : (decide p = true ∧ p) ∨ (decide p = false ∧ ¬ p) := by
 by_cases h : p
 exact .inl ⟨decide_eq_true h, h⟩
 exact .inr ⟨decide_eq_false h, h⟩
theorem bq {α : Type} [BEq α] [LawfulBEq α] (a b : α) : ((a == b) = true ∧ a = b) ∨ ((a == b) = false ∧ a ≠ b) := by
 cases h : a == b
 exact .inr ⟨rfl, beq_eq_false_iff_ne.1 h⟩
 exact .inl ⟨rfl, eq_of_beq h⟩
theorem pk_ok : ∀ l : List Pk, AllP (l.map (·.p))
 | [] => trivial
 | x :: l => ⟨x.h, pk_ok l⟩
theorem top_ok : ∀ {l : List Prop}, AllP l → topP l
 | [], _ => trivial
 | _ :: _, h => h.1
theorem tail_ok : ∀ {l : List Prop}, AllP l → AllP l.tail
 | [], h => h
 | _ :: _, h => h.2
theorem and_ok : ∀ {l : List Prop}, AllP l → AllP (andP l)
 | [], h => h
 | [_], h => h
 | _ :: _ :: _, h => ⟨⟨h.2.1, h.1⟩, h.2.2⟩
theorem head_ok : ∀ cs : List CI, headC cs
 | [] => trivial
 | c :: _ => okC_ok c
theorem fold_ok : ∀ {q : Prop} {l : List Prop}, q → AllP l → foldP q l
 | _, [], hq, _ => hq
 | q, p :: _, hq, h => fold_ok (q := p ∧ q) ⟨h.1, hq⟩ h.2
theorem end_ok : ∀ {l : List Prop}, AllP l → endP l
 | [], _ => trivial
 | _ :: _, h => fold_ok h.1 h.2
theorem skI_ok : ∀ (f n : Nat) (cs : List CI) (l st : List Prop), AllP l → AllP st → skI f n cs l st
 | 0, n, cs, l, st, hl, hs => by
  rw [skI]; exact end_ok hs
 | f + 1, 0, cs, l, st, hl, hs => by
  rw [skI]; exact end_ok hs
 | f + 1, k + 1, cs, l, st, hl, hs => by
  rw [skI]
  split
  exact skI_ok f _ cs l _ hl ⟨trivial, trivial, hs⟩
  exact skI_ok f _ cs l _ hl ⟨trivial, hs⟩
  exact skI_ok f _ cs l _ hl (and_ok hs)
  exact skI_ok f _ cs _ _ (tail_ok hl) ⟨top_ok hl, hs⟩
  exact skI_ok f _ _ l _ hl ⟨head_ok cs, hs⟩
  exact skI_ok f _ _ _ _ (tail_ok hl) ⟨top_ok hl, hs⟩
  exact skI_ok f _ cs l _ hl (and_ok (and_ok (and_ok (and_ok hs))))
  exact skI_ok f _ cs _ _ (tail_ok hl) ⟨trivial, top_ok hl, hs⟩
  exact skI_ok f _ cs l _ hl ⟨trivial, trivial, trivial, hs⟩
  exact skI_ok f _ cs l _ hl (and_ok (and_ok hs))
def csOf (rs : List (Nat × RI)) : List CI := rs.flatMap (fun r => r.2.cs.map (·.2))
def AllK (P : Program) (I : World → Prop) : List (Nat × CI) → Prop → Prop
 | [], q => q
 | (_, c) :: l, q => ConC P I c ∧ AllK P I l q
def AllR (P : Program) (I : World → Prop) : List (Nat × RI) → Prop
 | [] => True
 | (_, ri) :: l => AllK P I ri.cs (AllR P I l)
def entsOk (e : List Nat) (rs : List (Nat × RI)) : Bool := rs.all fun r => r.2.cs.all fun c => e.contains c.2.f
theorem allK_ok {P : Program} {I : World → Prop} {e : List Nat} (he : ∀ f ∈ e, Ent P f) : ∀ {l : List (Nat × CI)} {q : Prop}, (l.all fun c => e.contains c.2.f) = true → AllK P I l q → Cons P I l ∧ q
 | [], _, _, h => ⟨trivial, h⟩
 | (_, c) :: l, _, h1, h => by
  rw [List.all_cons, Bool.and_eq_true] at h1
  have ih := allK_ok he h1.2 h.2
  exact ⟨⟨⟨he _ (by simpa using h1.1), h.1⟩, ih.1⟩, ih.2⟩
theorem allR_ok {P : Program} {I : World → Prop} {e : List Nat} (he : ∀ f ∈ e, Ent P f) : ∀ {rs : List (Nat × RI)}, entsOk e rs = true → AllR P I rs → AllCons P I rs
 | [], _, _ => trivial
 | (_, ri) :: rs, h1, h => by
  unfold entsOk at h1
  rw [List.all_cons, Bool.and_eq_true] at h1
  have h2 := allK_ok he h1.1 h
  exact ⟨h2.1, allR_ok he h1.2 h2.2⟩
def skC (rs : List (Nat × RI)) (n : Nat) (l : List Prop) : Prop := skI 4000 n (csOf rs) l []
theorem skC_ok {rs : List (Nat × RI)} {n : Nat} {l : List Prop} (h : AllP l) : skC rs n l := skI_ok _ n _ l [] h trivial
def tt (t : TypeId) : Option Ty := if t = 2 then some (.int .i64) else if t = 3 then some (.int .i64) else if t = 4 then some .bool else if t = 5 then some (.int .u8) else if t = 6 then some (.int .u8) else if t = 9 then some .str else if t = 10 then some .str else if t = 11 then some .str else if t = 12 then some (.int .u64) else if t = 21 then some (.int .i32) else if t = 22 then some (.ints .i64) else if t = 23 then some (.ints .u32) else if t = 25 then some .num else if t = 26 then some .strs else if t = 27 then some .trees else if t = 29 then some .tree else if t = 38 then some (.int .i64) else if t = 80 then some .opn else if t = 132 then some (.int .u64) else if t = 140 then some (.ints .u8) else if t = 160 then some (.int .u32) else if t = 168 then some (.int .u64) else if t = 173 then some (.int .i64) else if t = 201 then some (.int .u64) else if t = 219 then some (.ints .i32) else if t = 250 then some (.int .u8) else if t = 251 then some (.int .u8) else if t = 253 then some (.int .i32) else if t = 254 then some (.int .i32) else none
def I0 (w : World) : Prop := Go.Proofs.YtondpnipoogoiaaGreatDoor.X.Laid w
theorem stab : ∀ w w', I0 w → Below w.heap.size w w' → I0 w' := fun _ _ h b => h.below b
theorem mix : Tryz.prog.follows .mixedOrders = true := by kernel_rfl
theorem tv : True := trivial
theorem ng1 {b : Bool} (h : b = true) : (!b) = false := by rw [h]; rfl
theorem ng0 {b : Bool} (h : b = false) : (!b) = true := by rw [h]; rfl
abbrev ty {p : Prop} (_ : p) : Prop := p
theorem bt (b : Bool) : b = true ∨ b = false := Bool.eq_false_or_eq_true b
def entL : List Nat := [10, 11, 12, 13, 14, 15, 16, 17, 18, 19, 21, 22, 31, 35, 36, 37, 38, 39, 40, 41, 44, 51, 52, 53, 54, 55, 56, 57, 59, 60, 61, 62, 63, 64, 65, 66, 69, 82, 83, 84, 88, 89, 90, 91, 92, 93, 95, 106, 107, 108, 109, 110, 111, 112, 113, 114, 115, 116, 117, 118, 119, 120, 121, 122, 123, 124, 125, 126, 127, 128, 129, 134, 140, 145, 146, 150, 161, 162, 163, 164, 165, 166, 167, 170, 171, 172, 173, 174, 175, 176, 199, 200, 201, 209, 210, 211, 212, 214, 215, 216, 217, 218, 236, 248, 249, 250, 251, 252, 261, 270, 271, 276]
theorem entAll : ∀ f ∈ entL, Ent Tryz.prog f := by
 simp only [entL, List.forall_mem_cons]
 exact ⟨ent_of Tryz.func10 (by kernel_rfl) rfl, ent_of Tryz.func11 (by kernel_rfl) rfl, ent_of Tryz.func12 (by kernel_rfl) rfl, ent_of Tryz.func13 (by kernel_rfl) rfl, ent_of Tryz.func14 (by kernel_rfl) rfl, ent_of Tryz.func15 (by kernel_rfl) rfl, ent_of Tryz.func16 (by kernel_rfl) rfl, ent_of Tryz.func17 (by kernel_rfl) rfl, ent_of Tryz.func18 (by kernel_rfl) rfl, ent_of Tryz.func19 (by kernel_rfl) rfl, ent_of Tryz.func21 (by kernel_rfl) rfl, ent_of Tryz.func22 (by kernel_rfl) rfl, ent_of Tryz.func31 (by kernel_rfl) rfl, ent_of Tryz.func35 (by kernel_rfl) rfl, ent_of Tryz.func36 (by kernel_rfl) rfl, ent_of Tryz.func37 (by kernel_rfl) rfl, ent_of Tryz.func38 (by kernel_rfl) rfl, ent_of Tryz.func39 (by kernel_rfl) rfl, ent_of Tryz.func40 (by kernel_rfl) rfl, ent_of Tryz.func41 (by kernel_rfl) rfl, ent_of Tryz.func44 (by kernel_rfl) rfl, ent_of Tryz.func51 (by kernel_rfl) rfl, ent_of Tryz.func52 (by kernel_rfl) rfl, ent_of Tryz.func53 (by kernel_rfl) rfl, ent_of Tryz.func54 (by kernel_rfl) rfl, ent_of Tryz.func55 (by kernel_rfl) rfl, ent_of Tryz.func56 (by kernel_rfl) rfl, ent_of Tryz.func57 (by kernel_rfl) rfl, ent_of Tryz.func59 (by kernel_rfl) rfl, ent_of Tryz.func60 (by kernel_rfl) rfl, ent_of Tryz.func61 (by kernel_rfl) rfl, ent_of Tryz.func62 (by kernel_rfl) rfl, ent_of Tryz.func63 (by kernel_rfl) rfl, ent_of Tryz.func64 (by kernel_rfl) rfl, ent_of Tryz.func65 (by kernel_rfl) rfl, ent_of Tryz.func66 (by kernel_rfl) rfl, ent_of Tryz.func69 (by kernel_rfl) rfl, ent_of Tryz.func82 (by kernel_rfl) rfl, ent_of Tryz.func83 (by kernel_rfl) rfl, ent_of Tryz.func84 (by kernel_rfl) rfl, ent_of Tryz.func88 (by kernel_rfl) rfl, ent_of Tryz.func89 (by kernel_rfl) rfl, ent_of Tryz.func90 (by kernel_rfl) rfl, ent_of Tryz.func91 (by kernel_rfl) rfl, ent_of Tryz.func92 (by kernel_rfl) rfl, ent_of Tryz.func93 (by kernel_rfl) rfl, ent_of Tryz.func95 (by kernel_rfl) rfl, ent_of Tryz.func106 (by kernel_rfl) rfl, ent_of Tryz.func107 (by kernel_rfl) rfl, ent_of Tryz.func108 (by kernel_rfl) rfl, ent_of Tryz.func109 (by kernel_rfl) rfl, ent_of Tryz.func110 (by kernel_rfl) rfl, ent_of Tryz.func111 (by kernel_rfl) rfl, ent_of Tryz.func112 (by kernel_rfl) rfl, ent_of Tryz.func113 (by kernel_rfl) rfl, ent_of Tryz.func114 (by kernel_rfl) rfl, ent_of Tryz.func115 (by kernel_rfl) rfl, ent_of Tryz.func116 (by kernel_rfl) rfl, ent_of Tryz.func117 (by kernel_rfl) rfl, ent_of Tryz.func118 (by kernel_rfl) rfl, ent_of Tryz.func119 (by kernel_rfl) rfl, ent_of Tryz.func120 (by kernel_rfl) rfl, ent_of Tryz.func121 (by kernel_rfl) rfl, ent_of Tryz.func122 (by kernel_rfl) rfl, ent_of Tryz.func123 (by kernel_rfl) rfl, ent_of Tryz.func124 (by kernel_rfl) rfl, ent_of Tryz.func125 (by kernel_rfl) rfl, ent_of Tryz.func126 (by kernel_rfl) rfl, ent_of Tryz.func127 (by kernel_rfl) rfl, ent_of Tryz.func128 (by kernel_rfl) rfl, ent_of Tryz.func129 (by kernel_rfl) rfl, ent_of Tryz.func134 (by kernel_rfl) rfl, ent_of Tryz.func140 (by kernel_rfl) rfl, ent_of Tryz.func145 (by kernel_rfl) rfl, ent_of Tryz.func146 (by kernel_rfl) rfl, ent_of Tryz.func150 (by kernel_rfl) rfl, ent_of Tryz.func161 (by kernel_rfl) rfl, ent_of Tryz.func162 (by kernel_rfl) rfl, ent_of Tryz.func163 (by kernel_rfl) rfl, ent_of Tryz.func164 (by kernel_rfl) rfl, ent_of Tryz.func165 (by kernel_rfl) rfl, ent_of Tryz.func166 (by kernel_rfl) rfl, ent_of Tryz.func167 (by kernel_rfl) rfl, ent_of Tryz.func170 (by kernel_rfl) rfl, ent_of Tryz.func171 (by kernel_rfl) rfl, ent_of Tryz.func172 (by kernel_rfl) rfl, ent_of Tryz.func173 (by kernel_rfl) rfl, ent_of Tryz.func174 (by kernel_rfl) rfl, ent_of Tryz.func175 (by kernel_rfl) rfl, ent_of Tryz.func176 (by kernel_rfl) rfl, ent_of Tryz.func199 (by kernel_rfl) rfl, ent_of Tryz.func200 (by kernel_rfl) rfl, ent_of Tryz.func201 (by kernel_rfl) rfl, ent_of Tryz.func209 (by kernel_rfl) rfl, ent_of Tryz.func210 (by kernel_rfl) rfl, ent_of Tryz.func211 (by kernel_rfl) rfl, ent_of Tryz.func212 (by kernel_rfl) rfl, ent_of Tryz.func214 (by kernel_rfl) rfl, ent_of Tryz.func215 (by kernel_rfl) rfl, ent_of Tryz.func216 (by kernel_rfl) rfl, ent_of Tryz.func217 (by kernel_rfl) rfl, ent_of Tryz.func218 (by kernel_rfl) rfl, ent_of Tryz.func236 (by kernel_rfl) rfl, ent_of Tryz.func248 (by kernel_rfl) rfl, ent_of Tryz.func249 (by kernel_rfl) rfl, ent_of Tryz.func250 (by kernel_rfl) rfl, ent_of Tryz.func251 (by kernel_rfl) rfl, ent_of Tryz.func252 (by kernel_rfl) rfl, ent_of Tryz.func261 (by kernel_rfl) rfl, ent_of Tryz.func270 (by kernel_rfl) rfl, ent_of Tryz.func271 (by kernel_rfl) rfl, ent_of Tryz.func276 (by kernel_rfl) rfl, fun _ h => by simp at h⟩
section
variable {w0 w : World} {ow : Own} {N : Nat} {T : TL} {B : BL} {a : Act} {Q : Exit → Act → World → Prop} {c : Code}
theorem wL (hs : SimL N w0 ow T B a w) (hI : ∀ w', Fr ow w0 w' → I0 w') (rs : List (Nat × RI)) (bs : List Bool) (n : Nat) (l : List Pk) (lv : Lv) (T' : TL) (B' : BL) (hall : AllR Tryz.prog I0 rs) (hq : LvL N w0 ow Q lv T' B') (he : (entsOk entL rs, projC Tryz.prog tt N rs c T B bs (T'.map (·.1)) (B'.map (·.1))) = (true, some (skC rs n (l.map (·.p)), lv, T', B')) := by kernel_rfl) : c.wp Tryz.prog Q a w := way_L mix hI hs (allR_ok entAll (congrArg Prod.fst he) hall) (congrArg Prod.snd he) (skC_ok (pk_ok l)) hq
theorem wN (hs : SimL N w0 ow T B a w) (hI : ∀ w', Fr ow w0 w' → I0 w') (bs : List Bool) (n : Nat) (l : List Pk) (lv : Lv) (T' : TL) (B' : BL) (hq : LvL N w0 ow Q lv T' B') (he : projC Tryz.prog tt N [] c T B bs (T'.map (·.1)) (B'.map (·.1)) = some (skC [] n (l.map (·.p)), lv, T', B') := by kernel_rfl) : c.wp Tryz.prog Q a w := way_L (rs := []) mix hI hs trivial he (skC_ok (pk_ok l)) hq
theorem wLs {d : Code} (hs : SimL N w0 ow T B a w) (hI : ∀ w', Fr ow w0 w' → I0 w') (rs : List (Nat × RI)) (bs : List Bool) (n : Nat) (l : List Pk) (T' : TL) (B' : BL) (hall : AllR Tryz.prog I0 rs) (hq : ∀ a w, SimL N w0 ow T' B' a w → d.wp Tryz.prog Q a w) (he : (entsOk entL rs, projC Tryz.prog tt N rs c T B bs (T'.map (·.1)) (B'.map (·.1))) = (true, some (skC rs n (l.map (·.p)), .norm, T', B')) := by kernel_rfl) : (Code.seq c d).wp Tryz.prog Q a w := wp_seq (wL hs hI rs bs n l .norm T' B' hall (fun a w hs => then_norm (hq a w hs)) he)
theorem wNs {d : Code} (hs : SimL N w0 ow T B a w) (hI : ∀ w', Fr ow w0 w' → I0 w') (bs : List Bool) (n : Nat) (l : List Pk) (T' : TL) (B' : BL) (hq : ∀ a w, SimL N w0 ow T' B' a w → d.wp Tryz.prog Q a w) (he : projC Tryz.prog tt N [] c T B bs (T'.map (·.1)) (B'.map (·.1)) = some (skC [] n (l.map (·.p)), .norm, T', B') := by kernel_rfl) : (Code.seq c d).wp Tryz.prog Q a w := wp_seq (wN hs hI bs n l .norm T' B' (fun a w hs => then_norm (hq a w hs)) he)
theorem rK {fn : Func} {fz : Nat → Prop} {out' : COut} (out : COut) (del : List Nat) (hs : SimL N w0 (noO fz) T B a w) (h : out = out') (hr : retOk Tryz.prog fn T B del out := by exact ⟨by kernel_rfl, rfl⟩) : FnQ Tryz.prog fn w0 (noO fz) out' .ret a w := h ▸ ret_ok del hs hr
theorem nK {fn : Func} {fz : Nat → Prop} {out' : COut} (out : COut) (del : List Nat) (hs : SimL N w0 (noO fz) T B a w) (h : out = out') (hr : retOk Tryz.prog fn T B del out := by exact ⟨by kernel_rfl, rfl⟩) : FnQ Tryz.prog fn w0 (noO fz) out' .normal a w := h ▸ norm_ok del hs hr
theorem tK {fn : Func} {fz : Nat → Prop} {out' : COut} (v : Value) (hs : SimL N w0 (noO fz) T B a w) (h : COut.thr v = out') : FnQ Tryz.prog fn w0 (noO fz) out' (.panic [{ v, recovered := false }]) a w := h ▸ thr_ok hs
theorem SimL.cst (hs : SimL N w0 ow T B a w) (T' : TL) (B' : BL) (h : (T, B) = (T', B')) : SimL N w0 ow T' B' a w := by
 cases h; exact hs
theorem SimL.rmT (hs : SimL N w0 ow T B a w) (T' : TL) (B' : BL) (ρ : List (Nat × Nat)) (h : (renOk ρ T' B', T'.map (fun p => lkp T p.1), B'.map (fun p => lkp B (rnk ρ p.1))) = (true, T'.map (fun p => some (rn ρ p.2)), B'.map (fun p => some (rnB ρ p.2)))) : SimL N w0 ow T' B' a w := by
 simp only [Prod.mk.injEq] at h
 exact hs.ren ρ h.1 h.2.1 h.2.2
theorem SimL.rk (hs : SimL N w0 ow T B a w) {T' : TL} {B' : BL} (ρ : List (Nat × Nat)) (h : (renOk ρ T' B', T'.map (fun p => lkp T p.1), B'.map (fun p => lkp B (rnk ρ p.1))) = (true, T'.map (fun p => some (rn ρ p.2)), B'.map (fun p => some (rnB ρ p.2))) := by kernel_rfl) : SimL N w0 ow T' B' a w := hs.rmT T' B' ρ h
end
theorem ent58 : Ent Tryz.prog 58 := ent_of Tryz.func58 (by kernel_rfl) rfl
end Go.Proofs.YtondpnipoogoiaaGreatDoor.F
