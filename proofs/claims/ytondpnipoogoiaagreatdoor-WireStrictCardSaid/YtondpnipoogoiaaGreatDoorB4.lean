import Derived.Test.YtondpnipoogoiaaGreatDoorB3
import Derived.Deep.Cut
import Derived.IntWalk
import Derived.LoopN
import Derived.Scope
import Derived.Test.YtondpnipoogoiaaGreatDoorB1
import Derived.Test.YtondpnipoogoiaaGreatDoorProg
import Derived.LoopIn
import Derived.WalkMore
import Derived.Laws.RangeAny
import Derived.Lib.TrimUEq
set_option maxRecDepth 100000
set_option linter.unusedVariables false
set_option linter.unusedSimpArgs false
namespace Go.Proofs.YtondpnipoogoiaaGreatDoor.F
open Go Go.RowKit
def edges (o : Oper) : List Nat := (o.after.toList.filter (Region.binds .any)).map (·.on)
def ancOk (ops : List Oper) (anc : List (List Nat)) : Bool :=
 (List.range ops.length).all fun j => match ops[j]? with
  | some o => (edges o).all (· < j) && (anc.getD j []).all fun i => (edges o).any fun e => e == i || (anc.getD e []).contains i
  | none => true
def wrs (e : Ef) : List Nat := e.E.del ++ e.E.ins.map (·.1)
def indep (a b : Ef) : Bool :=
 (match a.dst with | some d => !b.T.contains d && b.dst != some d | none => true) && (match b.dst with | some d => !a.T.contains d | none => true) &&
 (wrs a).all (fun k => !b.K.contains k && !hits b k) && (wrs b).all (fun k => !a.K.contains k)
def pairsOk (es : List Ef) (anc : List (List Nat)) : Bool :=
 (List.range es.length).all fun j => (List.range j).all fun i => (anc.getD j []).contains i || (match es[i]?, es[j]? with | some a, some b => indep a b | _, _ => true)
def mentOk (es : List Ef) (anc : List (List Nat)) (ks : List Nat) (kb : Nat) : Bool :=
 (List.range es.length).all fun i => (nk (kb + i)).all (fun k => !ks.contains k && decide (1000 ≤ k)) && (match es[i]? with
  | some e => sub (optKeys e.E.val ++ insKeys e.E.ins) (ks ++ (i :: anc.getD i []).flatMap fun m => nk (kb + m))
  | none => true)
def deadOk (es : List Ef) (anc : List (List Nat)) (dead : List Nat) : Bool :=
 dead.all fun i => (anc.getD i []).any fun k => match es[k]? with | some e => e.th.isSome | none => false
def gOk (es : List Ef) (anc : List (List Nat)) (bx : Bx) : Bool :=
 (List.range es.length).all fun j => match es[j]? with
  | some e => e.G.all fun k => ((List.range es.length).all fun i => match es[i]? with | some a => !a.E.del.contains k || (anc.getD i []).contains j | none => true) && ((bx k).isSome || (anc.getD j []).any fun i => match es[i]? with | some a => (lkp a.E.ins k).isSome | none => false)
  | none => true
theorem bxF_live {D : Nat → Bool} {k : Nat} : ∀ (es : List Ef) (i : Nat) (bx : Bx), (∀ m e, es[m]? = some e → D (i + m) = true → e.E.del.contains k = false) → ((bx k).isSome = true ∨ ∃ m e, es[m]? = some e ∧ D (i + m) = true ∧ (lkp e.E.ins k).isSome = true) → (bxF es D i bx k).isSome = true
 | [], i, bx, _, h => by
  rcases h with h | ⟨m, e, h, _⟩
  ·exact h
  ·simp at h
 | e :: es, i, bx, hd, h => by
  simp only [bxF]
  refine bxF_live es (i + 1) _ (fun m e' hm hD => hd (m + 1) e' hm (by rwa [show i + (m + 1) = i + 1 + m by omega])) ?_
  have up : D i = true → (lkp e.E.ins k).isSome = true ∨ (bx k).isSome = true → (updB bx e.E.del e.E.ins k).isSome = true := fun hD hh => by
   unfold updB
   split
   ·rfl
   ·rename_i hn
    have h0 := hd 0 e rfl hD
    rcases hh with hh | hh
    ·rw [hn] at hh; cases hh
    ·rw [h0]; simpa using hh
  rcases h with h | ⟨m, e', hm, hD, hins⟩
  ·left
   split
   ·rename_i hD; exact up hD (.inr h)
   ·exact h
  ·match m with
   | 0 =>
    simp only [List.getElem?_cons_zero, Option.some.injEq] at hm
    subst hm
    left
    rw [Nat.add_zero] at hD
    rw [if_pos hD]
    exact up hD (.inl hins)
   | m + 1 => exact .inr ⟨m, e', hm, by rwa [show i + 1 + m = i + (m + 1) by omega], hins⟩
theorem gOk_live {es : List Ef} {anc : List (List Nat)} {bx : Bx} (hg : gOk es anc bx = true) {j : Nat} {e : Ef} (hj : es[j]? = some e) {k : Nat} (hk : e.G.contains k = true) {D : Nat → Bool} (hD : D j = false) (hpre : ∀ i ∈ anc.getD j [], D i = true) (hcl : ∀ i, D i = true → ∀ m ∈ anc.getD i [], D m = true) : (bxF es D 0 bx k).isSome = true := by
 have hl : j < es.length := (List.getElem?_eq_some_iff.1 hj).1
 have h1 := List.all_eq_true.1 hg j (by simp [hl])
 rw [hj] at h1
 have h2 := List.all_eq_true.1 h1 k (by simpa using hk)
 simp only [Bool.and_eq_true, Bool.or_eq_true] at h2
 refine bxF_live es 0 bx (fun m e' hm hDm => ?_) ?_
 ·rw [Nat.zero_add] at hDm
  have hml : m < es.length := (List.getElem?_eq_some_iff.1 hm).1
  have h3 := List.all_eq_true.1 h2.1 m (by simp [hml])
  rw [hm] at h3
  simp only [Bool.or_eq_true, Bool.not_eq_true'] at h3
  rcases h3 with h3 | h3
  ·exact h3
  ·have := hcl m hDm j (by simpa using h3)
   rw [hD] at this; cases this
 ·rcases h2.2 with h3 | h3
  ·exact .inl h3
  ·obtain ⟨i, hi, h4⟩ := List.any_eq_true.1 h3
   right
   split at h4
   ·rename_i a ha
    exact ⟨i, a, ha, by rw [Nat.zero_add]; exact hpre i hi, h4⟩
   ·cases h4
def chkD (N : Nat) (ops : List Oper) (es : List Ef) (anc : List (List Nat)) (ks dead : List Nat) (kb : Nat) (bx : Bx) : Bool :=
 decide (kb + es.length ≤ 1000000) && ancOk ops anc && pairsOk es anc && mentOk es anc ks kb && deadOk es anc dead && ops.all (dstOk N) && gOk es anc bx
theorem hits_wrs {e : Ef} {b : Nat} (h : hits e b = true) : b ∈ wrs e := by
 simp only [hits, Bool.or_eq_true] at h
 simp only [wrs, List.mem_append]
 rcases h with h | h
 ·exact .inl (by simpa using h)
 ·right
  obtain ⟨B, hB⟩ := Option.isSome_iff_exists.1 h
  exact List.mem_map.2 ⟨(b, B), lkp_mem hB, rfl⟩
def Dn (l : Array Bool) (i : Nat) : Bool := l.getD i false
theorem Dn_set {l : Array Bool} {i : Nat} (hi : i < l.size) (k : Nat) : Dn (l.setIfInBounds i true) k = (Dn l k || k == i) := by
 unfold Dn
 simp only [Array.getD_eq_getD_getElem?]
 by_cases h : i = k
 ·subst h; rw [Array.getElem?_setIfInBounds_self_of_lt hi]; simp
 ·rw [Array.getElem?_setIfInBounds_ne h]
  have : (k == i) = false := by simp; exact fun e => h e.symm
  rw [this]; simp
section
variable {P : Program} {I : World → Prop} {w0 : World} {ow : Own} {N kb : Nat} {tm : Tm} {bx : Bx} {tt : TypeId → Option Ty} {cs : List (Nat × CI)} {ops : Array Oper} {gd : List (Nat × Bool)} {dead ks : List Nat} {es : List Ef} {anc : List (List Nat)} {C : Prop}
def Closed (ops : Array Oper) (D : Nat → Bool) : Prop := ∀ j o, D j = true → ops[j]? = some o → ∀ e ∈ edges o, D e = true
theorem anc_edge (h : ancOk ops.toList anc = true) {j : Nat} {o : Oper} (ho : ops[j]? = some o) : (∀ e ∈ edges o, e < j) ∧ ∀ i ∈ anc.getD j [], ∃ e ∈ edges o, e = i ∨ i ∈ anc.getD e [] := by
 unfold ancOk at h
 have hh := h
 clear hh
 have hj : j < ops.size := (Array.getElem?_eq_some_iff.1 ho).1
 have h1 := List.all_eq_true.1 h j (by simp [hj])
 have ho2 : ops.toList[j]? = some o := by rw [Array.getElem?_toList]; exact ho
 rw [ho2] at h1
 simp only [Bool.and_eq_true, List.all_eq_true, decide_eq_true_eq, List.any_eq_true, Bool.or_eq_true, beq_iff_eq] at h1
 refine ⟨h1.1, fun i hi => ?_⟩
 obtain ⟨e, he, hh⟩ := h1.2 i hi
 exact ⟨e, he, hh.imp id (fun h => by simpa using h)⟩
theorem anc_in (h : ancOk ops.toList anc = true) {D : Nat → Bool} (hc : Closed ops D) (hsz : ∀ j, D j = true → j < ops.size) : ∀ (j : Nat) (o : Oper), ops[j]? = some o → (∀ e ∈ edges o, D e = true) → ∀ i ∈ anc.getD j [], D i = true := by
 intro j
 induction j using Nat.strongRecOn with
 | _ j ih =>
  intro o ho hd i hi
  obtain ⟨h1, h2⟩ := anc_edge h ho
  obtain ⟨e, he, hh⟩ := h2 i hi
  have hde := hd e he
  rcases hh with rfl | hh
  ·exact hde
  ·have hlt := hsz e hde
   have hoe : ops[e]? = some ops[e] := Array.getElem?_eq_getElem hlt
   exact ih e (h1 e he) _ hoe (fun e' he' => hc e _ hde hoe e' he') i hh
theorem opD_ext {i : Nat} {o : Oper} {tm tm' : Tm} {bx bx' : Bx} {Ck : Prop} {e : Ef} (h : opD P tt ops cs gd kb i o tm bx = some (Ck, e)) (ht : ∀ t, e.T.contains t = true → tm t = tm' t) (hb : ∀ b, e.K.contains b = true → bx b = bx' b) (hgg : ∀ b, e.G.contains b = true → (bx b).isSome = (bx' b).isSome) : opD P tt ops cs gd kb i o tm' bx' = some (Ck, e) := by
 obtain ⟨h1, h2, h3, _, _⟩ := opDc_TK h
 have e1 : restr tm (opT ops o) = restr tm' (opT ops o) := restr_ext (by rw [h1] at ht; exact ht)
 rw [h2] at hb
 have e3 := opK_ext hb
 have e2 : restrG bx (opK o (opT ops o) (restr tm (opT ops o)) bx) (opG o (restr tm (opT ops o))) = restrG bx' (opK o (opT ops o) (restr tm (opT ops o)) bx) (opG o (restr tm (opT ops o))) := restrG_ext hb (by rw [h3] at hgg; exact hgg)
 unfold opD at h ⊢
 rw [← e1, ← e3, ← e2]
 exact h
theorem pairs_at (h : pairsOk es anc = true) {i j : Nat} {a b : Ef} (hij : i < j) (ha : es[i]? = some a) (hb : es[j]? = some b) : i ∈ anc.getD j [] ∨ indep a b = true := by
 have hj : j < es.length := (List.getElem?_eq_some_iff.1 hb).1
 have h1 := List.all_eq_true.1 h j (by simp [hj])
 have h2 := List.all_eq_true.1 h1 i (by simp [hij])
 rw [ha, hb] at h2
 simp only [Bool.or_eq_true] at h2
 exact h2.imp (fun h => by simpa using h) id
theorem ind_dst {a b : Ef} (h : indep a b = true) : (∀ d, a.dst = some d → b.T.contains d = false ∧ b.dst ≠ some d) ∧ (∀ d, b.dst = some d → a.T.contains d = false) ∧ (∀ k, hits a k = true → b.K.contains k = false ∧ hits b k = false) ∧ (∀ k, hits b k = true → a.K.contains k = false) := by
 simp only [indep, Bool.and_eq_true] at h
 obtain ⟨⟨⟨h1, h2⟩, h3⟩, h4⟩ := h
 refine ⟨fun d hd => ?_, fun d hd => ?_, fun k hk => ?_, fun k hk => ?_⟩
 ·rw [hd] at h1; simp only [Bool.and_eq_true, Bool.not_eq_true', bne_iff_ne] at h1; exact ⟨h1.1, h1.2⟩
 ·rw [hd] at h2; simpa using h2
 ·have := List.all_eq_true.1 h3 k (hits_wrs hk)
  simp only [Bool.and_eq_true, Bool.not_eq_true'] at this
  exact this
 ·have := List.all_eq_true.1 h4 k (hits_wrs hk)
  simpa using this
section
variable {D : Nat → Bool} (hpair : pairsOk es anc = true) (hcl : ∀ j, D j = true → ∀ i ∈ anc.getD j [], D i = true)
include hpair hcl
theorem look_tm {j : Nat} {e : Ef} (hj : es[j]? = some e) (hD : D j = false) (hpre : ∀ i ∈ anc.getD j [], D i = true) {t : Nat} (ht : e.T.contains t = true) (tm : Tm) : tmF es D 0 tm t = tmF es (fun m => decide (m < 0 + j)) 0 tm t := by
 refine tmF_ext es 0 tm tm rfl (fun k e' hk hd => ?_)
 simp only [Nat.zero_add]
 rcases Nat.lt_trichotomy k j with hlt | rfl | hgt
 ·rw [decide_eq_true hlt]
  rcases pairs_at hpair hlt hk hj with h | h
  ·exact hpre k h
  ·have := (ind_dst h).1 t hd; rw [this.1] at ht; cases ht
 ·rw [hD]; simp
 ·rw [decide_eq_false (by omega)]
  rcases pairs_at hpair hgt hj hk with h | h
  ·cases hDk : D k with
   | false => rfl
   | true => have := hcl k hDk j h; rw [hD] at this; cases this
  ·have := (ind_dst h).2.1 t hd; rw [this] at ht; cases ht
theorem look_bx {j : Nat} {e : Ef} (hj : es[j]? = some e) (hD : D j = false) (hpre : ∀ i ∈ anc.getD j [], D i = true) {t : Nat} (ht : e.K.contains t = true) (bx : Bx) : bxF es D 0 bx t = bxF es (fun m => decide (m < 0 + j)) 0 bx t := by
 refine bxF_ext es 0 bx bx rfl (fun k e' hk hd => ?_)
 simp only [Nat.zero_add]
 rcases Nat.lt_trichotomy k j with hlt | rfl | hgt
 ·rw [decide_eq_true hlt]
  rcases pairs_at hpair hlt hk hj with h | h
  ·exact hpre k h
  ·have := (ind_dst h).2.2.1 t hd; rw [this.1] at ht; cases ht
 ·rw [hD]; simp
 ·rw [decide_eq_false (by omega)]
  rcases pairs_at hpair hgt hj hk with h | h
  ·cases hDk : D k with
   | false => rfl
   | true => have := hcl k hDk j h; rw [hD] at this; cases this
  ·have := (ind_dst h).2.2.2 t hd; rw [this] at ht; cases ht
theorem with_tm {D' : Nat → Bool} {j : Nat} {e : Ef} (hj : es[j]? = some e) (hD : D j = false) (hD' : ∀ k, D' k = (D k || k == j)) (tm : Tm) : tmF es D' 0 tm = upd (tmF es D 0 tm) e.dst e.E.val := by
 funext t
 simp only [upd]
 split
 ·rename_i ht
  refine tmF_last es 0 j tm e hj ht (by rw [Nat.zero_add, hD']; simp) (fun k e' hk hk' he => ?_)
  rw [Nat.zero_add, hD']
  have hne : (k == j) = false := by simp; omega
  rw [hne, Bool.or_false]
  rcases pairs_at hpair hk hj hk' with h | h
  ·cases hDk : D k with
   | false => rfl
   | true => have := hcl k hDk j h; rw [hD] at this; cases this
  ·exact absurd he ((ind_dst h).1 t ht).2
 ·rename_i ht
  refine tmF_ext es 0 tm tm rfl (fun k e' hk he => ?_)
  rw [Nat.zero_add, hD']
  have hne : k ≠ j := fun h => by subst h; rw [hj] at hk; injection hk with hk; subst hk; exact ht he
  have : (k == j) = false := by simpa using hne
  rw [this, Bool.or_false]
theorem with_bx {D' : Nat → Bool} {j : Nat} {e : Ef} (hj : es[j]? = some e) (hD : D j = false) (hD' : ∀ k, D' k = (D k || k == j)) (bx : Bx) : bxF es D' 0 bx = updB (bxF es D 0 bx) e.E.del e.E.ins := by
 funext t
 by_cases ht : hits e t = true
 ·refine bxF_last (bxF es D 0 bx) es 0 j bx e hj ht (by rw [Nat.zero_add, hD']; simp) (fun k e' hk hk' he => ?_)
  rw [Nat.zero_add, hD']
  have hne : (k == j) = false := by simp; omega
  rw [hne, Bool.or_false]
  rcases pairs_at hpair hk hj hk' with h | h
  ·cases hDk : D k with
   | false => rfl
   | true => have := hcl k hDk j h; rw [hD] at this; cases this
  ·have := ((ind_dst h).2.2.1 t ht).2; rw [this] at he; cases he
 ·rw [updB_ne (by simpa using ht)]
  refine bxF_ext es 0 bx bx rfl (fun k e' hk he => ?_)
  rw [Nat.zero_add, hD']
  have hne : k ≠ j := fun h => by subst h; rw [hj] at hk; injection hk with hk; subst hk; exact ht he
  have : (k == j) = false := by simpa using hne
  rw [this, Bool.or_false]
end
end
theorem tmF_val {D : Nat → Bool} {t : Nat} : ∀ (es : List Ef) (i : Nat) (tm : Tm), tmF es D i tm t = tm t ∨ ∃ k e, es[k]? = some e ∧ D (i + k) = true ∧ tmF es D i tm t = e.E.val
 | [], _, _ => .inl rfl
 | e :: es, i, tm => by
  simp only [tmF]
  rcases tmF_val (D := D) (t := t) es (i + 1) (if D i then upd tm e.dst e.E.val else tm) with h | ⟨k, e', h1, h2, h3⟩
  ·rw [h]
   split
   ·rename_i hD
    by_cases hd : e.dst = some t
    ·exact .inr ⟨0, e, rfl, by simpa using hD, by simp [upd, hd]⟩
    ·exact .inl (by simp [upd, hd])
   ·exact .inl rfl
  ·exact .inr ⟨k + 1, e', by simpa using h1, by rwa [show i + (k + 1) = i + 1 + k by omega], h3⟩
theorem bxF_val {D : Nat → Bool} {b : Nat} {B : Box} : ∀ (es : List Ef) (i : Nat) (bx : Bx), bxF es D i bx b = some B → bx b = some B ∨ ∃ k e, es[k]? = some e ∧ D (i + k) = true ∧ lkp e.E.ins b = some B
 | [], _, _, h => .inl h
 | e :: es, i, bx, h => by
  simp only [bxF] at h
  rcases bxF_val (D := D) es (i + 1) _ h with h | ⟨k, e', h1, h2, h3⟩
  ·split at h
   ·rename_i hD
    unfold updB at h
    split at h
    ·rename_i B0 hi
     simp only [Option.some.injEq] at h
     subst h
     exact .inr ⟨0, e, rfl, by simpa using hD, hi⟩
    ·split at h
     ·cases h
     ·exact .inl h
   ·exact .inl h
  ·exact .inr ⟨k + 1, e', by simpa using h1, by rwa [show i + (k + 1) = i + 1 + k by omega], h3⟩
section
variable {P : Program} {I : World → Prop} {w0 : World} {ow : Own} {N kb : Nat} {tm : Tm} {bx : Bx} {tt : TypeId → Option Ty} {cs : List (Nat × CI)} {ops : Array Oper} {gd : List (Nat × Bool)} {dead ks : List Nat} {es : List Ef} {anc : List (List Nat)} {C : Prop}
theorem restr_some {α : Type} {f : Nat → Option α} {l : List Nat} {t : Nat} {x : α} (h : restr f l t = some x) : f t = some x := by
 simp only [restr] at h
 split at h
 ·exact h
 ·cases h
theorem BoxR.one {fz : Nat → Prop} {η : Nat → Option Value} {w : World} {u : Value} {B : Box} (hr : BoxR w fz η u B) : u.oneCell' = true := by
 cases B with
 | var l => obtain ⟨g, C, e, rfl, _⟩ := hr; rfl
 | any => exact hr
 | full e τ xs => obtain ⟨⟨cs, ho, _⟩, _⟩ := hr; rcases ho.2 with ⟨rfl, _⟩ | ⟨g, cap, cur, rfl, _⟩ <;> rfl
 | sl e τ xs => obtain ⟨cs, ho, _⟩ := hr; rcases ho.2 with ⟨rfl, _⟩ | ⟨g, cap, cur, rfl, _⟩ <;> rfl
theorem Sim.weakenG {η : Nat → Option Value} {tm' : Tm} {bx' : Bx} {a : Act} {w : World} (s : Sim N w0 ow η tm bx a w) (h1 : ∀ t x, tm' t = some x → tm t = some x) (h2 : ∀ b B, bx' b = some B → bx b = some B ∨ B = .any ∧ (bx b).isSome = true) : Sim N w0 ow η tm' bx' a w :=
 ⟨s.size, s.nod, s.frame, fun t x h => s.tmp t x (h1 t x h), fun b B h => by
  rcases h2 b B h with h3 | ⟨rfl, h3⟩
  ·exact s.dom b B h3
  ·obtain ⟨B, hB⟩ := Option.isSome_iff_exists.1 h3
   obtain ⟨u, hu, hr⟩ := s.dom b B hB
   exact ⟨u, hu, hr.one⟩, s.new, s.apart, s.pin, s.pinlt⟩
theorem restrG_some {f : Bx} {K G : List Nat} {b : Nat} {B : Box} (h : restrG f K G b = some B) : f b = some B ∨ B = .any ∧ (f b).isSome = true := by
 simp only [restrG] at h
 split at h
 ·exact .inl h
 ·split at h
  ·right
   rw [Option.map_eq_some_iff] at h
   obtain ⟨B0, hB, rfl⟩ := h
   exact ⟨rfl, by rw [hB]; rfl⟩
  ·cases h
theorem ment_at (h : mentOk es anc ks kb = true) {i : Nat} {e : Ef} (he : es[i]? = some e) : (∀ k ∈ nk (kb + i), ks.contains k = false ∧ 1000 ≤ k) ∧ sub (optKeys e.E.val ++ insKeys e.E.ins) (ks ++ (i :: anc.getD i []).flatMap fun m => nk (kb + m)) = true := by
 have hi : i < es.length := (List.getElem?_eq_some_iff.1 he).1
 have h1 := List.all_eq_true.1 h i (by simp [hi])
 rw [he] at h1
 simp only [Bool.and_eq_true] at h1
 exact ⟨fun k hk => by simpa using List.all_eq_true.1 h1.1 k hk, h1.2⟩
theorem nk_inj {a b k : Nat} (ha : a < 1000000) (hb : b < 1000000) (h1 : k ∈ nk a) (h2 : k ∈ nk b) : a = b := by
 simp only [nk, List.mem_cons, List.not_mem_nil, or_false] at h1 h2
 omega
theorem fresh_at (h : mentOk es anc ks kb = true) (hlim : kb + es.length ≤ 1000000) (hancl : ∀ j, j < es.length → ∀ i ∈ anc.getD j [], i < j) (hinv : Inv ks tm bx) {D : Nat → Bool} (hcl : ∀ j, D j = true → ∀ i ∈ anc.getD j [], D i = true) {i : Nat} {e : Ef} (he : es[i]? = some e) (hD : D i = false) : ∀ key ∈ nk (kb + i), Fresh key (tmF es D 0 tm) (bxF es D 0 bx) := by
 intro key hkey
 obtain ⟨hk, _⟩ := ment_at h he
 obtain ⟨hk, h1000⟩ := hk key hkey
 have hil : i < es.length := (List.getElem?_eq_some_iff.1 he).1
 have no : ∀ k e', es[k]? = some e' → D k = true → key ∈ optKeys e'.E.val ++ insKeys e'.E.ins → False := by
  intro k e' hk' hDk hmem
  have hkl : k < es.length := (List.getElem?_eq_some_iff.1 hk').1
  have h2 := sub_mem (ment_at h hk').2 hmem
  have h3 : key ∈ ks ++ (k :: anc.getD k []).flatMap fun m => nk (kb + m) := by simpa using h2
  rw [List.mem_append] at h3
  rcases h3 with h3 | h3
  ·have : ks.contains key = true := by simpa using h3
   rw [hk] at this; cases this
  ·rw [List.mem_flatMap] at h3
   obtain ⟨m, hm, hm2⟩ := h3
   have hml : m < es.length := by
    rcases List.mem_cons.1 hm with rfl | hm
    ·exact hkl
    ·have := hancl k hkl m hm; omega
   have : kb + m = kb + i := nk_inj (by omega) (by omega) hm2 hkey
   have : m = i := by omega
   subst this
   rcases List.mem_cons.1 hm with rfl | hm
   ·rw [hD] at hDk; cases hDk
   ·have := hcl k hDk m hm; rw [hD] at this; cases this
 refine ⟨fun t av ht => ?_, fun b B hB => ?_, h1000⟩
 ·cases hm : ment key av with
  | false => rfl
  | true =>
   exfalso
   rcases tmF_val (D := D) (t := t) es 0 tm with h1 | ⟨k, e', h1, h2, h3⟩
   ·rw [h1] at ht
    have := hinv.1 t av ht _ hm
    rw [hk] at this; cases this
   ·rw [h3] at ht
    rw [Nat.zero_add] at h2
    exact no k e' h1 h2 (by rw [ht]; exact List.mem_append_left _ (mem_keysA av hm))
 ·cases hm : mentB key B with
  | false => rfl
  | true =>
   exfalso
   rcases bxF_val (D := D) es 0 bx hB with h1 | ⟨k, e', h1, h2, h3⟩
   ·have := hinv.2 b B h1 _ hm
    rw [hk] at this; cases this
   ·rw [Nat.zero_add] at h2
    exact no k e' h1 h2 (List.mem_append_right _ (insKeys_mem h3 (mem_keysB hm)))
theorem anc_lt {ops : List Oper} {anc : List (List Nat)} (h : ancOk ops anc = true) : ∀ (j : Nat), j < ops.length → ∀ i ∈ anc.getD j [], i < j := by
 intro j
 induction j using Nat.strongRecOn with
 | _ j ih =>
  intro hj i hi
  have h1 := List.all_eq_true.1 h j (by simp [hj])
  rw [List.getElem?_eq_getElem hj] at h1
  simp only [Bool.and_eq_true, List.all_eq_true, decide_eq_true_eq, List.any_eq_true, Bool.or_eq_true, beq_iff_eq] at h1
  obtain ⟨e, he, hh⟩ := h1.2 i hi
  have hlt := h1.1 e he
  rcases hh with rfl | hh
  ·exact hlt
  ·have := ih e hlt (by omega) i (by simpa using hh); omega
theorem count_set {l : Array Bool} {n i : Nat} (hn : l.size = n) (hi : i < n) (hl : Dn l i = false) {f : Nat} (h : (List.range n).countP (fun k => !Dn l k) = f + 1) : (List.range n).countP (fun k => !Dn (l.setIfInBounds i true) k) = f := by
 have e : ∀ k, Dn (l.setIfInBounds i true) k = (Dn l k || k == i) := Dn_set (by omega)
 have key : ∀ m, (List.range m).countP (fun k => !Dn l k) = (List.range m).countP (fun k => !(Dn l k || k == i)) + (if i < m then 1 else 0) := by
  intro m
  induction m with
  | zero => simp
  | succ m ih =>
   rw [List.range_succ, List.countP_append, List.countP_append, ih]
   by_cases him : m = i
   ·subst him
    simp [hl]
   ·have : (m == i) = false := by simpa using him
    simp only [List.countP_cons, List.countP_nil, this, Bool.or_false]
    by_cases h1 : i < m
    ·simp only [if_pos h1, if_pos (show i < m + 1 by omega)]; omega
    ·simp only [if_neg h1, if_neg (show ¬ i < m + 1 by omega)]; omega
 have := key n
 rw [if_pos hi, h] at this
 simp only [e]; omega
theorem draw_any {Q : Exit → Act → World → Prop} (hcs : Cons P I cs) (hI : ∀ w', Fr ow w0 w' → I w') (hrun : runD P tt ops cs gd dead kb 0 ops.toList tm bx = some (C, es)) (hC : C) (hchk : chkD N ops.toList es anc ks dead kb bx = true) (hinv : Inv ks tm bx)
  (hn : (∀ e ∈ es, e.th = none) → ∀ η' a' w', Sim N w0 ow η' (tmF es (fun _ => true) 0 tm) (bxF es (fun _ => true) 0 bx) a' w' → Q .normal a' w')
  (ht : ∀ e ∈ es, ∀ v, e.th = some v → ∀ η' tm' bx' a' w', Sim N w0 ow η' tm' bx' a' w' → Q (.panic [{ v, recovered := false }]) a' w') :
  ∀ (fuel : Nat) (l : Array Bool) (η : Nat → Option Value) (a : Act) (w : World), l.size = ops.size → Closed ops (Dn l) → (∀ i e, Dn l i = true → es[i]? = some e → e.th = none ∧ e.dead = false) → (List.range ops.size).countP (fun i => !Dn l i) = fuel →
  Sim N w0 ow η (tmF es (Dn l) 0 tm) (bxF es (Dn l) 0 bx) a w → wpAny P .any ops Q fuel l a w := by
 obtain ⟨hlen, hat⟩ := runD_at ops.toList 0 tm bx C es hrun hC
 simp only [chkD, Bool.and_eq_true] at hchk
 obtain ⟨⟨⟨⟨⟨⟨hlim, hanc⟩, hpair⟩, hment⟩, hdead⟩, hdst⟩, hgok⟩ := hchk
 have hlim : kb + es.length ≤ 1000000 := by simpa using hlim
 have hancl : ∀ j, j < es.length → ∀ i ∈ anc.getD j [], i < j := fun j hj => anc_lt hanc j (by omega)
 have hszD : ∀ (l : Array Bool), l.size = ops.size → ∀ j, Dn l j = true → j < ops.size := fun l hl j hj => by
  rcases Nat.lt_or_ge j l.size with h | h
  ·omega
  ·unfold Dn at hj
   rw [Array.getD_eq_getD_getElem?, Array.getElem?_eq_none h] at hj
   cases hj
 intro fuel
 induction fuel with
 | zero =>
  intro l η a w hl hc hth hcount s
  have hall : ∀ i, i < ops.size → Dn l i = true := fun i hi => by
   have := List.countP_eq_zero.1 hcount i (by simp [hi])
   simpa using this
  have hready : Region.ready .any ops l = [] := by
   unfold Region.ready
   rw [List.filter_eq_nil_iff]
   intro i hi
   have hi' : i < ops.size := by simpa using hi
   have h1 := hall i hi'
   have : l.getD i true = true := by
    unfold Dn at h1
    rw [Array.getD_eq_getD_getElem?, Array.getElem?_eq_getElem (by omega)] at h1 ⊢
    exact h1
   simp [this]
  refine ⟨hready, hn (fun e he => ?_) η a w ?_⟩
  ·obtain ⟨i, hi⟩ := List.getElem?_of_mem he
   have hlt : i < ops.size := by have := (List.getElem?_eq_some_iff.1 hi).1; simp at hlen; omega
   exact (hth i e (hall i hlt) hi).1
  ·have e1 : tmF es (Dn l) 0 tm = tmF es (fun _ => true) 0 tm := by
    funext t; refine tmF_ext es 0 tm tm rfl (fun k e hk _ => ?_)
    have hlt : k < ops.size := by have := (List.getElem?_eq_some_iff.1 hk).1; simp at hlen; omega
    rw [Nat.zero_add]; exact hall k hlt
   have e2 : bxF es (Dn l) 0 bx = bxF es (fun _ => true) 0 bx := by
    funext t; refine bxF_ext es 0 bx bx rfl (fun k e hk _ => ?_)
    have hlt : k < ops.size := by have := (List.getElem?_eq_some_iff.1 hk).1; simp at hlen; omega
    rw [Nat.zero_add]; exact hall k hlt
   rw [← e1, ← e2]; exact s
 | succ fuel ih =>
  intro l η a w hl hc hth hcount s
  -- what is ready
  have hrd : ∀ i, i ∈ Region.ready .any ops l ↔ i < ops.size ∧ Dn l i = false ∧ ∀ o, ops[i]? = some o → ∀ e ∈ edges o, Dn l e = true := by
   intro i
   unfold Region.ready
   rw [List.mem_filter]
   constructor
   ·rintro ⟨h1, h2⟩
    have hi : i < ops.size := by simpa using h1
    have ho : ops[i]? = some ops[i] := Array.getElem?_eq_getElem hi
    rw [ho] at h2
    simp only [Bool.and_eq_true, Bool.not_eq_true', Option.map_some, Option.getD_some] at h2
    refine ⟨hi, ?_, fun o ho' e he => ?_⟩
    ·have := h2.1
     unfold Dn
     rw [Array.getD_eq_getD_getElem?, Array.getElem?_eq_getElem (by omega)] at this ⊢
     exact this
    ·rw [ho] at ho'
     injection ho' with ho'
     subst ho'
     simp only [edges, List.mem_map, List.mem_filter] at he
     obtain ⟨e0, ⟨h3, h4⟩, rfl⟩ := he
     have h5 := Array.all_eq_true'.1 h2.2 e0 (by simpa using h3)
     simp only [h4, Bool.not_true, Bool.false_or] at h5
     exact h5
   ·rintro ⟨hi, h2, h3⟩
    have ho : ops[i]? = some ops[i] := Array.getElem?_eq_getElem hi
    refine ⟨by simpa using hi, ?_⟩
    rw [ho]
    simp only [Bool.and_eq_true, Bool.not_eq_true', Option.map_some, Option.getD_some]
    refine ⟨?_, Array.all_eq_true'.2 fun e0 he0 => ?_⟩
    ·unfold Dn at h2
     rw [Array.getD_eq_getD_getElem?, Array.getElem?_eq_getElem (by omega)] at h2 ⊢
     exact h2
    ·by_cases hb : Region.binds .any e0 = true
     ·have := h3 _ ho e0.on (by simp only [edges, List.mem_map, List.mem_filter]; exact ⟨e0, ⟨by simpa using he0, hb⟩, rfl⟩)
      unfold Dn at this
      simp [hb, this]
     ·simp [hb]
  have hclA : ∀ j, Dn l j = true → ∀ i ∈ anc.getD j [], Dn l i = true := fun j hj i hi => by
   have hlt := hszD l hl j hj
   have ho : ops[j]? = some ops[j] := Array.getElem?_eq_getElem hlt
   exact anc_in hanc hc (hszD l hl) j _ ho (fun e he => hc j _ hj ho e he) i hi
  refine ⟨fun hnil => ?_, fun i hi => ?_⟩
  ·exfalso
   have hex : ∃ i, i < ops.size ∧ Dn l i = false := by
    have hpos : 0 < (List.range ops.size).countP (fun i => !Dn l i) := by omega
    obtain ⟨i, h1, h2⟩ := List.countP_pos_iff.1 hpos
    exact ⟨i, by simpa using h1, by simpa using h2⟩
   have hmin : ∀ m, (∃ i, i < m ∧ i < ops.size ∧ Dn l i = false) → ∃ i, i < ops.size ∧ Dn l i = false ∧ ∀ k, k < i → k < ops.size → Dn l k = true := by
    intro m
    induction m with
    | zero => rintro ⟨i, h, _⟩; omega
    | succ m ihm =>
     rintro ⟨i, h1, h2, h3⟩
     by_cases hx : ∃ i, i < m ∧ i < ops.size ∧ Dn l i = false
     ·exact ihm hx
     ·refine ⟨i, h2, h3, fun k hk hk2 => ?_⟩
      cases hDk : Dn l k with
      | true => rfl
      | false => exact absurd ⟨k, by omega, hk2, hDk⟩ hx
   obtain ⟨i, h1, h2⟩ := hex
   obtain ⟨i, h1, h2, h3⟩ := hmin ops.size ⟨i, h1, h1, h2⟩
   have : i ∈ Region.ready .any ops l := (hrd i).2 ⟨h1, h2, fun o ho e he => h3 e ((anc_edge hanc ho).1 e he) (by have := (anc_edge hanc ho).1 e he; omega)⟩
   rw [hnil] at this; cases this
  ·obtain ⟨hi1, hDi, hedge⟩ := (hrd i).1 hi
   have ho : ops[i]? = some ops[i] := Array.getElem?_eq_getElem hi1
   obtain ⟨e, he, hh⟩ := hat i ops[i] (by rw [Array.getElem?_toList]; exact ho)
   rw [Nat.zero_add] at hh
   have hpre : ∀ k ∈ anc.getD i [], Dn l k = true := anc_in hanc hc (hszD l hl) i _ ho (hedge _ ho)
   rcases hh with ⟨_, hd⟩ | ⟨hnd, Ck, hop, hCk⟩
   ·exfalso
    have h1 := List.all_eq_true.1 hdead i (by simpa using hd)
    obtain ⟨k, hk, h2⟩ := List.any_eq_true.1 h1
    have hDk := hpre k hk
    split at h2
    ·rename_i e' he'
     rw [(hth k e' hDk he').1] at h2; cases h2
    ·cases h2
   ·have hT := fun t ht => (look_tm (D := Dn l) hpair hclA he hDi hpre (t := t) ht tm).symm
    have hB := fun t ht => (look_bx (D := Dn l) hpair hclA he hDi hpre (t := t) ht bx).symm
    simp only [Nat.zero_add] at hT hB
    have hjes : i < es.length := (List.getElem?_eq_some_iff.1 he).1
    have hG := fun t (ht : e.G.contains t = true) => (gOk_live hgok he ht (D := fun m => decide (m < i)) (by simp) (fun k hk => by have := hancl i hjes k hk; simpa using this) (fun k hk m hm => by
     have hk2 : k < i := by simpa using hk
     have := hancl k (by omega) m hm
     simp; omega)).trans (gOk_live hgok he ht (D := Dn l) hDi hpre hclA).symm
    have hop2 := opD_ext hop hT hB hG
    have hfresh := fresh_at hment hlim hancl hinv hclA he hDi
    obtain ⟨hT1, hK1, hG1, hdstE, hdeadE⟩ := opDc_TK hop2
    have hdstN : dstOk N ops[i] = true := List.all_eq_true.1 hdst ops[i] (by simp)
    -- behind the operation
    have next : ∀ η' a' w', e.th = none → Sim N w0 ow η' (upd (tmF es (Dn l) 0 tm) ops[i].dst e.E.val) (updB (bxF es (Dn l) 0 bx) e.E.del e.E.ins) a' w' → wpAny P .any ops Q fuel (l.setIfInBounds i true) a' w' := by
     intro η' a' w' hnt hs
     have hset := Dn_set (l := l) (i := i) (by omega)
     refine ih (l.setIfInBounds i true) η' a' w' (by simpa using hl) (fun j o hj hoj e' he' => ?_) (fun k e' hk hek => ?_) (count_set hl hi1 hDi hcount) ?_
     ·rw [hset] at hj ⊢
      simp only [Bool.or_eq_true, beq_iff_eq] at hj ⊢
      rcases hj with hj | rfl
      ·exact .inl (hc j o hj hoj e' he')
      ·exact .inl (hedge o hoj e' he')
     ·rw [hset] at hk
      simp only [Bool.or_eq_true, beq_iff_eq] at hk
      rcases hk with hk | rfl
      ·exact hth k e' hk hek
      ·rw [he] at hek; injection hek with hek; subst hek; exact ⟨hnt, hdeadE⟩
     ·rw [with_tm hpair hclA he hDi hset, with_bx hpair hclA he hDi hset, hdstE]; exact hs
    have sr : ∀ T K G, Sim N w0 ow η (restr (tmF es (Dn l) 0 tm) T) (restrG (bxF es (Dn l) 0 bx) K G) a w := fun T K G => s.weakenG (fun t x h => restr_some h) (fun b B h => restrG_some h)
    have hm0 : ∀ T, ∀ k ∈ nk (kb + i), ∀ x y, evalA (restr (tmF es (Dn l) 0 tm) T) x = some y → ment k y = false := fun T k hk x y hy => by
     have hf2 : Fresh k (restr (tmF es (Dn l) 0 tm) T) (fun _ => none) := ⟨fun t av h => (hfresh k hk).1 t av (restr_some h), (fun b B h => by cases h), (hfresh k hk).2.2⟩
     exact hf2.ev hy
    have mem : e ∈ es := List.mem_of_getElem? he
    have run : ∀ (p : Wr × Option Value), opE P tt cs gd (kb + i) i ops[i] (restr (tmF es (Dn l) 0 tm) (opT ops ops[i])) (restrG (bxF es (Dn l) 0 bx) (opK ops[i] (opT ops ops[i]) (restr (tmF es (Dn l) 0 tm) (opT ops ops[i])) (bxF es (Dn l) 0 bx)) (opG ops[i] (restr (tmF es (Dn l) 0 tm) (opT ops ops[i])))) = some p → p.1 = e.E → p.2 = e.th → e.E.cond →
      ops[i].wp P a w (wpAny P .any ops Q fuel (l.setIfInBounds i true)) Q := by
     rintro ⟨E, th⟩ hE rfl rfl hcond
     refine opE_ok s (sr _ _ _) (hm0 _) hE hcond hfresh hcs hI hdstN (fun hnt η' a' w' hs => next η' a' w' hnt hs) (fun v hv η2 tm2 bx2 w' hs _ => ht e mem v hv η2 tm2 bx2 a w' hs)
    unfold wpOp
    rw [ho]
    simp only
    have hop3 := hop2
    unfold opD opDc at hop3
    simp only at hop3
    split at hop3
    ·rename_i hg
     rw [if_pos (by simp [Region.wanted, hg])]
     simp only [Option.map_eq_some_iff, Prod.mk.injEq] at hop3
     obtain ⟨p, hp, h1, h2⟩ := hop3
     subst h1 h2
     exact .inl (run p hp rfl rfl hCk)
    ·rename_i j want hg
     split at hop3
     ·rename_i b hb hgd
      simp only [Option.map_eq_some_iff, Prod.mk.injEq] at hop3
      obtain ⟨q, ⟨p, hp, hq⟩, h1, h2⟩ := hop3
      subst hq h1 h2
      have hy := yielded_lit (sr _ [] []) hb
      rw [if_pos (by simp [Region.wanted, hg, hy, hCk.1])]
      exact .inl (run p hp rfl rfl hCk.2)
     ·rename_i b hb hgd
      simp only [Option.some.injEq, Prod.mk.injEq] at hop3
      obtain ⟨h1, h2⟩ := hop3
      subst h1
      have hy := yielded_lit (sr _ [] []) hb
      rw [if_neg (by simp [Region.wanted, hg, hy, hCk])]
      have hv : e.E = ⟨True, some undA, [], [], false⟩ := by rw [← h2]
      have hth0 : e.th = none := by rw [← h2]
      refine next η _ w hth0 ?_
      rw [hv]
      simp only
      rw [updB_nil]
      exact s.put (dstOk_lt hdstN) (fun x hx => by simp only [Option.some.injEq] at hx; subst hx; exact .lit _)
     ·rename_i l hb
      simp only [Option.some.injEq, Prod.mk.injEq] at hop3
      obtain ⟨h1, h2⟩ := hop3
      subst h1
      have hy := yielded_und (sr _ [] []) hb
      rw [if_neg (by simp [Region.wanted, hg, hy])]
      have hv : e.E = ⟨True, some undA, [], [], false⟩ := by rw [← h2]
      have hth0 : e.th = none := by rw [← h2]
      refine next η _ w hth0 ?_
      rw [hv]
      simp only
      rw [updB_nil]
      exact s.put (dstOk_lt hdstN) (fun x hx => by simp only [Option.some.injEq] at hx; subst hx; exact .lit _)
     ·cases hop3
theorem Dn_rep (n i : Nat) : Dn (Array.replicate n false) i = false := by
 unfold Dn
 rw [Array.getD_eq_getD_getElem?, Array.getElem?_replicate]
 split <;> rfl
theorem draw_ok {Q : Exit → Act → World → Prop} {id : Nat} {η : Nat → Option Value} {a : Act} {w : World} (hmix : P.follows .mixedOrders = true) (hcs : Cons P I cs) (hI : ∀ w', Fr ow w0 w' → I w') (hrun : runD P tt ops cs gd dead kb 0 ops.toList tm bx = some (C, es)) (hC : C)
  (hchk : chkD N ops.toList es anc ks dead kb bx = true) (hinv : Inv ks tm bx) (s : Sim N w0 ow η tm bx a w)
  (hn : (∀ e ∈ es, e.th = none) → ∀ η' a' w', Sim N w0 ow η' (tmF es (fun _ => true) 0 tm) (bxF es (fun _ => true) 0 bx) a' w' → Q .normal a' w')
  (ht : ∀ e ∈ es, ∀ v, e.th = some v → ∀ η' tm' bx' a' w', Sim N w0 ow η' tm' bx' a' w' → Q (.panic [{ v, recovered := false }]) a' w') : (Code.region id ops true).wp P Q a w := by
 refine wp_region_any hmix (draw_any hcs hI hrun hC hchk hinv hn ht ops.size (Array.replicate ops.size false) η a _ (by simp) (fun j o hj => ?_) (fun i e hi => ?_) ?_ ?_)
 ·rw [Dn_rep] at hj; cases hj
 ·rw [Dn_rep] at hi; cases hi
 ·rw [List.countP_eq_length.2]
  ·simp
  ·intro k hk; rw [Dn_rep]; rfl
 ·have e1 : tmF es (Dn (Array.replicate ops.size false)) 0 tm = tm := by funext t; exact tmF_none es 0 tm (fun k e _ _ => Dn_rep _ _)
  have e2 : bxF es (Dn (Array.replicate ops.size false)) 0 bx = bx := by funext t; exact bxF_none es 0 bx (fun k e _ _ => Dn_rep _ _)
  rw [e1, e2]
  exact s.below (Below.drew (Below.refl _ _))
end
inductive Lv where
 | norm | exit (id : Nat) | ret | thr (v : Value)
structure RI where
 cs : List (Nat × CI)
 gd : List (Nat × Bool)
 dead : List Nat
structure Way where
 C : Prop
 lv : Lv
 tm : Tm
 bx : Bx
 ks : List Nat
 bs : List Bool
def ancs (ops : List Oper) : List (List Nat) := ops.foldl (fun acc o => acc ++ [(edges o).flatMap fun e => e :: acc.getD e []]) []
def thOf : List Ef → Option Value
 | [] => none
 | e :: es => match e.th with
  | some v => some v
  | none => thOf es
def oneTh (es : List Ef) : Bool := (es.filter (fun e => e.th.isSome)).length ≤ 1
def newKeys (kb n : Nat) : List Nat := (List.range n).flatMap fun m => nk (kb + m)
def runR (P : Program) (tt : TypeId → Option Ty) (N : Nat) (ri : RI) (kb : Nat) (ops : Array Oper) (draw : Bool) (tm : Tm) (bx : Bx) (ks : List Nat) : Option (Prop × RO × List Nat) :=
  if draw then
    match runD P tt ops ri.cs ri.gd ri.dead kb 0 ops.toList tm bx with
    | some (C, es) => if chkD N ops.toList es (ancs ops.toList) ks ri.dead kb bx = true ∧ oneTh es = true then
        match thOf es with
        | some v => some (C, .thr v (fun _ => none) (fun _ => none), ks)
        | none => some (C, .norm (tmF es (fun _ => true) 0 tm) (bxF es (fun _ => true) 0 bx), ks ++ newKeys kb ops.size)
      else none
    | none => none
  else match runL P tt N ops ri.cs ri.gd kb 0 ops.toList tm bx ks with
    | some (C, r) => some (C, r, ks ++ newKeys kb ops.size)
    | none => none
def runC (P : Program) (tt : TypeId → Option Ty) (N : Nat) (rs : List (Nat × RI)) : Code → Tm → Bx → List Nat → List Bool → Option Way
 | .skip, tm, bx, ks, bs => some ⟨True, .norm, tm, bx, ks, bs⟩
 | .label _, tm, bx, ks, bs => some ⟨True, .norm, tm, bx, ks, bs⟩
 | .ret, tm, bx, ks, bs => some ⟨True, .ret, tm, bx, ks, bs⟩
 | .exit id, tm, bx, ks, bs => some ⟨True, .exit id, tm, bx, ks, bs⟩
 | .region id ops draw, tm, bx, ks, bs =>
  match runR P tt N ((rs.lookup id).getD ⟨[], [], []⟩) (1000 * (id + 1)) ops draw tm bx ks with
  | some (C, .norm tm' bx', ks') => some ⟨C, .norm, tm', bx', ks', bs⟩
  | some (C, .thr v tm' bx', ks') => some ⟨C, .thr v, tm', bx', ks', bs⟩
  | none => none
 | .seq x y, tm, bx, ks, bs => match runC P tt N rs x tm bx ks bs with
  | some ⟨C, .norm, tm', bx', ks', bs'⟩ => match runC P tt N rs y tm' bx' ks' bs' with
   | some W => some ⟨C ∧ W.C, W.lv, W.tm, W.bx, W.ks, W.bs⟩
   | none => none
  | some W => some W
  | none => none
 | .cond c x y, tm, bx, ks, bs => match evalA tm c, bs with
  | some (.lit (.bool b)), true :: bs' => match runC P tt N rs x tm bx ks bs' with
   | some W => some ⟨b = true ∧ W.C, W.lv, W.tm, W.bx, W.ks, W.bs⟩
   | none => none
  | some (.lit (.bool b)), false :: bs' => match runC P tt N rs y tm bx ks bs' with
   | some W => some ⟨b = false ∧ W.C, W.lv, W.tm, W.bx, W.ks, W.bs⟩
   | none => none
  | _, _ => none
 | .block id x, tm, bx, ks, bs => match runC P tt N rs x tm bx ks bs with
  | some ⟨C, .exit j, tm', bx', ks', bs'⟩ => if j = id then some ⟨C, .norm, tm', bx', ks', bs'⟩ else some ⟨C, .exit j, tm', bx', ks', bs'⟩
  | some W => some W
  | none => none
 | _, _, _, _, _ => none
def AllCons (P : Program) (I : World → Prop) : List (Nat × RI) → Prop
 | [] => True
 | (_, ri) :: l => Cons P I ri.cs ∧ AllCons P I l
theorem AllCons.of {P : Program} {I : World → Prop} : ∀ {l : List (Nat × RI)} {i : Nat}, AllCons P I l → Cons P I ((l.lookup i).getD ⟨[], [], []⟩).cs
 | [], _, _ => trivial
 | (j, ri) :: l, i, h => by
  simp only [List.lookup]
  split
  ·exact h.1
  ·exact AllCons.of h.2
section
variable {P : Program} {I : World → Prop} {w0 : World} {ow : Own} {N : Nat} {tt : TypeId → Option Ty} {rs : List (Nat × RI)}
theorem Inv.more {ks ks' : List Nat} {tm : Tm} {bx : Bx} (h : Inv ks tm bx) : Inv (ks ++ ks') tm bx := by
 have up : ∀ b, ks.contains b = true → (ks ++ ks').contains b = true := fun b hb => by
  have : b ∈ ks := by simpa using hb
  simpa using (.inl this : b ∈ ks ∨ b ∈ ks')
 exact ⟨fun t av ht b hb => up b (h.1 t av ht b hb), fun b B hB b' hb' => up b' (h.2 b B hB b' hb')⟩
theorem newKeys_mem {kb n i k : Nat} (h : i < n) (hk : k ∈ nk (kb + i)) : k ∈ newKeys kb n := by
 simp only [newKeys, List.mem_flatMap, List.mem_range]
 exact ⟨i, h, hk⟩
theorem runL_inv {ops : Array Oper} {cs : List (Nat × CI)} {gd : List (Nat × Bool)} {kb n : Nat} : ∀ (l : List Oper) (i : Nat) (tm : Tm) (bx : Bx) (ks : List Nat) (C : Prop) (tm' : Tm) (bx' : Bx), runL P tt N ops cs gd kb i l tm bx ks = some (C, .norm tm' bx') → i + l.length ≤ n →
    ∀ base, (∀ b, ks.contains b = true → (base ++ newKeys kb n).contains b = true) → Inv ks tm bx → Inv (base ++ newKeys kb n) tm' bx'
  | [], i, tm, bx, ks, C, tm', bx', h, _, base, hb, hinv => by
    simp only [runL, Option.some.injEq, Prod.mk.injEq, RO.norm.injEq] at h
    obtain ⟨_, rfl, rfl⟩ := h
    exact ⟨fun t av ht b hm => hb b (hinv.1 t av ht b hm), fun b B hB b' hm => hb b' (hinv.2 b B hB b' hm)⟩
  | o :: rest, i, tm, bx, ks, C, tm', bx', h, hn, base, hb, hinv => by
    simp only [List.length_cons] at hn
    have hgo : ∀ C', (match opE P tt cs gd (kb + i) i o tm bx with
      | some (E, none) => if effOk (kb + i) ks E = true ∧ dstOk N o = true then
          (runL P tt N ops cs gd kb (i + 1) rest (upd tm o.dst E.val) (updB bx E.del E.ins) (if E.fresh then nk (kb + i) ++ ks else ks)).map fun p => (E.cond ∧ p.1, p.2) else none
      | some (E, some v) => if effOk (kb + i) ks E = true ∧ dstOk N o = true then some (E.cond, RO.thr v (if calB cs i then fun _ => none else tm) (if calB cs i then fun _ => none else bx)) else none
      | none => none) = some (C', .norm tm' bx') → Inv (base ++ newKeys kb n) tm' bx' := by
      intro C' hh
      split at hh
      · rename_i E hE
        split at hh
        · rename_i hc
          simp only [Option.map_eq_some_iff] at hh
          obtain ⟨⟨C2, r2⟩, h2, h3⟩ := hh
          simp only [Prod.mk.injEq] at h3
          obtain ⟨_, rfl⟩ := h3
          refine runL_inv rest (i + 1) _ _ _ C2 tm' bx' h2 (by omega) base (fun b hbb => ?_) (hinv.step hc.1 o.dst)
          split at hbb
          · have hbb' : b ∈ nk (kb + i) ++ ks := by simpa only [List.contains_iff_mem] using hbb
            rcases List.mem_append.1 hbb' with hbb | hbb
            · simp only [List.contains_iff_mem, List.mem_append]
              exact .inr (newKeys_mem (by omega) hbb)
            · exact hb b (by simpa using hbb)
          · exact hb b hbb
        · cases hh
      · split at hh
        · simp at hh
        · cases hh
      · cases hh
    simp only [runL] at h
    split at h
    · exact hgo C h
    · split at h
      · simp only [Option.map_eq_some_iff] at h
        obtain ⟨⟨C2, r2⟩, h2, h3⟩ := h
        simp only [Prod.mk.injEq] at h3
        obtain ⟨_, rfl⟩ := h3
        exact hgo C2 h2
      · split at h
        · simp only [Option.map_eq_some_iff] at h
          obtain ⟨⟨C2, r2⟩, h2, h3⟩ := h
          simp only [Prod.mk.injEq] at h3
          obtain ⟨_, rfl⟩ := h3
          exact runL_inv rest (i + 1) _ _ _ C2 tm' bx' h2 (by omega) base hb (hinv.und o.dst)
        · cases h
      · split at h
        · simp only [Option.map_eq_some_iff] at h
          obtain ⟨⟨C2, r2⟩, h2, h3⟩ := h
          simp only [Prod.mk.injEq] at h3
          obtain ⟨_, rfl⟩ := h3
          exact runL_inv rest (i + 1) _ _ _ C2 tm' bx' h2 (by omega) base hb (hinv.und o.dst)
        · cases h
      · cases h
theorem draw_inv {ops : List Oper} {es : List Ef} {anc : List (List Nat)} {ks dead : List Nat} {kb : Nat} {tm : Tm} {bx : Bx} (hchk : chkD N ops es anc ks dead kb bx = true) (hlen : es.length = ops.length) (hinv : Inv ks tm bx) :
  Inv (ks ++ newKeys kb ops.length) (tmF es (fun _ => true) 0 tm) (bxF es (fun _ => true) 0 bx) := by
 simp only [chkD, Bool.and_eq_true] at hchk
 obtain ⟨⟨⟨⟨⟨⟨_, hanc⟩, _⟩, hment⟩, _⟩, _⟩, _⟩ := hchk
 have up : ∀ (k : Nat) (e : Ef) (b : Nat), es[k]? = some e → b ∈ optKeys e.E.val ++ insKeys e.E.ins → (ks ++ newKeys kb ops.length).contains b = true := by
  intro k e b hk hb
  have hlt : k < ops.length := by have := (List.getElem?_eq_some_iff.1 hk).1; omega
  have h2 := sub_mem (ment_at hment hk).2 hb
  simp only [List.contains_iff_mem, List.mem_append, List.mem_flatMap] at h2 ⊢
  rcases h2 with h2 | ⟨m, hm, hm2⟩
  ·exact .inl h2
  ·right
   have hmn : m < ops.length := by
    rcases List.mem_cons.1 hm with rfl | hm
    ·exact hlt
    ·have := anc_lt hanc k hlt m hm; omega
   exact newKeys_mem hmn hm2
 have h0 := hinv.more (ks' := newKeys kb ops.length)
 refine ⟨fun t av ht b hm => ?_, fun b B hB b' hm => ?_⟩
 ·rcases tmF_val (D := fun _ => true) (t := t) es 0 tm with h1 | ⟨k, e, h1, _, h3⟩
  ·rw [h1] at ht; exact h0.1 t av ht b hm
  ·rw [h3] at ht; exact up k e b h1 (by rw [ht]; exact List.mem_append_left _ (mem_keysA av hm))
 ·rcases bxF_val (D := fun _ => true) es 0 bx hB with h1 | ⟨k, e, h1, _, h3⟩
  ·exact h0.2 b B h1 b' hm
  ·exact up k e b' h1 (List.mem_append_right _ (insKeys_mem h3 (mem_keysB hm)))
theorem thOf_none : ∀ {es : List Ef}, thOf es = none → ∀ e ∈ es, e.th = none
 | [], _, e, he => by simp at he
 | e0 :: es, h, e, he => by
  simp only [thOf] at h
  split at h
  ·cases h
  ·rename_i hn
   rcases List.mem_cons.1 he with rfl | he
   ·exact hn
   ·exact thOf_none h e he
theorem thOf_some : ∀ {es : List Ef} {v : Value}, thOf es = some v → oneTh es = true → ∀ e ∈ es, ∀ v', e.th = some v' → v' = v
 | [], v, h, _, e, he, _, _ => by simp at he
 | e0 :: es, v, h, ho, e, he, v', hv => by
  simp only [thOf] at h
  split at h
  ·rename_i v0 h0
   simp only [Option.some.injEq] at h
   subst h
   rcases List.mem_cons.1 he with rfl | he
   ·rw [h0] at hv; injection hv with hv; exact hv.symm
   ·exfalso
    unfold oneTh at ho
    simp only [List.filter_cons, h0, Option.isSome_some, if_true, List.length_cons, decide_eq_true_eq] at ho
    have : e ∈ es.filter (fun e => e.th.isSome) := List.mem_filter.2 ⟨he, by rw [hv]; rfl⟩
    have := List.length_pos_of_mem this
    omega
  ·rename_i hn
   rcases List.mem_cons.1 he with rfl | he
   ·rw [hn] at hv; cases hv
   ·refine thOf_some h ?_ e he v' hv
    unfold oneTh at ho ⊢
    simp only [List.filter_cons, hn, Option.isSome_none] at ho
    exact ho
def LvQ (N : Nat) (w0 : World) (ow : Own) (Q : Exit → Act → World → Prop) (W : Way) : Prop :=
 match W.lv with
 | .norm => ∀ η a w, Sim N w0 ow η W.tm W.bx a w → Inv W.ks W.tm W.bx → Q .normal a w
 | .exit id => ∀ η a w, Sim N w0 ow η W.tm W.bx a w → Inv W.ks W.tm W.bx → Q (.exit id) a w
 | .ret => ∀ η a w, Sim N w0 ow η W.tm W.bx a w → Inv W.ks W.tm W.bx → Q .ret a w
 | .thr v => ∀ η a w, Sim N w0 ow η W.tm W.bx a w → Q (.panic [{ v, recovered := false }]) a w
theorem runR_ok (hmix : P.follows .mixedOrders = true) {ri : RI} (hcs : Cons P I ri.cs) (hI : ∀ w', Fr ow w0 w' → I w') {id kb : Nat} {ops : Array Oper} {draw : Bool} {tm : Tm} {bx : Bx} {ks ks' : List Nat} {C : Prop} {r : RO} (h : runR P tt N ri kb ops draw tm bx ks = some (C, r, ks')) (hC : C) (hinv : Inv ks tm bx)
  {η : Nat → Option Value} {a : Act} {w : World} (s : Sim N w0 ow η tm bx a w) {Q : Exit → Act → World → Prop}
  (hn : ∀ tm' bx', r = .norm tm' bx' → Inv ks' tm' bx' → ∀ η' a' w', Sim N w0 ow η' tm' bx' a' w' → Q .normal a' w') (ht : ∀ v tm' bx', r = .thr v tm' bx' → ∀ η' a' w', Sim N w0 ow η' tm' bx' a' w' → Q (.panic [{ v, recovered := false }]) a' w') : (Code.region id ops draw).wp P Q a w := by
 unfold runR at h
 cases draw with
 | true =>
  rw [if_pos rfl] at h
  split at h
  ·rename_i C' es hrun
   split at h
   ·rename_i hc
    have hlen := (fun hC => (runD_at ops.toList 0 tm bx C' es hrun hC).1)
    split at h
    ·rename_i v hv
     simp only [Option.some.injEq, Prod.mk.injEq] at h
     obtain ⟨rfl, rfl, rfl⟩ := h
     refine draw_ok hmix hcs hI hrun hC hc.1 hinv s (fun hall => ?_) (fun e he v' hv' => ?_)
     ·exfalso
      have : ∀ es : List Ef, (∀ e ∈ es, e.th = none) → thOf es = none := by
       intro es; induction es with
       | nil => intro _; rfl
       | cons e es ih => intro h; simp only [thOf, h e (List.mem_cons_self ..)]; exact ih (fun e' he' => h e' (List.mem_cons_of_mem _ he'))
      rw [this es hall] at hv; cases hv
     ·rw [thOf_some hv hc.2 e he v' hv']; exact fun η2 tm2 bx2 a2 w2 hs2 => ht v _ _ rfl η2 a2 w2 (hs2.weaken (fun t x h => by cases h) (fun b B h => by cases h))
    ·rename_i hv
     simp only [Option.some.injEq, Prod.mk.injEq] at h
     obtain ⟨rfl, rfl, rfl⟩ := h
     have hi := draw_inv hc.1 (hlen hC) hinv
     rw [Array.length_toList] at hi
     exact draw_ok hmix hcs hI hrun hC hc.1 hinv s (fun _ => hn _ _ rfl hi) (fun e he v' hv' => by rw [thOf_none hv e he] at hv'; cases hv')
   ·cases h
  ·cases h
 | false =>
  rw [if_neg (by decide)] at h
  split at h
  ·rename_i C' r' hrun
   simp only [Option.some.injEq, Prod.mk.injEq] at h
   obtain ⟨rfl, rfl, rfl⟩ := h
   refine wp_region_list (runL_ok hcs hI ops.toList 0 η tm bx ks a w C' r' hrun hC s hinv (fun tm' bx' hr => ?_) ht)
   subst hr
   refine hn tm' bx' rfl (runL_inv ops.toList 0 tm bx ks C' tm' bx' hrun (by simp) ks (fun b hb => ?_) hinv)
   have : b ∈ ks := by simpa using hb
   simp only [List.contains_iff_mem, List.mem_append]
   exact .inl this
  ·cases h
theorem runC_ok (hmix : P.follows .mixedOrders = true) (hall : AllCons P I rs) (hI : ∀ w', Fr ow w0 w' → I w') : ∀ (c : Code) (tm : Tm) (bx : Bx) (ks : List Nat) (bs : List Bool) (W : Way), runC P tt N rs c tm bx ks bs = some W → W.C → Inv ks tm bx →
  ∀ (η : Nat → Option Value) (a : Act) (w : World) (Q : Exit → Act → World → Prop), Sim N w0 ow η tm bx a w → LvQ N w0 ow Q W → c.wp P Q a w := by
 intro c
 induction c with
 | skip =>
  intro tm bx ks bs W h hC hinv η a w Q s hq
  simp only [runC, Option.some.injEq] at h
  subst h
  exact wp_skip (hq η a w s hinv)
 | label l =>
  intro tm bx ks bs W h hC hinv η a w Q s hq
  simp only [runC, Option.some.injEq] at h
  subst h
  exact wp_label (hq η a w s hinv)
 | ret =>
  intro tm bx ks bs W h hC hinv η a w Q s hq
  simp only [runC, Option.some.injEq] at h
  subst h
  exact wp_ret (hq η a w s hinv)
 | exit id =>
  intro tm bx ks bs W h hC hinv η a w Q s hq
  simp only [runC, Option.some.injEq] at h
  subst h
  exact wp_exit (hq η a w s hinv)
 | region id ops draw =>
  intro tm bx ks bs W h hC hinv η a w Q s hq
  simp only [runC] at h
  split at h
  ·rename_i C tm' bx' ks' hr
   simp only [Option.some.injEq] at h
   subst h
   refine runR_ok hmix hall.of hI hr hC hinv s (fun tm2 bx2 he hi η' a' w' s' => ?_) (fun v _ _ he => by cases he)
   injection he with h1 h2
   subst h1 h2
   exact hq η' a' w' s' hi
  ·rename_i C v tm' bx' ks' hr
   simp only [Option.some.injEq] at h
   subst h
   refine runR_ok hmix hall.of hI hr hC hinv s (fun tm2 bx2 he => by cases he) (fun v' tm2 bx2 he => ?_)
   injection he with h1 h2 h3
   subst h1 h2 h3
   exact hq
  ·cases h
 | seq x y ihx ihy =>
  intro tm bx ks bs W h hC hinv η a w Q s hq
  simp only [runC] at h
  split at h
  ·rename_i C tm' bx' ks' bs' hx
   split at h
   ·rename_i W2 hy
    simp only [Option.some.injEq] at h
    subst h
    refine wp_seq (ihx tm bx ks bs _ hx hC.1 hinv η a w _ s ?_)
    intro η' a' w' s' hi
    refine ihy tm' bx' ks' bs' W2 hy hC.2 hi η' a' w' Q s' ?_
    unfold LvQ at hq ⊢
    exact hq
   ·cases h
  ·rename_i W1 hx hno
   simp only [Option.some.injEq] at h
   subst h
   refine wp_seq (ihx tm bx ks bs _ hno hC hinv η a w _ s ?_)
   unfold LvQ at hq ⊢
   split at hq
   ·rename_i hlv
    exfalso
    obtain ⟨c0, l0, t0, b0, k0, s0⟩ := W1
    simp only at hlv
    subst hlv
    exact hx _ _ _ _ _ rfl
   ·exact hq
   ·exact hq
   ·exact hq
  ·cases h
 | cond c x y ihx ihy =>
  intro tm bx ks bs W h hC hinv η a w Q s hq
  simp only [runC] at h
  split at h
  ·rename_i b bs' hc
   split at h
   ·rename_i W2 hx
    simp only [Option.some.injEq] at h
    subst h
    have hv := (s.ev hc).lit_inv
    refine wp_cond hv ?_
    rw [if_pos hC.1]
    refine ihx tm bx ks bs' W2 hx hC.2 hinv η a w Q s ?_
    unfold LvQ at hq ⊢; exact hq
   ·cases h
  ·rename_i b bs' hc
   split at h
   ·rename_i W2 hx
    simp only [Option.some.injEq] at h
    subst h
    have hv := (s.ev hc).lit_inv
    refine wp_cond hv ?_
    rw [if_neg (by rw [hC.1]; decide)]
    refine ihy tm bx ks bs' W2 hx hC.2 hinv η a w Q s ?_
    unfold LvQ at hq ⊢; exact hq
   ·cases h
  ·cases h
 | block id x ih =>
  intro tm bx ks bs W h hC hinv η a w Q s hq
  simp only [runC] at h
  split at h
  ·rename_i C j tm' bx' ks' bs' hx
   split at h
   ·rename_i hj
    simp only [Option.some.injEq] at h
    subst h hj
    refine wp_block (ih tm bx ks bs _ hx hC hinv η a w _ s ?_)
    intro η' a' w' s' hi
    simp only [Exit.inBlock, if_true]
    exact hq η' a' w' s' hi
   ·rename_i hj
    simp only [Option.some.injEq] at h
    subst h
    refine wp_block (ih tm bx ks bs _ hx hC hinv η a w _ s ?_)
    intro η' a' w' s' hi
    simp only [Exit.inBlock, if_neg hj]
    exact hq η' a' w' s' hi
  ·rename_i W1 hx hno
   simp only [Option.some.injEq] at h
   subst h
   refine wp_block (ih tm bx ks bs _ hno hC hinv η a w _ s ?_)
   unfold LvQ at hq ⊢
   split at hq
   ·exact hq
   ·rename_i id' hlv
    exfalso
    obtain ⟨c0, l0, t0, b0, k0, s0⟩ := W1
    simp only at hlv
    subst hlv
    exact hx _ _ _ _ _ _ rfl
   ·exact hq
   ·exact hq
  ·cases h
 | _ =>
  intro tm bx ks bs W h
  simp [runC] at h
end
abbrev TL := List (Nat × AV)
def keysT : TL → List Nat
 | [] => []
 | (_, v) :: l => keysA v ++ keysT l
def keysBL : BL → List Nat
 | [] => []
 | (_, B) :: l => keysB B ++ keysBL l
theorem keysT_mem : ∀ {T : TL} {t : Nat} {v : AV} {b : Nat}, (t, v) ∈ T → b ∈ keysA v → b ∈ keysT T
 | [], _, _, _, h, _ => by simp at h
 | (k, y) :: l, t, v, b, h, hb => by
  simp only [keysT, List.mem_append]
  rcases List.mem_cons.1 h with h | h
  ·injection h with h1 h2; subst h2; exact .inl hb
  ·exact .inr (keysT_mem h hb)
theorem keysBL_mem : ∀ {T : BL} {t : Nat} {v : Box} {b : Nat}, (t, v) ∈ T → b ∈ keysB v → b ∈ keysBL T
 | [], _, _, _, h, _ => by simp at h
 | (k, y) :: l, t, v, b, h, hb => by
  simp only [keysBL, List.mem_append]
  rcases List.mem_cons.1 h with h | h
  ·injection h with h1 h2; subst h2; exact .inl hb
  ·exact .inr (keysBL_mem h hb)
def ksOf (T : TL) (B : BL) : List Nat := keysT T ++ keysBL B
theorem inv_of (T : TL) (B : BL) : Inv (ksOf T B) (lkp T) (lkp B) := by
 refine ⟨fun t av ht b hb => ?_, fun b B' hB b' hb => ?_⟩
 ·have := keysT_mem (lkp_mem ht) (mem_keysA av hb)
  simp only [ksOf, List.contains_iff_mem, List.mem_append]; exact .inl this
 ·have := keysBL_mem (lkp_mem hB) (mem_keysB hb)
  simp only [ksOf, List.contains_iff_mem, List.mem_append]; exact .inr this
def SimL (N : Nat) (w0 : World) (ow : Own) (T : TL) (B : BL) (a : Act) (w : World) : Prop := ∃ η, Sim N w0 ow η (lkp T) (lkp B) a w
def proj {α : Type} (f : Nat → Option α) : List Nat → List (Nat × α)
 | [] => []
 | t :: l => match f t with
  | some x => (t, x) :: proj f l
  | none => proj f l
theorem lkp_proj {α : Type} {f : Nat → Option α} : ∀ {l : List Nat} {t : Nat} {x : α}, lkp (proj f l) t = some x → f t = some x
 | [], _, _, h => by cases h
 | k :: l, t, x, h => by
  simp only [proj] at h
  split at h
  ·rename_i y hy
   simp only [lkp] at h
   split at h
   ·rename_i e; subst e; rw [hy]; exact h
   ·exact lkp_proj h
  ·exact lkp_proj h
def projC (P : Program) (tt : TypeId → Option Ty) (N : Nat) (rs : List (Nat × RI)) (c : Code) (T : TL) (B : BL) (bs : List Bool) (tk bk : List Nat) : Option (Prop × Lv × TL × BL) :=
 match runC P tt N rs c (lkp T) (lkp B) (ksOf T B) bs with
 | some W => some (W.C, W.lv, proj W.tm tk, proj W.bx bk)
 | none => none
def tr : Nat → Prop → Prop
 | 0, p => p
 | n + 1, p => True ∧ tr n p
def LvL (N : Nat) (w0 : World) (ow : Own) (Q : Exit → Act → World → Prop) (lv : Lv) (T : TL) (B : BL) : Prop :=
 match lv with
 | .norm => ∀ a w, SimL N w0 ow T B a w → Q .normal a w
 | .exit id => ∀ a w, SimL N w0 ow T B a w → Q (.exit id) a w
 | .ret => ∀ a w, SimL N w0 ow T B a w → Q .ret a w
 | .thr v => ∀ a w, SimL N w0 ow T B a w → Q (.panic [{ v, recovered := false }]) a w
section
variable {P : Program} {I : World → Prop} {w0 : World} {ow : Own} {N : Nat} {tt : TypeId → Option Ty} {rs : List (Nat × RI)} {T T' : TL} {B B' : BL} {a : Act} {w : World} {Q : Exit → Act → World → Prop}
theorem way_L (hmix : P.follows .mixedOrders = true) (hI : ∀ w', Fr ow w0 w' → I w') {c : Code} {bs : List Bool} {tk bk : List Nat} {C : Prop} {lv : Lv} (hs : SimL N w0 ow T B a w) (hall : AllCons P I rs) (he : projC P tt N rs c T B bs tk bk = some (C, lv, T', B')) (hC : C) (hq : LvL N w0 ow Q lv T' B') : c.wp P Q a w := by
 obtain ⟨η, s⟩ := hs
 unfold projC at he
 split at he
 ·rename_i W hW
  simp only [Option.some.injEq, Prod.mk.injEq] at he
  obtain ⟨rfl, rfl, rfl, rfl⟩ := he
  refine runC_ok hmix hall hI c _ _ _ bs W hW hC (inv_of T B) η a w Q s ?_
  unfold LvL at hq
  unfold LvQ
  split at hq
  ·rename_i hlv
   try rw [hlv]
   exact fun η a w s _ => hq a w ⟨η, s.weaken (fun t x h => lkp_proj h) (fun b x h => lkp_proj h)⟩
  ·rename_i id hlv
   try rw [hlv]
   exact fun η a w s _ => hq a w ⟨η, s.weaken (fun t x h => lkp_proj h) (fun b x h => lkp_proj h)⟩
  ·rename_i hlv
   try rw [hlv]
   exact fun η a w s _ => hq a w ⟨η, s.weaken (fun t x h => lkp_proj h) (fun b x h => lkp_proj h)⟩
  ·rename_i v hlv
   try rw [hlv]
   exact fun η a w s => hq a w ⟨η, s.weaken (fun t x h => lkp_proj h) (fun b x h => lkp_proj h)⟩
 ·cases he
theorem loop_L {c : Code} {α : Type} (S : α → TL) (SB : α → BL) (J : α → Prop) (m : α → Nat) (p0 : α) (h0 : J p0) (hs : SimL N w0 ow (S p0) (SB p0) a w)
  (round : ∀ p, J p → ∀ a w, SimL N w0 ow (S p) (SB p) a w → c.wp P (Exit.then (fun a' w' => ∃ p', J p' ∧ m p' < m p ∧ SimL N w0 ow (S p') (SB p') a' w') Q) a w) : (Code.loop c).wp P Q a w := by
 have key : ∀ n p, m p = n → J p → ∀ a w, SimL N w0 ow (S p) (SB p) a w → ∀ (b : Frame) (k : List Item) (cs : List Frame), ∃ e a' w', Q e a' w' ∧ Arrives P (lone (b.at a (.code c :: .inLoop c :: k)) cs w) b k cs e a' w' := by
  intro n
  induction n using Nat.strongRecOn with
  | _ n ih =>
   intro p hn hJ a w hs b k cs
   obtain ⟨e, a₁, w₁, hq, harr⟩ := round p hJ a w hs b (.inLoop c :: k) cs
   cases e with
   | normal =>
    obtain ⟨p', hJ', hlt, hs'⟩ := hq
    obtain ⟨e₂, a₂, w₂, hq₂, harr₂⟩ := ih (m p') (hn ▸ hlt) p' rfl hJ' a₁ w₁ hs' b k cs
    exact ⟨e₂, a₂, w₂, hq₂, .of_steps (Steps.trans harr (.one step_inLoop)) harr₂⟩
   | exit id => exact ⟨_, a₁, w₁, hq, .pass (x := .inLoop c) rfl (fun _ _ => .inl (by simp)) harr⟩
   | goto l => exact ⟨_, a₁, w₁, hq, .pass (x := .inLoop c) rfl (fun _ _ => .inl (by simp)) harr⟩
   | ret => exact ⟨_, a₁, w₁, hq, .pass (x := .inLoop c) rfl (fun _ _ => .inl (by simp)) harr⟩
   | panic ch => exact ⟨_, a₁, w₁, hq, .pass (x := .inLoop c) rfl (fun _ _ => .inl (by simp)) harr⟩
   | outgrown => exact ⟨_, a₁, w₁, hq, .pass (x := .inLoop c) rfl (fun _ _ => .inl (by simp)) harr⟩
 intro b k cs
 obtain ⟨e, a', w', hq, harr⟩ := key _ p0 rfl h0 a w hs b k cs
 exact ⟨e, a', w', hq, .of_steps (.one step_loop) harr⟩
def rnη (ρ : List (Nat × Nat)) (η : Nat → Option Value) (b : Nat) : Option Value := match lkp ρ b with
 | some c => η c
 | none => none
theorem R_rn1 {ρ : List (Nat × Nat)} {fz fz' : Nat → Prop} {η : Nat → Option Value} {v : Value} {x : AV} (hf : ∀ k, fz k → k < w.heap.size → fz' k) (hp : plain1 ρ x = true) (h : R w fz η v (rn1 ρ x)) : R w fz' (rnη ρ η) v x := by
 have st : ∀ y, keysA y = [] → R w fz η v y → R w fz' (rnη ρ η) v y := fun y hk h => h.step (Nat.le_refl _) (fun _ _ _ => rfl) hf (fun b u hb _ => by rw [ment_none hk] at hb; cases hb)
 have lk : ∀ b, (lkp ρ b).isSome = true → rnη ρ η b = η (rnk ρ b) := fun b hb => by
  obtain ⟨c, hc⟩ := Option.isSome_iff_exists.1 hb
  simp [rnη, rnk, hc]
 cases x with
 | own b => exact .own _ _ (fun u hu => h.own_inv (by rw [lk b hp] at hu; exact hu))
 | ptr b off => exact .ptr _ _ _ (fun u hu => h.ptr_inv (by rw [lk b hp] at hu; exact hu))
 | op τ b i off => exact .op _ _ _ _ _ (fun u hu => h.op_inv (by rw [lk b hp] at hu; exact hu))
 | ot τ b lo => exact .ot _ _ _ _ (fun u hu => h.ot_inv (by rw [lk b hp] at hu; exact hu))
 | agg l => simp [plain1] at hp
 | tup l => simp [plain1] at hp
 | clo f l => simp [plain1] at hp
 | _ => exact st _ rfl h
theorem R_rn {ρ : List (Nat × Nat)} {fz fz' : Nat → Prop} {η : Nat → Option Value} {v : Value} {x : AV} (hf : ∀ k, fz k → k < w.heap.size → fz' k) (hp : plain ρ x = true) (h : R w fz η v (rn ρ x)) : R w fz' (rnη ρ η) v x := by
 have elems : ∀ (vs : Array Value) (l : List AV), l.all (plain1 ρ) = true → (∀ (j : Nat) u y, vs[j]? = some u → (l.map (rn1 ρ))[j]? = some y → R w fz η u y) → ∀ (j : Nat) u y, vs[j]? = some u → l[j]? = some y → R w fz' (rnη ρ η) u y := fun vs l hl hR j u y hu hy =>
  R_rn1 hf (List.all_eq_true.1 hl y (List.mem_of_getElem? hy)) (hR j u _ hu (by rw [List.getElem?_map, hy]; rfl))
 cases x with
 | agg l => obtain ⟨vs, rfl, h1, h2⟩ := R.agg_inv h; exact .agg _ _ (by simpa using h1) (elems vs l hp h2)
 | tup l => obtain ⟨vs, rfl, h1, h2⟩ := R.tup_inv h; exact .tup _ _ (by simpa using h1) (elems vs l hp h2)
 | clo f l => obtain ⟨vs, rfl, h1, h2⟩ := R.clo_inv h; exact .clo _ _ _ (by simpa using h1) (elems vs l hp h2)
 | _ => exact R_rn1 hf hp h
def renOk (ρ : List (Nat × Nat)) (T' : TL) (B' : BL) : Bool := injOk ρ && ρ.all (fun p => decide (1000 ≤ p.1) || p.1 == p.2) && T'.all (fun p => plain ρ p.2) && B'.all (fun p => (lkp ρ p.1).isSome && plainB ρ p.2)
theorem SimL.ren (hs : SimL N w0 ow T B a w) (ρ : List (Nat × Nat)) (hok : renOk ρ T' B' = true) (hT : T'.map (fun p => lkp T p.1) = T'.map (fun p => some (rn ρ p.2))) (hB : B'.map (fun p => lkp B (rnk ρ p.1)) = B'.map (fun p => some (rnB ρ p.2))) : SimL N w0 ow T' B' a w := by
 obtain ⟨η, s⟩ := hs
 simp only [renOk, Bool.and_eq_true] at hok
 obtain ⟨⟨⟨h1, h4⟩, h2⟩, h3⟩ := hok
 have hinj : (ρ.map (·.2)).Nodup := by simpa [injOk] using h1
 have map_at : ∀ {α β : Type} (l : List (Nat × α)) (f g : Nat × α → β), l.map f = l.map g → ∀ p ∈ l, f p = g p := fun l f g h p hp => by
  induction l with
  | nil => simp at hp
  | cons q l ih =>
   simp only [List.map_cons, List.cons.injEq] at h
   rcases List.mem_cons.1 hp with rfl | hp
   ·exact h.1
   ·exact ih h.2 hp
 have sub : ∀ b u, rnη ρ η b = some u → ∃ c, lkp ρ b = some c ∧ η c = some u := fun b u h => by
  simp only [rnη] at h
  split at h
  ·rename_i c hc; exact ⟨c, hc, h⟩
  ·cases h
 have hf : ∀ k, Fz (Amb w0 ow) η k → k < w.heap.size → Fz (Amb w0 ow) (rnη ρ η) k := fun k hk _ => ⟨hk.1, fun b u hb => by
  obtain ⟨c, _, hc⟩ := sub b u hb
  exact hk.2 c u hc⟩
 refine ⟨rnη ρ η, s.size, s.nod, s.frame, fun t av ht => ?_, fun b Bx hBx => ?_, fun b u k hb hk => ?_, fun b b' u u' k hb hb' hk hk' => ?_, fun b u u' hp hb => ?_, s.pinlt⟩
 ·have hm := lkp_mem ht
  have he := map_at T' _ _ hT (t, av) hm
  obtain ⟨v, hv, hr⟩ := s.tmp t _ he
  exact ⟨v, hv, R_rn hf (List.all_eq_true.1 h2 (t, av) hm) hr⟩
 ·have hm := lkp_mem hBx
  have he := map_at B' _ _ hB (b, Bx) hm
  have hp := List.all_eq_true.1 h3 (b, Bx) hm
  simp only [Bool.and_eq_true] at hp
  obtain ⟨c, hc⟩ := Option.isSome_iff_exists.1 hp.1
  have hrk : rnk ρ b = c := by simp [rnk, hc]
  simp only [hrk] at he
  obtain ⟨u, hu, hr⟩ := s.dom c _ he
  refine ⟨u, by simp [rnη, hc, hu], ?_⟩
  cases Bx with
  | any => exact hr
  | var l =>
   obtain ⟨g, C, e, rfl, q1, q2, q3⟩ := hr
   refine ⟨g, C, e, rfl, q1, by simpa using q2, fun j v x hv hx => ?_⟩
   exact R_rn1 hf (List.all_eq_true.1 hp.2 x (List.mem_of_getElem? hx)) (q3 j v _ hv (by rw [List.getElem?_map, hx]; rfl))
  | sl e τ xs =>
   obtain ⟨cs, q1, q2⟩ := hr
   refine ⟨cs, q1, fun i x j y hx hy => ?_⟩
   obtain ⟨v, hv, hr⟩ := q2 i x j y hx hy
   exact ⟨v, hv, hr.step (Nat.le_refl _) (fun _ _ _ => rfl) hf (fun b u hb _ => by rw [enc_ment' hy] at hb; cases hb)⟩
  | full e τ xs =>
   obtain ⟨⟨cs, q1, q2⟩, qc⟩ := hr
   refine ⟨⟨cs, q1, fun i x j y hx hy => ?_⟩, qc⟩
   obtain ⟨v, hv, hr⟩ := q2 i x j y hx hy
   exact ⟨v, hv, hr.step (Nat.le_refl _) (fun _ _ _ => rfl) hf (fun b u hb _ => by rw [enc_ment' hy] at hb; cases hb)⟩
 ·obtain ⟨c, _, hc⟩ := sub b u hb
  exact s.new c u k hc hk
 ·obtain ⟨c, hbc, hc⟩ := sub b u hb
  obtain ⟨c', hbc', hc'⟩ := sub b' u' hb'
  have := s.apart c c' u u' k hc hc' hk hk'
  subst this
  exact nodup_inj hinj hbc hbc'
 ·obtain ⟨c, hbc, hc⟩ := sub b u' hb
  have hlt := s.pinlt b u hp
  have h5 := List.all_eq_true.1 h4 (b, c) (lkp_mem hbc)
  simp only [Bool.or_eq_true, decide_eq_true_eq, beq_iff_eq] at h5
  rcases h5 with h5 | rfl
  ·omega
  ·exact s.pin b u u' hp hc
end
def num : Nat → List AV → TL
 | _, [] => []
 | i, a :: l => (i, a) :: num (i + 1) l
theorem num_at : ∀ {l : List AV} {i t : Nat} {x : AV}, lkp (num i l) t = some x → i ≤ t ∧ l[t - i]? = some x
 | [], _, _, _, h => by cases h
 | a :: l, i, t, x, h => by
  simp only [num, lkp] at h
  split at h
  ·rename_i e; subst e; simp at h; simp [h]
  ·obtain ⟨h1, h2⟩ := num_at h
   refine ⟨by omega, ?_⟩
   rw [show t - i = (t - (i + 1)) + 1 by omega, List.getElem?_cons_succ]; exact h2
def FnQ (P : Program) (fn : Func) (w0 : World) (ow : Own) (out : COut) : Exit → Act → World → Prop := bodyPost P fn (fun e w' => Post w0 ow.f w' e out ∧ Below w0.heap.size w0 w')
def noO (fz : Nat → Prop) : Own := ⟨fun _ => False, fz, fun _ => none, []⟩
section
variable {P : Program} {I : World → Prop} {w0 : World} {ow : Own} {N : Nat} {T : TL} {B : BL} {a : Act} {w : World}
theorem con_of {f : FuncId} {fn : Func} {c : Code} {args : List AV} {out : COut} (hf : P.funcs[f]? = some fn) (hb : fn.body = some c) (hN : args.length ≤ fn.ntmps) (hI0 : ∀ w w', I w → Below w.heap.size w w' → I w')
  (h : ∀ (w0 : World) (fz : Nat → Prop) (a : Act), (∀ w', Fr (noO fz) w0 w' → I w') → SimL fn.ntmps w0 (noO fz) (num 0 args) [] a w0 → c.wp P (FnQ P fn w0 (noO fz) out) a w0) : Con P I f args out := by
 intro w fz vs hI hfz hR
 refine calls_of_wp hf hb (h w fz _ (fun w' hfr => hI0 w w' hI (hfr.below (fun _ h => h))) ⟨noη, ?_⟩)
 refine ⟨?_, rfl, Fr.refl _ _, fun t av ht => ?_, (fun b B h => by cases h), (fun b u k h => by cases h), (fun b b' u u' k h => by cases h), (fun b u u' h => by cases h), (fun b u h => by cases h)⟩
 ·have := hR.1; simp; omega
 ·obtain ⟨_, h1⟩ := num_at ht
  rw [Nat.sub_zero] at h1
  have hlt : t < vs.size := by have := (List.getElem?_eq_some_iff.1 h1).1; have := hR.1; omega
  refine ⟨vs[t], ?_, ?_⟩
  ·show (vs ++ Array.replicate (fn.ntmps - vs.size) undef)[t]? = some vs[t]
   rw [Array.getElem?_append_left hlt]; exact Array.getElem?_eq_getElem hlt
  ·exact (hR.2 t _ av (Array.getElem?_eq_getElem hlt) h1).step (Nat.le_refl _) (fun _ _ _ => rfl) (fun k hk _ => ⟨.inl hk, fun b u h => by cases h⟩) (fun b u _ h => h)
def frz2 (bx : Bx) (del : List Nat) : AV → AV
 | .tup l => .tup (l.map (frz bx del))
 | a => frz bx del a
def fit2 : AV → AV → AV
 | .tup l, .tup m => if l.length = m.length then .tup (List.zipWith fit l m) else .tup l
 | a, b => fit a b
theorem R_frz2 {η : Nat → Option Value} {tm : Tm} {bx : Bx} {v : Value} {x : AV} (s : Sim N w0 ow η tm bx a w) (h : R w (Fz (Amb w0 ow) η) η v x) (del : List Nat) : R w (Fz (Amb w0 ow) (dropη η del)) (dropη η del) v (frz2 bx del x) := by
 unfold frz2
 split
 ·obtain ⟨vs, rfl, hl, hR⟩ := h.tup_inv
  refine .tup _ _ (by simpa using hl) (fun j u y hu hy => ?_)
  rw [List.getElem?_map, Option.map_eq_some_iff] at hy
  obtain ⟨y0, hy0, rfl⟩ := hy
  exact R_frz s (hR j u y0 hu hy0) del
 ·exact R_frz s h del
theorem R_fit2 {fz : Nat → Prop} {η : Nat → Option Value} {v : Value} {a b : AV} (h : R w fz η v a) : R w fz η v (fit2 a b) := by
 unfold fit2
 split
 ·split
  ·rename_i l m hlm
   obtain ⟨vs, rfl, hl, hR⟩ := h.tup_inv
   refine .tup _ _ (by simp; omega) (fun j u y hu hy => ?_)
   rw [List.getElem?_zipWith] at hy
   split at hy
   ·rename_i x z hx hz
    simp only [Option.some.injEq] at hy
    subst hy
    exact R_fit (hR j u x hu hx)
   ·cases hy
  ·exact h
 ·exact R_fit h
def resOf (P : Program) (tm : Tm) (bx : Bx) : ResultVar → Option AV
 | .tmp t => tm t
 | .cell t ty => match tm t with
  | some (.ptr b off) => match bx b with
   | some (.var l) => cut P ty l off
   | _ => none
  | _ => none
def resA (P : Program) (fn : Func) (tm : Tm) (bx : Bx) : Option AV := match fn.results.toList with
 | [] => some (.tup [])
 | [r] => resOf P tm bx r
 | [r, q] => match resOf P tm bx r, resOf P tm bx q with
  | some x, some y => some (.tup [x, y])
  | _, _ => none
 | [r, q, p] => match resOf P tm bx r, resOf P tm bx q, resOf P tm bx p with
  | some x, some y, some z => some (.tup [x, y, z])
  | _, _, _ => none
 | _ => none
def resSem (tmps : Array Value) : ResultVar → Sem Value
 | .tmp t => pure (tmps.getD t undef)
 | .cell a t => do loadVar t (← asAddr (tmps.getD a undef))
theorem resOf_ok {η : Nat → Option Value} {tm : Tm} {bx : Bx} (s : Sim N w0 ow η tm bx a w) {r : ResultVar} {x : AV} (h : resOf P tm bx r = some x) :
  ∃ v, (resSem a.tmps r).run P w = .ok v w ∧ R w (Fz (Amb w0 ow) η) η v x := by
 cases r with
 | tmp t =>
  obtain ⟨v, hv, hr⟩ := s.tmp t x h
  exact ⟨v, by simp [resSem, Array.getD_eq_getD_getElem?, hv], hr⟩
 | cell t ty =>
  simp only [resOf] at h
  split at h
  ·rename_i b off ht
   split at h
   ·rename_i l hb
    obtain ⟨v, hv, hr⟩ := s.tmp t _ ht
    obtain ⟨u, hu, g, C, e, rfl, q1, q2, q3⟩ := s.dom b _ hb
    obtain ⟨g', hg, rfl⟩ := hr.ptr_inv hu
    injection hg with hg; injection hg with hg; injection hg with hg
    subst hg
    obtain ⟨v, hrun, hR⟩ := loadVar_cut (P := P) (w := w) (ad := ⟨g, 0, none⟩) (l := l) (fun j y hj => by
     have hlt : j < C.size := by have := (List.getElem?_eq_some_iff.1 hj).1; omega
     exact ⟨C[j], by rw [lit_add]; simp [World.cell?, q1, hlt], q3 j _ _ (Array.getElem?_eq_getElem hlt) hj⟩) h
    rw [lit_add] at hrun
    exact ⟨v, by simp [resSem, Array.getD_eq_getD_getElem?, hv, asAddr, hrun], hR⟩
   ·cases h
  ·cases h
theorem results_eq (fn : Func) (tmps : Array Value) : results fn tmps = (do
  let vs ← fn.results.mapM (resSem tmps)
  pure (if h : vs.size = 1 then vs[0] else .tuple vs)) := by
 unfold results
 congr 1
theorem resA_ok {η : Nat → Option Value} {tm : Tm} {bx : Bx} (s : Sim N w0 ow η tm bx a w) {fn : Func} {x : AV} (h : resA P fn tm bx = some x) : ∃ v, (results fn a.tmps).run P w = .ok v w ∧ R w (Fz (Amb w0 ow) η) η v x := by
 unfold resA at h
 have arr : ∀ l, fn.results.toList = l → fn.results = l.toArray := fun l hl => by rw [← hl]
 have one : ∀ (v : Value) (x : AV) (C : List Value) (l : List AV), R w (Fz (Amb w0 ow) η) η v x → RLl w (Fz (Amb w0 ow) η) η C l → RLl w (Fz (Amb w0 ow) η) η (v :: C) (x :: l) := fun v x C l h1 h2 => RLl_cons.2 ⟨h1, h2⟩
 have tup : ∀ (C : List Value) (l : List AV), RLl w (Fz (Amb w0 ow) η) η C l → R w (Fz (Amb w0 ow) η) η (.tuple C.toArray) (.tup l) := fun C l h => .tup _ _ (by simpa using h.1) (fun j u y hu hy => h.2 j u y (by simpa using hu) hy)
 split at h
 ·rename_i hl
  simp only [Option.some.injEq] at h
  subst h
  exact ⟨.tuple #[], by simp [results_eq, arr _ hl], tup [] [] RLl_nil⟩
 ·rename_i r hl
  obtain ⟨v, h1, h2⟩ := resOf_ok (P := P) s h
  exact ⟨v, by simp [results_eq, arr _ hl, h1], h2⟩
 ·rename_i r q hl
  split at h
  ·rename_i x y hx hy
   simp only [Option.some.injEq] at h
   subst h
   obtain ⟨v, h1, h2⟩ := resOf_ok (P := P) s hx
   obtain ⟨v', h3, h4⟩ := resOf_ok (P := P) s hy
   exact ⟨.tuple #[v, v'], by simp [results_eq, arr _ hl, h1, h3], tup [v, v'] _ (one _ _ _ _ h2 (one _ _ _ _ h4 RLl_nil))⟩
  ·cases h
 ·rename_i r q p hl
  split at h
  ·rename_i x y z hx hy hz
   simp only [Option.some.injEq] at h
   subst h
   obtain ⟨v, h1, h2⟩ := resOf_ok (P := P) s hx
   obtain ⟨v', h3, h4⟩ := resOf_ok (P := P) s hy
   obtain ⟨v'', h5, h6⟩ := resOf_ok (P := P) s hz
   exact ⟨.tuple #[v, v', v''], by simp [results_eq, arr _ hl, h1, h3, h5], tup [v, v', v''] _ (one _ _ _ _ h2 (one _ _ _ _ h4 (one _ _ _ _ h6 RLl_nil)))⟩
  ·cases h
 ·cases h
def retOk (P : Program) (fn : Func) (T : TL) (B : BL) (del : List Nat) : COut → Prop
 | .val r => (resA P fn (lkp T) (lkp B)).map (fun x => fit2 (frz2 (lkp B) del x) r) = some r ∧ keysA r = []
 | .own e τ xs => (∃ b, resA P fn (lkp T) (lkp B) = some (.own b) ∧ lkp B b = some (.sl e τ xs)) ∨ (resA P fn (lkp T) (lkp B) = some nilv ∧ xs = [])
 | .thr _ => False
theorem ret_ok {fn : Func} {fz : Nat → Prop} {T : TL} {B : BL} {out : COut} (del : List Nat) (hs : SimL N w0 (noO fz) T B a w) (h : retOk P fn T B del out) : FnQ P fn w0 (noO fz) out .ret a w := by
 obtain ⟨η, s⟩ := hs
 have hbel : Below w0.heap.size w0 w := s.frame.below (fun _ h => h)
 have amb : ∀ k, Amb w0 (noO fz) k → fz k ∨ w0.heap.size ≤ k := fun k hk => by
  rcases hk with h | h | h
  ·exact .inl h
  ·exact h.elim
  ·exact .inr h
 cases out with
 | val r =>
  obtain ⟨h1, h2⟩ := h
  rw [Option.map_eq_some_iff] at h1
  obtain ⟨x, hx, hr⟩ := h1
  obtain ⟨v, hrun, hR⟩ := resA_ok s hx
  refine ⟨s.nod, v, hrun, ⟨v, rfl, ?_⟩, hbel⟩
  have h3 := R_fit2 (b := r) (R_frz2 s hR del)
  rw [hr] at h3
  exact h3.step (Nat.le_refl _) (fun _ _ _ => rfl) (fun k hk _ => amb k hk.1) (fun b u hb _ => by rw [ment_none h2] at hb; cases hb)
 | own e τ xs =>
  rcases h with ⟨b, h1, h2⟩ | ⟨h1, rfl⟩
  ·obtain ⟨v, hrun, hR⟩ := resA_ok s h1
   obtain ⟨u, hu, cs, q1, q2⟩ := s.dom b _ h2
   have hv := hR.own_inv hu
   subst hv
   refine ⟨s.nod, v, hrun, ⟨v, rfl, fun k hk => ?_, cs, q1, fun i x j y hx hy => ?_⟩, hbel⟩
   ·obtain ⟨h3, h4⟩ := s.new b v k hu hk
    exact ⟨h4.resolve_right (fun h => h), h3⟩
   ·obtain ⟨vv, h3, h4⟩ := q2 i x j y hx hy
    exact ⟨vv, h3, h4.step (Nat.le_refl _) (fun _ _ _ => rfl) (fun k hk _ => ⟨amb k hk.1, fun he => hk.2 b v hu he⟩) (fun b u hb _ => by rw [enc_ment' hy] at hb; cases hb)⟩
  ·obtain ⟨v, hrun, hR⟩ := resA_ok s h1
   have hv := hR.lit_inv
   subst hv
   exact ⟨s.nod, _, hrun, ⟨_, rfl, fun k hk => by simp [blk] at hk, [], World.ownsRow_nil w 0 e _, fun i x j y hx => by simp at hx⟩, hbel⟩
 | thr v => exact h.elim
theorem norm_ok {fn : Func} {fz : Nat → Prop} {T : TL} {B : BL} {out : COut} (del : List Nat) (hs : SimL N w0 (noO fz) T B a w) (h : retOk P fn T B del out) : FnQ P fn w0 (noO fz) out .normal a w := ret_ok del hs h
theorem thr_ok {fn : Func} {fz : Nat → Prop} {T : TL} {B : BL} {v : Value} (hs : SimL N w0 (noO fz) T B a w) : FnQ P fn w0 (noO fz) (.thr v) (.panic [{ v, recovered := false }]) a w := by
 obtain ⟨η, s⟩ := hs
 exact ⟨s.nod, rfl, s.frame.below (fun _ h => h)⟩
end
@[reducible] def ba (l : List UInt8) : ByteArray := ⟨l.toArray⟩
@[reducible] def bitsOr (k : IntKind) (x y : Int) : Int := k.wrap (BitVec.ofInt k.bits x ||| BitVec.ofInt k.bits y).toNat
def okArgs (l : List AV) : Prop := l = l
theorem inR64 {n : Int} (h0 : -9223372036854775808 ≤ n) (h1 : n ≤ 9223372036854775807) : InR .i64 n := by
 exact IntWalk.i64_in _ ⟨by omega, by omega⟩
section
variable {P : Program} {w0 : World} {ow : Own} {N : Nat} {a : Act} {w : World} {Q : Exit → Act → World → Prop} {K : Act → World → Prop} {id j : Nat} {ch : List PanicEntry}
theorem then_norm (h : K a w) : Exit.then K Q .normal a w := h
theorem then_ret (h : Q .ret a w) : Exit.then K Q .ret a w := h
theorem then_exit (h : Q (.exit id) a w) : Exit.then K Q (.exit id) a w := h
theorem then_thr (h : Q (.panic ch) a w) : Exit.then K Q (.panic ch) a w := h
theorem inb_norm (h : Q .normal a w) : Exit.inBlock id Q .normal a w := h
theorem inb_ret (h : Q .ret a w) : Exit.inBlock id Q .ret a w := h
theorem inb_thr (h : Q (.panic ch) a w) : Exit.inBlock id Q (.panic ch) a w := h
theorem inb_hit (h : Q .normal a w) : Exit.inBlock id Q (.exit id) a w := by simpa [Exit.inBlock] using h
theorem FnQ_cast {fn : Func} {out out' : COut} {e : Exit} (h : out = out') (hq : FnQ P fn w0 ow out e a w) : FnQ P fn w0 ow out' e a w := h ▸ hq
theorem cond_L {T : TL} {B : BL} {c : Nat} {x y : Code} {b : Bool} (hs : SimL N w0 ow T B a w) (he : lkp T c = some (.lit (.bool b))) (ht : b = true → x.wp P Q a w) (hf : b = false → y.wp P Q a w) : (Code.cond (.tmp c) x y).wp P Q a w := by
 obtain ⟨η, s⟩ := hs
 have hv := (s.ev (x := .tmp c) he).lit_inv
 exact wp_cond_split hv ht hf
theorem wp_cut {x y : Code} {T : TL} {B : BL} (F : Prop) (h1 : x.wp P (Exit.then (fun a w => F ∧ SimL N w0 ow T B a w) Q) a w) (h2 : F → ∀ a w, SimL N w0 ow T B a w → y.wp P Q a w) : (Code.seq x y).wp P Q a w :=
 wp_seq (wp_mono h1 (fun e a w he => by cases e <;> first | exact h2 he.1 _ _ he.2 | exact he))
end
def okBxs (l : List (Option Box)) : Prop := l = l
def ciA (f : FuncId) (args : List AV) (snap del : List Nat) (out : COut) : CI := { f, args, snap, del, out }
def ciB (f : FuncId) (args : List AV) (del : List Nat) (out : COut) (bi bo : BL) (ρ : List (Nat × Nat)) : CI := { f, args, snap := [], del, out, bi, bo, ρ }
def FnQB (P : Program) (fn : Func) (w0 : World) (fz : Nat → Prop) (η : Nat → Option Value) (bi : BL) (out : COut) (bo : BL) : Exit → Act → World → Prop := bodyPost P fn (fun e w' => PostB w0 fz η bi w' e out bo)
section
variable {P : Program} {I : World → Prop} {w w' w0 : World} {fz fz' : Nat → Prop} {η η' : Nat → Option Value} {N : Nat} {T : TL} {B : BL} {a : Act}
theorem BoxR_up {u : Value} {X : Box} (hf : ∀ k, fz k → k < w.heap.size → fz' k) (hη : ∀ b u, mentB b X = true → η' b = some u → η b = some u) (h : BoxR w fz η u X) : BoxR w fz' η' u X := by
 cases X with
 | any => exact h
 | var l =>
  obtain ⟨g, C, e, rfl, q1, q2, q3⟩ := h
  exact ⟨g, C, e, rfl, q1, q2, fun j v x hv hx => (q3 j v x hv hx).step (Nat.le_refl _) (fun _ _ _ => rfl) hf (fun b u hb hu => hη b u (mentL_of hx hb) hu)⟩
 | sl e τ xs =>
  obtain ⟨cs, q1, q2⟩ := h
  refine ⟨cs, q1, fun i x j y hx hy => ?_⟩
  obtain ⟨v, hv, hr⟩ := q2 i x j y hx hy
  exact ⟨v, hv, hr.step (Nat.le_refl _) (fun _ _ _ => rfl) hf (fun b u hb _ => by rw [enc_ment' hy] at hb; cases hb)⟩
 | full e τ xs =>
  obtain ⟨⟨cs, q1, q2⟩, qc⟩ := h
  refine ⟨⟨cs, q1, fun i x j y hx hy => ?_⟩, qc⟩
  obtain ⟨v, hv, hr⟩ := q2 i x j y hx hy
  exact ⟨v, hv, hr.step (Nat.le_refl _) (fun _ _ _ => rfl) hf (fun b u hb _ => by rw [enc_ment' hy] at hb; cases hb)⟩
theorem con_ofB {f : FuncId} {fn : Func} {c : Code} {args : List AV} {bi bo : BL} {out : COut} (hf : P.funcs[f]? = some fn) (hb : fn.body = some c) (hN : args.length ≤ fn.ntmps) (hk : (bi.map (·.1)).all (· < 1000) = true)
  (h : ∀ (w0 : World) (fz : Nat → Prop) (η : Nat → Option Value) (a : Act), (∀ w', Fr (ownB fz η) w0 w' → I w') → SimL fn.ntmps w0 (ownB fz η) (num 0 args) bi a w0 → c.wp P (FnQB P fn w0 fz η bi out bo) a w0) : ConB P I f args bi out bo := by
 intro w fz η vs hI hfz hd hbx hnew hap hR
 have hun : ∀ k, fz k → k < w.heap.size → Fz (Amb w (ownB fz η)) η k := fun k h1 _ => ⟨.inl h1, fun b u hb hk => (hnew b u k hb hk).2 h1⟩
 refine calls_of_wp hf hb (h w fz η _ hI ⟨η, ?_⟩)
 refine ⟨?_, rfl, Fr.refl _ _, fun t av ht => ?_, fun b B h => ?_, fun b u k h1 h2 => ⟨(hnew b u k h1 h2).1, .inr ⟨b, u, h1, h2⟩⟩, hap, fun b u u' h1 h2 => ?_, fun b u h => ?_⟩
 ·have := hR.1; simp; omega
 ·obtain ⟨_, h1⟩ := num_at ht
  rw [Nat.sub_zero] at h1
  have hlt : t < vs.size := by have := (List.getElem?_eq_some_iff.1 h1).1; have := hR.1; omega
  refine ⟨vs[t], ?_, ?_⟩
  ·show (vs ++ Array.replicate (fn.ntmps - vs.size) undef)[t]? = some vs[t]
   rw [Array.getElem?_append_left hlt]; exact Array.getElem?_eq_getElem hlt
  ·exact (hR.2 t _ av (Array.getElem?_eq_getElem hlt) h1).step (Nat.le_refl _) (fun _ _ _ => rfl) hun (fun b u _ h => h)
 ·obtain ⟨u, hu, hr⟩ := hbx b B h
  exact ⟨u, hu, BoxR_up hun (fun _ _ _ h => h) hr⟩
 ·have h1' : η b = some u := h1
  rw [h2] at h1'; injection h1'
 ·obtain ⟨X, hX⟩ := Option.isSome_iff_exists.1 (hd b u h)
  have := List.all_eq_true.1 hk b (List.mem_map.2 ⟨(b, X), lkp_mem hX, rfl⟩)
  simpa using this
theorem ownB_of {bi bo : BL} {out : COut} {e : Ending} (s : Sim N w0 (ownB fz η) η' (lkp T) (lkp bo) a w)
  (ho : ∀ η2 : Nat → Option Value, (∀ b, η2 b = if (lkp bo b).isSome then η' b else none) → (∀ v x, (∀ b, ment b x = true → (lkp bo b).isSome = true) → R w (Fz (Amb w0 (ownB fz η)) η') η' v x → R w (FzB w0 fz η η2) η2 v x) → OutB w (FzB w0 fz η η2) η2 e out) : PostB w0 fz η bi w e out bo := by
 refine ⟨⟨s.frame.os, s.frame.tape, s.frame.output, s.frame.size, fun k hk hn => s.frame.block k hk hn⟩, .inr ?_⟩
 obtain ⟨η2, h2⟩ : ∃ η2 : Nat → Option Value, ∀ b, η2 b = if (lkp bo b).isSome then η' b else none := ⟨_, fun _ => rfl⟩
 have sub : ∀ b u, η2 b = some u → (lkp bo b).isSome = true ∧ η' b = some u := fun b u h => by
  rw [h2] at h
  split at h
  ·rename_i hb; exact ⟨hb, h⟩
  ·cases h
 have hf : ∀ k, Fz (Amb w0 (ownB fz η)) η' k → k < w.heap.size → FzB w0 fz η η2 k := fun k hk _ => by
  refine ⟨?_, fun b u hb => hk.2 b u (sub b u hb).2⟩
  rcases hk.1 with h1 | h1 | h1
  ·exact .inl h1
  ·exact .inr (.inr h1)
  ·exact .inr (.inl h1)
 refine ⟨η2, fun b u h => (sub b u h).1, fun b _ u u' h1 h3 => s.pin b u u' h1 (sub b u' h3).2, fun b u k h1 h3 => s.new b u k (sub b u h1).2 h3, fun b b' u u' k h1 h3 => s.apart b b' u u' k (sub b u h1).2 (sub b' u' h3).2, fun b X hX => ?_, ho η2 h2 (fun v x _ hR => hR.step (Nat.le_refl _) (fun _ _ _ => rfl) hf (fun b u _ h => (sub b u h).2))⟩
 obtain ⟨u, hu, hr⟩ := s.dom b X hX
 exact ⟨u, by rw [h2, hX]; exact hu, BoxR_up hf (fun b u _ h => (sub b u h).2) hr⟩
theorem SimL.nil {ow : Own} (hs : SimL N w0 ow T B a w) (k t : Nat) (e : TypeId) (τ : Ty) (ht : lkp T t = some nilv) (hk : 1000 ≤ k) (hT : T.all (fun p => !(keysA p.2).contains k) = true) (hB : B.all (fun p => !(keysB p.2).contains k) = true) : SimL N w0 ow ((t, .own k) :: T) ((k, .sl e τ []) :: B) a w := by
 obtain ⟨η, s⟩ := hs
 have hf : Fresh k (lkp T) (lkp B) := ⟨fun t av h => by
   cases hm : ment k av with
   | false => rfl
   | true => have := List.all_eq_true.1 hT (t, av) (lkp_mem h); simp at this; exact absurd (mem_keysA av hm) this, fun b X h => by
   cases hm : mentB k X with
   | false => rfl
   | true => have := List.all_eq_true.1 hB (b, X) (lkp_mem h); simp at this; exact absurd (mem_keysB hm) this, hk⟩
 obtain ⟨tr, hs2⟩ := s.grow (w' := w) (B := .sl e τ []) (v := .slice none 0 0) (del := []) (row := none) hf ⟨rfl, rfl, rfl, Nat.le_refl _, fun _ _ _ => rfl⟩ (.inl rfl) (fun k hk => by simp [blk] at hk)
 have s2 := hs2 ⟨[], World.ownsRow_nil w 0 e _, fun i x j y hx => by simp at hx⟩
 obtain ⟨v, hv, hR⟩ := s.tmp t _ ht
 have hvn := hR.lit_inv
 have hb : updB (lkp B) [] [(k, .sl e τ [])] = lkp ((k, .sl e τ []) :: B) := by
  funext c
  simp only [updB, lkp]
  by_cases hc : c = k
  ·simp [hc]
  ·simp [hc]
 rw [hb] at s2
 refine ⟨_, s2.size, s2.nod, s2.frame, fun t' av h => ?_, s2.dom, s2.new, s2.apart, s2.pin, s2.pinlt⟩
 simp only [lkp] at h
 split at h
 ·rename_i he
  simp only [Option.some.injEq] at h
  subst h he
  exact ⟨v, hv, .own _ _ (fun u hu => by simp [setη] at hu; rw [hvn, ← hu])⟩
 ·exact s2.tmp t' av h
theorem SimL.nilB {ow : Own} (hs : SimL N w0 ow T B a w) (k b j : Nat) (e : TypeId) (τ : Ty) (l : List AV) (hb : lkp B b = some (.var l)) (hl : l[j]? = some nilv) (hbk : b ≠ k) (hk : 1000 ≤ k) (hT : T.all (fun p => !(keysA p.2).contains k) = true) (hB : B.all (fun p => !(keysB p.2).contains k) = true) : SimL N w0 ow T ((b, .var (l.set j (.own k))) :: (k, .sl e τ []) :: B) a w := by
 obtain ⟨η, s⟩ := hs
 have hf : Fresh k (lkp T) (lkp B) := ⟨fun t av h => by
   cases hm : ment k av with
   | false => rfl
   | true => have := List.all_eq_true.1 hT (t, av) (lkp_mem h); simp at this; exact absurd (mem_keysA av hm) this, fun b X h => by
   cases hm : mentB k X with
   | false => rfl
   | true => have := List.all_eq_true.1 hB (b, X) (lkp_mem h); simp at this; exact absurd (mem_keysB hm) this, hk⟩
 obtain ⟨tr, hs2⟩ := s.grow (w' := w) (B := .sl e τ []) (v := .slice none 0 0) (del := []) (row := none) hf ⟨rfl, rfl, rfl, Nat.le_refl _, fun _ _ _ => rfl⟩ (.inl rfl) (fun k hk => by simp [blk] at hk)
 have s2 := hs2 ⟨[], World.ownsRow_nil w 0 e _, fun i x j y hx => by simp at hx⟩
 have hb2 : updB (lkp B) [] [(k, .sl e τ [])] = lkp ((k, .sl e τ []) :: B) := by
  funext c
  simp only [updB, lkp]
  by_cases hc : c = k
  ·simp [hc]
  ·simp [hc]
 rw [hb2] at s2
 refine ⟨_, s2.size, s2.nod, s2.frame, s2.tmp, fun c X h => ?_, s2.new, s2.apart, s2.pin, s2.pinlt⟩
 rw [lkp] at h
 split at h
 ·rename_i he
  simp only [Option.some.injEq] at h
  subst h he
  obtain ⟨u, hu, hr⟩ := s2.dom c (.var l) (by simp only [lkp]; rw [if_neg hbk]; exact hb)
  obtain ⟨g, C, ee, rfl, q1, q2, q3⟩ := hr
  refine ⟨_, hu, g, C, ee, rfl, q1, by rw [List.length_set]; exact q2, fun i v x hv hx => ?_⟩
  rw [List.getElem?_set] at hx
  split at hx
  ·rename_i hij
   subst hij
   split at hx
   ·simp only [Option.some.injEq] at hx
    subst hx
    have hvn := (q3 j v _ hv hl).lit_inv
    exact .own _ _ (fun u hu => by simp [setη] at hu; rw [hvn, ← hu])
   ·cases hx
  ·exact q3 i v x hv hx
 ·exact s2.dom c X h
theorem ret_okB {fn : Func} {bi : BL} {r : AV} (bo : BL) (hs : SimL N w0 (ownB fz η) T bo a w) (h : resA P fn (lkp T) (lkp bo) = some r) (hk : (keysA r).all (fun b => (lkp bo b).isSome) = true) : FnQB P fn w0 fz η bi (.val r) bo .ret a w := by
 obtain ⟨η', s⟩ := hs
 obtain ⟨v, hrun, hR⟩ := resA_ok s h
 refine ⟨s.nod, v, hrun, ownB_of s (fun η2 _ hup => ⟨v, rfl, hup v r (fun b hb => ?_) hR⟩)⟩
 exact List.all_eq_true.1 hk b (mem_keysA r hb)
theorem norm_okB {fn : Func} {bi : BL} {r : AV} (bo : BL) (hs : SimL N w0 (ownB fz η) T bo a w) (h : resA P fn (lkp T) (lkp bo) = some r) (hk : (keysA r).all (fun b => (lkp bo b).isSome) = true) : FnQB P fn w0 fz η bi (.val r) bo .normal a w := ret_okB bo hs h hk
theorem ng_ret {Q : Exit → Act → World → Prop} (h : Q .ret a w) : Exit.noGoto Q .ret a w := h
theorem FnQB_cast {fn : Func} {bi bo bo' : BL} {out out' : COut} {e : Exit} (h : out = out') (h' : bo = bo') (hq : FnQB P fn w0 fz η bi out bo e a w) : FnQB P fn w0 fz η bi out' bo' e a w := h ▸ h' ▸ hq
theorem Con.frz {f : FuncId} {args : List AV} {e : TypeId} {τ : Ty} {xs : List (El τ)} (h : Con P I f args (.own e τ xs)) : Con P I f args (.val (.row τ xs)) := by
 intro w fz vs hI hfz hR
 refine (h w fz vs hI hfz hR).mono ?_
 rintro en w' ⟨⟨v, rfl, hb, cs, ho, hel⟩, hbel⟩
 refine ⟨⟨v, rfl, ?_⟩, hbel⟩
 rcases ho.2 with ⟨rfl, h0⟩ | ⟨g, cap, cur, rfl, q0, q1, q2, q3, _⟩
 ·have : xs = [] := by cases xs; rfl; simp at h0
  subst this
  exact .nil τ
 ·obtain ⟨hge, hlt⟩ := hb g rfl
  refine .row_mk q2 q3 (fun i x hx => ⟨⟨g, 0, none⟩, rfl, .inr hge, hlt, fun j y hy => ?_⟩)
  obtain ⟨vv, hv, hrr⟩ := hel i x j y hx hy
  exact ⟨vv, ho.cells rfl _ _ hv, hrr.step (Nat.le_refl _) (fun _ _ _ => rfl) (fun k hk _ => hk.1) (fun b u _ hu => hu)⟩
theorem SimL.isNil {ow : Own} (hs : SimL N w0 ow T B a w) (t : Nat) (τ : Ty) (xs : List (El τ)) (ht : lkp T t = some (.row τ xs)) : ∃ b : Bool, (b = true → xs = []) ∧ SimL N w0 ow ((t, .rown τ xs b) :: T) B a w := by
 obtain ⟨η, s⟩ := hs
 obtain ⟨v, hv, hr⟩ := s.tmp t _ ht
 obtain ⟨A, c, rfl, hc, hm, hel⟩ := hr.row_inv
 refine ⟨A.isNone, fun hb => ?_, η, ⟨s.size, s.nod, s.frame, fun k av hk => ?_, s.dom, s.new, s.apart, s.pin, s.pinlt⟩⟩
 ·cases xs with
  | nil => rfl
  | cons x xs =>
   obtain ⟨ad, hA, _⟩ := hel 0 x rfl
   rw [hA] at hb; cases hb
 ·simp only [lkp] at hk
  split at hk
  ·rename_i e
   simp only [Option.some.injEq] at hk
   subst hk e
   exact ⟨_, hv, .rown A c τ xs hr⟩
  ·exact s.tmp k av hk
end
end Go.Proofs.YtondpnipoogoiaaGreatDoor.F
namespace Go.Proofs.YtondpnipoogoiaaGreatDoor.X
open Go.ChangeShapes Go.WideShapes Go.ChangeAt Go.RowKit
theorem laidOut : laidOutB Tryz.prog = true := by kernel_rfl
theorem open_rowI {H : Type} {enc : TypeId × Value → H} {W : World} {base : Nat} {v : Value} {d : DataW H} {p : List MemPlace} (hv : Value.okWide Tryz.prog W .any base 22 v) (h : DataW.Trod enc Tryz.prog W 0 (fun _ => true) true 22 v d p) :
  ∃ l : List Int, Go.Proofs.YtondpnipoogoiaaGreatDoor.F.R W (fun k => k < W.heap.size) Go.Proofs.YtondpnipoogoiaaGreatDoor.F.noη v (.row (.int .i64) l) := by
 obtain ⟨m, hm⟩ := h
 obtain ⟨a0, n0, c0, rfl⟩ := Go.WideShapes.okWide_slice Tryz.underlying22 hv
 have one : ∀ a n c, (Value.slice a0 n0 c0).cells.toList = [.slice a n c] → Value.slice a0 n0 c0 = .slice a n c := fun a n c h => by have h' : [Value.slice a0 n0 c0] = [.slice a n c] := h; exact (List.cons.inj h').1
 rcases Go.ChangeShapes.open_ints Tryz.underlying22 Tryz.underlying3 (by kernel_rfl) hm with ⟨hcs, _⟩ | ⟨x, len, cap, zs, hcs, _, hl, hm', hz, _, hcell, hwz⟩
 ·rw [one _ _ _ hcs]
  exact ⟨[], Go.Proofs.YtondpnipoogoiaaGreatDoor.F.R.row_mk (τ := .int .i64) (xs := ([] : List Int)) (Nat.le_refl _) (by decide) (fun i x hx => by simp at hx)⟩
 ·rw [one _ _ _ hcs]
  have hz' : zs.length = cap := hz
  have hlen : (zs.take len).length = len := by rw [List.length_take]; omega
  refine ⟨zs.take len, ?_⟩
  have := Go.Proofs.YtondpnipoogoiaaGreatDoor.F.R.row_mk (w := W) (fz := fun k => k < W.heap.size) (η := Go.Proofs.YtondpnipoogoiaaGreatDoor.F.noη) (A := some x) (c := cap) (τ := .int .i64) (xs := zs.take len) (by rw [hlen]; exact hl) hm' (fun i y hy => ?_)
  ·rw [hlen] at this; exact this
  ·have hi : i < len := by have := (List.getElem?_eq_some_iff.1 hy).1; rwa [hlen] at this
   rw [List.getElem?_take, if_pos hi] at hy
   have hiz : i < zs.length := (List.getElem?_eq_some_iff.1 hy).1
   have hc := hcell i hiz
   have hg : zs.getD i 0 = y := by rw [List.getD_eq_getElem?_getD, hy]; rfl
   rw [hg] at hc
   have hb : x.block < W.heap.size := by
    have h9 := World.block_lt_of_cell? W _ (hcell 0 (by omega))
    rwa [Go.Proofs.YtondpnipoogoiaaGreatDoor.F.add_block] at h9
   refine ⟨x, rfl, hb, hb, fun j a ha => ?_⟩
   rcases j with _ | j
   ·simp only [Go.Proofs.YtondpnipoogoiaaGreatDoor.F.enc, List.getElem?_cons_zero, Option.some.injEq] at ha
    subst ha
    exact ⟨_, by simpa [Go.Proofs.YtondpnipoogoiaaGreatDoor.F.sz] using hc, .lit _⟩
   ·simp [Go.Proofs.YtondpnipoogoiaaGreatDoor.F.enc] at ha
end Go.Proofs.YtondpnipoogoiaaGreatDoor.X
namespace Go.Proofs.YtondpnipoogoiaaGreatDoor.F
open Go Go.RowKit
def Tree.et (t : Tree) : Tree := Tree.mk t.kind t.b ⟨t.n.neg, t.n.m, t.n.e⟩ t.s t.k t.v
theorem Tree.eta' (t : Tree) : t.et = t := by cases t; rfl
abbrev rwS (l : List ByteArray) : AV := .row .str l
abbrev rwT (l : List Tree) : AV := .row .tree l
abbrev rwU (l : List Int) : AV := .row (.int .u32) l
abbrev aTr (t : Tree) : AV := .agg (encTree t)
abbrev bTr (t : Tree) : Box := .var (encTree t)
abbrev zTr : List AV := [vi 0, vb false, vb false, nilv, vi 0, vs (ba []), nilv, nilv]
abbrev ciV (f : FuncId) (args : List AV) (x : AV) : CI := ciA f args [] [] (.val x)
def AllP : List Prop → Prop
 | [] => True
 | p :: l => p ∧ AllP l
def okC (c : CI) : Prop := match isB c with
 | true => okArgs (c.args.map (rn c.ρ)) ∧ okBxs (c.bi.map (fun p => some (rnB c.ρ p.2)))
 | false => okArgs c.args
theorem okC_ok (c : CI) : okC c := by
 unfold okC
 split
 ·exact ⟨rfl, rfl⟩
 ·rfl
def topP : List Prop → Prop
 | [] => True
 | p :: _ => p
def andP : List Prop → List Prop
 | q :: p :: l => (p ∧ q) :: l
 | l => l
def headC : List CI → Prop
 | [] => True
 | c :: _ => okC c
def skI : Nat → Nat → List CI → List Prop → List Prop → Prop
 | 0, _, _, _, st => topP st
 | f + 1, n, cs, l, st => match n with
  | 0 => topP st
  | k + 1 => match (k + 1) % 5 with
   | 0 => skI f ((k + 1) / 5) cs l (True :: st)
   | 1 => skI f ((k + 1) / 5) cs l (andP st)
   | 2 => skI f ((k + 1) / 5) cs l.tail (topP l :: st)
   | 3 => skI f ((k + 1) / 5) cs.tail l (headC cs :: st)
   | _ => skI f ((k + 1) / 5) cs.tail l.tail (topP l :: st)
theorem top_ok : ∀ {l : List Prop}, AllP l → topP l
 | [], _ => trivial
 | _ :: _, h => h.1
theorem tail_ok : ∀ {l : List Prop}, AllP l → AllP l.tail
 | [], h => h
 | _ :: _, h => h.2
theorem and_ok : ∀ {l : List Prop}, AllP l → AllP (andP l)
 | [], h => h
 | [_], h => h
 | _ :: _ :: _, h => ⟨⟨h.2.1, h.1⟩, h.2.2⟩
theorem head_ok : ∀ cs : List CI, headC cs
 | [] => trivial
 | c :: _ => okC_ok c
theorem skI_ok : ∀ (f n : Nat) (cs : List CI) (l st : List Prop), AllP l → AllP st → skI f n cs l st
 | 0, n, cs, l, st, hl, hs => by
  rw [skI]; exact top_ok hs
 | f + 1, 0, cs, l, st, hl, hs => by
  rw [skI]; exact top_ok hs
 | f + 1, k + 1, cs, l, st, hl, hs => by
  rw [skI]
  split
  ·exact skI_ok f _ cs l _ hl ⟨trivial, hs⟩
  ·exact skI_ok f _ cs l _ hl (and_ok hs)
  ·exact skI_ok f _ cs _ _ (tail_ok hl) ⟨top_ok hl, hs⟩
  ·exact skI_ok f _ _ l _ hl ⟨head_ok cs, hs⟩
  ·exact skI_ok f _ _ _ _ (tail_ok hl) ⟨top_ok hl, hs⟩
def csOf (rs : List (Nat × RI)) : List CI := rs.flatMap (fun r => r.2.cs.map (·.2))
def skC (rs : List (Nat × RI)) (n : Nat) (l : List Prop) : Prop := skI 4000 n (csOf rs) l []
theorem skC_ok {rs : List (Nat × RI)} {n : Nat} {l : List Prop} (h : AllP l) : skC rs n l := skI_ok _ n _ l [] h trivial
def tt (t : TypeId) : Option Ty := if t = 2 then some (.int .i64) else if t = 3 then some (.int .i64) else if t = 4 then some .bool else if t = 5 then some (.int .u8) else if t = 6 then some (.int .u8) else if t = 9 then some .str else if t = 10 then some .str else if t = 11 then some .str else if t = 12 then some (.int .u64) else if t = 21 then some (.int .i32) else if t = 22 then some (.ints .i64) else if t = 23 then some (.ints .u32) else if t = 25 then some .num else if t = 26 then some .strs else if t = 27 then some .trees else if t = 29 then some .tree else if t = 38 then some (.int .i64) else if t = 80 then some .opn else if t = 132 then some (.int .u64) else if t = 140 then some (.ints .u8) else if t = 160 then some (.int .u32) else if t = 168 then some (.int .u64) else if t = 173 then some (.int .i64) else if t = 201 then some (.int .u64) else if t = 219 then some (.ints .i32) else if t = 250 then some (.int .u8) else if t = 251 then some (.int .u8) else if t = 253 then some (.int .i32) else if t = 254 then some (.int .i32) else none
def I0 (w : World) : Prop := Go.Proofs.YtondpnipoogoiaaGreatDoor.X.Laid w
theorem stab : ∀ w w', I0 w → Below w.heap.size w w' → I0 w' := fun _ _ h b => h.below b
theorem mix : Tryz.prog.follows .mixedOrders = true := by kernel_rfl
theorem tv : True := trivial
theorem ng1 {b : Bool} (h : b = true) : (!b) = false := by rw [h]; rfl
theorem ng0 {b : Bool} (h : b = false) : (!b) = true := by rw [h]; rfl
def gg (t f : List Nat) : List (Nat × Bool) := t.map (fun i => (i, true)) ++ f.map (fun i => (i, false))
abbrev ty {p : Prop} (_ : p) : Prop := p
theorem bt (b : Bool) : b = true ∨ b = false := Bool.eq_false_or_eq_true b
section
variable {w0 w : World} {ow : Own} {N : Nat} {T : TL} {B : BL} {a : Act} {Q : Exit → Act → World → Prop} {c : Code}
theorem wL (hs : SimL N w0 ow T B a w) (hI : ∀ w', Fr ow w0 w' → I0 w') (rs : List (Nat × RI)) (bs : List Bool) (n : Nat) (l : List Prop) (lv : Lv) (T' : TL) (B' : BL) (hall : AllCons Tryz.prog I0 rs) (hl : AllP l) (hq : LvL N w0 ow Q lv T' B') (he : projC Tryz.prog tt N rs c T B bs (T'.map (·.1)) (B'.map (·.1)) = some (skC rs n l, lv, T', B') := by kernel_rfl) : c.wp Tryz.prog Q a w := way_L mix hI hs hall he (skC_ok hl) hq
theorem wN (hs : SimL N w0 ow T B a w) (hI : ∀ w', Fr ow w0 w' → I0 w') (bs : List Bool) (n : Nat) (l : List Prop) (lv : Lv) (T' : TL) (B' : BL) (hl : AllP l) (hq : LvL N w0 ow Q lv T' B') (he : projC Tryz.prog tt N [] c T B bs (T'.map (·.1)) (B'.map (·.1)) = some (skC [] n l, lv, T', B') := by kernel_rfl) : c.wp Tryz.prog Q a w := way_L (rs := []) mix hI hs trivial he (skC_ok hl) hq
theorem rK {fn : Func} {fz : Nat → Prop} {out' : COut} (out : COut) (del : List Nat) (hs : SimL N w0 (noO fz) T B a w) (h : out = out') (hr : retOk Tryz.prog fn T B del out := by exact ⟨by kernel_rfl, rfl⟩) : FnQ Tryz.prog fn w0 (noO fz) out' .ret a w := h ▸ ret_ok del hs hr
theorem nK {fn : Func} {fz : Nat → Prop} {out' : COut} (out : COut) (del : List Nat) (hs : SimL N w0 (noO fz) T B a w) (h : out = out') (hr : retOk Tryz.prog fn T B del out := by exact ⟨by kernel_rfl, rfl⟩) : FnQ Tryz.prog fn w0 (noO fz) out' .normal a w := h ▸ norm_ok del hs hr
theorem tK {fn : Func} {fz : Nat → Prop} {out' : COut} (v : Value) (hs : SimL N w0 (noO fz) T B a w) (h : COut.thr v = out') : FnQ Tryz.prog fn w0 (noO fz) out' (.panic [{ v, recovered := false }]) a w := h ▸ thr_ok hs
theorem SimL.cst (hs : SimL N w0 ow T B a w) (T' : TL) (B' : BL) (h : (T, B) = (T', B')) : SimL N w0 ow T' B' a w := by
 cases h; exact hs
theorem SimL.rmT (hs : SimL N w0 ow T B a w) (T' : TL) (B' : BL) (ρ : List (Nat × Nat)) (h : (renOk ρ T' B', T'.map (fun p => lkp T p.1), B'.map (fun p => lkp B (rnk ρ p.1))) = (true, T'.map (fun p => some (rn ρ p.2)), B'.map (fun p => some (rnB ρ p.2)))) : SimL N w0 ow T' B' a w := by
 simp only [Prod.mk.injEq] at h
 exact hs.ren ρ h.1 h.2.1 h.2.2
theorem SimL.rm (hs : SimL N w0 ow T B a w) {T' : TL} {B' : BL} (ρ : List (Nat × Nat)) (h : (renOk ρ T' B', T'.map (fun p => lkp T p.1), B'.map (fun p => lkp B (rnk ρ p.1))) = (true, T'.map (fun p => some (rn ρ p.2)), B'.map (fun p => some (rnB ρ p.2)))) : SimL N w0 ow T' B' a w := hs.rmT T' B' ρ h
end
theorem ent11 : Ent Tryz.prog 11 := ent_of Tryz.func11 (by kernel_rfl) rfl
theorem ent13 : Ent Tryz.prog 13 := ent_of Tryz.func13 (by kernel_rfl) rfl
theorem ent14 : Ent Tryz.prog 14 := ent_of Tryz.func14 (by kernel_rfl) rfl
theorem ent15 : Ent Tryz.prog 15 := ent_of Tryz.func15 (by kernel_rfl) rfl
theorem ent16 : Ent Tryz.prog 16 := ent_of Tryz.func16 (by kernel_rfl) rfl
theorem ent17 : Ent Tryz.prog 17 := ent_of Tryz.func17 (by kernel_rfl) rfl
theorem ent18 : Ent Tryz.prog 18 := ent_of Tryz.func18 (by kernel_rfl) rfl
theorem ent19 : Ent Tryz.prog 19 := ent_of Tryz.func19 (by kernel_rfl) rfl
theorem ent20 : Ent Tryz.prog 20 := ent_of Tryz.func20 (by kernel_rfl) rfl
theorem ent21 : Ent Tryz.prog 21 := ent_of Tryz.func21 (by kernel_rfl) rfl
theorem ent22 : Ent Tryz.prog 22 := ent_of Tryz.func22 (by kernel_rfl) rfl
theorem ent31 : Ent Tryz.prog 31 := ent_of Tryz.func31 (by kernel_rfl) rfl
theorem ent35 : Ent Tryz.prog 35 := ent_of Tryz.func35 (by kernel_rfl) rfl
theorem ent36 : Ent Tryz.prog 36 := ent_of Tryz.func36 (by kernel_rfl) rfl
theorem ent37 : Ent Tryz.prog 37 := ent_of Tryz.func37 (by kernel_rfl) rfl
theorem ent39 : Ent Tryz.prog 39 := ent_of Tryz.func39 (by kernel_rfl) rfl
theorem ent41 : Ent Tryz.prog 41 := ent_of Tryz.func41 (by kernel_rfl) rfl
theorem ent51 : Ent Tryz.prog 51 := ent_of Tryz.func51 (by kernel_rfl) rfl
theorem ent54 : Ent Tryz.prog 54 := ent_of Tryz.func54 (by kernel_rfl) rfl
theorem ent55 : Ent Tryz.prog 55 := ent_of Tryz.func55 (by kernel_rfl) rfl
theorem ent56 : Ent Tryz.prog 56 := ent_of Tryz.func56 (by kernel_rfl) rfl
theorem ent57 : Ent Tryz.prog 57 := ent_of Tryz.func57 (by kernel_rfl) rfl
theorem ent58 : Ent Tryz.prog 58 := ent_of Tryz.func58 (by kernel_rfl) rfl
theorem ent59 : Ent Tryz.prog 59 := ent_of Tryz.func59 (by kernel_rfl) rfl
theorem ent60 : Ent Tryz.prog 60 := ent_of Tryz.func60 (by kernel_rfl) rfl
theorem ent61 : Ent Tryz.prog 61 := ent_of Tryz.func61 (by kernel_rfl) rfl
theorem ent62 : Ent Tryz.prog 62 := ent_of Tryz.func62 (by kernel_rfl) rfl
theorem ent63 : Ent Tryz.prog 63 := ent_of Tryz.func63 (by kernel_rfl) rfl
theorem ent64 : Ent Tryz.prog 64 := ent_of Tryz.func64 (by kernel_rfl) rfl
theorem ent65 : Ent Tryz.prog 65 := ent_of Tryz.func65 (by kernel_rfl) rfl
theorem ent66 : Ent Tryz.prog 66 := ent_of Tryz.func66 (by kernel_rfl) rfl
theorem ent67 : Ent Tryz.prog 67 := ent_of Tryz.func67 (by kernel_rfl) rfl
theorem ent68 : Ent Tryz.prog 68 := ent_of Tryz.func68 (by kernel_rfl) rfl
theorem ent69 : Ent Tryz.prog 69 := ent_of Tryz.func69 (by kernel_rfl) rfl
theorem ent82 : Ent Tryz.prog 82 := ent_of Tryz.func82 (by kernel_rfl) rfl
theorem ent83 : Ent Tryz.prog 83 := ent_of Tryz.func83 (by kernel_rfl) rfl
theorem ent84 : Ent Tryz.prog 84 := ent_of Tryz.func84 (by kernel_rfl) rfl
theorem ent88 : Ent Tryz.prog 88 := ent_of Tryz.func88 (by kernel_rfl) rfl
theorem ent89 : Ent Tryz.prog 89 := ent_of Tryz.func89 (by kernel_rfl) rfl
theorem ent90 : Ent Tryz.prog 90 := ent_of Tryz.func90 (by kernel_rfl) rfl
theorem ent91 : Ent Tryz.prog 91 := ent_of Tryz.func91 (by kernel_rfl) rfl
theorem ent92 : Ent Tryz.prog 92 := ent_of Tryz.func92 (by kernel_rfl) rfl
theorem ent93 : Ent Tryz.prog 93 := ent_of Tryz.func93 (by kernel_rfl) rfl
theorem ent106 : Ent Tryz.prog 106 := ent_of Tryz.func106 (by kernel_rfl) rfl
theorem ent107 : Ent Tryz.prog 107 := ent_of Tryz.func107 (by kernel_rfl) rfl
theorem ent110 : Ent Tryz.prog 110 := ent_of Tryz.func110 (by kernel_rfl) rfl
theorem ent111 : Ent Tryz.prog 111 := ent_of Tryz.func111 (by kernel_rfl) rfl
theorem ent112 : Ent Tryz.prog 112 := ent_of Tryz.func112 (by kernel_rfl) rfl
theorem ent113 : Ent Tryz.prog 113 := ent_of Tryz.func113 (by kernel_rfl) rfl
theorem ent114 : Ent Tryz.prog 114 := ent_of Tryz.func114 (by kernel_rfl) rfl
theorem ent115 : Ent Tryz.prog 115 := ent_of Tryz.func115 (by kernel_rfl) rfl
theorem ent116 : Ent Tryz.prog 116 := ent_of Tryz.func116 (by kernel_rfl) rfl
theorem ent117 : Ent Tryz.prog 117 := ent_of Tryz.func117 (by kernel_rfl) rfl
theorem ent118 : Ent Tryz.prog 118 := ent_of Tryz.func118 (by kernel_rfl) rfl
theorem ent119 : Ent Tryz.prog 119 := ent_of Tryz.func119 (by kernel_rfl) rfl
theorem ent120 : Ent Tryz.prog 120 := ent_of Tryz.func120 (by kernel_rfl) rfl
theorem ent121 : Ent Tryz.prog 121 := ent_of Tryz.func121 (by kernel_rfl) rfl
theorem ent122 : Ent Tryz.prog 122 := ent_of Tryz.func122 (by kernel_rfl) rfl
theorem ent123 : Ent Tryz.prog 123 := ent_of Tryz.func123 (by kernel_rfl) rfl
theorem ent124 : Ent Tryz.prog 124 := ent_of Tryz.func124 (by kernel_rfl) rfl
theorem ent125 : Ent Tryz.prog 125 := ent_of Tryz.func125 (by kernel_rfl) rfl
theorem ent126 : Ent Tryz.prog 126 := ent_of Tryz.func126 (by kernel_rfl) rfl
theorem ent127 : Ent Tryz.prog 127 := ent_of Tryz.func127 (by kernel_rfl) rfl
theorem ent128 : Ent Tryz.prog 128 := ent_of Tryz.func128 (by kernel_rfl) rfl
theorem ent129 : Ent Tryz.prog 129 := ent_of Tryz.func129 (by kernel_rfl) rfl
theorem ent130 : Ent Tryz.prog 130 := ent_of Tryz.func130 (by kernel_rfl) rfl
theorem ent134 : Ent Tryz.prog 134 := ent_of Tryz.func134 (by kernel_rfl) rfl
theorem ent140 : Ent Tryz.prog 140 := ent_of Tryz.func140 (by kernel_rfl) rfl
theorem ent145 : Ent Tryz.prog 145 := ent_of Tryz.func145 (by kernel_rfl) rfl
theorem ent146 : Ent Tryz.prog 146 := ent_of Tryz.func146 (by kernel_rfl) rfl
theorem ent161 : Ent Tryz.prog 161 := ent_of Tryz.func161 (by kernel_rfl) rfl
theorem ent162 : Ent Tryz.prog 162 := ent_of Tryz.func162 (by kernel_rfl) rfl
theorem ent163 : Ent Tryz.prog 163 := ent_of Tryz.func163 (by kernel_rfl) rfl
theorem ent166 : Ent Tryz.prog 166 := ent_of Tryz.func166 (by kernel_rfl) rfl
theorem ent167 : Ent Tryz.prog 167 := ent_of Tryz.func167 (by kernel_rfl) rfl
theorem ent170 : Ent Tryz.prog 170 := ent_of Tryz.func170 (by kernel_rfl) rfl
theorem ent171 : Ent Tryz.prog 171 := ent_of Tryz.func171 (by kernel_rfl) rfl
theorem ent172 : Ent Tryz.prog 172 := ent_of Tryz.func172 (by kernel_rfl) rfl
theorem ent173 : Ent Tryz.prog 173 := ent_of Tryz.func173 (by kernel_rfl) rfl
theorem ent174 : Ent Tryz.prog 174 := ent_of Tryz.func174 (by kernel_rfl) rfl
theorem ent175 : Ent Tryz.prog 175 := ent_of Tryz.func175 (by kernel_rfl) rfl
theorem ent176 : Ent Tryz.prog 176 := ent_of Tryz.func176 (by kernel_rfl) rfl
theorem ent209 : Ent Tryz.prog 209 := ent_of Tryz.func209 (by kernel_rfl) rfl
theorem ent210 : Ent Tryz.prog 210 := ent_of Tryz.func210 (by kernel_rfl) rfl
theorem ent211 : Ent Tryz.prog 211 := ent_of Tryz.func211 (by kernel_rfl) rfl
theorem ent212 : Ent Tryz.prog 212 := ent_of Tryz.func212 (by kernel_rfl) rfl
theorem ent214 : Ent Tryz.prog 214 := ent_of Tryz.func214 (by kernel_rfl) rfl
theorem ent215 : Ent Tryz.prog 215 := ent_of Tryz.func215 (by kernel_rfl) rfl
theorem ent216 : Ent Tryz.prog 216 := ent_of Tryz.func216 (by kernel_rfl) rfl
theorem ent217 : Ent Tryz.prog 217 := ent_of Tryz.func217 (by kernel_rfl) rfl
theorem ent218 : Ent Tryz.prog 218 := ent_of Tryz.func218 (by kernel_rfl) rfl
theorem ent248 : Ent Tryz.prog 248 := ent_of Tryz.func248 (by kernel_rfl) rfl
theorem ent249 : Ent Tryz.prog 249 := ent_of Tryz.func249 (by kernel_rfl) rfl
theorem ent250 : Ent Tryz.prog 250 := ent_of Tryz.func250 (by kernel_rfl) rfl
theorem ent251 : Ent Tryz.prog 251 := ent_of Tryz.func251 (by kernel_rfl) rfl
theorem ent252 : Ent Tryz.prog 252 := ent_of Tryz.func252 (by kernel_rfl) rfl
theorem ent270 : Ent Tryz.prog 270 := ent_of Tryz.func270 (by kernel_rfl) rfl
theorem ent271 : Ent Tryz.prog 271 := ent_of Tryz.func271 (by kernel_rfl) rfl
open Go.Proofs.Tryz
def bulk (t : Tree) : Nat := 1 + if t.kind = 3 then t.n.m.length else if t.kind = 4 then t.s.size else if t.kind = 5 then t.s.size else 0
mutual
def weight : Tree → Nat
 | .mk kind b n s k v => bulk (.mk kind b n s k v) + weightL v
def weightL : List Tree → Nat
 | [] => 0
 | t :: l => weight t + weightL l
end
theorem weight_eq (t : Tree) : weight t = bulk t + weightL t.v := by cases t; rfl
theorem weightL_take : ∀ (l : List Tree) (i : Nat), i < l.length → weightL (l.take (i + 1)) = weightL (l.take i) + weight (l.getD i (dflt .tree))
 | [], i, h => by simp at h
 | t :: l, 0, h => by simp [weightL]
 | t :: l, i + 1, h => by
  simp only [List.take_succ_cons, weightL, List.getD_cons_succ]
  rw [weightL_take l i (by simpa using h)]; omega
theorem weightL_le : ∀ (l : List Tree) (i : Nat), weightL (l.take i) ≤ weightL l
 | [], i => by simp
 | t :: l, 0 => by simp [weightL]
 | t :: l, i + 1 => by simp only [List.take_succ_cons, weightL]; have := weightL_le l i; omega
theorem bulk_3 {t : Tree} (h : t.kind = 3) : bulk t = 1 + t.n.m.length := by simp [bulk, h]
theorem bulk_4 {t : Tree} (h : t.kind = 4) : bulk t = 1 + t.s.size := by simp [bulk, h]
theorem bulk_5 {t : Tree} (h : t.kind = 5) : bulk t = 1 + t.s.size := by simp [bulk, h]
theorem bulk_0 {t : Tree} (h : ¬ t.kind = 3) (h' : ¬ t.kind = 4) (h2 : ¬ t.kind = 5) : bulk t = 1 := by simp [bulk, h, h', h2]
mutual
def nodes : Tree → Nat
 | .mk _ _ _ _ _ v => 1 + nodesL v
def nodesL : List Tree → Nat
 | [] => 0
 | t :: l => nodes t + nodesL l
end
theorem nodes_eq (t : Tree) : nodes t = 1 + nodesL t.v := by cases t; rfl
theorem nodes_at : ∀ {l : List Tree} {i : Nat}, i < l.length → nodes (l.getD i (dflt .tree)) ≤ nodesL l
 | [], i, h => by simp at h
 | t :: l, 0, h => by simp [nodesL]
 | t :: l, i + 1, h => by
  simp only [nodesL, List.getD_cons_succ]
  have := @nodes_at l i (by simpa using h); omega
theorem nodesL_take : ∀ (l : List Tree) (i : Nat), i < l.length → nodesL (l.take (i + 1)) = nodesL (l.take i) + nodes (l.getD i (dflt .tree))
 | [], i, h => by simp at h
 | t :: l, 0, h => by simp [nodesL]
 | t :: l, i + 1, h => by
  simp only [List.take_succ_cons, nodesL, List.getD_cons_succ]
  rw [nodesL_take l i (by simpa using h)]; omega
theorem nodesL_le : ∀ (l : List Tree) (i : Nat), nodesL (l.take i) ≤ nodesL l
 | [], i => by simp
 | t :: l, 0 => by simp [nodesL]
 | t :: l, i + 1 => by simp only [List.take_succ_cons, nodesL]; have := nodesL_le l i; omega
theorem nodesL_len : ∀ (l : List Tree), l.length ≤ nodesL l
 | [] => by simp
 | t :: l => by simp only [List.length_cons, nodesL]; have := nodesL_len l; have := nodes_eq t; omega
mutual
def depth : Tree → Nat
 | .mk _ _ _ _ _ v => 1 + depthL v
def depthL : List Tree → Nat
 | [] => 0
 | t :: l => max (depth t) (depthL l)
end
theorem depth_eq (t : Tree) : depth t = 1 + depthL t.v := by cases t; rfl
theorem depthL_take : ∀ (l : List Tree) (i : Nat), i < l.length → depthL (l.take (i + 1)) = max (depthL (l.take i)) (depth (l.getD i (dflt .tree)))
 | [], i, h => by simp at h
 | t :: l, 0, h => by simp [depthL]
 | t :: l, i + 1, h => by
  simp only [List.take_succ_cons, depthL, List.getD_cons_succ]
  rw [depthL_take l i (by simpa using h)]; omega
mutual
theorem depth_le : ∀ t : Tree, depth t ≤ nodes t
 | .mk _ _ _ _ _ v => by simp only [depth, nodes]; have := depthL_le v; omega
theorem depthL_le : ∀ l : List Tree, depthL l ≤ nodesL l
 | [] => by simp [depthL]
 | t :: l => by simp only [depthL, nodesL]; have := depth_le t; have := depthL_le l; omega
end
def cutK (t : Tree) : List ByteArray := if t.kind = 7 then t.k.take (min t.k.length t.v.length) else []
def cutV (t : Tree) : List Tree := if t.kind = 7 then t.v.take (min t.k.length t.v.length) else []
theorem cut_len (t : Tree) : (cutK t).length = (cutV t).length := by unfold cutK cutV; split <;> simp <;> omega
def eqT (a b : ByteArray) : Bool := a.toList == b.toList
def idxT (x : ByteArray) : List ByteArray → Int
 | [] => -1
 | y :: l => if eqT x y = true then 0 else if idxT x l < 0 then -1 else idxT x l + 1
theorem idxT_no {x : ByteArray} : ∀ {l : List ByteArray}, (∀ j, j < l.length → ∀ d, eqT x (l.getD j d) = false) → idxT x l = -1
 | [], _ => rfl
 | y :: l, h => by
  have h0 : eqT x y = false := h 0 (by simp) y
  have h1 := idxT_no (l := l) (fun j hj d => h (j + 1) (by simpa using hj) d)
  simp [idxT, h0, h1]
theorem idxT_at {x : ByteArray} : ∀ {l : List ByteArray} {i : Nat} (d : ByteArray), i < l.length → eqT x (l.getD i d) = true → (∀ j, j < i → ∀ d, eqT x (l.getD j d) = false) → idxT x l = (i : Int)
 | [], _, _, h, _, _ => by simp at h
 | y :: l, 0, d, h, hq, _ => by
  have hq' : eqT x y = true := hq
  simp [idxT, hq']
 | y :: l, i + 1, d, h, hq, hn => by
  have h0 : eqT x y = false := hn 0 (by omega) y
  have h1 := idxT_at (l := l) (i := i) d (by simpa using h) hq (fun j hj d => hn (j + 1) (by omega) d)
  simp only [idxT, h0, h1]
  rw [if_neg (by decide), if_neg (by omega)]
  omega
theorem idxT_in (x : ByteArray) : ∀ l : List ByteArray, -1 ≤ idxT x l ∧ idxT x l < l.length
 | [] => by simp [idxT]
 | y :: l => by
  have := idxT_in x l
  simp only [idxT, List.length_cons]
  split
  ·omega
  ·split <;> omega
theorem getD_any' {α : Type} {l : List α} {i : Nat} (h : i < l.length) (d d' : α) : l.getD i d = l.getD i d' := by
 rw [List.getD_eq_getElem?_getD, List.getD_eq_getElem?_getD, List.getElem?_eq_getElem h]; rfl
def memI (t : Tree) (x : ByteArray) : Int := idxT x (cutK t)
def memV (t : Tree) (x : ByteArray) : Tree := if memI t x ≥ 0 then (cutV t).getD (memI t x).toNat (dflt .tree) else Tree.zero
def memB (t : Tree) (x : ByteArray) : Bool := decide (memI t x ≥ 0)
theorem memV_pos {t : Tree} {x : ByteArray} (h : idxT x (cutK t) ≥ 0) : memV t x = (cutV t).getD (idxT x (cutK t)).toNat (dflt .tree) ∧ memB t x = true := ⟨if_pos h, decide_eq_true h⟩
theorem memV_neg {t : Tree} {x : ByteArray} (h : ¬ idxT x (cutK t) ≥ 0) : memV t x = Tree.zero ∧ memB t x = false := ⟨if_neg h, decide_eq_false h⟩
theorem con173 (t : Tree) : Con Tryz.prog I0 173 [.agg (encTree t)] (.val (.tup [.row .str (cutK t), .row .tree (cutV t)])) := by
 refine con_of Tryz.func173 rfl (Nat.le_of_ble_eq_true rfl) stab (fun w0 fz a hI hs => ?_)
 rcases bt (t.kind != 7) with b1 | b1
 ·skip
  have n1 := bne_iff_ne.1 b1
  refine wN hs hI [true] 74409498584003750 [ty b1] .ret [(2, nilv), (3, nilv)] [] ⟨b1, tv⟩ fun a w hs => ?_
  exact rK (.val (.tup [rwS ([]), rwT ([])])) [] hs (by have b1 := b1; simp at b1; simp [cutK, cutV, b1]; try omega)
 ·skip
  have n1 := bne_eq_false_iff_eq.1 b1
  refine wN hs hI [false] 676758996064575061610230475664139723193378750 [ty b1, 0 ≤ (0 : Int) ∧ (0 : Int) ≤ (min (t.k.length : Int) (t.v.length : Int)) ∧ (min (t.k.length : Int) (t.v.length : Int)) ≤ (min (t.k.length : Int) (t.v.length : Int)) ∧ (min (t.k.length : Int) (t.v.length : Int)) ≤ (t.k.length : Int), 0 ≤ (0 : Int) ∧ (0 : Int) ≤ (min (t.k.length : Int) (t.v.length : Int)) ∧ (min (t.k.length : Int) (t.v.length : Int)) ≤ (min (t.k.length : Int) (t.v.length : Int)) ∧ (min (t.k.length : Int) (t.v.length : Int)) ≤ (t.v.length : Int)] .ret [(2, rwS (t.k.take (min (t.k.length : Int) (t.v.length : Int)).toNat)), (3, rwT (t.v.take (min (t.k.length : Int) (t.v.length : Int)).toNat))] [] ⟨b1, (by (repeat' apply And.intro) <;> (try split) <;> omega), (by (repeat' apply And.intro) <;> (try split) <;> omega), tv⟩ fun a w hs => ?_
  exact rK (.val (.tup [rwS (t.k.take (min (t.k.length : Int) (t.v.length : Int)).toNat), rwT (t.v.take (min (t.k.length : Int) (t.v.length : Int)).toNat)])) [] hs (by have b1 := b1; simp at b1; simp [cutK, cutV, b1]; try omega)
theorem con171 (xs : List ByteArray) (x : ByteArray) (hx : xs.length < 4611686018427387904) : Con Tryz.prog I0 171 [.row .str xs, vs x] (.val (vi (idxT x xs))) := by
 refine con_of Tryz.func171 rfl (Nat.le_of_ble_eq_true rfl) stab (fun w0 fz a hI hs => ?_)
 refine wp_seq ?_
 refine wN hs hI [] 25 [] .norm [(0, rwS xs), (1, vs x)] [] tv fun a w hs => ?_
 refine then_norm ?_
 refine wp_seq ?_
 refine wp_seq ?_
 refine wN hs hI [] 19375 [] .norm [(0, rwS xs), (1, vs x), (7, vi (xs.length : Int)), (8, vi 0)] [] tv fun a w hs => ?_
 refine then_norm ?_
 refine wp_block ?_
 refine loop_L (N := Tryz.f171.ntmps) (w0 := w0) (ow := noO fz) (α := Nat) (fun p => [(0, rwS xs), (1, vs x), (7, vi (xs.length : Int)), (8, vi (p : Int))]) (fun p => []) (fun p => p ≤ xs.length ∧ ∀ j, j < p → ∀ d, eqT x (xs.getD j d) = false) (fun p => xs.length - p) 0 ?_ ?_ ?_
 ·exact ⟨Nat.zero_le _, fun j hj => absurd hj (Nat.not_lt_zero _)⟩
 ·(have e0_ : (0) = (((0 : Nat) : Int)) := (by first | rfl | (rfl)); exact (hs.cst [(0, rwS xs), (1, vs x), (7, vi (xs.length : Int)), (8, vi ((0 : Nat) : Int))] [] (by first | (rw [e0_]; done) | (simp only [e0_]; done) | rfl | (simp only [e0_]; rfl))).rm [] (by kernel_rfl))
 rintro i hJ a w hs
 obtain ⟨hi, hall⟩ := hJ
 rcases bt (decide ((i : Int) < (xs.length : Int))) with b1 | b1
 ·skip
  have n1 := of_decide_eq_true b1
  rcases bt (x.toList == (xs.getD i (dflt .str)).toList) with b2 | b2
  ·skip
   have n2 := eq_of_beq b2
   refine wN hs hI [true, true] 18188953533767712414065900 [ty b1, 0 ≤ (i : Int) ∧ (i : Int) < xs.length, ty b2] .ret [(4, vi (i : Int))] [] ⟨b1, (by omega), b2, tv⟩ fun a w hs => ?_
   refine then_ret ?_
   refine inb_ret ?_
   refine then_ret ?_
   exact rK (.val (vi (i : Int))) [] hs (by rw [idxT_at (i := i) (dflt .str) (by omega) b2 (fun j hj d => hall j hj d)])
  ·skip
   have n2 := beq_eq_false_iff_ne.1 b2
   refine wN hs hI [true, false] 18184492126106274425784650 [ty b1, 0 ≤ (i : Int) ∧ (i : Int) < xs.length, ty b2, InR .i64 ((i : Int) + 1)] .norm [(0, rwS xs), (1, vs x), (7, vi (xs.length : Int)), (8, vi ((i : Int) + 1))] [] ⟨b1, (by omega), b2, (inR64 (by omega) (by omega)), tv⟩ fun a w hs => ?_
   refine then_norm ⟨i + 1, ⟨by omega, fun j hj d => by rcases Nat.lt_succ_iff_lt_or_eq.1 hj with h | h; exact hall j h d; subst h; rw [getD_any' (by omega) d (dflt .str)]; exact b2⟩, by omega, ?_⟩
   (have e0_ : ((i : Int) + 1) = ((((i + 1) : Nat) : Int)) := (by first | rfl | (omega)); exact (hs.cst [(0, rwS xs), (1, vs x), (7, vi (xs.length : Int)), (8, vi (((i + 1) : Nat) : Int))] [] (by first | (rw [e0_]; done) | (simp only [e0_]; done) | rfl | (simp only [e0_]; rfl))).rm [] (by kernel_rfl))
 ·skip
  have n1 := of_decide_eq_false b1
  refine wN hs hI [false] 19025 [ty b1] (.exit 0) [] [] ⟨b1, tv⟩ fun a w hs => ?_
  refine then_exit ?_
  refine inb_hit ?_
  refine then_norm ?_
  refine wN hs hI [] 650 [] .ret [(4, vi (-1))] [] tv fun a w hs => ?_
  exact rK (.val (vi (-1))) [] hs (by rw [idxT_no (fun j hj d => hall j (by omega) d)])
theorem con122 (t : Tree) (x : ByteArray) (hx : (cutK t).length < 4611686018427387904) : Con Tryz.prog I0 122 [.agg (encTree t), vs x] (.val (.tup [.agg (encTree (memV t x)), vb (memB t x)])) := by
 have hx1 := idxT_in x (cutK t)
 have hcl := cut_len t
 refine con_of Tryz.func122 rfl (Nat.le_of_ble_eq_true rfl) stab (fun w0 fz a hI hs => ?_)
 rcases bt (decide ((idxT x (cutK t)) ≥ 0)) with b1 | b1
 ·skip
  have n1 := of_decide_eq_true b1
  refine wL hs hI [(1, ⟨[(1, ciV 173 [aTr (t)] (.tup [rwS (cutK t), rwT (cutV t)]))], [], []⟩), (2, ⟨[(2, ciV 171 [rwS (cutK t), vs x] (vi (idxT x (cutK t))))], [], []⟩)] [true] 1734634656717422186628163456909180878750 [ty b1, 0 ≤ (idxT x (cutK t)) ∧ (idxT x (cutK t)) < (cutV t).length] .ret [(4, .ptr 1001 0), (5, vb true)] [(1001, bTr (((cutV t).getD ((idxT x (cutK t)).toNat) (dflt .tree))))] ⟨⟨⟨ent173, con173 _⟩, tv⟩, ⟨⟨ent171, con171 _ _ hx⟩, tv⟩, tv⟩ ⟨b1, (by omega), tv⟩ fun a w hs => ?_
  exact rK (.val (.tup [aTr (((cutV t).getD ((idxT x (cutK t)).toNat) (dflt .tree))), vb true])) [] hs (by have h := memV_pos (by assumption); rw [h.1, h.2])
 ·skip
  have n1 := of_decide_eq_false b1
  refine wL hs hI [(1, ⟨[(1, ciV 173 [aTr (t)] (.tup [rwS (cutK t), rwT (cutV t)]))], [], []⟩), (2, ⟨[(2, ciV 171 [rwS (cutK t), vs x] (vi (idxT x (cutK t))))], [], []⟩)] [false] 2771997753767065003693699829102753750 [ty b1] .ret [(4, .ptr 1001 0), (5, vb false)] [(1001, .var zTr)] ⟨⟨⟨ent173, con173 _⟩, tv⟩, ⟨⟨ent171, con171 _ _ hx⟩, tv⟩, tv⟩ ⟨b1, tv⟩ fun a w hs => ?_
  exact rK (.val (.tup [.agg [vi 0, vb false, vb false, rwU ([]), vi 0, vs (ba []), rwS ([]), rwT ([])], vb false])) [] hs (by have h := memV_neg (by assumption); rw [h.1, h.2]; rfl)
theorem nodesL_mem : ∀ {l : List Tree} {x : Tree}, x ∈ l → nodes x ≤ nodesL l
 | [], _, h => by simp at h
 | t :: l, x, h => by
  simp only [nodesL]
  rcases List.mem_cons.1 h with rfl | h
  ·omega
  ·have := nodesL_mem h; omega
theorem cutV_sub {t y : Tree} (h : y ∈ cutV t) : y ∈ t.v := by
 unfold cutV at h
 split at h
 ·exact List.mem_of_mem_take h
 ·simp at h
theorem memV_nodes {t : Tree} {x : ByteArray} (h : memB t x = true) : nodes (memV t x) ≤ nodes t := by
 have h0 : idxT x (cutK t) ≥ 0 := of_decide_eq_true h
 have h1 := idxT_in x (cutK t)
 have h2 := cut_len t
 rw [(memV_pos h0).1]
 have h3 : (idxT x (cutK t)).toNat < (cutV t).length := by omega
 have hm : (cutV t).getD (idxT x (cutK t)).toNat (dflt .tree) ∈ t.v := by
  refine cutV_sub ?_
  rw [List.getD_eq_getElem?_getD, List.getElem?_eq_getElem h3]
  exact List.getElem_mem h3
 have := nodesL_mem hm
 have := nodes_eq t
 omega
theorem eqT_iff {a b : ByteArray} : eqT a b = true ↔ a = b := by
 unfold eqT
 rw [beq_iff_eq]
 refine ⟨fun h => ?_, fun h => by rw [h]⟩
 rw [Lib.toList_data, Lib.toList_data] at h
 obtain ⟨⟨a⟩⟩ := a
 obtain ⟨⟨b⟩⟩ := b
 simp at h
 rw [h]
theorem eqT_ne {a b : ByteArray} : eqT a b = false ↔ a ≠ b := by
 cases h : eqT a b with
 | true => simp [eqT_iff.1 h]
 | false => simp only [true_iff]; intro e; rw [eqT_iff.2 e] at h; cases h
theorem eqT_self (a : ByteArray) : eqT a a = true := eqT_iff.2 rfl
abbrev Mem := List (ByteArray × Tree)
def lookA (x : ByteArray) : Mem → Option Tree
 | [] => none
 | (y, v) :: l => if eqT x y = true then some v else lookA x l
def gtB (a b : ByteArray) : Bool := !(Op.bytesLess a.toList b.toList || a.toList == b.toList)
def putA (x : ByteArray) (v : Tree) : Mem → Mem
 | [] => [(x, v)]
 | (y, u) :: l => if gtB y x = true then (x, v) :: (y, u) :: l else (y, u) :: putA x v l
def repA (x : ByteArray) (v : Tree) : Mem → Mem
 | [] => []
 | (y, u) :: l => if eqT x y = true then (y, v) :: l else (y, u) :: repA x v l
def insA (x : ByteArray) (v : Tree) (l : Mem) : Mem := if (lookA x l).isSome then repA x v l else putA x v l
def delA (x : ByteArray) : Mem → Mem
 | [] => []
 | (y, u) :: l => if eqT x y = true then l else (y, u) :: delA x l
def Nodup (l : Mem) : Prop := (l.map (·.1)).Nodup
def mems (t : Tree) : Mem := (cutK t).zip (cutV t)
theorem mems_k (t : Tree) : (mems t).map (·.1) = cutK t := by
 unfold mems
 rw [List.map_fst_zip (Nat.le_of_eq (cut_len t))]
theorem mems_v (t : Tree) : (mems t).map (·.2) = cutV t := by
 unfold mems
 rw [List.map_snd_zip (Nat.le_of_eq (cut_len t).symm)]
def objM (l : Mem) : Tree := .mk 7 false ⟨false, [], 0⟩ (ba []) (l.map (·.1)) (l.map (·.2))
theorem mems_objM (l : Mem) : mems (objM l) = l := by
 unfold mems cutK cutV objM
 simp only [Tree.kind, Tree.k, Tree.v, if_true, List.length_map, Nat.min_self]
 rw [List.take_of_length_le (by simp), List.take_of_length_le (by simp)]
 induction l with
 | nil => rfl
 | cons p l ih => simp [List.zip_cons_cons, ih]
theorem idxT_look (x : ByteArray) : ∀ l : Mem, (idxT x (l.map (·.1)) ≥ 0 ↔ (lookA x l).isSome = true) ∧ (idxT x (l.map (·.1)) ≥ 0 → lookA x l = some ((l.map (·.2)).getD (idxT x (l.map (·.1))).toNat (dflt .tree)))
 | [] => by simp [idxT, lookA]
 | (y, v) :: l => by
  obtain ⟨h1, h2⟩ := idxT_look x l
  simp only [List.map_cons, idxT, lookA]
  by_cases h : eqT x y = true
  ·simp [h]
  ·simp only [h]
   by_cases h0 : idxT x (l.map (·.1)) < 0
   ·have hn : ¬ (lookA x l).isSome = true := fun hh => by have := h1.2 hh; omega
    simp only [h0, if_true, Bool.false_eq_true, if_false]
    exact ⟨⟨fun hh => by omega, fun hh => absurd hh hn⟩, fun hh => by omega⟩
   ·have hp : idxT x (l.map (·.1)) ≥ 0 := by omega
    simp only [h0, if_false, Bool.false_eq_true]
    refine ⟨⟨fun _ => h1.1 hp, fun _ => by omega⟩, fun _ => ?_⟩
    rw [h2 hp, show (idxT x (l.map (·.1)) + 1).toNat = (idxT x (l.map (·.1))).toNat + 1 by omega, List.getD_cons_succ]
theorem memB_look (t : Tree) (x : ByteArray) : memB t x = (lookA x (mems t)).isSome := by
 have h := (idxT_look x (mems t)).1
 rw [mems_k] at h
 unfold memB memI
 rw [Bool.eq_iff_iff, decide_eq_true_iff]; exact h
theorem memV_look (t : Tree) (x : ByteArray) : memV t x = (lookA x (mems t)).getD Tree.zero := by
 have h := idxT_look x (mems t)
 rw [mems_k, mems_v] at h
 unfold memV memI
 by_cases h0 : idxT x (cutK t) ≥ 0
 ·rw [if_pos h0, h.2 h0]; rfl
 ·rw [if_neg h0]
  have hn : lookA x (mems t) = none := by
   cases hl : lookA x (mems t) with
   | none => rfl
   | some v => exact absurd (h.1.2 (by rw [hl]; rfl)) h0
  rw [hn]; rfl
def setT (t : Tree) (x : ByteArray) (v : Tree) : Tree := objM (insA x v (mems t))
def unsetT (t : Tree) (x : ByteArray) : Tree := if memB t x = true then objM (delA x (mems t)) else t
end Go.Proofs.YtondpnipoogoiaaGreatDoor.F
namespace Go.Proofs.YtondpnipoogoiaaGreatDoor.X
open Go Go.RowKit
structure Hide0 (p : Prop) : Prop where
 out : p
theorem nt_Valid : Tryz.f249.ntmps = 24 := rfl
def validAt (s : ByteArray) : Nat → Nat → Bool
 | 0, _ => true
 | b + 1, i => if i < s.size then (if (Utf8.decode s i).1 = 65533 then (if (Utf8.decode s i).2 = 1 then false else validAt s b (i + (Utf8.decode s i).2)) else validAt s b (i + (Utf8.decode s i).2)) else true
theorem validAt_end (s : ByteArray) (b i : Nat) (h : ¬ i < s.size) : validAt s b i = true := by
 cases b with
 | zero => rfl
 | succ b => simp [validAt, h]
theorem run_next_at {P : Program} (W : World) (n : Nat) (s : ByteArray) (pos : Nat) (ty : TypeId) (hi : W.heap[n]? = some (.stringIter s pos)) (h : pos < s.size) :
  (Instr.next (.pointer (some ⟨n, 0, none⟩)) true ty).run P W = .ok (.tuple #[.bool true, .int .i64 pos, .int .i32 (Utf8.decode s pos).1]) { W with heap := W.heap.setIfInBounds n (.stringIter s (pos + (Utf8.decode s pos).2)) } := by
 simp only [Instr.next, getObj, setObj, Sem.run_bind, Sem.run, hi, Result.andThen, h, if_true]
 simp [goInt]
theorem run_next_at_end {P : Program} (W : World) (n : Nat) (s : ByteArray) (pos : Nat) (ty : TypeId) (hi : W.heap[n]? = some (.stringIter s pos)) (h : ¬ pos < s.size) :
  (Instr.next (.pointer (some ⟨n, 0, none⟩)) true ty).run P W = .ok (.tuple #[.bool false]) W := by
 simp [Instr.next, getObj, Sem.run, hi, h]
theorem decodeGo_from (s : ByteArray) (pos : Nat) (h : pos < s.size) : Lib.decodeGo (s.extract pos s.size) = Utf8.decode s pos := by
 have hx : (s.extract pos s.size).data.toList = s.data.toList.drop pos := by
  rw [Lib.extract_data, List.take_of_length_le (by rw [List.length_drop, ← Lib.size_eq]; omega)]
 have hsz : (s.extract pos s.size).size ≠ 0 := by rw [Lib.size_eq, hx, List.length_drop, ← Lib.size_eq]; omega
 unfold Lib.decodeGo
 rw [if_neg hsz, ← Lib.decodeL_drop s pos, ← hx]
 rfl
def World.turned (W : World) (n : Nat) (s : ByteArray) (p : Nat) : World := { W with heap := W.heap.setIfInBounds n (.stringIter s p) }
theorem turned_at {W : World} {n : Nat} {s s0 : ByteArray} {p q : Nat} (h : W.heap[n]? = some (.stringIter s0 q)) : (World.turned W n s p).heap[n]? = some (.stringIter s p) := by
 obtain ⟨hn, _⟩ := Array.getElem?_eq_some_iff.1 h
 show (W.heap.setIfInBounds n _)[n]? = _
 simp [Array.getElem?_setIfInBounds, hn]
theorem turned_below {B : Nat} {a W : World} {n : Nat} {s : ByteArray} {p : Nat} (h : Below B a W) (hn : B ≤ n) : Below B a (World.turned W n s p) :=
 ⟨h.os, h.tape, h.output, by show _ ≤ (W.heap.setIfInBounds n _).size; rw [Array.size_setIfInBounds]; exact h.size, fun k hk => by
  show (W.heap.setIfInBounds n _)[k]? = _
  rw [Array.getElem?_setIfInBounds_ne (by omega)]
  exact h.block k hk⟩
theorem run_next_on {P : Program} (W : World) (n : Nat) (s : ByteArray) (pos : Nat) (ty : TypeId) (hi : W.heap[n]? = some (.stringIter s pos)) (h : pos < s.size) :
  (Instr.next (.pointer (some ⟨n, 0, none⟩)) true ty).run P W = .ok (.tuple #[.bool true, .int .i64 pos, .int .i32 (Utf8.decode s pos).1]) (World.turned W n s (pos + (Utf8.decode s pos).2)) := run_next_at W n s pos ty hi h
def utf_Valid.f (s : ByteArray) : Option Bool := some (validAt s s.size 0)
set_option maxHeartbeats 8000000 in
theorem utf_Valid.calls (s : ByteArray) (r : Bool) (w : World) (hL : Laid w) (h : utf_Valid.f s = some r) :
  Calls Tryz.prog 249 #[.string s] w fun e w' => e = .returned (.bool r) ∧ Below w.heap.size w w' := by
 obtain rfl := Option.some.inj h
 clear h
 replace hL := Hide0.mk hL
 go_enter Tryz.func249, nt_Valid
 go_wp2
 refine wp_scope_straight ?_
 refine wp_seq ?_
 refine wp_label ?_
 go_wp2
 go_loopw [3] (fun n w' => ∃ (pos b : Nat), w'.heap[w.heap.size]? = some (.stringIter s pos) ∧ Below w.heap.size w w' ∧ Hide0 (validAt s b pos = validAt s s.size 0) ∧ s.size ≤ pos + b) (fun _ w' => s.size - w'.iterPos w.heap.size)
 case atStart => exact ⟨0, s.size, World.iter_heap w s 0, (Below.refl _ _).alloc (Nat.le_refl _) _, ⟨rfl⟩, by omega⟩
 case round =>
  obtain ⟨pos, b, hi, hB, hc, hb⟩ := hrel
  have hHI := Hide0.mk hi
  have hHB := Hide0.mk hB
  by_cases hp : pos < s.size
  ·have hnx : ∀ ty, (Instr.next (.pointer (some ⟨w.heap.size, 0, none⟩)) true ty).run Tryz.prog wr = _ := fun ty => run_next_on wr _ s pos ty hi hp
   have hK : 1 ≤ (Utf8.decode s pos).2 := Lib.width_pos s pos
   have hG := decodeGo_from s pos hp
   have hit := Hide0.mk (turned_at (s := s) (p := pos + (Utf8.decode s pos).2) hi)
   have hBt := Hide0.mk (turned_below (s := s) (p := pos + (Utf8.decode s pos).2) hB (Nat.le_refl _))
   have hip : (World.turned wr w.heap.size s (pos + (Utf8.decode s pos).2)).iterPos w.heap.size = pos + (Utf8.decode s pos).2 := by unfold World.iterPos; rw [hit.out]
   have hip0 : wr.iterPos w.heap.size = pos := by unfold World.iterPos; rw [hi]
   rcases b with _ | b
   ·omega
   have hv : validAt s (b + 1) pos = if (Utf8.decode s pos).1 = 65533 then (if (Utf8.decode s pos).2 = 1 then false else validAt s b (pos + (Utf8.decode s pos).2)) else validAt s b (pos + (Utf8.decode s pos).2) := by rw [validAt, if_pos hp]
   clear hi hB
   generalize hRe : (Utf8.decode s pos).1 = R at *
   generalize hKe : (Utf8.decode s pos).2 = K at *
   have hRK : Utf8.decode s pos = (R, K) := by rw [← hRe, ← hKe]
   by_cases hr : R = 65533
   ·subst hr
    rw [if_pos rfl] at hv
    by_cases hk : K = 1
    ·subst hk
     rw [if_pos rfl] at hv
     go_wp2_with (go_at_fn 231; done)
     refine (Tryz.utf8_DecodeRuneInString _ _ (hL.out.below hBt.out).utf8).mono ?_
     rintro e w' ⟨rfl, hb'⟩
     rw [hG, hRK]
     have hB2 := Hide0.mk (hBt.out.trans (hb'.mono hBt.out.size))
     clear hb' hit hip
     go_wp2
     (try rw [Exit.noGoto_ret])
     go_ret
     rw [← hc.out, hv]
     exact ⟨rfl, hB2.out⟩
    ·rw [if_neg hk] at hv
     have hk' : ¬ ((K : Int) = 1) := by omega
     go_wp2_with (go_at_fn 231; done)
     refine (Tryz.utf8_DecodeRuneInString _ _ (hL.out.below hBt.out).utf8).mono ?_
     rintro e w' ⟨rfl, hb'⟩
     rw [hG, hRK]
     have hB2 := Hide0.mk (hBt.out.trans (hb'.mono hBt.out.size))
     have hlt : w.heap.size < (World.turned wr w.heap.size s (pos + K)).heap.size := (Array.getElem?_eq_some_iff.1 hit.out).1
     have hit2 := Hide0.mk ((hb'.block _ hlt).trans hit.out)
     have hip2 : w'.iterPos w.heap.size = pos + K := by unfold World.iterPos; rw [hit2.out]
     clear hb' hit hip
     go_wp2
     go_roundw
     case rel => exact ⟨pos + K, b, hit2.out, hB2.out, ⟨hv.symm.trans hc.out⟩, by omega⟩
     case measure => rw [hip2, hip0]; omega
   ·have hr' : ¬ ((R : Int) = 65533) := by omega
    rw [if_neg hr] at hv
    go_wp2
    go_roundw
    case rel => exact ⟨pos + K, b, hit.out, hBt.out, ⟨hv.symm.trans hc.out⟩, by omega⟩
    case measure => rw [hip, hip0]; omega
  ·have hnx : ∀ ty, (Instr.next (.pointer (some ⟨w.heap.size, 0, none⟩)) true ty).run Tryz.prog wr = _ := fun ty => run_next_at_end wr _ s pos ty hi hp
   clear hi hB
   go_wp2
   (try rw [Exit.noGoto_ret])
   go_ret
   rw [← hc.out, validAt_end s b pos hp]
   exact ⟨rfl, hHB.out⟩
end Go.Proofs.YtondpnipoogoiaaGreatDoor.X
