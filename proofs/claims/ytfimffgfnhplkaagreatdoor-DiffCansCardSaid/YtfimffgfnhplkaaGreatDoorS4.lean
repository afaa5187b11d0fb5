import Derived.Test.YtfimffgfnhplkaaGreatDoorS3
import Derived.Deep.Cut
set_option maxRecDepth 100000
set_option linter.unusedVariables false
set_option linter.unusedSimpArgs false
namespace Go.Proofs.YtfimffgfnhplkaaGreatDoor.F
open Go Go.RowKit
abbrev BL := List (Nat × Box)
def nk (key : Nat) : List Nat := [key, key + 1000000, key + 2000000]
def Bk (η : Nat → Option Value) (k : Nat) : Prop := ∃ b u, η b = some u ∧ blk u = some k
def FzB (w : World) (fz : Nat → Prop) (η η' : Nat → Option Value) (k : Nat) : Prop := (fz k ∨ w.heap.size ≤ k ∨ Bk η k) ∧ Un η' k
def OutB (w' : World) (fz : Nat → Prop) (η' : Nat → Option Value) (e : Ending) : COut → Prop
 | .val r => ∃ v, e = .returned v ∧ R w' fz η' v r
 | .own _ _ _ => False
 | .thr v => e = .panicked [{ v, recovered := false }]
def PostB (w : World) (fz : Nat → Prop) (η : Nat → Option Value) (bi : BL) (w' : World) (e : Ending) (out : COut) (bo : BL) : Prop :=
 (w'.os = w.os ∧ w'.tape = w.tape ∧ w'.output = w.output ∧ w.heap.size ≤ w'.heap.size ∧ ∀ k, k < w.heap.size → ¬ Bk η k → w'.heap[k]? = w.heap[k]?) ∧
 ((∃ v, out = .thr v ∧ e = .panicked [{ v, recovered := false }]) ∨
 ∃ η' : Nat → Option Value, (∀ b u, η' b = some u → (lkp bo b).isSome = true) ∧ (∀ b, (lkp bi b).isSome = true → ∀ u u', η b = some u → η' b = some u' → u' = u) ∧
  (∀ b u k, η' b = some u → blk u = some k → k < w'.heap.size ∧ (w.heap.size ≤ k ∨ Bk η k)) ∧ (∀ b b' u u' k, η' b = some u → η' b' = some u' → blk u = some k → blk u' = some k → b = b') ∧
  (∀ b B, lkp bo b = some B → ∃ u, η' b = some u ∧ BoxR w' (FzB w fz η η') η' u B) ∧ OutB w' (FzB w fz η η') η' e out)
def ownB (fz : Nat → Prop) (η : Nat → Option Value) : Own := ⟨Bk η, fz, η, []⟩
def ConB (P : Program) (I : World → Prop) (f : FuncId) (args : List AV) (bi : BL) (out : COut) (bo : BL) : Prop :=
 ∀ (w : World) (fz : Nat → Prop) (η : Nat → Option Value) (vs : Array Value), (∀ w', Fr (ownB fz η) w w' → I w') → (∀ k, fz k → k < w.heap.size) → (∀ b u, η b = some u → (lkp bi b).isSome = true) → (∀ b B, lkp bi b = some B → ∃ u, η b = some u ∧ BoxR w fz η u B) →
  (∀ b u k, η b = some u → blk u = some k → k < w.heap.size ∧ ¬ fz k) → (∀ b b' u u' k, η b = some u → η b' = some u' → blk u = some k → blk u' = some k → b = b') → RL w fz η vs args →
  Calls P f vs w fun e w' => PostB w fz η bi w' e out bo
def bkeys (l : BL) : List Nat := l.map (·.1)
def plainOut (ρ : List (Nat × Nat)) : COut → Bool
 | .val r => plain ρ r
 | .own _ _ _ => false
 | .thr _ => true
def okB (key : Nat) (ci : CI) : Bool :=
 injOk ci.ρ && ci.snap.isEmpty && ci.args.all (plain ci.ρ) && plainOut ci.ρ ci.out && ci.bi.all (fun p => (lkp ci.ρ p.1).isSome && plainB ci.ρ p.2) && ci.bo.all (fun p => (lkp ci.ρ p.1).isSome && plainB ci.ρ p.2) &&
 ci.ρ.all (fun p => (lkp ci.bi p.1).isSome || (lkp ci.bo p.1).isSome) && (bkeys ci.bo).all (fun b => (lkp ci.bi b).isSome || (nk key).contains (rnk ci.ρ b)) &&
 (bkeys ci.bi).all (fun b => !ci.del.contains (rnk ci.ρ b)) && (bkeys ci.bi).Nodup && (bkeys ci.bo).Nodup
def goneB (ci : CI) : List Nat := ci.del ++ ((bkeys ci.bi).filter fun b => !(lkp ci.bo b).isSome).map (rnk ci.ρ)
def wrCallB (key : Nat) (ci : CI) (o : Oper) (tm : Nat → Option AV) (bx : Bx) : Option (Wr × Option Value) :=
 match o.op with
 | .call ⟨.value x, ars, _⟩ => match calleeA tm x, ars.toList.mapM (evF tm bx ci.del) with
  | some (f, l), some m =>
   if f = ci.f ∧ okB key ci = true ∧ (m ++ l.map (frz bx ci.del)).length = ci.args.length then
    let C := List.zipWith fit (m ++ l.map (frz bx ci.del)) (ci.args.map (rn ci.ρ)) = ci.args.map (rn ci.ρ) ∧ ci.bi.map (fun p => bx (rnk ci.ρ p.1)) = ci.bi.map (fun p => some (rnB ci.ρ p.2))
    match ci.out with
    | .val r => some (⟨C, some (rn ci.ρ r), goneB ci, ci.bo.map (fun p => (rnk ci.ρ p.1, rnB ci.ρ p.2)), true⟩, none)
    | .own _ _ _ => none
    | .thr v => some (⟨C, none, [], [], false⟩, some v)
   else none
  | _, _ => none
 | _ => none
section
variable {w : World} {fz fz' : Nat → Prop} {η η' : Nat → Option Value} {ρ : List (Nat × Nat)} {v : Value} {x : AV}
theorem rnk_of {b c : Nat} (h : lkp ρ b = some c) : rnk ρ b = c := by simp [rnk, h]
theorem R_in1 (hf : ∀ k, fz k → k < w.heap.size → fz' k) (hη : ∀ b u, η' b = some u → η (rnk ρ b) = some u) (hp : plain1 ρ x = true) (h : R w fz η v (rn1 ρ x)) : R w fz' η' v x := by
 have st : ∀ y, keysA y = [] → R w fz η v y → R w fz' η' v y := fun y hk h => h.step (Nat.le_refl _) (fun _ _ _ => rfl) hf (fun b u hb _ => by rw [ment_none hk] at hb; cases hb)
 cases x with
 | own b => exact .own _ _ (fun u hu => h.own_inv (hη b u hu))
 | ptr b off => exact .ptr _ _ _ (fun u hu => h.ptr_inv (hη b u hu))
 | op τ b i off => exact .op _ _ _ _ _ (fun u hu => h.op_inv (hη b u hu))
 | ot τ b lo => exact .ot _ _ _ _ (fun u hu => h.ot_inv (hη b u hu))
 | agg l => simp [plain1] at hp
 | tup l => simp [plain1] at hp
 | clo f l => simp [plain1] at hp
 | _ => exact st _ rfl h
theorem R_in (hf : ∀ k, fz k → k < w.heap.size → fz' k) (hη : ∀ b u, η' b = some u → η (rnk ρ b) = some u) (hp : plain ρ x = true) (h : R w fz η v (rn ρ x)) : R w fz' η' v x := by
 have elems : ∀ (vs : Array Value) (l : List AV), l.all (plain1 ρ) = true → (∀ (j : Nat) u y, vs[j]? = some u → (l.map (rn1 ρ))[j]? = some y → R w fz η u y) → ∀ (j : Nat) u y, vs[j]? = some u → l[j]? = some y → R w fz' η' u y := fun vs l hl hR j u y hu hy =>
  R_in1 hf hη (List.all_eq_true.1 hl y (List.mem_of_getElem? hy)) (hR j u _ hu (by rw [List.getElem?_map, hy]; rfl))
 cases x with
 | agg l => obtain ⟨vs, rfl, h1, h2⟩ := R.agg_inv h; exact .agg _ _ (by simpa using h1) (elems vs l hp h2)
 | tup l => obtain ⟨vs, rfl, h1, h2⟩ := R.tup_inv h; exact .tup _ _ (by simpa using h1) (elems vs l hp h2)
 | clo f l => obtain ⟨vs, rfl, h1, h2⟩ := R.clo_inv h; exact .clo _ _ _ (by simpa using h1) (elems vs l hp h2)
 | _ => exact R_in1 hf hη hp h
theorem R_out1 (hf : ∀ k, fz k → k < w.heap.size → fz' k) (hη : ∀ b u, (lkp ρ b).isSome = true → η' (rnk ρ b) = some u → η b = some u) (hp : plain1 ρ x = true) (h : R w fz η v x) : R w fz' η' v (rn1 ρ x) := by
 have st : ∀ y, keysA y = [] → R w fz η v y → R w fz' η' v y := fun y hk h => h.step (Nat.le_refl _) (fun _ _ _ => rfl) hf (fun b u hb _ => by rw [ment_none hk] at hb; cases hb)
 cases x with
 | own b => exact .own _ _ (fun u hu => h.own_inv (hη b u hp hu))
 | ptr b off => exact .ptr _ _ _ (fun u hu => h.ptr_inv (hη b u hp hu))
 | op τ b i off => exact .op _ _ _ _ _ (fun u hu => h.op_inv (hη b u hp hu))
 | ot τ b lo => exact .ot _ _ _ _ (fun u hu => h.ot_inv (hη b u hp hu))
 | agg l => simp [plain1] at hp
 | tup l => simp [plain1] at hp
 | clo f l => simp [plain1] at hp
 | _ => exact st _ rfl h
theorem R_out (hf : ∀ k, fz k → k < w.heap.size → fz' k) (hη : ∀ b u, (lkp ρ b).isSome = true → η' (rnk ρ b) = some u → η b = some u) (hp : plain ρ x = true) (h : R w fz η v x) : R w fz' η' v (rn ρ x) := by
 have elems : ∀ (vs : Array Value) (l : List AV), l.all (plain1 ρ) = true → (∀ (j : Nat) u y, vs[j]? = some u → l[j]? = some y → R w fz η u y) → ∀ (j : Nat) u y, vs[j]? = some u → (l.map (rn1 ρ))[j]? = some y → R w fz' η' u y := fun vs l hl hR j u y hu hy => by
  rw [List.getElem?_map, Option.map_eq_some_iff] at hy
  obtain ⟨y0, hy0, rfl⟩ := hy
  exact R_out1 hf hη (List.all_eq_true.1 hl y0 (List.mem_of_getElem? hy0)) (hR j u y0 hu hy0)
 cases x with
 | agg l => obtain ⟨vs, rfl, h1, h2⟩ := R.agg_inv h; exact .agg _ _ (by simpa using h1) (elems vs l hp h2)
 | tup l => obtain ⟨vs, rfl, h1, h2⟩ := R.tup_inv h; exact .tup _ _ (by simpa using h1) (elems vs l hp h2)
 | clo f l => obtain ⟨vs, rfl, h1, h2⟩ := R.clo_inv h; exact .clo _ _ _ (by simpa using h1) (elems vs l hp h2)
 | junk => exact R_out1 (x := .junk) hf hη hp h
 | lit u => exact R_out1 (x := .lit u) hf hη hp h
 | row τ xs => exact R_out1 (x := .row τ xs) hf hη hp h
 | own b => exact R_out1 (x := .own b) hf hη hp h
 | ptr b off => exact R_out1 (x := .ptr b off) hf hη hp h
 | ep τ y off => exact R_out1 (x := .ep τ y off) hf hη hp h
 | op τ b i off => exact R_out1 (x := .op τ b i off) hf hη hp h
 | rowc τ xs c => exact R_out1 (x := .rowc τ xs c) hf hη hp h
 | rown τ xs b => exact R_out1 (x := .rown τ xs b) hf hη hp h
 | ot τ b lo => exact R_out1 (x := .ot τ b lo) hf hη hp h
theorem BoxR_in {u : Value} {B : Box} (hf : ∀ k, fz k → k < w.heap.size → fz' k) (hη : ∀ b u, η' b = some u → η (rnk ρ b) = some u) (hp : plainB ρ B = true) (h : BoxR w fz η u (rnB ρ B)) : BoxR w fz' η' u B := by
 cases B with
 | any => exact h
 | var l =>
  obtain ⟨g, C, e, rfl, q1, q2, q3⟩ := h
  exact ⟨g, C, e, rfl, q1, by simpa using q2, fun j v x hv hx => R_in1 hf hη (List.all_eq_true.1 hp x (List.mem_of_getElem? hx)) (q3 j v _ hv (by rw [List.getElem?_map, hx]; rfl))⟩
 | sl e τ xs =>
  obtain ⟨cs, q1, q2⟩ := h
  refine ⟨cs, q1, fun i x j y hx hy => ?_⟩
  obtain ⟨v, hv, hr⟩ := q2 i x j y hx hy
  exact ⟨v, hv, hr.step (Nat.le_refl _) (fun _ _ _ => rfl) hf (fun b u hb _ => by rw [enc_ment' hy] at hb; cases hb)⟩
 | full e τ xs =>
  obtain ⟨⟨cs, q1, q2⟩, qc⟩ := h
  refine ⟨⟨cs, q1, fun i x j y hx hy => ?_⟩, qc⟩
  obtain ⟨v, hv, hr⟩ := q2 i x j y hx hy
  exact ⟨v, hv, hr.step (Nat.le_refl _) (fun _ _ _ => rfl) hf (fun b u hb _ => by rw [enc_ment' hy] at hb; cases hb)⟩
theorem BoxR_out {u : Value} {B : Box} (hf : ∀ k, fz k → k < w.heap.size → fz' k) (hη : ∀ b u, (lkp ρ b).isSome = true → η' (rnk ρ b) = some u → η b = some u) (hp : plainB ρ B = true) (h : BoxR w fz η u B) : BoxR w fz' η' u (rnB ρ B) := by
 cases B with
 | any => exact h
 | var l =>
  obtain ⟨g, C, e, rfl, q1, q2, q3⟩ := h
  refine ⟨g, C, e, rfl, q1, by simpa using q2, fun j v x hv hx => ?_⟩
  rw [List.getElem?_map, Option.map_eq_some_iff] at hx
  obtain ⟨x0, hx0, rfl⟩ := hx
  exact R_out1 hf hη (List.all_eq_true.1 hp x0 (List.mem_of_getElem? hx0)) (q3 j v x0 hv hx0)
 | sl e τ xs =>
  obtain ⟨cs, q1, q2⟩ := h
  refine ⟨cs, q1, fun i x j y hx hy => ?_⟩
  obtain ⟨v, hv, hr⟩ := q2 i x j y hx hy
  exact ⟨v, hv, hr.step (Nat.le_refl _) (fun _ _ _ => rfl) hf (fun b u hb _ => by rw [enc_ment' hy] at hb; cases hb)⟩
 | full e τ xs =>
  obtain ⟨⟨cs, q1, q2⟩, qc⟩ := h
  refine ⟨⟨cs, q1, fun i x j y hx hy => ?_⟩, qc⟩
  obtain ⟨v, hv, hr⟩ := q2 i x j y hx hy
  exact ⟨v, hv, hr.step (Nat.le_refl _) (fun _ _ _ => rfl) hf (fun b u hb _ => by rw [enc_ment' hy] at hb; cases hb)⟩
theorem map_at {α β : Type} {f g : α → β} : ∀ {l : List α}, l.map f = l.map g → ∀ p ∈ l, f p = g p
 | [], _, p, hp => by simp at hp
 | q :: l, h, p, hp => by
  simp only [List.map_cons, List.cons.injEq] at h
  rcases List.mem_cons.1 hp with rfl | hp
  exact h.1
  exact map_at h.2 p hp
theorem lkp_isSome {α : Type} : ∀ {l : List (Nat × α)} {t : Nat} {x : α}, (t, x) ∈ l → (lkp l t).isSome = true
 | [], _, _, h => by simp at h
 | (k, y) :: l, t, x, h => by
  simp only [lkp]
  split
  rfl
  rename_i hne
  rcases List.mem_cons.1 h with h | h
  injection h with h1 h2; exact absurd h1 hne
  exact lkp_isSome h
theorem lkp_nodup {α : Type} : ∀ {l : List (Nat × α)} {t : Nat} {x : α}, (l.map (·.1)).Nodup → (t, x) ∈ l → lkp l t = some x
 | [], _, _, _, h => by simp at h
 | (k, y) :: l, t, x, hn, h => by
  simp only [List.map_cons, List.nodup_cons] at hn
  simp only [lkp]
  rcases List.mem_cons.1 h with h | h
  injection h with h1 h2; subst h1 h2; simp
  have : t ≠ k := fun e => hn.1 (e ▸ List.mem_map.2 ⟨(t, x), h, rfl⟩)
  rw [if_neg this]; exact lkp_nodup hn.2 h
end
section
variable {P : Program} {I : World → Prop} {w w' w0 : World} {ow : Own} {η η' : Nat → Option Value} {N key : Nat} {tm tmr : Nat → Option AV} {bx bxr : Bx} {a : Act}
theorem lkp_image {α : Type} {l : List (Nat × α)} {ρ : List (Nat × Nat)} {β : Type} {g : α → β} {k : Nat} {y : β} (h : lkp (l.map fun p => (rnk ρ p.1, g p.2)) k = some y) : ∃ b x, (b, x) ∈ l ∧ k = rnk ρ b ∧ y = g x := by
 obtain ⟨⟨b, x⟩, hm, he⟩ := List.mem_map.1 (lkp_mem h)
 injection he with h1 h2
 exact ⟨b, x, hm, h1.symm, h2.symm⟩
theorem wrCallB_ok (s : Sim N w0 ow η tm bx a w) (sr : Sim N w0 ow η tmr bxr a w) (hf : ∀ k ∈ nk key, Fresh k tm bx) {o : Oper} {ci : CI} {E : Wr} {th : Option Value} (h : wrCallB key ci o tmr bxr = some (E, th)) (hE : E.cond) (hent : Ent P ci.f) (hcon : ConB P I ci.f ci.args ci.bi ci.out ci.bo) (hI : ∀ w', Fr ow w0 w' → I w')
  {K : Act → World → Prop} {Q : Exit → Act → World → Prop} (hK : th = none → ∀ η' v w', (∀ x, E.val = some x → R w' (Fz (Amb w0 ow) η') η' v x) → Sim N w0 ow η' tm (updB bx E.del E.ins) a w' → K (a.put o.dst v) w')
  (hT : ∀ v, th = some v → ∀ η' tm' bx' w', Sim N w0 ow η' tm' bx' a w' → Q (.panic [{ v, recovered := false }]) a w') : o.wp P a w K Q := by
 unfold wrCallB at h
 split at h
 ·rename_i x ars ts ho
  split at h
  ·rename_i f l m hcal hm
   split at h
   ·rename_i hc
    obtain ⟨rfl, hok, hlen⟩ := hc
    obtain ⟨caps, hcv, hcl⟩ : ∃ caps : Array Value, a.eval x = .func (.func ci.f) #[] caps ∧ RLl w (Fz (Amb w0 ow) η) η caps.toList l := by
     unfold calleeA at hcal
     split at hcal
     ·rename_i f' hx
      simp only [Option.some.injEq, Prod.mk.injEq] at hcal
      obtain ⟨rfl, rfl⟩ := hcal
      exact ⟨#[], (sr.ev hx).lit_inv, RLl_nil⟩
     ·rename_i f' l' hx
      simp only [Option.some.injEq, Prod.mk.injEq] at hcal
      obtain ⟨rfl, rfl⟩ := hcal
      obtain ⟨vs, hv, hl, hR⟩ := (sr.ev hx).clo_inv
      exact ⟨vs, hv, RL_toList ⟨hl, hR⟩⟩
     ·cases hcal
    simp only [okB, Bool.and_eq_true] at hok
    obtain ⟨⟨⟨⟨⟨⟨⟨⟨⟨⟨ok1, ok2⟩, ok3⟩, ok4⟩, ok5⟩, ok6⟩, ok7⟩, ok8⟩, ok10⟩, ok11⟩, ok12⟩ := hok
    have hinj : (ci.ρ.map (·.2)).Nodup := by simpa [injOk] using ok1
    have hnbi : (ci.bi.map (·.1)).Nodup := of_decide_eq_true ok11
    have hnbo : (ci.bo.map (·.1)).Nodup := of_decide_eq_true ok12
    have cF := sr.ctxF ci.del
    have hargs : RL w (Fz (Amb w0 ow) (dropη η ci.del)) (dropη η ci.del) (ars.map a.eval ++ caps) (m ++ l.map (frz bxr ci.del)) := by
     have h1 := mapM_R cF.ev ars.toList m hm
     have h2 : RLl w (Fz (Amb w0 ow) (dropη η ci.del)) (dropη η ci.del) caps.toList (l.map (frz bxr ci.del)) := ⟨by simpa using hcl.1, fun j u y hu hy => by
      rw [List.getElem?_map, Option.map_eq_some_iff] at hy
      obtain ⟨y0, hy0, rfl⟩ := hy
      exact R_frz sr (hcl.2 j u y0 hu hy0) ci.del⟩
     have h3 := RLl_append h1 h2
     refine ⟨by have := h3.1; simpa using this, fun j u y hu hy => h3.2 j u y ?_ hy⟩
     rw [← Array.getElem?_toList] at hu
     simpa using hu
    obtain ⟨hcond, hbx⟩ : List.zipWith fit (m ++ l.map (frz bxr ci.del)) (ci.args.map (rn ci.ρ)) = ci.args.map (rn ci.ρ) ∧ ci.bi.map (fun p => bxr (rnk ci.ρ p.1)) = ci.bi.map (fun p => some (rnB ci.ρ p.2)) := by
     simp only at h
     split at h
     ·simp only [Option.some.injEq, Prod.mk.injEq] at h; rw [← h.1] at hE; exact hE
     ·cases h
     ·simp only [Option.some.injEq, Prod.mk.injEq] at h; rw [← h.1] at hE; exact hE
    -- the callee's boxes
    obtain ⟨ηc, hηc⟩ : ∃ ηc : Nat → Option Value, ∀ b, ηc b = if (lkp ci.bi b).isSome = true then η (rnk ci.ρ b) else none := ⟨_, fun _ => rfl⟩
    have inbi : ∀ b B, lkp ci.bi b = some B → (b, B) ∈ ci.bi := fun b B h => lkp_mem h
    have ηc_some : ∀ b u, ηc b = some u → (lkp ci.bi b).isSome = true ∧ η (rnk ci.ρ b) = some u := fun b u hb => by
     rw [hηc] at hb
     split at hb
     ·rename_i h1; exact ⟨h1, hb⟩
     ·cases hb
    have nodel : ∀ b, (lkp ci.bi b).isSome = true → ci.del.contains (rnk ci.ρ b) = false := fun b hb => by
     obtain ⟨B, hB⟩ := Option.isSome_iff_exists.1 hb
     have := List.all_eq_true.1 ok10 b (List.mem_map.2 ⟨(b, B), inbi b B hB, rfl⟩)
     simpa using this
    have ηc_drop : ∀ b u, ηc b = some u → dropη η ci.del (rnk ci.ρ b) = some u := fun b u hb => by
     obtain ⟨h1, h2⟩ := ηc_some b u hb
     simp only [dropη]; rw [if_neg (by rw [nodel b h1]; decide)]; exact h2
    have rinj : ∀ b b', (lkp ci.ρ b).isSome = true → (lkp ci.ρ b').isSome = true → rnk ci.ρ b = rnk ci.ρ b' → b = b' := fun b b' h1 h2 he => by
     obtain ⟨c, hc⟩ := Option.isSome_iff_exists.1 h1
     obtain ⟨c', hc'⟩ := Option.isSome_iff_exists.1 h2
     rw [rnk_of hc, rnk_of hc'] at he
     subst he
     exact nodup_inj hinj hc hc'
    have inρ_bi : ∀ b, (lkp ci.bi b).isSome = true → (lkp ci.ρ b).isSome = true := fun b hb => by
     obtain ⟨B, hB⟩ := Option.isSome_iff_exists.1 hb
     have := List.all_eq_true.1 ok5 (b, B) (inbi b B hB)
     simp only [Bool.and_eq_true] at this; exact this.1
    have inρ_bo : ∀ b, (lkp ci.bo b).isSome = true → (lkp ci.ρ b).isSome = true := fun b hb => by
     obtain ⟨B, hB⟩ := Option.isSome_iff_exists.1 hb
     have := List.all_eq_true.1 ok6 (b, B) (lkp_mem hB)
     simp only [Bool.and_eq_true] at this; exact this.1
    have hfz : ∀ k, Fz (Amb w0 ow) (dropη η ci.del) k → k < w.heap.size → Fz (Amb w0 ow) (dropη η ci.del) k ∧ k < w.heap.size := fun k h1 h2 => ⟨h1, h2⟩
    have hargs2 : RL w (fun k => Fz (Amb w0 ow) (dropη η ci.del) k ∧ k < w.heap.size) ηc (ars.map a.eval ++ caps) ci.args := by
     refine ⟨by have := hargs.1; omega, fun j u y hu hy => ?_⟩
     have hj : j < (m ++ l.map (frz bxr ci.del)).length := by have := (List.getElem?_eq_some_iff.1 hy).1; omega
     have hy2 : (ci.args.map (rn ci.ρ))[j]? = some (rn ci.ρ y) := by rw [List.getElem?_map, hy]; rfl
     have hz : (List.zipWith fit (m ++ l.map (frz bxr ci.del)) (ci.args.map (rn ci.ρ)))[j]? = some (fit ((m ++ l.map (frz bxr ci.del))[j]) (rn ci.ρ y)) := by
      rw [List.getElem?_zipWith, List.getElem?_eq_getElem hj, hy2]
     rw [hcond, hy2] at hz
     injection hz with hz
     have h4 := R_fit (b := rn ci.ρ y) (hargs.2 j u _ hu (List.getElem?_eq_getElem hj))
     rw [← hz] at h4
     exact R_in hfz (fun b u hb => ηc_drop b u hb) (List.all_eq_true.1 ok3 y (List.mem_of_getElem? hy)) h4
    have hboxes : ∀ b B, lkp ci.bi b = some B → ∃ u, ηc b = some u ∧ BoxR w (fun k => Fz (Amb w0 ow) (dropη η ci.del) k ∧ k < w.heap.size) ηc u B := by
     intro b B hB
     have he := map_at hbx (b, B) (inbi b B hB)
     simp only at he
     obtain ⟨u, hu, hr⟩ := sr.dom _ _ he
     have hp := List.all_eq_true.1 ok5 (b, B) (inbi b B hB)
     simp only [Bool.and_eq_true] at hp
     refine ⟨u, by rw [hηc, if_pos (by rw [hB]; rfl)]; exact hu, ?_⟩
     exact BoxR_in hfz (fun b u hb => ηc_drop b u hb) hp.2 (BoxR_drop hr ci.del)
    have hnew : ∀ b u k, ηc b = some u → blk u = some k → k < w.heap.size ∧ ¬ (Fz (Amb w0 ow) (dropη η ci.del) k ∧ k < w.heap.size) := fun b u k hb hk => by
     obtain ⟨_, h2⟩ := ηc_some b u hb
     exact ⟨(s.new _ u k h2 hk).1, fun hh => hh.1.2 _ u (ηc_drop b u hb) hk⟩
    have hap : ∀ b b' u u' k, ηc b = some u → ηc b' = some u' → blk u = some k → blk u' = some k → b = b' := fun b b' u u' k hb hb' hk hk' => by
     obtain ⟨h1, h2⟩ := ηc_some b u hb
     obtain ⟨h3, h4⟩ := ηc_some b' u' hb'
     exact rinj b b' (inρ_bi b h1) (inρ_bi b' h3) (s.apart _ _ u u' k h2 h4 hk hk')
    have hI2 : ∀ w', Fr (ownB (fun k => Fz (Amb w0 ow) (dropη η ci.del) k ∧ k < w.heap.size) ηc) w w' → I w' := fun w' hfr => hI w' ⟨hfr.os.trans s.frame.os, hfr.tape.trans s.frame.tape, hfr.output.trans s.frame.output, Nat.le_trans s.frame.size hfr.size, fun k hk hno => by
     rw [← s.frame.block k hk hno]
     refine hfr.block k (Nat.lt_of_lt_of_le hk s.frame.size) (fun hb => ?_)
     obtain ⟨b, u, hb1, hb2⟩ := hb
     rcases (s.new _ u k (ηc_some b u hb1).2 hb2).2 with h1 | h1
     ·omega
     ·exact hno h1⟩
    have hcalls := hcon w (fun k => Fz (Amb w0 ow) (dropη η ci.del) k ∧ k < w.heap.size) ηc _ hI2 (fun k hk => hk.2) (fun b u hb => (ηc_some b u hb).1) hboxes hnew hap hargs2
    have hrun : (execOp a.eval o).run P w = .ok (.enter ci.f (ars.map a.eval ++ caps)) w := by
     have he := hent (ars.map a.eval ++ caps) w
     simp [execOp, ho, resolve, hcv, Deferred.ofValue, invoke, he]
    have bk_old : ∀ k, Bk ηc k → ∃ b u, (lkp ci.bi b).isSome = true ∧ η (rnk ci.ρ b) = some u ∧ blk u = some k := fun k ⟨b, u, hb, hk⟩ => ⟨b, u, (ηc_some b u hb).1, (ηc_some b u hb).2, hk⟩
    have un_bk : ∀ k, Un η k → ¬ Bk ηc k := fun k hk hb => by
     obtain ⟨b, u, _, h2, h3⟩ := bk_old k hb
     exact hk _ u h2 h3
    unfold Oper.wp
    rw [hrun, Oper.upon_enter]
    refine hcalls.mono fun e w' hh => ?_
    obtain ⟨⟨ho1, ho2, ho3, ho4, ho5⟩, hpost⟩ := hh
    have hframe : Fr ow w0 w' := ⟨ho1.trans s.frame.os, ho2.trans s.frame.tape, ho3.trans s.frame.output, Nat.le_trans s.frame.size ho4, fun k hk hko => by
     rw [← s.frame.block k hk hko]
     refine ho5 k (Nat.lt_of_lt_of_le hk s.frame.size) (un_bk k (fun b u hb hbk => ?_))
     rcases (s.new b u k hb hbk).2 with h1 | h1
     ·omega
     ·exact hko h1⟩
    rcases hpost with ⟨vt, hout, he⟩ | ⟨η', p1, p2, p3, p4, p5, p6⟩
    ·simp only [hout, Option.some.injEq, Prod.mk.injEq] at h
     obtain ⟨rfl, rfl⟩ := h
     subst he
     exact hT vt rfl (fun _ => none) (fun _ => none) (fun _ => none) w' ⟨s.size, s.nod, hframe, (fun t av ht => by cases ht), (fun b B hb => by cases hb), (fun b u k hb => by cases hb), (fun b b' u u' k hb => by cases hb), (fun b u u' _ hb => by cases hb), s.pinlt⟩
    ·simp only at h
     split at h
     ·rename_i r hr
      simp only [Option.some.injEq, Prod.mk.injEq] at h
      obtain ⟨rfl, rfl⟩ := h
      rw [hr] at p6
      obtain ⟨vr, rfl, hR⟩ := p6
      obtain ⟨η2, hη2⟩ : ∃ η2 : Nat → Option Value, ∀ k, η2 k = match lkp (ci.bo.map fun p => (rnk ci.ρ p.1, p.1)) k with | some b => η' b | none => if (goneB ci).contains k then none else η k := ⟨_, fun _ => rfl⟩
      have im_fwd : ∀ k b, lkp (ci.bo.map fun p => (rnk ci.ρ p.1, p.1)) k = some b → (lkp ci.bo b).isSome = true ∧ k = rnk ci.ρ b := fun k b hk => by
       obtain ⟨⟨b1, B1⟩, hm1, he1⟩ := List.mem_map.1 (lkp_mem hk)
       injection he1 with h1 h2
       subst h2
       exact ⟨lkp_isSome hm1, h1.symm⟩
      have im_bwd : ∀ b, (lkp ci.bo b).isSome = true → lkp (ci.bo.map fun p => (rnk ci.ρ p.1, p.1)) (rnk ci.ρ b) = some b := fun b hb => by
       obtain ⟨B, hB⟩ := Option.isSome_iff_exists.1 hb
       have h1 : (lkp (ci.bo.map fun p => (rnk ci.ρ p.1, p.1)) (rnk ci.ρ b)).isSome = true := lkp_isSome (List.mem_map.2 ⟨(b, B), lkp_mem hB, rfl⟩)
       obtain ⟨b', hb'⟩ := Option.isSome_iff_exists.1 h1
       obtain ⟨h2, h3⟩ := im_fwd _ b' hb'
       rw [hb', rinj b b' (inρ_bo b hb) (inρ_bo b' h2) h3]
      have gone_bi : ∀ b, (lkp ci.bi b).isSome = true → (lkp ci.bo b).isSome = false → (goneB ci).contains (rnk ci.ρ b) = true := fun b h1 h2 => by
       obtain ⟨B, hB⟩ := Option.isSome_iff_exists.1 h1
       simp only [goneB, List.contains_iff_mem, List.mem_append, List.mem_map, List.mem_filter]
       exact .inr ⟨b, ⟨List.mem_map.2 ⟨(b, B), lkp_mem hB, rfl⟩, by simpa using h2⟩, rfl⟩
      have del_gone : ∀ k, (goneB ci).contains k = false → ci.del.contains k = false := fun k hk => by
       cases hd : ci.del.contains k with
       | false => rfl
       | true =>
        have : (goneB ci).contains k = true := by
         simp only [goneB, List.contains_iff_mem, List.mem_append] at hd ⊢; exact .inl hd
        rw [this] at hk; cases hk
      -- a box that is none of the call's
      have else_ : ∀ b u, lkp (ci.bo.map fun p => (rnk ci.ρ p.1, p.1)) b = none → η2 b = some u → η b = some u ∧ (goneB ci).contains b = false ∧ ∀ k, blk u = some k → ¬ Bk ηc k := fun b u h1 h2 => by
       rw [hη2, h1] at h2
       simp only at h2
       split at h2
       ·cases h2
       ·rename_i hg
        have hg' : (goneB ci).contains b = false := by simpa using hg
        refine ⟨h2, hg', fun k hk hb => ?_⟩
        obtain ⟨b1, u1, q1, q2, q3⟩ := bk_old k hb
        have e1 := s.apart b _ u u1 k h2 q2 hk q3
        cases hbo : (lkp ci.bo b1).isSome with
        | true => rw [e1, im_bwd b1 hbo] at h1; cases h1
        | false => rw [e1, gone_bi b1 q1 hbo] at hg'; cases hg'
      have stay : ∀ b u, b ∉ nk key → η2 b = some u → η b = some u := fun b u hb h2 => by
       cases him : lkp (ci.bo.map fun p => (rnk ci.ρ p.1, p.1)) b with
       | none => exact (else_ b u him h2).1
       | some b0 =>
        obtain ⟨q1, q2⟩ := im_fwd b b0 him
        rw [hη2, him] at h2
        simp only at h2
        cases hbi : (lkp ci.bi b0).isSome with
        | true =>
         obtain ⟨B0, hB0⟩ := Option.isSome_iff_exists.1 hbi
         obtain ⟨u0, hu0, _⟩ := hboxes b0 B0 hB0
         rw [p2 b0 hbi u0 u hu0 h2, q2]; exact (ηc_some b0 u0 hu0).2
        | false =>
         exfalso
         obtain ⟨B0, hB0⟩ := Option.isSome_iff_exists.1 q1
         have := List.all_eq_true.1 ok8 b0 (List.mem_map.2 ⟨(b0, B0), lkp_mem hB0, rfl⟩)
         rw [hbi, Bool.false_or] at this
         exact hb (by rw [q2]; simpa using this)
      have hfz2 : ∀ k, Fz (Amb w0 ow) η k → k < w.heap.size → Fz (Amb w0 ow) η2 k := fun k hk hlt => ⟨hk.1, fun b u hb hbk => by
       cases him : lkp (ci.bo.map fun p => (rnk ci.ρ p.1, p.1)) b with
       | none => exact hk.2 b u (else_ b u him hb).1 hbk
       | some b0 =>
        rw [hη2, him] at hb
        simp only at hb
        rcases (p3 b0 u k hb hbk).2 with h1 | h1
        ·omega
        ·exact un_bk k hk.2 h1⟩
      have hfzo : ∀ k, FzB w (fun k => Fz (Amb w0 ow) (dropη η ci.del) k ∧ k < w.heap.size) ηc η' k → k < w'.heap.size → Fz (Amb w0 ow) η2 k := fun k hk _ => by
       refine ⟨?_, fun b u hb hbk => ?_⟩
       ·rcases hk.1 with h1 | h1 | h1
        ·exact h1.1.1
        ·exact .inr (.inr (Nat.le_trans s.frame.size h1))
        ·obtain ⟨b1, u1, _, q2, q3⟩ := bk_old k h1
         rcases (s.new _ u1 k q2 q3).2 with h2 | h2
         ·exact .inr (.inr h2)
         ·exact .inr (.inl h2)
       ·cases him : lkp (ci.bo.map fun p => (rnk ci.ρ p.1, p.1)) b with
        | some b0 =>
         rw [hη2, him] at hb
         exact hk.2 b0 u hb hbk
        | none =>
         obtain ⟨q1, q2, q3⟩ := else_ b u him hb
         rcases hk.1 with h1 | h1 | h1
         ·exact h1.1.2 b u (by simp only [dropη]; rw [if_neg (by rw [del_gone b q2]; decide)]; exact q1) hbk
         ·have := s.bound b u k q1 hbk; omega
         ·exact q3 k hbk h1
      have hηo : ∀ b u, (lkp ci.ρ b).isSome = true → η2 (rnk ci.ρ b) = some u → η' b = some u := fun b u hb hu => by
       cases hbo : (lkp ci.bo b).isSome with
       | true => rw [hη2, im_bwd b hbo] at hu; exact hu
       | false =>
        exfalso
        obtain ⟨c, hc⟩ := Option.isSome_iff_exists.1 hb
        have h7 := List.all_eq_true.1 ok7 (b, c) (lkp_mem hc)
        simp only [hbo, Bool.or_false] at h7
        have hg := gone_bi b h7 hbo
        have him : lkp (ci.bo.map fun p => (rnk ci.ρ p.1, p.1)) (rnk ci.ρ b) = none := by
         cases him : lkp (ci.bo.map fun p => (rnk ci.ρ p.1, p.1)) (rnk ci.ρ b) with
         | none => rfl
         | some b0 =>
          obtain ⟨q1, q2⟩ := im_fwd _ b0 him
          rw [rinj b b0 hb (inρ_bo b0 q1) q2, q1] at hbo; cases hbo
        have := (else_ _ u him hu).2.1
        rw [hg] at this; cases this
      have noment : ∀ k, k ∈ nk key → ∀ t av, tm t = some av → ment k av = false := fun k hk => (hf k hk).1
      refine hK rfl η2 vr w' (fun x hx => ?_) ⟨s.size, s.nod, hframe, fun t av ht => ?_, fun b B hB => ?_, fun b u k hb hk => ?_, fun b b' u u' k hb hb' hk hk' => ?_, fun b u u' hp hb => ?_, s.pinlt⟩
      ·simp only [Option.some.injEq] at hx
       subst hx
       exact R_out hfzo hηo (by rw [hr] at ok4; exact ok4) hR
      ·obtain ⟨v, hv, hRv⟩ := s.tmp t av ht
       refine ⟨v, hv, hRv.step ho4 (fun k hk hlt => ho5 k hlt (un_bk k hk.2)) hfz2 (fun b u hm hb => stay b u (fun hmem => ?_) hb)⟩
       rw [noment b hmem t av ht] at hm; cases hm
      ·simp only [updB] at hB
       split at hB
       ·rename_i B1 hB1
        simp only [Option.some.injEq] at hB
        subst hB
        obtain ⟨b0, B0, hm0, hb0, hB0⟩ := lkp_image hB1
        subst hb0 hB0
        have hlk := lkp_nodup hnbo hm0
        obtain ⟨u, hu, hr5⟩ := p5 b0 B0 hlk
        refine ⟨u, by rw [hη2, im_bwd b0 (by rw [hlk]; rfl)]; exact hu, BoxR_out hfzo hηo ?_ hr5⟩
        have := List.all_eq_true.1 ok6 (b0, B0) hm0
        simp only [Bool.and_eq_true] at this
        exact this.2
       ·rename_i hnone
        split at hB
        ·cases hB
        ·rename_i hg
         have hg' : (goneB ci).contains b = false := by simpa using hg
         obtain ⟨u, hu, hrb⟩ := s.dom b B hB
         have him : lkp (ci.bo.map fun p => (rnk ci.ρ p.1, p.1)) b = none := by
          cases him : lkp (ci.bo.map fun p => (rnk ci.ρ p.1, p.1)) b with
          | none => rfl
          | some b0 =>
           exfalso
           obtain ⟨q1, q2⟩ := im_fwd b b0 him
           obtain ⟨B0, hB0⟩ := Option.isSome_iff_exists.1 q1
           have : (lkp (ci.bo.map fun p => (rnk ci.ρ p.1, rnB ci.ρ p.2)) b).isSome = true := lkp_isSome (List.mem_map.2 ⟨(b0, B0), lkp_mem hB0, by rw [q2]⟩)
           rw [hnone] at this; cases this
         have hu2 : η2 b = some u := by rw [hη2, him]; simp only; rw [if_neg hg]; exact hu
         have hsame : ∀ k, blk u = some k → w'.heap[k]? = w.heap[k]? := fun k hk => ho5 k (s.bound b u k hu hk) ((else_ b u him hu2).2.2 k hk)
         have hst : ∀ b' u', mentB b' B = true → η2 b' = some u' → η b' = some u' := fun b' u' hm hb' => stay b' u' (fun hmem => by rw [(hf b' hmem).2.1 b B hB] at hm; cases hm) hb'
         refine ⟨u, hu2, ?_⟩
         cases B with
         | any => exact hrb
         | var l =>
          obtain ⟨g, C, e, rfl, c1, c2, c3⟩ := hrb
          refine ⟨g, C, e, rfl, by rw [hsame g rfl]; exact c1, c2, fun j v x hv hx => (c3 j v x hv hx).step ho4 (fun k hk hlt => ho5 k hlt (un_bk k hk.2)) hfz2 (fun b' u' hm hb' => hst b' u' (mentL_of hx hm) hb')⟩
         | sl e τ xs =>
          obtain ⟨cs, c1, c2⟩ := hrb
          refine ⟨cs, ownsRow_block c1 hsame, fun i x j y hx hy => ?_⟩
          obtain ⟨v, hv, hrr⟩ := c2 i x j y hx hy
          exact ⟨v, hv, hrr.step ho4 (fun k hk hlt => ho5 k hlt (un_bk k hk.2)) hfz2 (fun b' u' hm _ => by rw [enc_ment' hy] at hm; cases hm)⟩
         | full e τ xs =>
          obtain ⟨⟨cs, c1, c2⟩, hcc⟩ := hrb
          refine ⟨⟨cs, ownsRow_block c1 hsame, fun i x j y hx hy => ?_⟩, hcc⟩
          obtain ⟨v, hv, hrr⟩ := c2 i x j y hx hy
          exact ⟨v, hv, hrr.step ho4 (fun k hk hlt => ho5 k hlt (un_bk k hk.2)) hfz2 (fun b' u' hm _ => by rw [enc_ment' hy] at hm; cases hm)⟩
      ·cases him : lkp (ci.bo.map fun p => (rnk ci.ρ p.1, p.1)) b with
       | none =>
        have h1 := (else_ b u him hb).1
        have := s.new b u k h1 hk
        exact ⟨Nat.lt_of_lt_of_le this.1 ho4, this.2⟩
       | some b0 =>
        rw [hη2, him] at hb
        obtain ⟨h1, h2⟩ := p3 b0 u k hb hk
        refine ⟨h1, ?_⟩
        rcases h2 with h2 | h2
        ·exact .inl (Nat.le_trans s.frame.size h2)
        ·obtain ⟨b1, u1, _, q2, q3⟩ := bk_old k h2
         exact (s.new _ u1 k q2 q3).2
      ·have cross : ∀ b b' u u', (∃ b0, lkp (ci.bo.map fun p => (rnk ci.ρ p.1, p.1)) b = some b0 ∧ η' b0 = some u) → lkp (ci.bo.map fun p => (rnk ci.ρ p.1, p.1)) b' = none → η2 b' = some u' → blk u = some k → blk u' = some k → False := fun b b' u u' ⟨b0, h1, h2⟩ h3 h4 hk hk' => by
        obtain ⟨q1, q2, q3⟩ := else_ b' u' h3 h4
        rcases (p3 b0 u k h2 hk).2 with h5 | h5
        ·have := s.bound b' u' k q1 hk'; omega
        ·exact q3 k hk' h5
       cases him : lkp (ci.bo.map fun p => (rnk ci.ρ p.1, p.1)) b with
       | none =>
        cases him' : lkp (ci.bo.map fun p => (rnk ci.ρ p.1, p.1)) b' with
        | none => exact s.apart b b' u u' k (else_ b u him hb).1 (else_ b' u' him' hb').1 hk hk'
        | some b0' =>
         rw [hη2, him'] at hb'
         exact (cross b' b u' u ⟨b0', him', hb'⟩ him hb hk' hk).elim
       | some b0 =>
        have hb0 := hb
        rw [hη2, him] at hb0
        cases him' : lkp (ci.bo.map fun p => (rnk ci.ρ p.1, p.1)) b' with
        | none => exact (cross b b' u u' ⟨b0, him, hb0⟩ him' hb' hk hk').elim
        | some b0' =>
         rw [hη2, him'] at hb'
         have := p4 b0 b0' u u' k hb0 hb' hk hk'
         subst this
         rw [(im_fwd b b0 him).2, (im_fwd b' b0 him').2]
      ·refine s.pin b u u' hp (stay b u' (fun hmem => ?_) hb)
       have h1 := (hf b hmem).2.2
       have h2 := s.pinlt b u hp
       omega
     ·cases h
     ·rename_i vt hr
      rw [hr] at p6
      simp only [OutB] at p6
      subst p6
      simp only [Option.some.injEq, Prod.mk.injEq] at h
      obtain ⟨rfl, rfl⟩ := h
      exact hT vt rfl (fun _ => none) (fun _ => none) (fun _ => none) w' ⟨s.size, s.nod, hframe, (fun t av ht => by cases ht), (fun b B hb => by cases hb), (fun b u k hb => by cases hb), (fun b b' u u' k hb => by cases hb), (fun b u u' _ hb => by cases hb), s.pinlt⟩
   ·cases h
  ·cases h
 ·cases h
end
abbrev Tm := Nat → Option AV
inductive RO where
 | norm (tm : Tm) (bx : Bx)
 | thr (v : Value) (tm : Tm) (bx : Bx)
def keysB : Box → List Nat
 | .var l => keysL l
 | .sl _ _ _ => []
 | .full _ _ _ => []
 | .any => []
theorem mem_keysB {b : Nat} {B : Box} (h : mentB b B = true) : b ∈ keysB B := by
 cases B with
 | var l => exact mem_keysL l h
 | sl e τ xs => simp [mentB] at h
 | full e τ xs => simp [mentB] at h
 | any => simp [mentB] at h
def sub (l ks : List Nat) : Bool := l.all ks.contains
theorem sub_mem {l ks : List Nat} (h : sub l ks = true) {b : Nat} (hb : b ∈ l) : ks.contains b = true := List.all_eq_true.1 h b hb
def Inv (ks : List Nat) (tm : Tm) (bx : Bx) : Prop := (∀ t av, tm t = some av → ∀ b, ment b av = true → ks.contains b = true) ∧ ∀ b B, bx b = some B → ∀ b', mentB b' B = true → ks.contains b' = true
theorem Inv.fresh {ks : List Nat} {tm : Tm} {bx : Bx} (h : Inv ks tm bx) {key : Nat} (hk : ks.contains key = false) (h1000 : 1000 ≤ key) : Fresh key tm bx := by
 refine ⟨fun t av ht => ?_, fun b B hB => ?_, h1000⟩
 cases hm : ment key av with
 | false => rfl
 | true => rw [h.1 t av ht key hm] at hk; cases hk
 cases hm : mentB key B with
 | false => rfl
 | true => rw [h.2 b B hB key hm] at hk; cases hk
theorem Inv.fresh' {ks : List Nat} {tm : Tm} {bx : Bx} (h : Inv ks tm bx) {l : List Nat} (hk : ∀ k ∈ l, ks.contains k = false ∧ 1000 ≤ k) : ∀ k ∈ l, Fresh k tm bx := fun k hkl => h.fresh (hk k hkl).1 (hk k hkl).2
def optKeys : Option AV → List Nat
 | some a => keysA a
 | none => []
def insKeys : List (Nat × Box) → List Nat
 | [] => []
 | (_, B) :: l => keysB B ++ insKeys l
theorem insKeys_mem : ∀ {l : List (Nat × Box)} {k b : Nat} {B : Box}, lkp l k = some B → b ∈ keysB B → b ∈ insKeys l
 | [], _, _, _, h, _ => by cases h
 | (c, B0) :: l, k, b, B, h, hb => by
  simp only [lkp] at h
  simp only [insKeys, List.mem_append]
  split at h
  simp only [Option.some.injEq] at h; subst h; exact .inl hb
  exact .inr (insKeys_mem h hb)
def effOk (key : Nat) (ks : List Nat) (E : Wr) : Bool := (nk key).all (fun k => !ks.contains k && decide (1000 ≤ k)) && sub (optKeys E.val) (if E.fresh then nk key ++ ks else ks) && sub (insKeys E.ins) (if E.fresh then nk key ++ ks else ks)
theorem app_contains {l ks : List Nat} {b : Nat} (h : ks.contains b = true) : (l ++ ks).contains b = true := by
 simp only [List.contains_iff_mem, List.mem_append] at h ⊢; exact .inr h
theorem effOk_keys {key : Nat} {ks : List Nat} {E : Wr} (h : effOk key ks E = true) : ∀ k ∈ nk key, ks.contains k = false ∧ 1000 ≤ k := by
 simp only [effOk, Bool.and_eq_true] at h
 intro k hk
 have := List.all_eq_true.1 h.1.1 k hk
 simpa using this
theorem Inv.step {key : Nat} {ks : List Nat} {tm : Tm} {bx : Bx} {E : Wr} (h : Inv ks tm bx) (he : effOk key ks E = true) (d : Option Nat) : Inv (if E.fresh then nk key ++ ks else ks) (upd tm d E.val) (updB bx E.del E.ins) := by
 simp only [effOk, Bool.and_eq_true] at he
 obtain ⟨⟨h1, h2⟩, h3⟩ := he
 have up : ∀ b, ks.contains b = true → (if E.fresh = true then nk key ++ ks else ks).contains b = true := fun b hb => by
  split
  exact app_contains hb
  exact hb
 refine ⟨fun t av ht b hb => ?_, fun b B hB b' hb' => ?_⟩
 simp only [upd] at ht
 split at ht
 rw [ht] at h2; exact sub_mem h2 (mem_keysA av hb)
 exact up b (h.1 t av ht b hb)
 simp only [updB] at hB
 split at hB
 rename_i B0 hins
 simp only [Option.some.injEq] at hB; subst hB; exact sub_mem h3 (insKeys_mem hins (mem_keysB hb'))
 split at hB
 cases hB
 exact up b' (h.2 b B hB b' hb')
theorem Inv.none {ks : List Nat} {tm : Tm} {bx : Bx} (h : Inv ks tm bx) (d : Option Nat) : Inv ks (upd tm d none) bx := ⟨fun t av ht b hb => by
 simp only [upd] at ht
 split at ht
 ·cases ht
 ·exact h.1 t av ht b hb, h.2⟩
def dstOk (N : Nat) (o : Oper) : Bool := match o.dst with
 | some d => decide (d < N)
 | none => true
theorem dstOk_lt {N : Nat} {o : Oper} (h : dstOk N o = true) : ∀ t, o.dst = some t → t < N := fun t ht => by
 simp only [dstOk, ht] at h; simpa using h
def isB (ci : CI) : Bool := match ci.bi, ci.bo with
 | [], [] => false
 | _, _ => true
def ConC (P : Program) (I : World → Prop) (ci : CI) : Prop := match isB ci with
 | true => ConB P I ci.f ci.args ci.bi ci.out ci.bo
 | false => Con P I ci.f ci.args ci.out
def calB (cs : List (Nat × CI)) (i : Nat) : Bool := match cs.lookup i with
 | some ci => isB ci
 | none => false
def opE (P : Program) (tt : TypeId → Option Ty) (cs : List (Nat × CI)) (gd : List (Nat × Bool)) (key i : Nat) (o : Oper) (tm : Tm) (bx : Bx) : Option (Wr × Option Value) :=
 match cs.lookup i with
 | some ci => match isB ci with
  | true => wrCallB key ci o tm bx
  | false => wrCall key ci o tm bx
 | none => match o.op with
  | .panic x => match evalA tm x with
   | some (.lit (.iface t v)) => some (⟨True, none, [], [], false⟩, some (.iface t v))
   | _ => none
  | .pick c x y => match evalA tm c, gd.lookup (i + 1000) with
   | some (.lit (.bool b)), some true => (evalA tm x).map fun v => (⟨b = true, some v, [], [], false⟩, none)
   | some (.lit (.bool b)), some false => (evalA tm y).map fun v => (⟨b = false, some v, [], [], false⟩, none)
   | _, _ => none
  | _ => match wrOp2 P tt key (gd.lookup (i + 2000)) o tm bx with
   | some E => some (E, none)
   | none => (rdOp2 P o (evalA tm) bx).map fun p => (⟨p.1, some p.2, [], [], false⟩, none)
def Cons (P : Program) (I : World → Prop) : List (Nat × CI) → Prop
 | [] => True
 | (_, ci) :: l => (Ent P ci.f ∧ ConC P I ci) ∧ Cons P I l
theorem Cons.of {P : Program} {I : World → Prop} : ∀ {l : List (Nat × CI)} {i : Nat} {ci : CI}, Cons P I l → l.lookup i = some ci → Ent P ci.f ∧ ConC P I ci
 | [], i, ci, _, h => by simp at h
 | (j, c) :: l, i, ci, hl, h => by
  simp only [List.lookup] at h
  split at h
  simp only [Option.some.injEq] at h; subst h; exact hl.1
  exact Cons.of hl.2 h
section
variable {P : Program} {I : World → Prop} {w w' w0 : World} {ow : Own} {η η' : Nat → Option Value} {N key : Nat} {tm tmr : Tm} {bx bxr : Bx} {a : Act} {tt : TypeId → Option Ty} {cs : List (Nat × CI)} {gd : List (Nat × Bool)}
theorem Sim.weaken {tm' : Tm} {bx' : Bx} (s : Sim N w0 ow η tm bx a w) (h1 : ∀ t x, tm' t = some x → tm t = some x) (h2 : ∀ b B, bx' b = some B → bx b = some B) : Sim N w0 ow η tm' bx' a w :=
 ⟨s.size, s.nod, s.frame, fun t x h => s.tmp t x (h1 t x h), fun b B h => s.dom b B (h2 b B h), s.new, s.apart, s.pin, s.pinlt⟩
theorem opE_ok (s : Sim N w0 ow η tm bx a w) (sr : Sim N w0 ow η tmr bxr a w) (hm0 : ∀ k ∈ nk key, ∀ x y, evalA tmr x = some y → ment k y = false) {i : Nat} {o : Oper} {E : Wr} {th : Option Value} (h : opE P tt cs gd key i o tmr bxr = some (E, th)) (hE : E.cond) (hf : ∀ k ∈ nk key, Fresh k tm bx) (hcs : Cons P I cs) (hI : ∀ w', Fr ow w0 w' → I w') (hd : dstOk N o = true)
  {K : Act → World → Prop} {Q : Exit → Act → World → Prop} (hK : th = none → ∀ η' a' w', Sim N w0 ow η' (upd tm o.dst E.val) (updB bx E.del E.ins) a' w' → K a' w')
  (hT : ∀ v, th = some v → ∀ η' tm' bx' w', Sim N w0 ow η' tm' bx' a w' → (calB cs i = false → tm' = tm ∧ bx' = bx) → Q (.panic [{ v, recovered := false }]) a w') : o.wp P a w K Q := by
 have wr : ∀ v w' η', (execOp a.eval o).run P w = .ok (.value v) w' ∨ ((execOp a.eval o).run P w = .ok .skip w' ∧ v = undef) → (∀ x, E.val = some x → R w' (Fz (Amb w0 ow) η') η' v x) → Sim N w0 ow η' tm (updB bx E.del E.ins) a w' → th = none → o.wp P a w K Q := by
  intro v w' η' hr hR hs hth
  have hfin := hK hth η' _ w' (hs.put (dstOk_lt hd) hR)
  unfold Oper.wp
  rcases hr with hr | ⟨hr, rfl⟩
  ·rw [hr]; exact hfin
  ·rw [hr]; exact hfin
 unfold opE at h
 split at h
 ·rename_i ci hci
  obtain ⟨he, hc⟩ := hcs.of hci
  unfold ConC at hc
  split at h
  ·rename_i hb
   rw [hb] at hc
   exact wrCallB_ok s sr hf h hE he hc hI (fun hth η' v w' hR hs => hK hth η' _ w' (hs.put (dstOk_lt hd) hR)) (fun v hv η2 tm2 bx2 w2 hs2 => hT v hv η2 tm2 bx2 w2 hs2 (fun hcb => by simp only [calB, hci, hb] at hcb; cases hcb))
  ·rename_i hb
   rw [hb] at hc
   exact wrCall_ok s sr (hf key (by simp [nk])) h hE he hc (hI w s.frame) (fun hth η' v w' hR hs => hK hth η' _ w' (hs.put (dstOk_lt hd) hR)) (fun v hv w2 hs2 => hT v hv η tm bx w2 hs2 (fun _ => ⟨rfl, rfl⟩))
 ·split at h
  ·rename_i x hop
   split at h
   ·rename_i t v hx
    simp only [Option.some.injEq, Prod.mk.injEq] at h
    obtain ⟨rfl, rfl⟩ := h
    have hv := (sr.ev hx).lit_inv
    unfold Oper.wp
    have hr : (execOp a.eval o).run P w = .halt (.panic (.iface t v)) w := by simp [execOp, hop, hv, Instr.panic]
    rw [hr]
    exact hT _ rfl _ _ _ w s (fun _ => ⟨rfl, rfl⟩)
   ·cases h
  ·rename_i c x y hop
   split at h
   ·rename_i b hc hg
    simp only [Option.map_eq_some_iff] at h
    obtain ⟨v, hv, h⟩ := h
    simp only [Prod.mk.injEq] at h
    obtain ⟨rfl, rfl⟩ := h
    have hc' := (sr.ev hc).lit_inv
    simp only at hE
    subst hE
    refine wr (a.eval x) w η (.inl ?_) (fun z hz => ?_) (by rw [updB_nil]; exact s) rfl
    ·simp [execOp, hop, hc', asBool]
    ·simp only [Option.some.injEq] at hz; subst hz; exact sr.ctx.ev x _ hv
   ·rename_i b hc hg
    simp only [Option.map_eq_some_iff] at h
    obtain ⟨v, hv, h⟩ := h
    simp only [Prod.mk.injEq] at h
    obtain ⟨rfl, rfl⟩ := h
    have hc' := (sr.ev hc).lit_inv
    simp only at hE
    subst hE
    refine wr (a.eval y) w η (.inl ?_) (fun z hz => ?_) (by rw [updB_nil]; exact s) rfl
    ·simp [execOp, hop, hc', asBool]
    ·simp only [Option.some.injEq] at hz; subst hz; exact sr.ctx.ev y _ hv
   ·cases h
  ·split at h
   ·rename_i E' hE'
    simp only [Option.some.injEq, Prod.mk.injEq] at h
    obtain ⟨rfl, rfl⟩ := h
    obtain ⟨n, v, w', η', hr, hn, hR, hs⟩ := wrOp2_ok s sr (hm0 key (by simp [nk])) (hf key (by simp [nk])) hE' hE
    refine wr v w' η' ?_ hR hs rfl
    rcases hn with rfl | ⟨rfl, rfl⟩
    ·exact .inl hr
    ·exact .inr ⟨hr, rfl⟩
   ·simp only [Option.map_eq_some_iff] at h
    obtain ⟨p, hp, h⟩ := h
    simp only [Prod.mk.injEq] at h
    obtain ⟨rfl, rfl⟩ := h
    obtain ⟨v, hr, hR⟩ := rdOp2_ok sr.ctx hp hE
    refine wr v w η (.inl hr) (fun x hx => ?_) (by rw [updB_nil]; exact s) rfl
    simp only [Option.some.injEq] at hx; subst hx; exact hR
abbrev undA : AV := .lit (.tuple #[])
def runL (P : Program) (tt : TypeId → Option Ty) (N : Nat) (ops : Array Oper) (cs : List (Nat × CI)) (gd : List (Nat × Bool)) (kb : Nat) : Nat → List Oper → Tm → Bx → List Nat → Option (Prop × RO)
  | _, [], tm, bx, _ => some (True, .norm tm bx)
  | i, o :: rest, tm, bx, ks =>
    let go : Option (Prop × RO) := match opE P tt cs gd (kb + i) i o tm bx with
      | some (E, none) => if effOk (kb + i) ks E = true ∧ dstOk N o = true then
          (runL P tt N ops cs gd kb (i + 1) rest (upd tm o.dst E.val) (updB bx E.del E.ins) (if E.fresh then nk (kb + i) ++ ks else ks)).map fun p => (E.cond ∧ p.1, p.2) else none
      | some (E, some v) => if effOk (kb + i) ks E = true ∧ dstOk N o = true then some (E.cond, .thr v (if calB cs i then fun _ => none else tm) (if calB cs i then fun _ => none else bx)) else none
      | none => none
    match o.guard with
    | none => go
    | some (j, want) => match ((ops[j]?).bind (·.dst)).bind tm, gd.lookup i with
      | some (.lit (.bool b)), some true => go.map fun p => (b = want ∧ p.1, p.2)
      | some (.lit (.bool b)), some false => if dstOk N o = true then (runL P tt N ops cs gd kb (i + 1) rest (upd tm o.dst (some undA)) bx ks).map fun p => (b = (!want) ∧ p.1, p.2) else none
      | some (.lit (.tuple _)), _ => if dstOk N o = true then (runL P tt N ops cs gd kb (i + 1) rest (upd tm o.dst (some undA)) bx ks).map fun p => (True ∧ p.1, p.2) else none
      | _, _ => none
theorem yielded_lit (s : Sim N w0 ow η tm bx a w) {ops : Array Oper} {j : Nat} {b : Bool} (h : ((ops[j]?).bind (·.dst)).bind tm = some (.lit (.bool b))) : yielded ops a.tmps j = some b := by
 unfold yielded
 cases hd : (ops[j]?).bind (·.dst) with
 | none => rw [hd] at h; simp at h
 | some d =>
  rw [hd] at h
  simp only [Option.bind_some] at h ⊢
  obtain ⟨v, hv, hr⟩ := s.tmp d _ h
  rw [hv, hr.lit_inv]
theorem yielded_und (s : Sim N w0 ow η tm bx a w) {ops : Array Oper} {j : Nat} {l : Array Value} (h : ((ops[j]?).bind (·.dst)).bind tm = some (.lit (.tuple l))) : yielded ops a.tmps j = none := by
 unfold yielded
 cases hd : (ops[j]?).bind (·.dst) with
 | none => rw [hd] at h; simp at h
 | some d =>
  rw [hd] at h
  simp only [Option.bind_some] at h ⊢
  obtain ⟨v, hv, hr⟩ := s.tmp d _ h
  rw [hv, hr.lit_inv]
theorem Inv.und {ks : List Nat} {tm : Tm} {bx : Bx} (h : Inv ks tm bx) (d : Option Nat) : Inv ks (upd tm d (some undA)) bx := ⟨fun t av ht b hb => by
 simp only [upd] at ht
 split at ht
 ·simp only [Option.some.injEq] at ht; subst ht; simp [undA, ment] at hb
 ·exact h.1 t av ht b hb, h.2⟩
theorem runL_ok {ops : Array Oper} {gd : List (Nat × Bool)} {kb : Nat} (hcs : Cons P I cs) (hI : ∀ w', Fr ow w0 w' → I w') {Q : Exit → Act → World → Prop} : ∀ (l : List Oper) (i : Nat) (η : Nat → Option Value) (tm : Tm) (bx : Bx) (ks : List Nat) (a : Act) (w : World) (C : Prop) (r : RO),
    runL P tt N ops cs gd kb i l tm bx ks = some (C, r) → C → Sim N w0 ow η tm bx a w → Inv ks tm bx →
    (∀ tm' bx', r = .norm tm' bx' → ∀ η' a' w', Sim N w0 ow η' tm' bx' a' w' → Q .normal a' w') →
    (∀ v tm' bx', r = .thr v tm' bx' → ∀ η' a' w', Sim N w0 ow η' tm' bx' a' w' → Q (.panic [{ v, recovered := false }]) a' w') → wpList P ops Q l a w := by
  intro l
  induction l with
  | nil =>
    intro i η tm bx ks a w C r h hC s hinv hn ht
    simp only [runL, Option.some.injEq, Prod.mk.injEq] at h
    exact hn tm bx h.2.symm η a w s
  | cons o rest ih =>
    intro i η tm bx ks a w C r h hC s hinv hn ht
    have hgo : ∀ C', (match opE P tt cs gd (kb + i) i o tm bx with
      | some (E, none) => if effOk (kb + i) ks E = true ∧ dstOk N o = true then
          (runL P tt N ops cs gd kb (i + 1) rest (upd tm o.dst E.val) (updB bx E.del E.ins) (if E.fresh then nk (kb + i) ++ ks else ks)).map fun p => (E.cond ∧ p.1, p.2) else none
      | some (E, some v) => if effOk (kb + i) ks E = true ∧ dstOk N o = true then some (E.cond, RO.thr v (if calB cs i then fun _ => none else tm) (if calB cs i then fun _ => none else bx)) else none
      | none => none) = some (C', r) → C' → o.wp P a w (wpList P ops Q rest) Q := by
      intro C' hh hC'
      split at hh
      · rename_i E hE
        split at hh
        · rename_i hc
          simp only [Option.map_eq_some_iff] at hh
          obtain ⟨⟨C2, r2⟩, h2, h3⟩ := hh
          simp only [Prod.mk.injEq] at h3
          obtain ⟨rfl, rfl⟩ := h3
          have hk := effOk_keys hc.1
          refine opE_ok s s (fun k hk' x y hy => (hinv.fresh' hk k hk').ev hy) hE hC'.1 (hinv.fresh' hk) hcs hI hc.2 (fun _ η' a' w' hs => ?_) (fun v hv => by cases hv)
          exact ih (i + 1) η' _ _ _ a' w' C2 r2 h2 hC'.2 hs (hinv.step hc.1 o.dst) hn ht
        · cases hh
      · rename_i E v hE
        split at hh
        · rename_i hc
          simp only [Option.some.injEq, Prod.mk.injEq] at hh
          obtain ⟨rfl, rfl⟩ := hh
          have hk := effOk_keys hc.1
          exact opE_ok s s (fun k hk' x y hy => (hinv.fresh' hk k hk').ev hy) hE hC' (hinv.fresh' hk) hcs hI hc.2 (fun h => by cases h) (fun v' hv η' tm' bx' w' hs hst => by
            injection hv with hv; subst hv
            refine ht v _ _ rfl η' a w' ?_
            cases hcb : calB cs i with
            | true => exact hs.weaken (fun t x h => by simp at h) (fun b B h => by simp at h)
            | false =>
              obtain ⟨h1, h2⟩ := hst hcb
              subst h1 h2
              simpa using hs)
        · cases hh
      · cases hh
    simp only [runL] at h
    unfold wpList
    split at h
    · rename_i hg
      rw [if_pos (by simp [Region.wanted, hg])]
      exact .inl (hgo C h hC)
    · rename_i j want hg
      split at h
      · rename_i b hb hgd
        simp only [Option.map_eq_some_iff] at h
        obtain ⟨⟨C2, r2⟩, h2, h3⟩ := h
        simp only [Prod.mk.injEq] at h3
        obtain ⟨rfl, rfl⟩ := h3
        rw [if_pos (by simp [Region.wanted, hg, yielded_lit s hb, hC.1])]
        exact .inl (hgo C2 h2 hC.2)
      · rename_i b hb hgd
        split at h
        · rename_i hd
          simp only [Option.map_eq_some_iff] at h
          obtain ⟨⟨C2, r2⟩, h2, h3⟩ := h
          simp only [Prod.mk.injEq] at h3
          obtain ⟨rfl, rfl⟩ := h3
          rw [if_neg (by simp [Region.wanted, hg, yielded_lit s hb, hC.1])]
          exact ih (i + 1) η _ _ _ _ w C2 r2 h2 hC.2 (s.put (dstOk_lt hd) (fun x hx => by simp only [Option.some.injEq] at hx; subst hx; exact .lit _)) (hinv.und o.dst) hn ht
        · cases h
      · rename_i l hb
        split at h
        · rename_i hd
          simp only [Option.map_eq_some_iff] at h
          obtain ⟨⟨C2, r2⟩, h2, h3⟩ := h
          simp only [Prod.mk.injEq] at h3
          obtain ⟨rfl, rfl⟩ := h3
          rw [if_neg (by simp [Region.wanted, hg, yielded_und s hb])]
          exact ih (i + 1) η _ _ _ _ w C2 r2 h2 hC.2 (s.put (dstOk_lt hd) (fun x hx => by simp only [Option.some.injEq] at hx; subst hx; exact .lit _)) (hinv.und o.dst) hn ht
        · cases h
      · cases h
end
structure Ef where
 T : List Nat
 K : List Nat
 G : List Nat
 dst : Option Nat
 E : Wr
 th : Option Value
 dead : Bool
def tmF : List Ef → (Nat → Bool) → Nat → Tm → Tm
 | [], _, _, tm => tm
 | e :: es, D, i, tm => tmF es D (i + 1) (if D i then upd tm e.dst e.E.val else tm)
def bxF : List Ef → (Nat → Bool) → Nat → Bx → Bx
 | [], _, _, bx => bx
 | e :: es, D, i, bx => bxF es D (i + 1) (if D i then updB bx e.E.del e.E.ins else bx)
def hits (e : Ef) (b : Nat) : Bool := e.E.del.contains b || (lkp e.E.ins b).isSome
theorem updB_ne {bx : Bx} {e : Ef} {b : Nat} (h : hits e b = false) : updB bx e.E.del e.E.ins b = bx b := by
 simp only [hits, Bool.or_eq_false_iff, Option.isSome_eq_false_iff, Option.isNone_iff_eq_none] at h
 unfold updB
 rw [h.2, h.1]; simp
theorem updB_hit {bx bx' : Bx} {e : Ef} {b : Nat} (h : hits e b = true) : updB bx e.E.del e.E.ins b = updB bx' e.E.del e.E.ins b := by
 simp only [hits, Bool.or_eq_true] at h
 unfold updB
 split
 rfl
 rename_i hn
 rcases h with h | h
 rw [h]; simp
 rw [hn] at h; cases h
theorem tmF_ext {D D' : Nat → Bool} {t : Nat} : ∀ (es : List Ef) (i : Nat) (tm tm' : Tm), tm t = tm' t → (∀ k e, es[k]? = some e → e.dst = some t → D (i + k) = D' (i + k)) → tmF es D i tm t = tmF es D' i tm' t
 | [], _, _, _, h, _ => h
 | e :: es, i, tm, tm', h, hd => by
  simp only [tmF]
  refine tmF_ext es (i + 1) _ _ ?_ (fun k e' hk he => by have := hd (k + 1) e' hk he; rwa [show i + 1 + k = i + (k + 1) by omega])
  by_cases he : e.dst = some t
  have := hd 0 e rfl he
  simp only [Nat.add_zero] at this
  rw [this]
  split
  simp [upd, he]
  exact h
  have hu : ∀ m : Tm, upd m e.dst e.E.val t = m t := fun m => by simp [upd, he]
  split <;> split <;> simp only [hu, h]
theorem bxF_ext {D D' : Nat → Bool} {b : Nat} : ∀ (es : List Ef) (i : Nat) (bx bx' : Bx), bx b = bx' b → (∀ k e, es[k]? = some e → hits e b = true → D (i + k) = D' (i + k)) → bxF es D i bx b = bxF es D' i bx' b
 | [], _, _, _, h, _ => h
 | e :: es, i, bx, bx', h, hd => by
  simp only [bxF]
  refine bxF_ext es (i + 1) _ _ ?_ (fun k e' hk he => by have := hd (k + 1) e' hk he; rwa [show i + 1 + k = i + (k + 1) by omega])
  by_cases he : hits e b = true
  have := hd 0 e rfl he
  simp only [Nat.add_zero] at this
  rw [this]
  split
  exact updB_hit he
  exact h
  have hu : ∀ m : Bx, updB m e.E.del e.E.ins b = m b := fun m => updB_ne (by simpa using he)
  split <;> split <;> simp only [hu, h]
theorem tmF_none {D : Nat → Bool} {t : Nat} (es : List Ef) (i : Nat) (tm : Tm) (h : ∀ k e, es[k]? = some e → e.dst = some t → D (i + k) = false) : tmF es D i tm t = tm t := by
 have h2 : ∀ (es : List Ef) (i : Nat) (tm : Tm), tmF es (fun _ => false) i tm = tm := by
  intro es; induction es with
  | nil => intros; rfl
  | cons e es ih => intro i tm; simp only [tmF]; exact ih _ _
 rw [tmF_ext (D' := fun _ => false) es i tm tm rfl h, h2]
theorem bxF_none {D : Nat → Bool} {b : Nat} (es : List Ef) (i : Nat) (bx : Bx) (h : ∀ k e, es[k]? = some e → hits e b = true → D (i + k) = false) : bxF es D i bx b = bx b := by
 have h2 : ∀ (es : List Ef) (i : Nat) (bx : Bx), bxF es (fun _ => false) i bx = bx := by
  intro es; induction es with
  | nil => intros; rfl
  | cons e es ih => intro i bx; simp only [bxF]; exact ih _ _
 rw [bxF_ext (D' := fun _ => false) es i bx bx rfl h, h2]
theorem tmF_last {D : Nat → Bool} {t : Nat} : ∀ (es : List Ef) (i j : Nat) (tm : Tm) (e : Ef), es[j]? = some e → e.dst = some t → D (i + j) = true → (∀ k e', j < k → es[k]? = some e' → e'.dst = some t → D (i + k) = false) → tmF es D i tm t = e.E.val
 | [], _, _, _, _, h, _, _, _ => by simp at h
 | e0 :: es, i, 0, tm, e, h, hd, hD, hl => by
  simp only [List.getElem?_cons_zero, Option.some.injEq] at h
  subst h
  simp only [tmF]
  rw [tmF_none es (i + 1) _ (fun k e' hk he => by have := hl (k + 1) e' (by omega) hk he; rwa [show i + 1 + k = i + (k + 1) by omega])]
  rw [Nat.add_zero] at hD
  rw [if_pos hD]; simp [upd, hd]
 | e0 :: es, i, j + 1, tm, e, h, hd, hD, hl => by
  simp only [tmF]
  exact tmF_last es (i + 1) j _ e h hd (by rwa [show i + 1 + j = i + (j + 1) by omega]) (fun k e' hk hk' he => by have := hl (k + 1) e' (by omega) hk' he; rwa [show i + 1 + k = i + (k + 1) by omega])
theorem bxF_last {D : Nat → Bool} {b : Nat} (bx0 : Bx) : ∀ (es : List Ef) (i j : Nat) (bx : Bx) (e : Ef), es[j]? = some e → hits e b = true → D (i + j) = true → (∀ k e', j < k → es[k]? = some e' → hits e' b = true → D (i + k) = false) → bxF es D i bx b = updB bx0 e.E.del e.E.ins b
 | [], _, _, _, _, h, _, _, _ => by simp at h
 | e0 :: es, i, 0, bx, e, h, hd, hD, hl => by
  simp only [List.getElem?_cons_zero, Option.some.injEq] at h
  subst h
  simp only [bxF]
  rw [bxF_none es (i + 1) _ (fun k e' hk he => by have := hl (k + 1) e' (by omega) hk he; rwa [show i + 1 + k = i + (k + 1) by omega])]
  rw [Nat.add_zero] at hD
  rw [if_pos hD]; exact updB_hit hd
 | e0 :: es, i, j + 1, bx, e, h, hd, hD, hl => by
  simp only [bxF]
  exact bxF_last bx0 es (i + 1) j _ e h hd (by rwa [show i + 1 + j = i + (j + 1) by omega]) (fun k e' hk hk' he => by have := hl (k + 1) e' (by omega) hk' he; rwa [show i + 1 + k = i + (k + 1) by omega])
def restr {α : Type} (f : Nat → Option α) (l : List Nat) : Nat → Option α := fun t => if l.contains t then f t else none
theorem restr_ext {α : Type} {f g : Nat → Option α} {l : List Nat} (h : ∀ t, l.contains t = true → f t = g t) : restr f l = restr g l := by
 funext t
 simp only [restr]
 split
 rename_i ht; exact h t ht
 rfl
def tmpsOf (l : List Operand) : List Nat := l.filterMap fun | .tmp t => some t | _ => none
def opT (ops : Array Oper) (o : Oper) : List Nat := (match o.guard with
  | some (j, _) => ((ops[j]?).bind (·.dst)).toList
  | none => []) ++ tmpsOf o.op.operands.toList
def keysOf (tmr : Tm) (x : Operand) : List Nat := match evalA tmr x with
 | some a => keysA a
 | none => []
def nestK (bx : Bx) (K : List Nat) : List Nat := K.flatMap fun k => match bx k with
 | some (.var l) => keysL l
 | _ => []
def opK (o : Oper) (T : List Nat) (tmr : Tm) (bx : Bx) : List Nat := match o.op with
 | .store _ p _ => keysOf tmr p
 | .call _ => (T.filterMap tmr).flatMap keysA ++ nestK bx ((T.filterMap tmr).flatMap keysA)
 | _ => (T.filterMap tmr).flatMap keysA
theorem nestK_ext {bx bx' : Bx} : ∀ {K : List Nat}, (∀ k ∈ K, bx k = bx' k) → nestK bx K = nestK bx' K
 | [], _ => rfl
 | k :: K, h => by
  have ih := nestK_ext (K := K) (fun k hk => h k (List.mem_cons_of_mem _ hk))
  unfold nestK at ih ⊢
  rw [List.flatMap_cons, List.flatMap_cons, ih, h k (List.mem_cons_self ..)]
theorem opK_ext {o : Oper} {T : List Nat} {tmr : Tm} {bx bx' : Bx} (h : ∀ k, (opK o T tmr bx).contains k = true → bx k = bx' k) : opK o T tmr bx = opK o T tmr bx' := by
 unfold opK at h ⊢
 split
 rfl
 rename_i c hc
 rw [hc] at h
 simp only at h
 rw [nestK_ext (fun k hk => h k (by simpa only [List.contains_iff_mem, List.mem_append] using .inl hk))]
 rfl
def opG (o : Oper) (tmr : Tm) : List Nat := match o.op with
 | .store _ _ x => keysOf tmr x
 | _ => []
def restrG (bx : Bx) (K G : List Nat) : Bx := fun b => if K.contains b then bx b else if G.contains b then (bx b).map fun _ => .any else none
theorem restrG_ext {f g : Bx} {K G : List Nat} (h : ∀ b, K.contains b = true → f b = g b) (h2 : ∀ b, G.contains b = true → (f b).isSome = (g b).isSome) : restrG f K G = restrG g K G := by
 funext b
 simp only [restrG]
 split
 rename_i hb; exact h b hb
 split
 rename_i hb
 have := h2 b hb
 cases hf : f b <;> cases hg : g b <;> simp [hf, hg] at this ⊢
 rfl
def opDc (P : Program) (tt : TypeId → Option Ty) (ops : Array Oper) (cs : List (Nat × CI)) (gd : List (Nat × Bool)) (kb i : Nat) (o : Oper) (T K G : List Nat) (tmr : Tm) (bxr : Bx) : Option (Prop × Ef) :=
 let go : Option (Prop × Ef) := (opE P tt cs gd (kb + i) i o tmr bxr).map fun p => (p.1.cond, ⟨T, K, G, o.dst, p.1, p.2, false⟩)
 match o.guard with
 | none => go
 | some (j, want) => match ((ops[j]?).bind (·.dst)).bind tmr, gd.lookup i with
  | some (.lit (.bool b)), some true => go.map fun p => (b = want ∧ p.1, p.2)
  | some (.lit (.bool b)), some false => some (b = (!want), ⟨T, K, G, o.dst, ⟨True, some undA, [], [], false⟩, none, false⟩)
  | some (.lit (.tuple _)), _ => some (True, ⟨T, K, G, o.dst, ⟨True, some undA, [], [], false⟩, none, false⟩)
  | _, _ => none
def opD (P : Program) (tt : TypeId → Option Ty) (ops : Array Oper) (cs : List (Nat × CI)) (gd : List (Nat × Bool)) (kb i : Nat) (o : Oper) (tm : Tm) (bx : Bx) : Option (Prop × Ef) :=
 opDc P tt ops cs gd kb i o (opT ops o) (opK o (opT ops o) (restr tm (opT ops o)) bx) (opG o (restr tm (opT ops o))) (restr tm (opT ops o)) (restrG bx (opK o (opT ops o) (restr tm (opT ops o)) bx) (opG o (restr tm (opT ops o))))
theorem opDc_TK {P : Program} {tt : TypeId → Option Ty} {ops : Array Oper} {cs : List (Nat × CI)} {gd : List (Nat × Bool)} {kb i : Nat} {o : Oper} {T K G : List Nat} {tmr : Tm} {bxr : Bx} {C : Prop} {e : Ef} (h : opDc P tt ops cs gd kb i o T K G tmr bxr = some (C, e)) : e.T = T ∧ e.K = K ∧ e.G = G ∧ e.dst = o.dst ∧ e.dead = false := by
 unfold opDc at h
 simp only at h
 split at h
 simp only [Option.map_eq_some_iff] at h
 obtain ⟨p, _, hp⟩ := h
 simp only [Prod.mk.injEq] at hp
 obtain ⟨_, rfl⟩ := hp
 exact ⟨rfl, rfl, rfl, rfl, rfl⟩
 split at h
 simp only [Option.map_eq_some_iff] at h
 obtain ⟨q, ⟨p, _, hp⟩, hq⟩ := h
 simp only [Prod.mk.injEq] at hq
 obtain ⟨_, rfl⟩ := hq
 subst hp
 exact ⟨rfl, rfl, rfl, rfl, rfl⟩
 simp only [Option.some.injEq, Prod.mk.injEq] at h
 obtain ⟨_, rfl⟩ := h
 exact ⟨rfl, rfl, rfl, rfl, rfl⟩
 simp only [Option.some.injEq, Prod.mk.injEq] at h
 obtain ⟨_, rfl⟩ := h
 exact ⟨rfl, rfl, rfl, rfl, rfl⟩
 cases h
def runD (P : Program) (tt : TypeId → Option Ty) (ops : Array Oper) (cs : List (Nat × CI)) (gd : List (Nat × Bool)) (dead : List Nat) (kb : Nat) : Nat → List Oper → Tm → Bx → Option (Prop × List Ef)
 | _, [], _, _ => some (True, [])
 | i, o :: rest, tm, bx =>
  if dead.contains i then (runD P tt ops cs gd dead kb (i + 1) rest (upd tm none none) (updB bx [] [])).map fun p => (p.1, ⟨[], [], [], none, ⟨True, none, [], [], false⟩, none, true⟩ :: p.2)
  else match opD P tt ops cs gd kb i o tm bx with
   | some (C, e) => (runD P tt ops cs gd dead kb (i + 1) rest (upd tm e.dst e.E.val) (updB bx e.E.del e.E.ins)).map fun p => (C ∧ p.1, e :: p.2)
   | none => none
theorem runD_at {P : Program} {tt : TypeId → Option Ty} {ops : Array Oper} {cs : List (Nat × CI)} {gd : List (Nat × Bool)} {dead : List Nat} {kb : Nat} : ∀ (l : List Oper) (i : Nat) (tm : Tm) (bx : Bx) (C : Prop) (es : List Ef), runD P tt ops cs gd dead kb i l tm bx = some (C, es) → C →
  es.length = l.length ∧ ∀ k o, l[k]? = some o → ∃ e, es[k]? = some e ∧ ((e.dead = true ∧ dead.contains (i + k) = true) ∨ (dead.contains (i + k) = false ∧ ∃ Ck, opD P tt ops cs gd kb (i + k) o (tmF es (fun m => decide (m < i + k)) i tm) (bxF es (fun m => decide (m < i + k)) i bx) = some (Ck, e) ∧ Ck))
 | [], i, tm, bx, C, es, h, hC => by
  simp only [runD, Option.some.injEq, Prod.mk.injEq] at h
  obtain ⟨_, rfl⟩ := h
  exact ⟨rfl, fun k o hk => by simp at hk⟩
 | o :: rest, i, tm, bx, C, es, h, hC => by
  have nf : ∀ (es : List Ef) (tm : Tm), tmF es (fun m => decide (m < i)) i tm = tm := fun es tm => by
   funext t; exact tmF_none es i tm (fun k e _ _ => by simp)
  have nb : ∀ (es : List Ef) (bx : Bx), bxF es (fun m => decide (m < i)) i bx = bx := fun es bx => by
   funext t; exact bxF_none es i bx (fun k e _ _ => by simp)
  simp only [runD] at h
  split at h
  ·rename_i hd
   simp only [Option.map_eq_some_iff] at h
   obtain ⟨⟨C2, es2⟩, h2, h3⟩ := h
   simp only [Prod.mk.injEq] at h3
   obtain ⟨rfl, rfl⟩ := h3
   obtain ⟨i1, i2⟩ := runD_at rest (i + 1) _ _ C2 es2 h2 hC
   refine ⟨by simp [i1], fun k o' hk => ?_⟩
   match k with
   | 0 => exact ⟨_, rfl, .inl ⟨rfl, hd⟩⟩
   | k + 1 =>
    obtain ⟨e, he, hh⟩ := i2 k o' hk
    refine ⟨e, he, ?_⟩
    simp only [tmF, bxF, show i < i + (k + 1) by omega, decide_true, if_true]
    rw [show i + (k + 1) = i + 1 + k by omega]
    exact hh
  ·rename_i hd
   split at h
   ·rename_i C1 e1 h1
    simp only [Option.map_eq_some_iff] at h
    obtain ⟨⟨C2, es2⟩, h2, h3⟩ := h
    simp only [Prod.mk.injEq] at h3
    obtain ⟨rfl, rfl⟩ := h3
    obtain ⟨i1, i2⟩ := runD_at rest (i + 1) _ _ C2 es2 h2 hC.2
    refine ⟨by simp [i1], fun k o' hk => ?_⟩
    match k with
    | 0 =>
     simp only [List.getElem?_cons_zero, Option.some.injEq] at hk
     subst hk
     refine ⟨e1, rfl, .inr ⟨by simpa using hd, C1, ?_, hC.1⟩⟩
     simp only [Nat.add_zero]
     rw [nf, nb]; exact h1
    | k + 1 =>
     obtain ⟨e, he, hh⟩ := i2 k o' hk
     refine ⟨e, he, ?_⟩
     simp only [tmF, bxF, show i < i + (k + 1) by omega, decide_true, if_true]
     rw [show i + (k + 1) = i + 1 + k by omega]
     exact hh
   ·cases h
def edges (o : Oper) : List Nat := (o.after.toList.filter (Region.binds .any)).map (·.on)
def ancOk (ops : List Oper) (anc : List (List Nat)) : Bool :=
 (List.range ops.length).all fun j => match ops[j]? with
  | some o => (edges o).all (· < j) && (anc.getD j []).all fun i => (edges o).any fun e => e == i || (anc.getD e []).contains i
  | none => true
def wrs (e : Ef) : List Nat := e.E.del ++ e.E.ins.map (·.1)
def indep (a b : Ef) : Bool :=
 (match a.dst with | some d => !b.T.contains d && b.dst != some d | none => true) && (match b.dst with | some d => !a.T.contains d | none => true) &&
 (wrs a).all (fun k => !b.K.contains k && !hits b k) && (wrs b).all (fun k => !a.K.contains k)
def pairsOk (es : List Ef) (anc : List (List Nat)) : Bool :=
 (List.range es.length).all fun j => (List.range j).all fun i => (anc.getD j []).contains i || (match es[i]?, es[j]? with | some a, some b => indep a b | _, _ => true)
def mentOk (es : List Ef) (anc : List (List Nat)) (ks : List Nat) (kb : Nat) : Bool :=
 (List.range es.length).all fun i => (nk (kb + i)).all (fun k => !ks.contains k && decide (1000 ≤ k)) && (match es[i]? with
  | some e => sub (optKeys e.E.val ++ insKeys e.E.ins) (ks ++ (i :: anc.getD i []).flatMap fun m => nk (kb + m))
  | none => true)
def deadOk (es : List Ef) (anc : List (List Nat)) (dead : List Nat) : Bool :=
 dead.all fun i => (anc.getD i []).any fun k => match es[k]? with | some e => e.th.isSome | none => false
def gOk (es : List Ef) (anc : List (List Nat)) (bx : Bx) : Bool :=
 (List.range es.length).all fun j => match es[j]? with
  | some e => e.G.all fun k => ((List.range es.length).all fun i => match es[i]? with | some a => !a.E.del.contains k || (anc.getD i []).contains j | none => true) && ((bx k).isSome || (anc.getD j []).any fun i => match es[i]? with | some a => (lkp a.E.ins k).isSome | none => false)
  | none => true
theorem bxF_live {D : Nat → Bool} {k : Nat} : ∀ (es : List Ef) (i : Nat) (bx : Bx), (∀ m e, es[m]? = some e → D (i + m) = true → e.E.del.contains k = false) → ((bx k).isSome = true ∨ ∃ m e, es[m]? = some e ∧ D (i + m) = true ∧ (lkp e.E.ins k).isSome = true) → (bxF es D i bx k).isSome = true
 | [], i, bx, _, h => by
  rcases h with h | ⟨m, e, h, _⟩
  ·exact h
  ·simp at h
 | e :: es, i, bx, hd, h => by
  simp only [bxF]
  refine bxF_live es (i + 1) _ (fun m e' hm hD => hd (m + 1) e' hm (by rwa [show i + (m + 1) = i + 1 + m by omega])) ?_
  have up : D i = true → (lkp e.E.ins k).isSome = true ∨ (bx k).isSome = true → (updB bx e.E.del e.E.ins k).isSome = true := fun hD hh => by
   unfold updB
   split
   ·rfl
   ·rename_i hn
    have h0 := hd 0 e rfl hD
    rcases hh with hh | hh
    ·rw [hn] at hh; cases hh
    ·rw [h0]; simpa using hh
  rcases h with h | ⟨m, e', hm, hD, hins⟩
  ·left
   split
   ·rename_i hD; exact up hD (.inr h)
   ·exact h
  ·match m with
   | 0 =>
    simp only [List.getElem?_cons_zero, Option.some.injEq] at hm
    subst hm
    left
    rw [Nat.add_zero] at hD
    rw [if_pos hD]
    exact up hD (.inl hins)
   | m + 1 => exact .inr ⟨m, e', hm, by rwa [show i + 1 + m = i + (m + 1) by omega], hins⟩
theorem gOk_live {es : List Ef} {anc : List (List Nat)} {bx : Bx} (hg : gOk es anc bx = true) {j : Nat} {e : Ef} (hj : es[j]? = some e) {k : Nat} (hk : e.G.contains k = true) {D : Nat → Bool} (hD : D j = false) (hpre : ∀ i ∈ anc.getD j [], D i = true) (hcl : ∀ i, D i = true → ∀ m ∈ anc.getD i [], D m = true) : (bxF es D 0 bx k).isSome = true := by
 have hl : j < es.length := (List.getElem?_eq_some_iff.1 hj).1
 have h1 := List.all_eq_true.1 hg j (by simp [hl])
 rw [hj] at h1
 have h2 := List.all_eq_true.1 h1 k (by simpa using hk)
 simp only [Bool.and_eq_true, Bool.or_eq_true] at h2
 refine bxF_live es 0 bx (fun m e' hm hDm => ?_) ?_
 rw [Nat.zero_add] at hDm
 have hml : m < es.length := (List.getElem?_eq_some_iff.1 hm).1
 have h3 := List.all_eq_true.1 h2.1 m (by simp [hml])
 rw [hm] at h3
 simp only [Bool.or_eq_true, Bool.not_eq_true'] at h3
 rcases h3 with h3 | h3
 exact h3
 have := hcl m hDm j (by simpa using h3)
 rw [hD] at this; cases this
 rcases h2.2 with h3 | h3
 exact .inl h3
 obtain ⟨i, hi, h4⟩ := List.any_eq_true.1 h3
 right
 split at h4
 rename_i a ha
 exact ⟨i, a, ha, by rw [Nat.zero_add]; exact hpre i hi, h4⟩
 cases h4
def chkD (N : Nat) (ops : List Oper) (es : List Ef) (anc : List (List Nat)) (ks dead : List Nat) (kb : Nat) (bx : Bx) : Bool :=
 decide (kb + es.length ≤ 1000000) && ancOk ops anc && pairsOk es anc && mentOk es anc ks kb && deadOk es anc dead && ops.all (dstOk N) && gOk es anc bx
theorem hits_wrs {e : Ef} {b : Nat} (h : hits e b = true) : b ∈ wrs e := by
 simp only [hits, Bool.or_eq_true] at h
 simp only [wrs, List.mem_append]
 rcases h with h | h
 exact .inl (by simpa using h)
 right
 obtain ⟨B, hB⟩ := Option.isSome_iff_exists.1 h
 exact List.mem_map.2 ⟨(b, B), lkp_mem hB, rfl⟩
def Dn (l : Array Bool) (i : Nat) : Bool := l.getD i false
theorem Dn_set {l : Array Bool} {i : Nat} (hi : i < l.size) (k : Nat) : Dn (l.setIfInBounds i true) k = (Dn l k || k == i) := by
 unfold Dn
 simp only [Array.getD_eq_getD_getElem?]
 by_cases h : i = k
 subst h; rw [Array.getElem?_setIfInBounds_self_of_lt hi]; simp
 rw [Array.getElem?_setIfInBounds_ne h]
 have : (k == i) = false := by simp; exact fun e => h e.symm
 rw [this]; simp
section
variable {P : Program} {I : World → Prop} {w0 : World} {ow : Own} {N kb : Nat} {tm : Tm} {bx : Bx} {tt : TypeId → Option Ty} {cs : List (Nat × CI)} {ops : Array Oper} {gd : List (Nat × Bool)} {dead ks : List Nat} {es : List Ef} {anc : List (List Nat)} {C : Prop}
def Closed (ops : Array Oper) (D : Nat → Bool) : Prop := ∀ j o, D j = true → ops[j]? = some o → ∀ e ∈ edges o, D e = true
theorem anc_edge (h : ancOk ops.toList anc = true) {j : Nat} {o : Oper} (ho : ops[j]? = some o) : (∀ e ∈ edges o, e < j) ∧ ∀ i ∈ anc.getD j [], ∃ e ∈ edges o, e = i ∨ i ∈ anc.getD e [] := by
 unfold ancOk at h
 have hh := h
 clear hh
 have hj : j < ops.size := (Array.getElem?_eq_some_iff.1 ho).1
 have h1 := List.all_eq_true.1 h j (by simp [hj])
 have ho2 : ops.toList[j]? = some o := by rw [Array.getElem?_toList]; exact ho
 rw [ho2] at h1
 simp only [Bool.and_eq_true, List.all_eq_true, decide_eq_true_eq, List.any_eq_true, Bool.or_eq_true, beq_iff_eq] at h1
 refine ⟨h1.1, fun i hi => ?_⟩
 obtain ⟨e, he, hh⟩ := h1.2 i hi
 exact ⟨e, he, hh.imp id (fun h => by simpa using h)⟩
theorem anc_in (h : ancOk ops.toList anc = true) {D : Nat → Bool} (hc : Closed ops D) (hsz : ∀ j, D j = true → j < ops.size) : ∀ (j : Nat) (o : Oper), ops[j]? = some o → (∀ e ∈ edges o, D e = true) → ∀ i ∈ anc.getD j [], D i = true := by
 intro j
 induction j using Nat.strongRecOn with
 | _ j ih =>
  intro o ho hd i hi
  obtain ⟨h1, h2⟩ := anc_edge h ho
  obtain ⟨e, he, hh⟩ := h2 i hi
  have hde := hd e he
  rcases hh with rfl | hh
  exact hde
  have hlt := hsz e hde
  have hoe : ops[e]? = some ops[e] := Array.getElem?_eq_getElem hlt
  exact ih e (h1 e he) _ hoe (fun e' he' => hc e _ hde hoe e' he') i hh
theorem opD_ext {i : Nat} {o : Oper} {tm tm' : Tm} {bx bx' : Bx} {Ck : Prop} {e : Ef} (h : opD P tt ops cs gd kb i o tm bx = some (Ck, e)) (ht : ∀ t, e.T.contains t = true → tm t = tm' t) (hb : ∀ b, e.K.contains b = true → bx b = bx' b) (hgg : ∀ b, e.G.contains b = true → (bx b).isSome = (bx' b).isSome) : opD P tt ops cs gd kb i o tm' bx' = some (Ck, e) := by
 obtain ⟨h1, h2, h3, _, _⟩ := opDc_TK h
 have e1 : restr tm (opT ops o) = restr tm' (opT ops o) := restr_ext (by rw [h1] at ht; exact ht)
 rw [h2] at hb
 have e3 := opK_ext hb
 have e2 : restrG bx (opK o (opT ops o) (restr tm (opT ops o)) bx) (opG o (restr tm (opT ops o))) = restrG bx' (opK o (opT ops o) (restr tm (opT ops o)) bx) (opG o (restr tm (opT ops o))) := restrG_ext hb (by rw [h3] at hgg; exact hgg)
 unfold opD at h ⊢
 rw [← e1, ← e3, ← e2]
 exact h
theorem pairs_at (h : pairsOk es anc = true) {i j : Nat} {a b : Ef} (hij : i < j) (ha : es[i]? = some a) (hb : es[j]? = some b) : i ∈ anc.getD j [] ∨ indep a b = true := by
 have hj : j < es.length := (List.getElem?_eq_some_iff.1 hb).1
 have h1 := List.all_eq_true.1 h j (by simp [hj])
 have h2 := List.all_eq_true.1 h1 i (by simp [hij])
 rw [ha, hb] at h2
 simp only [Bool.or_eq_true] at h2
 exact h2.imp (fun h => by simpa using h) id
theorem ind_dst {a b : Ef} (h : indep a b = true) : (∀ d, a.dst = some d → b.T.contains d = false ∧ b.dst ≠ some d) ∧ (∀ d, b.dst = some d → a.T.contains d = false) ∧ (∀ k, hits a k = true → b.K.contains k = false ∧ hits b k = false) ∧ (∀ k, hits b k = true → a.K.contains k = false) := by
 simp only [indep, Bool.and_eq_true] at h
 obtain ⟨⟨⟨h1, h2⟩, h3⟩, h4⟩ := h
 refine ⟨fun d hd => ?_, fun d hd => ?_, fun k hk => ?_, fun k hk => ?_⟩
 rw [hd] at h1; simp only [Bool.and_eq_true, Bool.not_eq_true', bne_iff_ne] at h1; exact ⟨h1.1, h1.2⟩
 rw [hd] at h2; simpa using h2
 have := List.all_eq_true.1 h3 k (hits_wrs hk)
 simp only [Bool.and_eq_true, Bool.not_eq_true'] at this
 exact this
 have := List.all_eq_true.1 h4 k (hits_wrs hk)
 simpa using this
section
variable {D : Nat → Bool} (hpair : pairsOk es anc = true) (hcl : ∀ j, D j = true → ∀ i ∈ anc.getD j [], D i = true)
include hpair hcl
theorem look_tm {j : Nat} {e : Ef} (hj : es[j]? = some e) (hD : D j = false) (hpre : ∀ i ∈ anc.getD j [], D i = true) {t : Nat} (ht : e.T.contains t = true) (tm : Tm) : tmF es D 0 tm t = tmF es (fun m => decide (m < 0 + j)) 0 tm t := by
 refine tmF_ext es 0 tm tm rfl (fun k e' hk hd => ?_)
 simp only [Nat.zero_add]
 rcases Nat.lt_trichotomy k j with hlt | rfl | hgt
 rw [decide_eq_true hlt]
 rcases pairs_at hpair hlt hk hj with h | h
 exact hpre k h
 have := (ind_dst h).1 t hd; rw [this.1] at ht; cases ht
 rw [hD]; simp
 rw [decide_eq_false (by omega)]
 rcases pairs_at hpair hgt hj hk with h | h
 cases hDk : D k with
 | false => rfl
 | true => have := hcl k hDk j h; rw [hD] at this; cases this
 have := (ind_dst h).2.1 t hd; rw [this] at ht; cases ht
theorem look_bx {j : Nat} {e : Ef} (hj : es[j]? = some e) (hD : D j = false) (hpre : ∀ i ∈ anc.getD j [], D i = true) {t : Nat} (ht : e.K.contains t = true) (bx : Bx) : bxF es D 0 bx t = bxF es (fun m => decide (m < 0 + j)) 0 bx t := by
 refine bxF_ext es 0 bx bx rfl (fun k e' hk hd => ?_)
 simp only [Nat.zero_add]
 rcases Nat.lt_trichotomy k j with hlt | rfl | hgt
 rw [decide_eq_true hlt]
 rcases pairs_at hpair hlt hk hj with h | h
 exact hpre k h
 have := (ind_dst h).2.2.1 t hd; rw [this.1] at ht; cases ht
 rw [hD]; simp
 rw [decide_eq_false (by omega)]
 rcases pairs_at hpair hgt hj hk with h | h
 cases hDk : D k with
 | false => rfl
 | true => have := hcl k hDk j h; rw [hD] at this; cases this
 have := (ind_dst h).2.2.2 t hd; rw [this] at ht; cases ht
theorem with_tm {D' : Nat → Bool} {j : Nat} {e : Ef} (hj : es[j]? = some e) (hD : D j = false) (hD' : ∀ k, D' k = (D k || k == j)) (tm : Tm) : tmF es D' 0 tm = upd (tmF es D 0 tm) e.dst e.E.val := by
 funext t
 simp only [upd]
 split
 rename_i ht
 refine tmF_last es 0 j tm e hj ht (by rw [Nat.zero_add, hD']; simp) (fun k e' hk hk' he => ?_)
 rw [Nat.zero_add, hD']
 have hne : (k == j) = false := by simp; omega
 rw [hne, Bool.or_false]
 rcases pairs_at hpair hk hj hk' with h | h
 cases hDk : D k with
 | false => rfl
 | true => have := hcl k hDk j h; rw [hD] at this; cases this
 exact absurd he ((ind_dst h).1 t ht).2
 rename_i ht
 refine tmF_ext es 0 tm tm rfl (fun k e' hk he => ?_)
 rw [Nat.zero_add, hD']
 have hne : k ≠ j := fun h => by subst h; rw [hj] at hk; injection hk with hk; subst hk; exact ht he
 have : (k == j) = false := by simpa using hne
 rw [this, Bool.or_false]
theorem with_bx {D' : Nat → Bool} {j : Nat} {e : Ef} (hj : es[j]? = some e) (hD : D j = false) (hD' : ∀ k, D' k = (D k || k == j)) (bx : Bx) : bxF es D' 0 bx = updB (bxF es D 0 bx) e.E.del e.E.ins := by
 funext t
 by_cases ht : hits e t = true
 refine bxF_last (bxF es D 0 bx) es 0 j bx e hj ht (by rw [Nat.zero_add, hD']; simp) (fun k e' hk hk' he => ?_)
 rw [Nat.zero_add, hD']
 have hne : (k == j) = false := by simp; omega
 rw [hne, Bool.or_false]
 rcases pairs_at hpair hk hj hk' with h | h
 cases hDk : D k with
 | false => rfl
 | true => have := hcl k hDk j h; rw [hD] at this; cases this
 have := ((ind_dst h).2.2.1 t ht).2; rw [this] at he; cases he
 rw [updB_ne (by simpa using ht)]
 refine bxF_ext es 0 bx bx rfl (fun k e' hk he => ?_)
 rw [Nat.zero_add, hD']
 have hne : k ≠ j := fun h => by subst h; rw [hj] at hk; injection hk with hk; subst hk; exact ht he
 have : (k == j) = false := by simpa using hne
 rw [this, Bool.or_false]
end
end
theorem tmF_val {D : Nat → Bool} {t : Nat} : ∀ (es : List Ef) (i : Nat) (tm : Tm), tmF es D i tm t = tm t ∨ ∃ k e, es[k]? = some e ∧ D (i + k) = true ∧ tmF es D i tm t = e.E.val
 | [], _, _ => .inl rfl
 | e :: es, i, tm => by
  simp only [tmF]
  rcases tmF_val (D := D) (t := t) es (i + 1) (if D i then upd tm e.dst e.E.val else tm) with h | ⟨k, e', h1, h2, h3⟩
  rw [h]
  split
  rename_i hD
  by_cases hd : e.dst = some t
  exact .inr ⟨0, e, rfl, by simpa using hD, by simp [upd, hd]⟩
  exact .inl (by simp [upd, hd])
  exact .inl rfl
  exact .inr ⟨k + 1, e', by simpa using h1, by rwa [show i + (k + 1) = i + 1 + k by omega], h3⟩
theorem bxF_val {D : Nat → Bool} {b : Nat} {B : Box} : ∀ (es : List Ef) (i : Nat) (bx : Bx), bxF es D i bx b = some B → bx b = some B ∨ ∃ k e, es[k]? = some e ∧ D (i + k) = true ∧ lkp e.E.ins b = some B
 | [], _, _, h => .inl h
 | e :: es, i, bx, h => by
  simp only [bxF] at h
  rcases bxF_val (D := D) es (i + 1) _ h with h | ⟨k, e', h1, h2, h3⟩
  split at h
  rename_i hD
  unfold updB at h
  split at h
  rename_i B0 hi
  simp only [Option.some.injEq] at h
  subst h
  exact .inr ⟨0, e, rfl, by simpa using hD, hi⟩
  split at h
  cases h
  exact .inl h
  exact .inl h
  exact .inr ⟨k + 1, e', by simpa using h1, by rwa [show i + (k + 1) = i + 1 + k by omega], h3⟩
section
variable {P : Program} {I : World → Prop} {w0 : World} {ow : Own} {N kb : Nat} {tm : Tm} {bx : Bx} {tt : TypeId → Option Ty} {cs : List (Nat × CI)} {ops : Array Oper} {gd : List (Nat × Bool)} {dead ks : List Nat} {es : List Ef} {anc : List (List Nat)} {C : Prop}
theorem restr_some {α : Type} {f : Nat → Option α} {l : List Nat} {t : Nat} {x : α} (h : restr f l t = some x) : f t = some x := by
 simp only [restr] at h
 split at h
 exact h
 cases h
theorem BoxR.one {fz : Nat → Prop} {η : Nat → Option Value} {w : World} {u : Value} {B : Box} (hr : BoxR w fz η u B) : u.oneCell' = true := by
 cases B with
 | var l => obtain ⟨g, C, e, rfl, _⟩ := hr; rfl
 | any => exact hr
 | full e τ xs => obtain ⟨⟨cs, ho, _⟩, _⟩ := hr; rcases ho.2 with ⟨rfl, _⟩ | ⟨g, cap, cur, rfl, _⟩ <;> rfl
 | sl e τ xs => obtain ⟨cs, ho, _⟩ := hr; rcases ho.2 with ⟨rfl, _⟩ | ⟨g, cap, cur, rfl, _⟩ <;> rfl
theorem Sim.weakenG {η : Nat → Option Value} {tm' : Tm} {bx' : Bx} {a : Act} {w : World} (s : Sim N w0 ow η tm bx a w) (h1 : ∀ t x, tm' t = some x → tm t = some x) (h2 : ∀ b B, bx' b = some B → bx b = some B ∨ B = .any ∧ (bx b).isSome = true) : Sim N w0 ow η tm' bx' a w :=
 ⟨s.size, s.nod, s.frame, fun t x h => s.tmp t x (h1 t x h), fun b B h => by
  rcases h2 b B h with h3 | ⟨rfl, h3⟩
  ·exact s.dom b B h3
  ·obtain ⟨B, hB⟩ := Option.isSome_iff_exists.1 h3
   obtain ⟨u, hu, hr⟩ := s.dom b B hB
   exact ⟨u, hu, hr.one⟩, s.new, s.apart, s.pin, s.pinlt⟩
theorem restrG_some {f : Bx} {K G : List Nat} {b : Nat} {B : Box} (h : restrG f K G b = some B) : f b = some B ∨ B = .any ∧ (f b).isSome = true := by
 simp only [restrG] at h
 split at h
 exact .inl h
 split at h
 right
 rw [Option.map_eq_some_iff] at h
 obtain ⟨B0, hB, rfl⟩ := h
 exact ⟨rfl, by rw [hB]; rfl⟩
 cases h
theorem ment_at (h : mentOk es anc ks kb = true) {i : Nat} {e : Ef} (he : es[i]? = some e) : (∀ k ∈ nk (kb + i), ks.contains k = false ∧ 1000 ≤ k) ∧ sub (optKeys e.E.val ++ insKeys e.E.ins) (ks ++ (i :: anc.getD i []).flatMap fun m => nk (kb + m)) = true := by
 have hi : i < es.length := (List.getElem?_eq_some_iff.1 he).1
 have h1 := List.all_eq_true.1 h i (by simp [hi])
 rw [he] at h1
 simp only [Bool.and_eq_true] at h1
 exact ⟨fun k hk => by simpa using List.all_eq_true.1 h1.1 k hk, h1.2⟩
theorem nk_inj {a b k : Nat} (ha : a < 1000000) (hb : b < 1000000) (h1 : k ∈ nk a) (h2 : k ∈ nk b) : a = b := by
 simp only [nk, List.mem_cons, List.not_mem_nil, or_false] at h1 h2
 omega
theorem fresh_at (h : mentOk es anc ks kb = true) (hlim : kb + es.length ≤ 1000000) (hancl : ∀ j, j < es.length → ∀ i ∈ anc.getD j [], i < j) (hinv : Inv ks tm bx) {D : Nat → Bool} (hcl : ∀ j, D j = true → ∀ i ∈ anc.getD j [], D i = true) {i : Nat} {e : Ef} (he : es[i]? = some e) (hD : D i = false) : ∀ key ∈ nk (kb + i), Fresh key (tmF es D 0 tm) (bxF es D 0 bx) := by
 intro key hkey
 obtain ⟨hk, _⟩ := ment_at h he
 obtain ⟨hk, h1000⟩ := hk key hkey
 have hil : i < es.length := (List.getElem?_eq_some_iff.1 he).1
 have no : ∀ k e', es[k]? = some e' → D k = true → key ∈ optKeys e'.E.val ++ insKeys e'.E.ins → False := by
  intro k e' hk' hDk hmem
  have hkl : k < es.length := (List.getElem?_eq_some_iff.1 hk').1
  have h2 := sub_mem (ment_at h hk').2 hmem
  have h3 : key ∈ ks ++ (k :: anc.getD k []).flatMap fun m => nk (kb + m) := by simpa using h2
  rw [List.mem_append] at h3
  rcases h3 with h3 | h3
  have : ks.contains key = true := by simpa using h3
  rw [hk] at this; cases this
  rw [List.mem_flatMap] at h3
  obtain ⟨m, hm, hm2⟩ := h3
  have hml : m < es.length := by
   rcases List.mem_cons.1 hm with rfl | hm
   exact hkl
   have := hancl k hkl m hm; omega
  have : kb + m = kb + i := nk_inj (by omega) (by omega) hm2 hkey
  have : m = i := by omega
  subst this
  rcases List.mem_cons.1 hm with rfl | hm
  rw [hD] at hDk; cases hDk
  have := hcl k hDk m hm; rw [hD] at this; cases this
 refine ⟨fun t av ht => ?_, fun b B hB => ?_, h1000⟩
 cases hm : ment key av with
 | false => rfl
 | true =>
  exfalso
  rcases tmF_val (D := D) (t := t) es 0 tm with h1 | ⟨k, e', h1, h2, h3⟩
  rw [h1] at ht
  have := hinv.1 t av ht _ hm
  rw [hk] at this; cases this
  rw [h3] at ht
  rw [Nat.zero_add] at h2
  exact no k e' h1 h2 (by rw [ht]; exact List.mem_append_left _ (mem_keysA av hm))
 cases hm : mentB key B with
 | false => rfl
 | true =>
  exfalso
  rcases bxF_val (D := D) es 0 bx hB with h1 | ⟨k, e', h1, h2, h3⟩
  have := hinv.2 b B h1 _ hm
  rw [hk] at this; cases this
  rw [Nat.zero_add] at h2
  exact no k e' h1 h2 (List.mem_append_right _ (insKeys_mem h3 (mem_keysB hm)))
theorem anc_lt {ops : List Oper} {anc : List (List Nat)} (h : ancOk ops anc = true) : ∀ (j : Nat), j < ops.length → ∀ i ∈ anc.getD j [], i < j := by
 intro j
 induction j using Nat.strongRecOn with
 | _ j ih =>
  intro hj i hi
  have h1 := List.all_eq_true.1 h j (by simp [hj])
  rw [List.getElem?_eq_getElem hj] at h1
  simp only [Bool.and_eq_true, List.all_eq_true, decide_eq_true_eq, List.any_eq_true, Bool.or_eq_true, beq_iff_eq] at h1
  obtain ⟨e, he, hh⟩ := h1.2 i hi
  have hlt := h1.1 e he
  rcases hh with rfl | hh
  exact hlt
  have := ih e hlt (by omega) i (by simpa using hh); omega
theorem count_set {l : Array Bool} {n i : Nat} (hn : l.size = n) (hi : i < n) (hl : Dn l i = false) {f : Nat} (h : (List.range n).countP (fun k => !Dn l k) = f + 1) : (List.range n).countP (fun k => !Dn (l.setIfInBounds i true) k) = f := by
 have e : ∀ k, Dn (l.setIfInBounds i true) k = (Dn l k || k == i) := Dn_set (by omega)
 have key : ∀ m, (List.range m).countP (fun k => !Dn l k) = (List.range m).countP (fun k => !(Dn l k || k == i)) + (if i < m then 1 else 0) := by
  intro m
  induction m with
  | zero => simp
  | succ m ih =>
   rw [List.range_succ, List.countP_append, List.countP_append, ih]
   by_cases him : m = i
   subst him
   simp [hl]
   have : (m == i) = false := by simpa using him
   simp only [List.countP_cons, List.countP_nil, this, Bool.or_false]
   by_cases h1 : i < m
   simp only [if_pos h1, if_pos (show i < m + 1 by omega)]; omega
   simp only [if_neg h1, if_neg (show ¬ i < m + 1 by omega)]; omega
 have := key n
 rw [if_pos hi, h] at this
 simp only [e]; omega
theorem draw_any {Q : Exit → Act → World → Prop} (hcs : Cons P I cs) (hI : ∀ w', Fr ow w0 w' → I w') (hrun : runD P tt ops cs gd dead kb 0 ops.toList tm bx = some (C, es)) (hC : C) (hchk : chkD N ops.toList es anc ks dead kb bx = true) (hinv : Inv ks tm bx)
  (hn : (∀ e ∈ es, e.th = none) → ∀ η' a' w', Sim N w0 ow η' (tmF es (fun _ => true) 0 tm) (bxF es (fun _ => true) 0 bx) a' w' → Q .normal a' w')
  (ht : ∀ e ∈ es, ∀ v, e.th = some v → ∀ η' tm' bx' a' w', Sim N w0 ow η' tm' bx' a' w' → Q (.panic [{ v, recovered := false }]) a' w') :
  ∀ (fuel : Nat) (l : Array Bool) (η : Nat → Option Value) (a : Act) (w : World), l.size = ops.size → Closed ops (Dn l) → (∀ i e, Dn l i = true → es[i]? = some e → e.th = none ∧ e.dead = false) → (List.range ops.size).countP (fun i => !Dn l i) = fuel →
  Sim N w0 ow η (tmF es (Dn l) 0 tm) (bxF es (Dn l) 0 bx) a w → wpAny P .any ops Q fuel l a w := by
 obtain ⟨hlen, hat⟩ := runD_at ops.toList 0 tm bx C es hrun hC
 simp only [chkD, Bool.and_eq_true] at hchk
 obtain ⟨⟨⟨⟨⟨⟨hlim, hanc⟩, hpair⟩, hment⟩, hdead⟩, hdst⟩, hgok⟩ := hchk
 have hlim : kb + es.length ≤ 1000000 := by simpa using hlim
 have hancl : ∀ j, j < es.length → ∀ i ∈ anc.getD j [], i < j := fun j hj => anc_lt hanc j (by omega)
 have hszD : ∀ (l : Array Bool), l.size = ops.size → ∀ j, Dn l j = true → j < ops.size := fun l hl j hj => by
  rcases Nat.lt_or_ge j l.size with h | h
  ·omega
  ·unfold Dn at hj
   rw [Array.getD_eq_getD_getElem?, Array.getElem?_eq_none h] at hj
   cases hj
 intro fuel
 induction fuel with
 | zero =>
  intro l η a w hl hc hth hcount s
  have hall : ∀ i, i < ops.size → Dn l i = true := fun i hi => by
   have := List.countP_eq_zero.1 hcount i (by simp [hi])
   simpa using this
  have hready : Region.ready .any ops l = [] := by
   unfold Region.ready
   rw [List.filter_eq_nil_iff]
   intro i hi
   have hi' : i < ops.size := by simpa using hi
   have h1 := hall i hi'
   have : l.getD i true = true := by
    unfold Dn at h1
    rw [Array.getD_eq_getD_getElem?, Array.getElem?_eq_getElem (by omega)] at h1 ⊢
    exact h1
   simp [this]
  refine ⟨hready, hn (fun e he => ?_) η a w ?_⟩
  ·obtain ⟨i, hi⟩ := List.getElem?_of_mem he
   have hlt : i < ops.size := by have := (List.getElem?_eq_some_iff.1 hi).1; simp at hlen; omega
   exact (hth i e (hall i hlt) hi).1
  ·have e1 : tmF es (Dn l) 0 tm = tmF es (fun _ => true) 0 tm := by
    funext t; refine tmF_ext es 0 tm tm rfl (fun k e hk _ => ?_)
    have hlt : k < ops.size := by have := (List.getElem?_eq_some_iff.1 hk).1; simp at hlen; omega
    rw [Nat.zero_add]; exact hall k hlt
   have e2 : bxF es (Dn l) 0 bx = bxF es (fun _ => true) 0 bx := by
    funext t; refine bxF_ext es 0 bx bx rfl (fun k e hk _ => ?_)
    have hlt : k < ops.size := by have := (List.getElem?_eq_some_iff.1 hk).1; simp at hlen; omega
    rw [Nat.zero_add]; exact hall k hlt
   rw [← e1, ← e2]; exact s
 | succ fuel ih =>
  intro l η a w hl hc hth hcount s
  -- what is ready
  have hrd : ∀ i, i ∈ Region.ready .any ops l ↔ i < ops.size ∧ Dn l i = false ∧ ∀ o, ops[i]? = some o → ∀ e ∈ edges o, Dn l e = true := by
   intro i
   unfold Region.ready
   rw [List.mem_filter]
   constructor
   ·rintro ⟨h1, h2⟩
    have hi : i < ops.size := by simpa using h1
    have ho : ops[i]? = some ops[i] := Array.getElem?_eq_getElem hi
    rw [ho] at h2
    simp only [Bool.and_eq_true, Bool.not_eq_true', Option.map_some, Option.getD_some] at h2
    refine ⟨hi, ?_, fun o ho' e he => ?_⟩
    ·have := h2.1
     unfold Dn
     rw [Array.getD_eq_getD_getElem?, Array.getElem?_eq_getElem (by omega)] at this ⊢
     exact this
    ·rw [ho] at ho'
     injection ho' with ho'
     subst ho'
     simp only [edges, List.mem_map, List.mem_filter] at he
     obtain ⟨e0, ⟨h3, h4⟩, rfl⟩ := he
     have h5 := Array.all_eq_true'.1 h2.2 e0 (by simpa using h3)
     simp only [h4, Bool.not_true, Bool.false_or] at h5
     exact h5
   ·rintro ⟨hi, h2, h3⟩
    have ho : ops[i]? = some ops[i] := Array.getElem?_eq_getElem hi
    refine ⟨by simpa using hi, ?_⟩
    rw [ho]
    simp only [Bool.and_eq_true, Bool.not_eq_true', Option.map_some, Option.getD_some]
    refine ⟨?_, Array.all_eq_true'.2 fun e0 he0 => ?_⟩
    ·unfold Dn at h2
     rw [Array.getD_eq_getD_getElem?, Array.getElem?_eq_getElem (by omega)] at h2 ⊢
     exact h2
    ·by_cases hb : Region.binds .any e0 = true
     ·have := h3 _ ho e0.on (by simp only [edges, List.mem_map, List.mem_filter]; exact ⟨e0, ⟨by simpa using he0, hb⟩, rfl⟩)
      unfold Dn at this
      simp [hb, this]
     ·simp [hb]
  have hclA : ∀ j, Dn l j = true → ∀ i ∈ anc.getD j [], Dn l i = true := fun j hj i hi => by
   have hlt := hszD l hl j hj
   have ho : ops[j]? = some ops[j] := Array.getElem?_eq_getElem hlt
   exact anc_in hanc hc (hszD l hl) j _ ho (fun e he => hc j _ hj ho e he) i hi
  refine ⟨fun hnil => ?_, fun i hi => ?_⟩
  ·exfalso
   have hex : ∃ i, i < ops.size ∧ Dn l i = false := by
    have hpos : 0 < (List.range ops.size).countP (fun i => !Dn l i) := by omega
    obtain ⟨i, h1, h2⟩ := List.countP_pos_iff.1 hpos
    exact ⟨i, by simpa using h1, by simpa using h2⟩
   have hmin : ∀ m, (∃ i, i < m ∧ i < ops.size ∧ Dn l i = false) → ∃ i, i < ops.size ∧ Dn l i = false ∧ ∀ k, k < i → k < ops.size → Dn l k = true := by
    intro m
    induction m with
    | zero => rintro ⟨i, h, _⟩; omega
    | succ m ihm =>
     rintro ⟨i, h1, h2, h3⟩
     by_cases hx : ∃ i, i < m ∧ i < ops.size ∧ Dn l i = false
     ·exact ihm hx
     ·refine ⟨i, h2, h3, fun k hk hk2 => ?_⟩
      cases hDk : Dn l k with
      | true => rfl
      | false => exact absurd ⟨k, by omega, hk2, hDk⟩ hx
   obtain ⟨i, h1, h2⟩ := hex
   obtain ⟨i, h1, h2, h3⟩ := hmin ops.size ⟨i, h1, h1, h2⟩
   have : i ∈ Region.ready .any ops l := (hrd i).2 ⟨h1, h2, fun o ho e he => h3 e ((anc_edge hanc ho).1 e he) (by have := (anc_edge hanc ho).1 e he; omega)⟩
   rw [hnil] at this; cases this
  ·obtain ⟨hi1, hDi, hedge⟩ := (hrd i).1 hi
   have ho : ops[i]? = some ops[i] := Array.getElem?_eq_getElem hi1
   obtain ⟨e, he, hh⟩ := hat i ops[i] (by rw [Array.getElem?_toList]; exact ho)
   rw [Nat.zero_add] at hh
   have hpre : ∀ k ∈ anc.getD i [], Dn l k = true := anc_in hanc hc (hszD l hl) i _ ho (hedge _ ho)
   rcases hh with ⟨_, hd⟩ | ⟨hnd, Ck, hop, hCk⟩
   ·exfalso
    have h1 := List.all_eq_true.1 hdead i (by simpa using hd)
    obtain ⟨k, hk, h2⟩ := List.any_eq_true.1 h1
    have hDk := hpre k hk
    split at h2
    ·rename_i e' he'
     rw [(hth k e' hDk he').1] at h2; cases h2
    ·cases h2
   ·have hT := fun t ht => (look_tm (D := Dn l) hpair hclA he hDi hpre (t := t) ht tm).symm
    have hB := fun t ht => (look_bx (D := Dn l) hpair hclA he hDi hpre (t := t) ht bx).symm
    simp only [Nat.zero_add] at hT hB
    have hjes : i < es.length := (List.getElem?_eq_some_iff.1 he).1
    have hG := fun t (ht : e.G.contains t = true) => (gOk_live hgok he ht (D := fun m => decide (m < i)) (by simp) (fun k hk => by have := hancl i hjes k hk; simpa using this) (fun k hk m hm => by
     have hk2 : k < i := by simpa using hk
     have := hancl k (by omega) m hm
     simp; omega)).trans (gOk_live hgok he ht (D := Dn l) hDi hpre hclA).symm
    have hop2 := opD_ext hop hT hB hG
    have hfresh := fresh_at hment hlim hancl hinv hclA he hDi
    obtain ⟨hT1, hK1, hG1, hdstE, hdeadE⟩ := opDc_TK hop2
    have hdstN : dstOk N ops[i] = true := List.all_eq_true.1 hdst ops[i] (by simp)
    -- behind the operation
    have next : ∀ η' a' w', e.th = none → Sim N w0 ow η' (upd (tmF es (Dn l) 0 tm) ops[i].dst e.E.val) (updB (bxF es (Dn l) 0 bx) e.E.del e.E.ins) a' w' → wpAny P .any ops Q fuel (l.setIfInBounds i true) a' w' := by
     intro η' a' w' hnt hs
     have hset := Dn_set (l := l) (i := i) (by omega)
     refine ih (l.setIfInBounds i true) η' a' w' (by simpa using hl) (fun j o hj hoj e' he' => ?_) (fun k e' hk hek => ?_) (count_set hl hi1 hDi hcount) ?_
     ·rw [hset] at hj ⊢
      simp only [Bool.or_eq_true, beq_iff_eq] at hj ⊢
      rcases hj with hj | rfl
      ·exact .inl (hc j o hj hoj e' he')
      ·exact .inl (hedge o hoj e' he')
     ·rw [hset] at hk
      simp only [Bool.or_eq_true, beq_iff_eq] at hk
      rcases hk with hk | rfl
      ·exact hth k e' hk hek
      ·rw [he] at hek; injection hek with hek; subst hek; exact ⟨hnt, hdeadE⟩
     ·rw [with_tm hpair hclA he hDi hset, with_bx hpair hclA he hDi hset, hdstE]; exact hs
    have sr : ∀ T K G, Sim N w0 ow η (restr (tmF es (Dn l) 0 tm) T) (restrG (bxF es (Dn l) 0 bx) K G) a w := fun T K G => s.weakenG (fun t x h => restr_some h) (fun b B h => restrG_some h)
    have hm0 : ∀ T, ∀ k ∈ nk (kb + i), ∀ x y, evalA (restr (tmF es (Dn l) 0 tm) T) x = some y → ment k y = false := fun T k hk x y hy => by
     have hf2 : Fresh k (restr (tmF es (Dn l) 0 tm) T) (fun _ => none) := ⟨fun t av h => (hfresh k hk).1 t av (restr_some h), (fun b B h => by cases h), (hfresh k hk).2.2⟩
     exact hf2.ev hy
    have mem : e ∈ es := List.mem_of_getElem? he
    have run : ∀ (p : Wr × Option Value), opE P tt cs gd (kb + i) i ops[i] (restr (tmF es (Dn l) 0 tm) (opT ops ops[i])) (restrG (bxF es (Dn l) 0 bx) (opK ops[i] (opT ops ops[i]) (restr (tmF es (Dn l) 0 tm) (opT ops ops[i])) (bxF es (Dn l) 0 bx)) (opG ops[i] (restr (tmF es (Dn l) 0 tm) (opT ops ops[i])))) = some p → p.1 = e.E → p.2 = e.th → e.E.cond →
      ops[i].wp P a w (wpAny P .any ops Q fuel (l.setIfInBounds i true)) Q := by
     rintro ⟨E, th⟩ hE rfl rfl hcond
     refine opE_ok s (sr _ _ _) (hm0 _) hE hcond hfresh hcs hI hdstN (fun hnt η' a' w' hs => next η' a' w' hnt hs) (fun v hv η2 tm2 bx2 w' hs _ => ht e mem v hv η2 tm2 bx2 a w' hs)
    unfold wpOp
    rw [ho]
    simp only
    have hop3 := hop2
    unfold opD opDc at hop3
    simp only at hop3
    split at hop3
    ·rename_i hg
     rw [if_pos (by simp [Region.wanted, hg])]
     simp only [Option.map_eq_some_iff, Prod.mk.injEq] at hop3
     obtain ⟨p, hp, h1, h2⟩ := hop3
     subst h1 h2
     exact .inl (run p hp rfl rfl hCk)
    ·rename_i j want hg
     split at hop3
     ·rename_i b hb hgd
      simp only [Option.map_eq_some_iff, Prod.mk.injEq] at hop3
      obtain ⟨q, ⟨p, hp, hq⟩, h1, h2⟩ := hop3
      subst hq h1 h2
      have hy := yielded_lit (sr _ [] []) hb
      rw [if_pos (by simp [Region.wanted, hg, hy, hCk.1])]
      exact .inl (run p hp rfl rfl hCk.2)
     ·rename_i b hb hgd
      simp only [Option.some.injEq, Prod.mk.injEq] at hop3
      obtain ⟨h1, h2⟩ := hop3
      subst h1
      have hy := yielded_lit (sr _ [] []) hb
      rw [if_neg (by simp [Region.wanted, hg, hy, hCk])]
      have hv : e.E = ⟨True, some undA, [], [], false⟩ := by rw [← h2]
      have hth0 : e.th = none := by rw [← h2]
      refine next η _ w hth0 ?_
      rw [hv]
      simp only
      rw [updB_nil]
      exact s.put (dstOk_lt hdstN) (fun x hx => by simp only [Option.some.injEq] at hx; subst hx; exact .lit _)
     ·rename_i l hb
      simp only [Option.some.injEq, Prod.mk.injEq] at hop3
      obtain ⟨h1, h2⟩ := hop3
      subst h1
      have hy := yielded_und (sr _ [] []) hb
      rw [if_neg (by simp [Region.wanted, hg, hy])]
      have hv : e.E = ⟨True, some undA, [], [], false⟩ := by rw [← h2]
      have hth0 : e.th = none := by rw [← h2]
      refine next η _ w hth0 ?_
      rw [hv]
      simp only
      rw [updB_nil]
      exact s.put (dstOk_lt hdstN) (fun x hx => by simp only [Option.some.injEq] at hx; subst hx; exact .lit _)
     ·cases hop3
theorem Dn_rep (n i : Nat) : Dn (Array.replicate n false) i = false := by
 unfold Dn
 rw [Array.getD_eq_getD_getElem?, Array.getElem?_replicate]
 split <;> rfl
theorem draw_ok {Q : Exit → Act → World → Prop} {id : Nat} {η : Nat → Option Value} {a : Act} {w : World} (hmix : P.follows .mixedOrders = true) (hcs : Cons P I cs) (hI : ∀ w', Fr ow w0 w' → I w') (hrun : runD P tt ops cs gd dead kb 0 ops.toList tm bx = some (C, es)) (hC : C)
  (hchk : chkD N ops.toList es anc ks dead kb bx = true) (hinv : Inv ks tm bx) (s : Sim N w0 ow η tm bx a w)
  (hn : (∀ e ∈ es, e.th = none) → ∀ η' a' w', Sim N w0 ow η' (tmF es (fun _ => true) 0 tm) (bxF es (fun _ => true) 0 bx) a' w' → Q .normal a' w')
  (ht : ∀ e ∈ es, ∀ v, e.th = some v → ∀ η' tm' bx' a' w', Sim N w0 ow η' tm' bx' a' w' → Q (.panic [{ v, recovered := false }]) a' w') : (Code.region id ops true).wp P Q a w := by
 refine wp_region_any hmix (draw_any hcs hI hrun hC hchk hinv hn ht ops.size (Array.replicate ops.size false) η a _ (by simp) (fun j o hj => ?_) (fun i e hi => ?_) ?_ ?_)
 ·rw [Dn_rep] at hj; cases hj
 ·rw [Dn_rep] at hi; cases hi
 ·rw [List.countP_eq_length.2]
  ·simp
  ·intro k hk; rw [Dn_rep]; rfl
 ·have e1 : tmF es (Dn (Array.replicate ops.size false)) 0 tm = tm := by funext t; exact tmF_none es 0 tm (fun k e _ _ => Dn_rep _ _)
  have e2 : bxF es (Dn (Array.replicate ops.size false)) 0 bx = bx := by funext t; exact bxF_none es 0 bx (fun k e _ _ => Dn_rep _ _)
  rw [e1, e2]
  exact s.below (Below.drew (Below.refl _ _))
end
inductive Lv where
 | norm | exit (id : Nat) | ret | thr (v : Value)
structure RI where
 cs : List (Nat × CI)
 gd : List (Nat × Bool)
 dead : List Nat
structure Way where
 C : Prop
 lv : Lv
 tm : Tm
 bx : Bx
 ks : List Nat
 bs : List Bool
def ancs (ops : List Oper) : List (List Nat) := ops.foldl (fun acc o => acc ++ [(edges o).flatMap fun e => e :: acc.getD e []]) []
def thOf : List Ef → Option Value
 | [] => none
 | e :: es => match e.th with
  | some v => some v
  | none => thOf es
def oneTh (es : List Ef) : Bool := (es.filter (fun e => e.th.isSome)).length ≤ 1
def newKeys (kb n : Nat) : List Nat := (List.range n).flatMap fun m => nk (kb + m)
def runR (P : Program) (tt : TypeId → Option Ty) (N : Nat) (ri : RI) (kb : Nat) (ops : Array Oper) (draw : Bool) (tm : Tm) (bx : Bx) (ks : List Nat) : Option (Prop × RO × List Nat) :=
  if draw then
    match runD P tt ops ri.cs ri.gd ri.dead kb 0 ops.toList tm bx with
    | some (C, es) => if chkD N ops.toList es (ancs ops.toList) ks ri.dead kb bx = true ∧ oneTh es = true then
        match thOf es with
        | some v => some (C, .thr v (fun _ => none) (fun _ => none), ks)
        | none => some (C, .norm (tmF es (fun _ => true) 0 tm) (bxF es (fun _ => true) 0 bx), ks ++ newKeys kb ops.size)
      else none
    | none => none
  else match runL P tt N ops ri.cs ri.gd kb 0 ops.toList tm bx ks with
    | some (C, r) => some (C, r, ks ++ newKeys kb ops.size)
    | none => none
def runC (P : Program) (tt : TypeId → Option Ty) (N : Nat) (rs : List (Nat × RI)) : Code → Tm → Bx → List Nat → List Bool → Option Way
 | .skip, tm, bx, ks, bs => some ⟨True, .norm, tm, bx, ks, bs⟩
 | .label _, tm, bx, ks, bs => some ⟨True, .norm, tm, bx, ks, bs⟩
 | .ret, tm, bx, ks, bs => some ⟨True, .ret, tm, bx, ks, bs⟩
 | .exit id, tm, bx, ks, bs => some ⟨True, .exit id, tm, bx, ks, bs⟩
 | .region id ops draw, tm, bx, ks, bs =>
  match runR P tt N ((rs.lookup id).getD ⟨[], [], []⟩) (1000 * (id + 1)) ops draw tm bx ks with
  | some (C, .norm tm' bx', ks') => some ⟨C, .norm, tm', bx', ks', bs⟩
  | some (C, .thr v tm' bx', ks') => some ⟨C, .thr v, tm', bx', ks', bs⟩
  | none => none
 | .seq x y, tm, bx, ks, bs => match runC P tt N rs x tm bx ks bs with
  | some ⟨C, .norm, tm', bx', ks', bs'⟩ => match runC P tt N rs y tm' bx' ks' bs' with
   | some W => some ⟨C ∧ W.C, W.lv, W.tm, W.bx, W.ks, W.bs⟩
   | none => none
  | some W => some W
  | none => none
 | .cond c x y, tm, bx, ks, bs => match evalA tm c, bs with
  | some (.lit (.bool b)), true :: bs' => match runC P tt N rs x tm bx ks bs' with
   | some W => some ⟨b = true ∧ W.C, W.lv, W.tm, W.bx, W.ks, W.bs⟩
   | none => none
  | some (.lit (.bool b)), false :: bs' => match runC P tt N rs y tm bx ks bs' with
   | some W => some ⟨b = false ∧ W.C, W.lv, W.tm, W.bx, W.ks, W.bs⟩
   | none => none
  | _, _ => none
 | .block id x, tm, bx, ks, bs => match runC P tt N rs x tm bx ks bs with
  | some ⟨C, .exit j, tm', bx', ks', bs'⟩ => if j = id then some ⟨C, .norm, tm', bx', ks', bs'⟩ else some ⟨C, .exit j, tm', bx', ks', bs'⟩
  | some W => some W
  | none => none
 | _, _, _, _, _ => none
def AllCons (P : Program) (I : World → Prop) : List (Nat × RI) → Prop
 | [] => True
 | (_, ri) :: l => Cons P I ri.cs ∧ AllCons P I l
theorem AllCons.of {P : Program} {I : World → Prop} : ∀ {l : List (Nat × RI)} {i : Nat}, AllCons P I l → Cons P I ((l.lookup i).getD ⟨[], [], []⟩).cs
 | [], _, _ => trivial
 | (j, ri) :: l, i, h => by
  simp only [List.lookup]
  split
  exact h.1
  exact AllCons.of h.2
section
variable {P : Program} {I : World → Prop} {w0 : World} {ow : Own} {N : Nat} {tt : TypeId → Option Ty} {rs : List (Nat × RI)}
theorem Inv.more {ks ks' : List Nat} {tm : Tm} {bx : Bx} (h : Inv ks tm bx) : Inv (ks ++ ks') tm bx := by
 have up : ∀ b, ks.contains b = true → (ks ++ ks').contains b = true := fun b hb => by
  have : b ∈ ks := by simpa using hb
  simpa using (.inl this : b ∈ ks ∨ b ∈ ks')
 exact ⟨fun t av ht b hb => up b (h.1 t av ht b hb), fun b B hB b' hb' => up b' (h.2 b B hB b' hb')⟩
theorem newKeys_mem {kb n i k : Nat} (h : i < n) (hk : k ∈ nk (kb + i)) : k ∈ newKeys kb n := by
 simp only [newKeys, List.mem_flatMap, List.mem_range]
 exact ⟨i, h, hk⟩
theorem runL_inv {ops : Array Oper} {cs : List (Nat × CI)} {gd : List (Nat × Bool)} {kb n : Nat} : ∀ (l : List Oper) (i : Nat) (tm : Tm) (bx : Bx) (ks : List Nat) (C : Prop) (tm' : Tm) (bx' : Bx), runL P tt N ops cs gd kb i l tm bx ks = some (C, .norm tm' bx') → i + l.length ≤ n →
    ∀ base, (∀ b, ks.contains b = true → (base ++ newKeys kb n).contains b = true) → Inv ks tm bx → Inv (base ++ newKeys kb n) tm' bx'
  | [], i, tm, bx, ks, C, tm', bx', h, _, base, hb, hinv => by
    simp only [runL, Option.some.injEq, Prod.mk.injEq, RO.norm.injEq] at h
    obtain ⟨_, rfl, rfl⟩ := h
    exact ⟨fun t av ht b hm => hb b (hinv.1 t av ht b hm), fun b B hB b' hm => hb b' (hinv.2 b B hB b' hm)⟩
  | o :: rest, i, tm, bx, ks, C, tm', bx', h, hn, base, hb, hinv => by
    simp only [List.length_cons] at hn
    have hgo : ∀ C', (match opE P tt cs gd (kb + i) i o tm bx with
      | some (E, none) => if effOk (kb + i) ks E = true ∧ dstOk N o = true then
          (runL P tt N ops cs gd kb (i + 1) rest (upd tm o.dst E.val) (updB bx E.del E.ins) (if E.fresh then nk (kb + i) ++ ks else ks)).map fun p => (E.cond ∧ p.1, p.2) else none
      | some (E, some v) => if effOk (kb + i) ks E = true ∧ dstOk N o = true then some (E.cond, RO.thr v (if calB cs i then fun _ => none else tm) (if calB cs i then fun _ => none else bx)) else none
      | none => none) = some (C', .norm tm' bx') → Inv (base ++ newKeys kb n) tm' bx' := by
      intro C' hh
      split at hh
      · rename_i E hE
        split at hh
        · rename_i hc
          simp only [Option.map_eq_some_iff] at hh
          obtain ⟨⟨C2, r2⟩, h2, h3⟩ := hh
          simp only [Prod.mk.injEq] at h3
          obtain ⟨_, rfl⟩ := h3
          refine runL_inv rest (i + 1) _ _ _ C2 tm' bx' h2 (by omega) base (fun b hbb => ?_) (hinv.step hc.1 o.dst)
          split at hbb
          · have hbb' : b ∈ nk (kb + i) ++ ks := by simpa only [List.contains_iff_mem] using hbb
            rcases List.mem_append.1 hbb' with hbb | hbb
            · simp only [List.contains_iff_mem, List.mem_append]
              exact .inr (newKeys_mem (by omega) hbb)
            · exact hb b (by simpa using hbb)
          · exact hb b hbb
        · cases hh
      · split at hh
        · simp at hh
        · cases hh
      · cases hh
    simp only [runL] at h
    split at h
    · exact hgo C h
    · split at h
      · simp only [Option.map_eq_some_iff] at h
        obtain ⟨⟨C2, r2⟩, h2, h3⟩ := h
        simp only [Prod.mk.injEq] at h3
        obtain ⟨_, rfl⟩ := h3
        exact hgo C2 h2
      · split at h
        · simp only [Option.map_eq_some_iff] at h
          obtain ⟨⟨C2, r2⟩, h2, h3⟩ := h
          simp only [Prod.mk.injEq] at h3
          obtain ⟨_, rfl⟩ := h3
          exact runL_inv rest (i + 1) _ _ _ C2 tm' bx' h2 (by omega) base hb (hinv.und o.dst)
        · cases h
      · split at h
        · simp only [Option.map_eq_some_iff] at h
          obtain ⟨⟨C2, r2⟩, h2, h3⟩ := h
          simp only [Prod.mk.injEq] at h3
          obtain ⟨_, rfl⟩ := h3
          exact runL_inv rest (i + 1) _ _ _ C2 tm' bx' h2 (by omega) base hb (hinv.und o.dst)
        · cases h
      · cases h
theorem draw_inv {ops : List Oper} {es : List Ef} {anc : List (List Nat)} {ks dead : List Nat} {kb : Nat} {tm : Tm} {bx : Bx} (hchk : chkD N ops es anc ks dead kb bx = true) (hlen : es.length = ops.length) (hinv : Inv ks tm bx) :
  Inv (ks ++ newKeys kb ops.length) (tmF es (fun _ => true) 0 tm) (bxF es (fun _ => true) 0 bx) := by
 simp only [chkD, Bool.and_eq_true] at hchk
 obtain ⟨⟨⟨⟨⟨⟨_, hanc⟩, _⟩, hment⟩, _⟩, _⟩, _⟩ := hchk
 have up : ∀ (k : Nat) (e : Ef) (b : Nat), es[k]? = some e → b ∈ optKeys e.E.val ++ insKeys e.E.ins → (ks ++ newKeys kb ops.length).contains b = true := by
  intro k e b hk hb
  have hlt : k < ops.length := by have := (List.getElem?_eq_some_iff.1 hk).1; omega
  have h2 := sub_mem (ment_at hment hk).2 hb
  simp only [List.contains_iff_mem, List.mem_append, List.mem_flatMap] at h2 ⊢
  rcases h2 with h2 | ⟨m, hm, hm2⟩
  ·exact .inl h2
  ·right
   have hmn : m < ops.length := by
    rcases List.mem_cons.1 hm with rfl | hm
    ·exact hlt
    ·have := anc_lt hanc k hlt m hm; omega
   exact newKeys_mem hmn hm2
 have h0 := hinv.more (ks' := newKeys kb ops.length)
 refine ⟨fun t av ht b hm => ?_, fun b B hB b' hm => ?_⟩
 ·rcases tmF_val (D := fun _ => true) (t := t) es 0 tm with h1 | ⟨k, e, h1, _, h3⟩
  ·rw [h1] at ht; exact h0.1 t av ht b hm
  ·rw [h3] at ht; exact up k e b h1 (by rw [ht]; exact List.mem_append_left _ (mem_keysA av hm))
 ·rcases bxF_val (D := fun _ => true) es 0 bx hB with h1 | ⟨k, e, h1, _, h3⟩
  ·exact h0.2 b B h1 b' hm
  ·exact up k e b' h1 (List.mem_append_right _ (insKeys_mem h3 (mem_keysB hm)))
theorem thOf_none : ∀ {es : List Ef}, thOf es = none → ∀ e ∈ es, e.th = none
 | [], _, e, he => by simp at he
 | e0 :: es, h, e, he => by
  simp only [thOf] at h
  split at h
  cases h
  rename_i hn
  rcases List.mem_cons.1 he with rfl | he
  exact hn
  exact thOf_none h e he
theorem thOf_some : ∀ {es : List Ef} {v : Value}, thOf es = some v → oneTh es = true → ∀ e ∈ es, ∀ v', e.th = some v' → v' = v
 | [], v, h, _, e, he, _, _ => by simp at he
 | e0 :: es, v, h, ho, e, he, v', hv => by
  simp only [thOf] at h
  split at h
  rename_i v0 h0
  simp only [Option.some.injEq] at h
  subst h
  rcases List.mem_cons.1 he with rfl | he
  rw [h0] at hv; injection hv with hv; exact hv.symm
  exfalso
  unfold oneTh at ho
  simp only [List.filter_cons, h0, Option.isSome_some, if_true, List.length_cons, decide_eq_true_eq] at ho
  have : e ∈ es.filter (fun e => e.th.isSome) := List.mem_filter.2 ⟨he, by rw [hv]; rfl⟩
  have := List.length_pos_of_mem this
  omega
  rename_i hn
  rcases List.mem_cons.1 he with rfl | he
  rw [hn] at hv; cases hv
  refine thOf_some h ?_ e he v' hv
  unfold oneTh at ho ⊢
  simp only [List.filter_cons, hn, Option.isSome_none] at ho
  exact ho
def LvQ (N : Nat) (w0 : World) (ow : Own) (Q : Exit → Act → World → Prop) (W : Way) : Prop :=
 match W.lv with
 | .norm => ∀ η a w, Sim N w0 ow η W.tm W.bx a w → Inv W.ks W.tm W.bx → Q .normal a w
 | .exit id => ∀ η a w, Sim N w0 ow η W.tm W.bx a w → Inv W.ks W.tm W.bx → Q (.exit id) a w
 | .ret => ∀ η a w, Sim N w0 ow η W.tm W.bx a w → Inv W.ks W.tm W.bx → Q .ret a w
 | .thr v => ∀ η a w, Sim N w0 ow η W.tm W.bx a w → Q (.panic [{ v, recovered := false }]) a w
theorem runR_ok (hmix : P.follows .mixedOrders = true) {ri : RI} (hcs : Cons P I ri.cs) (hI : ∀ w', Fr ow w0 w' → I w') {id kb : Nat} {ops : Array Oper} {draw : Bool} {tm : Tm} {bx : Bx} {ks ks' : List Nat} {C : Prop} {r : RO} (h : runR P tt N ri kb ops draw tm bx ks = some (C, r, ks')) (hC : C) (hinv : Inv ks tm bx)
  {η : Nat → Option Value} {a : Act} {w : World} (s : Sim N w0 ow η tm bx a w) {Q : Exit → Act → World → Prop}
  (hn : ∀ tm' bx', r = .norm tm' bx' → Inv ks' tm' bx' → ∀ η' a' w', Sim N w0 ow η' tm' bx' a' w' → Q .normal a' w') (ht : ∀ v tm' bx', r = .thr v tm' bx' → ∀ η' a' w', Sim N w0 ow η' tm' bx' a' w' → Q (.panic [{ v, recovered := false }]) a' w') : (Code.region id ops draw).wp P Q a w := by
 unfold runR at h
 cases draw with
 | true =>
  rw [if_pos rfl] at h
  split at h
  ·rename_i C' es hrun
   split at h
   ·rename_i hc
    have hlen := (fun hC => (runD_at ops.toList 0 tm bx C' es hrun hC).1)
    split at h
    ·rename_i v hv
     simp only [Option.some.injEq, Prod.mk.injEq] at h
     obtain ⟨rfl, rfl, rfl⟩ := h
     refine draw_ok hmix hcs hI hrun hC hc.1 hinv s (fun hall => ?_) (fun e he v' hv' => ?_)
     ·exfalso
      have : ∀ es : List Ef, (∀ e ∈ es, e.th = none) → thOf es = none := by
       intro es; induction es with
       | nil => intro _; rfl
       | cons e es ih => intro h; simp only [thOf, h e (List.mem_cons_self ..)]; exact ih (fun e' he' => h e' (List.mem_cons_of_mem _ he'))
      rw [this es hall] at hv; cases hv
     ·rw [thOf_some hv hc.2 e he v' hv']; exact fun η2 tm2 bx2 a2 w2 hs2 => ht v _ _ rfl η2 a2 w2 (hs2.weaken (fun t x h => by cases h) (fun b B h => by cases h))
    ·rename_i hv
     simp only [Option.some.injEq, Prod.mk.injEq] at h
     obtain ⟨rfl, rfl, rfl⟩ := h
     have hi := draw_inv hc.1 (hlen hC) hinv
     rw [Array.length_toList] at hi
     exact draw_ok hmix hcs hI hrun hC hc.1 hinv s (fun _ => hn _ _ rfl hi) (fun e he v' hv' => by rw [thOf_none hv e he] at hv'; cases hv')
   ·cases h
  ·cases h
 | false =>
  rw [if_neg (by decide)] at h
  split at h
  ·rename_i C' r' hrun
   simp only [Option.some.injEq, Prod.mk.injEq] at h
   obtain ⟨rfl, rfl, rfl⟩ := h
   refine wp_region_list (runL_ok hcs hI ops.toList 0 η tm bx ks a w C' r' hrun hC s hinv (fun tm' bx' hr => ?_) ht)
   subst hr
   refine hn tm' bx' rfl (runL_inv ops.toList 0 tm bx ks C' tm' bx' hrun (by simp) ks (fun b hb => ?_) hinv)
   have : b ∈ ks := by simpa using hb
   simp only [List.contains_iff_mem, List.mem_append]
   exact .inl this
  ·cases h
theorem runC_ok (hmix : P.follows .mixedOrders = true) (hall : AllCons P I rs) (hI : ∀ w', Fr ow w0 w' → I w') : ∀ (c : Code) (tm : Tm) (bx : Bx) (ks : List Nat) (bs : List Bool) (W : Way), runC P tt N rs c tm bx ks bs = some W → W.C → Inv ks tm bx →
  ∀ (η : Nat → Option Value) (a : Act) (w : World) (Q : Exit → Act → World → Prop), Sim N w0 ow η tm bx a w → LvQ N w0 ow Q W → c.wp P Q a w := by
 intro c
 induction c with
 | skip =>
  intro tm bx ks bs W h hC hinv η a w Q s hq
  simp only [runC, Option.some.injEq] at h
  subst h
  exact wp_skip (hq η a w s hinv)
 | label l =>
  intro tm bx ks bs W h hC hinv η a w Q s hq
  simp only [runC, Option.some.injEq] at h
  subst h
  exact wp_label (hq η a w s hinv)
 | ret =>
  intro tm bx ks bs W h hC hinv η a w Q s hq
  simp only [runC, Option.some.injEq] at h
  subst h
  exact wp_ret (hq η a w s hinv)
 | exit id =>
  intro tm bx ks bs W h hC hinv η a w Q s hq
  simp only [runC, Option.some.injEq] at h
  subst h
  exact wp_exit (hq η a w s hinv)
 | region id ops draw =>
  intro tm bx ks bs W h hC hinv η a w Q s hq
  simp only [runC] at h
  split at h
  ·rename_i C tm' bx' ks' hr
   simp only [Option.some.injEq] at h
   subst h
   refine runR_ok hmix hall.of hI hr hC hinv s (fun tm2 bx2 he hi η' a' w' s' => ?_) (fun v _ _ he => by cases he)
   injection he with h1 h2
   subst h1 h2
   exact hq η' a' w' s' hi
  ·rename_i C v tm' bx' ks' hr
   simp only [Option.some.injEq] at h
   subst h
   refine runR_ok hmix hall.of hI hr hC hinv s (fun tm2 bx2 he => by cases he) (fun v' tm2 bx2 he => ?_)
   injection he with h1 h2 h3
   subst h1 h2 h3
   exact hq
  ·cases h
 | seq x y ihx ihy =>
  intro tm bx ks bs W h hC hinv η a w Q s hq
  simp only [runC] at h
  split at h
  ·rename_i C tm' bx' ks' bs' hx
   split at h
   ·rename_i W2 hy
    simp only [Option.some.injEq] at h
    subst h
    refine wp_seq (ihx tm bx ks bs _ hx hC.1 hinv η a w _ s ?_)
    intro η' a' w' s' hi
    refine ihy tm' bx' ks' bs' W2 hy hC.2 hi η' a' w' Q s' ?_
    unfold LvQ at hq ⊢
    exact hq
   ·cases h
  ·rename_i W1 hx hno
   simp only [Option.some.injEq] at h
   subst h
   refine wp_seq (ihx tm bx ks bs _ hno hC hinv η a w _ s ?_)
   unfold LvQ at hq ⊢
   split at hq
   ·rename_i hlv
    exfalso
    obtain ⟨c0, l0, t0, b0, k0, s0⟩ := W1
    simp only at hlv
    subst hlv
    exact hx _ _ _ _ _ rfl
   ·exact hq
   ·exact hq
   ·exact hq
  ·cases h
 | cond c x y ihx ihy =>
  intro tm bx ks bs W h hC hinv η a w Q s hq
  simp only [runC] at h
  split at h
  ·rename_i b bs' hc
   split at h
   ·rename_i W2 hx
    simp only [Option.some.injEq] at h
    subst h
    have hv := (s.ev hc).lit_inv
    refine wp_cond hv ?_
    rw [if_pos hC.1]
    refine ihx tm bx ks bs' W2 hx hC.2 hinv η a w Q s ?_
    unfold LvQ at hq ⊢; exact hq
   ·cases h
  ·rename_i b bs' hc
   split at h
   ·rename_i W2 hx
    simp only [Option.some.injEq] at h
    subst h
    have hv := (s.ev hc).lit_inv
    refine wp_cond hv ?_
    rw [if_neg (by rw [hC.1]; decide)]
    refine ihy tm bx ks bs' W2 hx hC.2 hinv η a w Q s ?_
    unfold LvQ at hq ⊢; exact hq
   ·cases h
  ·cases h
 | block id x ih =>
  intro tm bx ks bs W h hC hinv η a w Q s hq
  simp only [runC] at h
  split at h
  ·rename_i C j tm' bx' ks' bs' hx
   split at h
   ·rename_i hj
    simp only [Option.some.injEq] at h
    subst h hj
    refine wp_block (ih tm bx ks bs _ hx hC hinv η a w _ s ?_)
    intro η' a' w' s' hi
    simp only [Exit.inBlock, if_true]
    exact hq η' a' w' s' hi
   ·rename_i hj
    simp only [Option.some.injEq] at h
    subst h
    refine wp_block (ih tm bx ks bs _ hx hC hinv η a w _ s ?_)
    intro η' a' w' s' hi
    simp only [Exit.inBlock, if_neg hj]
    exact hq η' a' w' s' hi
  ·rename_i W1 hx hno
   simp only [Option.some.injEq] at h
   subst h
   refine wp_block (ih tm bx ks bs _ hno hC hinv η a w _ s ?_)
   unfold LvQ at hq ⊢
   split at hq
   ·exact hq
   ·rename_i id' hlv
    exfalso
    obtain ⟨c0, l0, t0, b0, k0, s0⟩ := W1
    simp only at hlv
    subst hlv
    exact hx _ _ _ _ _ _ rfl
   ·exact hq
   ·exact hq
  ·cases h
 | _ =>
  intro tm bx ks bs W h
  simp [runC] at h
end
abbrev TL := List (Nat × AV)
def keysT : TL → List Nat
 | [] => []
 | (_, v) :: l => keysA v ++ keysT l
def keysBL : BL → List Nat
 | [] => []
 | (_, B) :: l => keysB B ++ keysBL l
theorem keysT_mem : ∀ {T : TL} {t : Nat} {v : AV} {b : Nat}, (t, v) ∈ T → b ∈ keysA v → b ∈ keysT T
 | [], _, _, _, h, _ => by simp at h
 | (k, y) :: l, t, v, b, h, hb => by
  simp only [keysT, List.mem_append]
  rcases List.mem_cons.1 h with h | h
  injection h with h1 h2; subst h2; exact .inl hb
  exact .inr (keysT_mem h hb)
theorem keysBL_mem : ∀ {T : BL} {t : Nat} {v : Box} {b : Nat}, (t, v) ∈ T → b ∈ keysB v → b ∈ keysBL T
 | [], _, _, _, h, _ => by simp at h
 | (k, y) :: l, t, v, b, h, hb => by
  simp only [keysBL, List.mem_append]
  rcases List.mem_cons.1 h with h | h
  injection h with h1 h2; subst h2; exact .inl hb
  exact .inr (keysBL_mem h hb)
def ksOf (T : TL) (B : BL) : List Nat := keysT T ++ keysBL B
theorem inv_of (T : TL) (B : BL) : Inv (ksOf T B) (lkp T) (lkp B) := by
 refine ⟨fun t av ht b hb => ?_, fun b B' hB b' hb => ?_⟩
 have := keysT_mem (lkp_mem ht) (mem_keysA av hb)
 simp only [ksOf, List.contains_iff_mem, List.mem_append]; exact .inl this
 have := keysBL_mem (lkp_mem hB) (mem_keysB hb)
 simp only [ksOf, List.contains_iff_mem, List.mem_append]; exact .inr this
def SimL (N : Nat) (w0 : World) (ow : Own) (T : TL) (B : BL) (a : Act) (w : World) : Prop := ∃ η, Sim N w0 ow η (lkp T) (lkp B) a w
def proj {α : Type} (f : Nat → Option α) : List Nat → List (Nat × α)
 | [] => []
 | t :: l => match f t with
  | some x => (t, x) :: proj f l
  | none => proj f l
theorem lkp_proj {α : Type} {f : Nat → Option α} : ∀ {l : List Nat} {t : Nat} {x : α}, lkp (proj f l) t = some x → f t = some x
 | [], _, _, h => by cases h
 | k :: l, t, x, h => by
  simp only [proj] at h
  split at h
  rename_i y hy
  simp only [lkp] at h
  split at h
  rename_i e; subst e; rw [hy]; exact h
  exact lkp_proj h
  exact lkp_proj h
def projC (P : Program) (tt : TypeId → Option Ty) (N : Nat) (rs : List (Nat × RI)) (c : Code) (T : TL) (B : BL) (bs : List Bool) (tk bk : List Nat) : Option (Prop × Lv × TL × BL) :=
 match runC P tt N rs c (lkp T) (lkp B) (ksOf T B) bs with
 | some W => some (W.C, W.lv, proj W.tm tk, proj W.bx bk)
 | none => none
def tr : Nat → Prop → Prop
 | 0, p => p
 | n + 1, p => True ∧ tr n p
def LvL (N : Nat) (w0 : World) (ow : Own) (Q : Exit → Act → World → Prop) (lv : Lv) (T : TL) (B : BL) : Prop :=
 match lv with
 | .norm => ∀ a w, SimL N w0 ow T B a w → Q .normal a w
 | .exit id => ∀ a w, SimL N w0 ow T B a w → Q (.exit id) a w
 | .ret => ∀ a w, SimL N w0 ow T B a w → Q .ret a w
 | .thr v => ∀ a w, SimL N w0 ow T B a w → Q (.panic [{ v, recovered := false }]) a w
section
variable {P : Program} {I : World → Prop} {w0 : World} {ow : Own} {N : Nat} {tt : TypeId → Option Ty} {rs : List (Nat × RI)} {T T' : TL} {B B' : BL} {a : Act} {w : World} {Q : Exit → Act → World → Prop}
theorem way_L (hmix : P.follows .mixedOrders = true) (hI : ∀ w', Fr ow w0 w' → I w') {c : Code} {bs : List Bool} {tk bk : List Nat} {C : Prop} {lv : Lv} (hs : SimL N w0 ow T B a w) (hall : AllCons P I rs) (he : projC P tt N rs c T B bs tk bk = some (C, lv, T', B')) (hC : C) (hq : LvL N w0 ow Q lv T' B') : c.wp P Q a w := by
 obtain ⟨η, s⟩ := hs
 unfold projC at he
 split at he
 rename_i W hW
 simp only [Option.some.injEq, Prod.mk.injEq] at he
 obtain ⟨rfl, rfl, rfl, rfl⟩ := he
 refine runC_ok hmix hall hI c _ _ _ bs W hW hC (inv_of T B) η a w Q s ?_
 unfold LvL at hq
 unfold LvQ
 split at hq
 rename_i hlv
 try rw [hlv]
 exact fun η a w s _ => hq a w ⟨η, s.weaken (fun t x h => lkp_proj h) (fun b x h => lkp_proj h)⟩
 rename_i id hlv
 try rw [hlv]
 exact fun η a w s _ => hq a w ⟨η, s.weaken (fun t x h => lkp_proj h) (fun b x h => lkp_proj h)⟩
 rename_i hlv
 try rw [hlv]
 exact fun η a w s _ => hq a w ⟨η, s.weaken (fun t x h => lkp_proj h) (fun b x h => lkp_proj h)⟩
 rename_i v hlv
 try rw [hlv]
 exact fun η a w s => hq a w ⟨η, s.weaken (fun t x h => lkp_proj h) (fun b x h => lkp_proj h)⟩
 cases he
theorem loop_L {c : Code} {α : Type} (S : α → TL) (SB : α → BL) (J : α → Prop) (m : α → Nat) (p0 : α) (h0 : J p0) (hs : SimL N w0 ow (S p0) (SB p0) a w)
  (round : ∀ p, J p → ∀ a w, SimL N w0 ow (S p) (SB p) a w → c.wp P (Exit.then (fun a' w' => ∃ p', J p' ∧ m p' < m p ∧ SimL N w0 ow (S p') (SB p') a' w') Q) a w) : (Code.loop c).wp P Q a w := by
 have key : ∀ n p, m p = n → J p → ∀ a w, SimL N w0 ow (S p) (SB p) a w → ∀ (b : Frame) (k : List Item) (cs : List Frame), ∃ e a' w', Q e a' w' ∧ Arrives P (lone (b.at a (.code c :: .inLoop c :: k)) cs w) b k cs e a' w' := by
  intro n
  induction n using Nat.strongRecOn with
  | _ n ih =>
   intro p hn hJ a w hs b k cs
   obtain ⟨e, a₁, w₁, hq, harr⟩ := round p hJ a w hs b (.inLoop c :: k) cs
   cases e with
   | normal =>
    obtain ⟨p', hJ', hlt, hs'⟩ := hq
    obtain ⟨e₂, a₂, w₂, hq₂, harr₂⟩ := ih (m p') (hn ▸ hlt) p' rfl hJ' a₁ w₁ hs' b k cs
    exact ⟨e₂, a₂, w₂, hq₂, .of_steps (Steps.trans harr (.one step_inLoop)) harr₂⟩
   | exit id => exact ⟨_, a₁, w₁, hq, .pass (x := .inLoop c) rfl (fun _ _ => .inl (by simp)) harr⟩
   | goto l => exact ⟨_, a₁, w₁, hq, .pass (x := .inLoop c) rfl (fun _ _ => .inl (by simp)) harr⟩
   | ret => exact ⟨_, a₁, w₁, hq, .pass (x := .inLoop c) rfl (fun _ _ => .inl (by simp)) harr⟩
   | panic ch => exact ⟨_, a₁, w₁, hq, .pass (x := .inLoop c) rfl (fun _ _ => .inl (by simp)) harr⟩
   | outgrown => exact ⟨_, a₁, w₁, hq, .pass (x := .inLoop c) rfl (fun _ _ => .inl (by simp)) harr⟩
 intro b k cs
 obtain ⟨e, a', w', hq, harr⟩ := key _ p0 rfl h0 a w hs b k cs
 exact ⟨e, a', w', hq, .of_steps (.one step_loop) harr⟩
def rnη (ρ : List (Nat × Nat)) (η : Nat → Option Value) (b : Nat) : Option Value := match lkp ρ b with
 | some c => η c
 | none => none
theorem R_rn1 {ρ : List (Nat × Nat)} {fz fz' : Nat → Prop} {η : Nat → Option Value} {v : Value} {x : AV} (hf : ∀ k, fz k → k < w.heap.size → fz' k) (hp : plain1 ρ x = true) (h : R w fz η v (rn1 ρ x)) : R w fz' (rnη ρ η) v x := by
 have st : ∀ y, keysA y = [] → R w fz η v y → R w fz' (rnη ρ η) v y := fun y hk h => h.step (Nat.le_refl _) (fun _ _ _ => rfl) hf (fun b u hb _ => by rw [ment_none hk] at hb; cases hb)
 have lk : ∀ b, (lkp ρ b).isSome = true → rnη ρ η b = η (rnk ρ b) := fun b hb => by
  obtain ⟨c, hc⟩ := Option.isSome_iff_exists.1 hb
  simp [rnη, rnk, hc]
 cases x with
 | own b => exact .own _ _ (fun u hu => h.own_inv (by rw [lk b hp] at hu; exact hu))
 | ptr b off => exact .ptr _ _ _ (fun u hu => h.ptr_inv (by rw [lk b hp] at hu; exact hu))
 | op τ b i off => exact .op _ _ _ _ _ (fun u hu => h.op_inv (by rw [lk b hp] at hu; exact hu))
 | ot τ b lo => exact .ot _ _ _ _ (fun u hu => h.ot_inv (by rw [lk b hp] at hu; exact hu))
 | agg l => simp [plain1] at hp
 | tup l => simp [plain1] at hp
 | clo f l => simp [plain1] at hp
 | _ => exact st _ rfl h
theorem R_rn {ρ : List (Nat × Nat)} {fz fz' : Nat → Prop} {η : Nat → Option Value} {v : Value} {x : AV} (hf : ∀ k, fz k → k < w.heap.size → fz' k) (hp : plain ρ x = true) (h : R w fz η v (rn ρ x)) : R w fz' (rnη ρ η) v x := by
 have elems : ∀ (vs : Array Value) (l : List AV), l.all (plain1 ρ) = true → (∀ (j : Nat) u y, vs[j]? = some u → (l.map (rn1 ρ))[j]? = some y → R w fz η u y) → ∀ (j : Nat) u y, vs[j]? = some u → l[j]? = some y → R w fz' (rnη ρ η) u y := fun vs l hl hR j u y hu hy =>
  R_rn1 hf (List.all_eq_true.1 hl y (List.mem_of_getElem? hy)) (hR j u _ hu (by rw [List.getElem?_map, hy]; rfl))
 cases x with
 | agg l => obtain ⟨vs, rfl, h1, h2⟩ := R.agg_inv h; exact .agg _ _ (by simpa using h1) (elems vs l hp h2)
 | tup l => obtain ⟨vs, rfl, h1, h2⟩ := R.tup_inv h; exact .tup _ _ (by simpa using h1) (elems vs l hp h2)
 | clo f l => obtain ⟨vs, rfl, h1, h2⟩ := R.clo_inv h; exact .clo _ _ _ (by simpa using h1) (elems vs l hp h2)
 | _ => exact R_rn1 hf hp h
def renOk (ρ : List (Nat × Nat)) (T' : TL) (B' : BL) : Bool := injOk ρ && ρ.all (fun p => decide (1000 ≤ p.1) || p.1 == p.2) && T'.all (fun p => plain ρ p.2) && B'.all (fun p => (lkp ρ p.1).isSome && plainB ρ p.2)
theorem SimL.ren (hs : SimL N w0 ow T B a w) (ρ : List (Nat × Nat)) (hok : renOk ρ T' B' = true) (hT : T'.map (fun p => lkp T p.1) = T'.map (fun p => some (rn ρ p.2))) (hB : B'.map (fun p => lkp B (rnk ρ p.1)) = B'.map (fun p => some (rnB ρ p.2))) : SimL N w0 ow T' B' a w := by
 obtain ⟨η, s⟩ := hs
 simp only [renOk, Bool.and_eq_true] at hok
 obtain ⟨⟨⟨h1, h4⟩, h2⟩, h3⟩ := hok
 have hinj : (ρ.map (·.2)).Nodup := by simpa [injOk] using h1
 have map_at : ∀ {α β : Type} (l : List (Nat × α)) (f g : Nat × α → β), l.map f = l.map g → ∀ p ∈ l, f p = g p := fun l f g h p hp => by
  induction l with
  | nil => simp at hp
  | cons q l ih =>
   simp only [List.map_cons, List.cons.injEq] at h
   rcases List.mem_cons.1 hp with rfl | hp
   ·exact h.1
   ·exact ih h.2 hp
 have sub : ∀ b u, rnη ρ η b = some u → ∃ c, lkp ρ b = some c ∧ η c = some u := fun b u h => by
  simp only [rnη] at h
  split at h
  ·rename_i c hc; exact ⟨c, hc, h⟩
  ·cases h
 have hf : ∀ k, Fz (Amb w0 ow) η k → k < w.heap.size → Fz (Amb w0 ow) (rnη ρ η) k := fun k hk _ => ⟨hk.1, fun b u hb => by
  obtain ⟨c, _, hc⟩ := sub b u hb
  exact hk.2 c u hc⟩
 refine ⟨rnη ρ η, s.size, s.nod, s.frame, fun t av ht => ?_, fun b Bx hBx => ?_, fun b u k hb hk => ?_, fun b b' u u' k hb hb' hk hk' => ?_, fun b u u' hp hb => ?_, s.pinlt⟩
 ·have hm := lkp_mem ht
  have he := map_at T' _ _ hT (t, av) hm
  obtain ⟨v, hv, hr⟩ := s.tmp t _ he
  exact ⟨v, hv, R_rn hf (List.all_eq_true.1 h2 (t, av) hm) hr⟩
 ·have hm := lkp_mem hBx
  have he := map_at B' _ _ hB (b, Bx) hm
  have hp := List.all_eq_true.1 h3 (b, Bx) hm
  simp only [Bool.and_eq_true] at hp
  obtain ⟨c, hc⟩ := Option.isSome_iff_exists.1 hp.1
  have hrk : rnk ρ b = c := by simp [rnk, hc]
  simp only [hrk] at he
  obtain ⟨u, hu, hr⟩ := s.dom c _ he
  refine ⟨u, by simp [rnη, hc, hu], ?_⟩
  cases Bx with
  | any => exact hr
  | var l =>
   obtain ⟨g, C, e, rfl, q1, q2, q3⟩ := hr
   refine ⟨g, C, e, rfl, q1, by simpa using q2, fun j v x hv hx => ?_⟩
   exact R_rn1 hf (List.all_eq_true.1 hp.2 x (List.mem_of_getElem? hx)) (q3 j v _ hv (by rw [List.getElem?_map, hx]; rfl))
  | sl e τ xs =>
   obtain ⟨cs, q1, q2⟩ := hr
   refine ⟨cs, q1, fun i x j y hx hy => ?_⟩
   obtain ⟨v, hv, hr⟩ := q2 i x j y hx hy
   exact ⟨v, hv, hr.step (Nat.le_refl _) (fun _ _ _ => rfl) hf (fun b u hb _ => by rw [enc_ment' hy] at hb; cases hb)⟩
  | full e τ xs =>
   obtain ⟨⟨cs, q1, q2⟩, qc⟩ := hr
   refine ⟨⟨cs, q1, fun i x j y hx hy => ?_⟩, qc⟩
   obtain ⟨v, hv, hr⟩ := q2 i x j y hx hy
   exact ⟨v, hv, hr.step (Nat.le_refl _) (fun _ _ _ => rfl) hf (fun b u hb _ => by rw [enc_ment' hy] at hb; cases hb)⟩
 ·obtain ⟨c, _, hc⟩ := sub b u hb
  exact s.new c u k hc hk
 ·obtain ⟨c, hbc, hc⟩ := sub b u hb
  obtain ⟨c', hbc', hc'⟩ := sub b' u' hb'
  have := s.apart c c' u u' k hc hc' hk hk'
  subst this
  exact nodup_inj hinj hbc hbc'
 ·obtain ⟨c, hbc, hc⟩ := sub b u' hb
  have hlt := s.pinlt b u hp
  have h5 := List.all_eq_true.1 h4 (b, c) (lkp_mem hbc)
  simp only [Bool.or_eq_true, decide_eq_true_eq, beq_iff_eq] at h5
  rcases h5 with h5 | rfl
  ·omega
  ·exact s.pin b u u' hp hc
end
end Go.Proofs.YtfimffgfnhplkaaGreatDoor.F
