import Derived.Test.YtondpnipoogoiaaGreatDoorE11
import Derived.Test.YtondpnipoogoiaaGreatDoorE9
import Derived.Test.YtondpnipoogoiaaGreatDoorE7
import Derived.Laws.RangeString
import Derived.Test.YtondpnipoogoiaaGreatDoorE8
import Derived.Test.YtondpnipoogoiaaGreatDoorE6
set_option maxRecDepth 100000
set_option linter.unusedVariables false
set_option linter.unusedSimpArgs false
namespace Go.Proofs.YtondpnipoogoiaaGreatDoor.F
open Go Go.RowKit
def isLit : AV → Bool
 | .lit _ => true
 | _ => false
def isJunk : AV → Bool
 | .junk => true
 | _ => false
def biOk (bi B : BL) : Bool := bi.all fun p => match p.2, lkp B (900 + p.1) with
 | .var l, some (.var m) => l.all isJunk && m.length == l.length
 | _, _ => false
def boOk (n : Nat) (bo : BL) : Bool := bo.all fun p => decide (p.1 < n) && (match p.2 with
 | .var l => l.all isLit
 | _ => false)
def up9 (bo : BL) : BL := bo.map fun p => (900 + p.1, p.2)
def isPtr9 (n : Nat) : AV → Bool
 | .ptr b _ => decide (900 ≤ b) && decide (b < 900 + n)
 | _ => false
theorem lkp_up9 : ∀ {bo : BL} {b : Nat} {X : Box}, lkp (up9 bo) b = some X → 900 ≤ b ∧ lkp bo (b - 900) = some X
 | [], b, X, h => by cases h
 | (i, Y) :: bo, b, X, h => by
  simp only [up9, List.map_cons, lkp] at h
  split at h
  rename_i e
  subst e
  refine ⟨by omega, ?_⟩
  simp only [lkp]
  rw [if_pos (by omega)]; exact h
  rename_i e
  obtain ⟨h1, h2⟩ := lkp_up9 (bo := bo) h
  refine ⟨h1, ?_⟩
  simp only [lkp]
  rw [if_neg (by omega)]; exact h2
section
variable {P : Program} {I : World → Prop} {w w' w0 : World} {fz : Nat → Prop} {N : Nat} {T : TL} {B : BL} {a : Act} {ow : Own}
theorem ret_core {fn : Func} {out : COut} (del : List Nat) (hs : SimL N w0 ow T B a w) (ho : ∀ k, ¬ ow.o k) (h : retOk P fn T B del out) : ∃ v, (results fn a.tmps).run P w = .ok v w ∧ Post w0 ow.f w (.returned v) out ∧ Below w0.heap.size w0 w := by
 obtain ⟨η, s⟩ := hs
 have hbel : Below w0.heap.size w0 w := s.frame.below ho
 have amb : ∀ k, Amb w0 ow k → ow.f k ∨ w0.heap.size ≤ k := fun k hk => by
  rcases hk with h | h | h
  exact .inl h
  exact (ho k h).elim
  exact .inr h
 cases out with
 | val r =>
  obtain ⟨h1, h2⟩ := h
  rw [Option.map_eq_some_iff] at h1
  obtain ⟨x, hx, hr⟩ := h1
  obtain ⟨v, hrun, hR⟩ := resA_ok s hx
  refine ⟨v, hrun, ⟨v, rfl, ?_⟩, hbel⟩
  have h3 := R_fit2 (b := r) (R_frz2 s hR del)
  rw [hr] at h3
  exact h3.step (Nat.le_refl _) (fun _ _ _ => rfl) (fun k hk _ => amb k hk.1) (fun b u hb _ => by rw [ment_none h2] at hb; cases hb)
 | own e τ xs =>
  rcases h with ⟨b, h1, h2⟩ | ⟨h1, rfl⟩
  obtain ⟨v, hrun, hR⟩ := resA_ok s h1
  obtain ⟨u, hu, cs, q1, q2⟩ := s.dom b _ h2
  have hv := hR.own_inv hu
  subst hv
  refine ⟨v, hrun, ⟨v, rfl, fun k hk => ?_, cs, q1, fun i x j y hx hy => ?_⟩, hbel⟩
  obtain ⟨h3, h4⟩ := s.new b v k hu hk
  exact ⟨h4.resolve_right (ho k), h3⟩
  obtain ⟨vv, h3, h4⟩ := q2 i x j y hx hy
  exact ⟨vv, h3, h4.step (Nat.le_refl _) (fun _ _ _ => rfl) (fun k hk _ => ⟨amb k hk.1, fun he => hk.2 b v hu he⟩) (fun b u hb _ => by rw [enc_ment' hy] at hb; cases hb)⟩
  obtain ⟨v, hrun, hR⟩ := resA_ok s h1
  have hv := hR.lit_inv
  subst hv
  exact ⟨_, hrun, ⟨_, rfl, fun k hk => by simp [blk] at hk, [], World.ownsRow_nil w 0 e _, fun i x j y hx => by simp at hx⟩, hbel⟩
 | thr v => exact h.elim
theorem SimL.ren0 {T' : TL} {B' : BL} (hs : SimL N w0 (noO fz) T B a w) (ρ : List (Nat × Nat)) (hok : (injOk ρ && T'.all (fun p => plain ρ p.2) && B'.all (fun p => (lkp ρ p.1).isSome && plainB ρ p.2)) = true) (hT : T'.map (fun p => lkp T p.1) = T'.map (fun p => some (rn ρ p.2))) (hB : B'.map (fun p => lkp B (rnk ρ p.1)) = B'.map (fun p => some (rnB ρ p.2))) : SimL N w0 (noO fz) T' B' a w := by
 obtain ⟨η, s⟩ := hs
 simp only [Bool.and_eq_true] at hok
 obtain ⟨⟨h1, h2⟩, h3⟩ := hok
 have hinj : (ρ.map (·.2)).Nodup := by simpa [injOk] using h1
 have map_at : ∀ {α β : Type} (l : List (Nat × α)) (f g : Nat × α → β), l.map f = l.map g → ∀ p ∈ l, f p = g p := fun l f g h p hp => by
  induction l with
  | nil => simp at hp
  | cons q l ih =>
   simp only [List.map_cons, List.cons.injEq] at h
   rcases List.mem_cons.1 hp with rfl | hp
   ·exact h.1
   ·exact ih h.2 hp
 have sub : ∀ b u, rnη ρ η b = some u → ∃ c, lkp ρ b = some c ∧ η c = some u := fun b u h => by
  simp only [rnη] at h
  split at h
  ·rename_i c hc; exact ⟨c, hc, h⟩
  ·cases h
 have hf : ∀ k, Fz (Amb w0 (noO fz)) η k → k < w.heap.size → Fz (Amb w0 (noO fz)) (rnη ρ η) k := fun k hk _ => ⟨hk.1, fun b u hb => by
  obtain ⟨c, _, hc⟩ := sub b u hb
  exact hk.2 c u hc⟩
 refine ⟨rnη ρ η, s.size, s.nod, s.frame, fun t av ht => ?_, fun b Bx hBx => ?_, fun b u k hb hk => ?_, fun b b' u u' k hb hb' hk hk' => ?_, (fun b u u' hp hb => by cases hp), s.pinlt⟩
 ·have hm := lkp_mem ht
  have he := map_at T' _ _ hT (t, av) hm
  obtain ⟨v, hv, hr⟩ := s.tmp t _ he
  exact ⟨v, hv, R_rn hf (List.all_eq_true.1 h2 (t, av) hm) hr⟩
 ·have hm := lkp_mem hBx
  have he := map_at B' _ _ hB (b, Bx) hm
  have hp := List.all_eq_true.1 h3 (b, Bx) hm
  simp only [Bool.and_eq_true] at hp
  obtain ⟨c, hc⟩ := Option.isSome_iff_exists.1 hp.1
  have hrk : rnk ρ b = c := by simp [rnk, hc]
  simp only [hrk] at he
  obtain ⟨u, hu, hr⟩ := s.dom c _ he
  refine ⟨u, by simp [rnη, hc, hu], ?_⟩
  cases Bx with
  | any => exact hr
  | var l =>
   obtain ⟨g, C, e, rfl, q1, q2, q3⟩ := hr
   refine ⟨g, C, e, rfl, q1, by simpa using q2, fun j v x hv hx => ?_⟩
   exact R_rn1 hf (List.all_eq_true.1 hp.2 x (List.mem_of_getElem? hx)) (q3 j v _ hv (by rw [List.getElem?_map, hx]; rfl))
  | sl e τ xs =>
   obtain ⟨cs, q1, q2⟩ := hr
   refine ⟨cs, q1, fun i x j y hx hy => ?_⟩
   obtain ⟨v, hv, hr⟩ := q2 i x j y hx hy
   exact ⟨v, hv, hr.step (Nat.le_refl _) (fun _ _ _ => rfl) hf (fun b u hb _ => by rw [enc_ment' hy] at hb; cases hb)⟩
  | full e τ xs =>
   obtain ⟨⟨cs, q1, q2⟩, qc⟩ := hr
   refine ⟨⟨cs, q1, fun i x j y hx hy => ?_⟩, qc⟩
   obtain ⟨v, hv, hr⟩ := q2 i x j y hx hy
   exact ⟨v, hv, hr.step (Nat.le_refl _) (fun _ _ _ => rfl) hf (fun b u hb _ => by rw [enc_ment' hy] at hb; cases hb)⟩
 ·obtain ⟨c, _, hc⟩ := sub b u hb
  exact s.new c u k hc hk
 ·obtain ⟨c, hbc, hc⟩ := sub b u hb
  obtain ⟨c', hbc', hc'⟩ := sub b' u' hb'
  have := s.apart c c' u u' k hc hc' hk hk'
  subst this
  exact nodup_inj hinj hbc hbc'
theorem SimL.defer {d : Deferred} {us : List Value} {a' : Act} (hs : SimL N w0 (noO fz) T B a w) (n : Nat) (hn : us.length = n) (hu : ∀ i, i < n → ∃ x u, lkp T x = some (.ptr (900 + i) 0) ∧ us[i]? = some u ∧ a.tmps[x]? = some u) (hB : (List.range n).all (fun i => match lkp B (900 + i) with | some (.var _) => true | _ => false) = true)
  (hsz : a'.tmps.size = a.tmps.size) (hd : a'.defers = [d]) (ht : ∀ t av, lkp T t = some av → a'.tmps[t]? = a.tmps[t]?) : SimL N w0 (dO fz us d) T B a' w := by
 obtain ⟨η, s⟩ := hs
 have key : ∀ i, i < n → ∃ u, us[i]? = some u ∧ η (900 + i) = some u := fun i hi => by
  obtain ⟨x, u, hx, h1, h2⟩ := hu i hi
  have h3 := List.all_eq_true.1 hB i (by simp [hi])
  split at h3
  ·rename_i l hl
   obtain ⟨u', hu', g, C, e, rfl, _⟩ := s.dom _ _ hl
   obtain ⟨v, hv, hr⟩ := s.tmp x _ hx
   obtain ⟨g', hg, rfl⟩ := hr.ptr_inv hu'
   rw [h2] at hv
   injection hv with hv
   injection hg with hg
   injection hg with hg
   injection hg with hg
   subst hg hv
   exact ⟨_, h1, hu'⟩
  ·cases h3
 refine ⟨η, hsz.trans s.size, hd, ⟨s.frame.os, s.frame.tape, s.frame.output, s.frame.size, s.frame.block⟩, fun t av h => ?_, s.dom, s.new, s.apart, fun b u u' hp hb => ?_, fun b u hp => ?_⟩
 ·obtain ⟨v, hv, hr⟩ := s.tmp t av h
  exact ⟨v, by rw [ht t av h]; exact hv, hr⟩
 ·simp only [dO] at hp
  split at hp
  ·rename_i hb9
   have hlt : b - 900 < n := by have := (List.getElem?_eq_some_iff.1 hp).1; omega
   obtain ⟨u2, h1, h2⟩ := key (b - 900) hlt
   rw [show 900 + (b - 900) = b by omega, hb] at h2
   rw [hp] at h1
   injection h1 with h1
   injection h2 with h2
   rw [h1, h2]
  ·cases hp
 ·simp only [dO] at hp
  split at hp
  ·rename_i hb9; exact hb9.2
  ·cases hp
theorem defer_L {id t6 : Nat} {o1 o2 : Oper} {f : FuncId} {tys : Array TypeId} {Q : Exit → Act → World → Prop} (xs : List Nat) (hs : SimL N w0 (noO fz) T B a w) (hent : Ent P f) (h1 : o1.op = .makeFunc (.func f) #[] (xs.map Operand.tmp).toArray) (d1 : o1.dst = some t6) (g1 : o1.guard = none) (h2 : o2.op = .defer { callee := .value (.tmp t6), args := #[], argTypes := tys }) (d2 : o2.dst = none) (g2 : o2.guard = none)
  (h6 : t6 < N) (hx : xs.map (fun x => lkp T x) = (List.range xs.length).map (fun i => some (.ptr (900 + i) 0))) (hB : (List.range xs.length).all (fun i => match lkp B (900 + i) with | some (.var _) => true | _ => false) = true) (hT6 : lkp T t6 = none)
  (h : ∀ us d a, us.length = xs.length → DefOk P f us d → SimL N w0 (dO fz us d) T B a w → Q .normal a w) : (Code.region id #[o1, o2] false).wp P Q a w := by
 have hsz : a.tmps.size = N := by obtain ⟨η, s⟩ := hs; exact s.size
 have hnod : a.defers = [] := by obtain ⟨η, s⟩ := hs; exact s.nod
 refine wp_region_list ?_
 show wpList P #[o1, o2] Q [o1, o2] a w
 obtain ⟨us, hus⟩ : ∃ us, us = xs.map (fun x => a.eval (.tmp x)) := ⟨_, rfl⟩
 have e1 : (execOp a.eval o1).run P w = .ok (.value (.func (.func f) #[] us.toArray)) w := by
  simp [execOp, h1, Instr.makeFunc, hus, Function.comp_def]
 rw [wpList, if_pos (by simp [Region.wanted, g1])]
 refine .inl ?_
 unfold Oper.wp
 rw [e1]
 simp only [Oper.upon, d1]
 have hv : (a.put (some t6) (.func (.func f) #[] us.toArray)).eval (.tmp t6) = .func (.func f) #[] us.toArray := by simp [Act.eval, Act.put, hsz, h6]
 have e2 : (execOp (a.put (some t6) (.func (.func f) #[] us.toArray)).eval o2).run P w = .ok (.defer { target := .fn (.func f) us.toArray, args := #[] }) w := by
  simp [execOp, h2, resolve, hv, Deferred.ofValue]
 rw [wpList, if_pos (by simp [Region.wanted, g2])]
 refine .inl ?_
 unfold Oper.wp
 rw [e2]
 simp only [Oper.upon, d2]
 rw [wpList]
 have he := hent
 have hlen : us.length = xs.length := by rw [hus, List.length_map]
 refine h us { target := .fn (.func f) us.toArray, args := #[] } _ hlen ⟨⟨_, _, rfl⟩, fun w => by have := hent us.toArray w; simp [invoke, this]⟩ (hs.defer xs.length hlen (fun i hi => ?_) hB ?_ ?_ ?_)
 ·have hxi : xs[i]? = some xs[i] := List.getElem?_eq_getElem hi
  have h5 : (xs.map (fun x => lkp T x))[i]? = some (lkp T xs[i]) := by rw [List.getElem?_map, hxi]; rfl
  rw [hx, List.getElem?_map, List.getElem?_range hi] at h5
  simp only [Option.map_some, Option.some.injEq] at h5
  obtain ⟨η, s⟩ := hs
  obtain ⟨v, hv2, _⟩ := s.tmp _ _ h5.symm
  refine ⟨xs[i], v, h5.symm, ?_, hv2⟩
  rw [hus, List.getElem?_map, hxi]
  simp [Act.eval, hv2]
 ·simp [Act.put]
 ·simp [Act.put, hnod]
 ·intro t av ht
  have hne : t6 ≠ t := fun e => by rw [e, ht] at hT6; cases hT6
  simp only [Act.put]
  rw [Array.getElem?_setIfInBounds_ne hne]
theorem ret_okD {fn : Func} {f : FuncId} {us : List Value} {d : Deferred} {out : COut} (del : List Nat) (hs : SimL N w0 (dO fz us d) T B a w) (n : Nat) (hn : us.length = n) (hd : DefOk P f us d) (hi : CloI P I f n) (hI : ∀ w', Fr (dO fz us d) w0 w' → I w') (h : retOk P fn T B del out) : FnD P fn w0 fz out .ret a w := by
 obtain ⟨η, s⟩ := hs
 have hnod : a.defers = [d] := s.nod
 show Leaves P fn a.tmps _ a.defers .returning w
 rw [hnod]
 obtain ⟨⟨fv, cap, ht⟩, hinv⟩ := hd
 refine ⟨by simp, fv, cap, f, us.toArray, ht, hinv w, (hi w _ (fun w' hb => hI w' ⟨hb.os.trans s.frame.os, hb.tape.trans s.frame.tape, hb.output.trans s.frame.output, Nat.le_trans s.frame.size hb.size, fun k hk ho => (hb.block k (Nat.lt_of_lt_of_le hk s.frame.size)).trans (s.frame.block k hk ho)⟩) (by simpa using hn)).mono ?_⟩
 rintro e u' w' ⟨⟨v, rfl⟩, rfl, hb⟩
 exact ret_core del ⟨η, s.below hb⟩ (fun _ h => h) h
theorem FnD_cast {fn : Func} {out out' : COut} {e : Exit} (h : out = out') (hq : FnD P fn w0 fz out e a w) : FnD P fn w0 fz out' e a w := h ▸ hq
theorem thr_okD {fn : Func} {f : FuncId} {us : List Value} {d : Deferred} {out : COut} {v : Value} {bi bo : BL} (T2 : TL) (hs : SimL N w0 (dO fz us d) T B a w) (n : Nat) (hn : us.length = n) (hn2 : n < 100) (hd : DefOk P f us d) (hc : CloD P I f ((List.range n).map fun i => .ptr i 0) v bi bo) (hI : ∀ w', Fr (dO fz us d) w0 w' → I w')
  (hbk : bi.map (·.1) = List.range n) (hbi : biOk bi B = true) (hbo : boOk n bo = true) (hT : T2.map (fun p => lkp T p.1) = T2.map (fun p => some p.2)) (hTp : T2.all (fun p => isPtr9 n p.2) = true) (h : retOk P fn T2 (up9 bo) [] out) : FnD P fn w0 fz out (.panic [{ v, recovered := false }]) a w := by
 obtain ⟨η, s⟩ := hs
 have hnod : a.defers = [d] := s.nod
 show Leaves P fn a.tmps _ a.defers (.panicking [thrown v]) w
 rw [hnod]
 obtain ⟨⟨fv, cap, ht⟩, hinv⟩ := hd
 have inbi : ∀ i, i < n → ∃ X, lkp bi i = some X := fun i hi => by
  have h1 : i ∈ bi.map (·.1) := by rw [hbk]; simpa using hi
  obtain ⟨⟨j, X⟩, hm, rfl⟩ := List.mem_map.1 h1
  have h2 := lkp_isSome hm
  exact Option.isSome_iff_exists.1 h2
 have bilt : ∀ i X, lkp bi i = some X → i < n := fun i X h => by
  have : i ∈ bi.map (·.1) := List.mem_map.2 ⟨(i, X), lkp_mem h, rfl⟩
  rw [hbk] at this; simpa using this
 have key : ∀ i X, lkp bi i = some X → ∃ l m g C e, X = .var l ∧ l.all isJunk = true ∧ us[i]? = some (.pointer (some ⟨g, 0, none⟩)) ∧ η (900 + i) = some (.pointer (some ⟨g, 0, none⟩)) ∧ w.heap[g]? = some (.cells C e (0, 0)) ∧ C.size = m ∧ m = l.length := fun i X hX => by
  have h1 := List.all_eq_true.1 hbi (i, X) (lkp_mem hX)
  cases X with
  | var l =>
   cases hm : lkp B (900 + i) with
   | none => simp [hm] at h1
   | some Y =>
    cases Y with
    | var m =>
     simp only [hm, Bool.and_eq_true, beq_iff_eq] at h1
     obtain ⟨u, hu, g, C, e, rfl, q1, q2, _⟩ := s.dom _ _ hm
     have hi := bilt i _ hX
     have hui : us[i]? = some us[i] := List.getElem?_eq_getElem (by omega)
     have hp : (dO fz us d).pin (900 + i) = some us[i] := by
      simp only [dO]
      rw [if_pos (by omega), show 900 + i - 900 = i by omega]; exact hui
     have h3 := s.pin _ _ _ hp hu
     exact ⟨l, m.length, g, C, e, rfl, h1.1, by rw [hui, ← h3], hu, q1, q2, h1.2⟩
    | _ => simp [hm] at h1
  | _ => simp at h1
 obtain ⟨ηc, hηc⟩ : ∃ ηc : Nat → Option Value, ∀ b, ηc b = if (lkp bi b).isSome then us[b]? else none := ⟨_, fun _ => rfl⟩
 have ηc_some : ∀ b u, ηc b = some u → ∃ X g, lkp bi b = some X ∧ u = .pointer (some ⟨g, 0, none⟩) ∧ η (900 + b) = some u := fun b u hb => by
  rw [hηc] at hb
  split at hb
  ·rename_i h1
   obtain ⟨X, hX⟩ := Option.isSome_iff_exists.1 h1
   obtain ⟨l, m, g, C, e, _, _, h4, h5, _⟩ := key b X hX
   rw [h4] at hb
   injection hb with hb
   subst hb
   exact ⟨X, g, hX, rfl, h5⟩
  ·cases hb
 have ηc_of : ∀ i X u, lkp bi i = some X → us[i]? = some u → ηc i = some u := fun i X u hX hu => by rw [hηc, hX]; exact hu
 have hcall := hc w (fun _ => False) ηc us.toArray (fun w' hfr => hI w' ⟨hfr.os.trans s.frame.os, hfr.tape.trans s.frame.tape, hfr.output.trans s.frame.output, Nat.le_trans s.frame.size hfr.size, fun k hk ho => by
   rw [← s.frame.block k hk ho]
   refine hfr.block k (Nat.lt_of_lt_of_le hk s.frame.size) ?_
   rintro ⟨b, u, hb, hbk2⟩
   obtain ⟨X, g, _, _, h5⟩ := ηc_some b u hb
   rcases (s.new _ u k h5 hbk2).2 with h6 | h6
   ·omega
   ·exact h6⟩) (fun k hk => hk.elim) (fun b u hb => by obtain ⟨X, _, hX, _⟩ := ηc_some b u hb; rw [hX]; rfl) (fun b X hX => by
   obtain ⟨l, m, g, C, e, rfl, hl, h4, h5, q1, q2, q3⟩ := key b X hX
   refine ⟨_, ηc_of b _ _ hX h4, g, C, e, rfl, q1, by omega, fun j v x hv hx => ?_⟩
   have hj := List.all_eq_true.1 hl x (List.mem_of_getElem? hx)
   cases x <;> simp [isJunk] at hj
   exact .junk _) (fun b u k hb hk => by
   obtain ⟨X, g, _, _, h5⟩ := ηc_some b u hb
   exact ⟨(s.new _ u k h5 hk).1, fun h => h⟩) (fun b b' u u' k hb hb' hk hk' => by
   obtain ⟨_, _, _, _, h5⟩ := ηc_some b u hb
   obtain ⟨_, _, _, _, h6⟩ := ηc_some b' u' hb'
   have := s.apart _ _ u u' k h5 h6 hk hk'
   omega) ⟨by simp [hn], fun j u y hu hy => by
   have hjn : j < n := by have := (List.getElem?_eq_some_iff.1 hy).1; simpa using this
   rw [List.getElem?_map, List.getElem?_range hjn] at hy
   simp only [Option.map_some, Option.some.injEq] at hy
   subst hy
   refine .ptr _ _ _ (fun u' hu' => ?_)
   obtain ⟨X, g, hX, rfl, _⟩ := ηc_some j u' hu'
   have h7 : us[j]? = some u := by rw [← hu]; simp
   have := ηc_of j X u hX h7
   rw [hu'] at this
   injection this with this
   exact ⟨g, rfl, this.symm⟩⟩
 refine ⟨by simp, fv, cap, f, us.toArray, ht, hinv w, hcall.mono ?_⟩
 rintro e u' w' ⟨rfl, ⟨p1, p2, p3, p4, p5⟩, hpost⟩
 rcases hpost with ⟨vt, hout, _⟩ | ⟨η', r1, r2, r3, r4, r5, r6⟩
 ·cases hout
 obtain ⟨vr, rfl, _⟩ := r6
 have back : ∀ i u, i < n → η' i = some u → ηc i = some u ∧ η (900 + i) = some u := fun i u hi hu => by
  obtain ⟨X, hX⟩ := inbi i hi
  obtain ⟨l, m, g, C, e, _, _, h4, h5, _⟩ := key i X hX
  have h6 := ηc_of i X _ hX h4
  have := r2 i (by rw [hX]; rfl) _ _ h6 hu
  subst this
  exact ⟨h6, h5⟩
 obtain ⟨η2, hη2⟩ : ∃ η2 : Nat → Option Value, ∀ b, η2 b = if 900 ≤ b ∧ b < 900 + n then η' (b - 900) else none := ⟨_, fun _ => rfl⟩
 have η2_some : ∀ b u, η2 b = some u → 900 ≤ b ∧ b < 900 + n ∧ η' (b - 900) = some u ∧ ηc (b - 900) = some u ∧ η b = some u := fun b u hb => by
  rw [hη2] at hb
  split at hb
  ·rename_i h9
   obtain ⟨h1, h2⟩ := back (b - 900) u (by omega) hb
   rw [show 900 + (b - 900) = b by omega] at h2
   exact ⟨h9.1, h9.2, hb, h1, h2⟩
  ·cases hb
 have map_at : ∀ (l : TL) (f g : Nat × AV → Option AV), l.map f = l.map g → ∀ p ∈ l, f p = g p := fun l f g h p hp => by
  induction l with
  | nil => simp at hp
  | cons q l ih =>
   simp only [List.map_cons, List.cons.injEq] at h
   rcases List.mem_cons.1 hp with rfl | hp
   ·exact h.1
   ·exact ih h.2 hp
 refine ret_core [] (T := T2) (B := up9 bo) (ow := dO fz us d) (N := N) ⟨η2, s.size, s.nod, ⟨p1.trans s.frame.os, p2.trans s.frame.tape, p3.trans s.frame.output, Nat.le_trans s.frame.size p4, fun k hk ho => ?_⟩, fun t av htv => ?_, fun b X hX => ?_, fun b u k hb hk => ?_, fun b b' u u' k hb hb' hk hk' => ?_, fun b u u' hp hb => ?_, s.pinlt⟩ (fun _ h => h) h
 ·rw [← s.frame.block k hk ho]
  refine p5 k (Nat.lt_of_lt_of_le hk s.frame.size) ?_
  rintro ⟨b, u, hb, hbk2⟩
  obtain ⟨X, g, _, _, h5⟩ := ηc_some b u hb
  rcases (s.new _ u k h5 hbk2).2 with h6 | h6
  ·omega
  ·exact h6
 ·have hm := lkp_mem htv
  have he := map_at T2 _ _ hT (t, av) hm
  have hp := List.all_eq_true.1 hTp (t, av) hm
  obtain ⟨v0, hv0, hr⟩ := s.tmp t _ he
  refine ⟨v0, hv0, ?_⟩
  cases av <;> simp [isPtr9] at hp
  exact .ptr _ _ _ (fun u hu => hr.ptr_inv (η2_some _ u hu).2.2.2.2)
 ·obtain ⟨h1, h2⟩ := lkp_up9 hX
  have h3 := List.all_eq_true.1 hbo (b - 900, X) (lkp_mem h2)
  simp only [Bool.and_eq_true, decide_eq_true_eq] at h3
  obtain ⟨u, hu, hr⟩ := r5 _ _ h2
  refine ⟨u, by rw [hη2, if_pos ⟨h1, by omega⟩]; exact hu, ?_⟩
  have h4 := h3.2
  cases X with
  | var l =>
   simp only at h4
   obtain ⟨g, C, e, rfl, q1, q2, q3⟩ := hr
   refine ⟨g, C, e, rfl, q1, q2, fun j v x hv hx => ?_⟩
   have hj := List.all_eq_true.1 h4 x (List.mem_of_getElem? hx)
   cases x <;> simp [isLit] at hj
   have := (q3 j v _ hv hx).lit_inv
   subst this
   exact .lit _
  | _ => simp at h4
 ·obtain ⟨_, _, _, _, h5⟩ := η2_some b u hb
  obtain ⟨h6, h7⟩ := s.new b u k h5 hk
  exact ⟨Nat.lt_of_lt_of_le h6 p4, h7⟩
 ·exact s.apart b b' u u' k (η2_some b u hb).2.2.2.2 (η2_some b' u' hb').2.2.2.2 hk hk'
 ·exact s.pin b u u' hp (η2_some b u' hb).2.2.2.2
end
open Go.Proofs.Tryz
def ReadR (lang : Int) (t : Tree) : Pat × Int := if ((readR lang t).2 == 0) = true then ((readR lang t).1, 0) else (Pat.zero, (readR lang t).2)
theorem outR_y {f : FuncId} {xs : List AV} {r : Pat × Int} (h : Con Tryz.prog I0 f xs (outR r)) (e : (r.2 == 0) = true) : Con Tryz.prog I0 f xs (.val (.agg (encP r.1))) := by
 rw [outR, if_pos e] at h; exact h
theorem outR_n {f : FuncId} {xs : List AV} {r : Pat × Int} (h : Con Tryz.prog I0 f xs (outR r)) (e : (r.2 == 0) = false) : Con Tryz.prog I0 f xs (.thr (errN r.2)) := by
 rw [outR, if_neg (by rw [e]; decide)] at h; exact h
theorem clD58 (c : Int) : CloD Tryz.prog I0 58 [.ptr 0 0, .ptr 1 0] (.iface 38 (.int .i64 c)) [(0, .var [.junk, .junk, .junk, .junk, .junk, .junk, .junk, .junk, .junk, .junk, .junk]), (1, .var [.junk])] [(0, .var [vi 0, nilv, vi 0, vb false, vb false, nilv, vi 0, vs (ba []), nilv, nilv, nilv]), (1, .var [vi c])] := by
 refine cloD_of Tryz.func58 rfl rfl rfl rfl rfl rfl rfl (Nat.le_of_ble_eq_true rfl) (Nat.le_of_ble_eq_true rfl) (Nat.le_of_ble_eq_true rfl) (by kernel_rfl) (fun w0 fz η a hI hs => ?_)
 refine wN hs hI (bz 2 1) 1189798296188798 [q0 true, q0 false] .norm [] [(0, .var [vi 0, nilv, vi 0, vb false, vb false, nilv, vi 0, vs (ba []), nilv, nilv, nilv]), (1, .var [vi c])] fun a w hs => ?_
 exact FnQB_cast (out := .val (.tup [])) (bo := [(0, .var [vi 0, nilv, vi 0, vb false, vb false, nilv, vi 0, vs (ba []), nilv, nilv, nilv]), (1, .var [vi c])]) (rfl) (rfl) (norm_okB _ hs (by kernel_rfl) (by kernel_rfl))
theorem clI58 : CloI Tryz.prog I0 58 2 := by
 refine cloI_of Tryz.func58 rfl rfl rfl rfl rfl rfl rfl (Nat.le_of_ble_eq_true rfl) (Nat.le_of_ble_eq_true rfl) (Nat.le_of_ble_eq_true rfl) (fun w0 fz a hI hs => ?_)
 refine wN hs hI (bz 1 0) 798 [q0 false] .norm [] [] fun a w hs => ?_
 exact nK (.val (.tup [])) [] hs rfl
theorem con15 (lg : Int) (t : Tree) (hft : fineT t) : Con Tryz.prog I0 15 [vi lg, .agg (encTree t)] (.val (.tup [.agg (encP (ReadR lg t).1), vi (ReadR lg t).2])) := by
 refine con_ofD Tryz.func15 rfl (Nat.le_of_ble_eq_true rfl) stab (fun w0 fz a hI hs => ?_)
 refine wNs hs hI [] 18 [] [(0, vi lg), (3, .ptr 1000 0), (4, .ptr 1001 0), (5, .ptr 1002 0)] [(1000, bTr (t)), (1001, .var [vi 0, nilv, vi 0, vb false, vb false, nilv, vi 0, vs (ba []), nilv, nilv, nilv]), (1002, .var [vi 0])] fun a w hs => ?_
 refine wp_seq ?_
 have hs := hs.ren0 (T' := [(0, vi lg), (3, .ptr 1000 0), (4, .ptr 900 0), (5, .ptr 901 0)]) (B' := [(900, .var [vi 0, nilv, vi 0, vb false, vb false, nilv, vi 0, vs (ba []), nilv, nilv, nilv]), (901, .var [vi 0]), (1000, bTr (t))]) [(1000, 1000), (900, 1001), (901, 1002)] (by kernel_rfl) rfl rfl
 refine defer_L [4, 5] hs ent58 rfl rfl rfl rfl rfl rfl (Nat.le_of_ble_eq_true rfl) rfl rfl rfl (fun us d a hus hd hs => ?_)
 have hI : ∀ w', Fr (dO fz us d) w0 w' → I0 w' := fun w' h => hI w' ⟨h.os, h.tape, h.output, h.size, h.block⟩
 refine then_norm ?_
 rcases bq ((readR lg t).2) (0) with ⟨b1, n1⟩ | ⟨b1, n1⟩
 refine wL hs hI [(2, rc [(2, ciV 59 [vi lg, aTr (t)] (.agg (e8 [vi ((readR lg t).1.lang), .row .opn ((readR lg t).1.ops)] (((readR lg t).1.value)) [.row .strs ((readR lg t).1.mask)])))])] [] 126840 [] .ret [(4, .ptr 900 0), (5, .ptr 901 0)] [(900, .var (e8 [vi ((readR lg t).1.lang), .row .opn ((readR lg t).1.ops)] (((readR lg t).1.value)) [.row .strs ((readR lg t).1.mask)])), (901, .var [vi 0])] ⟨outR_y (con59 lg t hft) (by first | assumption | (simp_all; done)), tv⟩ fun a w hs => ?_
 exact FnD_cast (out := .val (.tup [.agg (e8 [vi ((readR lg t).1.lang), .row .opn ((readR lg t).1.ops)] (((readR lg t).1.value)) [.row .strs ((readR lg t).1.mask)]), vi 0])) (by rw [ReadR, if_pos b1]; rfl) (ret_okD [] hs 2 hus hd clI58 hI ⟨by kernel_rfl, rfl⟩)
 refine wL hs hI [(2, rc [(2, ciA 59 [vi lg, aTr (t)] [] [] (.thr (errN (readR lg t).2)))])] [] 40 [] (.thr (errN (readR lg t).2)) [(4, .ptr 900 0), (5, .ptr 901 0)] [(900, .var [vi 0, nilv, vi 0, vb false, vb false, nilv, vi 0, vs (ba []), nilv, nilv, nilv]), (901, .var [vi 0])] ⟨outR_n (con59 lg t hft) (by first | assumption | (simp_all; done)), tv⟩ fun a w hs => ?_
 exact FnD_cast (out := .val (.tup [.agg [vi 0, .row .opn ([]), vi 0, vb false, vb false, rwU ([]), vi 0, vs (ba []), rwS ([]), rwT ([]), .row .strs ([])], vi ((readR lg t).2)])) (by rw [ReadR, if_neg (by rw [b1]; decide)]; rfl) (thr_okD [(4, .ptr 900 0), (5, .ptr 901 0)] hs 2 hus (by decide) hd (clD58 _) hI rfl (by kernel_rfl) (by kernel_rfl) rfl (by kernel_rfl) ⟨by kernel_rfl, rfl⟩)
theorem valid_ascii (s : ByteArray) (h : ∀ i (hi : i < s.size), (s[i]'hi).toNat < 128) : ∀ b i, X.validAt s b i = true
 | 0, _ => rfl
 | b + 1, i => by
  unfold X.validAt
  by_cases hi : i < s.size
  rw [if_pos hi, decode_ascii s i hi (h i hi)]
  have := h i hi
  rw [if_neg (by show ¬ ((s[i]'hi).toNat = 65533); omega)]
  exact valid_ascii s h b _
  rw [if_neg hi]
theorem valid_asc {s : ByteArray} (h : ∀ c ∈ s.data.toList, c.toNat < 128) : X.validAt s s.size 0 = true :=
 valid_ascii s (fun i hi => h _ (by rw [Array.mem_toList_iff]; exact Array.getElem_mem hi)) _ _
theorem kS_in {x : ByteArray} (h : kS x = true) : x.size ≤ 3 ∧ ∀ c ∈ x.data.toList, c.toNat < 128 := by
 unfold kS at h
 rw [Bool.and_eq_true, decide_eq_true_eq, List.all_eq_true] at h
 exact ⟨h.1, fun c hc => of_decide_eq_true (h.2 c hc)⟩
theorem kS_bad {x : ByteArray} (h : kS x = true) : badTok x = false := by
 have := kS_in h
 unfold badTok
 rw [valid_asc this.2, decide_eq_false (by omega)]; rfl
theorem tok_esc : ∀ s : List UInt8, X.tok (escL s) = some s
 | [] => rfl
 | c :: s => by
  have e : escL (c :: s) = escC c ++ escL s := by unfold escL; rw [List.flatMap_cons]
  rw [e]
  unfold escC
  split
  rename_i h; subst h
  show X.tok (126 :: 48 :: escL s) = _
  simp [X.tok, tok_esc s]
  rename_i h1
  split
  rename_i h; subst h
  show X.tok (126 :: 49 :: escL s) = _
  simp [X.tok, tok_esc s]
  show X.tok (c :: escL s) = _
  rw [X.tok_plain c _ h1, tok_esc s]; rfl
theorem esc_mem {s : List UInt8} {d : UInt8} (h : d ∈ escL s) : d = 126 ∨ d = 48 ∨ d = 49 ∨ (d ∈ s ∧ d ≠ 47) := by
 unfold escL at h
 obtain ⟨c, hc, h⟩ := List.mem_flatMap.1 h
 unfold escC at h
 split at h
 simp at h; rcases h with h | h
 exact .inl h
 exact .inr (.inl h)
 split at h
 simp at h; rcases h with h | h
 exact .inl h
 exact .inr (.inr (.inl h))
 rename_i h1
 rw [List.mem_singleton] at h
 subst h
 exact .inr (.inr (.inr ⟨hc, h1⟩))
theorem esc_no (s : List UInt8) : (47 : UInt8) ∉ escL s := fun h => by
 rcases esc_mem h with h | h | h | h
 exact absurd h (by decide)
 exact absurd h (by decide)
 exact absurd h (by decide)
 exact h.2 rfl
abbrev escB (t : ByteArray) : List UInt8 := escL t.data.toList
theorem ptxt_jt (p : List ByteArray) : (ptxt p).data.toList = jt 47 (p.map escB) := by
 unfold ptxt jt
 rw [List.map_map]; rfl
theorem parts_ptxt (x : ByteArray) (r : List ByteArray) : partsF (ptxt (x :: r)) = (x :: r).map (fun t => ba (escB t)) := by
 have hx : ((ptxt (x :: r)).extract 1 (ptxt (x :: r)).size).data.toList = escB x ++ jt 47 (r.map escB) := by
  rw [Lib.extract_data, List.take_of_length_le (by rw [List.length_drop, ← Lib.size_eq]; omega), ptxt_jt, List.map_cons, jt_cons]; rfl
 unfold partsF
 rw [← ba_of ((ptxt (x :: r)).extract 1 (ptxt (x :: r)).size), hx, splitF_spl, spl_jt _ _ (esc_no _) (fun y hy => by obtain ⟨z, _, rfl⟩ := List.mem_map.1 hy; exact esc_no _)]
 rw [← List.map_cons (f := escB), List.map_map]; rfl
theorem tokF_esc (t : ByteArray) : tokF (ba (escB t)) = (t, true) := by
 unfold tokF
 rw [ba_data, tok_esc]
theorem ptxt_ne (x : ByteArray) (r : List ByteArray) : ((ptxt (x :: r)).toList == (ba []).toList) = false := by
 rw [Lib.toList_data, Lib.toList_data, ptxt_jt, List.map_cons, jt_cons]; rfl
theorem ptxt_0 (x : ByteArray) (r : List ByteArray) : byteAt (ptxt (x :: r)) 0 = 47 := by
 unfold byteAt
 have h : (ptxt (x :: r)).data.toList[0]? = some 47 := by rw [ptxt_jt, List.map_cons, jt_cons]; rfl
 rw [show ((0 : Int).toNat) = 0 from rfl, ← Array.getElem?_toList, h]; rfl
theorem pparse_ptxt {p : List ByteArray} (hl : p.length ≤ 63) (hv : X.validAt (ptxt p) (ptxt p).size 0 = true) : pparseF (ptxt p) = (p, 0) := by
 cases p with
 | nil => unfold pparseF; rw [if_pos (by kernel_rfl)]
 | cons x r =>
  have hat : ∀ j, j < (partsF (ptxt (x :: r))).length → (tokF ((partsF (ptxt (x :: r))).getD j (dflt .str))).2 = true := fun j hj => by
   have := getD_mem hj (dflt .str)
   generalize (partsF (ptxt (x :: r))).getD j (dflt .str) = q at this
   rw [parts_ptxt] at this
   obtain ⟨z, _, rfl⟩ := List.mem_map.1 this
   rw [tokF_esc]
  rw [pparse_all (ptxt_ne x r) (by rw [ptxt_0, hv]; rfl) hat, parts_ptxt, if_neg (by rw [List.length_map]; omega), List.map_map]
  refine Prod.ext ?_ rfl
  show ((x :: r).map fun t => (tokF (ba (escB t))).1) = x :: r
  exact (List.map_congr_left (fun t _ => by rw [tokF_esc]; rfl)).trans (List.map_id _)
theorem flat_len {p : List ByteArray} (h : ∀ x ∈ p, x.size ≤ 3) : (p.flatMap fun t => 47 :: escL t.data.toList).length ≤ 7 * p.length := by
 induction p with
 | nil => simp
 | cons x p ih =>
  have h1 := h x (List.mem_cons_self ..)
  have h2 := escL_len x.data.toList
  have h3 := ih (fun y hy => h y (List.mem_cons_of_mem _ hy))
  rw [Lib.size_eq] at h1
  simp only [List.flatMap_cons, List.length_append, List.length_cons]; omega
theorem ptxt_asc {p : List ByteArray} (h : ∀ x ∈ p, kS x = true) : ∀ c ∈ (ptxt p).data.toList, c.toNat < 128 := fun c hc => by
 rw [ptxt_jt] at hc
 unfold jt at hc
 obtain ⟨l, hl, hc⟩ := List.mem_flatten.1 hc
 obtain ⟨y, hy, rfl⟩ := List.mem_map.1 hl
 obtain ⟨x, hx, rfl⟩ := List.mem_map.1 hy
 rcases List.mem_cons.1 hc with rfl | hc
 decide
 rcases esc_mem hc with rfl | rfl | rfl | h1
 decide
 decide
 decide
 exact (kS_in (h x hx)).2 c h1.1
theorem ptxt_ok {p : List ByteArray} (hl : p.length ≤ 4) (h : ∀ x ∈ p, kS x = true) : textOk (ptxt p) = true := by
 have h1 := flat_len (fun x hx => (kS_in (h x hx)).1)
 have h2 : (ptxt p).size ≤ 7 * p.length := by rw [Lib.size_eq]; exact h1
 unfold textOk
 rw [valid_asc (ptxt_asc h), decide_eq_true (by omega)]; rfl
theorem ptxt_back {p : List ByteArray} (hl : p.length ≤ 4) (h : ∀ x ∈ p, kS x = true) : pparseF (ptxt p) = (p, 0) := pparse_ptxt (by omega) (valid_asc (ptxt_asc h))
def objL (x : Opn) : Mem := (((if fromF x.op = true then [(nFrom, textT (ptxt x.frm))] else []) ++ [(nOp, textT (wordF x.op))]) ++ [(nPath, textT (ptxt x.path))]) ++ (if valueF x.op = true then [(nValue, x.value)] else [])
theorem objT_L (x : Opn) : objT x = objM (objL x) := by
 unfold objT objM objK objV objL
 by_cases h1 : fromF x.op = true <;> by_cases h2 : valueF x.op = true <;> simp [h1, h2]
theorem good_text {n d : Nat} {s : ByteArray} (h : textOk s = true) : GoodN n (d + 1) (textT s) :=
 ⟨⟨by simp [textT, ownO, truthO, numO, ownN, textO, keysO, itemsO, Tree.kind, Tree.b, Tree.n, Tree.s, Tree.k, Tree.v, h], Ok.nil, Nat.zero_le _, Nat.zero_le _, so_leaf rfl, te_leaf rfl⟩, Nat.zero_le _, fun u hu => by simp [textT, Tree.v] at hu⟩
theorem word_ok (k : Int) : textOk (wordF k) = true := by
 unfold wordF
 generalize (k - 1).toNat = i
 rcases i with _ | _ | _ | _ | _ | _ | i
 kernel_rfl
 kernel_rfl
 kernel_rfl
 kernel_rfl
 kernel_rfl
 kernel_rfl
 rw [List.getD_eq_getElem?_getD, List.getElem?_eq_none (by simp [wordsL])]; kernel_rfl
theorem obj_mem {x : Opn} {p : ByteArray × Tree} (h : p ∈ objL x) : p = (nFrom, textT (ptxt x.frm)) ∨ p = (nOp, textT (wordF x.op)) ∨ p = (nPath, textT (ptxt x.path)) ∨ (valueF x.op = true ∧ p = (nValue, x.value)) := by
 unfold objL at h
 simp only [List.mem_append, List.mem_singleton] at h
 rcases h with ((h | h) | h) | h
 split at h
 exact .inl (List.mem_singleton.1 h)
 simp at h
 exact .inr (.inl h)
 exact .inr (.inr (.inl h))
 split at h
 rename_i hv
 exact .inr (.inr (.inr ⟨hv, List.mem_singleton.1 h⟩))
 simp at h
theorem obj_len (x : Opn) : (objL x).length ≤ 4 := by unfold objL; split <;> split <;> simp
theorem obj_sorted (x : Opn) : ((objL x).map (·.1)).Pairwise ltB := by
 have l1 : ltB nFrom nOp := ltB_less.1 (by kernel_rfl)
 have l2 : ltB nFrom nPath := ltB_less.1 (by kernel_rfl)
 have l3 : ltB nFrom nValue := ltB_less.1 (by kernel_rfl)
 have l4 : ltB nOp nPath := ltB_less.1 (by kernel_rfl)
 have l5 : ltB nOp nValue := ltB_less.1 (by kernel_rfl)
 have l6 : ltB nPath nValue := ltB_less.1 (by kernel_rfl)
 unfold objL
 by_cases h1 : fromF x.op = true <;> by_cases h2 : valueF x.op = true <;> simp [h1, h2, l1, l2, l3, l4, l5, l6]
theorem value_op {k : Int} (h : valueF k = true) : k = 1 ∨ k = 3 ∨ k = 6 := by
 unfold valueF at h
 simp only [Bool.or_eq_true, beq_iff_eq] at h
 omega
theorem good_obj {x : Opn} (h : OpE x) : GoodN 200 21 (objT x) := by
 rw [objT_L]
 refine obj_goodN (by decide) (Nat.le_trans (obj_len x) (by decide)) (obj_sorted x) (fun p hp => ?_)
 rcases obj_mem hp with rfl | rfl | rfl | ⟨hv, rfl⟩
 exact ⟨by kernel_rfl, good_text (ptxt_ok h.frm.1 h.frm.2)⟩
 exact ⟨by kernel_rfl, good_text (word_ok _)⟩
 exact ⟨by kernel_rfl, good_text (ptxt_ok h.path.1 h.path.2)⟩
 exact ⟨by kernel_rfl, (h.val (value_op hv)).1⟩
theorem text_nodes (s : ByteArray) : nodes (textT s) = 1 := by rw [nodes_eq]; rfl
theorem obj_nodes {x : Opn} (h : OpE x) : nodes (objT x) ≤ 44 := by
 have hb : nodesL (objT x).v ≤ 43 := by
  show nodesL (objV x) ≤ 43
  unfold objV
  rw [nodesL_app, nodesL_app, nodesL_app]
  have h1 : nodesL (if fromF x.op = true then [textT (ptxt x.frm)] else []) ≤ 1 := by
   split
   simp only [nodesL, text_nodes]; omega
   simp [nodesL]
  by_cases hv : valueF x.op = true
  have hf : fromF x.op = false := by
   rcases value_op hv with e | e | e <;> rw [e] <;> rfl
  rw [if_pos hv, hf]
  have h2 := (h.val (value_op hv)).2
  simp only [nodesL, text_nodes, Bool.false_eq_true, if_false]; omega
  rw [if_neg hv]
  simp only [nodesL, text_nodes]; omega
 rw [nodes_eq]; omega
theorem opR_ok {t : Tree} {p f : List ByteArray} (h7 : (t.kind == 7) = true) (hm : memOk t nOp = true) (hw : decide (wordI t > 0) = true) (hx : exactO t = true) (hp : pathR t nPath = (p, 0)) (hf : fromF (wordI t) = true → pathR t nFrom = (f, 0)) : opR t = (opO t p (if fromF (wordI t) = true then f else []), 0) := by
 rw [opR, if_pos h7, if_pos hm, if_pos hw, if_pos hx, hp, if_pos (show (((p, (0 : Int)).2 == 0) = true) from rfl)]
 split
 rename_i h
 rw [hf h, if_pos (show (((f, (0 : Int)).2 == 0) = true) from rfl)]
 rfl
theorem opR_obj {o : Opn} (ho : 1 ≤ o.op ∧ o.op ≤ 6) (hp : pparseF (ptxt o.path) = (o.path, 0)) (hf : pparseF (ptxt o.frm) = (o.frm, 0)) (hnf : o.op ≠ 4 → o.op ≠ 5 → o.frm = []) (hnv : o.op ≠ 1 → o.op ≠ 3 → o.op ≠ 6 → o.value = Tree.zero) : opR (objT o) = (o, 0) := by
 obtain ⟨k, p, f, v⟩ := o
 replace ho : 1 ≤ k ∧ k ≤ 6 := ho
 replace hnf : k ≠ 4 → k ≠ 5 → f = [] := hnf
 replace hnv : k ≠ 1 → k ≠ 3 → k ≠ 6 → v = Tree.zero := hnv
 have hk : k = 1 ∨ k = 2 ∨ k = 3 ∨ k = 4 ∨ k = 5 ∨ k = 6 := by omega
 have hP : pathR (objT ⟨k, p, f, v⟩) nPath = (p, 0) := by
  refine (pathR_yes ?_).trans (Eq.trans (congrArg pparseF ?_) hp)
  rcases hk with rfl | rfl | rfl | rfl | rfl | rfl <;> kernel_rfl
  rcases hk with rfl | rfl | rfl | rfl | rfl | rfl <;> kernel_rfl
 rcases hk with rfl | rfl | rfl | rfl | rfl | rfl
 obtain rfl : f = [] := hnf (by decide) (by decide)
 exact (opR_ok (f := []) (by kernel_rfl) (by kernel_rfl) (by kernel_rfl) (by kernel_rfl) hP (fun h => nomatch (show false = fromF (wordI (objT ⟨1, p, [], v⟩)) from by kernel_rfl).trans h)).trans (by kernel_rfl)
 obtain rfl : f = [] := hnf (by decide) (by decide)
 obtain rfl : v = Tree.zero := hnv (by decide) (by decide) (by decide)
 exact (opR_ok (f := []) (by kernel_rfl) (by kernel_rfl) (by kernel_rfl) (by kernel_rfl) hP (fun h => nomatch (show false = fromF (wordI (objT ⟨2, p, [], Tree.zero⟩)) from by kernel_rfl).trans h)).trans (by kernel_rfl)
 obtain rfl : f = [] := hnf (by decide) (by decide)
 exact (opR_ok (f := []) (by kernel_rfl) (by kernel_rfl) (by kernel_rfl) (by kernel_rfl) hP (fun h => nomatch (show false = fromF (wordI (objT ⟨3, p, [], v⟩)) from by kernel_rfl).trans h)).trans (by kernel_rfl)
 obtain rfl : v = Tree.zero := hnv (by decide) (by decide) (by decide)
 exact (opR_ok (f := f) (by kernel_rfl) (by kernel_rfl) (by kernel_rfl) (by kernel_rfl) hP (fun h => (pathR_yes (by kernel_rfl)).trans (Eq.trans (congrArg pparseF (by kernel_rfl)) hf))).trans (by kernel_rfl)
 obtain rfl : v = Tree.zero := hnv (by decide) (by decide) (by decide)
 exact (opR_ok (f := f) (by kernel_rfl) (by kernel_rfl) (by kernel_rfl) (by kernel_rfl) hP (fun h => (pathR_yes (by kernel_rfl)).trans (Eq.trans (congrArg pparseF (by kernel_rfl)) hf))).trans (by kernel_rfl)
 obtain rfl : f = [] := hnf (by decide) (by decide)
 exact (opR_ok (f := []) (by kernel_rfl) (by kernel_rfl) (by kernel_rfl) (by kernel_rfl) hP (fun h => nomatch (show false = fromF (wordI (objT ⟨6, p, [], v⟩)) from by kernel_rfl).trans h)).trans (by kernel_rfl)
theorem opR_E {o : Opn} (h : OpE o) : opR (objT o) = (o, 0) := opR_obj h.op (ptxt_back h.path.1 h.path.2) (ptxt_back h.frm.1 h.frm.2) h.nofrm h.noval
theorem arr_valid {l : List Tree} (hl : l.length ≤ 13) (h : ∀ u ∈ l, GoodN 201 21 u ∧ nodes u ≤ 45) : validT (arrT l) = true := by
 have hg : GoodN 201 22 (arrT l) := good_items (by decide) (by omega) (fun u hu => (h u hu).1)
 have hn := nodesL_B (B := 45) (fun u hu => (h u hu).2)
 have hn2 : nodes (arrT l) = 1 + nodesL l := by rw [nodes_eq]; rfl
 have : l.length * 45 ≤ 13 * 45 := Nat.mul_le_mul_right _ hl
 exact (chk_goodN hg (by decide) (by omega)).1
theorem obj_in {ops : List Opn} (h : ∀ o ∈ ops, OpE o) : ∀ u ∈ ops.map objT, GoodN 200 21 u ∧ nodes u ≤ 44 := fun u hu => by
 obtain ⟨o, ho, rfl⟩ := List.mem_map.1 hu
 exact ⟨good_obj (h o ho), obj_nodes (h o ho)⟩
theorem oneF_E {o : Opn} (h : OpE o) : oneF o = true := by
 have pk : ∀ {p : List ByteArray}, p.length ≤ 4 ∧ (∀ x ∈ p, kS x = true) → pathOk p = true := fun {p} hp => by
  unfold pathOk
  rw [decide_eq_true (by omega), Bool.true_and, Bool.not_eq_true', List.any_eq_false]
  exact fun x hx => by rw [kS_bad (hp.2 x hx)]; decide
 have vk : o.op = 1 ∨ o.op = 3 ∨ o.op = 6 → validT o.value = true := fun hv => by
  have := h.val hv
  exact (chk_goodN this.1 (by decide) (by omega)).1
 have z0 : zeroF Tree.zero = true := by kernel_rfl
 have ho := h.op
 unfold oneF
 split
 rename_i h45
 simp only [Bool.or_eq_true, beq_iff_eq] at h45
 rw [pk h.path, pk h.frm, h.noval (by omega) (by omega) (by omega), z0]; rfl
 rename_i h45
 simp only [Bool.or_eq_true, beq_iff_eq, not_or] at h45
 split
 rename_i hv
 simp only [Bool.or_eq_true, beq_iff_eq] at hv
 rw [pk h.path, h.nofrm h45.1 h45.2, vk (by omega)]; rfl
 rename_i hv
 simp only [Bool.or_eq_true, beq_iff_eq, not_or] at hv
 rw [if_pos (by rw [beq_iff_eq]; omega), pk h.path, h.nofrm h45.1 h45.2, h.noval hv.1.1 hv.1.2 hv.2, z0]; rfl
theorem opsF_E {ops : List Opn} (hl : ops.length ≤ 13) (h : ∀ o ∈ ops, OpE o) : opsF ops = true := by
 unfold opsF
 rw [decide_eq_true (by omega), Bool.true_and, Bool.not_eq_true', List.any_eq_false]
 exact fun x hx => by rw [oneF_E (h x hx)]; decide
abbrev patE (ops : List Opn) : Pat := ⟨1, ops, Tree.zero, []⟩
theorem check_E {ops : List Opn} (hl : ops.length ≤ 13) (h : ∀ o ∈ ops, OpE o) : checkP (patE ops) = true := by
 unfold checkP
 rw [if_pos (show ((patE ops).lang == 1) = true from rfl), opsF_E hl h, show zeroF Tree.zero = true from by kernel_rfl]; rfl
theorem write_E {ops : List Opn} (hl : ops.length ≤ 13) (h : ∀ o ∈ ops, OpE o) : WriteR (patE ops) = (arrT (ops.map objT), 0) := by
 have hw : wT (patE ops) = arrT (ops.map objT) := by unfold wT; rw [if_pos (show ((patE ops).lang == 1) = true from rfl)]
 unfold WriteR
 rw [if_pos (check_E hl h), hw, if_pos (arr_valid (by rw [List.length_map]; exact hl) (fun u hu => ⟨goodN_mono (by decide) (Nat.le_refl _) (obj_in h u hu).1, Nat.le_succ_of_le (obj_in h u hu).2⟩))]
theorem read_1 {l : List Tree} (hv : validT (arrT l) = true) (hl : l.length ≤ 60) : readR 1 (arrT l) = (⟨1, (readOps l).1, Tree.zero, []⟩, (readOps l).2) := by
 unfold readR
 rw [if_pos (by rw [hv]; rfl), if_pos (by decide), if_pos (show ((arrT l).kind == 6) = true from rfl), if_pos (show decide (((arrT l).v.length : Int) ≤ 60) = true from decide_eq_true (by show (l.length : Int) ≤ 60; omega))]; rfl
theorem getD_map {α β : Type} {f : α → β} {l : List α} {i : Nat} (h : i < l.length) (a : α) (b : β) : (l.map f).getD i b = f (l.getD i a) := by
 rw [List.getD_eq_getElem?_getD, List.getD_eq_getElem?_getD, List.getElem?_map, List.getElem?_eq_getElem h]; rfl
theorem read_E {ops : List Opn} (hl : ops.length ≤ 13) (h : ∀ o ∈ ops, OpE o) : ReadR 1 (arrT (ops.map objT)) = (patE ops, 0) := by
 have hv := arr_valid (l := ops.map objT) (by rw [List.length_map]; exact hl) (fun u hu => ⟨goodN_mono (by decide) (Nat.le_refl _) (obj_in h u hu).1, Nat.le_succ_of_le (obj_in h u hu).2⟩)
 have ho : ∀ o ∈ ops, opR (objT o) = (o, 0) := fun o ho => opR_E (h o ho)
 have ha := readOps_all (l := ops.map objT) (fun j hj => by
  rw [List.length_map] at hj
  rw [getD_map hj (dflt .opn), ho _ (getD_mem hj _)]; rfl)
 unfold ReadR
 rw [read_1 hv (by rw [List.length_map]; omega), ha, if_pos (show ((0 : Int) == 0) = true from rfl), List.map_map]
 have e : ops.map ((fun x => (opR x).1) ∘ objT) = ops := (List.map_congr_left (fun o hm => by show (opR (objT o)).1 = o; rw [ho o hm])).trans (List.map_id _)
 rw [e]
def cB (c : UInt8) : Bool := c.toNat / 64 == 2
def u3 (c d e : UInt8) : Prop := 224 ≤ c.toNat ∧ c.toNat < 240 ∧ cB d = true ∧ cB e = true ∧ 2048 ≤ c.toNat % 16 * 4096 + d.toNat % 64 * 64 + e.toNat % 64 ∧ (c.toNat % 16 * 4096 + d.toNat % 64 * 64 + e.toNat % 64 < 55296 ∨ 57343 < c.toNat % 16 * 4096 + d.toNat % 64 * 64 + e.toNat % 64)
def u4v (c d e f : UInt8) : Prop := 240 ≤ c.toNat ∧ c.toNat < 245 ∧ cB d = true ∧ cB e = true ∧ cB f = true ∧ 65536 ≤ c.toNat % 8 * 262144 + d.toNat % 64 * 4096 + e.toNat % 64 * 64 + f.toNat % 64 ∧ c.toNat % 8 * 262144 + d.toNat % 64 * 4096 + e.toNat % 64 * 64 + f.toNat % 64 ≤ 1114111
inductive U8 : List UInt8 → Prop
 | nil : U8 []
 | one {c : UInt8} {l : List UInt8} (h : c.toNat < 128) (hl : U8 l) : U8 (c :: l)
 | two {c d : UInt8} {l : List UInt8} (h : 194 ≤ c.toNat ∧ c.toNat < 224 ∧ cB d = true) (hl : U8 l) : U8 (c :: d :: l)
 | three {c d e : UInt8} {l : List UInt8} (h : u3 c d e) (hl : U8 l) : U8 (c :: d :: e :: l)
 | four {c d e f : UInt8} {l : List UInt8} (h : u4v c d e f) (hl : U8 l) : U8 (c :: d :: e :: f :: l)
theorem cB_hi {c : UInt8} (h : cB c = true) : 128 ≤ c.toNat := by unfold cB at h; have := eq_of_beq h; omega
theorem drop_bN {s : ByteArray} {i : Nat} (h : i < s.size) : ∃ x : UInt8, s.data.toList.drop i = x :: s.data.toList.drop (i + 1) ∧ bN s i = x.toNat := by
 have hl : i < s.data.toList.length := by rw [← Lib.size_eq]; exact h
 refine ⟨s.data.toList[i], List.drop_eq_getElem_cons hl, ?_⟩
 unfold bN
 rw [← Array.getElem?_toList, List.getElem?_eq_getElem hl]; rfl
theorem contB_drop {s : ByteArray} {i : Nat} (h : contB s i = true) : ∃ x : UInt8, s.data.toList.drop i = x :: s.data.toList.drop (i + 1) ∧ bN s i = x.toNat ∧ cB x = true := by
 unfold contB at h
 rw [Bool.and_eq_true, decide_eq_true_eq] at h
 obtain ⟨x, h1, h2⟩ := drop_bN h.1
 exact ⟨x, h1, h2, by unfold cB; rw [← h2]; exact h.2⟩
theorem valid_step {s : ByteArray} {b i : Nat} (hi : i < s.size) : X.validAt s (b + 1) i = true ↔ 0 ≤ (runeF s i).1 ∧ X.validAt s b (i + (runeF s i).2.toNat) = true := by
 rw [← runes_valid, runesF, if_pos hi, List.all_cons, Bool.and_eq_true, decide_eq_true_eq, runes_valid]
theorem valid_U8 {s : ByteArray} : ∀ (b i : Nat), s.size ≤ i + b → X.validAt s b i = true → U8 (s.data.toList.drop i)
 | 0, i, h, _ => by rw [List.drop_eq_nil_of_le (by rw [← Lib.size_eq]; omega)]; exact .nil
 | b + 1, i, h, hv => by
  by_cases hi : i < s.size
  obtain ⟨h1, h2⟩ := (valid_step hi).1 hv
  obtain ⟨x, e1, e2⟩ := drop_bN hi
  unfold runeF at h1 h2
  split at h1
  rename_i h0
  rw [if_pos h0] at h2
  rw [e1]
  exact .one (by omega) (valid_U8 b (i + 1) (by omega) h2)
  rename_i h0
  rw [if_neg h0] at h2
  split at h1
  rename_i hc
  rw [if_pos hc] at h2
  unfold c2B at hc
  simp only [Bool.and_eq_true, decide_eq_true_eq] at hc
  obtain ⟨y, f1, f2, f3⟩ := contB_drop hc.2.2
  rw [e1, f1]
  exact .two ⟨by omega, by omega, f3⟩ (valid_U8 b (i + 2) (by omega) h2)
  rename_i hc0
  rw [if_neg hc0] at h2
  split at h1
  rename_i hc
  rw [if_pos hc] at h2
  split at h1
  rename_i hr
  rw [if_pos hr] at h2
  unfold c3B at hc
  simp only [Bool.and_eq_true, decide_eq_true_eq] at hc
  obtain ⟨y, f1, f2, f3⟩ := contB_drop hc.2.2.1
  obtain ⟨z, g1, g2, g3⟩ := contB_drop hc.2.2.2
  unfold rune3 at hr
  rw [e1, f1, g1]
  rw [e2, f2, g2] at hr
  exact .three ⟨by omega, by omega, f3, g3, hr.1, hr.2⟩ (valid_U8 b (i + 3) (by omega) h2)
  exact absurd h1 (by decide)
  rename_i hc1
  rw [if_neg hc1] at h2
  split at h1
  rename_i hc
  rw [if_pos hc] at h2
  split at h1
  rename_i hr
  rw [if_pos hr] at h2
  unfold c4B at hc
  simp only [Bool.and_eq_true, decide_eq_true_eq] at hc
  obtain ⟨y, f1, f2, f3⟩ := contB_drop hc.2.2.1
  obtain ⟨z, g1, g2, g3⟩ := contB_drop hc.2.2.2.1
  obtain ⟨u, k1, k2, k3⟩ := contB_drop hc.2.2.2.2
  unfold rune4 at hr
  rw [e1, f1, g1, k1]
  rw [e2, f2, g2, k2] at hr
  exact .four ⟨by omega, by omega, f3, g3, k3, hr.1, hr.2⟩ (valid_U8 b (i + 4) (by omega) h2)
  exact absurd h1 (by decide)
  exact absurd h1 (by decide)
  rw [List.drop_eq_nil_of_le (by rw [← Lib.size_eq]; omega)]; exact .nil
theorem bN_drop {s : ByteArray} {i k : Nat} {x : UInt8} {l : List UInt8} (h : (s.data.toList.drop i)[k]? = some x) : i + k < s.size ∧ bN s (i + k) = x.toNat := by
 rw [List.getElem?_drop] at h
 obtain ⟨hl, he⟩ := List.getElem?_eq_some_iff.1 h
 refine ⟨by rw [Lib.size_eq]; exact hl, ?_⟩
 unfold bN
 rw [← Array.getElem?_toList, h]; rfl
theorem contB_at {s : ByteArray} {i k : Nat} {x : UInt8} (h : (s.data.toList.drop i)[k]? = some x) (hx : cB x = true) : contB s (i + k) = true := by
 obtain ⟨h1, h2⟩ := bN_drop (l := []) h
 unfold contB
 rw [decide_eq_true h1, h2, Bool.true_and]; exact hx
theorem U8_valid {s : ByteArray} {l : List UInt8} (hu : U8 l) : ∀ (b i : Nat), s.size ≤ i + b → s.data.toList.drop i = l → X.validAt s b i = true := by
 induction hu with
 | nil =>
  intro b i h e
  refine X.validAt_end s b i (fun hi => ?_)
  have := congrArg List.length e
  rw [List.length_drop, ← Lib.size_eq, List.length_nil] at this; omega
 | @one c l h hl ih =>
  intro b i hb e
  obtain ⟨h1, h2⟩ := bN_drop (s := s) (i := i) (k := 0) (l := []) (by rw [e]; rfl)
  rw [Nat.add_zero] at h1 h2
  obtain ⟨b, rfl⟩ : ∃ b', b = b' + 1 := ⟨b - 1, by omega⟩
  have hr : runeF s i = ((bN s i : Int), 1) := by unfold runeF; rw [if_pos (by omega)]
  rw [valid_step h1, hr]
  exact ⟨Int.natCast_nonneg _, ih b (i + 1) (by omega) (by rw [← List.drop_drop, e]; rfl)⟩
 | @two c d l h hl ih =>
  intro b i hb e
  obtain ⟨h1, h2⟩ := bN_drop (s := s) (i := i) (k := 0) (l := []) (by rw [e]; rfl)
  rw [Nat.add_zero] at h1 h2
  have hd := contB_at (s := s) (i := i) (k := 1) (by rw [e]; rfl) h.2.2
  obtain ⟨b, rfl⟩ : ∃ b', b = b' + 1 := ⟨b - 1, by omega⟩
  have h2B : c2B s i = true := by
   unfold c2B
   rw [hd, decide_eq_true (by omega), decide_eq_true (by omega)]; rfl
  have hr : runeF s i = ((rune2 s i : Int), 2) := by unfold runeF; rw [if_neg (by omega), if_pos h2B]
  rw [valid_step h1, hr]
  exact ⟨Int.natCast_nonneg _, ih b (i + 2) (by omega) (by rw [← List.drop_drop, e]; rfl)⟩
 | @three c d e' l h hl ih =>
  intro b i hb e
  obtain ⟨g1, g2, g3, g4, g5, g6⟩ := h
  obtain ⟨h1, h2⟩ := bN_drop (s := s) (i := i) (k := 0) (l := []) (by rw [e]; rfl)
  obtain ⟨k1, k2⟩ := bN_drop (s := s) (i := i) (k := 1) (l := []) (by rw [e]; rfl)
  obtain ⟨m1, m2⟩ := bN_drop (s := s) (i := i) (k := 2) (l := []) (by rw [e]; rfl)
  rw [Nat.add_zero] at h1 h2
  have hd := contB_at (s := s) (i := i) (k := 1) (by rw [e]; rfl) g3
  have he := contB_at (s := s) (i := i) (k := 2) (by rw [e]; rfl) g4
  obtain ⟨b, rfl⟩ : ∃ b', b = b' + 1 := ⟨b - 1, by omega⟩
  have h2B : c2B s i = false := by
   unfold c2B
   rw [show decide ((bN s i : Int) < 224) = false from decide_eq_false (by omega)]; simp
  have h3B : c3B s i = true := by
   unfold c3B
   rw [hd, he, decide_eq_true (by omega), decide_eq_true (by omega)]; rfl
  have hr : runeF s i = ((rune3 s i : Int), 3) := by
   unfold runeF
   rw [if_neg (by omega), if_neg (by rw [h2B]; decide), if_pos h3B, if_pos (by unfold rune3; rw [h2, k2, m2]; exact ⟨g5, g6⟩)]
  rw [valid_step h1, hr]
  exact ⟨Int.natCast_nonneg _, ih b (i + 3) (by omega) (by rw [← List.drop_drop, e]; rfl)⟩
 | @four c d e' f l h hl ih =>
  intro b i hb e
  obtain ⟨g1, g2, g3, g4, g5, g6, g7⟩ := h
  obtain ⟨h1, h2⟩ := bN_drop (s := s) (i := i) (k := 0) (l := []) (by rw [e]; rfl)
  obtain ⟨k1, k2⟩ := bN_drop (s := s) (i := i) (k := 1) (l := []) (by rw [e]; rfl)
  obtain ⟨m1, m2⟩ := bN_drop (s := s) (i := i) (k := 2) (l := []) (by rw [e]; rfl)
  obtain ⟨n1, n2⟩ := bN_drop (s := s) (i := i) (k := 3) (l := []) (by rw [e]; rfl)
  rw [Nat.add_zero] at h1 h2
  have hd := contB_at (s := s) (i := i) (k := 1) (by rw [e]; rfl) g3
  have he := contB_at (s := s) (i := i) (k := 2) (by rw [e]; rfl) g4
  have hf := contB_at (s := s) (i := i) (k := 3) (by rw [e]; rfl) g5
  obtain ⟨b, rfl⟩ : ∃ b', b = b' + 1 := ⟨b - 1, by omega⟩
  have h2B : c2B s i = false := by
   unfold c2B
   rw [show decide ((bN s i : Int) < 224) = false from decide_eq_false (by omega)]; simp
  have h3B : c3B s i = false := by
   unfold c3B
   rw [show decide ((bN s i : Int) < 240) = false from decide_eq_false (by omega)]; simp
  have h4B : c4B s i = true := by
   unfold c4B
   rw [hd, he, hf, decide_eq_true (by omega), decide_eq_true (by omega)]; rfl
  have hr : runeF s i = ((rune4 s i : Int), 4) := by
   unfold runeF
   rw [if_neg (by omega), if_neg (by rw [h2B]; decide), if_neg (by rw [h3B]; decide), if_pos h4B, if_pos (by unfold rune4; rw [h2, k2, m2, n2]; exact ⟨g6, g7⟩)]
  rw [valid_step h1, hr]
  exact ⟨Int.natCast_nonneg _, ih b (i + 4) (by omega) (by rw [← List.drop_drop, e]; rfl)⟩
theorem valid_iff (l : List UInt8) : X.validAt (ba l) (ba l).size 0 = true ↔ U8 l := by
 refine ⟨fun h => ?_, fun h => U8_valid h _ 0 (by omega) (by rw [ba_data]; rfl)⟩
 have := valid_U8 _ 0 (by omega) h
 rw [ba_data] at this; exact this
theorem U8.cut {c : UInt8} (hc : c.toNat < 128) {l : List UInt8} (hu : U8 l) : ∀ a b : List UInt8, l = a ++ c :: b → U8 a ∧ U8 b := by
 induction hu with
 | nil => intro a b e; simp at e
 | @one x l h hl ih =>
  intro a b e
  cases a with
  | nil =>
   rw [List.nil_append] at e
   injection e with e1 e2
   exact ⟨.nil, by rw [← e2]; exact hl⟩
  | cons y a =>
   rw [List.cons_append] at e
   injection e with e1 e2
   have := ih a b e2
   rw [← e1]
   exact ⟨.one h this.1, this.2⟩
 | @two x d l h hl ih =>
  intro a b e
  rcases a with _ | ⟨y, _ | ⟨z, a⟩⟩
  rw [List.nil_append] at e
  injection e with e1 e2
  subst e1; omega
  injection e with e1 e2
  injection e2 with e2 e3
  subst e2
  have := cB_hi h.2.2; omega
  injection e with e1 e2
  injection e2 with e2 e3
  have := ih a b e3
  rw [← e1, ← e2]
  exact ⟨.two h this.1, this.2⟩
 | @three x d f l h hl ih =>
  intro a b e
  obtain ⟨g1, g2, g3, g4, g5⟩ := h
  rcases a with _ | ⟨y, _ | ⟨z, _ | ⟨u, a⟩⟩⟩
  rw [List.nil_append] at e
  injection e with e1 e2
  subst e1; omega
  injection e with e1 e2
  injection e2 with e2 e3
  subst e2
  have := cB_hi g3; omega
  injection e with e1 e2
  injection e2 with e2 e3
  injection e3 with e3 e4
  subst e3
  have := cB_hi g4; omega
  injection e with e1 e2
  injection e2 with e2 e3
  injection e3 with e3 e4
  have := ih a b e4
  rw [← e1, ← e2, ← e3]
  exact ⟨.three ⟨g1, g2, g3, g4, g5⟩ this.1, this.2⟩
 | @four x d f g l h hl ih =>
  intro a b e
  obtain ⟨g1, g2, g3, g4, g5, g6⟩ := h
  rcases a with _ | ⟨y, _ | ⟨z, _ | ⟨u, _ | ⟨v, a⟩⟩⟩⟩
  rw [List.nil_append] at e
  injection e with e1 e2
  subst e1; omega
  injection e with e1 e2
  injection e2 with e2 e3
  subst e2
  have := cB_hi g3; omega
  injection e with e1 e2
  injection e2 with e2 e3
  injection e3 with e3 e4
  subst e3
  have := cB_hi g4; omega
  injection e with e1 e2
  injection e2 with e2 e3
  injection e3 with e3 e4
  injection e4 with e4 e5
  subst e4
  have := cB_hi g5; omega
  injection e with e1 e2
  injection e2 with e2 e3
  injection e3 with e3 e4
  injection e4 with e4 e5
  have := ih a b e5
  rw [← e1, ← e2, ← e3, ← e4]
  exact ⟨.four ⟨g1, g2, g3, g4, g5, g6⟩ this.1, this.2⟩
theorem U8.tail {c : UInt8} {l : List UInt8} (h : U8 (c :: l)) (hc : c.toNat < 128) : U8 l := (h.cut hc [] l rfl).2
theorem spl_in {c : UInt8} : ∀ (n : Nat) (l : List UInt8), l.length ≤ n → ∀ x ∈ spl c l, c ∉ x ∧ x.length ≤ l.length ∧ (c.toNat < 128 → U8 l → U8 x)
 | n, l, hn, x, hx => by
  by_cases hm : c ∈ l
  obtain ⟨a, b, e, hna⟩ := List.eq_append_cons_of_mem hm
  rw [e, spl_eq, spl_free hna] at hx
  rcases List.mem_append.1 hx with hx | hx
  rw [List.mem_singleton] at hx
  subst hx
  refine ⟨hna, by rw [e]; simp, fun hc hu => (hu.cut hc _ _ e).1⟩
  have hl : b.length + 1 ≤ l.length := by rw [e]; simp
  cases n with
  | zero => omega
  | succ n =>
   have ih := spl_in n b (by omega) x hx
   exact ⟨ih.1, by omega, fun hc hu => ih.2.2 hc (hu.cut hc _ _ e).2⟩
  rw [spl_free hm, List.mem_singleton] at hx
  subst hx
  exact ⟨hm, Nat.le_refl _, fun _ hu => hu⟩
theorem tok_U8 {l : List UInt8} (hu : U8 l) : ∀ m, X.tok l = some m → U8 m := by
 induction hu with
 | nil => intro m h; rw [X.tok] at h; obtain rfl := Option.some.inj h; exact .nil
 | @one c l h hl ih =>
  intro m hm
  by_cases hc : c = 126
  subst hc
  cases l with
  | nil => rw [X.tok, if_pos rfl] at hm; cases hm
  | cons d r =>
   rw [X.tok, if_pos rfl] at hm
   split at hm
   rename_i hd
   subst hd
   cases hr : X.tok r with
   | none => rw [hr] at hm; cases hm
   | some m' =>
    rw [hr] at hm
    obtain rfl := Option.some.inj hm
    have := ih (48 :: m') (by rw [X.tok_plain _ _ (by decide), hr]; rfl)
    exact .one (by decide) (this.tail (by decide))
   split at hm
   rename_i hd
   subst hd
   cases hr : X.tok r with
   | none => rw [hr] at hm; cases hm
   | some m' =>
    rw [hr] at hm
    obtain rfl := Option.some.inj hm
    have := ih (49 :: m') (by rw [X.tok_plain _ _ (by decide), hr]; rfl)
    exact .one (by decide) (this.tail (by decide))
   cases hm
  rw [X.tok_plain _ _ hc] at hm
  cases hr : X.tok l with
  | none => rw [hr] at hm; cases hm
  | some m' =>
   rw [hr] at hm
   obtain rfl := Option.some.inj hm
   exact .one h (ih _ hr)
 | @two c d l h hl ih =>
  intro m hm
  have h2 := cB_hi h.2.2
  rw [X.tok_plain _ _ (by rintro rfl; exact absurd h.1 (by decide)), X.tok_plain _ _ (by rintro rfl; exact absurd h2 (by decide))] at hm
  cases hr : X.tok l with
  | none => rw [hr] at hm; cases hm
  | some m' =>
   rw [hr] at hm
   obtain rfl := Option.some.inj hm
   exact .two h (ih _ hr)
 | @three c d e l h hl ih =>
  intro m hm
  have h2 := cB_hi h.2.2.1
  have h3 := cB_hi h.2.2.2.1
  rw [X.tok_plain _ _ (by rintro rfl; exact absurd h.1 (by decide)), X.tok_plain _ _ (by rintro rfl; exact absurd h2 (by decide)), X.tok_plain _ _ (by rintro rfl; exact absurd h3 (by decide))] at hm
  cases hr : X.tok l with
  | none => rw [hr] at hm; cases hm
  | some m' =>
   rw [hr] at hm
   obtain rfl := Option.some.inj hm
   exact .three h (ih _ hr)
 | @four c d e f l h hl ih =>
  intro m hm
  have h2 := cB_hi h.2.2.1
  have h3 := cB_hi h.2.2.2.1
  have h4 := cB_hi h.2.2.2.2.1
  rw [X.tok_plain _ _ (by rintro rfl; exact absurd h.1 (by decide)), X.tok_plain _ _ (by rintro rfl; exact absurd h2 (by decide)), X.tok_plain _ _ (by rintro rfl; exact absurd h3 (by decide)), X.tok_plain _ _ (by rintro rfl; exact absurd h4 (by decide))] at hm
  cases hr : X.tok l with
  | none => rw [hr] at hm; cases hm
  | some m' =>
   rw [hr] at hm
   obtain rfl := Option.some.inj hm
   exact .four h (ih _ hr)
theorem tok_back : ∀ (n : Nat) (l m : List UInt8), l.length ≤ n → X.tok l = some m → (47 : UInt8) ∉ l → escL m = l ∧ m.length ≤ l.length
 | n, [], m, _, h, _ => by rw [X.tok] at h; obtain rfl := Option.some.inj h; exact ⟨rfl, Nat.le_refl _⟩
 | 0, c :: l, m, hn, _, _ => by simp at hn
 | n + 1, c :: l, m, hn, h, h47 => by
  rw [List.length_cons] at hn
  have hl47 : (47 : UInt8) ∉ l := fun hm => h47 (List.mem_cons_of_mem _ hm)
  by_cases hc : c = 126
  subst hc
  cases l with
  | nil => rw [X.tok, if_pos rfl] at h; cases h
  | cons d r =>
   rw [List.length_cons] at hn
   rw [X.tok, if_pos rfl] at h
   have hr47 : (47 : UInt8) ∉ r := fun hm => hl47 (List.mem_cons_of_mem _ hm)
   split at h
   rename_i hd
   subst hd
   cases hr : X.tok r with
   | none => rw [hr] at h; cases h
   | some m' =>
    rw [hr] at h
    obtain rfl := Option.some.inj h
    have ih := tok_back n r m' (by omega) hr hr47
    refine ⟨?_, by simp; omega⟩
    show escC 126 ++ escL m' = _
    rw [ih.1]; rfl
   split at h
   rename_i hd
   subst hd
   cases hr : X.tok r with
   | none => rw [hr] at h; cases h
   | some m' =>
    rw [hr] at h
    obtain rfl := Option.some.inj h
    have ih := tok_back n r m' (by omega) hr hr47
    refine ⟨?_, by simp; omega⟩
    show escC 47 ++ escL m' = _
    rw [ih.1]; rfl
   cases h
  rw [X.tok_plain _ _ hc] at h
  cases hr : X.tok l with
  | none => rw [hr] at h; cases h
  | some m' =>
   rw [hr] at h
   obtain rfl := Option.some.inj h
   have ih := tok_back n l m' (by omega) hr hl47
   refine ⟨?_, by simp; omega⟩
   show escC c ++ escL m' = _
   unfold escC
   rw [if_neg hc, if_neg (fun e => h47 (by rw [e]; exact List.mem_cons_self ..)), ih.1]; rfl
theorem jt_spl (c : UInt8) : ∀ l : List UInt8, jt c (spl c l) = c :: l
 | [] => by simp [spl, jt]
 | b :: l => by
  have ih := jt_spl c l
  unfold spl
  split
  rename_i h
  rw [jt_cons, ih, h]; rfl
  cases hs : spl c l with
  | nil => exact absurd hs (spl_ne c l)
  | cons h t =>
   rw [hs, jt_cons] at ih
   injection ih with _ ih
   show jt c ((b :: h) :: t) = _
   rw [jt_cons, List.cons_append, ih]
theorem jn_spl (c : UInt8) (l : List UInt8) : jn c (spl c l) = l := by
 have h := jt_spl c l
 cases hs : spl c l with
 | nil => exact absurd hs (spl_ne c l)
 | cons x r =>
  rw [hs, jt_cons] at h
  injection h
theorem ba_ext {a b : ByteArray} (h : a.data.toList = b.data.toList) : a = b := by rw [← ba_of a, h, ba_of]
theorem pparse_is {s : ByteArray} (h : (pparseF s).2 = 0) (hz : s.size ≤ 2000) : (pparseF s).1.length ≤ 63 ∧ (∀ x ∈ (pparseF s).1, badTok x = false) ∧ ptxt (pparseF s).1 = s := by
 unfold pparseF at h ⊢
 split at h
 ·rename_i h0
  rw [if_pos h0]
  exact ⟨Nat.zero_le _, fun x hx => by simp at hx, (eqT_iff.1 h0).symm⟩
 ·rename_i h0
  rw [if_neg h0]
  split at h
  ·exact absurd h (by decide)
  ·rename_i h1
   rw [if_neg h1]
   split at h
   ·exact absurd h (by decide)
   ·rename_i h2
    rw [if_neg h2]
    split at h
    ·exact absurd h (by decide)
    ·rename_i h3
     rw [if_neg h3]
     have h1' : (byteAt s 0 != 47 || !X.validAt s s.size 0) = false := by simpa using h1
     rw [Bool.or_eq_false_iff, bne_eq_false_iff_eq] at h1'
     have hv : X.validAt s s.size 0 = true := by simpa using h1'.2
     have hu := valid_U8 _ 0 (by omega) hv
     rw [List.drop_zero] at hu
     have hp : 0 < s.size := str_pos (by simpa using h0)
     obtain ⟨x, hx1, hx2⟩ := drop_bN hp
     rw [List.drop_zero] at hx1
     have h47 : x = 47 := by
      have h4 : (bN s 0 : Int) = 47 := h1'.1
      rw [hx2] at h4
      exact UInt8.toNat_inj.1 (by have : (47 : UInt8).toNat = 47 := rfl; omega)
     subst h47
     rw [hx1] at hu
     have hur := hu.tail (by decide)
     have hr : (s.extract 1 s.size).data.toList = s.data.toList.drop 1 := by
      rw [Lib.extract_data, List.take_of_length_le (by rw [List.length_drop, ← Lib.size_eq]; omega)]
     have hps : partsF s = (spl 47 (s.data.toList.drop 1)).map ba := by
      unfold partsF
      rw [← ba_of (s.extract 1 s.size), hr, splitF_spl]
     have hrl : (s.data.toList.drop 1).length ≤ 2000 := by rw [List.length_drop, ← Lib.size_eq]; omega
     have hall : ∀ l ∈ spl 47 (s.data.toList.drop 1), ∃ m, X.tok l = some m ∧ escL m = l ∧ m.length ≤ 2000 ∧ U8 m := fun l hl => by
      have hs := spl_in (c := 47) _ _ (Nat.le_refl _) l hl
      have hb : (tokF (ba l)).2 = true := by
       have h2' : ((partsF s).any fun q => !(tokF q).2) = false := by simpa using h2
       rw [List.any_eq_false] at h2'
       have := h2' (ba l) (by rw [hps]; exact List.mem_map.2 ⟨l, hl, rfl⟩)
       simpa using this
      unfold tokF at hb
      rw [ba_data] at hb
      cases ht : X.tok l with
      | none => rw [ht] at hb; cases hb
      | some m =>
       have hk := tok_back _ l m (Nat.le_refl _) ht hs.1
       exact ⟨m, rfl, hk.1, by omega, tok_U8 (hs.2.2 (by decide) hur) m ht⟩
     have htk : ∀ l m, X.tok l = some m → (tokF (ba l)).1 = ba m := fun l m hm => by
      unfold tokF
      rw [ba_data, hm]
     refine ⟨?_, fun y hy => ?_, ba_ext ?_⟩
     ·show ((partsF s).map fun q => (tokF q).1).length ≤ 63
      rw [List.length_map]; omega
     ·obtain ⟨q, hq, rfl⟩ := List.mem_map.1 (show y ∈ (partsF s).map fun q => (tokF q).1 from hy)
      rw [hps] at hq
      obtain ⟨l, hl, rfl⟩ := List.mem_map.1 hq
      obtain ⟨m, e1, e2, e3, e4⟩ := hall l hl
      rw [htk l m e1]
      unfold badTok
      rw [(valid_iff m).2 e4, decide_eq_false (by rw [ba_size]; omega)]; rfl
     ·show (ptxt ((partsF s).map fun q => (tokF q).1)).data.toList = _
      rw [ptxt_jt, hps, List.map_map, List.map_map]
      have e : (spl 47 (s.data.toList.drop 1)).map ((escB ∘ fun q => (tokF q).1) ∘ ba) = spl 47 (s.data.toList.drop 1) := (List.map_congr_left (fun l hl => by
       obtain ⟨m, e1, e2, e3, e4⟩ := hall l hl
       show escL (tokF (ba l)).1.data.toList = l
       rw [htk l m e1, ba_data, e2])).trans (List.map_id _)
      rw [e, jt_spl]
      exact hx1.symm
theorem parse_is {s : ByteArray} (h : (parseF s).2 = 0) : textF (parseF s).1 = s ∧ checkF (parseF s).1 = true := by
 unfold parseF at h ⊢
 split at h
 rename_i h0
 rw [if_pos h0]
 exact ⟨(eqT_iff.1 h0).symm ▸ (by kernel_rfl), by kernel_rfl⟩
 rename_i h0
 rw [if_neg h0]
 split at h
 exact absurd h (by decide)
 rename_i h1
 rw [if_neg h1]
 split at h
 rename_i h2
 rw [if_pos h2]
 refine ⟨?_, h2⟩
 show textF (cutsF s) = s
 have e : cutsF s = ((spl 44 s.data.toList).map (spl 46)).map fun q => q.map ba := by
  rw [← ba_of s, cutsF_ba, ba_data, List.map_map]; rfl
 rw [e] at h2 ⊢
 rw [textF_ba h2]
 unfold textL
 rw [List.map_map]
 have e2 : (spl 44 s.data.toList).map (jn 46 ∘ spl 46) = spl 44 s.data.toList := (List.map_congr_left (fun l _ => jn_spl 46 l)).trans (List.map_id _)
 rw [e2, jn_spl, ba_of]
 exact absurd h (by decide)
theorem own_parts {t : Tree} (h : ownO t = true) : truthO t = true ∧ numO t = true ∧ textO t = true ∧ keysO t = true ∧ itemsO t = true := by
 simp only [ownO, Bool.and_eq_true] at h
 exact ⟨h.2.1, h.2.2.1, h.2.2.2.1, h.2.2.2.2.1, h.2.2.2.2.2⟩
theorem own_b {t : Tree} (h : ownO t = true) (h2 : ¬ t.kind = 2) : t.b = false := by
 have := (own_parts h).1
 unfold truthO at this
 rw [if_neg h2] at this; simpa using this
theorem own_n {t : Tree} (h : ownO t = true) (h3 : ¬ t.kind = 3) : t.n = ⟨false, [], 0⟩ := by
 have h1 := (own_parts h).2.1
 unfold numO at h1
 rw [if_neg h3] at h1
 unfold ownN at h1
 generalize t.n = n at h1
 obtain ⟨a, m, e⟩ := n
 simp only [Bool.and_eq_true, Bool.not_eq_true', beq_iff_eq] at h1
 obtain ⟨h4, h5, h6⟩ := h1
 have h7 : m = [] := List.eq_nil_of_length_eq_zero (by omega)
 rw [h4, h6, h7]
theorem own_s {t : Tree} (h : ownO t = true) (h4 : ¬ t.kind = 4) (h5 : ¬ t.kind = 5) : t.s = ba [] := by
 have h1 := (own_parts h).2.2.1
 unfold textO at h1
 rw [if_neg h4, if_neg h5] at h1
 exact eqT_iff.1 h1
theorem own_k0 {t : Tree} (h : ownO t = true) (h7 : ¬ t.kind = 7) : t.k = [] := by
 have h1 := (own_parts h).2.2.2.1
 unfold keysO at h1
 rw [if_neg h7, beq_iff_eq] at h1
 exact List.eq_nil_of_length_eq_zero (by omega)
theorem own_v0 {t : Tree} (h : ownO t = true) (h7 : ¬ t.kind = 7) (h6 : ¬ t.kind = 6) : t.v = [] := by
 have h1 := (own_parts h).2.2.2.2
 unfold itemsO at h1
 rw [if_neg (by rintro (h | h); exact h7 h; exact h6 h), beq_iff_eq] at h1
 exact List.eq_nil_of_length_eq_zero (by omega)
theorem canon_text {t : Tree} (h : ownO t = true) (h4 : t.kind = 4) : t = textT t.s := by
 have e : t = .mk t.kind t.b t.n t.s t.k t.v := (Tree.eta' t).symm
 rw [own_b h (by omega), own_n h (by omega), own_k0 h (by omega), own_v0 h (by omega) (by omega), h4] at e
 exact e
theorem canon_arr {t : Tree} (h : ownO t = true) (h6 : t.kind = 6) : t = arrT t.v := by
 have e : t = .mk t.kind t.b t.n t.s t.k t.v := (Tree.eta' t).symm
 rw [own_b h (by omega), own_n h (by omega), own_k0 h (by omega), own_s h (by omega) (by omega), h6] at e
 exact e
theorem canon_obj {t : Tree} (h : ownO t = true) (h7 : t.kind = 7) : t = .mk 7 false ⟨false, [], 0⟩ (ba []) t.k t.v := by
 have e : t = .mk t.kind t.b t.n t.s t.k t.v := (Tree.eta' t).symm
 rw [own_b h (by omega), own_n h (by omega), own_s h (by omega) (by omega), h7] at e
 exact e
mutual
theorem chk_more : ∀ (t : Tree) (d l d' l' : Int), d' ≤ d → 0 ≤ l → l ≤ l' → (chk t d l).1 = true → (chk t d' l').1 = true ∧ (chk t d' l').2 = (chk t d l).2 + (l' - l)
 | .mk k b n s ks v, d, l, d', l', hd, h0, hl, h => by
  rw [chk_eq] at h ⊢
  split at h
  cases h
  rename_i hc
  have hc' : ¬ (l' - 1 < 0 ∨ d' > 64 ∨ ownO (Tree.mk k b n s ks v) = false) := by
   rintro (hq | hq | hq)
   omega
   exact hc (.inr (.inl (by omega)))
   exact hc (.inr (.inr hq))
  rw [if_neg hc', chk_eq, if_neg hc]
  have := chkL_more v (d + 1) (l - 1) (d' + 1) (l' - 1) (by omega) (by omega) (by omega) h
  refine ⟨this.1, ?_⟩
  show (chkL v (d' + 1) (l' - 1)).2 = (chkL v (d + 1) (l - 1)).2 + (l' - l)
  rw [this.2]; omega
theorem chkL_more : ∀ (v : List Tree) (d l d' l' : Int), d' ≤ d → 0 ≤ l → l ≤ l' → (chkL v d l).1 = true → (chkL v d' l').1 = true ∧ (chkL v d' l').2 = (chkL v d l).2 + (l' - l)
 | [], d, l, d', l', hd, h0, hl, h => ⟨rfl, by simp only [chkL]; omega⟩
 | x :: v, d, l, d', l', hd, h0, hl, h => by
  simp only [chkL] at h ⊢
  split at h
  rename_i h1
  have h2 := chk_more x d l d' l' hd h0 hl h1
  have h3 := (chk_le x d l h0).2 h1
  rw [if_pos h2.1, if_pos h1]
  have h4 := chkL_more v d (chk x d l).2 d' (chk x d' l').2 hd h3 (by omega) h
  refine ⟨h4.1, ?_⟩
  rw [h4.2]; omega
  cases h
end
theorem chkL_mem2 : ∀ {v : List Tree} {d l : Int} {c : Tree}, 0 ≤ l → (chkL v d l).1 = true → c ∈ v → ∃ l', 0 ≤ l' ∧ l' ≤ l ∧ (chk c d l').1 = true
 | [], _, _, _, _, _, h => by simp at h
 | x :: v, d, l, c, h0, h, hc => by
  simp only [chkL] at h
  split at h
  rename_i h1
  rcases List.mem_cons.1 hc with rfl | hc
  exact ⟨l, h0, Int.le_refl _, h1⟩
  have h2 := chk_le x d l h0
  obtain ⟨l', h3, h4, h5⟩ := chkL_mem2 (h2.2 h1) h hc
  exact ⟨l', h3, by omega, h5⟩
  cases h
def RightT (t : Tree) : Prop := ∃ e l : Int, 1 ≤ e ∧ 0 ≤ l ∧ l ≤ 2000 ∧ (chk t e l).1 = true
theorem RightT.own {t : Tree} (h : RightT t) : ownO t = true := by
 obtain ⟨e, l, _, _, _, h⟩ := h
 exact (chk_own h).1
theorem RightT.valid {t : Tree} (h : RightT t) : validT t = true := by
 obtain ⟨e, l, h1, h2, h3, h⟩ := h
 exact (chk_more t e l 1 2000 h1 h2 h3 h).1
theorem RightT.item {t u : Tree} (h : RightT t) (hu : u ∈ t.v) : RightT u := by
 obtain ⟨e, l, h1, h2, h3, h⟩ := h
 have h4 := h
 rw [chk_eq] at h4
 split at h4
 cases h4
 rename_i hc
 obtain ⟨l', a1, a2, a3⟩ := chkL_mem2 (by omega) h4 hu
 exact ⟨e + 1, l', by omega, a1, by omega, a3⟩
theorem valid_right {t : Tree} (h : validT t = true) : RightT t := ⟨1, 2000, by decide, by decide, by decide, h⟩
theorem idxT_hit {x : ByteArray} : ∀ {l : List ByteArray}, idxT x l ≥ 0 → l.getD (idxT x l).toNat (dflt .str) = x
 | [], h => by simp [idxT] at h
 | y :: l, h => by
  simp only [idxT] at h ⊢
  split
  rename_i he
  exact (eqT_iff.1 he).symm
  rename_i he
  rw [if_neg he] at h
  split at h
  exact absurd h (by decide)
  rename_i h0
  rw [if_neg h0]
  have ih := idxT_hit (x := x) (l := l) (by omega)
  rw [show (idxT x l + 1).toNat = (idxT x l).toNat + 1 by omega, List.getD_cons_succ]
  exact ih
theorem memOk_in {t : Tree} {x : ByteArray} (h : memOk t x = true) : memB t x = true ∧ (memV t x).kind = 4 := by
 unfold memOk at h
 rw [Bool.and_eq_true, beq_iff_eq] at h
 exact h
theorem text_of {t : Tree} (h : RightT t) {x : ByteArray} (hm : memOk t x = true) : memV t x = textT (memV t x).s ∧ (memV t x).s.size ≤ 2000 := by
 have h1 := memOk_in hm
 have h2 := (h.item (mem_cutV h1.1)).own
 exact ⟨canon_text h2 h1.2, own_size h2⟩
theorem path_of {t : Tree} (h : RightT t) {x : ByteArray} (hp : (pathR t x).2 = 0) : memV t x = textT (ptxt (pathR t x).1) ∧ pathOk (pathR t x).1 = true := by
 cases hm : memOk t x with
 | false => rw [pathR_no hm] at hp; exact absurd hp (by decide)
 | true =>
  rw [pathR_yes hm] at hp ⊢
  obtain ⟨h1, h2⟩ := text_of h hm
  obtain ⟨h3, h4, h5⟩ := pparse_is hp h2
  refine ⟨by rw [h5]; exact h1, ?_⟩
  unfold pathOk
  rw [decide_eq_true (by omega), Bool.true_and, Bool.not_eq_true', List.any_eq_false]
  exact fun y hy => by rw [h4 y hy]; decide
theorem two_of {l : List Tree} (h : l.length = 2) : ∃ a b, l = [a, b] := by
 rcases l with _ | ⟨a, _ | ⟨b, _ | ⟨c, l⟩⟩⟩
 simp at h
 simp at h
 exact ⟨a, b, rfl⟩
 simp at h
theorem three_of {l : List Tree} (h : l.length = 3) : ∃ a b c, l = [a, b, c] := by
 rcases l with _ | ⟨a, _ | ⟨b, _ | ⟨c, _ | ⟨d, l⟩⟩⟩⟩
 simp at h
 simp at h
 simp at h
 exact ⟨a, b, c, rfl⟩
 simp at h
abbrev ob (k : List ByteArray) (v : List Tree) : Tree := .mk 7 false ⟨false, [], 0⟩ (ba []) k v
theorem exact_in {t : Tree} {l : List ByteArray} (h : exactF t l = true) (ho : ownO t = true) : t = ob l t.v ∧ t.v.length = l.length := by
 unfold exactF at h
 rw [Bool.and_eq_true, beq_iff_eq, decide_eq_true_eq] at h
 have h1 := canon_obj ho h.1
 have h2 := own_keys ho h.1
 rw [h.2] at h1 h2
 exact ⟨h1, h2.symm⟩
structure ReadO (x : Tree) (P F : List ByteArray) (V : Tree) : Prop where
 kind : x.kind = 7
 op : memOk x nOp = true
 word : wordI x > 0
 exact : exactO x = true
 path : pathR x nPath = (P, 0)
 frm : (fromF (wordI x) = true → pathR x nFrom = (F, 0)) ∧ (fromF (wordI x) = false → F = [])
 val : V = if (!fromF (wordI x) && valueF (wordI x)) = true then memV x nValue else Tree.zero
 eq : opR x = (⟨wordI x, P, F, V⟩, 0)
theorem opR_is {x : Tree} (h : (opR x).2 = 0) : ∃ P F V, ReadO x P F V := by
 rcases bt (x.kind == 7) with h7 | h7
 rcases bt (memOk x nOp) with hm | hm
 rcases bt (decide (wordI x > 0)) with hw | hw
 rcases bt (exactO x) with hx | hx
 rcases bt ((pathR x nPath).2 == 0) with hp | hp
 have e1 : pathR x nPath = ((pathR x nPath).1, 0) := Prod.ext rfl (eq_of_beq hp)
 rcases bt (fromF (wordI x)) with hf | hf
 rcases bt ((pathR x nFrom).2 == 0) with hq | hq
 have e2 : pathR x nFrom = ((pathR x nFrom).1, 0) := Prod.ext rfl (eq_of_beq hq)
 refine ⟨(pathR x nPath).1, (pathR x nFrom).1, _, eq_of_beq h7, hm, of_decide_eq_true hw, hx, e1, ⟨fun _ => e2, fun hh => (by rw [hf] at hh; cases hh)⟩, rfl, ?_⟩
 rw [opR, if_pos h7, if_pos hm, if_pos hw, if_pos hx, if_pos hp, if_pos hf, if_pos hq]; rfl
 rw [opR, if_pos h7, if_pos hm, if_pos hw, if_pos hx, if_pos hp, if_pos hf, if_neg (by rw [hq]; decide)] at h
 rw [show (pathR x nFrom).2 = 0 from h] at hq; exact absurd hq (by decide)
 refine ⟨(pathR x nPath).1, [], _, eq_of_beq h7, hm, of_decide_eq_true hw, hx, e1, ⟨fun hh => (by rw [hf] at hh; cases hh), fun _ => rfl⟩, rfl, ?_⟩
 rw [opR, if_pos h7, if_pos hm, if_pos hw, if_pos hx, if_pos hp, if_neg (by rw [hf]; decide)]; rfl
 rw [opR, if_pos h7, if_pos hm, if_pos hw, if_pos hx, if_neg (by rw [hp]; decide)] at h
 rw [show (pathR x nPath).2 = 0 from h] at hp; exact absurd hp (by decide)
 rw [opR, if_pos h7, if_pos hm, if_pos hw, if_neg (by rw [hx]; decide)] at h; exact absurd (show (2 : Int) = 0 from h) (by decide)
 rw [opR, if_pos h7, if_pos hm, if_neg (by rw [hw]; decide)] at h; exact absurd (show (2 : Int) = 0 from h) (by decide)
 rw [opR, if_pos h7, if_neg (by rw [hm]; decide)] at h; exact absurd (show (2 : Int) = 0 from h) (by decide)
 rw [opR, if_neg (by rw [h7]; decide)] at h; exact absurd (show (2 : Int) = 0 from h) (by decide)
theorem word_eq {x : Tree} (h : wordI x > 0) : wordF (wordI x) = (memV x nOp).s ∧ 1 ≤ wordI x ∧ wordI x ≤ 6 := by
 have h1 := idxT_in (memV x nOp).s wordsL
 have h2 : wordsL.length = 6 := rfl
 have h3 := idxT_hit (x := (memV x nOp).s) (l := wordsL) (by unfold wordI at h; omega)
 refine ⟨?_, by omega, by unfold wordI; omega⟩
 unfold wordF
 rw [show (wordI x - 1).toNat = (idxT (memV x nOp).s wordsL).toNat by unfold wordI; omega]
 exact h3
theorem readO_is {x : Tree} {P F : List ByteArray} {V : Tree} (hr : RightT x) (h : ReadO x P F V) : objT ⟨wordI x, P, F, V⟩ = x ∧ oneF ⟨wordI x, P, F, V⟩ = true := by
 obtain ⟨h7, hm, hw, hx, hp, ⟨hf1, hf2⟩, hv, _⟩ := h
 obtain ⟨w1, w2, w3⟩ := word_eq hw
 have ho := hr.own
 have tO := (text_of hr hm).1
 rw [← w1] at tO
 have pP := path_of hr (x := nPath) (by rw [hp])
 rw [hp] at pP
 have z0 : zeroF Tree.zero = true := by kernel_rfl
 generalize hk : wordI x = k at *
 have hks : k = 1 ∨ k = 2 ∨ k = 3 ∨ k = 4 ∨ k = 5 ∨ k = 6 := by omega
 unfold exactO at hx
 rw [hk] at hx
 have vcase : fromF k = false → valueF k = true → F = [] → x = ob [nOp, nPath, nValue] [textT (wordF k), textT (ptxt P), V] ∧ validT V = true := fun a b c => by
  rw [if_neg (by rw [a]; decide), if_pos b] at hx
  obtain ⟨e1, e2⟩ := exact_in hx ho
  obtain ⟨u1, u2, u3, e3⟩ := three_of e2
  rw [e3] at e1
  rw [if_pos (by rw [a, b]; rfl)] at hv
  have hV : RightT V := by
   rw [hv, e1]
   refine hr.item ?_
   rw [e3]
   show memV (ob [nOp, nPath, nValue] [u1, u2, u3]) nValue ∈ [u1, u2, u3]
   rw [show memV (ob [nOp, nPath, nValue] [u1, u2, u3]) nValue = u3 from by kernel_rfl]; simp
  have q1 : u1 = textT (wordF k) := by rw [← tO, e1]; kernel_rfl
  have q2 : u2 = textT (ptxt P) := by rw [← pP.1, e1]; kernel_rfl
  have q3 : u3 = V := by rw [hv, e1]; kernel_rfl
  rw [← q1, ← q2, ← q3]
  exact ⟨e1, by rw [q3]; exact hV.valid⟩
 rcases hks with rfl | rfl | rfl | rfl | rfl | rfl
 obtain rfl := hf2 rfl
 obtain ⟨e, hV⟩ := vcase rfl rfl rfl
 refine ⟨e.symm ▸ (by kernel_rfl), ?_⟩
 unfold oneF
 dsimp only
 rw [if_neg (by decide), if_pos (by decide), pP.2, hV]; rfl
 obtain rfl := hf2 rfl
 rw [if_neg (by decide)] at hv
 rw [if_neg (by decide), if_neg (by decide)] at hx
 obtain ⟨e1, e2⟩ := exact_in hx ho
 obtain ⟨u1, u2, e3⟩ := two_of e2
 rw [e3] at e1
 have q1 : u1 = textT (wordF 2) := by rw [← tO, e1]; kernel_rfl
 have q2 : u2 = textT (ptxt P) := by rw [← pP.1, e1]; kernel_rfl
 rw [q1, q2] at e1
 subst hv
 refine ⟨e1.symm ▸ (by kernel_rfl), ?_⟩
 unfold oneF
 dsimp only
 rw [if_neg (by decide), if_neg (by decide), if_pos (by decide), pP.2, z0]; rfl
 obtain rfl := hf2 rfl
 obtain ⟨e, hV⟩ := vcase rfl rfl rfl
 refine ⟨e.symm ▸ (by kernel_rfl), ?_⟩
 unfold oneF
 dsimp only
 rw [if_neg (by decide), if_pos (by decide), pP.2, hV]; rfl
 have hq := hf1 rfl
 have pF := path_of hr (x := nFrom) (by rw [hq])
 rw [hq] at pF
 rw [if_neg (by decide)] at hv
 rw [if_pos (by decide)] at hx
 obtain ⟨e1, e2⟩ := exact_in hx ho
 obtain ⟨u1, u2, u3, e3⟩ := three_of e2
 rw [e3] at e1
 have q1 : u1 = textT (ptxt F) := by rw [← pF.1, e1]; kernel_rfl
 have q2 : u2 = textT (wordF 4) := by rw [← tO, e1]; kernel_rfl
 have q3 : u3 = textT (ptxt P) := by rw [← pP.1, e1]; kernel_rfl
 rw [q1, q2, q3] at e1
 subst hv
 refine ⟨e1.symm ▸ (by kernel_rfl), ?_⟩
 unfold oneF
 dsimp only
 rw [if_pos (by decide), pP.2, pF.2, z0]; rfl
 have hq := hf1 rfl
 have pF := path_of hr (x := nFrom) (by rw [hq])
 rw [hq] at pF
 rw [if_neg (by decide)] at hv
 rw [if_pos (by decide)] at hx
 obtain ⟨e1, e2⟩ := exact_in hx ho
 obtain ⟨u1, u2, u3, e3⟩ := three_of e2
 rw [e3] at e1
 have q1 : u1 = textT (ptxt F) := by rw [← pF.1, e1]; kernel_rfl
 have q2 : u2 = textT (wordF 5) := by rw [← tO, e1]; kernel_rfl
 have q3 : u3 = textT (ptxt P) := by rw [← pP.1, e1]; kernel_rfl
 rw [q1, q2, q3] at e1
 subst hv
 refine ⟨e1.symm ▸ (by kernel_rfl), ?_⟩
 unfold oneF
 dsimp only
 rw [if_pos (by decide), pP.2, pF.2, z0]; rfl
 obtain rfl := hf2 rfl
 obtain ⟨e, hV⟩ := vcase rfl rfl rfl
 refine ⟨e.symm ▸ (by kernel_rfl), ?_⟩
 unfold oneF
 dsimp only
 rw [if_neg (by decide), if_pos (by decide), pP.2, hV]; rfl
theorem opR_back {x : Tree} (hr : RightT x) (h : (opR x).2 = 0) : objT (opR x).1 = x ∧ oneF (opR x).1 = true := by
 obtain ⟨P, F, V, hh⟩ := opR_is h
 rw [hh.eq]
 exact readO_is hr hh
theorem readOps_back : ∀ {l : List Tree}, (∀ x ∈ l, RightT x) → (readOps l).2 = 0 → (readOps l).1.map objT = l ∧ (∀ o ∈ (readOps l).1, oneF o = true) ∧ (readOps l).1.length = l.length
 | [], _, _ => ⟨rfl, fun o ho => by simp [readOps] at ho, rfl⟩
 | x :: l, hr, h => by
  rw [readOps] at h ⊢
  rcases bt ((opR x).2 == 0) with h0 | h0
  rw [if_pos h0] at h ⊢
  have h1 := opR_back (hr x (List.mem_cons_self ..)) (eq_of_beq h0)
  have ih := readOps_back (l := l) (fun y hy => hr y (List.mem_cons_of_mem _ hy)) h
  refine ⟨?_, fun o ho => ?_, ?_⟩
  show objT (opR x).1 :: (readOps l).1.map objT = x :: l
  rw [h1.1, ih.1]
  rcases List.mem_cons.1 ho with rfl | ho
  exact h1.2
  exact ih.2.1 o ho
  show (readOps l).1.length + 1 = l.length + 1
  rw [ih.2.2]
  rw [if_neg (by rw [h0]; decide)] at h
  rw [show (opR x).2 = 0 from h] at h0; exact absurd h0 (by decide)
theorem read_write {lg : Int} {t : Tree} (h : (ReadR lg t).2 = 0) : WriteR (ReadR lg t).1 = (t, 0) ∧ checkP (ReadR lg t).1 = true := by
 unfold ReadR at h ⊢
 rcases bt ((readR lg t).2 == 0) with h0 | h0
 ·rw [if_pos h0] at h ⊢
  have h0 : (readR lg t).2 = 0 := eq_of_beq h0
  clear h
  show WriteR (readR lg t).1 = (t, 0) ∧ checkP (readR lg t).1 = true
  unfold readR at h0 ⊢
  split at h0
  ·rename_i hg
   rw [if_pos hg]
   simp only [Bool.and_eq_true, decide_eq_true_eq] at hg
   have hr := valid_right hg.2.2
   split at h0
   ·rename_i hl
    rw [if_pos hl]
    split at h0
    ·rename_i h6
     rw [if_pos h6]
     split at h0
     ·rename_i hn
      rw [if_pos hn]
      have hb := readOps_back (fun x hx => hr.item hx) h0
      have hw : wT ⟨lg, (readOps t.v).1, Tree.zero, []⟩ = t := by
       unfold wT
       rw [if_pos hl, hb.1]
       exact (canon_arr hr.own (eq_of_beq h6)).symm
      have hc : checkP ⟨lg, (readOps t.v).1, Tree.zero, []⟩ = true := by
       have hn := of_decide_eq_true hn
       unfold checkP
       rw [if_pos hl]
       have ho : opsF (readOps t.v).1 = true := by
        unfold opsF
        rw [decide_eq_true (by rw [hb.2.2]; exact hn), Bool.true_and, Bool.not_eq_true', List.any_eq_false]
        exact fun x hx => by rw [hb.2.1 x hx]; decide
       rw [ho, show zeroF Tree.zero = true from by kernel_rfl]; rfl
      refine ⟨?_, hc⟩
      unfold WriteR
      rw [if_pos hc, hw, if_pos hg.2.2]
     ·exact absurd h0 (by decide)
    ·exact absurd h0 (by decide)
   ·rename_i hl
    rw [if_neg hl]
    split at h0
    ·rename_i hl3
     rw [if_pos hl3]
     split at h0
     ·rename_i hx
      rw [if_pos hx]
      split at h0
      ·rename_i hm
       rw [if_pos hm]
       split at h0
       ·rename_i hp
        rw [if_pos hp]
        have hp := parse_is (eq_of_beq hp)
        obtain ⟨e1, e2⟩ := exact_in hx hr.own
        obtain ⟨u1, u2, e3⟩ := two_of e2
        rw [e3] at e1
        have tM := (text_of hr hm).1
        have q1 : u1 = textT (memV t nMask).s := by rw [← tM, e1]; kernel_rfl
        have q2 : memV t nValue = u2 := by rw [e1]; kernel_rfl
        have hV : validT (memV t nValue) = true := (hr.item (by rw [e3, q2]; simp)).valid
        have hw : wT ⟨lg, [], memV t nValue, (parseF (memV t nMask).s).1⟩ = t := by
         unfold wT
         rw [if_neg hl, if_pos hl3]
         show pairT (textF (parseF (memV t nMask).s).1) (memV t nValue) = t
         rw [hp.1, q2]
         conv => rhs; rw [e1, q1]
         rfl
        have hc : checkP ⟨lg, [], memV t nValue, (parseF (memV t nMask).s).1⟩ = true := by
         unfold checkP
         have hl2 : ¬ (lg == 2) = true := by have := eq_of_beq hl3; rw [this]; decide
         rw [if_neg hl, if_neg hl2, if_pos hl3, hV, hp.2]; rfl
        refine ⟨?_, hc⟩
        unfold WriteR
        rw [if_pos hc, hw, if_pos hg.2.2]
       ·rename_i hp
        rw [show (parseF (memV t nMask).s).2 = 0 from h0] at hp
        exact absurd rfl hp
      ·exact absurd h0 (by decide)
     ·exact absurd h0 (by decide)
    ·rename_i hl3
     rw [if_neg hl3]
     have hl2 : (lg == 2) = true := by
      simp only [beq_iff_eq] at hl hl3 ⊢
      omega
     have hw : wT ⟨lg, [], t, []⟩ = t := by unfold wT; rw [if_neg hl, if_neg hl3]
     have hc : checkP ⟨lg, [], t, []⟩ = true := by
      unfold checkP
      rw [if_neg hl, if_pos hl2, hg.2.2]; rfl
     refine ⟨?_, hc⟩
     unfold WriteR
     rw [if_pos hc, hw, if_pos hg.2.2]
  ·exact absurd h0 (by decide)
 ·rw [if_neg (by rw [h0]; decide)] at h
  rw [show (readR lg t).2 = 0 from h] at h0; exact absurd h0 (by decide)
abbrev eL (l k : List Int) : List Opn := editsF (madeF 4 l).1 k
theorem eL_len (l k : List Int) : (eL l k).length ≤ 13 := edits_len _ k
theorem fineO_E {x : Opn} (h : OpE x) : fineO x := by
 refine ⟨by have := h.path.1; omega, by have := h.frm.1; omega, ?_⟩
 by_cases hv : x.op = 1 ∨ x.op = 3 ∨ x.op = 6
 exact goodN_fine (by decide) (h.val hv).1
 rw [h.noval (by omega) (by omega) (by omega)]; exact fine_zero
theorem con19L (l k : List Int) (hk : k.length ≤ 100) : Con Tryz.prog I0 19 [.agg (encTree (madeF 4 l).1), .row (.int .i64) k] (.val (.row .opn (eL l k))) := (con19 _ k (made_E l).1 (by omega)).frz
theorem fine_Z : fineP Pat.zero := ⟨fine_zero, by decide, fun x hx => by simp [Pat.zero] at hx, fun x hx => by simp [Pat.zero] at hx, by decide⟩
theorem con16Z : Con Tryz.prog I0 16 [.agg [vi 0, .row .opn [], vi 0, vb false, vb false, .row (.int .u32) [], vi 0, vs (ba []), .row .str [], .row .tree [], .row .strs []], .agg [vi 0, .row .opn [], vi 0, vb false, vb false, .row (.int .u32) [], vi 0, vs (ba []), .row .str [], .row .tree [], .row .strs []]] (.val (vb true)) := con16S Pat.zero fine_Z
def awA : Tree := arrT [.mk 7 false ⟨false, [], 0⟩ (ba []) [ba [111, 112]] [.mk 4 false ⟨false, [], 0⟩ (ba [97, 100, 100]) [] []]]
def awB : Tree := .mk 2 true ⟨false, [], 0⟩ (ba []) [] []
theorem fine_awA : fineT awA := goodN_fine (n := 300) (d := 3) (by decide) (good_items (by decide) (by decide) (fun u hu => by
 rw [List.mem_singleton.1 hu]
 refine obj_goodN (L := [(ba [111, 112], textT (ba [97, 100, 100]))]) (by decide) (by decide) (List.pairwise_singleton _ _) (fun p hp => ?_)
 rw [List.mem_singleton.1 hp]
 exact ⟨by kernel_rfl, good_text (by kernel_rfl)⟩))
theorem fine_awB : fineT awB := ⟨⟨Ok.nil, by decide, by decide, by decide⟩, trivial⟩
theorem con15A : Con Tryz.prog I0 15 [vi 1, .agg (encTree awA)] (.val (.tup [.agg [vi 0, .row .opn [], vi 0, vb false, vb false, .row (.int .u32) [], vi 0, vs (ba []), .row .str [], .row .tree [], .row .strs []], vi 2])) := by
 have h := con15 1 awA fine_awA
 rw [show ReadR 1 awA = (Pat.zero, 2) from by kernel_rfl] at h
 exact h
def patB : Pat := ⟨2, [], awB, []⟩
theorem con15B : Con Tryz.prog I0 15 [vi 2, .agg (encTree awB)] (.val (.tup [.agg (encP patB), vi 0])) := by
 have h := con15 2 awB fine_awB
 rw [show ReadR 2 awB = (patB, 0) from by kernel_rfl] at h
 exact h
theorem con51B : Con Tryz.prog I0 51 [.agg (encP patB)] (.val (vb true)) := by
 have h := con51 patB fine_awB (fun x hx => by simp [patB] at hx) (by decide) (fun x hx => by simp [patB] at hx) (by decide) (by kernel_rfl)
 exact h
theorem con11  : Con Tryz.prog I0 11 [] (.val (vb true)) := by
 refine con_of Tryz.func11 rfl (Nat.le_of_ble_eq_true rfl) stab (fun w0 fz a hI hs => ?_)
 refine wL hs hI [(1, rc [(6, ciA 15 [vi 1, .agg [vi 6, vb false, vb false, nilv, vi 0, vs (ba []), nilv, rwT ([(Tree.mk 7 false ⟨false, [], 0⟩ (ba []) ([(ba [111, 112])]) ([(Tree.mk 4 false ⟨false, [], 0⟩ (ba [97, 100, 100]) ([]) ([]))]))])]] [] [2004] (.val (.tup [.agg [vi 0, .row .opn ([]), vi 0, vb false, vb false, rwU ([]), vi 0, vs (ba []), rwS ([]), rwT ([]), .row .strs ([])], vi 2])))]), (2, rc [(1, ciV 15 [vi 2, .agg [vi 2, vb true, vb false, nilv, vi 0, vs (ba []), nilv, nilv]] (.tup [.agg [vi 2, .row .opn ([]), vi 2, vb true, vb false, rwU ([]), vi 0, vs (ba []), rwS ([]), rwT ([]), .row .strs ([])], vi 0]))]), (3, rg [(13, ciV 51 [.agg [vi 2, .row .opn ([]), vi 2, vb true, vb false, rwU ([]), vi 0, vs (ba []), rwS ([]), rwT ([]), .row .strs ([])]] (vb true))] [3, 4, 1005, 7, 8, 9, 1010, 12, 13, 1014] [])] [] 1296666617437777777786618841266618848820 [q0 true, q0 true, q0 true, q0 true, q0 true, q0 true, q0 true, q0 true, q0 true, q0 true] .ret [(0, vb true)] [] ⟨Con.told (con15A) ⟨.inl rfl, .inr (.inr ⟨_, rfl, _, rfl, .inl rfl, .inl rfl, .inl rfl, .inr ⟨rfl, _, rfl⟩, .inl rfl, .inl rfl, .inr ⟨rfl, _, rfl⟩, .inl rfl, trivial⟩), trivial⟩, Con.told (con15B) ⟨.inl rfl, .inr (.inr ⟨_, rfl, _, rfl, .inl rfl, .inl rfl, .inl rfl, .inr ⟨rfl, _, rfl⟩, .inl rfl, .inl rfl, .inr ⟨rfl, _, rfl⟩, .inr ⟨rfl, _, rfl⟩, trivial⟩), trivial⟩, con51B, tv⟩ fun a w hs => ?_
 exact rK (.val (vb true)) [] hs rfl
def nmE (j : Int) : ByteArray := ([ba [97], ba [98], ba [99], ba [100, 100], ba [101]] : List ByteArray).getD (0 + j.toNat * 1) ⟨#[]⟩
abbrev vE (x : Int) : Int := placeF x 1048576
def qE (x : Int) : List ByteArray := if ((((vE x).tdiv 5).tmod 3) == 0) = true then [nmE ((vE x).tmod 5), nmE (((vE x).tdiv 15).tmod 5)] else [nmE ((vE x).tmod 5)]
def maskE (l : List Int) : List (List ByteArray) := (l.take 5).map qE
theorem nmE_ok {j : Int} (h : 0 ≤ j ∧ j < 5) : nameF (nmE j) = true ∧ (nmE j).size ≤ 2 ∧ ∀ c ∈ (nmE j).data.toList, c.toNat < 128 := by
 have hj : j = 0 ∨ j = 1 ∨ j = 2 ∨ j = 3 ∨ j = 4 := by omega
 rcases hj with rfl | rfl | rfl | rfl | rfl <;> exact ⟨by kernel_rfl, by decide +kernel, by decide +kernel⟩
theorem qE_in (x : Int) : (qE x).length ≤ 2 ∧ qE x ≠ [] ∧ ∀ n ∈ qE x, nameF n = true ∧ n.size ≤ 2 ∧ ∀ c ∈ n.data.toList, c.toNat < 128 := by
 have hv := placeF_in x 1048576 (by decide)
 have h5 := tm_w (n := 5) hv.1 (by decide)
 have hd := td_w (n := 15) hv.1 (by decide) hv.2
 have h15 := tm_w (n := 5) hd.1 (by decide)
 unfold qE
 split
 refine ⟨Nat.le_refl _, by simp, fun n hn => ?_⟩
 rcases List.mem_cons.1 hn with rfl | hn
 exact nmE_ok h5
 rw [List.mem_singleton.1 hn]; exact nmE_ok h15
 refine ⟨by simp, by simp, fun n hn => ?_⟩
 rw [List.mem_singleton.1 hn]; exact nmE_ok h5
theorem mask_ok (l : List Int) (h : l.length ≤ 60) : checkF (l.map qE) = true := by
 unfold checkF
 rw [decide_eq_true (by rw [List.length_map]; omega), Bool.true_and, Bool.not_eq_true', List.any_eq_false]
 intro p hp
 obtain ⟨x, _, rfl⟩ := List.mem_map.1 hp
 obtain ⟨h1, h2, h3⟩ := qE_in x
 have h4 : (qE x).length ≠ 0 := fun e => h2 (List.eq_nil_of_length_eq_zero e)
 have h5 : ((qE x).any fun n => !nameF n) = false := by
  rw [List.any_eq_false]
  intro n hn
  rw [(h3 n hn).1]; decide
 unfold badPath
 rw [h5, decide_eq_false (by omega), show (((qE x).length : Int) == 0) = false from beq_eq_false_iff_ne.2 (by omega)]; decide
theorem jt_len {c : UInt8} {B : Nat} : ∀ {r : List (List UInt8)}, (∀ x ∈ r, x.length ≤ B) → (jt c r).length ≤ r.length * (B + 1)
 | [], _ => by simp [jt]
 | x :: r, h => by
  have h1 := h x (List.mem_cons_self ..)
  have h2 := jt_len (c := c) (r := r) (fun y hy => h y (List.mem_cons_of_mem _ hy))
  rw [jt_cons, List.length_cons, List.length_append, List.length_cons, Nat.succ_mul]; omega
theorem jn_len {c : UInt8} {B : Nat} {r : List (List UInt8)} (h : ∀ x ∈ r, x.length ≤ B) : (jn c r).length ≤ r.length * (B + 1) := by
 cases r with
 | nil => simp [jn]
 | cons x r =>
  have h1 := h x (List.mem_cons_self ..)
  have h2 := jt_len (c := c) (r := r) (fun y hy => h y (List.mem_cons_of_mem _ hy))
  rw [jn, List.length_append, List.length_cons, Nat.succ_mul]; omega
theorem jn_mem {c b : UInt8} {r : List (List UInt8)} (h : b ∈ jn c r) : b = c ∨ ∃ x ∈ r, b ∈ x := by
 cases r with
 | nil => simp [jn] at h
 | cons x r =>
  rw [jn, List.mem_append] at h
  rcases h with h | h
  exact .inr ⟨x, List.mem_cons_self .., h⟩
  unfold jt at h
  obtain ⟨l, hl, hb⟩ := List.mem_flatten.1 h
  obtain ⟨y, hy, rfl⟩ := List.mem_map.1 hl
  rcases List.mem_cons.1 hb with rfl | hb
  exact .inl rfl
  exact .inr ⟨y, List.mem_cons_of_mem _ hy, hb⟩
theorem mask_text (l : List Int) (h : l.length ≤ 5) : textOk (textF (l.map qE)) = true := by
 have hc := mask_ok l (by omega)
 have hu := unb_ba (l.map qE)
 have ht : textF (l.map qE) = ba (textL (unb (l.map qE))) := by
  rw [← textF_ba (by rw [hu]; exact hc), hu]
 have hq : ∀ q ∈ unb (l.map qE), q.length ≤ 2 ∧ ∀ n ∈ q, n.length ≤ 2 ∧ ∀ c ∈ n, c.toNat < 128 := fun q hq => by
  unfold unb at hq
  rw [List.map_map] at hq
  obtain ⟨x, _, rfl⟩ := List.mem_map.1 hq
  obtain ⟨h1, _, h3⟩ := qE_in x
  refine ⟨by show ((qE x).map _).length ≤ 2; rw [List.length_map]; exact h1, fun n hn => ?_⟩
  obtain ⟨s, hs, rfl⟩ := List.mem_map.1 (show n ∈ (qE x).map fun s => s.data.toList from hn)
  have := h3 s hs
  rw [Lib.size_eq] at this
  exact this.2
 have hlen : (textL (unb (l.map qE))).length ≤ (unb (l.map qE)).length * 7 := by
  unfold textL
  have := jn_len (c := 44) (B := 6) (r := (unb (l.map qE)).map (jn 46)) (fun x hx => by
   obtain ⟨q, hq1, rfl⟩ := List.mem_map.1 hx
   have h1 := jn_len (c := 46) (B := 2) (r := q) (fun n hn => ((hq q hq1).2 n hn).1)
   have := (hq q hq1).1
   omega)
  rw [List.length_map] at this; exact this
 have hul : (unb (l.map qE)).length ≤ 5 := by unfold unb; rw [List.length_map, List.length_map]; exact h
 have hasc : ∀ c ∈ textL (unb (l.map qE)), c.toNat < 128 := fun c hc => by
  unfold textL at hc
  rcases jn_mem hc with rfl | ⟨x, hx, hc⟩
  ·decide
  ·obtain ⟨q, hq1, rfl⟩ := List.mem_map.1 hx
   rcases jn_mem hc with rfl | ⟨n, hn, hc⟩
   ·decide
   ·exact ((hq q hq1).2 n hn).2 c hc
 rw [ht]
 unfold textOk
 rw [valid_asc (by rw [ba_data]; exact hasc), decide_eq_true (by rw [ba_size]; omega)]; rfl
theorem mask_back (l : List Int) (h : l.length ≤ 60) : parseF (textF (l.map qE)) = (l.map qE, 0) := by
 by_cases h0 : l.map qE = []
 rw [h0]; kernel_rfl
 exact (fine_of (mask_ok l h) h0 (n := 0) (by decide)).back
def editP (l0 : List Int) (lang : Int) (l : List Int) : Pat :=
 if ((1 + (placeF lang 3)) == 1) = true then ⟨1 + (placeF lang 3), eL l0 l, Tree.zero, []⟩
 else if ((1 + (placeF lang 3)) == 2) = true then ⟨1 + (placeF lang 3), [], (madeF 3 l).1, []⟩ else ⟨1 + (placeF lang 3), [], (madeF 3 l).1, maskE l⟩
structure PatOk (p : Pat) : Prop where
 fine : fineP p
 smalls : ∀ x ∈ p.mask, smalls x
 wr : (WriteR p).2 = 0
 fx : fineT (WriteR p).1
 rd : ReadR p.lang (WriteR p).1 = (p, 0)
theorem ok_1 {ops : List Opn} (hl : ops.length ≤ 13) (h : ∀ o ∈ ops, OpE o) : PatOk (patE ops) := by
 have hw := write_E hl h
 refine ⟨⟨fine_zero, (show (0 : Nat) < 1000000000 by decide), fun x hx => by simp at hx, fun x hx => fineO_E (h x hx), Nat.lt_of_le_of_lt hl (by decide)⟩, fun x hx => by simp at hx, by rw [hw], ?_, ?_⟩
 rw [hw]; exact fine_arr (by omega) (fun x hx => fineO_E (h x hx))
 rw [hw]; exact read_E hl h
theorem ok_2 {v : Tree} (hg : GoodN 200 20 v) (hn : nodes v ≤ 200) : PatOk ⟨2, [], v, []⟩ := by
 have hv : validT v = true := (chk_goodN hg (by decide) (by omega)).1
 have hf : fineT v := goodN_fine (by decide) hg
 have hc : checkP ⟨2, [], v, []⟩ = true := by
  unfold checkP
  dsimp only
  rw [if_neg (by decide), if_pos (by decide), hv]; rfl
 have hw : WriteR ⟨2, [], v, []⟩ = (v, 0) := by
  unfold WriteR
  rw [if_pos hc, show wT ⟨2, [], v, []⟩ = v from by unfold wT; dsimp only; rw [if_neg (by decide), if_neg (by decide)], if_pos hv]
 refine ⟨⟨hf, (show (0 : Nat) < 1000000000 by decide), fun x hx => by simp at hx, fun x hx => by simp at hx, (show (0 : Nat) < 1000000000 by decide)⟩, fun x hx => by simp at hx, by rw [hw], by rw [hw]; exact hf, ?_⟩
 rw [hw]
 have hr : readR 2 v = (⟨2, [], v, []⟩, 0) := by
  unfold readR
  rw [if_pos (by rw [hv]; rfl), if_neg (by decide), if_neg (by decide)]
 show ReadR 2 v = _
 unfold ReadR
 rw [hr]; rfl
theorem ok_3 {v : Tree} {m : List Int} (hg : GoodN 200 20 v) (hn : nodes v ≤ 200) (hm : m.length ≤ 5) : PatOk ⟨3, [], v, m.map qE⟩ := by
 have hv : validT v = true := (chk_goodN hg (by decide) (by omega)).1
 have hf : fineT v := goodN_fine (by decide) hg
 have hck := mask_ok m (by omega)
 have hc : checkP ⟨3, [], v, m.map qE⟩ = true := by
  unfold checkP
  dsimp only
  rw [if_neg (by decide), if_neg (by decide), if_pos (by decide), hv, hck]; rfl
 have hmn : ltB nMask nValue := ltB_less.1 (by kernel_rfl)
 have hgp : GoodN 200 21 (pairT (textF (m.map qE)) v) := obj_goodN (L := [(nMask, textT (textF (m.map qE))), (nValue, v)]) (by decide) (show 2 ≤ 200 by decide) (by simp [hmn]) (fun p hp => by
  rcases List.mem_cons.1 hp with rfl | hp
  ·exact ⟨by kernel_rfl, good_text (mask_text m hm)⟩
  ·rw [List.mem_singleton.1 hp]; exact ⟨by kernel_rfl, hg⟩)
 have hnp : nodes (pairT (textF (m.map qE)) v) ≤ 202 := by
  rw [nodes_eq]
  show 1 + (nodes (textT _) + (nodes v + 0)) ≤ 202
  rw [text_nodes]; omega
 have hvp : validT (pairT (textF (m.map qE)) v) = true := (chk_goodN hgp (by decide) (by omega)).1
 have hw : WriteR ⟨3, [], v, m.map qE⟩ = (pairT (textF (m.map qE)) v, 0) := by
  unfold WriteR
  rw [if_pos hc, show wT ⟨3, [], v, m.map qE⟩ = pairT (textF (m.map qE)) v from by unfold wT; dsimp only; rw [if_neg (by decide), if_pos (by decide)], if_pos hvp]
 have hsm := smalls_of hck
 refine ⟨⟨hf, by show (m.map qE).length < _; rw [List.length_map]; omega, fun x hx => by have := (hsm x hx).2; obtain ⟨y, _, rfl⟩ := List.mem_map.1 hx; have := (qE_in y).1; omega, fun x hx => by simp at hx, (show (0 : Nat) < 1000000000 by decide)⟩, hsm, by rw [hw], by rw [hw]; exact fine_pair hf, ?_⟩
 rw [hw]
 have hs : (memV (pairT (textF (m.map qE)) v) nMask).s = textF (m.map qE) := by kernel_rfl
 have hr : readR 3 (pairT (textF (m.map qE)) v) = (⟨3, [], v, m.map qE⟩, 0) := by
  unfold readR
  rw [if_pos (by rw [hvp]; rfl), if_neg (by decide), if_pos (by decide), if_pos (show exactF (pairT (textF (m.map qE)) v) [nMask, nValue] = true from by kernel_rfl), if_pos (show memOk (pairT (textF (m.map qE)) v) nMask = true from by kernel_rfl), hs, mask_back m (by omega), if_pos (show (((m.map qE, (0 : Int)).2 == 0) = true) from rfl), show memV (pairT (textF (m.map qE)) v) nValue = v from by kernel_rfl]
 show ReadR 3 _ = _
 unfold ReadR
 rw [hr]; rfl
theorem made_3 (l : List Int) : GoodN 200 20 (madeF 3 l).1 ∧ nodes (madeF 3 l).1 ≤ 200 :=
 ⟨goodN_mono (by decide) (by decide) (goodN_T (good_made 3 l)), Nat.le_trans (good_nodes (good_made 3 l)) (by decide)⟩
theorem edit_ok (l0 : List Int) (lang : Int) (l : List Int) : PatOk (editP l0 lang l) := by
 have hp := placeF_in lang 3 (by decide)
 unfold editP
 split
 rename_i h
 rw [show 1 + (placeF lang 3) = 1 from eq_of_beq h]
 exact ok_1 (eL_len l0 l) (edits_E l0 l)
 rename_i h1
 split
 rename_i h
 rw [show 1 + (placeF lang 3) = 2 from eq_of_beq h]
 exact ok_2 (made_3 l).1 (made_3 l).2
 rename_i h2
 rw [beq_iff_eq] at h1 h2
 rw [show 1 + (placeF lang 3) = 3 by omega]
 exact ok_3 (made_3 l).1 (made_3 l).2 (by rw [List.length_take]; omega)
theorem opR_val {x : Tree} (h : fineT x) : fineT (opR x).1.value := by
 have hz : ∀ p f, fineT (opO x p f).value := fun p f => by
  show fineT (if (!fromF (wordI x) && valueF (wordI x)) = true then memV x nValue else Tree.zero)
  split
  cases hb : memB x nValue with
  | true => exact fine_mem ((fine_eq x).1 h).2 (mem_cutV hb)
  | false => rw [memV_zero hb]; exact fine_zero
  exact fine_zero
 unfold opR
 (repeat' split) <;> exact hz _ _
theorem readOps_val : ∀ {l : List Tree}, (∀ x ∈ l, fineT x) → ∀ o ∈ (readOps l).1, fineT o.value
 | [], _, o, h => by simp [readOps] at h
 | x :: l, hf, o, h => by
  rw [readOps] at h
  split at h
  rcases List.mem_cons.1 h with rfl | h
  exact opR_val (hf x (List.mem_cons_self ..))
  exact readOps_val (fun y hy => hf y (List.mem_cons_of_mem _ hy)) o h
  simp at h
theorem fine_read {n : Int} {t : Tree} (hf : fineT t) (h : (ReadR n t).2 = 0) : fineP (ReadR n t).1 ∧ ∀ x ∈ (ReadR n t).1.mask, smalls x := by
 have hc := (read_write h).2
 have h3 := ((fine_eq t).1 hf).2
 have hval : fineT (ReadR n t).1.value ∧ ∀ o ∈ (ReadR n t).1.ops, fineT o.value := by
  have z : fineT Pat.zero.value ∧ ∀ o ∈ Pat.zero.ops, fineT o.value := ⟨fine_zero, fun o ho => by simp [Pat.zero] at ho⟩
  have key : ∀ x, fineT (memV t x) := fun x => by
   cases hb : memB t x with
   | true => exact fine_mem h3 (mem_cutV hb)
   | false => rw [memV_zero hb]; exact fine_zero
  have hr : fineT (readR n t).1.value ∧ ∀ o ∈ (readR n t).1.ops, fineT o.value := by
   unfold readR
   split
   split
   split
   split
   exact ⟨fine_zero, readOps_val (fun x hx => fine_mem h3 hx)⟩
   exact z
   exact z
   split
   split
   split
   split
   exact ⟨key _, fun o ho => by simp at ho⟩
   exact z
   exact z
   exact z
   exact ⟨hf, fun o ho => by simp at ho⟩
   exact z
  unfold ReadR
  split
  exact hr
  exact z
 have hz : ∀ {m : List (List ByteArray)}, ((m.length : Int) == 0) = true → m = [] := fun h => List.eq_nil_of_length_eq_zero (by have := eq_of_beq h; omega)
 have hz2 : ∀ {m : List Opn}, ((m.length : Int) == 0) = true → m = [] := fun h => List.eq_nil_of_length_eq_zero (by have := eq_of_beq h; omega)
 generalize (ReadR n t).1 = r at hc hval
 obtain ⟨hv, ho⟩ := hval
 unfold checkP at hc
 split at hc
 simp only [Bool.and_eq_true] at hc
 have hm := hz hc.2.2
 obtain ⟨h1, h2⟩ := opsF_in hc.1
 refine ⟨⟨hv, by rw [hm]; decide, fun x hx => by rw [hm] at hx; simp at hx, fun x hx => ?_, by omega⟩, fun x hx => by rw [hm] at hx; simp at hx⟩
 obtain ⟨_, h4, h5⟩ := oneF_in (h2 x hx)
 exact ⟨by omega, by omega, ho x hx⟩
 split at hc
 simp only [Bool.and_eq_true] at hc
 have hm := hz hc.2.2
 have hops := hz2 hc.1
 exact ⟨⟨hv, by rw [hm]; decide, fun x hx => by rw [hm] at hx; simp at hx, fun x hx => by rw [hops] at hx; simp at hx, by rw [hops]; decide⟩, fun x hx => by rw [hm] at hx; simp at hx⟩
 split at hc
 simp only [Bool.and_eq_true] at hc
 have hops := hz2 hc.1
 have hin := checkF_in hc.2.2
 have hsm := smalls_of hc.2.2
 exact ⟨⟨hv, by omega, fun x hx => by have := (hin.2 x hx).1; omega, fun x hx => by rw [hops] at hx; simp at hx, by rw [hops]; decide⟩, hsm⟩
 cases hc
end Go.Proofs.YtondpnipoogoiaaGreatDoor.F
