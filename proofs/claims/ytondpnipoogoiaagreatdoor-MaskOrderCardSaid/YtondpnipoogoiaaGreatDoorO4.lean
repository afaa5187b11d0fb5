import Derived.Test.YtondpnipoogoiaaGreatDoorO3
import Derived.IntWalk
import Derived.LoopN
import Derived.Scope
import Derived.Test.YtondpnipoogoiaaGreatDoorO1
import Derived.Test.YtondpnipoogoiaaGreatDoorProg
import Derived.LoopIn
import Derived.WalkMore
import Derived.Laws.RangeAny
import Derived.Lib.TrimUEq
namespace Go.Proofs.YtondpnipoogoiaaGreatDoor.F
open Go Go.RowKit
set_option linter.unusedVariables false
set_option linter.unusedSimpArgs false
@[reducible] def ba (l : List UInt8) : ByteArray := ⟨l.toArray⟩
@[reducible] def bitsOr (k : IntKind) (x y : Int) : Int := k.wrap (BitVec.ofInt k.bits x ||| BitVec.ofInt k.bits y).toNat
def okArgs (l : List AV) : Prop := l = l
theorem inR64 {n : Int} (h0 : -9223372036854775808 ≤ n) (h1 : n ≤ 9223372036854775807) : InR .i64 n := by
  exact IntWalk.i64_in _ ⟨by omega, by omega⟩
section
variable {P : Program} {w0 : World} {ow : Own} {N : Nat} {a : Act} {w : World} {Q : Exit → Act → World → Prop} {K : Act → World → Prop} {id j : Nat} {ch : List PanicEntry}
theorem then_norm (h : K a w) : Exit.then K Q .normal a w := h
theorem then_ret (h : Q .ret a w) : Exit.then K Q .ret a w := h
theorem then_exit (h : Q (.exit id) a w) : Exit.then K Q (.exit id) a w := h
theorem inb_norm (h : Q .normal a w) : Exit.inBlock id Q .normal a w := h
theorem inb_ret (h : Q .ret a w) : Exit.inBlock id Q .ret a w := h
theorem inb_hit (h : Q .normal a w) : Exit.inBlock id Q (.exit id) a w := by simpa [Exit.inBlock] using h
theorem FnQ_cast {fn : Func} {out out' : COut} {e : Exit} (h : out = out') (hq : FnQ P fn w0 ow out e a w) : FnQ P fn w0 ow out' e a w := h ▸ hq
theorem cond_L {T : TL} {B : BL} {c : Nat} {x y : Code} {b : Bool} (hs : SimL N w0 ow T B a w) (he : lkp T c = some (.lit (.bool b))) (ht : b = true → x.wp P Q a w) (hf : b = false → y.wp P Q a w) : (Code.cond (.tmp c) x y).wp P Q a w := by
  obtain ⟨η, s⟩ := hs
  have hv := (s.ev (x := .tmp c) he).lit_inv
  exact wp_cond_split hv ht hf
theorem wp_cut {x y : Code} {T : TL} {B : BL} (F : Prop) (h1 : x.wp P (Exit.then (fun a w => F ∧ SimL N w0 ow T B a w) Q) a w) (h2 : F → ∀ a w, SimL N w0 ow T B a w → y.wp P Q a w) : (Code.seq x y).wp P Q a w :=
  wp_seq (wp_mono h1 (fun e a w he => by cases e <;> first | exact h2 he.1 _ _ he.2 | exact he))
end
end Go.Proofs.YtondpnipoogoiaaGreatDoor.F
namespace Go.Proofs.YtondpnipoogoiaaGreatDoor.F
open Go Go.RowKit
set_option linter.unusedVariables false
set_option linter.unusedSimpArgs false
def okBxs (l : List (Option Box)) : Prop := l = l
def ciA (f : FuncId) (args : List AV) (snap del : List Nat) (out : COut) : CI := { f, args, snap, del, out }
def ciB (f : FuncId) (args : List AV) (del : List Nat) (out : COut) (bi bo : BL) (ρ : List (Nat × Nat)) : CI := { f, args, snap := [], del, out, bi, bo, ρ }
def FnQB (P : Program) (fn : Func) (w0 : World) (fz : Nat → Prop) (η : Nat → Option Value) (bi : BL) (out : COut) (bo : BL) : Exit → Act → World → Prop := bodyPost P fn (fun e w' => PostB w0 fz η bi w' e out bo)
section
variable {P : Program} {I : World → Prop} {w w' w0 : World} {fz fz' : Nat → Prop} {η η' : Nat → Option Value} {N : Nat} {T : TL} {B : BL} {a : Act}
theorem BoxR_up {u : Value} {X : Box} (hf : ∀ k, fz k → k < w.heap.size → fz' k) (hη : ∀ b u, mentB b X = true → η' b = some u → η b = some u) (h : BoxR w fz η u X) : BoxR w fz' η' u X := by
  cases X with
  | var l =>
    obtain ⟨g, C, e, rfl, q1, q2, q3⟩ := h
    exact ⟨g, C, e, rfl, q1, q2, fun j v x hv hx => (q3 j v x hv hx).step (Nat.le_refl _) (fun _ _ _ => rfl) hf (fun b u hb hu => hη b u (mentL_of hx hb) hu)⟩
  | sl e τ xs =>
    obtain ⟨cs, q1, q2⟩ := h
    refine ⟨cs, q1, fun i x j y hx hy => ?_⟩
    obtain ⟨v, hv, hr⟩ := q2 i x j y hx hy
    exact ⟨v, hv, hr.step (Nat.le_refl _) (fun _ _ _ => rfl) hf (fun b u hb _ => by rw [enc_ment' hy] at hb; cases hb)⟩
  | full e τ xs =>
    obtain ⟨⟨cs, q1, q2⟩, qc⟩ := h
    refine ⟨⟨cs, q1, fun i x j y hx hy => ?_⟩, qc⟩
    obtain ⟨v, hv, hr⟩ := q2 i x j y hx hy
    exact ⟨v, hv, hr.step (Nat.le_refl _) (fun _ _ _ => rfl) hf (fun b u hb _ => by rw [enc_ment' hy] at hb; cases hb)⟩
theorem con_ofB {f : FuncId} {fn : Func} {c : Code} {args : List AV} {bi bo : BL} {out : COut} (hf : P.funcs[f]? = some fn) (hb : fn.body = some c) (hN : args.length ≤ fn.ntmps) (hk : (bi.map (·.1)).all (· < 1000) = true)
    (h : ∀ (w0 : World) (fz : Nat → Prop) (η : Nat → Option Value) (a : Act), (∀ w', Fr (ownB fz η) w0 w' → I w') → SimL fn.ntmps w0 (ownB fz η) (num 0 args) bi a w0 → c.wp P (FnQB P fn w0 fz η bi out bo) a w0) : ConB P I f args bi out bo := by
  intro w fz η vs hI hfz hd hbx hnew hap hR
  have hun : ∀ k, fz k → k < w.heap.size → Fz (Amb w (ownB fz η)) η k := fun k h1 _ => ⟨.inl h1, fun b u hb hk => (hnew b u k hb hk).2 h1⟩
  refine calls_of_wp hf hb (h w fz η _ hI ⟨η, ?_⟩)
  refine ⟨?_, rfl, Fr.refl _ _, fun t av ht => ?_, fun b B h => ?_, fun b u k h1 h2 => ⟨(hnew b u k h1 h2).1, .inr ⟨b, u, h1, h2⟩⟩, hap, fun b u u' h1 h2 => ?_, fun b u h => ?_⟩
  · have := hR.1; simp; omega
  · obtain ⟨_, h1⟩ := num_at ht
    rw [Nat.sub_zero] at h1
    have hlt : t < vs.size := by have := (List.getElem?_eq_some_iff.1 h1).1; have := hR.1; omega
    refine ⟨vs[t], ?_, ?_⟩
    · show (vs ++ Array.replicate (fn.ntmps - vs.size) undef)[t]? = some vs[t]
      rw [Array.getElem?_append_left hlt]; exact Array.getElem?_eq_getElem hlt
    · exact (hR.2 t _ av (Array.getElem?_eq_getElem hlt) h1).step (Nat.le_refl _) (fun _ _ _ => rfl) hun (fun b u _ h => h)
  · obtain ⟨u, hu, hr⟩ := hbx b B h
    exact ⟨u, hu, BoxR_up hun (fun _ _ _ h => h) hr⟩
  · have h1' : η b = some u := h1
    rw [h2] at h1'; injection h1'
  · obtain ⟨X, hX⟩ := Option.isSome_iff_exists.1 (hd b u h)
    have := List.all_eq_true.1 hk b (List.mem_map.2 ⟨(b, X), lkp_mem hX, rfl⟩)
    simpa using this
theorem ownB_of {bi bo : BL} {out : COut} {e : Ending} (s : Sim N w0 (ownB fz η) η' (lkp T) (lkp bo) a w)
    (ho : ∀ η2 : Nat → Option Value, (∀ b, η2 b = if (lkp bo b).isSome then η' b else none) → (∀ v x, (∀ b, ment b x = true → (lkp bo b).isSome = true) → R w (Fz (Amb w0 (ownB fz η)) η') η' v x → R w (FzB w0 fz η η2) η2 v x) → OutB w (FzB w0 fz η η2) η2 e out) : PostB w0 fz η bi w e out bo := by
  refine ⟨⟨s.frame.os, s.frame.tape, s.frame.output, s.frame.size, fun k hk hn => s.frame.block k hk hn⟩, .inr ?_⟩
  obtain ⟨η2, h2⟩ : ∃ η2 : Nat → Option Value, ∀ b, η2 b = if (lkp bo b).isSome then η' b else none := ⟨_, fun _ => rfl⟩
  have sub : ∀ b u, η2 b = some u → (lkp bo b).isSome = true ∧ η' b = some u := fun b u h => by
    rw [h2] at h
    split at h
    · rename_i hb; exact ⟨hb, h⟩
    · cases h
  have hf : ∀ k, Fz (Amb w0 (ownB fz η)) η' k → k < w.heap.size → FzB w0 fz η η2 k := fun k hk _ => by
    refine ⟨?_, fun b u hb => hk.2 b u (sub b u hb).2⟩
    rcases hk.1 with h1 | h1 | h1
    · exact .inl h1
    · exact .inr (.inr h1)
    · exact .inr (.inl h1)
  refine ⟨η2, fun b u h => (sub b u h).1, fun b _ u u' h1 h3 => s.pin b u u' h1 (sub b u' h3).2, fun b u k h1 h3 => s.new b u k (sub b u h1).2 h3, fun b b' u u' k h1 h3 => s.apart b b' u u' k (sub b u h1).2 (sub b' u' h3).2, fun b X hX => ?_, ho η2 h2 (fun v x _ hR => hR.step (Nat.le_refl _) (fun _ _ _ => rfl) hf (fun b u _ h => (sub b u h).2))⟩
  obtain ⟨u, hu, hr⟩ := s.dom b X hX
  exact ⟨u, by rw [h2, hX]; exact hu, BoxR_up hf (fun b u _ h => (sub b u h).2) hr⟩
theorem SimL.nil {ow : Own} (hs : SimL N w0 ow T B a w) (k t : Nat) (e : TypeId) (τ : Ty) (ht : lkp T t = some nilv) (hk : 1000 ≤ k) (hT : T.all (fun p => !(keysA p.2).contains k) = true) (hB : B.all (fun p => !(keysB p.2).contains k) = true) : SimL N w0 ow ((t, .own k) :: T) ((k, .sl e τ []) :: B) a w := by
  obtain ⟨η, s⟩ := hs
  have hf : Fresh k (lkp T) (lkp B) := ⟨fun t av h => by
      cases hm : ment k av with
      | false => rfl
      | true => have := List.all_eq_true.1 hT (t, av) (lkp_mem h); simp at this; exact absurd (mem_keysA av hm) this, fun b X h => by
      cases hm : mentB k X with
      | false => rfl
      | true => have := List.all_eq_true.1 hB (b, X) (lkp_mem h); simp at this; exact absurd (mem_keysB hm) this, hk⟩
  obtain ⟨tr, hs2⟩ := s.grow (w' := w) (B := .sl e τ []) (v := .slice none 0 0) (del := []) (row := none) hf ⟨rfl, rfl, rfl, Nat.le_refl _, fun _ _ _ => rfl⟩ (.inl rfl) (fun k hk => by simp [blk] at hk)
  have s2 := hs2 ⟨[], World.ownsRow_nil w 0 e _, fun i x j y hx => by simp at hx⟩
  obtain ⟨v, hv, hR⟩ := s.tmp t _ ht
  have hvn := hR.lit_inv
  have hb : updB (lkp B) [] [(k, .sl e τ [])] = lkp ((k, .sl e τ []) :: B) := by
    funext c
    simp only [updB, lkp]
    by_cases hc : c = k
    · simp [hc]
    · simp [hc]
  rw [hb] at s2
  refine ⟨_, s2.size, s2.nod, s2.frame, fun t' av h => ?_, s2.dom, s2.new, s2.apart, s2.pin, s2.pinlt⟩
  simp only [lkp] at h
  split at h
  · rename_i he
    simp only [Option.some.injEq] at h
    subst h he
    exact ⟨v, hv, .own _ _ (fun u hu => by simp [setη] at hu; rw [hvn, ← hu])⟩
  · exact s2.tmp t' av h
theorem SimL.nilB {ow : Own} (hs : SimL N w0 ow T B a w) (k b j : Nat) (e : TypeId) (τ : Ty) (l : List AV) (hb : lkp B b = some (.var l)) (hl : l[j]? = some nilv) (hbk : b ≠ k) (hk : 1000 ≤ k) (hT : T.all (fun p => !(keysA p.2).contains k) = true) (hB : B.all (fun p => !(keysB p.2).contains k) = true) : SimL N w0 ow T ((b, .var (l.set j (.own k))) :: (k, .sl e τ []) :: B) a w := by
  obtain ⟨η, s⟩ := hs
  have hf : Fresh k (lkp T) (lkp B) := ⟨fun t av h => by
      cases hm : ment k av with
      | false => rfl
      | true => have := List.all_eq_true.1 hT (t, av) (lkp_mem h); simp at this; exact absurd (mem_keysA av hm) this, fun b X h => by
      cases hm : mentB k X with
      | false => rfl
      | true => have := List.all_eq_true.1 hB (b, X) (lkp_mem h); simp at this; exact absurd (mem_keysB hm) this, hk⟩
  obtain ⟨tr, hs2⟩ := s.grow (w' := w) (B := .sl e τ []) (v := .slice none 0 0) (del := []) (row := none) hf ⟨rfl, rfl, rfl, Nat.le_refl _, fun _ _ _ => rfl⟩ (.inl rfl) (fun k hk => by simp [blk] at hk)
  have s2 := hs2 ⟨[], World.ownsRow_nil w 0 e _, fun i x j y hx => by simp at hx⟩
  have hb2 : updB (lkp B) [] [(k, .sl e τ [])] = lkp ((k, .sl e τ []) :: B) := by
    funext c
    simp only [updB, lkp]
    by_cases hc : c = k
    · simp [hc]
    · simp [hc]
  rw [hb2] at s2
  refine ⟨_, s2.size, s2.nod, s2.frame, s2.tmp, fun c X h => ?_, s2.new, s2.apart, s2.pin, s2.pinlt⟩
  rw [lkp] at h
  split at h
  · rename_i he
    simp only [Option.some.injEq] at h
    subst h he
    obtain ⟨u, hu, hr⟩ := s2.dom c (.var l) (by simp only [lkp]; rw [if_neg hbk]; exact hb)
    obtain ⟨g, C, ee, rfl, q1, q2, q3⟩ := hr
    refine ⟨_, hu, g, C, ee, rfl, q1, by rw [List.length_set]; exact q2, fun i v x hv hx => ?_⟩
    rw [List.getElem?_set] at hx
    split at hx
    · rename_i hij
      subst hij
      split at hx
      · simp only [Option.some.injEq] at hx
        subst hx
        have hvn := (q3 j v _ hv hl).lit_inv
        exact .own _ _ (fun u hu => by simp [setη] at hu; rw [hvn, ← hu])
      · cases hx
    · exact q3 i v x hv hx
  · exact s2.dom c X h
theorem ret_okB {fn : Func} {bi : BL} {r : AV} (bo : BL) (hs : SimL N w0 (ownB fz η) T bo a w) (h : resA P fn (lkp T) (lkp bo) = some r) (hk : (keysA r).all (fun b => (lkp bo b).isSome) = true) : FnQB P fn w0 fz η bi (.val r) bo .ret a w := by
  obtain ⟨η', s⟩ := hs
  obtain ⟨v, hrun, hR⟩ := resA_ok s h
  refine ⟨s.nod, v, hrun, ownB_of s (fun η2 _ hup => ⟨v, rfl, hup v r (fun b hb => ?_) hR⟩)⟩
  exact List.all_eq_true.1 hk b (mem_keysA r hb)
theorem rounds_step {c : Code} {Q : Exit → Act → World → Prop} {n : Nat} (h : c.wp P (Exit.then (Code.rounds P c Q n) Q) a w) : Code.rounds P c Q (n + 1) a w := h
theorem ng_ret {Q : Exit → Act → World → Prop} (h : Q .ret a w) : Exit.noGoto Q .ret a w := h
theorem FnQB_cast {fn : Func} {bi bo bo' : BL} {out out' : COut} {e : Exit} (h : out = out') (h' : bo = bo') (hq : FnQB P fn w0 fz η bi out bo e a w) : FnQB P fn w0 fz η bi out' bo' e a w := h ▸ h' ▸ hq
theorem Con.frz {f : FuncId} {args : List AV} {e : TypeId} {τ : Ty} {xs : List (El τ)} (h : Con P I f args (.own e τ xs)) : Con P I f args (.val (.row τ xs)) := by
  intro w fz vs hI hfz hR
  refine (h w fz vs hI hfz hR).mono ?_
  rintro en w' ⟨⟨v, rfl, hb, cs, ho, hel⟩, hbel⟩
  refine ⟨⟨v, rfl, ?_⟩, hbel⟩
  rcases ho.2 with ⟨rfl, h0⟩ | ⟨g, cap, cur, rfl, q0, q1, q2, q3, _⟩
  · have : xs = [] := by cases xs; rfl; simp at h0
    subst this
    exact .nil τ
  · obtain ⟨hge, hlt⟩ := hb g rfl
    refine .row_mk q2 q3 (fun i x hx => ⟨⟨g, 0, none⟩, rfl, .inr hge, hlt, fun j y hy => ?_⟩)
    obtain ⟨vv, hv, hrr⟩ := hel i x j y hx hy
    exact ⟨vv, ho.cells rfl _ _ hv, hrr.step (Nat.le_refl _) (fun _ _ _ => rfl) (fun k hk _ => hk.1) (fun b u _ hu => hu)⟩
theorem SimL.isNil {ow : Own} (hs : SimL N w0 ow T B a w) (t : Nat) (τ : Ty) (xs : List (El τ)) (ht : lkp T t = some (.row τ xs)) : ∃ b : Bool, (b = true → xs = []) ∧ SimL N w0 ow ((t, .rown τ xs b) :: T) B a w := by
  obtain ⟨η, s⟩ := hs
  obtain ⟨v, hv, hr⟩ := s.tmp t _ ht
  obtain ⟨A, c, rfl, hc, hm, hel⟩ := hr.row_inv
  refine ⟨A.isNone, fun hb => ?_, η, ⟨s.size, s.nod, s.frame, fun k av hk => ?_, s.dom, s.new, s.apart, s.pin, s.pinlt⟩⟩
  · cases xs with
    | nil => rfl
    | cons x xs =>
      obtain ⟨ad, hA, _⟩ := hel 0 x rfl
      rw [hA] at hb; cases hb
  · simp only [lkp] at hk
    split at hk
    · rename_i e
      simp only [Option.some.injEq] at hk
      subst hk e
      exact ⟨_, hv, .rown A c τ xs hr⟩
    · exact s.tmp k av hk
end
end Go.Proofs.YtondpnipoogoiaaGreatDoor.F
namespace Go.Proofs.YtondpnipoogoiaaGreatDoor.X
open Go.ChangeShapes Go.WideShapes Go.ChangeAt Go.RowKit
set_option linter.unusedSimpArgs false
theorem laidOut : laidOutB Tryz.prog = true := by kernel_rfl
set_option maxRecDepth 100000 in
theorem open_rowI {H : Type} {enc : TypeId × Value → H} {W : World} {base : Nat} {v : Value} {d : DataW H} {p : List MemPlace} (hv : Value.okWide Tryz.prog W .any base 22 v) (h : DataW.Trod enc Tryz.prog W 0 (fun _ => true) true 22 v d p) :
    ∃ l : List Int, Go.Proofs.YtondpnipoogoiaaGreatDoor.F.R W (fun k => k < W.heap.size) Go.Proofs.YtondpnipoogoiaaGreatDoor.F.noη v (.row (.int .i64) l) := by
  obtain ⟨m, hm⟩ := h
  obtain ⟨a0, n0, c0, rfl⟩ := Go.WideShapes.okWide_slice Tryz.underlying22 hv
  have one : ∀ a n c, (Value.slice a0 n0 c0).cells.toList = [.slice a n c] → Value.slice a0 n0 c0 = .slice a n c := fun a n c h => by have h' : [Value.slice a0 n0 c0] = [.slice a n c] := h; exact (List.cons.inj h').1
  rcases Go.ChangeShapes.open_ints Tryz.underlying22 Tryz.underlying3 (by kernel_rfl) hm with ⟨hcs, _⟩ | ⟨x, len, cap, zs, hcs, _, hl, hm', hz, _, hcell, hwz⟩
  · rw [one _ _ _ hcs]
    exact ⟨[], Go.Proofs.YtondpnipoogoiaaGreatDoor.F.R.row_mk (τ := .int .i64) (xs := ([] : List Int)) (Nat.le_refl _) (by decide) (fun i x hx => by simp at hx)⟩
  · rw [one _ _ _ hcs]
    have hz' : zs.length = cap := hz
    have hlen : (zs.take len).length = len := by rw [List.length_take]; omega
    refine ⟨zs.take len, ?_⟩
    have := Go.Proofs.YtondpnipoogoiaaGreatDoor.F.R.row_mk (w := W) (fz := fun k => k < W.heap.size) (η := Go.Proofs.YtondpnipoogoiaaGreatDoor.F.noη) (A := some x) (c := cap) (τ := .int .i64) (xs := zs.take len) (by rw [hlen]; exact hl) hm' (fun i y hy => ?_)
    · rw [hlen] at this; exact this
    · have hi : i < len := by have := (List.getElem?_eq_some_iff.1 hy).1; rwa [hlen] at this
      rw [List.getElem?_take, if_pos hi] at hy
      have hiz : i < zs.length := (List.getElem?_eq_some_iff.1 hy).1
      have hc := hcell i hiz
      have hg : zs.getD i 0 = y := by rw [List.getD_eq_getElem?_getD, hy]; rfl
      rw [hg] at hc
      have hb : x.block < W.heap.size := by
        have h9 := World.block_lt_of_cell? W _ (hcell 0 (by omega))
        rwa [Go.Proofs.YtondpnipoogoiaaGreatDoor.F.add_block] at h9
      refine ⟨x, rfl, hb, hb, fun j a ha => ?_⟩
      rcases j with _ | j
      · simp only [Go.Proofs.YtondpnipoogoiaaGreatDoor.F.enc, List.getElem?_cons_zero, Option.some.injEq] at ha
        subst ha
        exact ⟨_, by simpa [Go.Proofs.YtondpnipoogoiaaGreatDoor.F.sz] using hc, .lit _⟩
      · simp [Go.Proofs.YtondpnipoogoiaaGreatDoor.F.enc] at ha
end Go.Proofs.YtondpnipoogoiaaGreatDoor.X
namespace Go.Proofs.YtondpnipoogoiaaGreatDoor.F
open Go Go.RowKit
def tt (t : TypeId) : Option Ty := if t = 2 then some (.int .i64) else if t = 3 then some (.int .i64) else if t = 4 then some .bool else if t = 5 then some (.int .u8) else if t = 6 then some (.int .u8) else if t = 9 then some .str else if t = 10 then some .str else if t = 11 then some .str else if t = 12 then some (.int .u64) else if t = 21 then some (.int .i32) else if t = 22 then some (.ints .i64) else if t = 23 then some (.ints .u32) else if t = 25 then some .num else if t = 26 then some .strs else if t = 27 then some .trees else if t = 29 then some .tree else if t = 38 then some (.int .i64) else if t = 80 then some .opn else if t = 132 then some (.int .u64) else if t = 140 then some (.ints .u8) else if t = 160 then some (.int .u32) else if t = 168 then some (.int .u64) else if t = 173 then some (.int .i64) else if t = 201 then some (.int .u64) else if t = 219 then some (.ints .i32) else if t = 250 then some (.int .u8) else if t = 251 then some (.int .u8) else if t = 253 then some (.int .i32) else if t = 254 then some (.int .i32) else none
def I0 (w : World) : Prop := Go.Proofs.YtondpnipoogoiaaGreatDoor.X.Laid w
theorem stab : ∀ w w', I0 w → Below w.heap.size w w' → I0 w' := fun _ _ h b => h.below b
theorem mix : Tryz.prog.follows .mixedOrders = true := by kernel_rfl
theorem ent13 : Ent Tryz.prog 13 := ent_of Tryz.func13 (by kernel_rfl) rfl
theorem ent17 : Ent Tryz.prog 17 := ent_of Tryz.func17 (by kernel_rfl) rfl
theorem ent18 : Ent Tryz.prog 18 := ent_of Tryz.func18 (by kernel_rfl) rfl
theorem ent22 : Ent Tryz.prog 22 := ent_of Tryz.func22 (by kernel_rfl) rfl
theorem ent23 : Ent Tryz.prog 23 := ent_of Tryz.func23 (by kernel_rfl) rfl
theorem ent24 : Ent Tryz.prog 24 := ent_of Tryz.func24 (by kernel_rfl) rfl
theorem ent25 : Ent Tryz.prog 25 := ent_of Tryz.func25 (by kernel_rfl) rfl
theorem ent26 : Ent Tryz.prog 26 := ent_of Tryz.func26 (by kernel_rfl) rfl
theorem ent31 : Ent Tryz.prog 31 := ent_of Tryz.func31 (by kernel_rfl) rfl
theorem ent35 : Ent Tryz.prog 35 := ent_of Tryz.func35 (by kernel_rfl) rfl
theorem ent37 : Ent Tryz.prog 37 := ent_of Tryz.func37 (by kernel_rfl) rfl
theorem ent39 : Ent Tryz.prog 39 := ent_of Tryz.func39 (by kernel_rfl) rfl
theorem ent41 : Ent Tryz.prog 41 := ent_of Tryz.func41 (by kernel_rfl) rfl
theorem ent54 : Ent Tryz.prog 54 := ent_of Tryz.func54 (by kernel_rfl) rfl
theorem ent57 : Ent Tryz.prog 57 := ent_of Tryz.func57 (by kernel_rfl) rfl
theorem ent60 : Ent Tryz.prog 60 := ent_of Tryz.func60 (by kernel_rfl) rfl
theorem ent61 : Ent Tryz.prog 61 := ent_of Tryz.func61 (by kernel_rfl) rfl
theorem ent69 : Ent Tryz.prog 69 := ent_of Tryz.func69 (by kernel_rfl) rfl
theorem ent70 : Ent Tryz.prog 70 := ent_of Tryz.func70 (by kernel_rfl) rfl
theorem ent71 : Ent Tryz.prog 71 := ent_of Tryz.func71 (by kernel_rfl) rfl
theorem ent72 : Ent Tryz.prog 72 := ent_of Tryz.func72 (by kernel_rfl) rfl
theorem ent73 : Ent Tryz.prog 73 := ent_of Tryz.func73 (by kernel_rfl) rfl
theorem ent74 : Ent Tryz.prog 74 := ent_of Tryz.func74 (by kernel_rfl) rfl
theorem ent75 : Ent Tryz.prog 75 := ent_of Tryz.func75 (by kernel_rfl) rfl
theorem ent76 : Ent Tryz.prog 76 := ent_of Tryz.func76 (by kernel_rfl) rfl
theorem ent77 : Ent Tryz.prog 77 := ent_of Tryz.func77 (by kernel_rfl) rfl
theorem ent78 : Ent Tryz.prog 78 := ent_of Tryz.func78 (by kernel_rfl) rfl
theorem ent79 : Ent Tryz.prog 79 := ent_of Tryz.func79 (by kernel_rfl) rfl
theorem ent80 : Ent Tryz.prog 80 := ent_of Tryz.func80 (by kernel_rfl) rfl
theorem ent81 : Ent Tryz.prog 81 := ent_of Tryz.func81 (by kernel_rfl) rfl
theorem ent82 : Ent Tryz.prog 82 := ent_of Tryz.func82 (by kernel_rfl) rfl
theorem ent83 : Ent Tryz.prog 83 := ent_of Tryz.func83 (by kernel_rfl) rfl
theorem ent84 : Ent Tryz.prog 84 := ent_of Tryz.func84 (by kernel_rfl) rfl
theorem ent89 : Ent Tryz.prog 89 := ent_of Tryz.func89 (by kernel_rfl) rfl
theorem ent90 : Ent Tryz.prog 90 := ent_of Tryz.func90 (by kernel_rfl) rfl
theorem ent91 : Ent Tryz.prog 91 := ent_of Tryz.func91 (by kernel_rfl) rfl
theorem ent92 : Ent Tryz.prog 92 := ent_of Tryz.func92 (by kernel_rfl) rfl
theorem ent110 : Ent Tryz.prog 110 := ent_of Tryz.func110 (by kernel_rfl) rfl
theorem ent111 : Ent Tryz.prog 111 := ent_of Tryz.func111 (by kernel_rfl) rfl
theorem ent117 : Ent Tryz.prog 117 := ent_of Tryz.func117 (by kernel_rfl) rfl
theorem ent122 : Ent Tryz.prog 122 := ent_of Tryz.func122 (by kernel_rfl) rfl
theorem ent123 : Ent Tryz.prog 123 := ent_of Tryz.func123 (by kernel_rfl) rfl
theorem ent124 : Ent Tryz.prog 124 := ent_of Tryz.func124 (by kernel_rfl) rfl
theorem ent134 : Ent Tryz.prog 134 := ent_of Tryz.func134 (by kernel_rfl) rfl
theorem ent135 : Ent Tryz.prog 135 := ent_of Tryz.func135 (by kernel_rfl) rfl
theorem ent136 : Ent Tryz.prog 136 := ent_of Tryz.func136 (by kernel_rfl) rfl
theorem ent137 : Ent Tryz.prog 137 := ent_of Tryz.func137 (by kernel_rfl) rfl
theorem ent138 : Ent Tryz.prog 138 := ent_of Tryz.func138 (by kernel_rfl) rfl
theorem ent140 : Ent Tryz.prog 140 := ent_of Tryz.func140 (by kernel_rfl) rfl
theorem ent146 : Ent Tryz.prog 146 := ent_of Tryz.func146 (by kernel_rfl) rfl
theorem ent166 : Ent Tryz.prog 166 := ent_of Tryz.func166 (by kernel_rfl) rfl
theorem ent167 : Ent Tryz.prog 167 := ent_of Tryz.func167 (by kernel_rfl) rfl
theorem ent170 : Ent Tryz.prog 170 := ent_of Tryz.func170 (by kernel_rfl) rfl
theorem ent171 : Ent Tryz.prog 171 := ent_of Tryz.func171 (by kernel_rfl) rfl
theorem ent173 : Ent Tryz.prog 173 := ent_of Tryz.func173 (by kernel_rfl) rfl
theorem ent174 : Ent Tryz.prog 174 := ent_of Tryz.func174 (by kernel_rfl) rfl
theorem ent175 : Ent Tryz.prog 175 := ent_of Tryz.func175 (by kernel_rfl) rfl
theorem ent188 : Ent Tryz.prog 188 := ent_of Tryz.func188 (by kernel_rfl) rfl
theorem ent189 : Ent Tryz.prog 189 := ent_of Tryz.func189 (by kernel_rfl) rfl
theorem ent190 : Ent Tryz.prog 190 := ent_of Tryz.func190 (by kernel_rfl) rfl
theorem ent191 : Ent Tryz.prog 191 := ent_of Tryz.func191 (by kernel_rfl) rfl
theorem ent192 : Ent Tryz.prog 192 := ent_of Tryz.func192 (by kernel_rfl) rfl
theorem ent193 : Ent Tryz.prog 193 := ent_of Tryz.func193 (by kernel_rfl) rfl
theorem ent212 : Ent Tryz.prog 212 := ent_of Tryz.func212 (by kernel_rfl) rfl
theorem ent214 : Ent Tryz.prog 214 := ent_of Tryz.func214 (by kernel_rfl) rfl
theorem ent215 : Ent Tryz.prog 215 := ent_of Tryz.func215 (by kernel_rfl) rfl
theorem ent216 : Ent Tryz.prog 216 := ent_of Tryz.func216 (by kernel_rfl) rfl
theorem ent218 : Ent Tryz.prog 218 := ent_of Tryz.func218 (by kernel_rfl) rfl
theorem ent228 : Ent Tryz.prog 228 := ent_of Tryz.func228 (by kernel_rfl) rfl
theorem ent229 : Ent Tryz.prog 229 := ent_of Tryz.func229 (by kernel_rfl) rfl
theorem ent249 : Ent Tryz.prog 249 := ent_of Tryz.func249 (by kernel_rfl) rfl
theorem ent250 : Ent Tryz.prog 250 := ent_of Tryz.func250 (by kernel_rfl) rfl
theorem ent251 : Ent Tryz.prog 251 := ent_of Tryz.func251 (by kernel_rfl) rfl
theorem ent270 : Ent Tryz.prog 270 := ent_of Tryz.func270 (by kernel_rfl) rfl
theorem ent271 : Ent Tryz.prog 271 := ent_of Tryz.func271 (by kernel_rfl) rfl
end Go.Proofs.YtondpnipoogoiaaGreatDoor.F
namespace Go.Proofs.YtondpnipoogoiaaGreatDoor.F
open Go Go.RowKit Go.Proofs.Tryz
set_option linter.unusedVariables false
set_option linter.unusedSimpArgs false
def bulk (t : Tree) : Nat := 1 + if t.kind = 3 then t.n.m.length else if t.kind = 4 then t.s.size else if t.kind = 5 then t.s.size else 0
mutual
def weight : Tree → Nat
  | .mk kind b n s k v => bulk (.mk kind b n s k v) + weightL v
def weightL : List Tree → Nat
  | [] => 0
  | t :: l => weight t + weightL l
end
theorem weight_eq (t : Tree) : weight t = bulk t + weightL t.v := by cases t; rfl
theorem weightL_take : ∀ (l : List Tree) (i : Nat), i < l.length → weightL (l.take (i + 1)) = weightL (l.take i) + weight (l.getD i (dflt .tree))
  | [], i, h => by simp at h
  | t :: l, 0, h => by simp [weightL]
  | t :: l, i + 1, h => by
    simp only [List.take_succ_cons, weightL, List.getD_cons_succ]
    rw [weightL_take l i (by simpa using h)]; omega
theorem weightL_le : ∀ (l : List Tree) (i : Nat), weightL (l.take i) ≤ weightL l
  | [], i => by simp
  | t :: l, 0 => by simp [weightL]
  | t :: l, i + 1 => by simp only [List.take_succ_cons, weightL]; have := weightL_le l i; omega
theorem weightL_len : ∀ (l : List Tree), l.length ≤ weightL l
  | [] => by simp
  | t :: l => by simp only [List.length_cons, weightL]; have := weightL_len l; have := weight_eq t; have : 1 ≤ bulk t := by simp [bulk]
                 omega
theorem bulk_3 {t : Tree} (h : t.kind = 3) : bulk t = 1 + t.n.m.length := by simp [bulk, h]
theorem bulk_4 {t : Tree} (h : t.kind = 4) : bulk t = 1 + t.s.size := by simp [bulk, h]
theorem bulk_5 {t : Tree} (h : t.kind = 5) : bulk t = 1 + t.s.size := by simp [bulk, h]
theorem bulk_0 {t : Tree} (h : ¬ t.kind = 3) (h' : ¬ t.kind = 4) (h2 : ¬ t.kind = 5) : bulk t = 1 := by simp [bulk, h, h', h2]
mutual
def nodes : Tree → Nat
  | .mk _ _ _ _ _ v => 1 + nodesL v
def nodesL : List Tree → Nat
  | [] => 0
  | t :: l => nodes t + nodesL l
end
theorem nodes_eq (t : Tree) : nodes t = 1 + nodesL t.v := by cases t; rfl
theorem nodes_at : ∀ {l : List Tree} {i : Nat}, i < l.length → nodes (l.getD i (dflt .tree)) ≤ nodesL l
  | [], i, h => by simp at h
  | t :: l, 0, h => by simp [nodesL]
  | t :: l, i + 1, h => by
    simp only [nodesL, List.getD_cons_succ]
    have := @nodes_at l i (by simpa using h); omega
theorem nodesL_take : ∀ (l : List Tree) (i : Nat), i < l.length → nodesL (l.take (i + 1)) = nodesL (l.take i) + nodes (l.getD i (dflt .tree))
  | [], i, h => by simp at h
  | t :: l, 0, h => by simp [nodesL]
  | t :: l, i + 1, h => by
    simp only [List.take_succ_cons, nodesL, List.getD_cons_succ]
    rw [nodesL_take l i (by simpa using h)]; omega
theorem nodesL_le : ∀ (l : List Tree) (i : Nat), nodesL (l.take i) ≤ nodesL l
  | [], i => by simp
  | t :: l, 0 => by simp [nodesL]
  | t :: l, i + 1 => by simp only [List.take_succ_cons, nodesL]; have := nodesL_le l i; omega
theorem nodesL_len : ∀ (l : List Tree), l.length ≤ nodesL l
  | [] => by simp
  | t :: l => by simp only [List.length_cons, nodesL]; have := nodesL_len l; have := nodes_eq t; omega
mutual
def depth : Tree → Nat
  | .mk _ _ _ _ _ v => 1 + depthL v
def depthL : List Tree → Nat
  | [] => 0
  | t :: l => max (depth t) (depthL l)
end
theorem depth_eq (t : Tree) : depth t = 1 + depthL t.v := by cases t; rfl
theorem depthL_take : ∀ (l : List Tree) (i : Nat), i < l.length → depthL (l.take (i + 1)) = max (depthL (l.take i)) (depth (l.getD i (dflt .tree)))
  | [], i, h => by simp at h
  | t :: l, 0, h => by simp [depthL]
  | t :: l, i + 1, h => by
    simp only [List.take_succ_cons, depthL, List.getD_cons_succ]
    rw [depthL_take l i (by simpa using h)]; omega
mutual
theorem depth_le : ∀ t : Tree, depth t ≤ nodes t
  | .mk _ _ _ _ _ v => by simp only [depth, nodes]; have := depthL_le v; omega
theorem depthL_le : ∀ l : List Tree, depthL l ≤ nodesL l
  | [] => by simp [depthL]
  | t :: l => by simp only [depthL, nodesL]; have := depth_le t; have := depthL_le l; omega
end
set_option maxRecDepth 100000 in
theorem con79_ : ∀ (n : Nat) (t : Tree), nodes t < n → nodes t < 4611686018427387904 → Con Tryz.prog I0 79 [.agg (encTree t)] (.val (vi ((nodes t : Nat) : Int))) := by
 intro n
 induction n
 case zero => intro t hn; omega
 rename_i n ih
 intro t hn hw
 refine con_of Tryz.func79 rfl (Nat.le_of_ble_eq_true rfl) stab (fun w0 fz a hI hs => ?_)
 refine wp_seq ?_
 refine way_L (tt := tt) (rs := []) (bs := []) (tk := [1]) (bk := [1000]) (C := True ∧ True ∧ True) (lv := .norm) (T' := [(1, .ptr 1000 0)]) (B' := [(1000, .var [vi t.kind, vb t.b, vb t.n.neg, .row (.int .u32) t.n.m, vi t.n.e, vs t.s, .row .str t.k, .row .tree t.v])]) mix hI hs ?_ ?_ ?_ ?_
 ·exact trivial
 ·kernel_rfl
 ·exact ⟨trivial, trivial, trivial⟩
 intro a w hs
 refine then_norm ?_
 refine wp_seq ?_
 refine way_L (tt := tt) (rs := []) (bs := []) (tk := [1, 3]) (bk := [1000]) (C := True ∧ True) (lv := .norm) (T' := [(1, .ptr 1000 0), (3, vi 1)]) (B' := [(1000, .var [vi t.kind, vb t.b, vb t.n.neg, .row (.int .u32) t.n.m, vi t.n.e, vs t.s, .row .str t.k, .row .tree t.v])]) mix hI hs ?_ ?_ ?_ ?_
 ·exact trivial
 ·kernel_rfl
 ·exact ⟨trivial, trivial⟩
 intro a w hs
 refine then_norm ?_
 refine wp_seq ?_
 refine wp_seq ?_
 refine way_L (tt := tt) (rs := []) (bs := []) (tk := [3, 7, 8, 9]) (bk := []) (C := tr 4 True) (lv := .norm) (T' := [(3, vi 1), (7, .row .tree t.v), (8, vi (t.v.length : Int)), (9, vi 0)]) (B' := []) mix hI hs ?_ ?_ ?_ ?_
 ·exact trivial
 ·kernel_rfl
 ·exact tr_mk trivial 4
 intro a w hs
 refine then_norm ?_
 refine wp_block ?_
 refine loop_L (N := Tryz.f79.ntmps) (w0 := w0) (ow := noO fz) (α := Nat) (fun p => [(3, vi ((1 + nodesL (t.v.take p) : Nat) : Int)), (7, .row .tree t.v), (8, vi (t.v.length : Int)), (9, vi ((p : Nat) : Int))]) (fun p => []) (fun p => p ≤ t.v.length) (fun p => t.v.length - p) 0 ?_ ?_ ?_
 ·exact Nat.zero_le _
 ·(have e0_ : (1) = (((1 + nodesL (t.v.take 0) : Nat) : Int)) := (by first | rfl | (simp only [List.take_zero, nodesL]; omega)); have e1_ : (0) = (((0 : Nat) : Int)) := (by first | rfl | (simp only [List.take_zero, nodesL]; omega)); exact (SimL.cast hs (T' := [(3, vi ((1 + nodesL (t.v.take 0) : Nat) : Int)), (7, .row .tree t.v), (8, vi (t.v.length : Int)), (9, vi ((0 : Nat) : Int))]) (B' := []) (by first | rfl | (rw [e0_, e1_]; done) | (simp only [e0_, e1_]; done) | (simp only [e0_, e1_]; rfl)) (by first | rfl | (rw [e0_, e1_]; done) | (simp only [e0_, e1_]; done) | (simp only [e0_, e1_]; rfl))).ren [] (by kernel_rfl) (by kernel_rfl) (by kernel_rfl))
 rintro i hJ a w hs
 have hwt := nodes_eq t
 have hle := nodesL_le t.v i
 have hlen := nodesL_len t.v
 rcases Bool.eq_false_or_eq_true (decide (((i : Nat) : Int) < (t.v.length : Int))) with b1 | b1
 ·skip
  have n1 := of_decide_eq_true b1
  have ht1 := nodesL_take t.v i (by omega)
  have hle1 := nodesL_le t.v (i + 1)
  refine way_L (tt := tt) (rs := [(5, ⟨[(2, ciA 79 [.agg (encTree (t.v.getD i (dflt .tree)))] [] [] (.val (vi ((nodes (t.v.getD i (dflt .tree)) : Nat) : Int))))], [], []⟩)]) (bs := [true]) (tk := [3, 7, 8, 9]) (bk := []) (C := (True ∧ True) ∧ (((decide (((i : Nat) : Int) < (t.v.length : Int))) = true) ∧ True) ∧ (((0 ≤ ((i : Nat) : Int) ∧ ((i : Nat) : Int) < t.v.length) ∧ (tr 3 True)) ∧ True ∧ True ∧ (okArgs [.agg (encTree (t.v.getD i (dflt .tree)))]) ∧ (InR .i64 (((1 + nodesL (t.v.take i) : Nat) : Int) + ((nodes (t.v.getD i (dflt .tree)) : Nat) : Int))) ∧ True ∧ True) ∧ (InR .i64 (((i : Nat) : Int) + 1)) ∧ True ∧ True) (lv := .norm) (T' := [(3, vi (((1 + nodesL (t.v.take i) : Nat) : Int) + ((nodes (t.v.getD i (dflt .tree)) : Nat) : Int))), (7, .row .tree t.v), (8, vi (t.v.length : Int)), (9, vi (((i : Nat) : Int) + 1))]) (B' := []) mix hI hs ?_ ?_ ?_ ?_
  ·exact ⟨⟨⟨ent79, ih _ (by have h1 := nodes_eq t; have h2 := nodes_at (l := t.v) (i := i) (by omega); omega) (by have := weightL_take t.v i (by omega); have := weightL_le t.v (i + 1); have := nodesL_take t.v i (by omega); have := nodesL_le t.v (i + 1); have := weight_eq t; have := nodes_eq t; omega)⟩, trivial⟩, trivial⟩
  ·kernel_rfl
  ·exact ⟨⟨trivial, trivial⟩, ⟨b1, trivial⟩, ⟨⟨⟨by omega, by omega⟩, tr_mk trivial 3⟩, trivial, trivial, rfl, (inR64 (by omega) (by omega)), trivial, trivial⟩, (inR64 (by omega) (by omega)), trivial, trivial⟩
  intro a w hs
  refine then_norm ⟨i + 1, by omega, by omega, ?_⟩
  (have e0_ : (((1 + nodesL (t.v.take i) : Nat) : Int) + ((nodes (t.v.getD i (dflt .tree)) : Nat) : Int)) = (((1 + nodesL (t.v.take (i + 1)) : Nat) : Int)) := (by first | rfl | (omega)); have e1_ : (((i : Nat) : Int) + 1) = ((((i + 1) : Nat) : Int)) := (by first | rfl | (omega)); exact (SimL.cast hs (T' := [(3, vi ((1 + nodesL (t.v.take (i + 1)) : Nat) : Int)), (7, .row .tree t.v), (8, vi (t.v.length : Int)), (9, vi (((i + 1) : Nat) : Int))]) (B' := []) (by first | rfl | (rw [e0_, e1_]; done) | (simp only [e0_, e1_]; done) | (simp only [e0_, e1_]; rfl)) (by first | rfl | (rw [e0_, e1_]; done) | (simp only [e0_, e1_]; done) | (simp only [e0_, e1_]; rfl))).ren [] (by kernel_rfl) (by kernel_rfl) (by kernel_rfl))
 ·skip
  have n1 := of_decide_eq_false b1
  refine way_L (tt := tt) (rs := []) (bs := [false]) (tk := [3]) (bk := []) (C := (True ∧ True) ∧ ((decide (((i : Nat) : Int) < (t.v.length : Int))) = false) ∧ True) (lv := .exit 0) (T' := [(3, vi ((1 + nodesL (t.v.take i) : Nat) : Int))]) (B' := []) mix hI hs ?_ ?_ ?_ ?_
  ·exact trivial
  ·kernel_rfl
  ·exact ⟨⟨trivial, trivial⟩, b1, trivial⟩
  intro a w hs
  refine then_exit ?_
  refine inb_hit ?_
  refine then_norm ?_
  refine way_L (tt := tt) (rs := []) (bs := []) (tk := [2]) (bk := []) (C := (True ∧ True ∧ True) ∧ True) (lv := .ret) (T' := [(2, vi ((1 + nodesL (t.v.take i) : Nat) : Int))]) (B' := []) mix hI hs ?_ ?_ ?_ ?_
  ·exact trivial
  ·kernel_rfl
  ·exact ⟨⟨trivial, trivial, trivial⟩, trivial⟩
  intro a w hs
  exact FnQ_cast (out := .val (vi ((1 + nodesL (t.v.take i) : Nat) : Int))) (by have h1 := nodes_eq t; have h2 : t.v.take i = t.v := List.take_of_length_le (by omega); rw [h2, ← h1]) (ret_ok [] hs ⟨by kernel_rfl, rfl⟩)
theorem con79 (t : Tree) (h : nodes t < 4611686018427387904) : Con Tryz.prog I0 79 [.agg (encTree t)] (.val (vi ((nodes t : Nat) : Int))) := con79_ (nodes t + 1) t (Nat.lt_succ_self _) h
set_option maxRecDepth 100000 in
theorem con80_ : ∀ (n : Nat) (t : Tree), nodes t < n → nodes t < 4611686018427387904 → Con Tryz.prog I0 80 [.agg (encTree t)] (.val (vi ((depth t : Nat) : Int))) := by
 intro n
 induction n
 case zero => intro t hn; omega
 rename_i n ih
 intro t hn hw
 refine con_of Tryz.func80 rfl (Nat.le_of_ble_eq_true rfl) stab (fun w0 fz a hI hs => ?_)
 refine wp_seq ?_
 refine way_L (tt := tt) (rs := []) (bs := []) (tk := [1]) (bk := [1000]) (C := True ∧ True ∧ True) (lv := .norm) (T' := [(1, .ptr 1000 0)]) (B' := [(1000, .var [vi t.kind, vb t.b, vb t.n.neg, .row (.int .u32) t.n.m, vi t.n.e, vs t.s, .row .str t.k, .row .tree t.v])]) mix hI hs ?_ ?_ ?_ ?_
 ·exact trivial
 ·kernel_rfl
 ·exact ⟨trivial, trivial, trivial⟩
 intro a w hs
 refine then_norm ?_
 refine wp_seq ?_
 refine way_L (tt := tt) (rs := []) (bs := []) (tk := [1, 3]) (bk := [1000]) (C := True ∧ True) (lv := .norm) (T' := [(1, .ptr 1000 0), (3, vi 0)]) (B' := [(1000, .var [vi t.kind, vb t.b, vb t.n.neg, .row (.int .u32) t.n.m, vi t.n.e, vs t.s, .row .str t.k, .row .tree t.v])]) mix hI hs ?_ ?_ ?_ ?_
 ·exact trivial
 ·kernel_rfl
 ·exact ⟨trivial, trivial⟩
 intro a w hs
 refine then_norm ?_
 refine wp_seq ?_
 refine wp_seq ?_
 refine way_L (tt := tt) (rs := []) (bs := []) (tk := [3, 7, 8, 9]) (bk := []) (C := tr 4 True) (lv := .norm) (T' := [(3, vi 0), (7, .row .tree t.v), (8, vi (t.v.length : Int)), (9, vi 0)]) (B' := []) mix hI hs ?_ ?_ ?_ ?_
 ·exact trivial
 ·kernel_rfl
 ·exact tr_mk trivial 4
 intro a w hs
 refine then_norm ?_
 refine wp_block ?_
 refine loop_L (N := Tryz.f80.ntmps) (w0 := w0) (ow := noO fz) (α := Nat) (fun p => [(3, vi ((depthL (t.v.take p) : Nat) : Int)), (7, .row .tree t.v), (8, vi (t.v.length : Int)), (9, vi ((p : Nat) : Int))]) (fun p => []) (fun p => p ≤ t.v.length) (fun p => t.v.length - p) 0 ?_ ?_ ?_
 ·exact Nat.zero_le _
 ·exact (SimL.cast hs (T' := [(3, vi ((depthL (t.v.take 0) : Nat) : Int)), (7, .row .tree t.v), (8, vi (t.v.length : Int)), (9, vi ((0 : Nat) : Int))]) (B' := []) (by rfl) rfl).ren [] (by kernel_rfl) (by kernel_rfl) (by kernel_rfl)
 rintro i hJ a w hs
 have hwt := nodes_eq t
 have hlen := nodesL_len t.v
 have hdl := depthL_le (t.v.take i)
 have hle := nodesL_le t.v i
 rcases Bool.eq_false_or_eq_true (decide (((i : Nat) : Int) < (t.v.length : Int))) with b1 | b1
 ·skip
  have n1 := of_decide_eq_true b1
  have ht1 := depthL_take t.v i (by omega)
  refine way_L (tt := tt) (rs := [(5, ⟨[(2, ciA 80 [.agg (encTree (t.v.getD i (dflt .tree)))] [] [] (.val (vi ((depth (t.v.getD i (dflt .tree)) : Nat) : Int))))], [], []⟩)]) (bs := [true]) (tk := [3, 7, 8, 9]) (bk := []) (C := (True ∧ True) ∧ (((decide (((i : Nat) : Int) < (t.v.length : Int))) = true) ∧ True) ∧ (((0 ≤ ((i : Nat) : Int) ∧ ((i : Nat) : Int) < t.v.length) ∧ (tr 3 True)) ∧ True ∧ True ∧ (okArgs [.agg (encTree (t.v.getD i (dflt .tree)))]) ∧ True ∧ True ∧ True) ∧ (InR .i64 (((i : Nat) : Int) + 1)) ∧ True ∧ True) (lv := .norm) (T' := [(3, vi (max ((depthL (t.v.take i) : Nat) : Int) ((depth (t.v.getD i (dflt .tree)) : Nat) : Int))), (7, .row .tree t.v), (8, vi (t.v.length : Int)), (9, vi (((i : Nat) : Int) + 1))]) (B' := []) mix hI hs ?_ ?_ ?_ ?_
  ·exact ⟨⟨⟨ent80, ih _ (by have h1 := nodes_eq t; have h2 := nodes_at (l := t.v) (i := i) (by omega); omega) (by have := weightL_take t.v i (by omega); have := weightL_le t.v (i + 1); have := nodesL_take t.v i (by omega); have := nodesL_le t.v (i + 1); have := weight_eq t; have := nodes_eq t; omega)⟩, trivial⟩, trivial⟩
  ·kernel_rfl
  ·exact ⟨⟨trivial, trivial⟩, ⟨b1, trivial⟩, ⟨⟨⟨by omega, by omega⟩, tr_mk trivial 3⟩, trivial, trivial, rfl, trivial, trivial, trivial⟩, (inR64 (by omega) (by omega)), trivial, trivial⟩
  intro a w hs
  refine then_norm ⟨i + 1, by omega, by omega, ?_⟩
  (have e0_ : (max ((depthL (t.v.take i) : Nat) : Int) ((depth (t.v.getD i (dflt .tree)) : Nat) : Int)) = (((depthL (t.v.take (i + 1)) : Nat) : Int)) := (by first | rfl | (omega)); have e1_ : (((i : Nat) : Int) + 1) = ((((i + 1) : Nat) : Int)) := (by first | rfl | (omega)); exact (SimL.cast hs (T' := [(3, vi ((depthL (t.v.take (i + 1)) : Nat) : Int)), (7, .row .tree t.v), (8, vi (t.v.length : Int)), (9, vi (((i + 1) : Nat) : Int))]) (B' := []) (by first | rfl | (rw [e0_, e1_]; done) | (simp only [e0_, e1_]; done) | (simp only [e0_, e1_]; rfl)) (by first | rfl | (rw [e0_, e1_]; done) | (simp only [e0_, e1_]; done) | (simp only [e0_, e1_]; rfl))).ren [] (by kernel_rfl) (by kernel_rfl) (by kernel_rfl))
 ·skip
  have n1 := of_decide_eq_false b1
  refine way_L (tt := tt) (rs := []) (bs := [false]) (tk := [3]) (bk := []) (C := (True ∧ True) ∧ ((decide (((i : Nat) : Int) < (t.v.length : Int))) = false) ∧ True) (lv := .exit 0) (T' := [(3, vi ((depthL (t.v.take i) : Nat) : Int))]) (B' := []) mix hI hs ?_ ?_ ?_ ?_
  ·exact trivial
  ·kernel_rfl
  ·exact ⟨⟨trivial, trivial⟩, b1, trivial⟩
  intro a w hs
  refine then_exit ?_
  refine inb_hit ?_
  refine then_norm ?_
  refine way_L (tt := tt) (rs := []) (bs := []) (tk := [2]) (bk := []) (C := (True ∧ (InR .i64 (1 + ((depthL (t.v.take i) : Nat) : Int))) ∧ True ∧ True) ∧ True) (lv := .ret) (T' := [(2, vi (1 + ((depthL (t.v.take i) : Nat) : Int)))]) (B' := []) mix hI hs ?_ ?_ ?_ ?_
  ·exact trivial
  ·kernel_rfl
  ·exact ⟨⟨trivial, (inR64 (by omega) (by omega)), trivial, trivial⟩, trivial⟩
  intro a w hs
  exact FnQ_cast (out := .val (vi (1 + ((depthL (t.v.take i) : Nat) : Int)))) (by have h1 := depth_eq t; have h2 : t.v.take i = t.v := List.take_of_length_le (by omega); rw [h2, h1]; rfl) (ret_ok [] hs ⟨by kernel_rfl, rfl⟩)
theorem con80 (t : Tree) (h : nodes t < 4611686018427387904) : Con Tryz.prog I0 80 [.agg (encTree t)] (.val (vi ((depth t : Nat) : Int))) := con80_ (nodes t + 1) t (Nat.lt_succ_self _) h
set_option maxRecDepth 100000 in
theorem con78_ : ∀ (n : Nat) (t : Tree), nodes t < n → weight t < 4611686018427387904 → Con Tryz.prog I0 78 [.agg (encTree t)] (.val (vi ((weight t : Nat) : Int))) := by
 intro n
 induction n
 case zero => intro t hn; omega
 rename_i n ih
 intro t hn hw
 have hb : weight t = bulk t + weightL t.v := weight_eq t
 refine con_of Tryz.func78 rfl (Nat.le_of_ble_eq_true rfl) stab (fun w0 fz a hI hs => ?_)
 refine wp_seq ?_
 refine way_L (tt := tt) (rs := []) (bs := []) (tk := [1]) (bk := [1000]) (C := True ∧ True ∧ True) (lv := .norm) (T' := [(1, .ptr 1000 0)]) (B' := [(1000, .var [vi t.kind, vb t.b, vb t.n.neg, .row (.int .u32) t.n.m, vi t.n.e, vs t.s, .row .str t.k, .row .tree t.v])]) mix hI hs ?_ ?_ ?_ ?_
 ·exact trivial
 ·kernel_rfl
 ·exact ⟨trivial, trivial, trivial⟩
 intro a w hs
 refine then_norm ?_
 refine wp_seq ?_
 refine way_L (tt := tt) (rs := []) (bs := []) (tk := [1, 3]) (bk := [1000]) (C := True ∧ True) (lv := .norm) (T' := [(1, .ptr 1000 0), (3, vi 1)]) (B' := [(1000, .var [vi t.kind, vb t.b, vb t.n.neg, .row (.int .u32) t.n.m, vi t.n.e, vs t.s, .row .str t.k, .row .tree t.v])]) mix hI hs ?_ ?_ ?_ ?_
 ·exact trivial
 ·kernel_rfl
 ·exact ⟨trivial, trivial⟩
 intro a w hs
 refine then_norm ?_
 refine wp_seq ?_
 rcases Bool.eq_false_or_eq_true (t.kind == 3) with b1 | b1
 ·skip
  have n1 := eq_of_beq b1
  have hq := bulk_3 (t := t) (by assumption)
  refine way_L (tt := tt) (rs := []) (bs := [true]) (tk := [1, 3]) (bk := [1000]) (C := (True ∧ True ∧ True) ∧ (True ∧ True ∧ True) ∧ ((t.kind == 3) = true) ∧ (tr 5 ((InR .i64 (1 + (t.n.m.length : Int))) ∧ True ∧ True))) (lv := .norm) (T' := [(1, .ptr 1000 0), (3, vi (1 + (t.n.m.length : Int)))]) (B' := [(1000, .var [vi t.kind, vb t.b, vb t.n.neg, .row (.int .u32) t.n.m, vi t.n.e, vs t.s, .row .str t.k, .row .tree t.v])]) mix hI hs ?_ ?_ ?_ ?_
  ·exact trivial
  ·kernel_rfl
  ·exact ⟨⟨trivial, trivial, trivial⟩, ⟨trivial, trivial, trivial⟩, b1, tr_mk (⟨(inR64 (by omega) (by omega)), trivial, trivial⟩) 5⟩
  intro a w hs
  refine then_norm ?_
  refine wp_seq ?_
  refine wp_seq ?_
  refine way_L (tt := tt) (rs := []) (bs := []) (tk := [3, 25, 26, 27]) (bk := []) (C := tr 4 True) (lv := .norm) (T' := [(3, vi (1 + (t.n.m.length : Int))), (25, .row .tree t.v), (26, vi (t.v.length : Int)), (27, vi 0)]) (B' := []) mix hI hs ?_ ?_ ?_ ?_
  ·exact trivial
  ·kernel_rfl
  ·exact tr_mk trivial 4
  intro a w hs
  refine then_norm ?_
  refine wp_block ?_
  refine loop_L (N := Tryz.f78.ntmps) (w0 := w0) (ow := noO fz) (α := Nat) (fun p => [(3, vi ((bulk t + weightL (t.v.take p) : Nat) : Int)), (25, .row .tree t.v), (26, vi (t.v.length : Int)), (27, vi ((p : Nat) : Int))]) (fun p => []) (fun p => p ≤ t.v.length) (fun p => t.v.length - p) 0 ?_ ?_ ?_
  ·exact Nat.zero_le _
  ·(have e0_ : (1 + (t.n.m.length : Int)) = (((bulk t + weightL (t.v.take 0) : Nat) : Int)) := (by first | rfl | (simp only [List.take_zero, weightL]; first | omega | (rw [bulk_0 (by assumption) (by assumption) (by assumption)]; rfl))); have e1_ : (0) = (((0 : Nat) : Int)) := (by first | rfl | (simp only [List.take_zero, weightL]; first | omega | (rw [bulk_0 (by assumption) (by assumption) (by assumption)]; rfl))); exact (SimL.cast hs (T' := [(3, vi ((bulk t + weightL (t.v.take 0) : Nat) : Int)), (25, .row .tree t.v), (26, vi (t.v.length : Int)), (27, vi ((0 : Nat) : Int))]) (B' := []) (by first | rfl | (rw [e0_, e1_]; done) | (simp only [e0_, e1_]; done) | (simp only [e0_, e1_]; rfl)) (by first | rfl | (rw [e0_, e1_]; done) | (simp only [e0_, e1_]; done) | (simp only [e0_, e1_]; rfl))).ren [] (by kernel_rfl) (by kernel_rfl) (by kernel_rfl))
  rintro i hJ a w hs
  have hwt := weight_eq t
  have hle := weightL_le t.v i
  have hlen := weightL_len t.v
  rcases Bool.eq_false_or_eq_true (decide (((i : Nat) : Int) < (t.v.length : Int))) with b2 | b2
  ·skip
   have n2 := of_decide_eq_true b2
   have ht1 := weightL_take t.v i (by omega)
   have hle1 := weightL_le t.v (i + 1)
   refine way_L (tt := tt) (rs := [(11, ⟨[(2, ciA 78 [.agg (encTree (t.v.getD i (dflt .tree)))] [] [] (.val (vi ((weight (t.v.getD i (dflt .tree)) : Nat) : Int))))], [], []⟩)]) (bs := [true]) (tk := [3, 25, 26, 27]) (bk := []) (C := (True ∧ True) ∧ (((decide (((i : Nat) : Int) < (t.v.length : Int))) = true) ∧ True) ∧ (((0 ≤ ((i : Nat) : Int) ∧ ((i : Nat) : Int) < t.v.length) ∧ (tr 3 True)) ∧ True ∧ True ∧ (okArgs [.agg (encTree (t.v.getD i (dflt .tree)))]) ∧ (InR .i64 (((bulk t + weightL (t.v.take i) : Nat) : Int) + ((weight (t.v.getD i (dflt .tree)) : Nat) : Int))) ∧ True ∧ True) ∧ (InR .i64 (((i : Nat) : Int) + 1)) ∧ True ∧ True) (lv := .norm) (T' := [(3, vi (((bulk t + weightL (t.v.take i) : Nat) : Int) + ((weight (t.v.getD i (dflt .tree)) : Nat) : Int))), (25, .row .tree t.v), (26, vi (t.v.length : Int)), (27, vi (((i : Nat) : Int) + 1))]) (B' := []) mix hI hs ?_ ?_ ?_ ?_
   ·exact ⟨⟨⟨ent78, ih _ (by have h1 := nodes_eq t; have h2 := nodes_at (l := t.v) (i := i) (by omega); omega) (by have := weightL_take t.v i (by omega); have := weightL_le t.v (i + 1); have := weight_eq t; omega)⟩, trivial⟩, trivial⟩
   ·kernel_rfl
   ·exact ⟨⟨trivial, trivial⟩, ⟨b2, trivial⟩, ⟨⟨⟨by omega, by omega⟩, tr_mk trivial 3⟩, trivial, trivial, rfl, (inR64 (by omega) (by omega)), trivial, trivial⟩, (inR64 (by omega) (by omega)), trivial, trivial⟩
   intro a w hs
   refine then_norm ⟨i + 1, by omega, by omega, ?_⟩
   (have e0_ : (((bulk t + weightL (t.v.take i) : Nat) : Int) + ((weight (t.v.getD i (dflt .tree)) : Nat) : Int)) = (((bulk t + weightL (t.v.take (i + 1)) : Nat) : Int)) := (by first | rfl | (omega)); have e1_ : (((i : Nat) : Int) + 1) = ((((i + 1) : Nat) : Int)) := (by first | rfl | (omega)); exact (SimL.cast hs (T' := [(3, vi ((bulk t + weightL (t.v.take (i + 1)) : Nat) : Int)), (25, .row .tree t.v), (26, vi (t.v.length : Int)), (27, vi (((i + 1) : Nat) : Int))]) (B' := []) (by first | rfl | (rw [e0_, e1_]; done) | (simp only [e0_, e1_]; done) | (simp only [e0_, e1_]; rfl)) (by first | rfl | (rw [e0_, e1_]; done) | (simp only [e0_, e1_]; done) | (simp only [e0_, e1_]; rfl))).ren [] (by kernel_rfl) (by kernel_rfl) (by kernel_rfl))
  ·skip
   have n2 := of_decide_eq_false b2
   refine way_L (tt := tt) (rs := []) (bs := [false]) (tk := [3]) (bk := []) (C := (True ∧ True) ∧ ((decide (((i : Nat) : Int) < (t.v.length : Int))) = false) ∧ True) (lv := .exit 1) (T' := [(3, vi ((bulk t + weightL (t.v.take i) : Nat) : Int))]) (B' := []) mix hI hs ?_ ?_ ?_ ?_
   ·exact trivial
   ·kernel_rfl
   ·exact ⟨⟨trivial, trivial⟩, b2, trivial⟩
   intro a w hs
   refine then_exit ?_
   refine inb_hit ?_
   refine then_norm ?_
   refine way_L (tt := tt) (rs := []) (bs := []) (tk := [2]) (bk := []) (C := (True ∧ True ∧ True) ∧ True) (lv := .ret) (T' := [(2, vi ((bulk t + weightL (t.v.take i) : Nat) : Int))]) (B' := []) mix hI hs ?_ ?_ ?_ ?_
   ·exact trivial
   ·kernel_rfl
   ·exact ⟨⟨trivial, trivial, trivial⟩, trivial⟩
   intro a w hs
   exact FnQ_cast (out := .val (vi ((bulk t + weightL (t.v.take i) : Nat) : Int))) (by have h1 := weight_eq t; have h2 : t.v.take i = t.v := List.take_of_length_le (by omega); rw [h2, ← h1]) (ret_ok [] hs ⟨by kernel_rfl, rfl⟩)
 ·skip
  have n1 := beq_eq_false_iff_ne.1 b1
  rcases Bool.eq_false_or_eq_true (t.kind == 4) with b3 | b3
  ·skip
   have n3 := eq_of_beq b3
   have hq := bulk_4 (t := t) (by assumption)
   refine way_L (tt := tt) (rs := []) (bs := [false, true, true]) (tk := [1, 3]) (bk := [1000]) (C := (True ∧ True ∧ True) ∧ (True ∧ True ∧ True) ∧ ((t.kind == 3) = false) ∧ ((True ∧ True ∧ True) ∧ ((t.kind == 4) = true) ∧ True) ∧ ((t.kind == 4) = true) ∧ (tr 4 ((InR .i64 (1 + (t.s.size : Int))) ∧ True ∧ True))) (lv := .norm) (T' := [(1, .ptr 1000 0), (3, vi (1 + (t.s.size : Int)))]) (B' := [(1000, .var [vi t.kind, vb t.b, vb t.n.neg, .row (.int .u32) t.n.m, vi t.n.e, vs t.s, .row .str t.k, .row .tree t.v])]) mix hI hs ?_ ?_ ?_ ?_
   ·exact trivial
   ·kernel_rfl
   ·exact ⟨⟨trivial, trivial, trivial⟩, ⟨trivial, trivial, trivial⟩, b1, ⟨⟨trivial, trivial, trivial⟩, b3, trivial⟩, b3, tr_mk (⟨(inR64 (by omega) (by omega)), trivial, trivial⟩) 4⟩
   intro a w hs
   refine then_norm ?_
   refine wp_seq ?_
   refine wp_seq ?_
   refine way_L (tt := tt) (rs := []) (bs := []) (tk := [3, 25, 26, 27]) (bk := []) (C := tr 4 True) (lv := .norm) (T' := [(3, vi (1 + (t.s.size : Int))), (25, .row .tree t.v), (26, vi (t.v.length : Int)), (27, vi 0)]) (B' := []) mix hI hs ?_ ?_ ?_ ?_
   ·exact trivial
   ·kernel_rfl
   ·exact tr_mk trivial 4
   intro a w hs
   refine then_norm ?_
   refine wp_block ?_
   refine loop_L (N := Tryz.f78.ntmps) (w0 := w0) (ow := noO fz) (α := Nat) (fun p => [(3, vi ((bulk t + weightL (t.v.take p) : Nat) : Int)), (25, .row .tree t.v), (26, vi (t.v.length : Int)), (27, vi ((p : Nat) : Int))]) (fun p => []) (fun p => p ≤ t.v.length) (fun p => t.v.length - p) 0 ?_ ?_ ?_
   ·exact Nat.zero_le _
   ·(have e0_ : (1 + (t.s.size : Int)) = (((bulk t + weightL (t.v.take 0) : Nat) : Int)) := (by first | rfl | (simp only [List.take_zero, weightL]; first | omega | (rw [bulk_0 (by assumption) (by assumption) (by assumption)]; rfl))); have e1_ : (0) = (((0 : Nat) : Int)) := (by first | rfl | (simp only [List.take_zero, weightL]; first | omega | (rw [bulk_0 (by assumption) (by assumption) (by assumption)]; rfl))); exact (SimL.cast hs (T' := [(3, vi ((bulk t + weightL (t.v.take 0) : Nat) : Int)), (25, .row .tree t.v), (26, vi (t.v.length : Int)), (27, vi ((0 : Nat) : Int))]) (B' := []) (by first | rfl | (rw [e0_, e1_]; done) | (simp only [e0_, e1_]; done) | (simp only [e0_, e1_]; rfl)) (by first | rfl | (rw [e0_, e1_]; done) | (simp only [e0_, e1_]; done) | (simp only [e0_, e1_]; rfl))).ren [] (by kernel_rfl) (by kernel_rfl) (by kernel_rfl))
   rintro i hJ a w hs
   have hwt := weight_eq t
   have hle := weightL_le t.v i
   have hlen := weightL_len t.v
   rcases Bool.eq_false_or_eq_true (decide (((i : Nat) : Int) < (t.v.length : Int))) with b4 | b4
   ·skip
    have n4 := of_decide_eq_true b4
    have ht1 := weightL_take t.v i (by omega)
    have hle1 := weightL_le t.v (i + 1)
    refine way_L (tt := tt) (rs := [(11, ⟨[(2, ciA 78 [.agg (encTree (t.v.getD i (dflt .tree)))] [] [] (.val (vi ((weight (t.v.getD i (dflt .tree)) : Nat) : Int))))], [], []⟩)]) (bs := [true]) (tk := [3, 25, 26, 27]) (bk := []) (C := (True ∧ True) ∧ (((decide (((i : Nat) : Int) < (t.v.length : Int))) = true) ∧ True) ∧ (((0 ≤ ((i : Nat) : Int) ∧ ((i : Nat) : Int) < t.v.length) ∧ (tr 3 True)) ∧ True ∧ True ∧ (okArgs [.agg (encTree (t.v.getD i (dflt .tree)))]) ∧ (InR .i64 (((bulk t + weightL (t.v.take i) : Nat) : Int) + ((weight (t.v.getD i (dflt .tree)) : Nat) : Int))) ∧ True ∧ True) ∧ (InR .i64 (((i : Nat) : Int) + 1)) ∧ True ∧ True) (lv := .norm) (T' := [(3, vi (((bulk t + weightL (t.v.take i) : Nat) : Int) + ((weight (t.v.getD i (dflt .tree)) : Nat) : Int))), (25, .row .tree t.v), (26, vi (t.v.length : Int)), (27, vi (((i : Nat) : Int) + 1))]) (B' := []) mix hI hs ?_ ?_ ?_ ?_
    ·exact ⟨⟨⟨ent78, ih _ (by have h1 := nodes_eq t; have h2 := nodes_at (l := t.v) (i := i) (by omega); omega) (by have := weightL_take t.v i (by omega); have := weightL_le t.v (i + 1); have := weight_eq t; omega)⟩, trivial⟩, trivial⟩
    ·kernel_rfl
    ·exact ⟨⟨trivial, trivial⟩, ⟨b4, trivial⟩, ⟨⟨⟨by omega, by omega⟩, tr_mk trivial 3⟩, trivial, trivial, rfl, (inR64 (by omega) (by omega)), trivial, trivial⟩, (inR64 (by omega) (by omega)), trivial, trivial⟩
    intro a w hs
    refine then_norm ⟨i + 1, by omega, by omega, ?_⟩
    (have e0_ : (((bulk t + weightL (t.v.take i) : Nat) : Int) + ((weight (t.v.getD i (dflt .tree)) : Nat) : Int)) = (((bulk t + weightL (t.v.take (i + 1)) : Nat) : Int)) := (by first | rfl | (omega)); have e1_ : (((i : Nat) : Int) + 1) = ((((i + 1) : Nat) : Int)) := (by first | rfl | (omega)); exact (SimL.cast hs (T' := [(3, vi ((bulk t + weightL (t.v.take (i + 1)) : Nat) : Int)), (25, .row .tree t.v), (26, vi (t.v.length : Int)), (27, vi (((i + 1) : Nat) : Int))]) (B' := []) (by first | rfl | (rw [e0_, e1_]; done) | (simp only [e0_, e1_]; done) | (simp only [e0_, e1_]; rfl)) (by first | rfl | (rw [e0_, e1_]; done) | (simp only [e0_, e1_]; done) | (simp only [e0_, e1_]; rfl))).ren [] (by kernel_rfl) (by kernel_rfl) (by kernel_rfl))
   ·skip
    have n4 := of_decide_eq_false b4
    refine way_L (tt := tt) (rs := []) (bs := [false]) (tk := [3]) (bk := []) (C := (True ∧ True) ∧ ((decide (((i : Nat) : Int) < (t.v.length : Int))) = false) ∧ True) (lv := .exit 1) (T' := [(3, vi ((bulk t + weightL (t.v.take i) : Nat) : Int))]) (B' := []) mix hI hs ?_ ?_ ?_ ?_
    ·exact trivial
    ·kernel_rfl
    ·exact ⟨⟨trivial, trivial⟩, b4, trivial⟩
    intro a w hs
    refine then_exit ?_
    refine inb_hit ?_
    refine then_norm ?_
    refine way_L (tt := tt) (rs := []) (bs := []) (tk := [2]) (bk := []) (C := (True ∧ True ∧ True) ∧ True) (lv := .ret) (T' := [(2, vi ((bulk t + weightL (t.v.take i) : Nat) : Int))]) (B' := []) mix hI hs ?_ ?_ ?_ ?_
    ·exact trivial
    ·kernel_rfl
    ·exact ⟨⟨trivial, trivial, trivial⟩, trivial⟩
    intro a w hs
    exact FnQ_cast (out := .val (vi ((bulk t + weightL (t.v.take i) : Nat) : Int))) (by have h1 := weight_eq t; have h2 : t.v.take i = t.v := List.take_of_length_le (by omega); rw [h2, ← h1]) (ret_ok [] hs ⟨by kernel_rfl, rfl⟩)
  ·skip
   have n3 := beq_eq_false_iff_ne.1 b3
   rcases Bool.eq_false_or_eq_true (t.kind == 5) with b5 | b5
   ·skip
    have n5 := eq_of_beq b5
    have hq := bulk_5 (t := t) (by assumption)
    refine way_L (tt := tt) (rs := []) (bs := [false, false, true]) (tk := [1, 3]) (bk := [1000]) (C := (True ∧ True ∧ True) ∧ (True ∧ True ∧ True) ∧ ((t.kind == 3) = false) ∧ ((True ∧ True ∧ True) ∧ ((t.kind == 4) = false) ∧ True ∧ True ∧ True) ∧ ((t.kind == 5) = true) ∧ (tr 4 ((InR .i64 (1 + (t.s.size : Int))) ∧ True ∧ True))) (lv := .norm) (T' := [(1, .ptr 1000 0), (3, vi (1 + (t.s.size : Int)))]) (B' := [(1000, .var [vi t.kind, vb t.b, vb t.n.neg, .row (.int .u32) t.n.m, vi t.n.e, vs t.s, .row .str t.k, .row .tree t.v])]) mix hI hs ?_ ?_ ?_ ?_
    ·exact trivial
    ·kernel_rfl
    ·exact ⟨⟨trivial, trivial, trivial⟩, ⟨trivial, trivial, trivial⟩, b1, ⟨⟨trivial, trivial, trivial⟩, b3, trivial, trivial, trivial⟩, b5, tr_mk (⟨(inR64 (by omega) (by omega)), trivial, trivial⟩) 4⟩
    intro a w hs
    refine then_norm ?_
    refine wp_seq ?_
    refine wp_seq ?_
    refine way_L (tt := tt) (rs := []) (bs := []) (tk := [3, 25, 26, 27]) (bk := []) (C := tr 4 True) (lv := .norm) (T' := [(3, vi (1 + (t.s.size : Int))), (25, .row .tree t.v), (26, vi (t.v.length : Int)), (27, vi 0)]) (B' := []) mix hI hs ?_ ?_ ?_ ?_
    ·exact trivial
    ·kernel_rfl
    ·exact tr_mk trivial 4
    intro a w hs
    refine then_norm ?_
    refine wp_block ?_
    refine loop_L (N := Tryz.f78.ntmps) (w0 := w0) (ow := noO fz) (α := Nat) (fun p => [(3, vi ((bulk t + weightL (t.v.take p) : Nat) : Int)), (25, .row .tree t.v), (26, vi (t.v.length : Int)), (27, vi ((p : Nat) : Int))]) (fun p => []) (fun p => p ≤ t.v.length) (fun p => t.v.length - p) 0 ?_ ?_ ?_
    ·exact Nat.zero_le _
    ·(have e0_ : (1 + (t.s.size : Int)) = (((bulk t + weightL (t.v.take 0) : Nat) : Int)) := (by first | rfl | (simp only [List.take_zero, weightL]; first | omega | (rw [bulk_0 (by assumption) (by assumption) (by assumption)]; rfl))); have e1_ : (0) = (((0 : Nat) : Int)) := (by first | rfl | (simp only [List.take_zero, weightL]; first | omega | (rw [bulk_0 (by assumption) (by assumption) (by assumption)]; rfl))); exact (SimL.cast hs (T' := [(3, vi ((bulk t + weightL (t.v.take 0) : Nat) : Int)), (25, .row .tree t.v), (26, vi (t.v.length : Int)), (27, vi ((0 : Nat) : Int))]) (B' := []) (by first | rfl | (rw [e0_, e1_]; done) | (simp only [e0_, e1_]; done) | (simp only [e0_, e1_]; rfl)) (by first | rfl | (rw [e0_, e1_]; done) | (simp only [e0_, e1_]; done) | (simp only [e0_, e1_]; rfl))).ren [] (by kernel_rfl) (by kernel_rfl) (by kernel_rfl))
    rintro i hJ a w hs
    have hwt := weight_eq t
    have hle := weightL_le t.v i
    have hlen := weightL_len t.v
    rcases Bool.eq_false_or_eq_true (decide (((i : Nat) : Int) < (t.v.length : Int))) with b6 | b6
    ·skip
     have n6 := of_decide_eq_true b6
     have ht1 := weightL_take t.v i (by omega)
     have hle1 := weightL_le t.v (i + 1)
     refine way_L (tt := tt) (rs := [(11, ⟨[(2, ciA 78 [.agg (encTree (t.v.getD i (dflt .tree)))] [] [] (.val (vi ((weight (t.v.getD i (dflt .tree)) : Nat) : Int))))], [], []⟩)]) (bs := [true]) (tk := [3, 25, 26, 27]) (bk := []) (C := (True ∧ True) ∧ (((decide (((i : Nat) : Int) < (t.v.length : Int))) = true) ∧ True) ∧ (((0 ≤ ((i : Nat) : Int) ∧ ((i : Nat) : Int) < t.v.length) ∧ (tr 3 True)) ∧ True ∧ True ∧ (okArgs [.agg (encTree (t.v.getD i (dflt .tree)))]) ∧ (InR .i64 (((bulk t + weightL (t.v.take i) : Nat) : Int) + ((weight (t.v.getD i (dflt .tree)) : Nat) : Int))) ∧ True ∧ True) ∧ (InR .i64 (((i : Nat) : Int) + 1)) ∧ True ∧ True) (lv := .norm) (T' := [(3, vi (((bulk t + weightL (t.v.take i) : Nat) : Int) + ((weight (t.v.getD i (dflt .tree)) : Nat) : Int))), (25, .row .tree t.v), (26, vi (t.v.length : Int)), (27, vi (((i : Nat) : Int) + 1))]) (B' := []) mix hI hs ?_ ?_ ?_ ?_
     ·exact ⟨⟨⟨ent78, ih _ (by have h1 := nodes_eq t; have h2 := nodes_at (l := t.v) (i := i) (by omega); omega) (by have := weightL_take t.v i (by omega); have := weightL_le t.v (i + 1); have := weight_eq t; omega)⟩, trivial⟩, trivial⟩
     ·kernel_rfl
     ·exact ⟨⟨trivial, trivial⟩, ⟨b6, trivial⟩, ⟨⟨⟨by omega, by omega⟩, tr_mk trivial 3⟩, trivial, trivial, rfl, (inR64 (by omega) (by omega)), trivial, trivial⟩, (inR64 (by omega) (by omega)), trivial, trivial⟩
     intro a w hs
     refine then_norm ⟨i + 1, by omega, by omega, ?_⟩
     (have e0_ : (((bulk t + weightL (t.v.take i) : Nat) : Int) + ((weight (t.v.getD i (dflt .tree)) : Nat) : Int)) = (((bulk t + weightL (t.v.take (i + 1)) : Nat) : Int)) := (by first | rfl | (omega)); have e1_ : (((i : Nat) : Int) + 1) = ((((i + 1) : Nat) : Int)) := (by first | rfl | (omega)); exact (SimL.cast hs (T' := [(3, vi ((bulk t + weightL (t.v.take (i + 1)) : Nat) : Int)), (25, .row .tree t.v), (26, vi (t.v.length : Int)), (27, vi (((i + 1) : Nat) : Int))]) (B' := []) (by first | rfl | (rw [e0_, e1_]; done) | (simp only [e0_, e1_]; done) | (simp only [e0_, e1_]; rfl)) (by first | rfl | (rw [e0_, e1_]; done) | (simp only [e0_, e1_]; done) | (simp only [e0_, e1_]; rfl))).ren [] (by kernel_rfl) (by kernel_rfl) (by kernel_rfl))
    ·skip
     have n6 := of_decide_eq_false b6
     refine way_L (tt := tt) (rs := []) (bs := [false]) (tk := [3]) (bk := []) (C := (True ∧ True) ∧ ((decide (((i : Nat) : Int) < (t.v.length : Int))) = false) ∧ True) (lv := .exit 1) (T' := [(3, vi ((bulk t + weightL (t.v.take i) : Nat) : Int))]) (B' := []) mix hI hs ?_ ?_ ?_ ?_
     ·exact trivial
     ·kernel_rfl
     ·exact ⟨⟨trivial, trivial⟩, b6, trivial⟩
     intro a w hs
     refine then_exit ?_
     refine inb_hit ?_
     refine then_norm ?_
     refine way_L (tt := tt) (rs := []) (bs := []) (tk := [2]) (bk := []) (C := (True ∧ True ∧ True) ∧ True) (lv := .ret) (T' := [(2, vi ((bulk t + weightL (t.v.take i) : Nat) : Int))]) (B' := []) mix hI hs ?_ ?_ ?_ ?_
     ·exact trivial
     ·kernel_rfl
     ·exact ⟨⟨trivial, trivial, trivial⟩, trivial⟩
     intro a w hs
     exact FnQ_cast (out := .val (vi ((bulk t + weightL (t.v.take i) : Nat) : Int))) (by have h1 := weight_eq t; have h2 : t.v.take i = t.v := List.take_of_length_le (by omega); rw [h2, ← h1]) (ret_ok [] hs ⟨by kernel_rfl, rfl⟩)
   ·skip
    have n5 := beq_eq_false_iff_ne.1 b5
    refine way_L (tt := tt) (rs := []) (bs := [false, false, false]) (tk := [1, 3]) (bk := [1000]) (C := (True ∧ True ∧ True) ∧ (True ∧ True ∧ True) ∧ ((t.kind == 3) = false) ∧ ((True ∧ True ∧ True) ∧ ((t.kind == 4) = false) ∧ True ∧ True ∧ True) ∧ ((t.kind == 5) = false) ∧ True) (lv := .norm) (T' := [(1, .ptr 1000 0), (3, vi 1)]) (B' := [(1000, .var [vi t.kind, vb t.b, vb t.n.neg, .row (.int .u32) t.n.m, vi t.n.e, vs t.s, .row .str t.k, .row .tree t.v])]) mix hI hs ?_ ?_ ?_ ?_
    ·exact trivial
    ·kernel_rfl
    ·exact ⟨⟨trivial, trivial, trivial⟩, ⟨trivial, trivial, trivial⟩, b1, ⟨⟨trivial, trivial, trivial⟩, b3, trivial, trivial, trivial⟩, b5, trivial⟩
    intro a w hs
    refine then_norm ?_
    refine wp_seq ?_
    refine wp_seq ?_
    refine way_L (tt := tt) (rs := []) (bs := []) (tk := [3, 25, 26, 27]) (bk := []) (C := tr 4 True) (lv := .norm) (T' := [(3, vi 1), (25, .row .tree t.v), (26, vi (t.v.length : Int)), (27, vi 0)]) (B' := []) mix hI hs ?_ ?_ ?_ ?_
    ·exact trivial
    ·kernel_rfl
    ·exact tr_mk trivial 4
    intro a w hs
    refine then_norm ?_
    refine wp_block ?_
    refine loop_L (N := Tryz.f78.ntmps) (w0 := w0) (ow := noO fz) (α := Nat) (fun p => [(3, vi ((bulk t + weightL (t.v.take p) : Nat) : Int)), (25, .row .tree t.v), (26, vi (t.v.length : Int)), (27, vi ((p : Nat) : Int))]) (fun p => []) (fun p => p ≤ t.v.length) (fun p => t.v.length - p) 0 ?_ ?_ ?_
    ·exact Nat.zero_le _
    ·(have e0_ : (1) = (((bulk t + weightL (t.v.take 0) : Nat) : Int)) := (by first | rfl | (simp only [List.take_zero, weightL]; first | omega | (rw [bulk_0 (by assumption) (by assumption) (by assumption)]; rfl))); have e1_ : (0) = (((0 : Nat) : Int)) := (by first | rfl | (simp only [List.take_zero, weightL]; first | omega | (rw [bulk_0 (by assumption) (by assumption) (by assumption)]; rfl))); exact (SimL.cast hs (T' := [(3, vi ((bulk t + weightL (t.v.take 0) : Nat) : Int)), (25, .row .tree t.v), (26, vi (t.v.length : Int)), (27, vi ((0 : Nat) : Int))]) (B' := []) (by first | rfl | (rw [e0_, e1_]; done) | (simp only [e0_, e1_]; done) | (simp only [e0_, e1_]; rfl)) (by first | rfl | (rw [e0_, e1_]; done) | (simp only [e0_, e1_]; done) | (simp only [e0_, e1_]; rfl))).ren [] (by kernel_rfl) (by kernel_rfl) (by kernel_rfl))
    rintro i hJ a w hs
    have hwt := weight_eq t
    have hle := weightL_le t.v i
    have hlen := weightL_len t.v
    rcases Bool.eq_false_or_eq_true (decide (((i : Nat) : Int) < (t.v.length : Int))) with b7 | b7
    ·skip
     have n7 := of_decide_eq_true b7
     have ht1 := weightL_take t.v i (by omega)
     have hle1 := weightL_le t.v (i + 1)
     refine way_L (tt := tt) (rs := [(11, ⟨[(2, ciA 78 [.agg (encTree (t.v.getD i (dflt .tree)))] [] [] (.val (vi ((weight (t.v.getD i (dflt .tree)) : Nat) : Int))))], [], []⟩)]) (bs := [true]) (tk := [3, 25, 26, 27]) (bk := []) (C := (True ∧ True) ∧ (((decide (((i : Nat) : Int) < (t.v.length : Int))) = true) ∧ True) ∧ (((0 ≤ ((i : Nat) : Int) ∧ ((i : Nat) : Int) < t.v.length) ∧ (tr 3 True)) ∧ True ∧ True ∧ (okArgs [.agg (encTree (t.v.getD i (dflt .tree)))]) ∧ (InR .i64 (((bulk t + weightL (t.v.take i) : Nat) : Int) + ((weight (t.v.getD i (dflt .tree)) : Nat) : Int))) ∧ True ∧ True) ∧ (InR .i64 (((i : Nat) : Int) + 1)) ∧ True ∧ True) (lv := .norm) (T' := [(3, vi (((bulk t + weightL (t.v.take i) : Nat) : Int) + ((weight (t.v.getD i (dflt .tree)) : Nat) : Int))), (25, .row .tree t.v), (26, vi (t.v.length : Int)), (27, vi (((i : Nat) : Int) + 1))]) (B' := []) mix hI hs ?_ ?_ ?_ ?_
     ·exact ⟨⟨⟨ent78, ih _ (by have h1 := nodes_eq t; have h2 := nodes_at (l := t.v) (i := i) (by omega); omega) (by have := weightL_take t.v i (by omega); have := weightL_le t.v (i + 1); have := weight_eq t; omega)⟩, trivial⟩, trivial⟩
     ·kernel_rfl
     ·exact ⟨⟨trivial, trivial⟩, ⟨b7, trivial⟩, ⟨⟨⟨by omega, by omega⟩, tr_mk trivial 3⟩, trivial, trivial, rfl, (inR64 (by omega) (by omega)), trivial, trivial⟩, (inR64 (by omega) (by omega)), trivial, trivial⟩
     intro a w hs
     refine then_norm ⟨i + 1, by omega, by omega, ?_⟩
     (have e0_ : (((bulk t + weightL (t.v.take i) : Nat) : Int) + ((weight (t.v.getD i (dflt .tree)) : Nat) : Int)) = (((bulk t + weightL (t.v.take (i + 1)) : Nat) : Int)) := (by first | rfl | (omega)); have e1_ : (((i : Nat) : Int) + 1) = ((((i + 1) : Nat) : Int)) := (by first | rfl | (omega)); exact (SimL.cast hs (T' := [(3, vi ((bulk t + weightL (t.v.take (i + 1)) : Nat) : Int)), (25, .row .tree t.v), (26, vi (t.v.length : Int)), (27, vi (((i + 1) : Nat) : Int))]) (B' := []) (by first | rfl | (rw [e0_, e1_]; done) | (simp only [e0_, e1_]; done) | (simp only [e0_, e1_]; rfl)) (by first | rfl | (rw [e0_, e1_]; done) | (simp only [e0_, e1_]; done) | (simp only [e0_, e1_]; rfl))).ren [] (by kernel_rfl) (by kernel_rfl) (by kernel_rfl))
    ·skip
     have n7 := of_decide_eq_false b7
     refine way_L (tt := tt) (rs := []) (bs := [false]) (tk := [3]) (bk := []) (C := (True ∧ True) ∧ ((decide (((i : Nat) : Int) < (t.v.length : Int))) = false) ∧ True) (lv := .exit 1) (T' := [(3, vi ((bulk t + weightL (t.v.take i) : Nat) : Int))]) (B' := []) mix hI hs ?_ ?_ ?_ ?_
     ·exact trivial
     ·kernel_rfl
     ·exact ⟨⟨trivial, trivial⟩, b7, trivial⟩
     intro a w hs
     refine then_exit ?_
     refine inb_hit ?_
     refine then_norm ?_
     refine way_L (tt := tt) (rs := []) (bs := []) (tk := [2]) (bk := []) (C := (True ∧ True ∧ True) ∧ True) (lv := .ret) (T' := [(2, vi ((bulk t + weightL (t.v.take i) : Nat) : Int))]) (B' := []) mix hI hs ?_ ?_ ?_ ?_
     ·exact trivial
     ·kernel_rfl
     ·exact ⟨⟨trivial, trivial, trivial⟩, trivial⟩
     intro a w hs
     exact FnQ_cast (out := .val (vi ((bulk t + weightL (t.v.take i) : Nat) : Int))) (by have h1 := weight_eq t; have h2 : t.v.take i = t.v := List.take_of_length_le (by omega); rw [h2, ← h1]) (ret_ok [] hs ⟨by kernel_rfl, rfl⟩)
theorem con78 (t : Tree) (h : weight t < 4611686018427387904) : Con Tryz.prog I0 78 [.agg (encTree t)] (.val (vi ((weight t : Nat) : Int))) := con78_ (nodes t + 1) t (Nat.lt_succ_self _) h
end Go.Proofs.YtondpnipoogoiaaGreatDoor.F
namespace Go.Proofs.YtondpnipoogoiaaGreatDoor.F
open Go Go.RowKit Go.Proofs.Tryz
set_option linter.unusedVariables false
set_option linter.unusedSimpArgs false
def cutK (t : Tree) : List ByteArray := if t.kind = 7 then t.k.take (min t.k.length t.v.length) else []
def cutV (t : Tree) : List Tree := if t.kind = 7 then t.v.take (min t.k.length t.v.length) else []
theorem cut_len (t : Tree) : (cutK t).length = (cutV t).length := by unfold cutK cutV; split <;> simp <;> omega
def eqT (a b : ByteArray) : Bool := a.toList == b.toList
def idxT (x : ByteArray) : List ByteArray → Int
  | [] => -1
  | y :: l => if eqT x y = true then 0 else if idxT x l < 0 then -1 else idxT x l + 1
theorem idxT_no {x : ByteArray} : ∀ {l : List ByteArray}, (∀ j, j < l.length → ∀ d, eqT x (l.getD j d) = false) → idxT x l = -1
  | [], _ => rfl
  | y :: l, h => by
    have h0 : eqT x y = false := h 0 (by simp) y
    have h1 := idxT_no (l := l) (fun j hj d => h (j + 1) (by simpa using hj) d)
    simp [idxT, h0, h1]
theorem idxT_at {x : ByteArray} : ∀ {l : List ByteArray} {i : Nat} (d : ByteArray), i < l.length → eqT x (l.getD i d) = true → (∀ j, j < i → ∀ d, eqT x (l.getD j d) = false) → idxT x l = (i : Int)
  | [], _, _, h, _, _ => by simp at h
  | y :: l, 0, d, h, hq, _ => by
    have hq' : eqT x y = true := hq
    simp [idxT, hq']
  | y :: l, i + 1, d, h, hq, hn => by
    have h0 : eqT x y = false := hn 0 (by omega) y
    have h1 := idxT_at (l := l) (i := i) d (by simpa using h) hq (fun j hj d => hn (j + 1) (by omega) d)
    simp only [idxT, h0, h1]
    rw [if_neg (by decide), if_neg (by omega)]
    omega
theorem idxT_in (x : ByteArray) : ∀ l : List ByteArray, -1 ≤ idxT x l ∧ idxT x l < l.length
  | [] => by simp [idxT]
  | y :: l => by
    have := idxT_in x l
    simp only [idxT, List.length_cons]
    split
    · omega
    · split <;> omega
theorem getD_any' {α : Type} {l : List α} {i : Nat} (h : i < l.length) (d d' : α) : l.getD i d = l.getD i d' := by
  rw [List.getD_eq_getElem?_getD, List.getD_eq_getElem?_getD, List.getElem?_eq_getElem h]; rfl
def memI (t : Tree) (x : ByteArray) : Int := idxT x (cutK t)
def memV (t : Tree) (x : ByteArray) : Tree := if memI t x ≥ 0 then (cutV t).getD (memI t x).toNat (dflt .tree) else Tree.zero
def memB (t : Tree) (x : ByteArray) : Bool := decide (memI t x ≥ 0)
theorem memV_pos {t : Tree} {x : ByteArray} (h : idxT x (cutK t) ≥ 0) : memV t x = (cutV t).getD (idxT x (cutK t)).toNat (dflt .tree) ∧ memB t x = true := ⟨if_pos h, decide_eq_true h⟩
theorem memV_neg {t : Tree} {x : ByteArray} (h : ¬ idxT x (cutK t) ≥ 0) : memV t x = Tree.zero ∧ memB t x = false := ⟨if_neg h, decide_eq_false h⟩
set_option maxRecDepth 100000 in
theorem con173 (t : Tree) : Con Tryz.prog I0 173 [.agg (encTree t)] (.val (.tup [.row .str (cutK t), .row .tree (cutV t)])) := by
 refine con_of Tryz.func173 rfl (Nat.le_of_ble_eq_true rfl) stab (fun w0 fz a hI hs => ?_)
 rcases Bool.eq_false_or_eq_true (t.kind != 7) with b1 | b1
 ·skip
  have n1 := bne_iff_ne.1 b1
  refine way_L (tt := tt) (rs := []) (bs := [true]) (tk := [2, 3]) (bk := []) (C := (tr 3 True) ∧ (tr 3 True) ∧ ((t.kind != 7) = true) ∧ (True ∧ True ∧ True) ∧ True) (lv := .ret) (T' := [(2, nilv), (3, nilv)]) (B' := []) mix hI hs ?_ ?_ ?_ ?_
  ·exact trivial
  ·kernel_rfl
  ·exact ⟨tr_mk trivial 3, tr_mk trivial 3, b1, ⟨trivial, trivial, trivial⟩, trivial⟩
  intro a w hs
  exact FnQ_cast (out := .val (.tup [.row .str ([]), .row .tree ([])])) (by have b1 := b1; simp at b1; simp [cutK, cutV, b1]; try omega) (ret_ok [] hs ⟨by kernel_rfl, rfl⟩)
 ·skip
  have n1 := bne_eq_false_iff_eq.1 b1
  refine way_L (tt := tt) (rs := []) (bs := [false]) (tk := [2, 3]) (bk := []) (C := (tr 3 True) ∧ ((tr 3 True) ∧ ((t.kind != 7) = false) ∧ True) ∧ (tr 8 True) ∧ (tr 4 ((0 ≤ (0 : Int) ∧ (0 : Int) ≤ (min (t.k.length : Int) (t.v.length : Int)) ∧ (min (t.k.length : Int) (t.v.length : Int)) ≤ (min (t.k.length : Int) (t.v.length : Int)) ∧ (min (t.k.length : Int) (t.v.length : Int)) ≤ (t.k.length : Int)) ∧ (tr 4 ((0 ≤ (0 : Int) ∧ (0 : Int) ≤ (min (t.k.length : Int) (t.v.length : Int)) ∧ (min (t.k.length : Int) (t.v.length : Int)) ≤ (min (t.k.length : Int) (t.v.length : Int)) ∧ (min (t.k.length : Int) (t.v.length : Int)) ≤ (t.v.length : Int)) ∧ True ∧ True ∧ True)))) ∧ True) (lv := .ret) (T' := [(2, .row .str (t.k.take (min (t.k.length : Int) (t.v.length : Int)).toNat)), (3, .row .tree (t.v.take (min (t.k.length : Int) (t.v.length : Int)).toNat))]) (B' := []) mix hI hs ?_ ?_ ?_ ?_
  ·exact trivial
  ·kernel_rfl
  ·exact ⟨tr_mk trivial 3, ⟨tr_mk trivial 3, b1, trivial⟩, tr_mk trivial 8, tr_mk (⟨(by (repeat' apply And.intro) <;> (try split) <;> omega), tr_mk (⟨(by (repeat' apply And.intro) <;> (try split) <;> omega), trivial, trivial, trivial⟩) 4⟩) 4, trivial⟩
  intro a w hs
  exact FnQ_cast (out := .val (.tup [.row .str (t.k.take (min (t.k.length : Int) (t.v.length : Int)).toNat), .row .tree (t.v.take (min (t.k.length : Int) (t.v.length : Int)).toNat)])) (by have b1 := b1; simp at b1; simp [cutK, cutV, b1]; try omega) (ret_ok [] hs ⟨by kernel_rfl, rfl⟩)
set_option maxRecDepth 100000 in
theorem con171 (xs : List ByteArray) (x : ByteArray) (hx : xs.length < 4611686018427387904) : Con Tryz.prog I0 171 [.row .str xs, vs x] (.val (vi (idxT x xs))) := by
 refine con_of Tryz.func171 rfl (Nat.le_of_ble_eq_true rfl) stab (fun w0 fz a hI hs => ?_)
 refine wp_seq ?_
 refine way_L (tt := tt) (rs := []) (bs := []) (tk := [0, 1]) (bk := []) (C := True ∧ True) (lv := .norm) (T' := [(0, .row .str xs), (1, vs x)]) (B' := []) mix hI hs ?_ ?_ ?_ ?_
 ·exact trivial
 ·kernel_rfl
 ·exact ⟨trivial, trivial⟩
 intro a w hs
 refine then_norm ?_
 refine wp_seq ?_
 refine wp_seq ?_
 refine way_L (tt := tt) (rs := []) (bs := []) (tk := [0, 1, 7, 8]) (bk := []) (C := tr 3 True) (lv := .norm) (T' := [(0, .row .str xs), (1, vs x), (7, vi (xs.length : Int)), (8, vi 0)]) (B' := []) mix hI hs ?_ ?_ ?_ ?_
 ·exact trivial
 ·kernel_rfl
 ·exact tr_mk trivial 3
 intro a w hs
 refine then_norm ?_
 refine wp_block ?_
 refine loop_L (N := Tryz.f171.ntmps) (w0 := w0) (ow := noO fz) (α := Nat) (fun p => [(0, .row .str xs), (1, vs x), (7, vi (xs.length : Int)), (8, vi ((p : Nat) : Int))]) (fun p => []) (fun p => p ≤ xs.length ∧ ∀ j, j < p → ∀ d, eqT x (xs.getD j d) = false) (fun p => xs.length - p) 0 ?_ ?_ ?_
 ·exact ⟨Nat.zero_le _, fun j hj => absurd hj (Nat.not_lt_zero _)⟩
 ·(have e0_ : (0) = (((0 : Nat) : Int)) := (by first | rfl | (rfl)); exact (SimL.cast hs (T' := [(0, .row .str xs), (1, vs x), (7, vi (xs.length : Int)), (8, vi ((0 : Nat) : Int))]) (B' := []) (by first | rfl | (rw [e0_]; done) | (simp only [e0_]; done) | (simp only [e0_]; rfl)) (by first | rfl | (rw [e0_]; done) | (simp only [e0_]; done) | (simp only [e0_]; rfl))).ren [] (by kernel_rfl) (by kernel_rfl) (by kernel_rfl))
 rintro i hJ a w hs
 obtain ⟨hi, hall⟩ := hJ
 rcases Bool.eq_false_or_eq_true (decide (((i : Nat) : Int) < (xs.length : Int))) with b1 | b1
 ·skip
  have n1 := of_decide_eq_true b1
  rcases Bool.eq_false_or_eq_true (x.toList == (xs.getD i (dflt .str)).toList) with b2 | b2
  ·skip
   have n2 := eq_of_beq b2
   refine way_L (tt := tt) (rs := []) (bs := [true, true]) (tk := [4]) (bk := []) (C := (True ∧ True) ∧ (((decide (((i : Nat) : Int) < (xs.length : Int))) = true) ∧ True) ∧ (True ∧ True ∧ True) ∧ (tr 3 ((0 ≤ ((i : Nat) : Int) ∧ ((i : Nat) : Int) < xs.length) ∧ True ∧ True ∧ True)) ∧ ((x.toList == (xs.getD i (dflt .str)).toList) = true) ∧ (True ∧ True ∧ True) ∧ True) (lv := .ret) (T' := [(4, vi ((i : Nat) : Int))]) (B' := []) mix hI hs ?_ ?_ ?_ ?_
   ·exact trivial
   ·kernel_rfl
   ·exact ⟨⟨trivial, trivial⟩, ⟨b1, trivial⟩, ⟨trivial, trivial, trivial⟩, tr_mk (⟨⟨by omega, by omega⟩, trivial, trivial, trivial⟩) 3, b2, ⟨trivial, trivial, trivial⟩, trivial⟩
   intro a w hs
   refine then_ret ?_
   refine inb_ret ?_
   refine then_ret ?_
   exact FnQ_cast (out := .val (vi ((i : Nat) : Int))) (by rw [idxT_at (i := i) (dflt .str) (by omega) b2 (fun j hj d => hall j hj d)]) (ret_ok [] hs ⟨by kernel_rfl, rfl⟩)
  ·skip
   have n2 := beq_eq_false_iff_ne.1 b2
   refine way_L (tt := tt) (rs := []) (bs := [true, false]) (tk := [0, 1, 7, 8]) (bk := []) (C := (True ∧ True) ∧ (((decide (((i : Nat) : Int) < (xs.length : Int))) = true) ∧ True) ∧ ((True ∧ True ∧ True) ∧ (tr 3 ((0 ≤ ((i : Nat) : Int) ∧ ((i : Nat) : Int) < xs.length) ∧ True ∧ True ∧ True)) ∧ ((x.toList == (xs.getD i (dflt .str)).toList) = false) ∧ True) ∧ (InR .i64 (((i : Nat) : Int) + 1)) ∧ True ∧ True) (lv := .norm) (T' := [(0, .row .str xs), (1, vs x), (7, vi (xs.length : Int)), (8, vi (((i : Nat) : Int) + 1))]) (B' := []) mix hI hs ?_ ?_ ?_ ?_
   ·exact trivial
   ·kernel_rfl
   ·exact ⟨⟨trivial, trivial⟩, ⟨b1, trivial⟩, ⟨⟨trivial, trivial, trivial⟩, tr_mk (⟨⟨by omega, by omega⟩, trivial, trivial, trivial⟩) 3, b2, trivial⟩, (inR64 (by omega) (by omega)), trivial, trivial⟩
   intro a w hs
   refine then_norm ⟨i + 1, ⟨by omega, fun j hj d => by rcases Nat.lt_succ_iff_lt_or_eq.1 hj with h | h; exact hall j h d; subst h; rw [getD_any' (by omega) d (dflt .str)]; exact b2⟩, by omega, ?_⟩
   (have e0_ : (((i : Nat) : Int) + 1) = ((((i + 1) : Nat) : Int)) := (by first | rfl | (omega)); exact (SimL.cast hs (T' := [(0, .row .str xs), (1, vs x), (7, vi (xs.length : Int)), (8, vi (((i + 1) : Nat) : Int))]) (B' := []) (by first | rfl | (rw [e0_]; done) | (simp only [e0_]; done) | (simp only [e0_]; rfl)) (by first | rfl | (rw [e0_]; done) | (simp only [e0_]; done) | (simp only [e0_]; rfl))).ren [] (by kernel_rfl) (by kernel_rfl) (by kernel_rfl))
 ·skip
  have n1 := of_decide_eq_false b1
  refine way_L (tt := tt) (rs := []) (bs := [false]) (tk := []) (bk := []) (C := (True ∧ True) ∧ ((decide (((i : Nat) : Int) < (xs.length : Int))) = false) ∧ True) (lv := .exit 0) (T' := []) (B' := []) mix hI hs ?_ ?_ ?_ ?_
  ·exact trivial
  ·kernel_rfl
  ·exact ⟨⟨trivial, trivial⟩, b1, trivial⟩
  intro a w hs
  refine then_exit ?_
  refine inb_hit ?_
  refine then_norm ?_
  refine way_L (tt := tt) (rs := []) (bs := []) (tk := [4]) (bk := []) (C := (True ∧ True) ∧ True) (lv := .ret) (T' := [(4, vi (-1))]) (B' := []) mix hI hs ?_ ?_ ?_ ?_
  ·exact trivial
  ·kernel_rfl
  ·exact ⟨⟨trivial, trivial⟩, trivial⟩
  intro a w hs
  exact FnQ_cast (out := .val (vi (-1))) (by rw [idxT_no (fun j hj d => hall j (by omega) d)]) (ret_ok [] hs ⟨by kernel_rfl, rfl⟩)
set_option maxRecDepth 100000 in
theorem con122 (t : Tree) (x : ByteArray) (hx : (cutK t).length < 4611686018427387904) : Con Tryz.prog I0 122 [.agg (encTree t), vs x] (.val (.tup [.agg (encTree (memV t x)), vb (memB t x)])) := by
 have hx1 := idxT_in x (cutK t)
 have hcl := cut_len t
 refine con_of Tryz.func122 rfl (Nat.le_of_ble_eq_true rfl) stab (fun w0 fz a hI hs => ?_)
 rcases Bool.eq_false_or_eq_true (decide ((idxT x (cutK t)) ≥ 0)) with b1 | b1
 ·skip
  have n1 := of_decide_eq_true b1
  refine way_L (tt := tt) (rs := [(1, ⟨[(1, ciA 173 [.agg (encTree t)] [] [] (.val (.tup [.row .str (cutK t), .row .tree (cutV t)])))], [], []⟩), (2, ⟨[(2, ciA 171 [.row .str (cutK t), vs x] [] [] (.val (vi (idxT x (cutK t)))))], [], []⟩)]) (bs := [true]) (tk := [4, 5]) (bk := [1001]) (C := (tr 3 True) ∧ (True ∧ (okArgs [.agg (encTree t)]) ∧ (tr 5 True)) ∧ (True ∧ True ∧ (okArgs [.row .str (cutK t), vs x]) ∧ True ∧ True) ∧ (True ∧ True ∧ True) ∧ ((decide ((idxT x (cutK t)) ≥ 0)) = true) ∧ (True ∧ True ∧ (0 ≤ (idxT x (cutK t)) ∧ (idxT x (cutK t)) < (cutV t).length) ∧ (tr 3 True)) ∧ True) (lv := .ret) (T' := [(4, .ptr 1001 0), (5, vb true)]) (B' := [(1001, .var [vi (((cutV t).getD ((idxT x (cutK t)).toNat) (dflt .tree)).kind), vb (((cutV t).getD ((idxT x (cutK t)).toNat) (dflt .tree)).b), vb (((cutV t).getD ((idxT x (cutK t)).toNat) (dflt .tree)).n.neg), .row (.int .u32) (((cutV t).getD ((idxT x (cutK t)).toNat) (dflt .tree)).n.m), vi (((cutV t).getD ((idxT x (cutK t)).toNat) (dflt .tree)).n.e), vs (((cutV t).getD ((idxT x (cutK t)).toNat) (dflt .tree)).s), .row .str (((cutV t).getD ((idxT x (cutK t)).toNat) (dflt .tree)).k), .row .tree (((cutV t).getD ((idxT x (cutK t)).toNat) (dflt .tree)).v)])]) mix hI hs ?_ ?_ ?_ ?_
  ·exact ⟨⟨⟨ent173, con173 _⟩, trivial⟩, ⟨⟨ent171, con171 _ _ hx⟩, trivial⟩, trivial⟩
  ·kernel_rfl
  ·exact ⟨tr_mk trivial 3, ⟨trivial, rfl, tr_mk trivial 5⟩, ⟨trivial, trivial, rfl, trivial, trivial⟩, ⟨trivial, trivial, trivial⟩, b1, ⟨trivial, trivial, ⟨by omega, by omega⟩, tr_mk trivial 3⟩, trivial⟩
  intro a w hs
  exact FnQ_cast (out := .val (.tup [.agg (encTree ((cutV t).getD ((idxT x (cutK t)).toNat) (dflt .tree))), vb true])) (by have h := memV_pos (by assumption); rw [h.1, h.2]) (ret_ok [] hs ⟨by kernel_rfl, rfl⟩)
 ·skip
  have n1 := of_decide_eq_false b1
  refine way_L (tt := tt) (rs := [(1, ⟨[(1, ciA 173 [.agg (encTree t)] [] [] (.val (.tup [.row .str (cutK t), .row .tree (cutV t)])))], [], []⟩), (2, ⟨[(2, ciA 171 [.row .str (cutK t), vs x] [] [] (.val (vi (idxT x (cutK t)))))], [], []⟩)]) (bs := [false]) (tk := [4, 5]) (bk := [1001]) (C := (tr 3 True) ∧ (True ∧ (okArgs [.agg (encTree t)]) ∧ (tr 5 True)) ∧ ((True ∧ True ∧ (okArgs [.row .str (cutK t), vs x]) ∧ True ∧ True) ∧ (True ∧ True ∧ True) ∧ ((decide ((idxT x (cutK t)) ≥ 0)) = false) ∧ True) ∧ (tr 3 True) ∧ True) (lv := .ret) (T' := [(4, .ptr 1001 0), (5, vb false)]) (B' := [(1001, .var [vi 0, vb false, vb false, nilv, vi 0, vs (ba []), nilv, nilv])]) mix hI hs ?_ ?_ ?_ ?_
  ·exact ⟨⟨⟨ent173, con173 _⟩, trivial⟩, ⟨⟨ent171, con171 _ _ hx⟩, trivial⟩, trivial⟩
  ·kernel_rfl
  ·exact ⟨tr_mk trivial 3, ⟨trivial, rfl, tr_mk trivial 5⟩, ⟨⟨trivial, trivial, rfl, trivial, trivial⟩, ⟨trivial, trivial, trivial⟩, b1, trivial⟩, tr_mk trivial 3, trivial⟩
  intro a w hs
  exact FnQ_cast (out := .val (.tup [.agg [vi 0, vb false, vb false, .row (.int .u32) ([]), vi 0, vs (ba []), .row .str ([]), .row .tree ([])], vb false])) (by have h := memV_neg (by assumption); rw [h.1, h.2]; rfl) (ret_ok [] hs ⟨by kernel_rfl, rfl⟩)
end Go.Proofs.YtondpnipoogoiaaGreatDoor.F
namespace Go.Proofs.YtondpnipoogoiaaGreatDoor.F
open Go Go.RowKit Go.Proofs.Tryz
set_option linter.unusedVariables false
set_option linter.unusedSimpArgs false
def getF : List ByteArray → Tree → Tree × Bool
  | [], t => (t, true)
  | n :: p, t => if memB t n = true then getF p (memV t n) else (Tree.zero, false)
theorem getF_yes {p : List ByteArray} {i : Nat} {u : Tree} (h : i < p.length) (hb : memB u (p.getD i (dflt .str)) = true) : getF (p.drop i) u = getF (p.drop (i + 1)) (memV u (p.getD i (dflt .str))) := by
  rw [List.drop_eq_getElem_cons h, getF]
  have e : p.getD i (dflt .str) = p[i] := by rw [List.getD_eq_getElem?_getD, List.getElem?_eq_getElem h]; rfl
  rw [e] at hb ⊢
  rw [if_pos hb]
theorem getF_no {p : List ByteArray} {i : Nat} {u : Tree} (h : i < p.length) (hb : memB u (p.getD i (dflt .str)) = false) : getF (p.drop i) u = (Tree.zero, false) := by
  rw [List.drop_eq_getElem_cons h, getF]
  have e : p.getD i (dflt .str) = p[i] := by rw [List.getD_eq_getElem?_getD, List.getElem?_eq_getElem h]; rfl
  rw [e] at hb
  rw [if_neg (by rw [hb]; decide)]
theorem cutK_nodes (t : Tree) : (cutK t).length ≤ nodes t := by
  have h1 := nodes_eq t
  have h2 := nodesL_len t.v
  rw [cut_len]
  unfold cutV
  split
  · rw [List.length_take]; omega
  · simp
theorem nodesL_mem : ∀ {l : List Tree} {x : Tree}, x ∈ l → nodes x ≤ nodesL l
  | [], _, h => by simp at h
  | t :: l, x, h => by
    simp only [nodesL]
    rcases List.mem_cons.1 h with rfl | h
    · omega
    · have := nodesL_mem h; omega
theorem cutV_sub {t y : Tree} (h : y ∈ cutV t) : y ∈ t.v := by
  unfold cutV at h
  split at h
  · exact List.mem_of_mem_take h
  · simp at h
theorem memV_nodes {t : Tree} {x : ByteArray} (h : memB t x = true) : nodes (memV t x) ≤ nodes t := by
  have h0 : idxT x (cutK t) ≥ 0 := of_decide_eq_true h
  have h1 := idxT_in x (cutK t)
  have h2 := cut_len t
  rw [(memV_pos h0).1]
  have h3 : (idxT x (cutK t)).toNat < (cutV t).length := by omega
  have hm : (cutV t).getD (idxT x (cutK t)).toNat (dflt .tree) ∈ t.v := by
    refine cutV_sub ?_
    rw [List.getD_eq_getElem?_getD, List.getElem?_eq_getElem h3]
    exact List.getElem_mem h3
  have := nodesL_mem hm
  have := nodes_eq t
  omega
set_option maxRecDepth 100000 in
theorem con75 (t : Tree) (q : List ByteArray) (hn : nodes t < 4611686018427387904) (hp : q.length < 4611686018427387904) : Con Tryz.prog I0 75 [.agg (encTree t), .row .str q] (.val (.tup [.agg (encTree ((getF q t).1)), vb ((getF q t).2)])) := by
 refine con_of Tryz.func75 rfl (Nat.le_of_ble_eq_true rfl) stab (fun w0 fz a hI hs => ?_)
 refine wp_seq ?_
 refine way_L (tt := tt) (rs := []) (bs := []) (tk := [1, 2, 4]) (bk := [1000, 1001]) (C := tr 3 True) (lv := .norm) (T' := [(1, .row .str q), (2, .ptr 1000 0), (4, .ptr 1001 0)]) (B' := [(1000, .var [vi t.kind, vb t.b, vb t.n.neg, .row (.int .u32) t.n.m, vi t.n.e, vs t.s, .row .str t.k, .row .tree t.v]), (1001, .var [vi 0, vb false, vb false, nilv, vi 0, vs (ba []), nilv, nilv])]) mix hI hs ?_ ?_ ?_ ?_
 ·exact trivial
 ·kernel_rfl
 ·exact tr_mk trivial 3
 intro a w hs
 refine then_norm ?_
 refine wp_seq ?_
 refine wp_seq ?_
 refine way_L (tt := tt) (rs := []) (bs := []) (tk := [2, 4, 10, 11, 12]) (bk := [1000, 1001]) (C := tr 3 True) (lv := .norm) (T' := [(2, .ptr 1000 0), (4, .ptr 1001 0), (10, .row .str q), (11, vi (q.length : Int)), (12, vi 0)]) (B' := [(1000, .var [vi t.kind, vb t.b, vb t.n.neg, .row (.int .u32) t.n.m, vi t.n.e, vs t.s, .row .str t.k, .row .tree t.v]), (1001, .var [vi 0, vb false, vb false, nilv, vi 0, vs (ba []), nilv, nilv])]) mix hI hs ?_ ?_ ?_ ?_
 ·exact trivial
 ·kernel_rfl
 ·exact tr_mk trivial 3
 intro a w hs
 refine then_norm ?_
 refine wp_block ?_
 refine loop_L (N := Tryz.f75.ntmps) (w0 := w0) (ow := noO fz) (α := Nat × Tree) (fun p => [(2, .ptr 90000003 0), (4, .ptr 1001 0), (10, .row .str q), (11, vi (q.length : Int)), (12, vi ((p.1 : Nat) : Int))]) (fun p => [(1001, .var [vi 0, vb false, vb false, nilv, vi 0, vs (ba []), nilv, nilv]), (90000003, .var [vi p.2.kind, vb p.2.b, vb p.2.n.neg, .row (.int .u32) p.2.n.m, vi p.2.n.e, vs p.2.s, .row .str p.2.k, .row .tree p.2.v])]) (fun p => p.1 ≤ q.length ∧ getF (q.drop p.1) p.2 = getF q t ∧ nodes p.2 ≤ nodes t) (fun p => q.length - p.1) (0, t) ?_ ?_ ?_
 ·exact ⟨Nat.zero_le _, rfl, Nat.le_refl _⟩
 ·(have e0_ : (0) = (((0 : Nat) : Int)) := (by first | rfl | (rfl)); exact (SimL.cast hs (T' := [(2, .ptr 1000 0), (4, .ptr 1001 0), (10, .row .str q), (11, vi (q.length : Int)), (12, vi ((0 : Nat) : Int))]) (B' := [(1000, .var [vi t.kind, vb t.b, vb t.n.neg, .row (.int .u32) t.n.m, vi t.n.e, vs t.s, .row .str t.k, .row .tree t.v]), (1001, .var [vi 0, vb false, vb false, nilv, vi 0, vs (ba []), nilv, nilv])]) (by first | rfl | (rw [e0_]; done) | (simp only [e0_]; done) | (simp only [e0_]; rfl)) (by first | rfl | (rw [e0_]; done) | (simp only [e0_]; done) | (simp only [e0_]; rfl))).ren [(1001, 1001), (90000003, 1000)] (by kernel_rfl) (by kernel_rfl) (by kernel_rfl))
 rintro ⟨i, u⟩ hJ a w hs
 try dsimp only at hJ
 obtain ⟨hi, hg, hu⟩ := hJ
 rcases Bool.eq_false_or_eq_true (decide (((i : Nat) : Int) < (q.length : Int))) with b1 | b1
 ·skip
  have n1 := of_decide_eq_true b1
  rcases Bool.eq_false_or_eq_true (memB u (q.getD i (dflt .str))) with b2 | b2
  ·skip
   refine way_L (tt := tt) (rs := [(4, ⟨[(2, ciA 122 [.agg (encTree u), vs (q.getD i (dflt .str))] [] [] (.val (.tup [.agg (encTree (memV u (q.getD i (dflt .str)))), vb (memB u (q.getD i (dflt .str)))])))], [], []⟩)]) (bs := [true, false]) (tk := [2, 4, 10, 11, 12]) (bk := [1001, 90000003]) (C := (True ∧ True) ∧ (((decide (((i : Nat) : Int) < (q.length : Int))) = true) ∧ True) ∧ (((0 ≤ ((i : Nat) : Int) ∧ ((i : Nat) : Int) < q.length) ∧ True ∧ True ∧ True) ∧ (True ∧ True ∧ (okArgs [.agg (encTree u), vs (q.getD i (dflt .str))]) ∧ (tr 6 True)) ∧ ((True ∧ True ∧ True) ∧ ((!(memB u (q.getD i (dflt .str)))) = false) ∧ True) ∧ True ∧ True ∧ True) ∧ (InR .i64 (((i : Nat) : Int) + 1)) ∧ True ∧ True) (lv := .norm) (T' := [(2, .ptr 90000003 0), (4, .ptr 1001 0), (10, .row .str q), (11, vi (q.length : Int)), (12, vi (((i : Nat) : Int) + 1))]) (B' := [(1001, .var [vi 0, vb false, vb false, nilv, vi 0, vs (ba []), nilv, nilv]), (90000003, .var [vi ((memV u (q.getD i (dflt .str))).kind), vb ((memV u (q.getD i (dflt .str))).b), vb ((memV u (q.getD i (dflt .str))).n.neg), .row (.int .u32) ((memV u (q.getD i (dflt .str))).n.m), vi ((memV u (q.getD i (dflt .str))).n.e), vs ((memV u (q.getD i (dflt .str))).s), .row .str ((memV u (q.getD i (dflt .str))).k), .row .tree ((memV u (q.getD i (dflt .str))).v)])]) mix hI hs ?_ ?_ ?_ ?_
   ·exact ⟨⟨⟨ent122, con122 _ _ (by have := cutK_nodes u; omega)⟩, trivial⟩, trivial⟩
   ·kernel_rfl
   ·exact ⟨⟨trivial, trivial⟩, ⟨b1, trivial⟩, ⟨⟨⟨by omega, by omega⟩, trivial, trivial, trivial⟩, ⟨trivial, trivial, rfl, tr_mk trivial 6⟩, ⟨⟨trivial, trivial, trivial⟩, (by rw [b2]; rfl), trivial⟩, trivial, trivial, trivial⟩, (inR64 (by omega) (by omega)), trivial, trivial⟩
   intro a w hs
   refine then_norm ⟨(i + 1, memV u (q.getD i (dflt .str))), ⟨by omega, by rw [← getF_yes (by omega) b2]; exact hg, Nat.le_trans (memV_nodes b2) hu⟩, by omega, ?_⟩
   (have e0_ : (((i : Nat) : Int) + 1) = ((((i + 1) : Nat) : Int)) := (by first | rfl | (omega)); exact (SimL.cast hs (T' := [(2, .ptr 90000003 0), (4, .ptr 1001 0), (10, .row .str q), (11, vi (q.length : Int)), (12, vi (((i + 1) : Nat) : Int))]) (B' := [(1001, .var [vi 0, vb false, vb false, nilv, vi 0, vs (ba []), nilv, nilv]), (90000003, .var [vi ((memV u (q.getD i (dflt .str))).kind), vb ((memV u (q.getD i (dflt .str))).b), vb ((memV u (q.getD i (dflt .str))).n.neg), .row (.int .u32) ((memV u (q.getD i (dflt .str))).n.m), vi ((memV u (q.getD i (dflt .str))).n.e), vs ((memV u (q.getD i (dflt .str))).s), .row .str ((memV u (q.getD i (dflt .str))).k), .row .tree ((memV u (q.getD i (dflt .str))).v)])]) (by first | rfl | (rw [e0_]; done) | (simp only [e0_]; done) | (simp only [e0_]; rfl)) (by first | rfl | (rw [e0_]; done) | (simp only [e0_]; done) | (simp only [e0_]; rfl))).ren [(1001, 1001), (90000003, 90000003)] (by kernel_rfl) (by kernel_rfl) (by kernel_rfl))
  ·skip
   refine way_L (tt := tt) (rs := [(4, ⟨[(2, ciA 122 [.agg (encTree u), vs (q.getD i (dflt .str))] [] [] (.val (.tup [.agg (encTree (memV u (q.getD i (dflt .str)))), vb (memB u (q.getD i (dflt .str)))])))], [], []⟩)]) (bs := [true, true]) (tk := [4, 5]) (bk := [1001]) (C := (True ∧ True) ∧ (((decide (((i : Nat) : Int) < (q.length : Int))) = true) ∧ True) ∧ ((0 ≤ ((i : Nat) : Int) ∧ ((i : Nat) : Int) < q.length) ∧ True ∧ True ∧ True) ∧ (True ∧ True ∧ (okArgs [.agg (encTree u), vs (q.getD i (dflt .str))]) ∧ (tr 6 True)) ∧ (True ∧ True ∧ True) ∧ ((!(memB u (q.getD i (dflt .str)))) = true) ∧ (tr 3 True) ∧ True) (lv := .ret) (T' := [(4, .ptr 1001 0), (5, vb false)]) (B' := [(1001, .var [vi 0, vb false, vb false, nilv, vi 0, vs (ba []), nilv, nilv])]) mix hI hs ?_ ?_ ?_ ?_
   ·exact ⟨⟨⟨ent122, con122 _ _ (by have := cutK_nodes u; omega)⟩, trivial⟩, trivial⟩
   ·kernel_rfl
   ·exact ⟨⟨trivial, trivial⟩, ⟨b1, trivial⟩, ⟨⟨by omega, by omega⟩, trivial, trivial, trivial⟩, ⟨trivial, trivial, rfl, tr_mk trivial 6⟩, ⟨trivial, trivial, trivial⟩, (by rw [b2]; rfl), tr_mk trivial 3, trivial⟩
   intro a w hs
   refine then_ret ?_
   refine inb_ret ?_
   refine then_ret ?_
   exact FnQ_cast (out := .val (.tup [.agg [vi 0, vb false, vb false, .row (.int .u32) ([]), vi 0, vs (ba []), .row .str ([]), .row .tree ([])], vb false])) (by rw [← hg, getF_no (by omega) b2]; rfl) (ret_ok [] hs ⟨by kernel_rfl, rfl⟩)
 ·skip
  have n1 := of_decide_eq_false b1
  refine way_L (tt := tt) (rs := []) (bs := [false]) (tk := [2, 4]) (bk := [1001, 90000003]) (C := (True ∧ True) ∧ ((decide (((i : Nat) : Int) < (q.length : Int))) = false) ∧ True) (lv := .exit 0) (T' := [(2, .ptr 90000003 0), (4, .ptr 1001 0)]) (B' := [(1001, .var [vi 0, vb false, vb false, nilv, vi 0, vs (ba []), nilv, nilv]), (90000003, .var [vi u.kind, vb u.b, vb u.n.neg, .row (.int .u32) u.n.m, vi u.n.e, vs u.s, .row .str u.k, .row .tree u.v])]) mix hI hs ?_ ?_ ?_ ?_
  ·exact trivial
  ·kernel_rfl
  ·exact ⟨⟨trivial, trivial⟩, b1, trivial⟩
  intro a w hs
  refine then_exit ?_
  refine inb_hit ?_
  refine then_norm ?_
  refine way_L (tt := tt) (rs := []) (bs := []) (tk := [4, 5]) (bk := [1001]) (C := (tr 3 True) ∧ True) (lv := .ret) (T' := [(4, .ptr 1001 0), (5, vb true)]) (B' := [(1001, .var [vi u.kind, vb u.b, vb u.n.neg, .row (.int .u32) u.n.m, vi u.n.e, vs u.s, .row .str u.k, .row .tree u.v])]) mix hI hs ?_ ?_ ?_ ?_
  ·exact trivial
  ·kernel_rfl
  ·exact ⟨tr_mk trivial 3, trivial⟩
  intro a w hs
  exact FnQ_cast (out := .val (.tup [.agg (encTree u), vb true])) (by rw [← hg, List.drop_of_length_le (by omega)]; rfl) (ret_ok [] hs ⟨by kernel_rfl, rfl⟩)
end Go.Proofs.YtondpnipoogoiaaGreatDoor.F
namespace Go.Proofs.YtondpnipoogoiaaGreatDoor.F
open Go Go.RowKit
set_option linter.unusedVariables false
set_option linter.unusedSimpArgs false
theorem eqT_iff {a b : ByteArray} : eqT a b = true ↔ a = b := by
  unfold eqT
  rw [beq_iff_eq]
  refine ⟨fun h => ?_, fun h => by rw [h]⟩
  rw [Lib.toList_data, Lib.toList_data] at h
  obtain ⟨⟨a⟩⟩ := a
  obtain ⟨⟨b⟩⟩ := b
  simp at h
  rw [h]
theorem eqT_ne {a b : ByteArray} : eqT a b = false ↔ a ≠ b := by
  cases h : eqT a b with
  | true => simp [eqT_iff.1 h]
  | false => simp only [true_iff]; intro e; rw [eqT_iff.2 e] at h; cases h
theorem eqT_self (a : ByteArray) : eqT a a = true := eqT_iff.2 rfl
abbrev Mem := List (ByteArray × Tree)
def lookA (x : ByteArray) : Mem → Option Tree
  | [] => none
  | (y, v) :: l => if eqT x y = true then some v else lookA x l
def gtB (a b : ByteArray) : Bool := !(Op.bytesLess a.toList b.toList || a.toList == b.toList)
def putA (x : ByteArray) (v : Tree) : Mem → Mem
  | [] => [(x, v)]
  | (y, u) :: l => if gtB y x = true then (x, v) :: (y, u) :: l else (y, u) :: putA x v l
def repA (x : ByteArray) (v : Tree) : Mem → Mem
  | [] => []
  | (y, u) :: l => if eqT x y = true then (y, v) :: l else (y, u) :: repA x v l
def insA (x : ByteArray) (v : Tree) (l : Mem) : Mem := if (lookA x l).isSome then repA x v l else putA x v l
def delA (x : ByteArray) : Mem → Mem
  | [] => []
  | (y, u) :: l => if eqT x y = true then l else (y, u) :: delA x l
theorem look_put {x y : ByteArray} {v : Tree} : ∀ {l : Mem}, lookA x l = none → lookA y (putA x v l) = if eqT y x = true then some v else lookA y l
  | [], _ => by simp [putA, lookA]
  | (z, u) :: l, h => by
    simp only [lookA] at h
    split at h
    · cases h
    · rename_i hz
      simp only [putA]
      split
      · simp only [lookA]
      · simp only [lookA]
        rw [look_put h]
        by_cases h1 : eqT y z = true
        · simp only [h1, if_true]
          have : ¬ eqT y x = true := by rw [eqT_iff] at h1 hz ⊢; subst h1; exact fun e => hz e.symm
          simp [this]
        · simp [h1]
theorem look_rep {x y : ByteArray} {v : Tree} : ∀ {l : Mem}, (lookA x l).isSome = true → lookA y (repA x v l) = if eqT y x = true then some v else lookA y l
  | [], h => by simp [lookA] at h
  | (z, u) :: l, h => by
    simp only [repA]
    by_cases hz : eqT x z = true
    · simp only [hz, if_true, lookA]
      rw [eqT_iff] at hz; subst hz
      split <;> simp_all
    · simp only [lookA, hz] at h
      simp only [hz, lookA]
      have ih := look_rep (y := y) (v := v) (l := l) (by simpa using h)
      by_cases h1 : eqT y z = true
      · have : ¬ eqT y x = true := by rw [eqT_iff] at h1 hz ⊢; subst h1; exact fun e => hz e.symm
        simp [lookA, h1, this]
      · simp [lookA, h1, ih]
theorem look_ins (x y : ByteArray) (v : Tree) (l : Mem) : lookA y (insA x v l) = if eqT y x = true then some v else lookA y l := by
  unfold insA
  split
  · rename_i h; exact look_rep h
  · rename_i h; exact look_put (by simpa using h)
theorem look_del_ne {x y : ByteArray} (hne : eqT y x = false) : ∀ {l : Mem}, lookA y (delA x l) = lookA y l
  | [] => rfl
  | (z, u) :: l => by
    simp only [delA]
    split
    · rename_i h
      rw [eqT_iff] at h; subst h
      simp [lookA, hne]
    · simp only [lookA, look_del_ne hne]
def Nodup (l : Mem) : Prop := (l.map (·.1)).Nodup
theorem look_notin {x : ByteArray} : ∀ {l : Mem}, x ∉ l.map (·.1) → lookA x l = none
  | [], _ => rfl
  | (y, u) :: l, h => by
    simp only [List.map_cons, List.mem_cons, not_or] at h
    simp only [lookA]
    rw [if_neg (by rw [eqT_iff]; exact h.1), look_notin h.2]
theorem look_del_self {x : ByteArray} : ∀ {l : Mem}, Nodup l → lookA x (delA x l) = none
  | [], _ => rfl
  | (y, u) :: l, h => by
    unfold Nodup at h
    simp only [List.map_cons, List.nodup_cons] at h
    simp only [delA]
    split
    · rename_i e
      rw [eqT_iff] at e; subst e
      exact look_notin h.1
    · rename_i e
      simp only [lookA, e]
      exact look_del_self h.2
def mems (t : Tree) : Mem := (cutK t).zip (cutV t)
theorem mems_k (t : Tree) : (mems t).map (·.1) = cutK t := by
  unfold mems
  rw [List.map_fst_zip (Nat.le_of_eq (cut_len t))]
theorem mems_v (t : Tree) : (mems t).map (·.2) = cutV t := by
  unfold mems
  rw [List.map_snd_zip (Nat.le_of_eq (cut_len t).symm)]
def objM (l : Mem) : Tree := .mk 7 false ⟨false, [], 0⟩ (ba []) (l.map (·.1)) (l.map (·.2))
theorem mems_objM (l : Mem) : mems (objM l) = l := by
  unfold mems cutK cutV objM
  simp only [Tree.kind, Tree.k, Tree.v, if_true, List.length_map, Nat.min_self]
  rw [List.take_of_length_le (by simp), List.take_of_length_le (by simp)]
  induction l with
  | nil => rfl
  | cons p l ih => simp [List.zip_cons_cons, ih]
theorem idxT_look (x : ByteArray) : ∀ l : Mem, (idxT x (l.map (·.1)) ≥ 0 ↔ (lookA x l).isSome = true) ∧ (idxT x (l.map (·.1)) ≥ 0 → lookA x l = some ((l.map (·.2)).getD (idxT x (l.map (·.1))).toNat (dflt .tree)))
  | [] => by simp [idxT, lookA]
  | (y, v) :: l => by
    obtain ⟨h1, h2⟩ := idxT_look x l
    simp only [List.map_cons, idxT, lookA]
    by_cases h : eqT x y = true
    · simp [h]
    · simp only [h]
      by_cases h0 : idxT x (l.map (·.1)) < 0
      · have hn : ¬ (lookA x l).isSome = true := fun hh => by have := h1.2 hh; omega
        simp only [h0, if_true, Bool.false_eq_true, if_false]
        exact ⟨⟨fun hh => by omega, fun hh => absurd hh hn⟩, fun hh => by omega⟩
      · have hp : idxT x (l.map (·.1)) ≥ 0 := by omega
        simp only [h0, if_false, Bool.false_eq_true]
        refine ⟨⟨fun _ => h1.1 hp, fun _ => by omega⟩, fun _ => ?_⟩
        rw [h2 hp, show (idxT x (l.map (·.1)) + 1).toNat = (idxT x (l.map (·.1))).toNat + 1 by omega, List.getD_cons_succ]
theorem memB_look (t : Tree) (x : ByteArray) : memB t x = (lookA x (mems t)).isSome := by
  have h := (idxT_look x (mems t)).1
  rw [mems_k] at h
  unfold memB memI
  rw [Bool.eq_iff_iff, decide_eq_true_iff]; exact h
theorem memV_look (t : Tree) (x : ByteArray) : memV t x = (lookA x (mems t)).getD Tree.zero := by
  have h := idxT_look x (mems t)
  rw [mems_k, mems_v] at h
  unfold memV memI
  by_cases h0 : idxT x (cutK t) ≥ 0
  · rw [if_pos h0, h.2 h0]; rfl
  · rw [if_neg h0]
    have hn : lookA x (mems t) = none := by
      cases hl : lookA x (mems t) with
      | none => rfl
      | some v => exact absurd (h.1.2 (by rw [hl]; rfl)) h0
    rw [hn]; rfl
def setT (t : Tree) (x : ByteArray) (v : Tree) : Tree := objM (insA x v (mems t))
def unsetT (t : Tree) (x : ByteArray) : Tree := if memB t x = true then objM (delA x (mems t)) else t
theorem look_setT (t : Tree) (x y : ByteArray) (v : Tree) : lookA y (mems (setT t x v)) = if eqT y x = true then some v else lookA y (mems t) := by
  unfold setT; rw [mems_objM, look_ins]
theorem look_unsetT_ne {t : Tree} {x y : ByteArray} (h : eqT y x = false) : lookA y (mems (unsetT t x)) = lookA y (mems t) := by
  unfold unsetT
  split
  · rw [mems_objM, look_del_ne h]
  · rfl
theorem look_unsetT_self {t : Tree} {x : ByteArray} (h : Nodup (mems t)) : lookA x (mems (unsetT t x)) = none := by
  unfold unsetT
  split
  · rw [mems_objM, look_del_self h]
  · rename_i hb
    rw [memB_look] at hb
    simpa using hb
end Go.Proofs.YtondpnipoogoiaaGreatDoor.F
namespace Go.Proofs.YtondpnipoogoiaaGreatDoor.F
open Go Go.RowKit Go.Proofs.Tryz
set_option linter.unusedVariables false
set_option linter.unusedSimpArgs false
def insL {α : Type} (xs : List α) (i : Nat) (x : α) : List α := xs.take i ++ x :: xs.drop i
theorem insL_end {α : Type} (xs : List α) (x : α) : xs ++ [x] = insL xs xs.length x := by simp [insL]
theorem insL_mid {α : Type} (xs : List α) (x d : α) (i m j : Nat) (hi : i < xs.length) (hm : m = xs.length + 1 - i) (hj : j = i + 1) :
    ((xs.take i ++ List.replicate m d).take i ++ ([x].take ((xs.take i ++ List.replicate m d).length - i) ++ (xs.take i ++ List.replicate m d).drop (i + [x].length))).take j ++
      ((xs.drop i).take (((xs.take i ++ List.replicate m d).take i ++ ([x].take ((xs.take i ++ List.replicate m d).length - i) ++ (xs.take i ++ List.replicate m d).drop (i + [x].length))).length - j) ++
        ((xs.take i ++ List.replicate m d).take i ++ ([x].take ((xs.take i ++ List.replicate m d).length - i) ++ (xs.take i ++ List.replicate m d).drop (i + [x].length))).drop (j + (xs.drop i).length)) = insL xs i x := by
  subst hj
  have h1 : (xs.take i).length = i := by rw [List.length_take]; omega
  generalize hA : xs.take i ++ List.replicate m d = A
  have h2 : A.length = xs.length + 1 := by rw [← hA, List.length_append, h1, List.length_replicate]; omega
  have h3 : A.take i = xs.take i := by rw [← hA, List.take_append_of_le_length (by omega), List.take_of_length_le (by omega)]
  have h4 : [x].take (A.length - i) = [x] := List.take_of_length_le (by simp; omega)
  rw [h3, h4]
  generalize hB : xs.take i ++ ([x] ++ A.drop (i + [x].length)) = B
  have h5 : B.length = xs.length + 1 := by rw [← hB]; simp only [List.length_append, h1, List.length_drop, h2, List.length_singleton]; omega
  have h6 : B.take (i + 1) = xs.take i ++ [x] := by
    rw [← hB, ← List.append_assoc]
    exact List.take_left' (by rw [List.length_append, h1]; rfl)
  rw [h6, h5, List.take_of_length_le (l := xs.drop i) (by rw [List.length_drop]; omega), List.drop_of_length_le (l := B) (by rw [h5, List.length_drop]; omega)]
  simp [insL]
set_option maxRecDepth 100000 in
theorem con_ins_str (xs : List (El .str)) (i : Nat) (x : El .str) (hi : i ≤ xs.length) (hl : xs.length < 1000000000) : Con Tryz.prog I0 189 [.rowc .str xs xs.length, vi ((i : Nat) : Int), .row .str ([x])] (.own 9 .str (insL xs i x)) := by
 refine con_of Tryz.func189 rfl (Nat.le_of_ble_eq_true rfl) stab (fun w0 fz a hI hs => ?_)
 rcases Bool.eq_false_or_eq_true (((i : Nat) : Int) == (xs.length : Int)) with b1 | b1
 ·skip
  have n1 := eq_of_beq b1
  refine way_L (tt := tt) (rs := []) (bs := [false, true]) (tk := [6]) (bk := [8002]) (C := (True ∧ True) ∧ (True ∧ True ∧ (0 ≤ ((i : Nat) : Int) ∧ ((i : Nat) : Int) ≤ xs.length) ∧ True) ∧ (tr 3 True) ∧ ((True ∧ True ∧ True) ∧ (false = false) ∧ True) ∧ (tr 3 True) ∧ (tr 3 True) ∧ ((((i : Nat) : Int) == (xs.length : Int)) = true) ∧ (True ∧ True ∧ (xs.length < xs.length + 1 ∧ ((xs.length + 1) * 16 : Nat) ≤ 140737488355328 ∧ xs.length + 1 ≤ 140737488355328) ∧ True ∧ True) ∧ True) (lv := .ret) (T' := [(6, .own 8002)]) (B' := [(8002, .sl 9 .str (xs ++ ([x])))]) mix hI hs ?_ ?_ ?_ ?_
  ·exact trivial
  ·kernel_rfl
  ·exact ⟨⟨trivial, trivial⟩, ⟨trivial, trivial, (by skip; (repeat' apply And.intro) <;> (try simp only [List.length_append, List.length_take, List.length_replicate, List.length_drop, List.length_cons, List.length_nil]) <;> omega), trivial⟩, tr_mk trivial 3, ⟨⟨trivial, trivial, trivial⟩, rfl, trivial⟩, tr_mk trivial 3, tr_mk trivial 3, b1, ⟨trivial, trivial, (by skip; (repeat' apply And.intro) <;> (try simp only [List.length_append, List.length_take, List.length_replicate, List.length_drop, List.length_cons, List.length_nil]) <;> omega), trivial, trivial⟩, trivial⟩
  intro a w hs
  exact FnQ_cast (out := .own 9 .str (xs ++ ([x]))) (by obtain rfl : i = xs.length := (by omega); rw [insL_end]) (ret_ok [] hs (.inl ⟨8002, by kernel_rfl, rfl⟩))
 ·skip
  have n1 := beq_eq_false_iff_ne.1 b1
  have b2 : (decide (((xs.length : Int) + 1) > (xs.length : Int))) = true := by exact decide_eq_true (by omega)
  refine way_L (tt := tt) (rs := []) (bs := [false, false, true]) (tk := [6]) (bk := [10008]) (C := (True ∧ True) ∧ (True ∧ True ∧ (0 ≤ ((i : Nat) : Int) ∧ ((i : Nat) : Int) ≤ xs.length) ∧ True) ∧ (tr 3 True) ∧ ((True ∧ True ∧ True) ∧ (false = false) ∧ True) ∧ (tr 3 True) ∧ ((tr 3 True) ∧ ((((i : Nat) : Int) == (xs.length : Int)) = false) ∧ True) ∧ (True ∧ True ∧ (InR .i64 ((xs.length : Int) + 1)) ∧ (tr 3 True)) ∧ ((decide (((xs.length : Int) + 1) > (xs.length : Int))) = true) ∧ (True ∧ True ∧ (0 ≤ ((i : Nat) : Int) ∧ ((i : Nat) : Int) ≤ xs.length) ∧ True ∧ True ∧ (InR .i64 ((xs.length : Int) + 1)) ∧ True ∧ (InR .i64 (((xs.length : Int) + 1) - ((i : Nat) : Int))) ∧ (0 < (((xs.length : Int) + 1) - ((i : Nat) : Int)) ∧ xs.length < (xs.take i).length + ((((xs.length : Int) + 1) - ((i : Nat) : Int)).toNat) ∧ (((xs.take i).length + ((((xs.length : Int) + 1) - ((i : Nat) : Int)).toNat)) * 16 : Nat) ≤ 140737488355328 ∧ (xs.take i).length + ((((xs.length : Int) + 1) - ((i : Nat) : Int)).toNat) ≤ 140737488355328) ∧ True ∧ True) ∧ (True ∧ True ∧ (0 ≤ ((i : Nat) : Int) ∧ ((i : Nat) : Int) < ((xs.take i) ++ List.replicate (((xs.length : Int) + 1) - ((i : Nat) : Int)).toNat (dflt .str)).length) ∧ True ∧ (i < ((xs.take i) ++ List.replicate (((xs.length : Int) + 1) - ((i : Nat) : Int)).toNat (dflt .str)).length ∧ 0 < ([x] : List (El .str)).length) ∧ True) ∧ (tr 3 ((InR .i64 (((i : Nat) : Int) + 1)) ∧ (0 ≤ (((i : Nat) : Int) + 1) ∧ (((i : Nat) : Int) + 1) < (((xs.take i) ++ List.replicate (((xs.length : Int) + 1) - ((i : Nat) : Int)).toNat (dflt .str)).take i ++ (([x] : List (El .str)).take (((xs.take i) ++ List.replicate (((xs.length : Int) + 1) - ((i : Nat) : Int)).toNat (dflt .str)).length - i) ++ ((xs.take i) ++ List.replicate (((xs.length : Int) + 1) - ((i : Nat) : Int)).toNat (dflt .str)).drop (i + ([x] : List (El .str)).length))).length) ∧ True ∧ True ∧ (0 ≤ ((i : Nat) : Int) ∧ ((i : Nat) : Int) ≤ xs.length) ∧ (((((i : Nat) : Int) + 1).toNat) < (((xs.take i) ++ List.replicate (((xs.length : Int) + 1) - ((i : Nat) : Int)).toNat (dflt .str)).take i ++ (([x] : List (El .str)).take (((xs.take i) ++ List.replicate (((xs.length : Int) + 1) - ((i : Nat) : Int)).toNat (dflt .str)).length - i) ++ ((xs.take i) ++ List.replicate (((xs.length : Int) + 1) - ((i : Nat) : Int)).toNat (dflt .str)).drop (i + ([x] : List (El .str)).length))).length ∧ 0 < (xs.drop i).length) ∧ True)) ∧ (True ∧ True ∧ True) ∧ True) (lv := .ret) (T' := [(6, .own 10008)]) (B' := [(10008, .sl 9 .str ((((xs.take i) ++ List.replicate (((xs.length : Int) + 1) - ((i : Nat) : Int)).toNat (dflt .str)).take i ++ (([x] : List (El .str)).take (((xs.take i) ++ List.replicate (((xs.length : Int) + 1) - ((i : Nat) : Int)).toNat (dflt .str)).length - i) ++ ((xs.take i) ++ List.replicate (((xs.length : Int) + 1) - ((i : Nat) : Int)).toNat (dflt .str)).drop (i + ([x] : List (El .str)).length))).take ((((i : Nat) : Int) + 1).toNat) ++ ((xs.drop i).take ((((xs.take i) ++ List.replicate (((xs.length : Int) + 1) - ((i : Nat) : Int)).toNat (dflt .str)).take i ++ (([x] : List (El .str)).take (((xs.take i) ++ List.replicate (((xs.length : Int) + 1) - ((i : Nat) : Int)).toNat (dflt .str)).length - i) ++ ((xs.take i) ++ List.replicate (((xs.length : Int) + 1) - ((i : Nat) : Int)).toNat (dflt .str)).drop (i + ([x] : List (El .str)).length))).length - ((((i : Nat) : Int) + 1).toNat)) ++ (((xs.take i) ++ List.replicate (((xs.length : Int) + 1) - ((i : Nat) : Int)).toNat (dflt .str)).take i ++ (([x] : List (El .str)).take (((xs.take i) ++ List.replicate (((xs.length : Int) + 1) - ((i : Nat) : Int)).toNat (dflt .str)).length - i) ++ ((xs.take i) ++ List.replicate (((xs.length : Int) + 1) - ((i : Nat) : Int)).toNat (dflt .str)).drop (i + ([x] : List (El .str)).length))).drop (((((i : Nat) : Int) + 1).toNat) + (xs.drop i).length))))]) mix hI hs ?_ ?_ ?_ ?_
  ·exact trivial
  ·kernel_rfl
  ·exact ⟨⟨trivial, trivial⟩, ⟨trivial, trivial, (by skip; (repeat' apply And.intro) <;> (try simp only [List.length_append, List.length_take, List.length_replicate, List.length_drop, List.length_cons, List.length_nil]) <;> omega), trivial⟩, tr_mk trivial 3, ⟨⟨trivial, trivial, trivial⟩, rfl, trivial⟩, tr_mk trivial 3, ⟨tr_mk trivial 3, b1, trivial⟩, ⟨trivial, trivial, (by exact inR64 (by omega) (by omega)), tr_mk trivial 3⟩, b2, ⟨trivial, trivial, (by skip; (repeat' apply And.intro) <;> (try simp only [List.length_append, List.length_take, List.length_replicate, List.length_drop, List.length_cons, List.length_nil]) <;> omega), trivial, trivial, (by exact inR64 (by omega) (by omega)), trivial, (by exact inR64 (by omega) (by omega)), (by skip; (repeat' apply And.intro) <;> (try simp only [List.length_append, List.length_take, List.length_replicate, List.length_drop, List.length_cons, List.length_nil]) <;> omega), trivial, trivial⟩, ⟨trivial, trivial, (by skip; (repeat' apply And.intro) <;> (try simp only [List.length_append, List.length_take, List.length_replicate, List.length_drop, List.length_cons, List.length_nil]) <;> omega), trivial, (by skip; (repeat' apply And.intro) <;> (try simp only [List.length_append, List.length_take, List.length_replicate, List.length_drop, List.length_cons, List.length_nil]) <;> omega), trivial⟩, tr_mk (⟨(by exact inR64 (by omega) (by omega)), (by skip; (repeat' apply And.intro) <;> (try simp only [List.length_append, List.length_take, List.length_replicate, List.length_drop, List.length_cons, List.length_nil]) <;> omega), trivial, trivial, (by skip; (repeat' apply And.intro) <;> (try simp only [List.length_append, List.length_take, List.length_replicate, List.length_drop, List.length_cons, List.length_nil]) <;> omega), (by skip; (repeat' apply And.intro) <;> (try simp only [List.length_append, List.length_take, List.length_replicate, List.length_drop, List.length_cons, List.length_nil]) <;> omega), trivial⟩) 3, ⟨trivial, trivial, trivial⟩, trivial⟩
  intro a w hs
  exact FnQ_cast (out := .own 9 .str ((((xs.take i) ++ List.replicate (((xs.length : Int) + 1) - ((i : Nat) : Int)).toNat (dflt .str)).take i ++ (([x] : List (El .str)).take (((xs.take i) ++ List.replicate (((xs.length : Int) + 1) - ((i : Nat) : Int)).toNat (dflt .str)).length - i) ++ ((xs.take i) ++ List.replicate (((xs.length : Int) + 1) - ((i : Nat) : Int)).toNat (dflt .str)).drop (i + ([x] : List (El .str)).length))).take ((((i : Nat) : Int) + 1).toNat) ++ ((xs.drop i).take ((((xs.take i) ++ List.replicate (((xs.length : Int) + 1) - ((i : Nat) : Int)).toNat (dflt .str)).take i ++ (([x] : List (El .str)).take (((xs.take i) ++ List.replicate (((xs.length : Int) + 1) - ((i : Nat) : Int)).toNat (dflt .str)).length - i) ++ ((xs.take i) ++ List.replicate (((xs.length : Int) + 1) - ((i : Nat) : Int)).toNat (dflt .str)).drop (i + ([x] : List (El .str)).length))).length - ((((i : Nat) : Int) + 1).toNat)) ++ (((xs.take i) ++ List.replicate (((xs.length : Int) + 1) - ((i : Nat) : Int)).toNat (dflt .str)).take i ++ (([x] : List (El .str)).take (((xs.take i) ++ List.replicate (((xs.length : Int) + 1) - ((i : Nat) : Int)).toNat (dflt .str)).length - i) ++ ((xs.take i) ++ List.replicate (((xs.length : Int) + 1) - ((i : Nat) : Int)).toNat (dflt .str)).drop (i + ([x] : List (El .str)).length))).drop (((((i : Nat) : Int) + 1).toNat) + (xs.drop i).length)))) (by rw [insL_mid xs x (dflt .str) i _ _ (by omega) (by omega) (by omega)]) (ret_ok [] hs (.inl ⟨10008, by kernel_rfl, rfl⟩))
set_option maxRecDepth 100000 in
theorem con_ins_tree (xs : List (El .tree)) (i : Nat) (x : El .tree) (hi : i ≤ xs.length) (hl : xs.length < 1000000000) : Con Tryz.prog I0 190 [.rowc .tree xs xs.length, vi ((i : Nat) : Int), .row .tree ([x])] (.own 29 .tree (insL xs i x)) := by
 refine con_of Tryz.func190 rfl (Nat.le_of_ble_eq_true rfl) stab (fun w0 fz a hI hs => ?_)
 rcases Bool.eq_false_or_eq_true (((i : Nat) : Int) == (xs.length : Int)) with b1 | b1
 ·skip
  have n1 := eq_of_beq b1
  refine way_L (tt := tt) (rs := []) (bs := [false, true]) (tk := [6]) (bk := [8002]) (C := (True ∧ True) ∧ (True ∧ True ∧ (0 ≤ ((i : Nat) : Int) ∧ ((i : Nat) : Int) ≤ xs.length) ∧ True) ∧ (tr 3 True) ∧ ((True ∧ True ∧ True) ∧ (false = false) ∧ True) ∧ (tr 3 True) ∧ (tr 3 True) ∧ ((((i : Nat) : Int) == (xs.length : Int)) = true) ∧ (True ∧ True ∧ (xs.length < xs.length + 1 ∧ ((xs.length + 1) * 120 : Nat) ≤ 140737488355328 ∧ xs.length + 1 ≤ 140737488355328) ∧ True ∧ True) ∧ True) (lv := .ret) (T' := [(6, .own 8002)]) (B' := [(8002, .sl 29 .tree (xs ++ ([x])))]) mix hI hs ?_ ?_ ?_ ?_
  ·exact trivial
  ·kernel_rfl
  ·exact ⟨⟨trivial, trivial⟩, ⟨trivial, trivial, (by skip; (repeat' apply And.intro) <;> (try simp only [List.length_append, List.length_take, List.length_replicate, List.length_drop, List.length_cons, List.length_nil]) <;> omega), trivial⟩, tr_mk trivial 3, ⟨⟨trivial, trivial, trivial⟩, rfl, trivial⟩, tr_mk trivial 3, tr_mk trivial 3, b1, ⟨trivial, trivial, (by skip; (repeat' apply And.intro) <;> (try simp only [List.length_append, List.length_take, List.length_replicate, List.length_drop, List.length_cons, List.length_nil]) <;> omega), trivial, trivial⟩, trivial⟩
  intro a w hs
  exact FnQ_cast (out := .own 29 .tree (xs ++ ([x]))) (by obtain rfl : i = xs.length := (by omega); rw [insL_end]) (ret_ok [] hs (.inl ⟨8002, by kernel_rfl, rfl⟩))
 ·skip
  have n1 := beq_eq_false_iff_ne.1 b1
  have b2 : (decide (((xs.length : Int) + 1) > (xs.length : Int))) = true := by exact decide_eq_true (by omega)
  refine way_L (tt := tt) (rs := []) (bs := [false, false, true]) (tk := [6]) (bk := [10008]) (C := (True ∧ True) ∧ (True ∧ True ∧ (0 ≤ ((i : Nat) : Int) ∧ ((i : Nat) : Int) ≤ xs.length) ∧ True) ∧ (tr 3 True) ∧ ((True ∧ True ∧ True) ∧ (false = false) ∧ True) ∧ (tr 3 True) ∧ ((tr 3 True) ∧ ((((i : Nat) : Int) == (xs.length : Int)) = false) ∧ True) ∧ (True ∧ True ∧ (InR .i64 ((xs.length : Int) + 1)) ∧ (tr 3 True)) ∧ ((decide (((xs.length : Int) + 1) > (xs.length : Int))) = true) ∧ (True ∧ True ∧ (0 ≤ ((i : Nat) : Int) ∧ ((i : Nat) : Int) ≤ xs.length) ∧ True ∧ True ∧ (InR .i64 ((xs.length : Int) + 1)) ∧ True ∧ (InR .i64 (((xs.length : Int) + 1) - ((i : Nat) : Int))) ∧ (0 < (((xs.length : Int) + 1) - ((i : Nat) : Int)) ∧ xs.length < (xs.take i).length + ((((xs.length : Int) + 1) - ((i : Nat) : Int)).toNat) ∧ (((xs.take i).length + ((((xs.length : Int) + 1) - ((i : Nat) : Int)).toNat)) * 120 : Nat) ≤ 140737488355328 ∧ (xs.take i).length + ((((xs.length : Int) + 1) - ((i : Nat) : Int)).toNat) ≤ 140737488355328) ∧ True ∧ True) ∧ (True ∧ True ∧ (0 ≤ ((i : Nat) : Int) ∧ ((i : Nat) : Int) < ((xs.take i) ++ List.replicate (((xs.length : Int) + 1) - ((i : Nat) : Int)).toNat (dflt .tree)).length) ∧ True ∧ (i < ((xs.take i) ++ List.replicate (((xs.length : Int) + 1) - ((i : Nat) : Int)).toNat (dflt .tree)).length ∧ 0 < ([x] : List (El .tree)).length) ∧ True) ∧ (tr 3 ((InR .i64 (((i : Nat) : Int) + 1)) ∧ (0 ≤ (((i : Nat) : Int) + 1) ∧ (((i : Nat) : Int) + 1) < (((xs.take i) ++ List.replicate (((xs.length : Int) + 1) - ((i : Nat) : Int)).toNat (dflt .tree)).take i ++ (([x] : List (El .tree)).take (((xs.take i) ++ List.replicate (((xs.length : Int) + 1) - ((i : Nat) : Int)).toNat (dflt .tree)).length - i) ++ ((xs.take i) ++ List.replicate (((xs.length : Int) + 1) - ((i : Nat) : Int)).toNat (dflt .tree)).drop (i + ([x] : List (El .tree)).length))).length) ∧ True ∧ True ∧ (0 ≤ ((i : Nat) : Int) ∧ ((i : Nat) : Int) ≤ xs.length) ∧ (((((i : Nat) : Int) + 1).toNat) < (((xs.take i) ++ List.replicate (((xs.length : Int) + 1) - ((i : Nat) : Int)).toNat (dflt .tree)).take i ++ (([x] : List (El .tree)).take (((xs.take i) ++ List.replicate (((xs.length : Int) + 1) - ((i : Nat) : Int)).toNat (dflt .tree)).length - i) ++ ((xs.take i) ++ List.replicate (((xs.length : Int) + 1) - ((i : Nat) : Int)).toNat (dflt .tree)).drop (i + ([x] : List (El .tree)).length))).length ∧ 0 < (xs.drop i).length) ∧ True)) ∧ (True ∧ True ∧ True) ∧ True) (lv := .ret) (T' := [(6, .own 10008)]) (B' := [(10008, .sl 29 .tree ((((xs.take i) ++ List.replicate (((xs.length : Int) + 1) - ((i : Nat) : Int)).toNat (dflt .tree)).take i ++ (([x] : List (El .tree)).take (((xs.take i) ++ List.replicate (((xs.length : Int) + 1) - ((i : Nat) : Int)).toNat (dflt .tree)).length - i) ++ ((xs.take i) ++ List.replicate (((xs.length : Int) + 1) - ((i : Nat) : Int)).toNat (dflt .tree)).drop (i + ([x] : List (El .tree)).length))).take ((((i : Nat) : Int) + 1).toNat) ++ ((xs.drop i).take ((((xs.take i) ++ List.replicate (((xs.length : Int) + 1) - ((i : Nat) : Int)).toNat (dflt .tree)).take i ++ (([x] : List (El .tree)).take (((xs.take i) ++ List.replicate (((xs.length : Int) + 1) - ((i : Nat) : Int)).toNat (dflt .tree)).length - i) ++ ((xs.take i) ++ List.replicate (((xs.length : Int) + 1) - ((i : Nat) : Int)).toNat (dflt .tree)).drop (i + ([x] : List (El .tree)).length))).length - ((((i : Nat) : Int) + 1).toNat)) ++ (((xs.take i) ++ List.replicate (((xs.length : Int) + 1) - ((i : Nat) : Int)).toNat (dflt .tree)).take i ++ (([x] : List (El .tree)).take (((xs.take i) ++ List.replicate (((xs.length : Int) + 1) - ((i : Nat) : Int)).toNat (dflt .tree)).length - i) ++ ((xs.take i) ++ List.replicate (((xs.length : Int) + 1) - ((i : Nat) : Int)).toNat (dflt .tree)).drop (i + ([x] : List (El .tree)).length))).drop (((((i : Nat) : Int) + 1).toNat) + (xs.drop i).length))))]) mix hI hs ?_ ?_ ?_ ?_
  ·exact trivial
  ·kernel_rfl
  ·exact ⟨⟨trivial, trivial⟩, ⟨trivial, trivial, (by skip; (repeat' apply And.intro) <;> (try simp only [List.length_append, List.length_take, List.length_replicate, List.length_drop, List.length_cons, List.length_nil]) <;> omega), trivial⟩, tr_mk trivial 3, ⟨⟨trivial, trivial, trivial⟩, rfl, trivial⟩, tr_mk trivial 3, ⟨tr_mk trivial 3, b1, trivial⟩, ⟨trivial, trivial, (by exact inR64 (by omega) (by omega)), tr_mk trivial 3⟩, b2, ⟨trivial, trivial, (by skip; (repeat' apply And.intro) <;> (try simp only [List.length_append, List.length_take, List.length_replicate, List.length_drop, List.length_cons, List.length_nil]) <;> omega), trivial, trivial, (by exact inR64 (by omega) (by omega)), trivial, (by exact inR64 (by omega) (by omega)), (by skip; (repeat' apply And.intro) <;> (try simp only [List.length_append, List.length_take, List.length_replicate, List.length_drop, List.length_cons, List.length_nil]) <;> omega), trivial, trivial⟩, ⟨trivial, trivial, (by skip; (repeat' apply And.intro) <;> (try simp only [List.length_append, List.length_take, List.length_replicate, List.length_drop, List.length_cons, List.length_nil]) <;> omega), trivial, (by skip; (repeat' apply And.intro) <;> (try simp only [List.length_append, List.length_take, List.length_replicate, List.length_drop, List.length_cons, List.length_nil]) <;> omega), trivial⟩, tr_mk (⟨(by exact inR64 (by omega) (by omega)), (by skip; (repeat' apply And.intro) <;> (try simp only [List.length_append, List.length_take, List.length_replicate, List.length_drop, List.length_cons, List.length_nil]) <;> omega), trivial, trivial, (by skip; (repeat' apply And.intro) <;> (try simp only [List.length_append, List.length_take, List.length_replicate, List.length_drop, List.length_cons, List.length_nil]) <;> omega), (by skip; (repeat' apply And.intro) <;> (try simp only [List.length_append, List.length_take, List.length_replicate, List.length_drop, List.length_cons, List.length_nil]) <;> omega), trivial⟩) 3, ⟨trivial, trivial, trivial⟩, trivial⟩
  intro a w hs
  exact FnQ_cast (out := .own 29 .tree ((((xs.take i) ++ List.replicate (((xs.length : Int) + 1) - ((i : Nat) : Int)).toNat (dflt .tree)).take i ++ (([x] : List (El .tree)).take (((xs.take i) ++ List.replicate (((xs.length : Int) + 1) - ((i : Nat) : Int)).toNat (dflt .tree)).length - i) ++ ((xs.take i) ++ List.replicate (((xs.length : Int) + 1) - ((i : Nat) : Int)).toNat (dflt .tree)).drop (i + ([x] : List (El .tree)).length))).take ((((i : Nat) : Int) + 1).toNat) ++ ((xs.drop i).take ((((xs.take i) ++ List.replicate (((xs.length : Int) + 1) - ((i : Nat) : Int)).toNat (dflt .tree)).take i ++ (([x] : List (El .tree)).take (((xs.take i) ++ List.replicate (((xs.length : Int) + 1) - ((i : Nat) : Int)).toNat (dflt .tree)).length - i) ++ ((xs.take i) ++ List.replicate (((xs.length : Int) + 1) - ((i : Nat) : Int)).toNat (dflt .tree)).drop (i + ([x] : List (El .tree)).length))).length - ((((i : Nat) : Int) + 1).toNat)) ++ (((xs.take i) ++ List.replicate (((xs.length : Int) + 1) - ((i : Nat) : Int)).toNat (dflt .tree)).take i ++ (([x] : List (El .tree)).take (((xs.take i) ++ List.replicate (((xs.length : Int) + 1) - ((i : Nat) : Int)).toNat (dflt .tree)).length - i) ++ ((xs.take i) ++ List.replicate (((xs.length : Int) + 1) - ((i : Nat) : Int)).toNat (dflt .tree)).drop (i + ([x] : List (El .tree)).length))).drop (((((i : Nat) : Int) + 1).toNat) + (xs.drop i).length)))) (by rw [insL_mid xs x (dflt .tree) i _ _ (by omega) (by omega) (by omega)]) (ret_ok [] hs (.inl ⟨10008, by kernel_rfl, rfl⟩))
end Go.Proofs.YtondpnipoogoiaaGreatDoor.F
namespace Go.Proofs.YtondpnipoogoiaaGreatDoor.X
open Go Go.RowKit
set_option linter.unusedVariables false
set_option linter.unusedSimpArgs false
structure Hide0 (p : Prop) : Prop where
  out : p
theorem nt_Valid : Tryz.f249.ntmps = 24 := rfl
def validAt (s : ByteArray) : Nat → Nat → Bool
  | 0, _ => true
  | b + 1, i => if i < s.size then (if (Utf8.decode s i).1 = 65533 then (if (Utf8.decode s i).2 = 1 then false else validAt s b (i + (Utf8.decode s i).2)) else validAt s b (i + (Utf8.decode s i).2)) else true
theorem validAt_end (s : ByteArray) (b i : Nat) (h : ¬ i < s.size) : validAt s b i = true := by
  cases b with
  | zero => rfl
  | succ b => simp [validAt, h]
theorem run_next_at {P : Program} (W : World) (n : Nat) (s : ByteArray) (pos : Nat) (ty : TypeId) (hi : W.heap[n]? = some (.stringIter s pos)) (h : pos < s.size) :
    (Instr.next (.pointer (some ⟨n, 0, none⟩)) true ty).run P W = .ok (.tuple #[.bool true, .int .i64 pos, .int .i32 (Utf8.decode s pos).1]) { W with heap := W.heap.setIfInBounds n (.stringIter s (pos + (Utf8.decode s pos).2)) } := by
  simp only [Instr.next, getObj, setObj, Sem.run_bind, Sem.run, hi, Result.andThen, h, if_true]
  simp [goInt]
theorem run_next_at_end {P : Program} (W : World) (n : Nat) (s : ByteArray) (pos : Nat) (ty : TypeId) (hi : W.heap[n]? = some (.stringIter s pos)) (h : ¬ pos < s.size) :
    (Instr.next (.pointer (some ⟨n, 0, none⟩)) true ty).run P W = .ok (.tuple #[.bool false]) W := by
  simp [Instr.next, getObj, Sem.run, hi, h]
theorem decodeGo_from (s : ByteArray) (pos : Nat) (h : pos < s.size) : Lib.decodeGo (s.extract pos s.size) = Utf8.decode s pos := by
  have hx : (s.extract pos s.size).data.toList = s.data.toList.drop pos := by
    rw [Lib.extract_data, List.take_of_length_le (by rw [List.length_drop, ← Lib.size_eq]; omega)]
  have hsz : (s.extract pos s.size).size ≠ 0 := by rw [Lib.size_eq, hx, List.length_drop, ← Lib.size_eq]; omega
  unfold Lib.decodeGo
  rw [if_neg hsz, ← Lib.decodeL_drop s pos, ← hx]
  rfl
def World.turned (W : World) (n : Nat) (s : ByteArray) (p : Nat) : World := { W with heap := W.heap.setIfInBounds n (.stringIter s p) }
theorem turned_at {W : World} {n : Nat} {s s0 : ByteArray} {p q : Nat} (h : W.heap[n]? = some (.stringIter s0 q)) : (World.turned W n s p).heap[n]? = some (.stringIter s p) := by
  obtain ⟨hn, _⟩ := Array.getElem?_eq_some_iff.1 h
  show (W.heap.setIfInBounds n _)[n]? = _
  simp [Array.getElem?_setIfInBounds, hn]
theorem turned_below {B : Nat} {a W : World} {n : Nat} {s : ByteArray} {p : Nat} (h : Below B a W) (hn : B ≤ n) : Below B a (World.turned W n s p) :=
  ⟨h.os, h.tape, h.output, by show _ ≤ (W.heap.setIfInBounds n _).size; rw [Array.size_setIfInBounds]; exact h.size, fun k hk => by
    show (W.heap.setIfInBounds n _)[k]? = _
    rw [Array.getElem?_setIfInBounds_ne (by omega)]
    exact h.block k hk⟩
theorem run_next_on {P : Program} (W : World) (n : Nat) (s : ByteArray) (pos : Nat) (ty : TypeId) (hi : W.heap[n]? = some (.stringIter s pos)) (h : pos < s.size) :
    (Instr.next (.pointer (some ⟨n, 0, none⟩)) true ty).run P W = .ok (.tuple #[.bool true, .int .i64 pos, .int .i32 (Utf8.decode s pos).1]) (World.turned W n s (pos + (Utf8.decode s pos).2)) := run_next_at W n s pos ty hi h
def utf_Valid.f (s : ByteArray) : Option Bool := some (validAt s s.size 0)
set_option maxHeartbeats 8000000 in
set_option maxRecDepth 100000 in
theorem utf_Valid.calls (s : ByteArray) (r : Bool) (w : World) (hL : Laid w) (h : utf_Valid.f s = some r) :
    Calls Tryz.prog 249 #[.string s] w fun e w' => e = .returned (.bool r) ∧ Below w.heap.size w w' := by
  obtain rfl := Option.some.inj h
  clear h
  replace hL := Hide0.mk hL
  go_enter Tryz.func249, nt_Valid
  go_wp2
  refine wp_scope_straight ?_
  refine wp_seq ?_
  refine wp_label ?_
  go_wp2
  go_loopw [3] (fun n w' => ∃ (pos b : Nat), w'.heap[w.heap.size]? = some (.stringIter s pos) ∧ Below w.heap.size w w' ∧ Hide0 (validAt s b pos = validAt s s.size 0) ∧ s.size ≤ pos + b) (fun _ w' => s.size - w'.iterPos w.heap.size)
  case atStart => exact ⟨0, s.size, World.iter_heap w s 0, (Below.refl _ _).alloc (Nat.le_refl _) _, ⟨rfl⟩, by omega⟩
  case round =>
    obtain ⟨pos, b, hi, hB, hc, hb⟩ := hrel
    have hHI := Hide0.mk hi
    have hHB := Hide0.mk hB
    by_cases hp : pos < s.size
    · have hnx : ∀ ty, (Instr.next (.pointer (some ⟨w.heap.size, 0, none⟩)) true ty).run Tryz.prog wr = _ := fun ty => run_next_on wr _ s pos ty hi hp
      have hK : 1 ≤ (Utf8.decode s pos).2 := Lib.width_pos s pos
      have hG := decodeGo_from s pos hp
      have hit := Hide0.mk (turned_at (s := s) (p := pos + (Utf8.decode s pos).2) hi)
      have hBt := Hide0.mk (turned_below (s := s) (p := pos + (Utf8.decode s pos).2) hB (Nat.le_refl _))
      have hip : (World.turned wr w.heap.size s (pos + (Utf8.decode s pos).2)).iterPos w.heap.size = pos + (Utf8.decode s pos).2 := by unfold World.iterPos; rw [hit.out]
      have hip0 : wr.iterPos w.heap.size = pos := by unfold World.iterPos; rw [hi]
      rcases b with _ | b
      · omega
      have hv : validAt s (b + 1) pos = if (Utf8.decode s pos).1 = 65533 then (if (Utf8.decode s pos).2 = 1 then false else validAt s b (pos + (Utf8.decode s pos).2)) else validAt s b (pos + (Utf8.decode s pos).2) := by rw [validAt, if_pos hp]
      clear hi hB
      generalize hRe : (Utf8.decode s pos).1 = R at *
      generalize hKe : (Utf8.decode s pos).2 = K at *
      have hRK : Utf8.decode s pos = (R, K) := by rw [← hRe, ← hKe]
      by_cases hr : R = 65533
      · subst hr
        rw [if_pos rfl] at hv
        by_cases hk : K = 1
        · subst hk
          rw [if_pos rfl] at hv
          go_wp2_with (go_at_fn 231; done)
          refine (Tryz.utf8_DecodeRuneInString _ _ (hL.out.below hBt.out).utf8).mono ?_
          rintro e w' ⟨rfl, hb'⟩
          rw [hG, hRK]
          have hB2 := Hide0.mk (hBt.out.trans (hb'.mono hBt.out.size))
          clear hb' hit hip
          go_wp2
          (try rw [Exit.noGoto_ret])
          go_ret
          rw [← hc.out, hv]
          exact ⟨rfl, hB2.out⟩
        · rw [if_neg hk] at hv
          have hk' : ¬ ((K : Int) = 1) := by omega
          go_wp2_with (go_at_fn 231; done)
          refine (Tryz.utf8_DecodeRuneInString _ _ (hL.out.below hBt.out).utf8).mono ?_
          rintro e w' ⟨rfl, hb'⟩
          rw [hG, hRK]
          have hB2 := Hide0.mk (hBt.out.trans (hb'.mono hBt.out.size))
          have hlt : w.heap.size < (World.turned wr w.heap.size s (pos + K)).heap.size := (Array.getElem?_eq_some_iff.1 hit.out).1
          have hit2 := Hide0.mk ((hb'.block _ hlt).trans hit.out)
          have hip2 : w'.iterPos w.heap.size = pos + K := by unfold World.iterPos; rw [hit2.out]
          clear hb' hit hip
          go_wp2
          go_roundw
          case rel => exact ⟨pos + K, b, hit2.out, hB2.out, ⟨hv.symm.trans hc.out⟩, by omega⟩
          case measure => rw [hip2, hip0]; omega
      · have hr' : ¬ ((R : Int) = 65533) := by omega
        rw [if_neg hr] at hv
        go_wp2
        go_roundw
        case rel => exact ⟨pos + K, b, hit.out, hBt.out, ⟨hv.symm.trans hc.out⟩, by omega⟩
        case measure => rw [hip, hip0]; omega
    · have hnx : ∀ ty, (Instr.next (.pointer (some ⟨w.heap.size, 0, none⟩)) true ty).run Tryz.prog wr = _ := fun ty => run_next_at_end wr _ s pos ty hi hp
      clear hi hB
      go_wp2
      (try rw [Exit.noGoto_ret])
      go_ret
      rw [← hc.out, validAt_end s b pos hp]
      exact ⟨rfl, hHB.out⟩
end Go.Proofs.YtondpnipoogoiaaGreatDoor.X
