import Derived.Test.YtondpnipoogoiaaGreatDoorA3
import Derived.IntWalk
import Derived.LoopN
import Derived.Scope
import Derived.Test.YtondpnipoogoiaaGreatDoorA1
import Derived.Test.YtondpnipoogoiaaGreatDoorProg
import Derived.LoopIn
import Derived.WalkMore
import Derived.Laws.RangeAny
import Derived.Lib.TrimUEq
set_option maxRecDepth 100000
set_option linter.unusedVariables false
set_option linter.unusedSimpArgs false
namespace Go.Proofs.YtondpnipoogoiaaGreatDoor.F
open Go Go.RowKit
@[reducible] def ba (l : List UInt8) : ByteArray := ⟨l.toArray⟩
@[reducible] def bitsOr (k : IntKind) (x y : Int) : Int := k.wrap (BitVec.ofInt k.bits x ||| BitVec.ofInt k.bits y).toNat
@[reducible] def bitsAnd (k : IntKind) (x y : Int) : Int := k.wrap (BitVec.ofInt k.bits x &&& BitVec.ofInt k.bits y).toNat
def okArgs (l : List AV) : Prop := l = l
theorem inR64 {n : Int} (h0 : -9223372036854775808 ≤ n) (h1 : n ≤ 9223372036854775807) : InR .i64 n := by
 exact IntWalk.i64_in _ ⟨by omega, by omega⟩
section
variable {P : Program} {w0 : World} {ow : Own} {N : Nat} {a : Act} {w : World} {Q : Exit → Act → World → Prop} {K : Act → World → Prop} {id j : Nat} {ch : List PanicEntry}
theorem then_norm (h : K a w) : Exit.then K Q .normal a w := h
theorem then_ret (h : Q .ret a w) : Exit.then K Q .ret a w := h
theorem then_exit (h : Q (.exit id) a w) : Exit.then K Q (.exit id) a w := h
theorem inb_norm (h : Q .normal a w) : Exit.inBlock id Q .normal a w := h
theorem inb_ret (h : Q .ret a w) : Exit.inBlock id Q .ret a w := h
theorem inb_hit (h : Q .normal a w) : Exit.inBlock id Q (.exit id) a w := by simpa [Exit.inBlock] using h
theorem FnQ_cast {fn : Func} {out out' : COut} {e : Exit} (h : out = out') (hq : FnQ P fn w0 ow out e a w) : FnQ P fn w0 ow out' e a w := h ▸ hq
theorem cond_L {T : TL} {B : BL} {c : Nat} {x y : Code} {b : Bool} (hs : SimL N w0 ow T B a w) (he : lkp T c = some (.lit (.bool b))) (ht : b = true → x.wp P Q a w) (hf : b = false → y.wp P Q a w) : (Code.cond (.tmp c) x y).wp P Q a w := by
 obtain ⟨η, s⟩ := hs
 have hv := (s.ev (x := .tmp c) he).lit_inv
 exact wp_cond_split hv ht hf
theorem wp_cut {x y : Code} {T : TL} {B : BL} (F : Prop) (h1 : x.wp P (Exit.then (fun a w => F ∧ SimL N w0 ow T B a w) Q) a w) (h2 : F → ∀ a w, SimL N w0 ow T B a w → y.wp P Q a w) : (Code.seq x y).wp P Q a w :=
 wp_seq (wp_mono h1 (fun e a w he => by cases e <;> first | exact h2 he.1 _ _ he.2 | exact he))
end
def okBxs (l : List (Option Box)) : Prop := l = l
def ciA (f : FuncId) (args : List AV) (snap del : List Nat) (out : COut) : CI := { f, args, snap, del, out }
def ciB (f : FuncId) (args : List AV) (del : List Nat) (out : COut) (bi bo : BL) (ρ : List (Nat × Nat)) : CI := { f, args, snap := [], del, out, bi, bo, ρ }
def FnQB (P : Program) (fn : Func) (w0 : World) (fz : Nat → Prop) (η : Nat → Option Value) (bi : BL) (out : COut) (bo : BL) : Exit → Act → World → Prop := bodyPost P fn (fun e w' => PostB w0 fz η bi w' e out bo)
section
variable {P : Program} {I : World → Prop} {w w' w0 : World} {fz fz' : Nat → Prop} {η η' : Nat → Option Value} {N : Nat} {T : TL} {B : BL} {a : Act}
theorem BoxR_up {u : Value} {X : Box} (hf : ∀ k, fz k → k < w.heap.size → fz' k) (hη : ∀ b u, mentB b X = true → η' b = some u → η b = some u) (h : BoxR w fz η u X) : BoxR w fz' η' u X := by
 cases X with
 | var l =>
  obtain ⟨g, C, e, rfl, q1, q2, q3⟩ := h
  exact ⟨g, C, e, rfl, q1, q2, fun j v x hv hx => (q3 j v x hv hx).step (Nat.le_refl _) (fun _ _ _ => rfl) hf (fun b u hb hu => hη b u (mentL_of hx hb) hu)⟩
 | sl e τ xs =>
  obtain ⟨cs, q1, q2⟩ := h
  refine ⟨cs, q1, fun i x j y hx hy => ?_⟩
  obtain ⟨v, hv, hr⟩ := q2 i x j y hx hy
  exact ⟨v, hv, hr.step (Nat.le_refl _) (fun _ _ _ => rfl) hf (fun b u hb _ => by rw [enc_ment' hy] at hb; cases hb)⟩
 | full e τ xs =>
  obtain ⟨⟨cs, q1, q2⟩, qc⟩ := h
  refine ⟨⟨cs, q1, fun i x j y hx hy => ?_⟩, qc⟩
  obtain ⟨v, hv, hr⟩ := q2 i x j y hx hy
  exact ⟨v, hv, hr.step (Nat.le_refl _) (fun _ _ _ => rfl) hf (fun b u hb _ => by rw [enc_ment' hy] at hb; cases hb)⟩
theorem con_ofB {f : FuncId} {fn : Func} {c : Code} {args : List AV} {bi bo : BL} {out : COut} (hf : P.funcs[f]? = some fn) (hb : fn.body = some c) (hN : args.length ≤ fn.ntmps) (hk : (bi.map (·.1)).all (· < 1000) = true)
  (h : ∀ (w0 : World) (fz : Nat → Prop) (η : Nat → Option Value) (a : Act), (∀ w', Fr (ownB fz η) w0 w' → I w') → SimL fn.ntmps w0 (ownB fz η) (num 0 args) bi a w0 → c.wp P (FnQB P fn w0 fz η bi out bo) a w0) : ConB P I f args bi out bo := by
 intro w fz η vs hI hfz hd hbx hnew hap hR
 have hun : ∀ k, fz k → k < w.heap.size → Fz (Amb w (ownB fz η)) η k := fun k h1 _ => ⟨.inl h1, fun b u hb hk => (hnew b u k hb hk).2 h1⟩
 refine calls_of_wp hf hb (h w fz η _ hI ⟨η, ?_⟩)
 refine ⟨?_, rfl, Fr.refl _ _, fun t av ht => ?_, fun b B h => ?_, fun b u k h1 h2 => ⟨(hnew b u k h1 h2).1, .inr ⟨b, u, h1, h2⟩⟩, hap, fun b u u' h1 h2 => ?_, fun b u h => ?_⟩
 ·have := hR.1; simp; omega
 ·obtain ⟨_, h1⟩ := num_at ht
  rw [Nat.sub_zero] at h1
  have hlt : t < vs.size := by have := (List.getElem?_eq_some_iff.1 h1).1; have := hR.1; omega
  refine ⟨vs[t], ?_, ?_⟩
  ·show (vs ++ Array.replicate (fn.ntmps - vs.size) undef)[t]? = some vs[t]
   rw [Array.getElem?_append_left hlt]; exact Array.getElem?_eq_getElem hlt
  ·exact (hR.2 t _ av (Array.getElem?_eq_getElem hlt) h1).step (Nat.le_refl _) (fun _ _ _ => rfl) hun (fun b u _ h => h)
 ·obtain ⟨u, hu, hr⟩ := hbx b B h
  exact ⟨u, hu, BoxR_up hun (fun _ _ _ h => h) hr⟩
 ·have h1' : η b = some u := h1
  rw [h2] at h1'; injection h1'
 ·obtain ⟨X, hX⟩ := Option.isSome_iff_exists.1 (hd b u h)
  have := List.all_eq_true.1 hk b (List.mem_map.2 ⟨(b, X), lkp_mem hX, rfl⟩)
  simpa using this
theorem ownB_of {bi bo : BL} {out : COut} {e : Ending} (s : Sim N w0 (ownB fz η) η' (lkp T) (lkp bo) a w)
  (ho : ∀ η2 : Nat → Option Value, (∀ b, η2 b = if (lkp bo b).isSome then η' b else none) → (∀ v x, (∀ b, ment b x = true → (lkp bo b).isSome = true) → R w (Fz (Amb w0 (ownB fz η)) η') η' v x → R w (FzB w0 fz η η2) η2 v x) → OutB w (FzB w0 fz η η2) η2 e out) : PostB w0 fz η bi w e out bo := by
 refine ⟨⟨s.frame.os, s.frame.tape, s.frame.output, s.frame.size, fun k hk hn => s.frame.block k hk hn⟩, .inr ?_⟩
 obtain ⟨η2, h2⟩ : ∃ η2 : Nat → Option Value, ∀ b, η2 b = if (lkp bo b).isSome then η' b else none := ⟨_, fun _ => rfl⟩
 have sub : ∀ b u, η2 b = some u → (lkp bo b).isSome = true ∧ η' b = some u := fun b u h => by
  rw [h2] at h
  split at h
  ·rename_i hb; exact ⟨hb, h⟩
  ·cases h
 have hf : ∀ k, Fz (Amb w0 (ownB fz η)) η' k → k < w.heap.size → FzB w0 fz η η2 k := fun k hk _ => by
  refine ⟨?_, fun b u hb => hk.2 b u (sub b u hb).2⟩
  rcases hk.1 with h1 | h1 | h1
  ·exact .inl h1
  ·exact .inr (.inr h1)
  ·exact .inr (.inl h1)
 refine ⟨η2, fun b u h => (sub b u h).1, fun b _ u u' h1 h3 => s.pin b u u' h1 (sub b u' h3).2, fun b u k h1 h3 => s.new b u k (sub b u h1).2 h3, fun b b' u u' k h1 h3 => s.apart b b' u u' k (sub b u h1).2 (sub b' u' h3).2, fun b X hX => ?_, ho η2 h2 (fun v x _ hR => hR.step (Nat.le_refl _) (fun _ _ _ => rfl) hf (fun b u _ h => (sub b u h).2))⟩
 obtain ⟨u, hu, hr⟩ := s.dom b X hX
 exact ⟨u, by rw [h2, hX]; exact hu, BoxR_up hf (fun b u _ h => (sub b u h).2) hr⟩
theorem SimL.nil {ow : Own} (hs : SimL N w0 ow T B a w) (k t : Nat) (e : TypeId) (τ : Ty) (ht : lkp T t = some nilv) (hk : 1000 ≤ k) (hT : T.all (fun p => !(keysA p.2).contains k) = true) (hB : B.all (fun p => !(keysB p.2).contains k) = true) : SimL N w0 ow ((t, .own k) :: T) ((k, .sl e τ []) :: B) a w := by
 obtain ⟨η, s⟩ := hs
 have hf : Fresh k (lkp T) (lkp B) := ⟨fun t av h => by
   cases hm : ment k av with
   | false => rfl
   | true => have := List.all_eq_true.1 hT (t, av) (lkp_mem h); simp at this; exact absurd (mem_keysA av hm) this, fun b X h => by
   cases hm : mentB k X with
   | false => rfl
   | true => have := List.all_eq_true.1 hB (b, X) (lkp_mem h); simp at this; exact absurd (mem_keysB hm) this, hk⟩
 obtain ⟨tr, hs2⟩ := s.grow (w' := w) (B := .sl e τ []) (v := .slice none 0 0) (del := []) (row := none) hf ⟨rfl, rfl, rfl, Nat.le_refl _, fun _ _ _ => rfl⟩ (.inl rfl) (fun k hk => by simp [blk] at hk)
 have s2 := hs2 ⟨[], World.ownsRow_nil w 0 e _, fun i x j y hx => by simp at hx⟩
 obtain ⟨v, hv, hR⟩ := s.tmp t _ ht
 have hvn := hR.lit_inv
 have hb : updB (lkp B) [] [(k, .sl e τ [])] = lkp ((k, .sl e τ []) :: B) := by
  funext c
  simp only [updB, lkp]
  by_cases hc : c = k
  ·simp [hc]
  ·simp [hc]
 rw [hb] at s2
 refine ⟨_, s2.size, s2.nod, s2.frame, fun t' av h => ?_, s2.dom, s2.new, s2.apart, s2.pin, s2.pinlt⟩
 simp only [lkp] at h
 split at h
 ·rename_i he
  simp only [Option.some.injEq] at h
  subst h he
  exact ⟨v, hv, .own _ _ (fun u hu => by simp [setη] at hu; rw [hvn, ← hu])⟩
 ·exact s2.tmp t' av h
theorem SimL.nilB {ow : Own} (hs : SimL N w0 ow T B a w) (k b j : Nat) (e : TypeId) (τ : Ty) (l : List AV) (hb : lkp B b = some (.var l)) (hl : l[j]? = some nilv) (hbk : b ≠ k) (hk : 1000 ≤ k) (hT : T.all (fun p => !(keysA p.2).contains k) = true) (hB : B.all (fun p => !(keysB p.2).contains k) = true) : SimL N w0 ow T ((b, .var (l.set j (.own k))) :: (k, .sl e τ []) :: B) a w := by
 obtain ⟨η, s⟩ := hs
 have hf : Fresh k (lkp T) (lkp B) := ⟨fun t av h => by
   cases hm : ment k av with
   | false => rfl
   | true => have := List.all_eq_true.1 hT (t, av) (lkp_mem h); simp at this; exact absurd (mem_keysA av hm) this, fun b X h => by
   cases hm : mentB k X with
   | false => rfl
   | true => have := List.all_eq_true.1 hB (b, X) (lkp_mem h); simp at this; exact absurd (mem_keysB hm) this, hk⟩
 obtain ⟨tr, hs2⟩ := s.grow (w' := w) (B := .sl e τ []) (v := .slice none 0 0) (del := []) (row := none) hf ⟨rfl, rfl, rfl, Nat.le_refl _, fun _ _ _ => rfl⟩ (.inl rfl) (fun k hk => by simp [blk] at hk)
 have s2 := hs2 ⟨[], World.ownsRow_nil w 0 e _, fun i x j y hx => by simp at hx⟩
 have hb2 : updB (lkp B) [] [(k, .sl e τ [])] = lkp ((k, .sl e τ []) :: B) := by
  funext c
  simp only [updB, lkp]
  by_cases hc : c = k
  ·simp [hc]
  ·simp [hc]
 rw [hb2] at s2
 refine ⟨_, s2.size, s2.nod, s2.frame, s2.tmp, fun c X h => ?_, s2.new, s2.apart, s2.pin, s2.pinlt⟩
 rw [lkp] at h
 split at h
 ·rename_i he
  simp only [Option.some.injEq] at h
  subst h he
  obtain ⟨u, hu, hr⟩ := s2.dom c (.var l) (by simp only [lkp]; rw [if_neg hbk]; exact hb)
  obtain ⟨g, C, ee, rfl, q1, q2, q3⟩ := hr
  refine ⟨_, hu, g, C, ee, rfl, q1, by rw [List.length_set]; exact q2, fun i v x hv hx => ?_⟩
  rw [List.getElem?_set] at hx
  split at hx
  ·rename_i hij
   subst hij
   split at hx
   ·simp only [Option.some.injEq] at hx
    subst hx
    have hvn := (q3 j v _ hv hl).lit_inv
    exact .own _ _ (fun u hu => by simp [setη] at hu; rw [hvn, ← hu])
   ·cases hx
  ·exact q3 i v x hv hx
 ·exact s2.dom c X h
theorem ret_okB {fn : Func} {bi : BL} {r : AV} (bo : BL) (hs : SimL N w0 (ownB fz η) T bo a w) (h : resA P fn (lkp T) (lkp bo) = some r) (hk : (keysA r).all (fun b => (lkp bo b).isSome) = true) : FnQB P fn w0 fz η bi (.val r) bo .ret a w := by
 obtain ⟨η', s⟩ := hs
 obtain ⟨v, hrun, hR⟩ := resA_ok s h
 refine ⟨s.nod, v, hrun, ownB_of s (fun η2 _ hup => ⟨v, rfl, hup v r (fun b hb => ?_) hR⟩)⟩
 exact List.all_eq_true.1 hk b (mem_keysA r hb)
theorem rounds_step {c : Code} {Q : Exit → Act → World → Prop} {n : Nat} (h : c.wp P (Exit.then (Code.rounds P c Q n) Q) a w) : Code.rounds P c Q (n + 1) a w := h
theorem ng_ret {Q : Exit → Act → World → Prop} (h : Q .ret a w) : Exit.noGoto Q .ret a w := h
theorem FnQB_cast {fn : Func} {bi bo bo' : BL} {out out' : COut} {e : Exit} (h : out = out') (h' : bo = bo') (hq : FnQB P fn w0 fz η bi out bo e a w) : FnQB P fn w0 fz η bi out' bo' e a w := h ▸ h' ▸ hq
theorem Con.frz {f : FuncId} {args : List AV} {e : TypeId} {τ : Ty} {xs : List (El τ)} (h : Con P I f args (.own e τ xs)) : Con P I f args (.val (.row τ xs)) := by
 intro w fz vs hI hfz hR
 refine (h w fz vs hI hfz hR).mono ?_
 rintro en w' ⟨⟨v, rfl, hb, cs, ho, hel⟩, hbel⟩
 refine ⟨⟨v, rfl, ?_⟩, hbel⟩
 rcases ho.2 with ⟨rfl, h0⟩ | ⟨g, cap, cur, rfl, q0, q1, q2, q3, _⟩
 ·have : xs = [] := by cases xs; rfl; simp at h0
  subst this
  exact .nil τ
 ·obtain ⟨hge, hlt⟩ := hb g rfl
  refine .row_mk q2 q3 (fun i x hx => ⟨⟨g, 0, none⟩, rfl, .inr hge, hlt, fun j y hy => ?_⟩)
  obtain ⟨vv, hv, hrr⟩ := hel i x j y hx hy
  exact ⟨vv, ho.cells rfl _ _ hv, hrr.step (Nat.le_refl _) (fun _ _ _ => rfl) (fun k hk _ => hk.1) (fun b u _ hu => hu)⟩
theorem SimL.isNil {ow : Own} (hs : SimL N w0 ow T B a w) (t : Nat) (τ : Ty) (xs : List (El τ)) (ht : lkp T t = some (.row τ xs)) : ∃ b : Bool, (b = true → xs = []) ∧ SimL N w0 ow ((t, .rown τ xs b) :: T) B a w := by
 obtain ⟨η, s⟩ := hs
 obtain ⟨v, hv, hr⟩ := s.tmp t _ ht
 obtain ⟨A, c, rfl, hc, hm, hel⟩ := hr.row_inv
 refine ⟨A.isNone, fun hb => ?_, η, ⟨s.size, s.nod, s.frame, fun k av hk => ?_, s.dom, s.new, s.apart, s.pin, s.pinlt⟩⟩
 ·cases xs with
  | nil => rfl
  | cons x xs =>
   obtain ⟨ad, hA, _⟩ := hel 0 x rfl
   rw [hA] at hb; cases hb
 ·simp only [lkp] at hk
  split at hk
  ·rename_i e
   simp only [Option.some.injEq] at hk
   subst hk e
   exact ⟨_, hv, .rown A c τ xs hr⟩
  ·exact s.tmp k av hk
end
end Go.Proofs.YtondpnipoogoiaaGreatDoor.F
namespace Go.Proofs.YtondpnipoogoiaaGreatDoor.X
open Go.ChangeShapes Go.WideShapes Go.ChangeAt Go.RowKit
theorem laidOut : laidOutB Tryz.prog = true := by kernel_rfl
end Go.Proofs.YtondpnipoogoiaaGreatDoor.X
namespace Go.Proofs.YtondpnipoogoiaaGreatDoor.F
open Go Go.RowKit
def rd (l : List Int) (i : Int) : Int := l.getD i.toNat 0
def trimF (l : List Int) : List Int := (l.reverse.dropWhile (· == 0)).reverse
theorem trimF_nil : trimF [] = [] := rfl
theorem trimF_snoc (l : List Int) (x : Int) : trimF (l ++ [x]) = if x = 0 then trimF l else l ++ [x] := by
 unfold trimF
 by_cases h : x = 0 <;> simp [h]
theorem take_snoc' (l : List Int) (m : Nat) (h : m < l.length) : l.take (m + 1) = l.take m ++ [rd l m] := by
 rw [List.take_succ_eq_append_getElem h]
 simp [rd, h]
theorem getD_rd (l : List Int) (n : Nat) : l.getD n (dflt (.int .u32)) = rd l n := rfl
theorem trimF_zero {l : List Int} {n : Nat} (h : n < l.length) (hz : l.getD n (dflt (.int .u32)) = 0) : trimF (l.take (n + 1)) = trimF (l.take n) := by
 rw [take_snoc' l n h, trimF_snoc, if_pos (by rw [← getD_rd]; exact hz)]
theorem trimF_stop {l : List Int} {n : Nat} (h : n < l.length) (hz : l.getD n (dflt (.int .u32)) ≠ 0) : trimF (l.take (n + 1)) = l.take (n + 1) := by
 rw [take_snoc' l n h, trimF_snoc, if_neg (by rw [← getD_rd]; exact hz)]
def Ok (l : List Int) : Prop := ∀ x ∈ l, 0 ≤ x ∧ x < 4294967296
def val : List Int → Nat
 | [] => 0
 | x :: l => x.toNat + 4294967296 * val l
def lim (n : Nat) : List Int := if n = 0 then [] else ((n % 4294967296 : Nat) : Int) :: lim (n / 4294967296)
termination_by n
decreasing_by omega
theorem Ok.nil : Ok [] := fun x hx => by simp at hx
theorem Ok.cons {x : Int} {l : List Int} (h0 : 0 ≤ x) (h1 : x < 4294967296) (h : Ok l) : Ok (x :: l) := fun y hy => by
 rcases List.mem_cons.1 hy with rfl | hy
 ·exact ⟨h0, h1⟩
 ·exact h y hy
theorem Ok.head {x : Int} {l : List Int} (h : Ok (x :: l)) : 0 ≤ x ∧ x < 4294967296 := h x (by simp)
theorem Ok.tail {x : Int} {l : List Int} (h : Ok (x :: l)) : Ok l := fun y hy => h y (by simp [hy])
theorem Ok.append {a b : List Int} (ha : Ok a) (hb : Ok b) : Ok (a ++ b) := fun x hx => by
 rcases List.mem_append.1 hx with h | h
 ·exact ha x h
 ·exact hb x h
theorem Ok.take {a : List Int} (h : Ok a) (n : Nat) : Ok (a.take n) := fun x hx => h x (List.mem_of_mem_take hx)
theorem Ok.drop {a : List Int} (h : Ok a) (n : Nat) : Ok (a.drop n) := fun x hx => h x (List.mem_of_mem_drop hx)
theorem Ok.set {a : List Int} (h : Ok a) (n : Nat) {x : Int} (h0 : 0 ≤ x) (h1 : x < 4294967296) : Ok (a.set n x) := fun y hy => by
 rcases List.mem_or_eq_of_mem_set hy with hy | rfl
 ·exact h y hy
 ·exact ⟨h0, h1⟩
theorem Ok.rep (n : Nat) : Ok (List.replicate n 0) := fun x hx => by
 obtain rfl := List.eq_of_mem_replicate hx
 omega
theorem Ok.rdk {l : List Int} (h : Ok l) (i : Int) : 0 ≤ rd l i ∧ rd l i < 4294967296 := by
 unfold rd
 rw [List.getD_eq_getElem?_getD]
 rcases Nat.lt_or_ge i.toNat l.length with hi | hi
 ·rw [List.getElem?_eq_getElem hi]
  exact h _ (List.getElem_mem hi)
 ·rw [List.getElem?_eq_none hi]
  simp
theorem lim_zero : lim 0 = [] := by unfold lim; simp
theorem lim_pos {n : Nat} (h : n ≠ 0) : lim n = ((n % 4294967296 : Nat) : Int) :: lim (n / 4294967296) := by rw [lim, if_neg h]
theorem lim_ok (n : Nat) : Ok (lim n) := by
 induction n using Nat.strongRecOn with
 | _ n ih =>
  by_cases h : n = 0
  ·subst h; rw [lim_zero]; exact Ok.nil
  ·rw [lim_pos h]
   exact Ok.cons (by omega) (by omega) (ih _ (by omega))
theorem val_lim (n : Nat) : val (lim n) = n := by
 induction n using Nat.strongRecOn with
 | _ n ih =>
  by_cases h : n = 0
  ·subst h; rw [lim_zero]; rfl
  ·rw [lim_pos h, val, ih _ (by omega)]
   omega
theorem lim_nil_iff (n : Nat) : lim n = [] ↔ n = 0 := by
 constructor
 ·intro h
  have := val_lim n
  rw [h] at this
  exact this.symm
 ·rintro rfl
  exact lim_zero
theorem lim_len_zero (n : Nat) : (lim n).length = 0 ↔ n = 0 := by rw [List.length_eq_zero_iff, lim_nil_iff]
theorem val_append (a b : List Int) : val (a ++ b) = val a + 4294967296 ^ a.length * val b := by
 induction a with
 | nil => simp [val]
 | cons x a ih => simp only [List.cons_append, val, ih, List.length_cons, Nat.pow_succ]; grind
theorem val_lt {l : List Int} (h : Ok l) : val l < 4294967296 ^ l.length := by
 induction l with
 | nil => simp [val]
 | cons x l ih =>
  have := ih h.tail
  have := h.head
  simp only [val, List.length_cons, Nat.pow_succ]
  omega
theorem trim_lim {l : List Int} (h : Ok l) : trimF l = lim (val l) := by
 have key : ∀ (n : Nat) (l : List Int), l.length = n → Ok l → trimF l = lim (val l) := by
  intro n
  induction n with
  | zero =>
   intro l hl _
   obtain rfl := List.eq_nil_of_length_eq_zero hl
   simp [trimF_nil, val, lim_zero]
  | succ n ih =>
   intro l hl hok
   rcases List.eq_nil_or_concat l with rfl | ⟨l', x, rfl⟩
   ·simp at hl
   ·rw [List.concat_eq_append] at hl hok ⊢
    have hx := hok x (by simp)
    have hok' : Ok l' := fun y hy => hok y (by simp [hy])
    rw [trimF_snoc]
    by_cases h0 : x = 0
    ·subst h0
     rw [if_pos rfl, ih l' (by simpa using hl) hok', val_append]
     simp [val]
    ·rw [if_neg h0]
     -- a list with a limb at the top is its own
     have key2 : ∀ (l' : List Int), Ok l' → l' ++ [x] = lim (val (l' ++ [x])) := by
      intro l'
      induction l' with
      | nil =>
       intro _
       have : x.toNat ≠ 0 := by omega
       simp only [List.nil_append, val, Nat.mul_zero, Nat.add_zero]
       rw [lim_pos this, Nat.mod_eq_of_lt (by omega), Nat.div_eq_of_lt (by omega), lim_zero]
       congr 1
       omega
      | cons y l' ih2 =>
       intro hok
       have hy := hok.head
       have ih3 := ih2 hok.tail
       have hv : val (l' ++ [x]) ≠ 0 := by
        intro hz
        rw [hz, lim_zero] at ih3
        simp at ih3
       simp only [List.cons_append, val]
       rw [lim_pos (by omega), show (y.toNat + 4294967296 * val (l' ++ [x])) % 4294967296 = y.toNat by omega, show (y.toNat + 4294967296 * val (l' ++ [x])) / 4294967296 = val (l' ++ [x]) by omega, ← ih3]
       congr 1
       omega
     exact key2 l' hok'
 exact key _ l rfl h
theorem lim_len_le {n k : Nat} (h : n < 4294967296 ^ k) : (lim n).length ≤ k := by
  induction k generalizing n with
  | zero => have : n = 0 := by omega
            subst this; simp [lim_zero]
  | succ k ih =>
    by_cases h0 : n = 0
    · subst h0; simp [lim_zero]
    · rw [lim_pos h0, List.length_cons]
      have := ih (n := n / 4294967296) (by rw [Nat.pow_succ] at h; omega)
      omega
theorem val_drop {l : List Int} {m : Nat} (h : m < l.length) : val (l.drop m) = (rd l m).toNat + 4294967296 * val (l.drop (m + 1)) := by
 rw [List.drop_eq_getElem_cons h, val]
 congr 2
 simp [rd, h]
def tz (n : Nat) : Nat × Nat := if n = 0 then (0, 0) else if n % 10 = 0 then ((tz (n / 10)).1, (tz (n / 10)).2 + 1) else (n, 0)
termination_by n
decreasing_by all_goals omega
theorem tz_zero : tz 0 = (0, 0) := by rw [tz]; simp
theorem tz_ten {n : Nat} (h : n ≠ 0) (h1 : n % 10 = 0) : tz n = ((tz (n / 10)).1, (tz (n / 10)).2 + 1) := by rw [tz, if_neg h, if_pos h1]
theorem tz_self {n : Nat} (h1 : n % 10 ≠ 0) : tz n = (n, 0) := by rw [tz, if_neg (by omega), if_neg h1]
theorem tz_bits (m : Nat) : ∀ n : Nat, n < 2 ^ m → (tz n).2 ≤ m := by
 induction m with
 | zero =>
  intro n h
  obtain rfl : n = 0 := by simpa using h
  rw [tz_zero]; exact Nat.le_refl _
 | succ m ih =>
  intro n h
  by_cases h0 : n = 0
  ·subst h0; rw [tz_zero]; exact Nat.zero_le _
  ·by_cases h1 : n % 10 = 0
   ·rw [tz_ten h0 h1]
    have := ih (n / 10) (by rw [Nat.pow_succ] at h; omega)
    simp only
    omega
   ·rw [tz_self h1]; exact Nat.zero_le _
theorem tz_limbs {n L : Nat} (h : n < 4294967296 ^ L) : (tz n).2 ≤ 32 * L := by
 refine tz_bits _ n ?_
 rw [Nat.pow_mul]
 exact h
end Go.Proofs.YtondpnipoogoiaaGreatDoor.F
namespace Go.Proofs.YtondpnipoogoiaaGreatDoor.X
open Go.RowKit Go.Proofs.YtondpnipoogoiaaGreatDoor.F
section
variable {H : Type} {enc' : TypeId × Value → H} {W : World}
abbrev rl (W : World) (C : List Value) (l : List AV) : Prop := RLl W (fun k => k < W.heap.size) noη C l
def Opens (enc' : TypeId × Value → H) (W : World) (τ : Ty) (t : TypeId) (Pr : El τ → Prop) (n : Nat) : Prop :=
 ∀ cs x, DataW.trod enc' Tryz.prog W 0 (fun _ => true) true n t cs = some x → ∃ e : El τ, rl W cs (enc τ e) ∧ Pr e
theorem opens_int {k : IntKind} {t : TypeId} (ht : Tryz.prog.underlying t = some (.int k)) (n : Nat) : Opens enc' W (.int k) t (fun e => (Lit.int k e).wf = true) n := by
 intro cs x h
 obtain ⟨m, rfl, _, hw⟩ := DataW.trod_int ht h
 exact ⟨m, RLl_cons.2 ⟨.lit _, RLl_nil⟩, hw⟩
theorem opens_str {t : TypeId} (ht : Tryz.prog.underlying t = some .string) (n : Nat) : Opens enc' W .str t (fun e => e.size ≤ maxLen) n := by
 intro cs x h
 obtain ⟨s, rfl, _, hw⟩ := DataW.trod_string ht h
 exact ⟨s, RLl_cons.2 ⟨.lit _, RLl_nil⟩, hw⟩
theorem list_of {α : Type} {Q : Nat → α → Prop} : ∀ (n : Nat), (∀ i, i < n → ∃ x, Q i x) → ∃ xs : List α, xs.length = n ∧ ∀ i x, xs[i]? = some x → Q i x
 | 0, _ => ⟨[], rfl, fun i x h => by simp at h⟩
 | n + 1, h => by
  obtain ⟨xs, h1, h2⟩ := list_of n (fun i hi => h i (by omega))
  obtain ⟨x, hx⟩ := h n (by omega)
  refine ⟨xs ++ [x], by simp [h1], fun i y hy => ?_⟩
  rw [List.getElem?_append] at hy
  split at hy
  ·exact h2 i y hy
  ·rename_i hn
   have : i = n := by
    have := (List.getElem?_eq_some_iff.1 hy).1
    simp at this; omega
   subst this
   rw [h1] at hy
   simp at hy
   subst hy
   exact hx
theorem opens_row {τ : Ty} {t e : TypeId} {Pr : El τ → Prop} {n : Nat} (ht : Tryz.prog.underlying t = some (.slice e)) (hc : Tryz.prog.cellsOf e = sz τ) (ih : ∀ m, m < n → Opens enc' W τ e Pr m) {cs : List Value} {x : DataW H × List MemPlace} (h : DataW.trod enc' Tryz.prog W 0 (fun _ => true) true n t cs = some x) :
  ∃ xs : List (El τ), rl W cs [.row τ xs] ∧ (∀ y ∈ xs, Pr y) ∧ xs.length ≤ maxLen := by
 rcases DataW.trod_slice ht h with ⟨rfl, _⟩ | ⟨a, len, cap, elems, rest, m, rfl, rfl, _, _, hl, hm, he, hel, _⟩
 ·exact ⟨[], RLl_cons.2 ⟨.row none 0 τ [] (fun _ _ => .bool false) (Nat.le_refl _) (Nat.zero_le _) (fun i x h => by simp at h) (fun i x j y h => by simp at h), RLl_nil⟩, fun y h => by simp at h, Nat.zero_le _⟩
 ·rw [hc] at hel
  have one : ∀ i, i < len → ∃ y : El τ, (∃ cs', W.cells? 0 (a.add (i * sz τ)) (sz τ) = some cs' ∧ rl W cs' (enc τ y)) ∧ Pr y := by
   intro i hi
   have h1 := hel i hi
   have hi' : i < elems.length := by omega
   rw [List.getElem?_eq_getElem hi'] at h1
   obtain ⟨cs', hcs, htr⟩ := Option.bind_eq_some_iff.1 h1
   obtain ⟨y, hy, hp⟩ := ih m (Nat.lt_succ_self m) cs' _ htr
   exact ⟨y, ⟨cs', hcs, hy⟩, hp⟩
  obtain ⟨xs, hxl, hxs⟩ := list_of len one
  refine ⟨xs, RLl_cons.2 ⟨?_, RLl_nil⟩, fun y hy => ?_, by omega⟩
  ·rw [← hxl]
   refine R.row_mk (by omega) hm (fun i y hy => ?_)
   obtain ⟨⟨cs', hcs, hr⟩, _⟩ := hxs i y hy
   obtain ⟨_, hcl, hcell⟩ := World.cells?_some hcs
   have hb : a.block < W.heap.size := by
    have := World.cells?_block hcs (sz_pos τ)
    rwa [F.add_block] at this
   refine ⟨a, rfl, hb, hb, fun j b hjb => ?_⟩
   have hj : j < sz τ := by
    have := (List.getElem?_eq_some_iff.1 hjb).1
    rwa [enc_len] at this
   have hj' : j < cs'.length := by omega
   refine ⟨cs'[j], ?_, hr.2 j _ b (List.getElem?_eq_getElem hj') hjb⟩
   have := hcell j hj
   rw [F.add_add] at this
   rw [this, List.getElem?_eq_getElem hj']
  ·obtain ⟨i, hi⟩ := List.mem_iff_getElem?.1 hy
   exact (hxs i y hi).2
theorem opens_bool {t : TypeId} (ht : Tryz.prog.underlying t = some .bool) (n : Nat) : Opens enc' W .bool t (fun _ => True) n := by
 intro cs x h
 obtain ⟨b, rfl, _⟩ := DataW.trod_bool ht h
 exact ⟨b, RLl_cons.2 ⟨.lit _, RLl_nil⟩, trivial⟩
theorem rl_one {C : List Value} {a : AV} (h : rl W C [a]) : ∃ c, C = [c] ∧ R W (fun k => k < W.heap.size) noη c a := by
 obtain ⟨h1, h2⟩ := h
 match C, h1 with
 | [c], _ => exact ⟨c, rfl, h2 0 c a rfl rfl⟩
def OkN (n : Num) : Prop := Ok n.m ∧ n.m.length ≤ maxLen ∧ (Lit.int .i64 n.e).wf = true
theorem got {α : Type} {xs : List α} {i n : Nat} (h : xs.length = n) (hi : i < n) : ∃ y, xs[i]? = some y := ⟨_, List.getElem?_eq_getElem (by omega)⟩
theorem list3 {α : Type} : ∀ {l : List α}, l.length = 3 → ∃ a b c, l = [a, b, c]
 | [a, b, c], _ => ⟨a, b, c, rfl⟩
theorem list8 {α : Type} : ∀ {l : List α}, l.length = 8 → ∃ a b c d e f g h, l = [a, b, c, d, e, f, g, h]
 | [a, b, c, d, e, f, g, h], _ => ⟨a, b, c, d, e, f, g, h, rfl⟩
theorem wf_u32 {y : Int} (h : (Lit.int .u32 y).wf = true) : 0 ≤ y ∧ y < 4294967296 := by
 simp [Lit.wf, IntKind.min, IntKind.max, IntKind.signed, IntKind.bits] at h
 omega
theorem opens_num (n : Nat) : Opens enc' W .num 25 OkN n := by
 intro cs x h
 obtain ⟨xs, m, rfl, _, hl, hx, hf⟩ := DataW.trod_struct Tryz.underlying25 h
 have hl3 : cs.length = 3 := hl.trans (by kernel_rfl)
 have hx3 : xs.length = 3 := hx
 obtain ⟨c0, c1, c2, rfl⟩ : ∃ c0 c1 c2, cs = [c0, c1, c2] := by
  exact list3 hl3
 have k1 : Tryz.prog.cellsOf 4 = 1 := by kernel_rfl
 have k2 : Tryz.prog.cellsOf 23 = 1 := by kernel_rfl
 have k3 : Tryz.prog.cellsOf 3 = 1 := by kernel_rfl
 have h0 : DataW.trod enc' Tryz.prog W 0 (fun _ => true) true m 4 (([c0, c1, c2].drop 0).take (Tryz.prog.cellsOf 4)) = xs[0]? := hf 0 _ rfl
 have h1 : DataW.trod enc' Tryz.prog W 0 (fun _ => true) true m 23 (([c0, c1, c2].drop 1).take (Tryz.prog.cellsOf 23)) = xs[1]? := hf 1 _ rfl
 have h2 : DataW.trod enc' Tryz.prog W 0 (fun _ => true) true m 3 (([c0, c1, c2].drop 2).take (Tryz.prog.cellsOf 3)) = xs[2]? := hf 2 _ rfl
 rw [k1] at h0; rw [k2] at h1; rw [k3] at h2
 obtain ⟨y0, e0⟩ := got hx3 (show 0 < 3 by decide)
 obtain ⟨y1, e1⟩ := got hx3 (show 1 < 3 by decide)
 obtain ⟨y2, e2⟩ := got hx3 (show 2 < 3 by decide)
 rw [e0] at h0; rw [e1] at h1; rw [e2] at h2
 obtain ⟨b, hb, _⟩ := opens_bool Tryz.underlying4 m _ _ h0
 obtain ⟨l, hr, hok, hlen⟩ := opens_row (τ := .int .u32) Tryz.underlying23 (by kernel_rfl) (fun m' _ => opens_int Tryz.underlying160 m') h1
 obtain ⟨e, he, hw⟩ := opens_int Tryz.underlying3 m _ _ h2
 obtain ⟨_, q0, r0⟩ := rl_one hb
 obtain ⟨_, q1, r1⟩ := rl_one hr
 obtain ⟨_, q2, r2⟩ := rl_one he
 simp at q0 q1 q2
 subst q0 q1 q2
 refine ⟨⟨b, l, e⟩, RLl_cons.2 ⟨r0, RLl_cons.2 ⟨r1, RLl_cons.2 ⟨r2, RLl_nil⟩⟩⟩, ⟨fun y hy => ?_, hlen, hw⟩⟩
 exact wf_u32 (hok y hy)
mutual
def WfT : Tree → Prop
 | .mk k _ n s ks v => ((Lit.int .i64 k).wf = true ∧ OkN n ∧ s.size ≤ maxLen ∧ ks.length ≤ maxLen ∧ (∀ y ∈ ks, y.size ≤ maxLen) ∧ v.length ≤ maxLen) ∧ WfL v
def WfL : List Tree → Prop
 | [] => True
 | t :: l => WfT t ∧ WfL l
end
theorem wfL_of : ∀ {l : List Tree}, (∀ t ∈ l, WfT t) → WfL l
 | [], _ => trivial
 | t :: l, h => ⟨h t (by simp), wfL_of (fun u hu => h u (by simp [hu]))⟩
theorem opens_tree (n : Nat) : Opens enc' W .tree 29 WfT n := by
 induction n using Nat.strongRecOn with
 | ind n ih =>
  intro cs x h
  obtain ⟨xs, m, rfl, _, hl, hx, hf⟩ := DataW.trod_struct Tryz.underlying29 h
  have hl3 : cs.length = 8 := hl.trans (by kernel_rfl)
  have hx3 : xs.length = 6 := hx
  obtain ⟨c0, c1, c2, c3, c4, c5, c6, c7, rfl⟩ : ∃ c0 c1 c2 c3 c4 c5 c6 c7, cs = [c0, c1, c2, c3, c4, c5, c6, c7] := by
   exact list8 hl3
  have k0 : Tryz.prog.cellsOf 3 = 1 := by kernel_rfl
  have k1 : Tryz.prog.cellsOf 4 = 1 := by kernel_rfl
  have k2 : Tryz.prog.cellsOf 25 = 3 := by kernel_rfl
  have k3 : Tryz.prog.cellsOf 9 = 1 := by kernel_rfl
  have k4 : Tryz.prog.cellsOf 26 = 1 := by kernel_rfl
  have k5 : Tryz.prog.cellsOf 27 = 1 := by kernel_rfl
  have h0 : DataW.trod enc' Tryz.prog W 0 (fun _ => true) true m 3 (([c0, c1, c2, c3, c4, c5, c6, c7].drop 0).take (Tryz.prog.cellsOf 3)) = xs[0]? := hf 0 _ rfl
  have h1 : DataW.trod enc' Tryz.prog W 0 (fun _ => true) true m 4 (([c0, c1, c2, c3, c4, c5, c6, c7].drop 1).take (Tryz.prog.cellsOf 4)) = xs[1]? := hf 1 _ rfl
  have h2 : DataW.trod enc' Tryz.prog W 0 (fun _ => true) true m 25 (([c0, c1, c2, c3, c4, c5, c6, c7].drop 2).take (Tryz.prog.cellsOf 25)) = xs[2]? := hf 2 _ rfl
  have h3 : DataW.trod enc' Tryz.prog W 0 (fun _ => true) true m 9 (([c0, c1, c2, c3, c4, c5, c6, c7].drop 5).take (Tryz.prog.cellsOf 9)) = xs[3]? := hf 3 _ rfl
  have h4 : DataW.trod enc' Tryz.prog W 0 (fun _ => true) true m 26 (([c0, c1, c2, c3, c4, c5, c6, c7].drop 6).take (Tryz.prog.cellsOf 26)) = xs[4]? := hf 4 _ rfl
  have h5 : DataW.trod enc' Tryz.prog W 0 (fun _ => true) true m 27 (([c0, c1, c2, c3, c4, c5, c6, c7].drop 7).take (Tryz.prog.cellsOf 27)) = xs[5]? := hf 5 _ rfl
  rw [k0] at h0; rw [k1] at h1; rw [k2] at h2; rw [k3] at h3; rw [k4] at h4; rw [k5] at h5
  obtain ⟨y0, e0⟩ := got hx3 (show 0 < 6 by decide)
  obtain ⟨y1, e1⟩ := got hx3 (show 1 < 6 by decide)
  obtain ⟨y2, e2⟩ := got hx3 (show 2 < 6 by decide)
  obtain ⟨y3, e3⟩ := got hx3 (show 3 < 6 by decide)
  obtain ⟨y4, e4⟩ := got hx3 (show 4 < 6 by decide)
  obtain ⟨y5, e5⟩ := got hx3 (show 5 < 6 by decide)
  rw [e0] at h0; rw [e1] at h1; rw [e2] at h2; rw [e3] at h3; rw [e4] at h4; rw [e5] at h5
  obtain ⟨kd, p0, w0⟩ := opens_int Tryz.underlying3 m _ _ h0
  obtain ⟨b, p1, _⟩ := opens_bool Tryz.underlying4 m _ _ h1
  obtain ⟨nn, p2, w2⟩ := opens_num m _ _ h2
  obtain ⟨s, p3, w3⟩ := opens_str Tryz.underlying9 m _ _ h3
  obtain ⟨ks, p4, w4, w4'⟩ := opens_row (τ := .str) Tryz.underlying26 (by kernel_rfl) (fun m' _ => opens_str Tryz.underlying9 m') h4
  obtain ⟨v, p5, w5, w5'⟩ := opens_row (τ := .tree) Tryz.underlying27 (by kernel_rfl) (fun m' hm => ih m' (by omega)) h5
  obtain ⟨_, q0, r0⟩ := rl_one p0
  obtain ⟨_, q1, r1⟩ := rl_one p1
  obtain ⟨_, q3, r3⟩ := rl_one p3
  obtain ⟨_, q4, r4⟩ := rl_one p4
  obtain ⟨_, q5, r5⟩ := rl_one p5
  obtain ⟨r20, p2⟩ := RLl_cons.1 p2
  obtain ⟨r21, p2⟩ := RLl_cons.1 p2
  obtain ⟨r22, p2⟩ := RLl_cons.1 p2
  simp at q0 q1 q3 q4 q5
  subst q0 q1 q3 q4 q5
  exact ⟨.mk kd b nn s ks v, RLl_cons.2 ⟨r0, RLl_cons.2 ⟨r1, RLl_cons.2 ⟨r20, RLl_cons.2 ⟨r21, RLl_cons.2 ⟨r22, RLl_cons.2 ⟨r3, RLl_cons.2 ⟨r4, RLl_cons.2 ⟨r5, RLl_nil⟩⟩⟩⟩⟩⟩⟩⟩, ⟨w0, w2, w3, w4', w4, w5'⟩, wfL_of w5⟩
theorem opens_strs (n : Nat) : Opens enc' W .strs 26 (fun e => (∀ y ∈ e, y.size ≤ maxLen) ∧ e.length ≤ maxLen) n := by
 intro cs x h
 obtain ⟨xs, h1, h2, h3⟩ := opens_row (τ := .str) Tryz.underlying26 (by kernel_rfl) (fun m' _ => opens_str Tryz.underlying9 m') h
 exact ⟨xs, h1, h2, h3⟩
theorem open_tree {base : Nat} {v : Value} {d : DataW H} {p : List MemPlace} (hv : Value.okWide Tryz.prog W .any base 29 v) (h : DataW.Trod enc' Tryz.prog W 0 (fun _ => true) true 29 v d p) :
  ∃ t : Tree, R W (fun k => k < W.heap.size) noη v (.agg (encTree t)) ∧ WfT t := by
 obtain ⟨cs, rfl, _⟩ := Go.WideShapes.okWide_struct Tryz.underlying29 hv
 obtain ⟨n, hn⟩ := h
 obtain ⟨t, ht, hw⟩ := opens_tree n _ _ hn
 exact ⟨t, .agg cs _ (by have := ht.1; simpa [Value.cells] using this) (fun j u a hu ha => ht.2 j u a (by simpa [Value.cells] using hu) ha), hw⟩
theorem open_paths {base : Nat} {v : Value} {d : DataW H} {p : List MemPlace} (hv : Value.okWide Tryz.prog W .any base 33 v) (h : DataW.Trod enc' Tryz.prog W 0 (fun _ => true) true 33 v d p) :
  ∃ l : List (List ByteArray), R W (fun k => k < W.heap.size) noη v (.row .strs l) ∧ (∀ q ∈ l, (∀ y ∈ q, y.size ≤ maxLen) ∧ q.length ≤ maxLen) ∧ l.length ≤ maxLen := by
 obtain ⟨a0, n0, c0, rfl⟩ := Go.WideShapes.okWide_slice Tryz.underlying33 hv
 obtain ⟨n, hn⟩ := h
 obtain ⟨l, hl, h1, h2⟩ := opens_row (τ := .strs) Tryz.underlying33 (by kernel_rfl) (fun m' _ => opens_strs m') hn
 exact ⟨l, hl.2 0 _ _ rfl rfl, h1, h2⟩
end
end Go.Proofs.YtondpnipoogoiaaGreatDoor.X
namespace Go.Proofs.YtondpnipoogoiaaGreatDoor.F
open Go Go.RowKit
def tt (t : TypeId) : Option Ty := if t = 2 then some (.int .i64) else if t = 3 then some (.int .i64) else if t = 4 then some .bool else if t = 5 then some (.int .u8) else if t = 6 then some (.int .u8) else if t = 9 then some .str else if t = 10 then some .str else if t = 11 then some .str else if t = 12 then some (.int .u64) else if t = 21 then some (.int .i32) else if t = 22 then some (.ints .i64) else if t = 23 then some (.ints .u32) else if t = 25 then some .num else if t = 26 then some .strs else if t = 27 then some .trees else if t = 29 then some .tree else if t = 38 then some (.int .i64) else if t = 80 then some .opn else if t = 132 then some (.int .u64) else if t = 140 then some (.ints .u8) else if t = 160 then some (.int .u32) else if t = 168 then some (.int .u64) else if t = 173 then some (.int .i64) else if t = 201 then some (.int .u64) else if t = 219 then some (.ints .i32) else if t = 250 then some (.int .u8) else if t = 251 then some (.int .u8) else if t = 253 then some (.int .i32) else if t = 254 then some (.int .i32) else none
def I0 (w : World) : Prop := Go.Proofs.YtondpnipoogoiaaGreatDoor.X.Laid w
theorem stab : ∀ w w', I0 w → Below w.heap.size w w' → I0 w' := fun _ _ h b => h.below b
theorem mix : Tryz.prog.follows .mixedOrders = true := by kernel_rfl
theorem tv : True := trivial
theorem ng1 {b : Bool} (h : b = true) : (!b) = false := by rw [h]; rfl
theorem ng0 {b : Bool} (h : b = false) : (!b) = true := by rw [h]; rfl
def gg (t f : List Nat) : List (Nat × Bool) := t.map (fun i => (i, true)) ++ f.map (fun i => (i, false))
def rp {p : Prop} (n : Nat) (h : p) (q : Prop) : Prop := match n with
 | 0 => q
 | n + 1 => p ∧ (True ∧ rp n h q)
theorem rp_mk {p q : Prop} {h : p} (hq : q) : ∀ n : Nat, rp n h q
 | 0 => hq
 | n + 1 => ⟨h, trivial, rp_mk hq n⟩
abbrev ty {p : Prop} (_ : p) : Prop := p
theorem bt (b : Bool) : b = true ∨ b = false := Bool.eq_false_or_eq_true b
section
variable {w0 w : World} {ow : Own} {N : Nat} {T : TL} {B : BL} {a : Act} {Q : Exit → Act → World → Prop} {c : Code}
theorem wL (hs : SimL N w0 ow T B a w) (hI : ∀ w', Fr ow w0 w' → I0 w') (rs : List (Nat × RI)) (bs : List Bool) (tk bk : List Nat) (C : Prop) (lv : Lv) (T' : TL) (B' : BL) (hall : AllCons Tryz.prog I0 rs) (he : projC Tryz.prog tt N rs c T B bs tk bk = some (C, lv, T', B')) (hC : C) (hq : LvL N w0 ow Q lv T' B') : c.wp Tryz.prog Q a w := way_L mix hI hs hall he hC hq
theorem wN (hs : SimL N w0 ow T B a w) (hI : ∀ w', Fr ow w0 w' → I0 w') (bs : List Bool) (tk bk : List Nat) (C : Prop) (lv : Lv) (T' : TL) (B' : BL) (he : projC Tryz.prog tt N [] c T B bs tk bk = some (C, lv, T', B')) (hC : C) (hq : LvL N w0 ow Q lv T' B') : c.wp Tryz.prog Q a w := way_L (rs := []) mix hI hs trivial he hC hq
theorem SimL.cst (hs : SimL N w0 ow T B a w) (T' : TL) (B' : BL) (h : (T, B) = (T', B')) : SimL N w0 ow T' B' a w := by
 cases h; exact hs
theorem SimL.rmT (hs : SimL N w0 ow T B a w) (T' : TL) (B' : BL) (ρ : List (Nat × Nat)) (h : (renOk ρ T' B', T'.map (fun p => lkp T p.1), B'.map (fun p => lkp B (rnk ρ p.1))) = (true, T'.map (fun p => some (rn ρ p.2)), B'.map (fun p => some (rnB ρ p.2)))) : SimL N w0 ow T' B' a w := by
 simp only [Prod.mk.injEq] at h
 exact hs.ren ρ h.1 h.2.1 h.2.2
theorem SimL.rm (hs : SimL N w0 ow T B a w) {T' : TL} {B' : BL} (ρ : List (Nat × Nat)) (h : (renOk ρ T' B', T'.map (fun p => lkp T p.1), B'.map (fun p => lkp B (rnk ρ p.1))) = (true, T'.map (fun p => some (rn ρ p.2)), B'.map (fun p => some (rnB ρ p.2)))) : SimL N w0 ow T' B' a w := hs.rmT T' B' ρ h
end
theorem ent10 : Ent Tryz.prog 10 := ent_of Tryz.func10 (by kernel_rfl) rfl
theorem ent20 : Ent Tryz.prog 20 := ent_of Tryz.func20 (by kernel_rfl) rfl
theorem ent21 : Ent Tryz.prog 21 := ent_of Tryz.func21 (by kernel_rfl) rfl
theorem ent22 : Ent Tryz.prog 22 := ent_of Tryz.func22 (by kernel_rfl) rfl
theorem ent23 : Ent Tryz.prog 23 := ent_of Tryz.func23 (by kernel_rfl) rfl
theorem ent24 : Ent Tryz.prog 24 := ent_of Tryz.func24 (by kernel_rfl) rfl
theorem ent26 : Ent Tryz.prog 26 := ent_of Tryz.func26 (by kernel_rfl) rfl
theorem ent27 : Ent Tryz.prog 27 := ent_of Tryz.func27 (by kernel_rfl) rfl
theorem ent30 : Ent Tryz.prog 30 := ent_of Tryz.func30 (by kernel_rfl) rfl
theorem ent31 : Ent Tryz.prog 31 := ent_of Tryz.func31 (by kernel_rfl) rfl
theorem ent32 : Ent Tryz.prog 32 := ent_of Tryz.func32 (by kernel_rfl) rfl
theorem ent33 : Ent Tryz.prog 33 := ent_of Tryz.func33 (by kernel_rfl) rfl
theorem ent34 : Ent Tryz.prog 34 := ent_of Tryz.func34 (by kernel_rfl) rfl
theorem ent35 : Ent Tryz.prog 35 := ent_of Tryz.func35 (by kernel_rfl) rfl
theorem ent36 : Ent Tryz.prog 36 := ent_of Tryz.func36 (by kernel_rfl) rfl
theorem ent37 : Ent Tryz.prog 37 := ent_of Tryz.func37 (by kernel_rfl) rfl
theorem ent38 : Ent Tryz.prog 38 := ent_of Tryz.func38 (by kernel_rfl) rfl
theorem ent39 : Ent Tryz.prog 39 := ent_of Tryz.func39 (by kernel_rfl) rfl
theorem ent40 : Ent Tryz.prog 40 := ent_of Tryz.func40 (by kernel_rfl) rfl
theorem ent41 : Ent Tryz.prog 41 := ent_of Tryz.func41 (by kernel_rfl) rfl
theorem ent42 : Ent Tryz.prog 42 := ent_of Tryz.func42 (by kernel_rfl) rfl
theorem ent43 : Ent Tryz.prog 43 := ent_of Tryz.func43 (by kernel_rfl) rfl
theorem ent44 : Ent Tryz.prog 44 := ent_of Tryz.func44 (by kernel_rfl) rfl
theorem ent53 : Ent Tryz.prog 53 := ent_of Tryz.func53 (by kernel_rfl) rfl
theorem ent57 : Ent Tryz.prog 57 := ent_of Tryz.func57 (by kernel_rfl) rfl
theorem ent60 : Ent Tryz.prog 60 := ent_of Tryz.func60 (by kernel_rfl) rfl
theorem ent64 : Ent Tryz.prog 64 := ent_of Tryz.func64 (by kernel_rfl) rfl
theorem ent66 : Ent Tryz.prog 66 := ent_of Tryz.func66 (by kernel_rfl) rfl
theorem ent67 : Ent Tryz.prog 67 := ent_of Tryz.func67 (by kernel_rfl) rfl
theorem ent68 : Ent Tryz.prog 68 := ent_of Tryz.func68 (by kernel_rfl) rfl
theorem ent69 : Ent Tryz.prog 69 := ent_of Tryz.func69 (by kernel_rfl) rfl
theorem ent70 : Ent Tryz.prog 70 := ent_of Tryz.func70 (by kernel_rfl) rfl
theorem ent71 : Ent Tryz.prog 71 := ent_of Tryz.func71 (by kernel_rfl) rfl
theorem ent72 : Ent Tryz.prog 72 := ent_of Tryz.func72 (by kernel_rfl) rfl
theorem ent73 : Ent Tryz.prog 73 := ent_of Tryz.func73 (by kernel_rfl) rfl
theorem ent74 : Ent Tryz.prog 74 := ent_of Tryz.func74 (by kernel_rfl) rfl
theorem ent75 : Ent Tryz.prog 75 := ent_of Tryz.func75 (by kernel_rfl) rfl
theorem ent76 : Ent Tryz.prog 76 := ent_of Tryz.func76 (by kernel_rfl) rfl
theorem ent77 : Ent Tryz.prog 77 := ent_of Tryz.func77 (by kernel_rfl) rfl
theorem ent78 : Ent Tryz.prog 78 := ent_of Tryz.func78 (by kernel_rfl) rfl
theorem ent79 : Ent Tryz.prog 79 := ent_of Tryz.func79 (by kernel_rfl) rfl
theorem ent80 : Ent Tryz.prog 80 := ent_of Tryz.func80 (by kernel_rfl) rfl
theorem ent81 : Ent Tryz.prog 81 := ent_of Tryz.func81 (by kernel_rfl) rfl
theorem ent82 : Ent Tryz.prog 82 := ent_of Tryz.func82 (by kernel_rfl) rfl
theorem ent83 : Ent Tryz.prog 83 := ent_of Tryz.func83 (by kernel_rfl) rfl
theorem ent84 : Ent Tryz.prog 84 := ent_of Tryz.func84 (by kernel_rfl) rfl
theorem ent85 : Ent Tryz.prog 85 := ent_of Tryz.func85 (by kernel_rfl) rfl
theorem ent86 : Ent Tryz.prog 86 := ent_of Tryz.func86 (by kernel_rfl) rfl
theorem ent87 : Ent Tryz.prog 87 := ent_of Tryz.func87 (by kernel_rfl) rfl
theorem ent88 : Ent Tryz.prog 88 := ent_of Tryz.func88 (by kernel_rfl) rfl
theorem ent89 : Ent Tryz.prog 89 := ent_of Tryz.func89 (by kernel_rfl) rfl
theorem ent90 : Ent Tryz.prog 90 := ent_of Tryz.func90 (by kernel_rfl) rfl
theorem ent91 : Ent Tryz.prog 91 := ent_of Tryz.func91 (by kernel_rfl) rfl
theorem ent92 : Ent Tryz.prog 92 := ent_of Tryz.func92 (by kernel_rfl) rfl
theorem ent93 : Ent Tryz.prog 93 := ent_of Tryz.func93 (by kernel_rfl) rfl
theorem ent94 : Ent Tryz.prog 94 := ent_of Tryz.func94 (by kernel_rfl) rfl
theorem ent95 : Ent Tryz.prog 95 := ent_of Tryz.func95 (by kernel_rfl) rfl
theorem ent117 : Ent Tryz.prog 117 := ent_of Tryz.func117 (by kernel_rfl) rfl
theorem ent122 : Ent Tryz.prog 122 := ent_of Tryz.func122 (by kernel_rfl) rfl
theorem ent130 : Ent Tryz.prog 130 := ent_of Tryz.func130 (by kernel_rfl) rfl
theorem ent134 : Ent Tryz.prog 134 := ent_of Tryz.func134 (by kernel_rfl) rfl
theorem ent135 : Ent Tryz.prog 135 := ent_of Tryz.func135 (by kernel_rfl) rfl
theorem ent136 : Ent Tryz.prog 136 := ent_of Tryz.func136 (by kernel_rfl) rfl
theorem ent137 : Ent Tryz.prog 137 := ent_of Tryz.func137 (by kernel_rfl) rfl
theorem ent138 : Ent Tryz.prog 138 := ent_of Tryz.func138 (by kernel_rfl) rfl
theorem ent140 : Ent Tryz.prog 140 := ent_of Tryz.func140 (by kernel_rfl) rfl
theorem ent141 : Ent Tryz.prog 141 := ent_of Tryz.func141 (by kernel_rfl) rfl
theorem ent142 : Ent Tryz.prog 142 := ent_of Tryz.func142 (by kernel_rfl) rfl
theorem ent143 : Ent Tryz.prog 143 := ent_of Tryz.func143 (by kernel_rfl) rfl
theorem ent144 : Ent Tryz.prog 144 := ent_of Tryz.func144 (by kernel_rfl) rfl
theorem ent145 : Ent Tryz.prog 145 := ent_of Tryz.func145 (by kernel_rfl) rfl
theorem ent146 : Ent Tryz.prog 146 := ent_of Tryz.func146 (by kernel_rfl) rfl
theorem ent150 : Ent Tryz.prog 150 := ent_of Tryz.func150 (by kernel_rfl) rfl
theorem ent170 : Ent Tryz.prog 170 := ent_of Tryz.func170 (by kernel_rfl) rfl
theorem ent171 : Ent Tryz.prog 171 := ent_of Tryz.func171 (by kernel_rfl) rfl
theorem ent173 : Ent Tryz.prog 173 := ent_of Tryz.func173 (by kernel_rfl) rfl
theorem ent174 : Ent Tryz.prog 174 := ent_of Tryz.func174 (by kernel_rfl) rfl
theorem ent188 : Ent Tryz.prog 188 := ent_of Tryz.func188 (by kernel_rfl) rfl
theorem ent189 : Ent Tryz.prog 189 := ent_of Tryz.func189 (by kernel_rfl) rfl
theorem ent190 : Ent Tryz.prog 190 := ent_of Tryz.func190 (by kernel_rfl) rfl
theorem ent191 : Ent Tryz.prog 191 := ent_of Tryz.func191 (by kernel_rfl) rfl
theorem ent192 : Ent Tryz.prog 192 := ent_of Tryz.func192 (by kernel_rfl) rfl
theorem ent193 : Ent Tryz.prog 193 := ent_of Tryz.func193 (by kernel_rfl) rfl
theorem ent199 : Ent Tryz.prog 199 := ent_of Tryz.func199 (by kernel_rfl) rfl
theorem ent200 : Ent Tryz.prog 200 := ent_of Tryz.func200 (by kernel_rfl) rfl
theorem ent201 : Ent Tryz.prog 201 := ent_of Tryz.func201 (by kernel_rfl) rfl
theorem ent214 : Ent Tryz.prog 214 := ent_of Tryz.func214 (by kernel_rfl) rfl
theorem ent215 : Ent Tryz.prog 215 := ent_of Tryz.func215 (by kernel_rfl) rfl
theorem ent216 : Ent Tryz.prog 216 := ent_of Tryz.func216 (by kernel_rfl) rfl
theorem ent218 : Ent Tryz.prog 218 := ent_of Tryz.func218 (by kernel_rfl) rfl
theorem ent228 : Ent Tryz.prog 228 := ent_of Tryz.func228 (by kernel_rfl) rfl
theorem ent229 : Ent Tryz.prog 229 := ent_of Tryz.func229 (by kernel_rfl) rfl
theorem ent236 : Ent Tryz.prog 236 := ent_of Tryz.func236 (by kernel_rfl) rfl
theorem ent249 : Ent Tryz.prog 249 := ent_of Tryz.func249 (by kernel_rfl) rfl
theorem ent250 : Ent Tryz.prog 250 := ent_of Tryz.func250 (by kernel_rfl) rfl
theorem ent251 : Ent Tryz.prog 251 := ent_of Tryz.func251 (by kernel_rfl) rfl
theorem ent261 : Ent Tryz.prog 261 := ent_of Tryz.func261 (by kernel_rfl) rfl
theorem ent270 : Ent Tryz.prog 270 := ent_of Tryz.func270 (by kernel_rfl) rfl
theorem ent271 : Ent Tryz.prog 271 := ent_of Tryz.func271 (by kernel_rfl) rfl
theorem ent276 : Ent Tryz.prog 276 := ent_of Tryz.func276 (by kernel_rfl) rfl
open Go.Proofs.Tryz
def bulk (t : Tree) : Nat := 1 + if t.kind = 3 then t.n.m.length else if t.kind = 4 then t.s.size else if t.kind = 5 then t.s.size else 0
mutual
def weight : Tree → Nat
 | .mk kind b n s k v => bulk (.mk kind b n s k v) + weightL v
def weightL : List Tree → Nat
 | [] => 0
 | t :: l => weight t + weightL l
end
theorem weight_eq (t : Tree) : weight t = bulk t + weightL t.v := by cases t; rfl
theorem weightL_take : ∀ (l : List Tree) (i : Nat), i < l.length → weightL (l.take (i + 1)) = weightL (l.take i) + weight (l.getD i (dflt .tree))
 | [], i, h => by simp at h
 | t :: l, 0, h => by simp [weightL]
 | t :: l, i + 1, h => by
  simp only [List.take_succ_cons, weightL, List.getD_cons_succ]
  rw [weightL_take l i (by simpa using h)]; omega
theorem weightL_le : ∀ (l : List Tree) (i : Nat), weightL (l.take i) ≤ weightL l
 | [], i => by simp
 | t :: l, 0 => by simp [weightL]
 | t :: l, i + 1 => by simp only [List.take_succ_cons, weightL]; have := weightL_le l i; omega
theorem weightL_len : ∀ (l : List Tree), l.length ≤ weightL l
  | [] => by simp
  | t :: l => by simp only [List.length_cons, weightL]; have := weightL_len l; have := weight_eq t; have : 1 ≤ bulk t := by simp [bulk]
                 omega
theorem bulk_3 {t : Tree} (h : t.kind = 3) : bulk t = 1 + t.n.m.length := by simp [bulk, h]
theorem bulk_4 {t : Tree} (h : t.kind = 4) : bulk t = 1 + t.s.size := by simp [bulk, h]
theorem bulk_5 {t : Tree} (h : t.kind = 5) : bulk t = 1 + t.s.size := by simp [bulk, h]
theorem bulk_0 {t : Tree} (h : ¬ t.kind = 3) (h' : ¬ t.kind = 4) (h2 : ¬ t.kind = 5) : bulk t = 1 := by simp [bulk, h, h', h2]
mutual
def nodes : Tree → Nat
 | .mk _ _ _ _ _ v => 1 + nodesL v
def nodesL : List Tree → Nat
 | [] => 0
 | t :: l => nodes t + nodesL l
end
theorem nodes_eq (t : Tree) : nodes t = 1 + nodesL t.v := by cases t; rfl
theorem nodes_at : ∀ {l : List Tree} {i : Nat}, i < l.length → nodes (l.getD i (dflt .tree)) ≤ nodesL l
 | [], i, h => by simp at h
 | t :: l, 0, h => by simp [nodesL]
 | t :: l, i + 1, h => by
  simp only [nodesL, List.getD_cons_succ]
  have := @nodes_at l i (by simpa using h); omega
theorem nodesL_take : ∀ (l : List Tree) (i : Nat), i < l.length → nodesL (l.take (i + 1)) = nodesL (l.take i) + nodes (l.getD i (dflt .tree))
 | [], i, h => by simp at h
 | t :: l, 0, h => by simp [nodesL]
 | t :: l, i + 1, h => by
  simp only [List.take_succ_cons, nodesL, List.getD_cons_succ]
  rw [nodesL_take l i (by simpa using h)]; omega
theorem nodesL_le : ∀ (l : List Tree) (i : Nat), nodesL (l.take i) ≤ nodesL l
 | [], i => by simp
 | t :: l, 0 => by simp [nodesL]
 | t :: l, i + 1 => by simp only [List.take_succ_cons, nodesL]; have := nodesL_le l i; omega
theorem nodesL_len : ∀ (l : List Tree), l.length ≤ nodesL l
 | [] => by simp
 | t :: l => by simp only [List.length_cons, nodesL]; have := nodesL_len l; have := nodes_eq t; omega
mutual
def depth : Tree → Nat
 | .mk _ _ _ _ _ v => 1 + depthL v
def depthL : List Tree → Nat
 | [] => 0
 | t :: l => max (depth t) (depthL l)
end
theorem depth_eq (t : Tree) : depth t = 1 + depthL t.v := by cases t; rfl
theorem depthL_take : ∀ (l : List Tree) (i : Nat), i < l.length → depthL (l.take (i + 1)) = max (depthL (l.take i)) (depth (l.getD i (dflt .tree)))
 | [], i, h => by simp at h
 | t :: l, 0, h => by simp [depthL]
 | t :: l, i + 1, h => by
  simp only [List.take_succ_cons, depthL, List.getD_cons_succ]
  rw [depthL_take l i (by simpa using h)]; omega
mutual
theorem depth_le : ∀ t : Tree, depth t ≤ nodes t
 | .mk _ _ _ _ _ v => by simp only [depth, nodes]; have := depthL_le v; omega
theorem depthL_le : ∀ l : List Tree, depthL l ≤ nodesL l
 | [] => by simp [depthL]
 | t :: l => by simp only [depthL, nodesL]; have := depth_le t; have := depthL_le l; omega
end
theorem con79_ : ∀ (n : Nat) (t : Tree), nodes t < n → nodes t < 4611686018427387904 → Con Tryz.prog I0 79 [.agg (encTree t)] (.val (vi ((nodes t : Nat) : Int))) := by
 intro n
 induction n
 case zero => intro t hn; omega
 rename_i n ih
 intro t hn hw
 refine con_of Tryz.func79 rfl (Nat.le_of_ble_eq_true rfl) stab (fun w0 fz a hI hs => ?_)
 refine wp_seq ?_
 refine wN hs hI [] [1] [1000] (True ∧ (True ∧ True)) .norm [(1, .ptr 1000 0)] [(1000, .var (encTree t))] (by kernel_rfl) ⟨tv, tv, tv⟩ (fun a w hs => ?_)
 refine then_norm ?_
 refine wp_seq ?_
 refine wN hs hI [] [1, 3] [1000] (True ∧ True) .norm [(1, .ptr 1000 0), (3, vi 1)] [(1000, .var (encTree t))] (by kernel_rfl) ⟨tv, tv⟩ (fun a w hs => ?_)
 refine then_norm ?_
 refine wp_seq ?_
 refine wp_seq ?_
 refine wN hs hI [] [3, 7, 8, 9] [] (tr 4 True) .norm [(3, vi 1), (7, .row .tree t.v), (8, vi (t.v.length : Int)), (9, vi 0)] [] (by kernel_rfl) (tr_mk tv 4) (fun a w hs => ?_)
 refine then_norm ?_
 refine wp_block ?_
 refine loop_L (N := Tryz.f79.ntmps) (w0 := w0) (ow := noO fz) (α := Nat) (fun p => [(3, vi ((1 + nodesL (t.v.take p) : Nat) : Int)), (7, .row .tree t.v), (8, vi (t.v.length : Int)), (9, vi (p : Int))]) (fun p => []) (fun p => p ≤ t.v.length) (fun p => t.v.length - p) 0 ?_ ?_ ?_
 ·exact Nat.zero_le _
 ·(have e0_ : (1) = (((1 + nodesL (t.v.take 0) : Nat) : Int)) := (by first | rfl | (simp only [List.take_zero, nodesL]; omega)); have e1_ : (0) = (((0 : Nat) : Int)) := (by first | rfl | (simp only [List.take_zero, nodesL]; omega)); exact (hs.cst [(3, vi ((1 + nodesL (t.v.take 0) : Nat) : Int)), (7, .row .tree t.v), (8, vi (t.v.length : Int)), (9, vi ((0 : Nat) : Int))] [] (by first | rfl | (rw [e0_, e1_]; done) | (simp only [e0_, e1_]; done) | (simp only [e0_, e1_]; rfl))).rm [] (by kernel_rfl))
 rintro i hJ a w hs
 have hwt := nodes_eq t
 have hle := nodesL_le t.v i
 have hlen := nodesL_len t.v
 rcases bt (decide ((i : Int) < (t.v.length : Int))) with b1 | b1
 ·skip
  have n1 := of_decide_eq_true b1
  have ht1 := nodesL_take t.v i (by omega)
  have hle1 := nodesL_le t.v (i + 1)
  refine wL hs hI [(5, ⟨[(2, ciA 79 [.agg (encTree (t.v.getD i (dflt .tree)))] [] [] (.val (vi ((nodes (t.v.getD i (dflt .tree)) : Nat) : Int))))], [], []⟩)] [true] [3, 7, 8, 9] [] ((True ∧ True) ∧ (((ty b1) ∧ True) ∧ (((0 ≤ (i : Int) ∧ (i : Int) < t.v.length) ∧ (tr 3 True)) ∧ True ∧ True ∧ (okArgs [.agg (encTree (t.v.getD i (dflt .tree)))]) ∧ (InR .i64 (((1 + nodesL (t.v.take i) : Nat) : Int) + ((nodes (t.v.getD i (dflt .tree)) : Nat) : Int))) ∧ True ∧ True) ∧ (InR .i64 ((i : Int) + 1)) ∧ True ∧ True)) .norm [(3, vi (((1 + nodesL (t.v.take i) : Nat) : Int) + ((nodes (t.v.getD i (dflt .tree)) : Nat) : Int))), (7, .row .tree t.v), (8, vi (t.v.length : Int)), (9, vi ((i : Int) + 1))] [] ⟨⟨⟨ent79, ih _ (by have h1 := nodes_eq t; have h2 := nodes_at (l := t.v) (i := i) (by omega); omega) (by have := weightL_take t.v i (by omega); have := weightL_le t.v (i + 1); have := nodesL_take t.v i (by omega); have := nodesL_le t.v (i + 1); have := weight_eq t; have := nodes_eq t; omega)⟩, tv⟩, tv⟩ (by kernel_rfl) ⟨⟨tv, tv⟩, ⟨b1, tv⟩, ⟨⟨(by omega), tr_mk tv 3⟩, tv, tv, rfl, (inR64 (by omega) (by omega)), tv, tv⟩, (inR64 (by omega) (by omega)), tv, tv⟩ (fun a w hs => ?_)
  refine then_norm ⟨i + 1, by omega, by omega, ?_⟩
  (have e0_ : (((1 + nodesL (t.v.take i) : Nat) : Int) + ((nodes (t.v.getD i (dflt .tree)) : Nat) : Int)) = (((1 + nodesL (t.v.take (i + 1)) : Nat) : Int)) := (by first | rfl | (omega)); have e1_ : ((i : Int) + 1) = ((((i + 1) : Nat) : Int)) := (by first | rfl | (omega)); exact (hs.cst [(3, vi ((1 + nodesL (t.v.take (i + 1)) : Nat) : Int)), (7, .row .tree t.v), (8, vi (t.v.length : Int)), (9, vi (((i + 1) : Nat) : Int))] [] (by first | rfl | (rw [e0_, e1_]; done) | (simp only [e0_, e1_]; done) | (simp only [e0_, e1_]; rfl))).rm [] (by kernel_rfl))
 ·skip
  have n1 := of_decide_eq_false b1
  refine wN hs hI [false] [3] [] ((True ∧ True) ∧ ((ty b1) ∧ True)) (.exit 0) [(3, vi ((1 + nodesL (t.v.take i) : Nat) : Int))] [] (by kernel_rfl) ⟨⟨tv, tv⟩, b1, tv⟩ (fun a w hs => ?_)
  refine then_exit ?_
  refine inb_hit ?_
  refine then_norm ?_
  refine wN hs hI [] [2] [] ((True ∧ True ∧ True) ∧ True) .ret [(2, vi ((1 + nodesL (t.v.take i) : Nat) : Int))] [] (by kernel_rfl) ⟨⟨tv, tv, tv⟩, tv⟩ (fun a w hs => ?_)
  exact FnQ_cast (out := .val (vi ((1 + nodesL (t.v.take i) : Nat) : Int))) (by have h1 := nodes_eq t; have h2 : t.v.take i = t.v := List.take_of_length_le (by omega); rw [h2, ← h1]) (ret_ok [] hs ⟨by kernel_rfl, rfl⟩)
theorem con79 (t : Tree) (h : nodes t < 4611686018427387904) : Con Tryz.prog I0 79 [.agg (encTree t)] (.val (vi ((nodes t : Nat) : Int))) := con79_ (nodes t + 1) t (Nat.lt_succ_self _) h
theorem con80_ : ∀ (n : Nat) (t : Tree), nodes t < n → nodes t < 4611686018427387904 → Con Tryz.prog I0 80 [.agg (encTree t)] (.val (vi ((depth t : Nat) : Int))) := by
 intro n
 induction n
 case zero => intro t hn; omega
 rename_i n ih
 intro t hn hw
 refine con_of Tryz.func80 rfl (Nat.le_of_ble_eq_true rfl) stab (fun w0 fz a hI hs => ?_)
 refine wp_seq ?_
 refine wN hs hI [] [1] [1000] (True ∧ (True ∧ True)) .norm [(1, .ptr 1000 0)] [(1000, .var (encTree t))] (by kernel_rfl) ⟨tv, tv, tv⟩ (fun a w hs => ?_)
 refine then_norm ?_
 refine wp_seq ?_
 refine wN hs hI [] [1, 3] [1000] (True ∧ True) .norm [(1, .ptr 1000 0), (3, vi 0)] [(1000, .var (encTree t))] (by kernel_rfl) ⟨tv, tv⟩ (fun a w hs => ?_)
 refine then_norm ?_
 refine wp_seq ?_
 refine wp_seq ?_
 refine wN hs hI [] [3, 7, 8, 9] [] (tr 4 True) .norm [(3, vi 0), (7, .row .tree t.v), (8, vi (t.v.length : Int)), (9, vi 0)] [] (by kernel_rfl) (tr_mk tv 4) (fun a w hs => ?_)
 refine then_norm ?_
 refine wp_block ?_
 refine loop_L (N := Tryz.f80.ntmps) (w0 := w0) (ow := noO fz) (α := Nat) (fun p => [(3, vi ((depthL (t.v.take p) : Nat) : Int)), (7, .row .tree t.v), (8, vi (t.v.length : Int)), (9, vi (p : Int))]) (fun p => []) (fun p => p ≤ t.v.length) (fun p => t.v.length - p) 0 ?_ ?_ ?_
 ·exact Nat.zero_le _
 ·exact (hs.cst [(3, vi ((depthL (t.v.take 0) : Nat) : Int)), (7, .row .tree t.v), (8, vi (t.v.length : Int)), (9, vi ((0 : Nat) : Int))] [] rfl).rm [] (by kernel_rfl)
 rintro i hJ a w hs
 have hwt := nodes_eq t
 have hlen := nodesL_len t.v
 have hdl := depthL_le (t.v.take i)
 have hle := nodesL_le t.v i
 rcases bt (decide ((i : Int) < (t.v.length : Int))) with b1 | b1
 ·skip
  have n1 := of_decide_eq_true b1
  have ht1 := depthL_take t.v i (by omega)
  refine wL hs hI [(5, ⟨[(2, ciA 80 [.agg (encTree (t.v.getD i (dflt .tree)))] [] [] (.val (vi ((depth (t.v.getD i (dflt .tree)) : Nat) : Int))))], [], []⟩)] [true] [3, 7, 8, 9] [] ((True ∧ True) ∧ (((ty b1) ∧ True) ∧ (((0 ≤ (i : Int) ∧ (i : Int) < t.v.length) ∧ (tr 3 True)) ∧ True ∧ True ∧ (okArgs [.agg (encTree (t.v.getD i (dflt .tree)))]) ∧ True ∧ True ∧ True) ∧ (InR .i64 ((i : Int) + 1)) ∧ True ∧ True)) .norm [(3, vi (max ((depthL (t.v.take i) : Nat) : Int) ((depth (t.v.getD i (dflt .tree)) : Nat) : Int))), (7, .row .tree t.v), (8, vi (t.v.length : Int)), (9, vi ((i : Int) + 1))] [] ⟨⟨⟨ent80, ih _ (by have h1 := nodes_eq t; have h2 := nodes_at (l := t.v) (i := i) (by omega); omega) (by have := weightL_take t.v i (by omega); have := weightL_le t.v (i + 1); have := nodesL_take t.v i (by omega); have := nodesL_le t.v (i + 1); have := weight_eq t; have := nodes_eq t; omega)⟩, tv⟩, tv⟩ (by kernel_rfl) ⟨⟨tv, tv⟩, ⟨b1, tv⟩, ⟨⟨(by omega), tr_mk tv 3⟩, tv, tv, rfl, tv, tv, tv⟩, (inR64 (by omega) (by omega)), tv, tv⟩ (fun a w hs => ?_)
  refine then_norm ⟨i + 1, by omega, by omega, ?_⟩
  (have e0_ : (max ((depthL (t.v.take i) : Nat) : Int) ((depth (t.v.getD i (dflt .tree)) : Nat) : Int)) = (((depthL (t.v.take (i + 1)) : Nat) : Int)) := (by first | rfl | (omega)); have e1_ : ((i : Int) + 1) = ((((i + 1) : Nat) : Int)) := (by first | rfl | (omega)); exact (hs.cst [(3, vi ((depthL (t.v.take (i + 1)) : Nat) : Int)), (7, .row .tree t.v), (8, vi (t.v.length : Int)), (9, vi (((i + 1) : Nat) : Int))] [] (by first | rfl | (rw [e0_, e1_]; done) | (simp only [e0_, e1_]; done) | (simp only [e0_, e1_]; rfl))).rm [] (by kernel_rfl))
 ·skip
  have n1 := of_decide_eq_false b1
  refine wN hs hI [false] [3] [] ((True ∧ True) ∧ ((ty b1) ∧ True)) (.exit 0) [(3, vi ((depthL (t.v.take i) : Nat) : Int))] [] (by kernel_rfl) ⟨⟨tv, tv⟩, b1, tv⟩ (fun a w hs => ?_)
  refine then_exit ?_
  refine inb_hit ?_
  refine then_norm ?_
  refine wN hs hI [] [2] [] ((True ∧ (InR .i64 (1 + ((depthL (t.v.take i) : Nat) : Int))) ∧ True ∧ True) ∧ True) .ret [(2, vi (1 + ((depthL (t.v.take i) : Nat) : Int)))] [] (by kernel_rfl) ⟨⟨tv, (inR64 (by omega) (by omega)), tv, tv⟩, tv⟩ (fun a w hs => ?_)
  exact FnQ_cast (out := .val (vi (1 + ((depthL (t.v.take i) : Nat) : Int)))) (by have h1 := depth_eq t; have h2 : t.v.take i = t.v := List.take_of_length_le (by omega); rw [h2, h1]; rfl) (ret_ok [] hs ⟨by kernel_rfl, rfl⟩)
theorem con80 (t : Tree) (h : nodes t < 4611686018427387904) : Con Tryz.prog I0 80 [.agg (encTree t)] (.val (vi ((depth t : Nat) : Int))) := con80_ (nodes t + 1) t (Nat.lt_succ_self _) h
theorem con78_ : ∀ (n : Nat) (t : Tree), nodes t < n → weight t < 4611686018427387904 → Con Tryz.prog I0 78 [.agg (encTree t)] (.val (vi ((weight t : Nat) : Int))) := by
 intro n
 induction n
 case zero => intro t hn; omega
 rename_i n ih
 intro t hn hw
 have hb : weight t = bulk t + weightL t.v := weight_eq t
 refine con_of Tryz.func78 rfl (Nat.le_of_ble_eq_true rfl) stab (fun w0 fz a hI hs => ?_)
 refine wp_seq ?_
 refine wN hs hI [] [1] [1000] (True ∧ (True ∧ True)) .norm [(1, .ptr 1000 0)] [(1000, .var (encTree t))] (by kernel_rfl) ⟨tv, tv, tv⟩ (fun a w hs => ?_)
 refine then_norm ?_
 refine wp_seq ?_
 refine wN hs hI [] [1, 3] [1000] (True ∧ True) .norm [(1, .ptr 1000 0), (3, vi 1)] [(1000, .var (encTree t))] (by kernel_rfl) ⟨tv, tv⟩ (fun a w hs => ?_)
 refine then_norm ?_
 refine wp_seq ?_
 rcases bt (t.kind == 3) with b1 | b1
 ·skip
  have n1 := eq_of_beq b1
  have hq := bulk_3 (t := t) (by assumption)
  refine wN hs hI [true] [1, 3] [1000] ((True ∧ True ∧ True) ∧ ((True ∧ True ∧ True) ∧ (ty b1) ∧ (tr 5 ((InR .i64 (1 + (t.n.m.length : Int))) ∧ True ∧ True)))) .norm [(1, .ptr 1000 0), (3, vi (1 + (t.n.m.length : Int)))] [(1000, .var (encTree t))] (by kernel_rfl) ⟨⟨tv, tv, tv⟩, ⟨tv, tv, tv⟩, b1, tr_mk (⟨(inR64 (by omega) (by omega)), tv, tv⟩) 5⟩ (fun a w hs => ?_)
  refine then_norm ?_
  refine wp_seq ?_
  refine wp_seq ?_
  refine wN hs hI [] [3, 25, 26, 27] [] (tr 4 True) .norm [(3, vi (1 + (t.n.m.length : Int))), (25, .row .tree t.v), (26, vi (t.v.length : Int)), (27, vi 0)] [] (by kernel_rfl) (tr_mk tv 4) (fun a w hs => ?_)
  refine then_norm ?_
  refine wp_block ?_
  refine loop_L (N := Tryz.f78.ntmps) (w0 := w0) (ow := noO fz) (α := Nat) (fun p => [(3, vi ((bulk t + weightL (t.v.take p) : Nat) : Int)), (25, .row .tree t.v), (26, vi (t.v.length : Int)), (27, vi (p : Int))]) (fun p => []) (fun p => p ≤ t.v.length) (fun p => t.v.length - p) 0 ?_ ?_ ?_
  ·exact Nat.zero_le _
  ·(have e0_ : (1 + (t.n.m.length : Int)) = (((bulk t + weightL (t.v.take 0) : Nat) : Int)) := (by first | rfl | (simp only [List.take_zero, weightL]; first | omega | (rw [bulk_0 (by assumption) (by assumption) (by assumption)]; rfl))); have e1_ : (0) = (((0 : Nat) : Int)) := (by first | rfl | (simp only [List.take_zero, weightL]; first | omega | (rw [bulk_0 (by assumption) (by assumption) (by assumption)]; rfl))); exact (hs.cst [(3, vi ((bulk t + weightL (t.v.take 0) : Nat) : Int)), (25, .row .tree t.v), (26, vi (t.v.length : Int)), (27, vi ((0 : Nat) : Int))] [] (by first | rfl | (rw [e0_, e1_]; done) | (simp only [e0_, e1_]; done) | (simp only [e0_, e1_]; rfl))).rm [] (by kernel_rfl))
  rintro i hJ a w hs
  have hwt := weight_eq t
  have hle := weightL_le t.v i
  have hlen := weightL_len t.v
  rcases bt (decide ((i : Int) < (t.v.length : Int))) with b2 | b2
  ·skip
   have n2 := of_decide_eq_true b2
   have ht1 := weightL_take t.v i (by omega)
   have hle1 := weightL_le t.v (i + 1)
   refine wL hs hI [(11, ⟨[(2, ciA 78 [.agg (encTree (t.v.getD i (dflt .tree)))] [] [] (.val (vi ((weight (t.v.getD i (dflt .tree)) : Nat) : Int))))], [], []⟩)] [true] [3, 25, 26, 27] [] ((True ∧ True) ∧ (((ty b2) ∧ True) ∧ (((0 ≤ (i : Int) ∧ (i : Int) < t.v.length) ∧ (tr 3 True)) ∧ True ∧ True ∧ (okArgs [.agg (encTree (t.v.getD i (dflt .tree)))]) ∧ (InR .i64 (((bulk t + weightL (t.v.take i) : Nat) : Int) + ((weight (t.v.getD i (dflt .tree)) : Nat) : Int))) ∧ True ∧ True) ∧ (InR .i64 ((i : Int) + 1)) ∧ True ∧ True)) .norm [(3, vi (((bulk t + weightL (t.v.take i) : Nat) : Int) + ((weight (t.v.getD i (dflt .tree)) : Nat) : Int))), (25, .row .tree t.v), (26, vi (t.v.length : Int)), (27, vi ((i : Int) + 1))] [] ⟨⟨⟨ent78, ih _ (by have h1 := nodes_eq t; have h2 := nodes_at (l := t.v) (i := i) (by omega); omega) (by have := weightL_take t.v i (by omega); have := weightL_le t.v (i + 1); have := weight_eq t; omega)⟩, tv⟩, tv⟩ (by kernel_rfl) ⟨⟨tv, tv⟩, ⟨b2, tv⟩, ⟨⟨(by omega), tr_mk tv 3⟩, tv, tv, rfl, (inR64 (by omega) (by omega)), tv, tv⟩, (inR64 (by omega) (by omega)), tv, tv⟩ (fun a w hs => ?_)
   refine then_norm ⟨i + 1, by omega, by omega, ?_⟩
   (have e0_ : (((bulk t + weightL (t.v.take i) : Nat) : Int) + ((weight (t.v.getD i (dflt .tree)) : Nat) : Int)) = (((bulk t + weightL (t.v.take (i + 1)) : Nat) : Int)) := (by first | rfl | (omega)); have e1_ : ((i : Int) + 1) = ((((i + 1) : Nat) : Int)) := (by first | rfl | (omega)); exact (hs.cst [(3, vi ((bulk t + weightL (t.v.take (i + 1)) : Nat) : Int)), (25, .row .tree t.v), (26, vi (t.v.length : Int)), (27, vi (((i + 1) : Nat) : Int))] [] (by first | rfl | (rw [e0_, e1_]; done) | (simp only [e0_, e1_]; done) | (simp only [e0_, e1_]; rfl))).rm [] (by kernel_rfl))
  ·skip
   have n2 := of_decide_eq_false b2
   refine wN hs hI [false] [3] [] ((True ∧ True) ∧ ((ty b2) ∧ True)) (.exit 1) [(3, vi ((bulk t + weightL (t.v.take i) : Nat) : Int))] [] (by kernel_rfl) ⟨⟨tv, tv⟩, b2, tv⟩ (fun a w hs => ?_)
   refine then_exit ?_
   refine inb_hit ?_
   refine then_norm ?_
   refine wN hs hI [] [2] [] ((True ∧ True ∧ True) ∧ True) .ret [(2, vi ((bulk t + weightL (t.v.take i) : Nat) : Int))] [] (by kernel_rfl) ⟨⟨tv, tv, tv⟩, tv⟩ (fun a w hs => ?_)
   exact FnQ_cast (out := .val (vi ((bulk t + weightL (t.v.take i) : Nat) : Int))) (by have h1 := weight_eq t; have h2 : t.v.take i = t.v := List.take_of_length_le (by omega); rw [h2, ← h1]) (ret_ok [] hs ⟨by kernel_rfl, rfl⟩)
 ·skip
  have n1 := beq_eq_false_iff_ne.1 b1
  rcases bt (t.kind == 4) with b3 | b3
  ·skip
   have n3 := eq_of_beq b3
   have hq := bulk_4 (t := t) (by assumption)
   refine wN hs hI [false, true, true] [1, 3] [1000] ((True ∧ True ∧ True) ∧ ((True ∧ True ∧ True) ∧ (ty b1) ∧ ((True ∧ True ∧ True) ∧ (ty b3) ∧ True) ∧ (ty b3) ∧ (tr 4 ((InR .i64 (1 + (t.s.size : Int))) ∧ True ∧ True)))) .norm [(1, .ptr 1000 0), (3, vi (1 + (t.s.size : Int)))] [(1000, .var (encTree t))] (by kernel_rfl) ⟨⟨tv, tv, tv⟩, ⟨tv, tv, tv⟩, b1, ⟨⟨tv, tv, tv⟩, b3, tv⟩, b3, tr_mk (⟨(inR64 (by omega) (by omega)), tv, tv⟩) 4⟩ (fun a w hs => ?_)
   refine then_norm ?_
   refine wp_seq ?_
   refine wp_seq ?_
   refine wN hs hI [] [3, 25, 26, 27] [] (tr 4 True) .norm [(3, vi (1 + (t.s.size : Int))), (25, .row .tree t.v), (26, vi (t.v.length : Int)), (27, vi 0)] [] (by kernel_rfl) (tr_mk tv 4) (fun a w hs => ?_)
   refine then_norm ?_
   refine wp_block ?_
   refine loop_L (N := Tryz.f78.ntmps) (w0 := w0) (ow := noO fz) (α := Nat) (fun p => [(3, vi ((bulk t + weightL (t.v.take p) : Nat) : Int)), (25, .row .tree t.v), (26, vi (t.v.length : Int)), (27, vi (p : Int))]) (fun p => []) (fun p => p ≤ t.v.length) (fun p => t.v.length - p) 0 ?_ ?_ ?_
   ·exact Nat.zero_le _
   ·(have e0_ : (1 + (t.s.size : Int)) = (((bulk t + weightL (t.v.take 0) : Nat) : Int)) := (by first | rfl | (simp only [List.take_zero, weightL]; first | omega | (rw [bulk_0 (by assumption) (by assumption) (by assumption)]; rfl))); have e1_ : (0) = (((0 : Nat) : Int)) := (by first | rfl | (simp only [List.take_zero, weightL]; first | omega | (rw [bulk_0 (by assumption) (by assumption) (by assumption)]; rfl))); exact (hs.cst [(3, vi ((bulk t + weightL (t.v.take 0) : Nat) : Int)), (25, .row .tree t.v), (26, vi (t.v.length : Int)), (27, vi ((0 : Nat) : Int))] [] (by first | rfl | (rw [e0_, e1_]; done) | (simp only [e0_, e1_]; done) | (simp only [e0_, e1_]; rfl))).rm [] (by kernel_rfl))
   rintro i hJ a w hs
   have hwt := weight_eq t
   have hle := weightL_le t.v i
   have hlen := weightL_len t.v
   rcases bt (decide ((i : Int) < (t.v.length : Int))) with b4 | b4
   ·skip
    have n4 := of_decide_eq_true b4
    have ht1 := weightL_take t.v i (by omega)
    have hle1 := weightL_le t.v (i + 1)
    refine wL hs hI [(11, ⟨[(2, ciA 78 [.agg (encTree (t.v.getD i (dflt .tree)))] [] [] (.val (vi ((weight (t.v.getD i (dflt .tree)) : Nat) : Int))))], [], []⟩)] [true] [3, 25, 26, 27] [] ((True ∧ True) ∧ (((ty b4) ∧ True) ∧ (((0 ≤ (i : Int) ∧ (i : Int) < t.v.length) ∧ (tr 3 True)) ∧ True ∧ True ∧ (okArgs [.agg (encTree (t.v.getD i (dflt .tree)))]) ∧ (InR .i64 (((bulk t + weightL (t.v.take i) : Nat) : Int) + ((weight (t.v.getD i (dflt .tree)) : Nat) : Int))) ∧ True ∧ True) ∧ (InR .i64 ((i : Int) + 1)) ∧ True ∧ True)) .norm [(3, vi (((bulk t + weightL (t.v.take i) : Nat) : Int) + ((weight (t.v.getD i (dflt .tree)) : Nat) : Int))), (25, .row .tree t.v), (26, vi (t.v.length : Int)), (27, vi ((i : Int) + 1))] [] ⟨⟨⟨ent78, ih _ (by have h1 := nodes_eq t; have h2 := nodes_at (l := t.v) (i := i) (by omega); omega) (by have := weightL_take t.v i (by omega); have := weightL_le t.v (i + 1); have := weight_eq t; omega)⟩, tv⟩, tv⟩ (by kernel_rfl) ⟨⟨tv, tv⟩, ⟨b4, tv⟩, ⟨⟨(by omega), tr_mk tv 3⟩, tv, tv, rfl, (inR64 (by omega) (by omega)), tv, tv⟩, (inR64 (by omega) (by omega)), tv, tv⟩ (fun a w hs => ?_)
    refine then_norm ⟨i + 1, by omega, by omega, ?_⟩
    (have e0_ : (((bulk t + weightL (t.v.take i) : Nat) : Int) + ((weight (t.v.getD i (dflt .tree)) : Nat) : Int)) = (((bulk t + weightL (t.v.take (i + 1)) : Nat) : Int)) := (by first | rfl | (omega)); have e1_ : ((i : Int) + 1) = ((((i + 1) : Nat) : Int)) := (by first | rfl | (omega)); exact (hs.cst [(3, vi ((bulk t + weightL (t.v.take (i + 1)) : Nat) : Int)), (25, .row .tree t.v), (26, vi (t.v.length : Int)), (27, vi (((i + 1) : Nat) : Int))] [] (by first | rfl | (rw [e0_, e1_]; done) | (simp only [e0_, e1_]; done) | (simp only [e0_, e1_]; rfl))).rm [] (by kernel_rfl))
   ·skip
    have n4 := of_decide_eq_false b4
    refine wN hs hI [false] [3] [] ((True ∧ True) ∧ ((ty b4) ∧ True)) (.exit 1) [(3, vi ((bulk t + weightL (t.v.take i) : Nat) : Int))] [] (by kernel_rfl) ⟨⟨tv, tv⟩, b4, tv⟩ (fun a w hs => ?_)
    refine then_exit ?_
    refine inb_hit ?_
    refine then_norm ?_
    refine wN hs hI [] [2] [] ((True ∧ True ∧ True) ∧ True) .ret [(2, vi ((bulk t + weightL (t.v.take i) : Nat) : Int))] [] (by kernel_rfl) ⟨⟨tv, tv, tv⟩, tv⟩ (fun a w hs => ?_)
    exact FnQ_cast (out := .val (vi ((bulk t + weightL (t.v.take i) : Nat) : Int))) (by have h1 := weight_eq t; have h2 : t.v.take i = t.v := List.take_of_length_le (by omega); rw [h2, ← h1]) (ret_ok [] hs ⟨by kernel_rfl, rfl⟩)
  ·skip
   have n3 := beq_eq_false_iff_ne.1 b3
   rcases bt (t.kind == 5) with b5 | b5
   ·skip
    have n5 := eq_of_beq b5
    have hq := bulk_5 (t := t) (by assumption)
    refine wN hs hI [false, false, true] [1, 3] [1000] ((True ∧ True ∧ True) ∧ ((True ∧ True ∧ True) ∧ (ty b1) ∧ ((True ∧ True ∧ True) ∧ (ty b3) ∧ True ∧ True ∧ True) ∧ (ty b5) ∧ (tr 4 ((InR .i64 (1 + (t.s.size : Int))) ∧ True ∧ True)))) .norm [(1, .ptr 1000 0), (3, vi (1 + (t.s.size : Int)))] [(1000, .var (encTree t))] (by kernel_rfl) ⟨⟨tv, tv, tv⟩, ⟨tv, tv, tv⟩, b1, ⟨⟨tv, tv, tv⟩, b3, tv, tv, tv⟩, b5, tr_mk (⟨(inR64 (by omega) (by omega)), tv, tv⟩) 4⟩ (fun a w hs => ?_)
    refine then_norm ?_
    refine wp_seq ?_
    refine wp_seq ?_
    refine wN hs hI [] [3, 25, 26, 27] [] (tr 4 True) .norm [(3, vi (1 + (t.s.size : Int))), (25, .row .tree t.v), (26, vi (t.v.length : Int)), (27, vi 0)] [] (by kernel_rfl) (tr_mk tv 4) (fun a w hs => ?_)
    refine then_norm ?_
    refine wp_block ?_
    refine loop_L (N := Tryz.f78.ntmps) (w0 := w0) (ow := noO fz) (α := Nat) (fun p => [(3, vi ((bulk t + weightL (t.v.take p) : Nat) : Int)), (25, .row .tree t.v), (26, vi (t.v.length : Int)), (27, vi (p : Int))]) (fun p => []) (fun p => p ≤ t.v.length) (fun p => t.v.length - p) 0 ?_ ?_ ?_
    ·exact Nat.zero_le _
    ·(have e0_ : (1 + (t.s.size : Int)) = (((bulk t + weightL (t.v.take 0) : Nat) : Int)) := (by first | rfl | (simp only [List.take_zero, weightL]; first | omega | (rw [bulk_0 (by assumption) (by assumption) (by assumption)]; rfl))); have e1_ : (0) = (((0 : Nat) : Int)) := (by first | rfl | (simp only [List.take_zero, weightL]; first | omega | (rw [bulk_0 (by assumption) (by assumption) (by assumption)]; rfl))); exact (hs.cst [(3, vi ((bulk t + weightL (t.v.take 0) : Nat) : Int)), (25, .row .tree t.v), (26, vi (t.v.length : Int)), (27, vi ((0 : Nat) : Int))] [] (by first | rfl | (rw [e0_, e1_]; done) | (simp only [e0_, e1_]; done) | (simp only [e0_, e1_]; rfl))).rm [] (by kernel_rfl))
    rintro i hJ a w hs
    have hwt := weight_eq t
    have hle := weightL_le t.v i
    have hlen := weightL_len t.v
    rcases bt (decide ((i : Int) < (t.v.length : Int))) with b6 | b6
    ·skip
     have n6 := of_decide_eq_true b6
     have ht1 := weightL_take t.v i (by omega)
     have hle1 := weightL_le t.v (i + 1)
     refine wL hs hI [(11, ⟨[(2, ciA 78 [.agg (encTree (t.v.getD i (dflt .tree)))] [] [] (.val (vi ((weight (t.v.getD i (dflt .tree)) : Nat) : Int))))], [], []⟩)] [true] [3, 25, 26, 27] [] ((True ∧ True) ∧ (((ty b6) ∧ True) ∧ (((0 ≤ (i : Int) ∧ (i : Int) < t.v.length) ∧ (tr 3 True)) ∧ True ∧ True ∧ (okArgs [.agg (encTree (t.v.getD i (dflt .tree)))]) ∧ (InR .i64 (((bulk t + weightL (t.v.take i) : Nat) : Int) + ((weight (t.v.getD i (dflt .tree)) : Nat) : Int))) ∧ True ∧ True) ∧ (InR .i64 ((i : Int) + 1)) ∧ True ∧ True)) .norm [(3, vi (((bulk t + weightL (t.v.take i) : Nat) : Int) + ((weight (t.v.getD i (dflt .tree)) : Nat) : Int))), (25, .row .tree t.v), (26, vi (t.v.length : Int)), (27, vi ((i : Int) + 1))] [] ⟨⟨⟨ent78, ih _ (by have h1 := nodes_eq t; have h2 := nodes_at (l := t.v) (i := i) (by omega); omega) (by have := weightL_take t.v i (by omega); have := weightL_le t.v (i + 1); have := weight_eq t; omega)⟩, tv⟩, tv⟩ (by kernel_rfl) ⟨⟨tv, tv⟩, ⟨b6, tv⟩, ⟨⟨(by omega), tr_mk tv 3⟩, tv, tv, rfl, (inR64 (by omega) (by omega)), tv, tv⟩, (inR64 (by omega) (by omega)), tv, tv⟩ (fun a w hs => ?_)
     refine then_norm ⟨i + 1, by omega, by omega, ?_⟩
     (have e0_ : (((bulk t + weightL (t.v.take i) : Nat) : Int) + ((weight (t.v.getD i (dflt .tree)) : Nat) : Int)) = (((bulk t + weightL (t.v.take (i + 1)) : Nat) : Int)) := (by first | rfl | (omega)); have e1_ : ((i : Int) + 1) = ((((i + 1) : Nat) : Int)) := (by first | rfl | (omega)); exact (hs.cst [(3, vi ((bulk t + weightL (t.v.take (i + 1)) : Nat) : Int)), (25, .row .tree t.v), (26, vi (t.v.length : Int)), (27, vi (((i + 1) : Nat) : Int))] [] (by first | rfl | (rw [e0_, e1_]; done) | (simp only [e0_, e1_]; done) | (simp only [e0_, e1_]; rfl))).rm [] (by kernel_rfl))
    ·skip
     have n6 := of_decide_eq_false b6
     refine wN hs hI [false] [3] [] ((True ∧ True) ∧ ((ty b6) ∧ True)) (.exit 1) [(3, vi ((bulk t + weightL (t.v.take i) : Nat) : Int))] [] (by kernel_rfl) ⟨⟨tv, tv⟩, b6, tv⟩ (fun a w hs => ?_)
     refine then_exit ?_
     refine inb_hit ?_
     refine then_norm ?_
     refine wN hs hI [] [2] [] ((True ∧ True ∧ True) ∧ True) .ret [(2, vi ((bulk t + weightL (t.v.take i) : Nat) : Int))] [] (by kernel_rfl) ⟨⟨tv, tv, tv⟩, tv⟩ (fun a w hs => ?_)
     exact FnQ_cast (out := .val (vi ((bulk t + weightL (t.v.take i) : Nat) : Int))) (by have h1 := weight_eq t; have h2 : t.v.take i = t.v := List.take_of_length_le (by omega); rw [h2, ← h1]) (ret_ok [] hs ⟨by kernel_rfl, rfl⟩)
   ·skip
    have n5 := beq_eq_false_iff_ne.1 b5
    refine wN hs hI [false, false, false] [1, 3] [1000] ((True ∧ True ∧ True) ∧ ((True ∧ True ∧ True) ∧ (ty b1) ∧ ((True ∧ True ∧ True) ∧ (ty b3) ∧ True ∧ True ∧ True) ∧ (ty b5) ∧ True)) .norm [(1, .ptr 1000 0), (3, vi 1)] [(1000, .var (encTree t))] (by kernel_rfl) ⟨⟨tv, tv, tv⟩, ⟨tv, tv, tv⟩, b1, ⟨⟨tv, tv, tv⟩, b3, tv, tv, tv⟩, b5, tv⟩ (fun a w hs => ?_)
    refine then_norm ?_
    refine wp_seq ?_
    refine wp_seq ?_
    refine wN hs hI [] [3, 25, 26, 27] [] (tr 4 True) .norm [(3, vi 1), (25, .row .tree t.v), (26, vi (t.v.length : Int)), (27, vi 0)] [] (by kernel_rfl) (tr_mk tv 4) (fun a w hs => ?_)
    refine then_norm ?_
    refine wp_block ?_
    refine loop_L (N := Tryz.f78.ntmps) (w0 := w0) (ow := noO fz) (α := Nat) (fun p => [(3, vi ((bulk t + weightL (t.v.take p) : Nat) : Int)), (25, .row .tree t.v), (26, vi (t.v.length : Int)), (27, vi (p : Int))]) (fun p => []) (fun p => p ≤ t.v.length) (fun p => t.v.length - p) 0 ?_ ?_ ?_
    ·exact Nat.zero_le _
    ·(have e0_ : (1) = (((bulk t + weightL (t.v.take 0) : Nat) : Int)) := (by first | rfl | (simp only [List.take_zero, weightL]; first | omega | (rw [bulk_0 (by assumption) (by assumption) (by assumption)]; rfl))); have e1_ : (0) = (((0 : Nat) : Int)) := (by first | rfl | (simp only [List.take_zero, weightL]; first | omega | (rw [bulk_0 (by assumption) (by assumption) (by assumption)]; rfl))); exact (hs.cst [(3, vi ((bulk t + weightL (t.v.take 0) : Nat) : Int)), (25, .row .tree t.v), (26, vi (t.v.length : Int)), (27, vi ((0 : Nat) : Int))] [] (by first | rfl | (rw [e0_, e1_]; done) | (simp only [e0_, e1_]; done) | (simp only [e0_, e1_]; rfl))).rm [] (by kernel_rfl))
    rintro i hJ a w hs
    have hwt := weight_eq t
    have hle := weightL_le t.v i
    have hlen := weightL_len t.v
    rcases bt (decide ((i : Int) < (t.v.length : Int))) with b7 | b7
    ·skip
     have n7 := of_decide_eq_true b7
     have ht1 := weightL_take t.v i (by omega)
     have hle1 := weightL_le t.v (i + 1)
     refine wL hs hI [(11, ⟨[(2, ciA 78 [.agg (encTree (t.v.getD i (dflt .tree)))] [] [] (.val (vi ((weight (t.v.getD i (dflt .tree)) : Nat) : Int))))], [], []⟩)] [true] [3, 25, 26, 27] [] ((True ∧ True) ∧ (((ty b7) ∧ True) ∧ (((0 ≤ (i : Int) ∧ (i : Int) < t.v.length) ∧ (tr 3 True)) ∧ True ∧ True ∧ (okArgs [.agg (encTree (t.v.getD i (dflt .tree)))]) ∧ (InR .i64 (((bulk t + weightL (t.v.take i) : Nat) : Int) + ((weight (t.v.getD i (dflt .tree)) : Nat) : Int))) ∧ True ∧ True) ∧ (InR .i64 ((i : Int) + 1)) ∧ True ∧ True)) .norm [(3, vi (((bulk t + weightL (t.v.take i) : Nat) : Int) + ((weight (t.v.getD i (dflt .tree)) : Nat) : Int))), (25, .row .tree t.v), (26, vi (t.v.length : Int)), (27, vi ((i : Int) + 1))] [] ⟨⟨⟨ent78, ih _ (by have h1 := nodes_eq t; have h2 := nodes_at (l := t.v) (i := i) (by omega); omega) (by have := weightL_take t.v i (by omega); have := weightL_le t.v (i + 1); have := weight_eq t; omega)⟩, tv⟩, tv⟩ (by kernel_rfl) ⟨⟨tv, tv⟩, ⟨b7, tv⟩, ⟨⟨(by omega), tr_mk tv 3⟩, tv, tv, rfl, (inR64 (by omega) (by omega)), tv, tv⟩, (inR64 (by omega) (by omega)), tv, tv⟩ (fun a w hs => ?_)
     refine then_norm ⟨i + 1, by omega, by omega, ?_⟩
     (have e0_ : (((bulk t + weightL (t.v.take i) : Nat) : Int) + ((weight (t.v.getD i (dflt .tree)) : Nat) : Int)) = (((bulk t + weightL (t.v.take (i + 1)) : Nat) : Int)) := (by first | rfl | (omega)); have e1_ : ((i : Int) + 1) = ((((i + 1) : Nat) : Int)) := (by first | rfl | (omega)); exact (hs.cst [(3, vi ((bulk t + weightL (t.v.take (i + 1)) : Nat) : Int)), (25, .row .tree t.v), (26, vi (t.v.length : Int)), (27, vi (((i + 1) : Nat) : Int))] [] (by first | rfl | (rw [e0_, e1_]; done) | (simp only [e0_, e1_]; done) | (simp only [e0_, e1_]; rfl))).rm [] (by kernel_rfl))
    ·skip
     have n7 := of_decide_eq_false b7
     refine wN hs hI [false] [3] [] ((True ∧ True) ∧ ((ty b7) ∧ True)) (.exit 1) [(3, vi ((bulk t + weightL (t.v.take i) : Nat) : Int))] [] (by kernel_rfl) ⟨⟨tv, tv⟩, b7, tv⟩ (fun a w hs => ?_)
     refine then_exit ?_
     refine inb_hit ?_
     refine then_norm ?_
     refine wN hs hI [] [2] [] ((True ∧ True ∧ True) ∧ True) .ret [(2, vi ((bulk t + weightL (t.v.take i) : Nat) : Int))] [] (by kernel_rfl) ⟨⟨tv, tv, tv⟩, tv⟩ (fun a w hs => ?_)
     exact FnQ_cast (out := .val (vi ((bulk t + weightL (t.v.take i) : Nat) : Int))) (by have h1 := weight_eq t; have h2 : t.v.take i = t.v := List.take_of_length_le (by omega); rw [h2, ← h1]) (ret_ok [] hs ⟨by kernel_rfl, rfl⟩)
theorem con78 (t : Tree) (h : weight t < 4611686018427387904) : Con Tryz.prog I0 78 [.agg (encTree t)] (.val (vi ((weight t : Nat) : Int))) := con78_ (nodes t + 1) t (Nat.lt_succ_self _) h
def cutK (t : Tree) : List ByteArray := if t.kind = 7 then t.k.take (min t.k.length t.v.length) else []
def cutV (t : Tree) : List Tree := if t.kind = 7 then t.v.take (min t.k.length t.v.length) else []
theorem cut_len (t : Tree) : (cutK t).length = (cutV t).length := by unfold cutK cutV; split <;> simp <;> omega
def eqT (a b : ByteArray) : Bool := a.toList == b.toList
def idxT (x : ByteArray) : List ByteArray → Int
 | [] => -1
 | y :: l => if eqT x y = true then 0 else if idxT x l < 0 then -1 else idxT x l + 1
theorem idxT_no {x : ByteArray} : ∀ {l : List ByteArray}, (∀ j, j < l.length → ∀ d, eqT x (l.getD j d) = false) → idxT x l = -1
 | [], _ => rfl
 | y :: l, h => by
  have h0 : eqT x y = false := h 0 (by simp) y
  have h1 := idxT_no (l := l) (fun j hj d => h (j + 1) (by simpa using hj) d)
  simp [idxT, h0, h1]
theorem idxT_at {x : ByteArray} : ∀ {l : List ByteArray} {i : Nat} (d : ByteArray), i < l.length → eqT x (l.getD i d) = true → (∀ j, j < i → ∀ d, eqT x (l.getD j d) = false) → idxT x l = (i : Int)
 | [], _, _, h, _, _ => by simp at h
 | y :: l, 0, d, h, hq, _ => by
  have hq' : eqT x y = true := hq
  simp [idxT, hq']
 | y :: l, i + 1, d, h, hq, hn => by
  have h0 : eqT x y = false := hn 0 (by omega) y
  have h1 := idxT_at (l := l) (i := i) d (by simpa using h) hq (fun j hj d => hn (j + 1) (by omega) d)
  simp only [idxT, h0, h1]
  rw [if_neg (by decide), if_neg (by omega)]
  omega
theorem idxT_in (x : ByteArray) : ∀ l : List ByteArray, -1 ≤ idxT x l ∧ idxT x l < l.length
 | [] => by simp [idxT]
 | y :: l => by
  have := idxT_in x l
  simp only [idxT, List.length_cons]
  split
  ·omega
  ·split <;> omega
theorem getD_any' {α : Type} {l : List α} {i : Nat} (h : i < l.length) (d d' : α) : l.getD i d = l.getD i d' := by
 rw [List.getD_eq_getElem?_getD, List.getD_eq_getElem?_getD, List.getElem?_eq_getElem h]; rfl
def memI (t : Tree) (x : ByteArray) : Int := idxT x (cutK t)
def memV (t : Tree) (x : ByteArray) : Tree := if memI t x ≥ 0 then (cutV t).getD (memI t x).toNat (dflt .tree) else Tree.zero
def memB (t : Tree) (x : ByteArray) : Bool := decide (memI t x ≥ 0)
theorem memV_pos {t : Tree} {x : ByteArray} (h : idxT x (cutK t) ≥ 0) : memV t x = (cutV t).getD (idxT x (cutK t)).toNat (dflt .tree) ∧ memB t x = true := ⟨if_pos h, decide_eq_true h⟩
theorem memV_neg {t : Tree} {x : ByteArray} (h : ¬ idxT x (cutK t) ≥ 0) : memV t x = Tree.zero ∧ memB t x = false := ⟨if_neg h, decide_eq_false h⟩
theorem con173 (t : Tree) : Con Tryz.prog I0 173 [.agg (encTree t)] (.val (.tup [.row .str (cutK t), .row .tree (cutV t)])) := by
 refine con_of Tryz.func173 rfl (Nat.le_of_ble_eq_true rfl) stab (fun w0 fz a hI hs => ?_)
 rcases bt (t.kind != 7) with b1 | b1
 ·skip
  have n1 := bne_iff_ne.1 b1
  refine wN hs hI [true] [2, 3] [] ((tr 3 True) ∧ ((tr 3 True) ∧ (ty b1) ∧ (True ∧ True ∧ True) ∧ True)) .ret [(2, nilv), (3, nilv)] [] (by kernel_rfl) ⟨tr_mk tv 3, tr_mk tv 3, b1, ⟨tv, tv, tv⟩, tv⟩ (fun a w hs => ?_)
  exact FnQ_cast (out := .val (.tup [.row .str ([]), .row .tree ([])])) (by have b1 := b1; simp at b1; simp [cutK, cutV, b1]; try omega) (ret_ok [] hs ⟨by kernel_rfl, rfl⟩)
 ·skip
  have n1 := bne_eq_false_iff_eq.1 b1
  refine wN hs hI [false] [2, 3] [] ((tr 3 True) ∧ (((tr 3 True) ∧ (ty b1) ∧ True) ∧ (tr 8 True) ∧ (tr 4 ((0 ≤ (0 : Int) ∧ (0 : Int) ≤ (min (t.k.length : Int) (t.v.length : Int)) ∧ (min (t.k.length : Int) (t.v.length : Int)) ≤ (min (t.k.length : Int) (t.v.length : Int)) ∧ (min (t.k.length : Int) (t.v.length : Int)) ≤ (t.k.length : Int)) ∧ (tr 4 ((0 ≤ (0 : Int) ∧ (0 : Int) ≤ (min (t.k.length : Int) (t.v.length : Int)) ∧ (min (t.k.length : Int) (t.v.length : Int)) ≤ (min (t.k.length : Int) (t.v.length : Int)) ∧ (min (t.k.length : Int) (t.v.length : Int)) ≤ (t.v.length : Int)) ∧ True ∧ True ∧ True)))) ∧ True)) .ret [(2, .row .str (t.k.take (min (t.k.length : Int) (t.v.length : Int)).toNat)), (3, .row .tree (t.v.take (min (t.k.length : Int) (t.v.length : Int)).toNat))] [] (by kernel_rfl) ⟨tr_mk tv 3, ⟨tr_mk tv 3, b1, tv⟩, tr_mk tv 8, tr_mk (⟨(by (repeat' apply And.intro) <;> (try split) <;> omega), tr_mk (⟨(by (repeat' apply And.intro) <;> (try split) <;> omega), tv, tv, tv⟩) 4⟩) 4, tv⟩ (fun a w hs => ?_)
  exact FnQ_cast (out := .val (.tup [.row .str (t.k.take (min (t.k.length : Int) (t.v.length : Int)).toNat), .row .tree (t.v.take (min (t.k.length : Int) (t.v.length : Int)).toNat)])) (by have b1 := b1; simp at b1; simp [cutK, cutV, b1]; try omega) (ret_ok [] hs ⟨by kernel_rfl, rfl⟩)
theorem con171 (xs : List ByteArray) (x : ByteArray) (hx : xs.length < 4611686018427387904) : Con Tryz.prog I0 171 [.row .str xs, vs x] (.val (vi (idxT x xs))) := by
 refine con_of Tryz.func171 rfl (Nat.le_of_ble_eq_true rfl) stab (fun w0 fz a hI hs => ?_)
 refine wp_seq ?_
 refine wN hs hI [] [0, 1] [] (True ∧ True) .norm [(0, .row .str xs), (1, vs x)] [] (by kernel_rfl) ⟨tv, tv⟩ (fun a w hs => ?_)
 refine then_norm ?_
 refine wp_seq ?_
 refine wp_seq ?_
 refine wN hs hI [] [0, 1, 7, 8] [] (tr 3 True) .norm [(0, .row .str xs), (1, vs x), (7, vi (xs.length : Int)), (8, vi 0)] [] (by kernel_rfl) (tr_mk tv 3) (fun a w hs => ?_)
 refine then_norm ?_
 refine wp_block ?_
 refine loop_L (N := Tryz.f171.ntmps) (w0 := w0) (ow := noO fz) (α := Nat) (fun p => [(0, .row .str xs), (1, vs x), (7, vi (xs.length : Int)), (8, vi (p : Int))]) (fun p => []) (fun p => p ≤ xs.length ∧ ∀ j, j < p → ∀ d, eqT x (xs.getD j d) = false) (fun p => xs.length - p) 0 ?_ ?_ ?_
 ·exact ⟨Nat.zero_le _, fun j hj => absurd hj (Nat.not_lt_zero _)⟩
 ·(have e0_ : (0) = (((0 : Nat) : Int)) := (by first | rfl | (rfl)); exact (hs.cst [(0, .row .str xs), (1, vs x), (7, vi (xs.length : Int)), (8, vi ((0 : Nat) : Int))] [] (by first | rfl | (rw [e0_]; done) | (simp only [e0_]; done) | (simp only [e0_]; rfl))).rm [] (by kernel_rfl))
 rintro i hJ a w hs
 obtain ⟨hi, hall⟩ := hJ
 rcases bt (decide ((i : Int) < (xs.length : Int))) with b1 | b1
 ·skip
  have n1 := of_decide_eq_true b1
  rcases bt (x.toList == (xs.getD i (dflt .str)).toList) with b2 | b2
  ·skip
   have n2 := eq_of_beq b2
   refine wN hs hI [true, true] [4] [] ((True ∧ True) ∧ (((ty b1) ∧ True) ∧ (True ∧ True ∧ True) ∧ (tr 3 ((0 ≤ (i : Int) ∧ (i : Int) < xs.length) ∧ True ∧ True ∧ True)) ∧ (ty b2) ∧ (True ∧ True ∧ True) ∧ True)) .ret [(4, vi (i : Int))] [] (by kernel_rfl) ⟨⟨tv, tv⟩, ⟨b1, tv⟩, ⟨tv, tv, tv⟩, tr_mk (⟨(by omega), tv, tv, tv⟩) 3, b2, ⟨tv, tv, tv⟩, tv⟩ (fun a w hs => ?_)
   refine then_ret ?_
   refine inb_ret ?_
   refine then_ret ?_
   exact FnQ_cast (out := .val (vi (i : Int))) (by rw [idxT_at (i := i) (dflt .str) (by omega) b2 (fun j hj d => hall j hj d)]) (ret_ok [] hs ⟨by kernel_rfl, rfl⟩)
  ·skip
   have n2 := beq_eq_false_iff_ne.1 b2
   refine wN hs hI [true, false] [0, 1, 7, 8] [] ((True ∧ True) ∧ (((ty b1) ∧ True) ∧ ((True ∧ True ∧ True) ∧ (tr 3 ((0 ≤ (i : Int) ∧ (i : Int) < xs.length) ∧ True ∧ True ∧ True)) ∧ (ty b2) ∧ True) ∧ (InR .i64 ((i : Int) + 1)) ∧ True ∧ True)) .norm [(0, .row .str xs), (1, vs x), (7, vi (xs.length : Int)), (8, vi ((i : Int) + 1))] [] (by kernel_rfl) ⟨⟨tv, tv⟩, ⟨b1, tv⟩, ⟨⟨tv, tv, tv⟩, tr_mk (⟨(by omega), tv, tv, tv⟩) 3, b2, tv⟩, (inR64 (by omega) (by omega)), tv, tv⟩ (fun a w hs => ?_)
   refine then_norm ⟨i + 1, ⟨by omega, fun j hj d => by rcases Nat.lt_succ_iff_lt_or_eq.1 hj with h | h; exact hall j h d; subst h; rw [getD_any' (by omega) d (dflt .str)]; exact b2⟩, by omega, ?_⟩
   (have e0_ : ((i : Int) + 1) = ((((i + 1) : Nat) : Int)) := (by first | rfl | (omega)); exact (hs.cst [(0, .row .str xs), (1, vs x), (7, vi (xs.length : Int)), (8, vi (((i + 1) : Nat) : Int))] [] (by first | rfl | (rw [e0_]; done) | (simp only [e0_]; done) | (simp only [e0_]; rfl))).rm [] (by kernel_rfl))
 ·skip
  have n1 := of_decide_eq_false b1
  refine wN hs hI [false] [] [] ((True ∧ True) ∧ ((ty b1) ∧ True)) (.exit 0) [] [] (by kernel_rfl) ⟨⟨tv, tv⟩, b1, tv⟩ (fun a w hs => ?_)
  refine then_exit ?_
  refine inb_hit ?_
  refine then_norm ?_
  refine wN hs hI [] [4] [] ((True ∧ True) ∧ True) .ret [(4, vi (-1))] [] (by kernel_rfl) ⟨⟨tv, tv⟩, tv⟩ (fun a w hs => ?_)
  exact FnQ_cast (out := .val (vi (-1))) (by rw [idxT_no (fun j hj d => hall j (by omega) d)]) (ret_ok [] hs ⟨by kernel_rfl, rfl⟩)
theorem con122 (t : Tree) (x : ByteArray) (hx : (cutK t).length < 4611686018427387904) : Con Tryz.prog I0 122 [.agg (encTree t), vs x] (.val (.tup [.agg (encTree (memV t x)), vb (memB t x)])) := by
 have hx1 := idxT_in x (cutK t)
 have hcl := cut_len t
 refine con_of Tryz.func122 rfl (Nat.le_of_ble_eq_true rfl) stab (fun w0 fz a hI hs => ?_)
 rcases bt (decide ((idxT x (cutK t)) ≥ 0)) with b1 | b1
 ·skip
  have n1 := of_decide_eq_true b1
  refine wL hs hI [(1, ⟨[(1, ciA 173 [.agg (encTree t)] [] [] (.val (.tup [.row .str (cutK t), .row .tree (cutV t)])))], [], []⟩), (2, ⟨[(2, ciA 171 [.row .str (cutK t), vs x] [] [] (.val (vi (idxT x (cutK t)))))], [], []⟩)] [true] [4, 5] [1001] ((tr 3 True) ∧ ((True ∧ (okArgs [.agg (encTree t)]) ∧ (tr 5 True)) ∧ (True ∧ True ∧ (okArgs [.row .str (cutK t), vs x]) ∧ True ∧ True) ∧ (True ∧ True ∧ True) ∧ (ty b1) ∧ (True ∧ True ∧ (0 ≤ (idxT x (cutK t)) ∧ (idxT x (cutK t)) < (cutV t).length) ∧ (tr 3 True)) ∧ True)) .ret [(4, .ptr 1001 0), (5, vb true)] [(1001, .var (encTree ((cutV t).getD ((idxT x (cutK t)).toNat) (dflt .tree))))] ⟨⟨⟨ent173, con173 _⟩, tv⟩, ⟨⟨⟨ent171, con171 _ _ hx⟩, tv⟩, tv⟩⟩ (by kernel_rfl) ⟨tr_mk tv 3, ⟨tv, rfl, tr_mk tv 5⟩, ⟨tv, tv, rfl, tv, tv⟩, ⟨tv, tv, tv⟩, b1, ⟨tv, tv, (by omega), tr_mk tv 3⟩, tv⟩ (fun a w hs => ?_)
  exact FnQ_cast (out := .val (.tup [.agg (encTree ((cutV t).getD ((idxT x (cutK t)).toNat) (dflt .tree))), vb true])) (by have h := memV_pos (by assumption); rw [h.1, h.2]) (ret_ok [] hs ⟨by kernel_rfl, rfl⟩)
 ·skip
  have n1 := of_decide_eq_false b1
  refine wL hs hI [(1, ⟨[(1, ciA 173 [.agg (encTree t)] [] [] (.val (.tup [.row .str (cutK t), .row .tree (cutV t)])))], [], []⟩), (2, ⟨[(2, ciA 171 [.row .str (cutK t), vs x] [] [] (.val (vi (idxT x (cutK t)))))], [], []⟩)] [false] [4, 5] [1001] ((tr 3 True) ∧ ((True ∧ (okArgs [.agg (encTree t)]) ∧ (tr 5 True)) ∧ ((True ∧ True ∧ (okArgs [.row .str (cutK t), vs x]) ∧ True ∧ True) ∧ (True ∧ True ∧ True) ∧ (ty b1) ∧ True) ∧ (tr 3 True) ∧ True)) .ret [(4, .ptr 1001 0), (5, vb false)] [(1001, .var [vi 0, vb false, vb false, nilv, vi 0, vs (ba []), nilv, nilv])] ⟨⟨⟨ent173, con173 _⟩, tv⟩, ⟨⟨⟨ent171, con171 _ _ hx⟩, tv⟩, tv⟩⟩ (by kernel_rfl) ⟨tr_mk tv 3, ⟨tv, rfl, tr_mk tv 5⟩, ⟨⟨tv, tv, rfl, tv, tv⟩, ⟨tv, tv, tv⟩, b1, tv⟩, tr_mk tv 3, tv⟩ (fun a w hs => ?_)
  exact FnQ_cast (out := .val (.tup [.agg [vi 0, vb false, vb false, .row (.int .u32) ([]), vi 0, vs (ba []), .row .str ([]), .row .tree ([])], vb false])) (by have h := memV_neg (by assumption); rw [h.1, h.2]; rfl) (ret_ok [] hs ⟨by kernel_rfl, rfl⟩)
def getF : List ByteArray → Tree → Tree × Bool
 | [], t => (t, true)
 | n :: p, t => if memB t n = true then getF p (memV t n) else (Tree.zero, false)
theorem getF_yes {p : List ByteArray} {i : Nat} {u : Tree} (h : i < p.length) (hb : memB u (p.getD i (dflt .str)) = true) : getF (p.drop i) u = getF (p.drop (i + 1)) (memV u (p.getD i (dflt .str))) := by
 rw [List.drop_eq_getElem_cons h, getF]
 have e : p.getD i (dflt .str) = p[i] := by rw [List.getD_eq_getElem?_getD, List.getElem?_eq_getElem h]; rfl
 rw [e] at hb ⊢
 rw [if_pos hb]
theorem getF_no {p : List ByteArray} {i : Nat} {u : Tree} (h : i < p.length) (hb : memB u (p.getD i (dflt .str)) = false) : getF (p.drop i) u = (Tree.zero, false) := by
 rw [List.drop_eq_getElem_cons h, getF]
 have e : p.getD i (dflt .str) = p[i] := by rw [List.getD_eq_getElem?_getD, List.getElem?_eq_getElem h]; rfl
 rw [e] at hb
 rw [if_neg (by rw [hb]; decide)]
theorem cutK_nodes (t : Tree) : (cutK t).length ≤ nodes t := by
 have h1 := nodes_eq t
 have h2 := nodesL_len t.v
 rw [cut_len]
 unfold cutV
 split
 ·rw [List.length_take]; omega
 ·simp
theorem nodesL_mem : ∀ {l : List Tree} {x : Tree}, x ∈ l → nodes x ≤ nodesL l
 | [], _, h => by simp at h
 | t :: l, x, h => by
  simp only [nodesL]
  rcases List.mem_cons.1 h with rfl | h
  ·omega
  ·have := nodesL_mem h; omega
theorem cutV_sub {t y : Tree} (h : y ∈ cutV t) : y ∈ t.v := by
 unfold cutV at h
 split at h
 ·exact List.mem_of_mem_take h
 ·simp at h
theorem memV_nodes {t : Tree} {x : ByteArray} (h : memB t x = true) : nodes (memV t x) ≤ nodes t := by
 have h0 : idxT x (cutK t) ≥ 0 := of_decide_eq_true h
 have h1 := idxT_in x (cutK t)
 have h2 := cut_len t
 rw [(memV_pos h0).1]
 have h3 : (idxT x (cutK t)).toNat < (cutV t).length := by omega
 have hm : (cutV t).getD (idxT x (cutK t)).toNat (dflt .tree) ∈ t.v := by
  refine cutV_sub ?_
  rw [List.getD_eq_getElem?_getD, List.getElem?_eq_getElem h3]
  exact List.getElem_mem h3
 have := nodesL_mem hm
 have := nodes_eq t
 omega
theorem con75 (t : Tree) (q : List ByteArray) (hn : nodes t < 4611686018427387904) (hp : q.length < 4611686018427387904) : Con Tryz.prog I0 75 [.agg (encTree t), .row .str q] (.val (.tup [.agg (encTree ((getF q t).1)), vb ((getF q t).2)])) := by
 refine con_of Tryz.func75 rfl (Nat.le_of_ble_eq_true rfl) stab (fun w0 fz a hI hs => ?_)
 refine wp_seq ?_
 refine wN hs hI [] [1, 2, 4] [1000, 1001] (tr 3 True) .norm [(1, .row .str q), (2, .ptr 1000 0), (4, .ptr 1001 0)] [(1000, .var (encTree t)), (1001, .var [vi 0, vb false, vb false, nilv, vi 0, vs (ba []), nilv, nilv])] (by kernel_rfl) (tr_mk tv 3) (fun a w hs => ?_)
 refine then_norm ?_
 refine wp_seq ?_
 refine wp_seq ?_
 refine wN hs hI [] [2, 4, 10, 11, 12] [1000, 1001] (tr 3 True) .norm [(2, .ptr 1000 0), (4, .ptr 1001 0), (10, .row .str q), (11, vi (q.length : Int)), (12, vi 0)] [(1000, .var (encTree t)), (1001, .var [vi 0, vb false, vb false, nilv, vi 0, vs (ba []), nilv, nilv])] (by kernel_rfl) (tr_mk tv 3) (fun a w hs => ?_)
 refine then_norm ?_
 refine wp_block ?_
 refine loop_L (N := Tryz.f75.ntmps) (w0 := w0) (ow := noO fz) (α := Nat × Tree) (fun p => [(2, .ptr 90000003 0), (4, .ptr 1001 0), (10, .row .str q), (11, vi (q.length : Int)), (12, vi ((p.1 : Nat) : Int))]) (fun p => [(1001, .var [vi 0, vb false, vb false, nilv, vi 0, vs (ba []), nilv, nilv]), (90000003, .var (encTree p.2))]) (fun p => p.1 ≤ q.length ∧ getF (q.drop p.1) p.2 = getF q t ∧ nodes p.2 ≤ nodes t) (fun p => q.length - p.1) (0, t) ?_ ?_ ?_
 ·exact ⟨Nat.zero_le _, rfl, Nat.le_refl _⟩
 ·(have e0_ : (0) = (((0 : Nat) : Int)) := (by first | rfl | (rfl)); exact (hs.cst [(2, .ptr 1000 0), (4, .ptr 1001 0), (10, .row .str q), (11, vi (q.length : Int)), (12, vi ((0 : Nat) : Int))] [(1000, .var (encTree t)), (1001, .var [vi 0, vb false, vb false, nilv, vi 0, vs (ba []), nilv, nilv])] (by first | rfl | (rw [e0_]; done) | (simp only [e0_]; done) | (simp only [e0_]; rfl))).rm [(1001, 1001), (90000003, 1000)] (by kernel_rfl))
 rintro ⟨i, u⟩ hJ a w hs
 try dsimp only at hJ
 obtain ⟨hi, hg, hu⟩ := hJ
 rcases bt (decide ((i : Int) < (q.length : Int))) with b1 | b1
 ·skip
  have n1 := of_decide_eq_true b1
  rcases bt (memB u (q.getD i (dflt .str))) with b2 | b2
  ·skip
   refine wL hs hI [(4, ⟨[(2, ciA 122 [.agg (encTree u), vs (q.getD i (dflt .str))] [] [] (.val (.tup [.agg (encTree (memV u (q.getD i (dflt .str)))), vb (memB u (q.getD i (dflt .str)))])))], [], []⟩)] [true, false] [2, 4, 10, 11, 12] [1001, 90000003] ((True ∧ True) ∧ (((ty b1) ∧ True) ∧ (((0 ≤ (i : Int) ∧ (i : Int) < q.length) ∧ True ∧ True ∧ True) ∧ (True ∧ True ∧ (okArgs [.agg (encTree u), vs (q.getD i (dflt .str))]) ∧ (tr 6 True)) ∧ ((True ∧ True ∧ True) ∧ (ty (ng1 b2)) ∧ True) ∧ True ∧ True ∧ True) ∧ (InR .i64 ((i : Int) + 1)) ∧ True ∧ True)) .norm [(2, .ptr 90000003 0), (4, .ptr 1001 0), (10, .row .str q), (11, vi (q.length : Int)), (12, vi ((i : Int) + 1))] [(1001, .var [vi 0, vb false, vb false, nilv, vi 0, vs (ba []), nilv, nilv]), (90000003, .var (encTree (memV u (q.getD i (dflt .str)))))] ⟨⟨⟨ent122, con122 _ _ (by have := cutK_nodes u; omega)⟩, tv⟩, tv⟩ (by kernel_rfl) ⟨⟨tv, tv⟩, ⟨b1, tv⟩, ⟨⟨(by omega), tv, tv, tv⟩, ⟨tv, tv, rfl, tr_mk tv 6⟩, ⟨⟨tv, tv, tv⟩, (ng1 b2), tv⟩, tv, tv, tv⟩, (inR64 (by omega) (by omega)), tv, tv⟩ (fun a w hs => ?_)
   refine then_norm ⟨(i + 1, memV u (q.getD i (dflt .str))), ⟨by omega, by rw [← getF_yes (by omega) b2]; exact hg, Nat.le_trans (memV_nodes b2) hu⟩, by omega, ?_⟩
   (have e0_ : ((i : Int) + 1) = ((((i + 1) : Nat) : Int)) := (by first | rfl | (omega)); exact (hs.cst [(2, .ptr 90000003 0), (4, .ptr 1001 0), (10, .row .str q), (11, vi (q.length : Int)), (12, vi (((i + 1) : Nat) : Int))] [(1001, .var [vi 0, vb false, vb false, nilv, vi 0, vs (ba []), nilv, nilv]), (90000003, .var (encTree (memV u (q.getD i (dflt .str)))))] (by first | rfl | (rw [e0_]; done) | (simp only [e0_]; done) | (simp only [e0_]; rfl))).rm [(1001, 1001), (90000003, 90000003)] (by kernel_rfl))
  ·skip
   refine wL hs hI [(4, ⟨[(2, ciA 122 [.agg (encTree u), vs (q.getD i (dflt .str))] [] [] (.val (.tup [.agg (encTree (memV u (q.getD i (dflt .str)))), vb (memB u (q.getD i (dflt .str)))])))], [], []⟩)] [true, true] [4, 5] [1001] ((True ∧ True) ∧ (((ty b1) ∧ True) ∧ ((0 ≤ (i : Int) ∧ (i : Int) < q.length) ∧ True ∧ True ∧ True) ∧ (True ∧ True ∧ (okArgs [.agg (encTree u), vs (q.getD i (dflt .str))]) ∧ (tr 6 True)) ∧ (True ∧ True ∧ True) ∧ (ty (ng0 b2)) ∧ (tr 3 True) ∧ True)) .ret [(4, .ptr 1001 0), (5, vb false)] [(1001, .var [vi 0, vb false, vb false, nilv, vi 0, vs (ba []), nilv, nilv])] ⟨⟨⟨ent122, con122 _ _ (by have := cutK_nodes u; omega)⟩, tv⟩, tv⟩ (by kernel_rfl) ⟨⟨tv, tv⟩, ⟨b1, tv⟩, ⟨(by omega), tv, tv, tv⟩, ⟨tv, tv, rfl, tr_mk tv 6⟩, ⟨tv, tv, tv⟩, (ng0 b2), tr_mk tv 3, tv⟩ (fun a w hs => ?_)
   refine then_ret ?_
   refine inb_ret ?_
   refine then_ret ?_
   exact FnQ_cast (out := .val (.tup [.agg [vi 0, vb false, vb false, .row (.int .u32) ([]), vi 0, vs (ba []), .row .str ([]), .row .tree ([])], vb false])) (by rw [← hg, getF_no (by omega) b2]; rfl) (ret_ok [] hs ⟨by kernel_rfl, rfl⟩)
 ·skip
  have n1 := of_decide_eq_false b1
  refine wN hs hI [false] [2, 4] [1001, 90000003] ((True ∧ True) ∧ ((ty b1) ∧ True)) (.exit 0) [(2, .ptr 90000003 0), (4, .ptr 1001 0)] [(1001, .var [vi 0, vb false, vb false, nilv, vi 0, vs (ba []), nilv, nilv]), (90000003, .var (encTree u))] (by kernel_rfl) ⟨⟨tv, tv⟩, b1, tv⟩ (fun a w hs => ?_)
  refine then_exit ?_
  refine inb_hit ?_
  refine then_norm ?_
  refine wN hs hI [] [4, 5] [1001] ((tr 3 True) ∧ True) .ret [(4, .ptr 1001 0), (5, vb true)] [(1001, .var (encTree u))] (by kernel_rfl) ⟨tr_mk tv 3, tv⟩ (fun a w hs => ?_)
  exact FnQ_cast (out := .val (.tup [.agg (encTree u), vb true])) (by rw [← hg, List.drop_of_length_le (by omega)]; rfl) (ret_ok [] hs ⟨by kernel_rfl, rfl⟩)
theorem eqT_iff {a b : ByteArray} : eqT a b = true ↔ a = b := by
 unfold eqT
 rw [beq_iff_eq]
 refine ⟨fun h => ?_, fun h => by rw [h]⟩
 rw [Lib.toList_data, Lib.toList_data] at h
 obtain ⟨⟨a⟩⟩ := a
 obtain ⟨⟨b⟩⟩ := b
 simp at h
 rw [h]
theorem eqT_ne {a b : ByteArray} : eqT a b = false ↔ a ≠ b := by
 cases h : eqT a b with
 | true => simp [eqT_iff.1 h]
 | false => simp only [true_iff]; intro e; rw [eqT_iff.2 e] at h; cases h
theorem eqT_self (a : ByteArray) : eqT a a = true := eqT_iff.2 rfl
abbrev Mem := List (ByteArray × Tree)
def lookA (x : ByteArray) : Mem → Option Tree
 | [] => none
 | (y, v) :: l => if eqT x y = true then some v else lookA x l
def gtB (a b : ByteArray) : Bool := !(Op.bytesLess a.toList b.toList || a.toList == b.toList)
def putA (x : ByteArray) (v : Tree) : Mem → Mem
 | [] => [(x, v)]
 | (y, u) :: l => if gtB y x = true then (x, v) :: (y, u) :: l else (y, u) :: putA x v l
def repA (x : ByteArray) (v : Tree) : Mem → Mem
 | [] => []
 | (y, u) :: l => if eqT x y = true then (y, v) :: l else (y, u) :: repA x v l
def insA (x : ByteArray) (v : Tree) (l : Mem) : Mem := if (lookA x l).isSome then repA x v l else putA x v l
def delA (x : ByteArray) : Mem → Mem
 | [] => []
 | (y, u) :: l => if eqT x y = true then l else (y, u) :: delA x l
theorem look_put {x y : ByteArray} {v : Tree} : ∀ {l : Mem}, lookA x l = none → lookA y (putA x v l) = if eqT y x = true then some v else lookA y l
 | [], _ => by simp [putA, lookA]
 | (z, u) :: l, h => by
  simp only [lookA] at h
  split at h
  ·cases h
  ·rename_i hz
   simp only [putA]
   split
   ·simp only [lookA]
   ·simp only [lookA]
    rw [look_put h]
    by_cases h1 : eqT y z = true
    ·simp only [h1, if_true]
     have : ¬ eqT y x = true := by rw [eqT_iff] at h1 hz ⊢; subst h1; exact fun e => hz e.symm
     simp [this]
    ·simp [h1]
theorem look_rep {x y : ByteArray} {v : Tree} : ∀ {l : Mem}, (lookA x l).isSome = true → lookA y (repA x v l) = if eqT y x = true then some v else lookA y l
 | [], h => by simp [lookA] at h
 | (z, u) :: l, h => by
  simp only [repA]
  by_cases hz : eqT x z = true
  ·simp only [hz, if_true, lookA]
   rw [eqT_iff] at hz; subst hz
   split <;> simp_all
  ·simp only [lookA, hz] at h
   simp only [hz, lookA]
   have ih := look_rep (y := y) (v := v) (l := l) (by simpa using h)
   by_cases h1 : eqT y z = true
   ·have : ¬ eqT y x = true := by rw [eqT_iff] at h1 hz ⊢; subst h1; exact fun e => hz e.symm
    simp [lookA, h1, this]
   ·simp [lookA, h1, ih]
theorem look_ins (x y : ByteArray) (v : Tree) (l : Mem) : lookA y (insA x v l) = if eqT y x = true then some v else lookA y l := by
 unfold insA
 split
 ·rename_i h; exact look_rep h
 ·rename_i h; exact look_put (by simpa using h)
theorem look_del_ne {x y : ByteArray} (hne : eqT y x = false) : ∀ {l : Mem}, lookA y (delA x l) = lookA y l
 | [] => rfl
 | (z, u) :: l => by
  simp only [delA]
  split
  ·rename_i h
   rw [eqT_iff] at h; subst h
   simp [lookA, hne]
  ·simp only [lookA, look_del_ne hne]
def Nodup (l : Mem) : Prop := (l.map (·.1)).Nodup
theorem look_notin {x : ByteArray} : ∀ {l : Mem}, x ∉ l.map (·.1) → lookA x l = none
 | [], _ => rfl
 | (y, u) :: l, h => by
  simp only [List.map_cons, List.mem_cons, not_or] at h
  simp only [lookA]
  rw [if_neg (by rw [eqT_iff]; exact h.1), look_notin h.2]
theorem look_del_self {x : ByteArray} : ∀ {l : Mem}, Nodup l → lookA x (delA x l) = none
 | [], _ => rfl
 | (y, u) :: l, h => by
  unfold Nodup at h
  simp only [List.map_cons, List.nodup_cons] at h
  simp only [delA]
  split
  ·rename_i e
   rw [eqT_iff] at e; subst e
   exact look_notin h.1
  ·rename_i e
   simp only [lookA, e]
   exact look_del_self h.2
def mems (t : Tree) : Mem := (cutK t).zip (cutV t)
theorem mems_k (t : Tree) : (mems t).map (·.1) = cutK t := by
 unfold mems
 rw [List.map_fst_zip (Nat.le_of_eq (cut_len t))]
theorem mems_v (t : Tree) : (mems t).map (·.2) = cutV t := by
 unfold mems
 rw [List.map_snd_zip (Nat.le_of_eq (cut_len t).symm)]
def objM (l : Mem) : Tree := .mk 7 false ⟨false, [], 0⟩ (ba []) (l.map (·.1)) (l.map (·.2))
theorem mems_objM (l : Mem) : mems (objM l) = l := by
 unfold mems cutK cutV objM
 simp only [Tree.kind, Tree.k, Tree.v, if_true, List.length_map, Nat.min_self]
 rw [List.take_of_length_le (by simp), List.take_of_length_le (by simp)]
 induction l with
 | nil => rfl
 | cons p l ih => simp [List.zip_cons_cons, ih]
theorem idxT_look (x : ByteArray) : ∀ l : Mem, (idxT x (l.map (·.1)) ≥ 0 ↔ (lookA x l).isSome = true) ∧ (idxT x (l.map (·.1)) ≥ 0 → lookA x l = some ((l.map (·.2)).getD (idxT x (l.map (·.1))).toNat (dflt .tree)))
 | [] => by simp [idxT, lookA]
 | (y, v) :: l => by
  obtain ⟨h1, h2⟩ := idxT_look x l
  simp only [List.map_cons, idxT, lookA]
  by_cases h : eqT x y = true
  ·simp [h]
  ·simp only [h]
   by_cases h0 : idxT x (l.map (·.1)) < 0
   ·have hn : ¬ (lookA x l).isSome = true := fun hh => by have := h1.2 hh; omega
    simp only [h0, if_true, Bool.false_eq_true, if_false]
    exact ⟨⟨fun hh => by omega, fun hh => absurd hh hn⟩, fun hh => by omega⟩
   ·have hp : idxT x (l.map (·.1)) ≥ 0 := by omega
    simp only [h0, if_false, Bool.false_eq_true]
    refine ⟨⟨fun _ => h1.1 hp, fun _ => by omega⟩, fun _ => ?_⟩
    rw [h2 hp, show (idxT x (l.map (·.1)) + 1).toNat = (idxT x (l.map (·.1))).toNat + 1 by omega, List.getD_cons_succ]
theorem memB_look (t : Tree) (x : ByteArray) : memB t x = (lookA x (mems t)).isSome := by
 have h := (idxT_look x (mems t)).1
 rw [mems_k] at h
 unfold memB memI
 rw [Bool.eq_iff_iff, decide_eq_true_iff]; exact h
theorem memV_look (t : Tree) (x : ByteArray) : memV t x = (lookA x (mems t)).getD Tree.zero := by
 have h := idxT_look x (mems t)
 rw [mems_k, mems_v] at h
 unfold memV memI
 by_cases h0 : idxT x (cutK t) ≥ 0
 ·rw [if_pos h0, h.2 h0]; rfl
 ·rw [if_neg h0]
  have hn : lookA x (mems t) = none := by
   cases hl : lookA x (mems t) with
   | none => rfl
   | some v => exact absurd (h.1.2 (by rw [hl]; rfl)) h0
  rw [hn]; rfl
def setT (t : Tree) (x : ByteArray) (v : Tree) : Tree := objM (insA x v (mems t))
def unsetT (t : Tree) (x : ByteArray) : Tree := if memB t x = true then objM (delA x (mems t)) else t
theorem look_setT (t : Tree) (x y : ByteArray) (v : Tree) : lookA y (mems (setT t x v)) = if eqT y x = true then some v else lookA y (mems t) := by
 unfold setT; rw [mems_objM, look_ins]
theorem look_unsetT_ne {t : Tree} {x y : ByteArray} (h : eqT y x = false) : lookA y (mems (unsetT t x)) = lookA y (mems t) := by
 unfold unsetT
 split
 ·rw [mems_objM, look_del_ne h]
 ·rfl
theorem look_unsetT_self {t : Tree} {x : ByteArray} (h : Nodup (mems t)) : lookA x (mems (unsetT t x)) = none := by
 unfold unsetT
 split
 ·rw [mems_objM, look_del_self h]
 ·rename_i hb
  rw [memB_look] at hb
  simpa using hb
def insL {α : Type} (xs : List α) (i : Nat) (x : α) : List α := xs.take i ++ x :: xs.drop i
theorem insL_end {α : Type} (xs : List α) (x : α) : xs ++ [x] = insL xs xs.length x := by simp [insL]
theorem insL_mid {α : Type} (xs : List α) (x d : α) (i m j : Nat) (hi : i < xs.length) (hm : m = xs.length + 1 - i) (hj : j = i + 1) :
  ((xs.take i ++ List.replicate m d).take i ++ ([x].take ((xs.take i ++ List.replicate m d).length - i) ++ (xs.take i ++ List.replicate m d).drop (i + [x].length))).take j ++
   ((xs.drop i).take (((xs.take i ++ List.replicate m d).take i ++ ([x].take ((xs.take i ++ List.replicate m d).length - i) ++ (xs.take i ++ List.replicate m d).drop (i + [x].length))).length - j) ++
    ((xs.take i ++ List.replicate m d).take i ++ ([x].take ((xs.take i ++ List.replicate m d).length - i) ++ (xs.take i ++ List.replicate m d).drop (i + [x].length))).drop (j + (xs.drop i).length)) = insL xs i x := by
 subst hj
 have h1 : (xs.take i).length = i := by rw [List.length_take]; omega
 generalize hA : xs.take i ++ List.replicate m d = A
 have h2 : A.length = xs.length + 1 := by rw [← hA, List.length_append, h1, List.length_replicate]; omega
 have h3 : A.take i = xs.take i := by rw [← hA, List.take_append_of_le_length (by omega), List.take_of_length_le (by omega)]
 have h4 : [x].take (A.length - i) = [x] := List.take_of_length_le (by simp; omega)
 rw [h3, h4]
 generalize hB : xs.take i ++ ([x] ++ A.drop (i + [x].length)) = B
 have h5 : B.length = xs.length + 1 := by rw [← hB]; simp only [List.length_append, h1, List.length_drop, h2, List.length_singleton]; omega
 have h6 : B.take (i + 1) = xs.take i ++ [x] := by
  rw [← hB, ← List.append_assoc]
  exact List.take_left' (by rw [List.length_append, h1]; rfl)
 rw [h6, h5, List.take_of_length_le (l := xs.drop i) (by rw [List.length_drop]; omega), List.drop_of_length_le (l := B) (by rw [h5, List.length_drop]; omega)]
 simp [insL]
theorem con_ins_str (xs : List (El .str)) (i : Nat) (x : El .str) (hi : i ≤ xs.length) (hl : xs.length < 1000000000) : Con Tryz.prog I0 189 [.rowc .str xs xs.length, vi (i : Int), .row .str ([x])] (.own 9 .str (insL xs i x)) := by
 refine con_of Tryz.func189 rfl (Nat.le_of_ble_eq_true rfl) stab (fun w0 fz a hI hs => ?_)
 rcases bt ((i : Int) == (xs.length : Int)) with b1 | b1
 ·skip
  have n1 := eq_of_beq b1
  refine wN hs hI [false, true] [6] [8002] ((True ∧ True) ∧ ((True ∧ True ∧ (0 ≤ (i : Int) ∧ (i : Int) ≤ xs.length) ∧ True) ∧ (tr 3 True) ∧ ((True ∧ True ∧ True) ∧ (false = false) ∧ True) ∧ (tr 3 True) ∧ (tr 3 True) ∧ (ty b1) ∧ (True ∧ True ∧ (xs.length < xs.length + 1 ∧ ((xs.length + 1) * 16 : Nat) ≤ 140737488355328 ∧ xs.length + 1 ≤ 140737488355328) ∧ True ∧ True) ∧ True)) .ret [(6, .own 8002)] [(8002, .sl 9 .str (xs ++ ([x])))] (by kernel_rfl) ⟨⟨tv, tv⟩, ⟨tv, tv, (by skip; (repeat' apply And.intro) <;> (try simp only [List.length_append, List.length_take, List.length_replicate, List.length_drop, List.length_cons, List.length_nil]) <;> omega), tv⟩, tr_mk tv 3, ⟨⟨tv, tv, tv⟩, rfl, tv⟩, tr_mk tv 3, tr_mk tv 3, b1, ⟨tv, tv, (by skip; (repeat' apply And.intro) <;> (try simp only [List.length_append, List.length_take, List.length_replicate, List.length_drop, List.length_cons, List.length_nil]) <;> omega), tv, tv⟩, tv⟩ (fun a w hs => ?_)
  exact FnQ_cast (out := .own 9 .str (xs ++ ([x]))) (by obtain rfl : i = xs.length := (by omega); rw [insL_end]) (ret_ok [] hs (.inl ⟨8002, by kernel_rfl, rfl⟩))
 ·skip
  have n1 := beq_eq_false_iff_ne.1 b1
  have b2 : (decide (((xs.length : Int) + 1) > (xs.length : Int))) = true := by exact decide_eq_true (by omega)
  refine wN hs hI [false, false, true] [6] [10008] ((True ∧ True) ∧ ((True ∧ True ∧ (0 ≤ (i : Int) ∧ (i : Int) ≤ xs.length) ∧ True) ∧ (tr 3 True) ∧ ((True ∧ True ∧ True) ∧ (false = false) ∧ True) ∧ (tr 3 True) ∧ ((tr 3 True) ∧ (ty b1) ∧ True) ∧ (True ∧ True ∧ (InR .i64 ((xs.length : Int) + 1)) ∧ (tr 3 True)) ∧ (ty b2) ∧ (True ∧ True ∧ (0 ≤ (i : Int) ∧ (i : Int) ≤ xs.length) ∧ True ∧ True ∧ (InR .i64 ((xs.length : Int) + 1)) ∧ True ∧ (InR .i64 (((xs.length : Int) + 1) - (i : Int))) ∧ (0 < (((xs.length : Int) + 1) - (i : Int)) ∧ xs.length < (xs.take i).length + ((((xs.length : Int) + 1) - (i : Int)).toNat) ∧ (((xs.take i).length + ((((xs.length : Int) + 1) - (i : Int)).toNat)) * 16 : Nat) ≤ 140737488355328 ∧ (xs.take i).length + ((((xs.length : Int) + 1) - (i : Int)).toNat) ≤ 140737488355328) ∧ True ∧ True) ∧ (True ∧ True ∧ (0 ≤ (i : Int) ∧ (i : Int) < ((xs.take i) ++ List.replicate (((xs.length : Int) + 1) - (i : Int)).toNat (dflt .str)).length) ∧ True ∧ (i < ((xs.take i) ++ List.replicate (((xs.length : Int) + 1) - (i : Int)).toNat (dflt .str)).length ∧ 0 < ([x] : List (El .str)).length) ∧ True) ∧ (tr 3 ((InR .i64 ((i : Int) + 1)) ∧ (0 ≤ ((i : Int) + 1) ∧ ((i : Int) + 1) < (((xs.take i) ++ List.replicate (((xs.length : Int) + 1) - (i : Int)).toNat (dflt .str)).take i ++ (([x] : List (El .str)).take (((xs.take i) ++ List.replicate (((xs.length : Int) + 1) - (i : Int)).toNat (dflt .str)).length - i) ++ ((xs.take i) ++ List.replicate (((xs.length : Int) + 1) - (i : Int)).toNat (dflt .str)).drop (i + ([x] : List (El .str)).length))).length) ∧ True ∧ True ∧ (0 ≤ (i : Int) ∧ (i : Int) ≤ xs.length) ∧ ((((i : Int) + 1).toNat) < (((xs.take i) ++ List.replicate (((xs.length : Int) + 1) - (i : Int)).toNat (dflt .str)).take i ++ (([x] : List (El .str)).take (((xs.take i) ++ List.replicate (((xs.length : Int) + 1) - (i : Int)).toNat (dflt .str)).length - i) ++ ((xs.take i) ++ List.replicate (((xs.length : Int) + 1) - (i : Int)).toNat (dflt .str)).drop (i + ([x] : List (El .str)).length))).length ∧ 0 < (xs.drop i).length) ∧ True)) ∧ (True ∧ True ∧ True) ∧ True)) .ret [(6, .own 10008)] [(10008, .sl 9 .str ((((xs.take i) ++ List.replicate (((xs.length : Int) + 1) - (i : Int)).toNat (dflt .str)).take i ++ (([x] : List (El .str)).take (((xs.take i) ++ List.replicate (((xs.length : Int) + 1) - (i : Int)).toNat (dflt .str)).length - i) ++ ((xs.take i) ++ List.replicate (((xs.length : Int) + 1) - (i : Int)).toNat (dflt .str)).drop (i + ([x] : List (El .str)).length))).take (((i : Int) + 1).toNat) ++ ((xs.drop i).take ((((xs.take i) ++ List.replicate (((xs.length : Int) + 1) - (i : Int)).toNat (dflt .str)).take i ++ (([x] : List (El .str)).take (((xs.take i) ++ List.replicate (((xs.length : Int) + 1) - (i : Int)).toNat (dflt .str)).length - i) ++ ((xs.take i) ++ List.replicate (((xs.length : Int) + 1) - (i : Int)).toNat (dflt .str)).drop (i + ([x] : List (El .str)).length))).length - (((i : Int) + 1).toNat)) ++ (((xs.take i) ++ List.replicate (((xs.length : Int) + 1) - (i : Int)).toNat (dflt .str)).take i ++ (([x] : List (El .str)).take (((xs.take i) ++ List.replicate (((xs.length : Int) + 1) - (i : Int)).toNat (dflt .str)).length - i) ++ ((xs.take i) ++ List.replicate (((xs.length : Int) + 1) - (i : Int)).toNat (dflt .str)).drop (i + ([x] : List (El .str)).length))).drop ((((i : Int) + 1).toNat) + (xs.drop i).length))))] (by kernel_rfl) ⟨⟨tv, tv⟩, ⟨tv, tv, (by skip; (repeat' apply And.intro) <;> (try simp only [List.length_append, List.length_take, List.length_replicate, List.length_drop, List.length_cons, List.length_nil]) <;> omega), tv⟩, tr_mk tv 3, ⟨⟨tv, tv, tv⟩, rfl, tv⟩, tr_mk tv 3, ⟨tr_mk tv 3, b1, tv⟩, ⟨tv, tv, (by exact inR64 (by omega) (by omega)), tr_mk tv 3⟩, b2, ⟨tv, tv, (by skip; (repeat' apply And.intro) <;> (try simp only [List.length_append, List.length_take, List.length_replicate, List.length_drop, List.length_cons, List.length_nil]) <;> omega), tv, tv, (by exact inR64 (by omega) (by omega)), tv, (by exact inR64 (by omega) (by omega)), (by skip; (repeat' apply And.intro) <;> (try simp only [List.length_append, List.length_take, List.length_replicate, List.length_drop, List.length_cons, List.length_nil]) <;> omega), tv, tv⟩, ⟨tv, tv, (by skip; (repeat' apply And.intro) <;> (try simp only [List.length_append, List.length_take, List.length_replicate, List.length_drop, List.length_cons, List.length_nil]) <;> omega), tv, (by skip; (repeat' apply And.intro) <;> (try simp only [List.length_append, List.length_take, List.length_replicate, List.length_drop, List.length_cons, List.length_nil]) <;> omega), tv⟩, tr_mk (⟨(by exact inR64 (by omega) (by omega)), (by skip; (repeat' apply And.intro) <;> (try simp only [List.length_append, List.length_take, List.length_replicate, List.length_drop, List.length_cons, List.length_nil]) <;> omega), tv, tv, (by skip; (repeat' apply And.intro) <;> (try simp only [List.length_append, List.length_take, List.length_replicate, List.length_drop, List.length_cons, List.length_nil]) <;> omega), (by skip; (repeat' apply And.intro) <;> (try simp only [List.length_append, List.length_take, List.length_replicate, List.length_drop, List.length_cons, List.length_nil]) <;> omega), tv⟩) 3, ⟨tv, tv, tv⟩, tv⟩ (fun a w hs => ?_)
  exact FnQ_cast (out := .own 9 .str ((((xs.take i) ++ List.replicate (((xs.length : Int) + 1) - (i : Int)).toNat (dflt .str)).take i ++ (([x] : List (El .str)).take (((xs.take i) ++ List.replicate (((xs.length : Int) + 1) - (i : Int)).toNat (dflt .str)).length - i) ++ ((xs.take i) ++ List.replicate (((xs.length : Int) + 1) - (i : Int)).toNat (dflt .str)).drop (i + ([x] : List (El .str)).length))).take (((i : Int) + 1).toNat) ++ ((xs.drop i).take ((((xs.take i) ++ List.replicate (((xs.length : Int) + 1) - (i : Int)).toNat (dflt .str)).take i ++ (([x] : List (El .str)).take (((xs.take i) ++ List.replicate (((xs.length : Int) + 1) - (i : Int)).toNat (dflt .str)).length - i) ++ ((xs.take i) ++ List.replicate (((xs.length : Int) + 1) - (i : Int)).toNat (dflt .str)).drop (i + ([x] : List (El .str)).length))).length - (((i : Int) + 1).toNat)) ++ (((xs.take i) ++ List.replicate (((xs.length : Int) + 1) - (i : Int)).toNat (dflt .str)).take i ++ (([x] : List (El .str)).take (((xs.take i) ++ List.replicate (((xs.length : Int) + 1) - (i : Int)).toNat (dflt .str)).length - i) ++ ((xs.take i) ++ List.replicate (((xs.length : Int) + 1) - (i : Int)).toNat (dflt .str)).drop (i + ([x] : List (El .str)).length))).drop ((((i : Int) + 1).toNat) + (xs.drop i).length)))) (by rw [insL_mid xs x (dflt .str) i _ _ (by omega) (by omega) (by omega)]) (ret_ok [] hs (.inl ⟨10008, by kernel_rfl, rfl⟩))
theorem con_ins_tree (xs : List (El .tree)) (i : Nat) (x : El .tree) (hi : i ≤ xs.length) (hl : xs.length < 1000000000) : Con Tryz.prog I0 190 [.rowc .tree xs xs.length, vi (i : Int), .row .tree ([x])] (.own 29 .tree (insL xs i x)) := by
 refine con_of Tryz.func190 rfl (Nat.le_of_ble_eq_true rfl) stab (fun w0 fz a hI hs => ?_)
 rcases bt ((i : Int) == (xs.length : Int)) with b1 | b1
 ·skip
  have n1 := eq_of_beq b1
  refine wN hs hI [false, true] [6] [8002] ((True ∧ True) ∧ ((True ∧ True ∧ (0 ≤ (i : Int) ∧ (i : Int) ≤ xs.length) ∧ True) ∧ (tr 3 True) ∧ ((True ∧ True ∧ True) ∧ (false = false) ∧ True) ∧ (tr 3 True) ∧ (tr 3 True) ∧ (ty b1) ∧ (True ∧ True ∧ (xs.length < xs.length + 1 ∧ ((xs.length + 1) * 120 : Nat) ≤ 140737488355328 ∧ xs.length + 1 ≤ 140737488355328) ∧ True ∧ True) ∧ True)) .ret [(6, .own 8002)] [(8002, .sl 29 .tree (xs ++ ([x])))] (by kernel_rfl) ⟨⟨tv, tv⟩, ⟨tv, tv, (by skip; (repeat' apply And.intro) <;> (try simp only [List.length_append, List.length_take, List.length_replicate, List.length_drop, List.length_cons, List.length_nil]) <;> omega), tv⟩, tr_mk tv 3, ⟨⟨tv, tv, tv⟩, rfl, tv⟩, tr_mk tv 3, tr_mk tv 3, b1, ⟨tv, tv, (by skip; (repeat' apply And.intro) <;> (try simp only [List.length_append, List.length_take, List.length_replicate, List.length_drop, List.length_cons, List.length_nil]) <;> omega), tv, tv⟩, tv⟩ (fun a w hs => ?_)
  exact FnQ_cast (out := .own 29 .tree (xs ++ ([x]))) (by obtain rfl : i = xs.length := (by omega); rw [insL_end]) (ret_ok [] hs (.inl ⟨8002, by kernel_rfl, rfl⟩))
 ·skip
  have n1 := beq_eq_false_iff_ne.1 b1
  have b2 : (decide (((xs.length : Int) + 1) > (xs.length : Int))) = true := by exact decide_eq_true (by omega)
  refine wN hs hI [false, false, true] [6] [10008] ((True ∧ True) ∧ ((True ∧ True ∧ (0 ≤ (i : Int) ∧ (i : Int) ≤ xs.length) ∧ True) ∧ (tr 3 True) ∧ ((True ∧ True ∧ True) ∧ (false = false) ∧ True) ∧ (tr 3 True) ∧ ((tr 3 True) ∧ (ty b1) ∧ True) ∧ (True ∧ True ∧ (InR .i64 ((xs.length : Int) + 1)) ∧ (tr 3 True)) ∧ (ty b2) ∧ (True ∧ True ∧ (0 ≤ (i : Int) ∧ (i : Int) ≤ xs.length) ∧ True ∧ True ∧ (InR .i64 ((xs.length : Int) + 1)) ∧ True ∧ (InR .i64 (((xs.length : Int) + 1) - (i : Int))) ∧ (0 < (((xs.length : Int) + 1) - (i : Int)) ∧ xs.length < (xs.take i).length + ((((xs.length : Int) + 1) - (i : Int)).toNat) ∧ (((xs.take i).length + ((((xs.length : Int) + 1) - (i : Int)).toNat)) * 120 : Nat) ≤ 140737488355328 ∧ (xs.take i).length + ((((xs.length : Int) + 1) - (i : Int)).toNat) ≤ 140737488355328) ∧ True ∧ True) ∧ (True ∧ True ∧ (0 ≤ (i : Int) ∧ (i : Int) < ((xs.take i) ++ List.replicate (((xs.length : Int) + 1) - (i : Int)).toNat (dflt .tree)).length) ∧ True ∧ (i < ((xs.take i) ++ List.replicate (((xs.length : Int) + 1) - (i : Int)).toNat (dflt .tree)).length ∧ 0 < ([x] : List (El .tree)).length) ∧ True) ∧ (tr 3 ((InR .i64 ((i : Int) + 1)) ∧ (0 ≤ ((i : Int) + 1) ∧ ((i : Int) + 1) < (((xs.take i) ++ List.replicate (((xs.length : Int) + 1) - (i : Int)).toNat (dflt .tree)).take i ++ (([x] : List (El .tree)).take (((xs.take i) ++ List.replicate (((xs.length : Int) + 1) - (i : Int)).toNat (dflt .tree)).length - i) ++ ((xs.take i) ++ List.replicate (((xs.length : Int) + 1) - (i : Int)).toNat (dflt .tree)).drop (i + ([x] : List (El .tree)).length))).length) ∧ True ∧ True ∧ (0 ≤ (i : Int) ∧ (i : Int) ≤ xs.length) ∧ ((((i : Int) + 1).toNat) < (((xs.take i) ++ List.replicate (((xs.length : Int) + 1) - (i : Int)).toNat (dflt .tree)).take i ++ (([x] : List (El .tree)).take (((xs.take i) ++ List.replicate (((xs.length : Int) + 1) - (i : Int)).toNat (dflt .tree)).length - i) ++ ((xs.take i) ++ List.replicate (((xs.length : Int) + 1) - (i : Int)).toNat (dflt .tree)).drop (i + ([x] : List (El .tree)).length))).length ∧ 0 < (xs.drop i).length) ∧ True)) ∧ (True ∧ True ∧ True) ∧ True)) .ret [(6, .own 10008)] [(10008, .sl 29 .tree ((((xs.take i) ++ List.replicate (((xs.length : Int) + 1) - (i : Int)).toNat (dflt .tree)).take i ++ (([x] : List (El .tree)).take (((xs.take i) ++ List.replicate (((xs.length : Int) + 1) - (i : Int)).toNat (dflt .tree)).length - i) ++ ((xs.take i) ++ List.replicate (((xs.length : Int) + 1) - (i : Int)).toNat (dflt .tree)).drop (i + ([x] : List (El .tree)).length))).take (((i : Int) + 1).toNat) ++ ((xs.drop i).take ((((xs.take i) ++ List.replicate (((xs.length : Int) + 1) - (i : Int)).toNat (dflt .tree)).take i ++ (([x] : List (El .tree)).take (((xs.take i) ++ List.replicate (((xs.length : Int) + 1) - (i : Int)).toNat (dflt .tree)).length - i) ++ ((xs.take i) ++ List.replicate (((xs.length : Int) + 1) - (i : Int)).toNat (dflt .tree)).drop (i + ([x] : List (El .tree)).length))).length - (((i : Int) + 1).toNat)) ++ (((xs.take i) ++ List.replicate (((xs.length : Int) + 1) - (i : Int)).toNat (dflt .tree)).take i ++ (([x] : List (El .tree)).take (((xs.take i) ++ List.replicate (((xs.length : Int) + 1) - (i : Int)).toNat (dflt .tree)).length - i) ++ ((xs.take i) ++ List.replicate (((xs.length : Int) + 1) - (i : Int)).toNat (dflt .tree)).drop (i + ([x] : List (El .tree)).length))).drop ((((i : Int) + 1).toNat) + (xs.drop i).length))))] (by kernel_rfl) ⟨⟨tv, tv⟩, ⟨tv, tv, (by skip; (repeat' apply And.intro) <;> (try simp only [List.length_append, List.length_take, List.length_replicate, List.length_drop, List.length_cons, List.length_nil]) <;> omega), tv⟩, tr_mk tv 3, ⟨⟨tv, tv, tv⟩, rfl, tv⟩, tr_mk tv 3, ⟨tr_mk tv 3, b1, tv⟩, ⟨tv, tv, (by exact inR64 (by omega) (by omega)), tr_mk tv 3⟩, b2, ⟨tv, tv, (by skip; (repeat' apply And.intro) <;> (try simp only [List.length_append, List.length_take, List.length_replicate, List.length_drop, List.length_cons, List.length_nil]) <;> omega), tv, tv, (by exact inR64 (by omega) (by omega)), tv, (by exact inR64 (by omega) (by omega)), (by skip; (repeat' apply And.intro) <;> (try simp only [List.length_append, List.length_take, List.length_replicate, List.length_drop, List.length_cons, List.length_nil]) <;> omega), tv, tv⟩, ⟨tv, tv, (by skip; (repeat' apply And.intro) <;> (try simp only [List.length_append, List.length_take, List.length_replicate, List.length_drop, List.length_cons, List.length_nil]) <;> omega), tv, (by skip; (repeat' apply And.intro) <;> (try simp only [List.length_append, List.length_take, List.length_replicate, List.length_drop, List.length_cons, List.length_nil]) <;> omega), tv⟩, tr_mk (⟨(by exact inR64 (by omega) (by omega)), (by skip; (repeat' apply And.intro) <;> (try simp only [List.length_append, List.length_take, List.length_replicate, List.length_drop, List.length_cons, List.length_nil]) <;> omega), tv, tv, (by skip; (repeat' apply And.intro) <;> (try simp only [List.length_append, List.length_take, List.length_replicate, List.length_drop, List.length_cons, List.length_nil]) <;> omega), (by skip; (repeat' apply And.intro) <;> (try simp only [List.length_append, List.length_take, List.length_replicate, List.length_drop, List.length_cons, List.length_nil]) <;> omega), tv⟩) 3, ⟨tv, tv, tv⟩, tv⟩ (fun a w hs => ?_)
  exact FnQ_cast (out := .own 29 .tree ((((xs.take i) ++ List.replicate (((xs.length : Int) + 1) - (i : Int)).toNat (dflt .tree)).take i ++ (([x] : List (El .tree)).take (((xs.take i) ++ List.replicate (((xs.length : Int) + 1) - (i : Int)).toNat (dflt .tree)).length - i) ++ ((xs.take i) ++ List.replicate (((xs.length : Int) + 1) - (i : Int)).toNat (dflt .tree)).drop (i + ([x] : List (El .tree)).length))).take (((i : Int) + 1).toNat) ++ ((xs.drop i).take ((((xs.take i) ++ List.replicate (((xs.length : Int) + 1) - (i : Int)).toNat (dflt .tree)).take i ++ (([x] : List (El .tree)).take (((xs.take i) ++ List.replicate (((xs.length : Int) + 1) - (i : Int)).toNat (dflt .tree)).length - i) ++ ((xs.take i) ++ List.replicate (((xs.length : Int) + 1) - (i : Int)).toNat (dflt .tree)).drop (i + ([x] : List (El .tree)).length))).length - (((i : Int) + 1).toNat)) ++ (((xs.take i) ++ List.replicate (((xs.length : Int) + 1) - (i : Int)).toNat (dflt .tree)).take i ++ (([x] : List (El .tree)).take (((xs.take i) ++ List.replicate (((xs.length : Int) + 1) - (i : Int)).toNat (dflt .tree)).length - i) ++ ((xs.take i) ++ List.replicate (((xs.length : Int) + 1) - (i : Int)).toNat (dflt .tree)).drop (i + ([x] : List (El .tree)).length))).drop ((((i : Int) + 1).toNat) + (xs.drop i).length)))) (by rw [insL_mid xs x (dflt .tree) i _ _ (by omega) (by omega) (by omega)]) (ret_ok [] hs (.inl ⟨10008, by kernel_rfl, rfl⟩))
end Go.Proofs.YtondpnipoogoiaaGreatDoor.F
namespace Go.Proofs.YtondpnipoogoiaaGreatDoor.X
open Go Go.RowKit
structure Hide0 (p : Prop) : Prop where
 out : p
theorem nt_Valid : Tryz.f249.ntmps = 24 := rfl
def validAt (s : ByteArray) : Nat → Nat → Bool
 | 0, _ => true
 | b + 1, i => if i < s.size then (if (Utf8.decode s i).1 = 65533 then (if (Utf8.decode s i).2 = 1 then false else validAt s b (i + (Utf8.decode s i).2)) else validAt s b (i + (Utf8.decode s i).2)) else true
theorem validAt_end (s : ByteArray) (b i : Nat) (h : ¬ i < s.size) : validAt s b i = true := by
 cases b with
 | zero => rfl
 | succ b => simp [validAt, h]
theorem run_next_at {P : Program} (W : World) (n : Nat) (s : ByteArray) (pos : Nat) (ty : TypeId) (hi : W.heap[n]? = some (.stringIter s pos)) (h : pos < s.size) :
  (Instr.next (.pointer (some ⟨n, 0, none⟩)) true ty).run P W = .ok (.tuple #[.bool true, .int .i64 pos, .int .i32 (Utf8.decode s pos).1]) { W with heap := W.heap.setIfInBounds n (.stringIter s (pos + (Utf8.decode s pos).2)) } := by
 simp only [Instr.next, getObj, setObj, Sem.run_bind, Sem.run, hi, Result.andThen, h, if_true]
 simp [goInt]
theorem run_next_at_end {P : Program} (W : World) (n : Nat) (s : ByteArray) (pos : Nat) (ty : TypeId) (hi : W.heap[n]? = some (.stringIter s pos)) (h : ¬ pos < s.size) :
  (Instr.next (.pointer (some ⟨n, 0, none⟩)) true ty).run P W = .ok (.tuple #[.bool false]) W := by
 simp [Instr.next, getObj, Sem.run, hi, h]
theorem decodeGo_from (s : ByteArray) (pos : Nat) (h : pos < s.size) : Lib.decodeGo (s.extract pos s.size) = Utf8.decode s pos := by
 have hx : (s.extract pos s.size).data.toList = s.data.toList.drop pos := by
  rw [Lib.extract_data, List.take_of_length_le (by rw [List.length_drop, ← Lib.size_eq]; omega)]
 have hsz : (s.extract pos s.size).size ≠ 0 := by rw [Lib.size_eq, hx, List.length_drop, ← Lib.size_eq]; omega
 unfold Lib.decodeGo
 rw [if_neg hsz, ← Lib.decodeL_drop s pos, ← hx]
 rfl
def World.turned (W : World) (n : Nat) (s : ByteArray) (p : Nat) : World := { W with heap := W.heap.setIfInBounds n (.stringIter s p) }
theorem turned_at {W : World} {n : Nat} {s s0 : ByteArray} {p q : Nat} (h : W.heap[n]? = some (.stringIter s0 q)) : (World.turned W n s p).heap[n]? = some (.stringIter s p) := by
 obtain ⟨hn, _⟩ := Array.getElem?_eq_some_iff.1 h
 show (W.heap.setIfInBounds n _)[n]? = _
 simp [Array.getElem?_setIfInBounds, hn]
theorem turned_below {B : Nat} {a W : World} {n : Nat} {s : ByteArray} {p : Nat} (h : Below B a W) (hn : B ≤ n) : Below B a (World.turned W n s p) :=
 ⟨h.os, h.tape, h.output, by show _ ≤ (W.heap.setIfInBounds n _).size; rw [Array.size_setIfInBounds]; exact h.size, fun k hk => by
  show (W.heap.setIfInBounds n _)[k]? = _
  rw [Array.getElem?_setIfInBounds_ne (by omega)]
  exact h.block k hk⟩
theorem run_next_on {P : Program} (W : World) (n : Nat) (s : ByteArray) (pos : Nat) (ty : TypeId) (hi : W.heap[n]? = some (.stringIter s pos)) (h : pos < s.size) :
  (Instr.next (.pointer (some ⟨n, 0, none⟩)) true ty).run P W = .ok (.tuple #[.bool true, .int .i64 pos, .int .i32 (Utf8.decode s pos).1]) (World.turned W n s (pos + (Utf8.decode s pos).2)) := run_next_at W n s pos ty hi h
def utf_Valid.f (s : ByteArray) : Option Bool := some (validAt s s.size 0)
set_option maxHeartbeats 8000000 in
theorem utf_Valid.calls (s : ByteArray) (r : Bool) (w : World) (hL : Laid w) (h : utf_Valid.f s = some r) :
  Calls Tryz.prog 249 #[.string s] w fun e w' => e = .returned (.bool r) ∧ Below w.heap.size w w' := by
 obtain rfl := Option.some.inj h
 clear h
 replace hL := Hide0.mk hL
 go_enter Tryz.func249, nt_Valid
 go_wp2
 refine wp_scope_straight ?_
 refine wp_seq ?_
 refine wp_label ?_
 go_wp2
 go_loopw [3] (fun n w' => ∃ (pos b : Nat), w'.heap[w.heap.size]? = some (.stringIter s pos) ∧ Below w.heap.size w w' ∧ Hide0 (validAt s b pos = validAt s s.size 0) ∧ s.size ≤ pos + b) (fun _ w' => s.size - w'.iterPos w.heap.size)
 case atStart => exact ⟨0, s.size, World.iter_heap w s 0, (Below.refl _ _).alloc (Nat.le_refl _) _, ⟨rfl⟩, by omega⟩
 case round =>
  obtain ⟨pos, b, hi, hB, hc, hb⟩ := hrel
  have hHI := Hide0.mk hi
  have hHB := Hide0.mk hB
  by_cases hp : pos < s.size
  ·have hnx : ∀ ty, (Instr.next (.pointer (some ⟨w.heap.size, 0, none⟩)) true ty).run Tryz.prog wr = _ := fun ty => run_next_on wr _ s pos ty hi hp
   have hK : 1 ≤ (Utf8.decode s pos).2 := Lib.width_pos s pos
   have hG := decodeGo_from s pos hp
   have hit := Hide0.mk (turned_at (s := s) (p := pos + (Utf8.decode s pos).2) hi)
   have hBt := Hide0.mk (turned_below (s := s) (p := pos + (Utf8.decode s pos).2) hB (Nat.le_refl _))
   have hip : (World.turned wr w.heap.size s (pos + (Utf8.decode s pos).2)).iterPos w.heap.size = pos + (Utf8.decode s pos).2 := by unfold World.iterPos; rw [hit.out]
   have hip0 : wr.iterPos w.heap.size = pos := by unfold World.iterPos; rw [hi]
   rcases b with _ | b
   ·omega
   have hv : validAt s (b + 1) pos = if (Utf8.decode s pos).1 = 65533 then (if (Utf8.decode s pos).2 = 1 then false else validAt s b (pos + (Utf8.decode s pos).2)) else validAt s b (pos + (Utf8.decode s pos).2) := by rw [validAt, if_pos hp]
   clear hi hB
   generalize hRe : (Utf8.decode s pos).1 = R at *
   generalize hKe : (Utf8.decode s pos).2 = K at *
   have hRK : Utf8.decode s pos = (R, K) := by rw [← hRe, ← hKe]
   by_cases hr : R = 65533
   ·subst hr
    rw [if_pos rfl] at hv
    by_cases hk : K = 1
    ·subst hk
     rw [if_pos rfl] at hv
     go_wp2_with (go_at_fn 231; done)
     refine (Tryz.utf8_DecodeRuneInString _ _ (hL.out.below hBt.out).utf8).mono ?_
     rintro e w' ⟨rfl, hb'⟩
     rw [hG, hRK]
     have hB2 := Hide0.mk (hBt.out.trans (hb'.mono hBt.out.size))
     clear hb' hit hip
     go_wp2
     (try rw [Exit.noGoto_ret])
     go_ret
     rw [← hc.out, hv]
     exact ⟨rfl, hB2.out⟩
    ·rw [if_neg hk] at hv
     have hk' : ¬ ((K : Int) = 1) := by omega
     go_wp2_with (go_at_fn 231; done)
     refine (Tryz.utf8_DecodeRuneInString _ _ (hL.out.below hBt.out).utf8).mono ?_
     rintro e w' ⟨rfl, hb'⟩
     rw [hG, hRK]
     have hB2 := Hide0.mk (hBt.out.trans (hb'.mono hBt.out.size))
     have hlt : w.heap.size < (World.turned wr w.heap.size s (pos + K)).heap.size := (Array.getElem?_eq_some_iff.1 hit.out).1
     have hit2 := Hide0.mk ((hb'.block _ hlt).trans hit.out)
     have hip2 : w'.iterPos w.heap.size = pos + K := by unfold World.iterPos; rw [hit2.out]
     clear hb' hit hip
     go_wp2
     go_roundw
     case rel => exact ⟨pos + K, b, hit2.out, hB2.out, ⟨hv.symm.trans hc.out⟩, by omega⟩
     case measure => rw [hip2, hip0]; omega
   ·have hr' : ¬ ((R : Int) = 65533) := by omega
    rw [if_neg hr] at hv
    go_wp2
    go_roundw
    case rel => exact ⟨pos + K, b, hit.out, hBt.out, ⟨hv.symm.trans hc.out⟩, by omega⟩
    case measure => rw [hip, hip0]; omega
  ·have hnx : ∀ ty, (Instr.next (.pointer (some ⟨w.heap.size, 0, none⟩)) true ty).run Tryz.prog wr = _ := fun ty => run_next_at_end wr _ s pos ty hi hp
   clear hi hB
   go_wp2
   (try rw [Exit.noGoto_ret])
   go_ret
   rw [← hc.out, validAt_end s b pos hp]
   exact ⟨rfl, hHB.out⟩
end Go.Proofs.YtondpnipoogoiaaGreatDoor.X
