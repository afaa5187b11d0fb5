import Derived.Test.YtfimffgfnhplkaaGreatDoorS4
import Derived.IntWalk
import Derived.LoopN
import Derived.Scope
import Derived.Test.YtfimffgfnhplkaaGreatDoorS2
import Derived.Test.YtfimffgfnhplkaaGreatDoorProg
import Derived.LoopIn
import Derived.WalkMore
import Derived.Laws.RangeAny
import Derived.Lib.TrimUEq
import Derived.Lib.SplitLaws
import Derived.Lib.Join
import Derived.Sort.Walk0
import Derived.Sort.LotA
import Derived.Lib.Walk
import Derived.WalkKit
import Derived.Laws.Cover1
import Derived.Shelf.SlSortCmp.NoneTotal
import Derived.Shelf.SlGeneric
set_option maxRecDepth 100000
set_option linter.unusedVariables false
set_option linter.unusedSimpArgs false
namespace Go.Proofs.YtfimffgfnhplkaaGreatDoor.F
open Go Go.RowKit
def num : Nat → List AV → TL
 | _, [] => []
 | i, a :: l => (i, a) :: num (i + 1) l
theorem num_at : ∀ {l : List AV} {i t : Nat} {x : AV}, lkp (num i l) t = some x → i ≤ t ∧ l[t - i]? = some x
 | [], _, _, _, h => by cases h
 | a :: l, i, t, x, h => by
  simp only [num, lkp] at h
  split at h
  rename_i e; subst e; simp at h; simp [h]
  obtain ⟨h1, h2⟩ := num_at h
  refine ⟨by omega, ?_⟩
  rw [show t - i = (t - (i + 1)) + 1 by omega, List.getElem?_cons_succ]; exact h2
def FnQ (P : Program) (fn : Func) (w0 : World) (ow : Own) (out : COut) : Exit → Act → World → Prop := bodyPost P fn (fun e w' => Post w0 ow.f w' e out ∧ Below w0.heap.size w0 w')
def noO (fz : Nat → Prop) : Own := ⟨fun _ => False, fz, fun _ => none, []⟩
section
variable {P : Program} {I : World → Prop} {w0 : World} {ow : Own} {N : Nat} {T : TL} {B : BL} {a : Act} {w : World}
theorem con_of {f : FuncId} {fn : Func} {c : Code} {args : List AV} {out : COut} (hf : P.funcs[f]? = some fn) (hb : fn.body = some c) (hN : args.length ≤ fn.ntmps) (hI0 : ∀ w w', I w → Below w.heap.size w w' → I w')
  (h : ∀ (w0 : World) (fz : Nat → Prop) (a : Act), (∀ w', Fr (noO fz) w0 w' → I w') → SimL fn.ntmps w0 (noO fz) (num 0 args) [] a w0 → c.wp P (FnQ P fn w0 (noO fz) out) a w0) : Con P I f args out := by
 intro w fz vs hI hfz hR
 refine calls_of_wp hf hb (h w fz _ (fun w' hfr => hI0 w w' hI (hfr.below (fun _ h => h))) ⟨noη, ?_⟩)
 refine ⟨?_, rfl, Fr.refl _ _, fun t av ht => ?_, (fun b B h => by cases h), (fun b u k h => by cases h), (fun b b' u u' k h => by cases h), (fun b u u' h => by cases h), (fun b u h => by cases h)⟩
 ·have := hR.1; simp; omega
 ·obtain ⟨_, h1⟩ := num_at ht
  rw [Nat.sub_zero] at h1
  have hlt : t < vs.size := by have := (List.getElem?_eq_some_iff.1 h1).1; have := hR.1; omega
  refine ⟨vs[t], ?_, ?_⟩
  ·show (vs ++ Array.replicate (fn.ntmps - vs.size) undef)[t]? = some vs[t]
   rw [Array.getElem?_append_left hlt]; exact Array.getElem?_eq_getElem hlt
  ·exact (hR.2 t _ av (Array.getElem?_eq_getElem hlt) h1).step (Nat.le_refl _) (fun _ _ _ => rfl) (fun k hk _ => ⟨.inl hk, fun b u h => by cases h⟩) (fun b u _ h => h)
def frz2 (bx : Bx) (del : List Nat) : AV → AV
 | .tup l => .tup (l.map (frz bx del))
 | a => frz bx del a
def fit2 : AV → AV → AV
 | .tup l, .tup m => if l.length = m.length then .tup (List.zipWith fit l m) else .tup l
 | a, b => fit a b
theorem R_frz2 {η : Nat → Option Value} {tm : Tm} {bx : Bx} {v : Value} {x : AV} (s : Sim N w0 ow η tm bx a w) (h : R w (Fz (Amb w0 ow) η) η v x) (del : List Nat) : R w (Fz (Amb w0 ow) (dropη η del)) (dropη η del) v (frz2 bx del x) := by
 unfold frz2
 split
 obtain ⟨vs, rfl, hl, hR⟩ := h.tup_inv
 refine .tup _ _ (by simpa using hl) (fun j u y hu hy => ?_)
 rw [List.getElem?_map, Option.map_eq_some_iff] at hy
 obtain ⟨y0, hy0, rfl⟩ := hy
 exact R_frz s (hR j u y0 hu hy0) del
 exact R_frz s h del
theorem R_fit2 {fz : Nat → Prop} {η : Nat → Option Value} {v : Value} {a b : AV} (h : R w fz η v a) : R w fz η v (fit2 a b) := by
 unfold fit2
 split
 split
 rename_i l m hlm
 obtain ⟨vs, rfl, hl, hR⟩ := h.tup_inv
 refine .tup _ _ (by simp; omega) (fun j u y hu hy => ?_)
 rw [List.getElem?_zipWith] at hy
 split at hy
 rename_i x z hx hz
 simp only [Option.some.injEq] at hy
 subst hy
 exact R_fit (hR j u x hu hx)
 cases hy
 exact h
 exact R_fit h
def resOf (P : Program) (tm : Tm) (bx : Bx) : ResultVar → Option AV
 | .tmp t => tm t
 | .cell t ty => match tm t with
  | some (.ptr b off) => match bx b with
   | some (.var l) => cut P ty l off
   | _ => none
  | _ => none
def resA (P : Program) (fn : Func) (tm : Tm) (bx : Bx) : Option AV := match fn.results.toList with
 | [] => some (.tup [])
 | [r] => resOf P tm bx r
 | [r, q] => match resOf P tm bx r, resOf P tm bx q with
  | some x, some y => some (.tup [x, y])
  | _, _ => none
 | [r, q, p] => match resOf P tm bx r, resOf P tm bx q, resOf P tm bx p with
  | some x, some y, some z => some (.tup [x, y, z])
  | _, _, _ => none
 | _ => none
def resSem (tmps : Array Value) : ResultVar → Sem Value
 | .tmp t => pure (tmps.getD t undef)
 | .cell a t => do loadVar t (← asAddr (tmps.getD a undef))
theorem resOf_ok {η : Nat → Option Value} {tm : Tm} {bx : Bx} (s : Sim N w0 ow η tm bx a w) {r : ResultVar} {x : AV} (h : resOf P tm bx r = some x) :
  ∃ v, (resSem a.tmps r).run P w = .ok v w ∧ R w (Fz (Amb w0 ow) η) η v x := by
 cases r with
 | tmp t =>
  obtain ⟨v, hv, hr⟩ := s.tmp t x h
  exact ⟨v, by simp [resSem, Array.getD_eq_getD_getElem?, hv], hr⟩
 | cell t ty =>
  simp only [resOf] at h
  split at h
  ·rename_i b off ht
   split at h
   ·rename_i l hb
    obtain ⟨v, hv, hr⟩ := s.tmp t _ ht
    obtain ⟨u, hu, g, C, e, rfl, q1, q2, q3⟩ := s.dom b _ hb
    obtain ⟨g', hg, rfl⟩ := hr.ptr_inv hu
    injection hg with hg; injection hg with hg; injection hg with hg
    subst hg
    obtain ⟨v, hrun, hR⟩ := loadVar_cut (P := P) (w := w) (ad := ⟨g, 0, none⟩) (l := l) (fun j y hj => by
     have hlt : j < C.size := by have := (List.getElem?_eq_some_iff.1 hj).1; omega
     exact ⟨C[j], by rw [lit_add]; simp [World.cell?, q1, hlt], q3 j _ _ (Array.getElem?_eq_getElem hlt) hj⟩) h
    rw [lit_add] at hrun
    exact ⟨v, by simp [resSem, Array.getD_eq_getD_getElem?, hv, asAddr, hrun], hR⟩
   ·cases h
  ·cases h
theorem results_eq (fn : Func) (tmps : Array Value) : results fn tmps = (do
  let vs ← fn.results.mapM (resSem tmps)
  pure (if h : vs.size = 1 then vs[0] else .tuple vs)) := by
 unfold results
 congr 1
theorem resA_ok {η : Nat → Option Value} {tm : Tm} {bx : Bx} (s : Sim N w0 ow η tm bx a w) {fn : Func} {x : AV} (h : resA P fn tm bx = some x) : ∃ v, (results fn a.tmps).run P w = .ok v w ∧ R w (Fz (Amb w0 ow) η) η v x := by
 unfold resA at h
 have arr : ∀ l, fn.results.toList = l → fn.results = l.toArray := fun l hl => by rw [← hl]
 have one : ∀ (v : Value) (x : AV) (C : List Value) (l : List AV), R w (Fz (Amb w0 ow) η) η v x → RLl w (Fz (Amb w0 ow) η) η C l → RLl w (Fz (Amb w0 ow) η) η (v :: C) (x :: l) := fun v x C l h1 h2 => RLl_cons.2 ⟨h1, h2⟩
 have tup : ∀ (C : List Value) (l : List AV), RLl w (Fz (Amb w0 ow) η) η C l → R w (Fz (Amb w0 ow) η) η (.tuple C.toArray) (.tup l) := fun C l h => .tup _ _ (by simpa using h.1) (fun j u y hu hy => h.2 j u y (by simpa using hu) hy)
 split at h
 rename_i hl
 simp only [Option.some.injEq] at h
 subst h
 exact ⟨.tuple #[], by simp [results_eq, arr _ hl], tup [] [] RLl_nil⟩
 rename_i r hl
 obtain ⟨v, h1, h2⟩ := resOf_ok (P := P) s h
 exact ⟨v, by simp [results_eq, arr _ hl, h1], h2⟩
 rename_i r q hl
 split at h
 rename_i x y hx hy
 simp only [Option.some.injEq] at h
 subst h
 obtain ⟨v, h1, h2⟩ := resOf_ok (P := P) s hx
 obtain ⟨v', h3, h4⟩ := resOf_ok (P := P) s hy
 exact ⟨.tuple #[v, v'], by simp [results_eq, arr _ hl, h1, h3], tup [v, v'] _ (one _ _ _ _ h2 (one _ _ _ _ h4 RLl_nil))⟩
 cases h
 rename_i r q p hl
 split at h
 rename_i x y z hx hy hz
 simp only [Option.some.injEq] at h
 subst h
 obtain ⟨v, h1, h2⟩ := resOf_ok (P := P) s hx
 obtain ⟨v', h3, h4⟩ := resOf_ok (P := P) s hy
 obtain ⟨v'', h5, h6⟩ := resOf_ok (P := P) s hz
 exact ⟨.tuple #[v, v', v''], by simp [results_eq, arr _ hl, h1, h3, h5], tup [v, v', v''] _ (one _ _ _ _ h2 (one _ _ _ _ h4 (one _ _ _ _ h6 RLl_nil)))⟩
 cases h
 cases h
def retOk (P : Program) (fn : Func) (T : TL) (B : BL) (del : List Nat) : COut → Prop
 | .val r => (resA P fn (lkp T) (lkp B)).map (fun x => fit2 (frz2 (lkp B) del x) r) = some r ∧ keysA r = []
 | .own e τ xs => (∃ b, resA P fn (lkp T) (lkp B) = some (.own b) ∧ lkp B b = some (.sl e τ xs)) ∨ (resA P fn (lkp T) (lkp B) = some nilv ∧ xs = [])
 | .thr _ => False
theorem ret_ok {fn : Func} {fz : Nat → Prop} {T : TL} {B : BL} {out : COut} (del : List Nat) (hs : SimL N w0 (noO fz) T B a w) (h : retOk P fn T B del out) : FnQ P fn w0 (noO fz) out .ret a w := by
 obtain ⟨η, s⟩ := hs
 have hbel : Below w0.heap.size w0 w := s.frame.below (fun _ h => h)
 have amb : ∀ k, Amb w0 (noO fz) k → fz k ∨ w0.heap.size ≤ k := fun k hk => by
  rcases hk with h | h | h
  exact .inl h
  exact h.elim
  exact .inr h
 cases out with
 | val r =>
  obtain ⟨h1, h2⟩ := h
  rw [Option.map_eq_some_iff] at h1
  obtain ⟨x, hx, hr⟩ := h1
  obtain ⟨v, hrun, hR⟩ := resA_ok s hx
  refine ⟨s.nod, v, hrun, ⟨v, rfl, ?_⟩, hbel⟩
  have h3 := R_fit2 (b := r) (R_frz2 s hR del)
  rw [hr] at h3
  exact h3.step (Nat.le_refl _) (fun _ _ _ => rfl) (fun k hk _ => amb k hk.1) (fun b u hb _ => by rw [ment_none h2] at hb; cases hb)
 | own e τ xs =>
  rcases h with ⟨b, h1, h2⟩ | ⟨h1, rfl⟩
  obtain ⟨v, hrun, hR⟩ := resA_ok s h1
  obtain ⟨u, hu, cs, q1, q2⟩ := s.dom b _ h2
  have hv := hR.own_inv hu
  subst hv
  refine ⟨s.nod, v, hrun, ⟨v, rfl, fun k hk => ?_, cs, q1, fun i x j y hx hy => ?_⟩, hbel⟩
  obtain ⟨h3, h4⟩ := s.new b v k hu hk
  exact ⟨h4.resolve_right (fun h => h), h3⟩
  obtain ⟨vv, h3, h4⟩ := q2 i x j y hx hy
  exact ⟨vv, h3, h4.step (Nat.le_refl _) (fun _ _ _ => rfl) (fun k hk _ => ⟨amb k hk.1, fun he => hk.2 b v hu he⟩) (fun b u hb _ => by rw [enc_ment' hy] at hb; cases hb)⟩
  obtain ⟨v, hrun, hR⟩ := resA_ok s h1
  have hv := hR.lit_inv
  subst hv
  exact ⟨s.nod, _, hrun, ⟨_, rfl, fun k hk => by simp [blk] at hk, [], World.ownsRow_nil w 0 e _, fun i x j y hx => by simp at hx⟩, hbel⟩
 | thr v => exact h.elim
theorem norm_ok {fn : Func} {fz : Nat → Prop} {T : TL} {B : BL} {out : COut} (del : List Nat) (hs : SimL N w0 (noO fz) T B a w) (h : retOk P fn T B del out) : FnQ P fn w0 (noO fz) out .normal a w := ret_ok del hs h
theorem thr_ok {fn : Func} {fz : Nat → Prop} {T : TL} {B : BL} {v : Value} (hs : SimL N w0 (noO fz) T B a w) : FnQ P fn w0 (noO fz) (.thr v) (.panic [{ v, recovered := false }]) a w := by
 obtain ⟨η, s⟩ := hs
 exact ⟨s.nod, rfl, s.frame.below (fun _ h => h)⟩
end
@[reducible] def ba (l : List UInt8) : ByteArray := ⟨l.toArray⟩
@[reducible] def bitsOr (k : IntKind) (x y : Int) : Int := k.wrap (BitVec.ofInt k.bits x ||| BitVec.ofInt k.bits y).toNat
@[reducible] def bitsAnd (k : IntKind) (x y : Int) : Int := k.wrap (BitVec.ofInt k.bits x &&& BitVec.ofInt k.bits y).toNat
def okArgs (l : List AV) : Prop := l = l
theorem inR64 {n : Int} (h0 : -9223372036854775808 ≤ n) (h1 : n ≤ 9223372036854775807) : InR .i64 n := by
 exact IntWalk.i64_in _ ⟨by omega, by omega⟩
section
variable {P : Program} {w0 : World} {ow : Own} {N : Nat} {a : Act} {w : World} {Q : Exit → Act → World → Prop} {K : Act → World → Prop} {id j : Nat} {ch : List PanicEntry}
theorem then_norm (h : K a w) : Exit.then K Q .normal a w := h
theorem then_ret (h : Q .ret a w) : Exit.then K Q .ret a w := h
theorem then_exit (h : Q (.exit id) a w) : Exit.then K Q (.exit id) a w := h
theorem then_thr (h : Q (.panic ch) a w) : Exit.then K Q (.panic ch) a w := h
theorem inb_norm (h : Q .normal a w) : Exit.inBlock id Q .normal a w := h
theorem inb_ret (h : Q .ret a w) : Exit.inBlock id Q .ret a w := h
theorem inb_thr (h : Q (.panic ch) a w) : Exit.inBlock id Q (.panic ch) a w := h
theorem inb_hit (h : Q .normal a w) : Exit.inBlock id Q (.exit id) a w := by simpa [Exit.inBlock] using h
theorem FnQ_cast {fn : Func} {out out' : COut} {e : Exit} (h : out = out') (hq : FnQ P fn w0 ow out e a w) : FnQ P fn w0 ow out' e a w := h ▸ hq
theorem cond_L {T : TL} {B : BL} {c : Nat} {x y : Code} {b : Bool} (hs : SimL N w0 ow T B a w) (he : lkp T c = some (.lit (.bool b))) (ht : b = true → x.wp P Q a w) (hf : b = false → y.wp P Q a w) : (Code.cond (.tmp c) x y).wp P Q a w := by
 obtain ⟨η, s⟩ := hs
 have hv := (s.ev (x := .tmp c) he).lit_inv
 exact wp_cond_split hv ht hf
theorem wp_cut {x y : Code} {T : TL} {B : BL} (F : Prop) (h1 : x.wp P (Exit.then (fun a w => F ∧ SimL N w0 ow T B a w) Q) a w) (h2 : F → ∀ a w, SimL N w0 ow T B a w → y.wp P Q a w) : (Code.seq x y).wp P Q a w :=
 wp_seq (wp_mono h1 (fun e a w he => by cases e <;> first | exact h2 he.1 _ _ he.2 | exact he))
end
def okBxs (l : List (Option Box)) : Prop := l = l
def ciA (f : FuncId) (args : List AV) (snap del : List Nat) (out : COut) : CI := { f, args, snap, del, out }
def ciB (f : FuncId) (args : List AV) (del : List Nat) (out : COut) (bi bo : BL) (ρ : List (Nat × Nat)) : CI := { f, args, snap := [], del, out, bi, bo, ρ }
def FnQB (P : Program) (fn : Func) (w0 : World) (fz : Nat → Prop) (η : Nat → Option Value) (bi : BL) (out : COut) (bo : BL) : Exit → Act → World → Prop := bodyPost P fn (fun e w' => PostB w0 fz η bi w' e out bo)
section
variable {P : Program} {I : World → Prop} {w w' w0 : World} {fz fz' : Nat → Prop} {η η' : Nat → Option Value} {N : Nat} {T : TL} {B : BL} {a : Act}
theorem BoxR_up {u : Value} {X : Box} (hf : ∀ k, fz k → k < w.heap.size → fz' k) (hη : ∀ b u, mentB b X = true → η' b = some u → η b = some u) (h : BoxR w fz η u X) : BoxR w fz' η' u X := by
 cases X with
 | any => exact h
 | var l =>
  obtain ⟨g, C, e, rfl, q1, q2, q3⟩ := h
  exact ⟨g, C, e, rfl, q1, q2, fun j v x hv hx => (q3 j v x hv hx).step (Nat.le_refl _) (fun _ _ _ => rfl) hf (fun b u hb hu => hη b u (mentL_of hx hb) hu)⟩
 | sl e τ xs =>
  obtain ⟨cs, q1, q2⟩ := h
  refine ⟨cs, q1, fun i x j y hx hy => ?_⟩
  obtain ⟨v, hv, hr⟩ := q2 i x j y hx hy
  exact ⟨v, hv, hr.step (Nat.le_refl _) (fun _ _ _ => rfl) hf (fun b u hb _ => by rw [enc_ment' hy] at hb; cases hb)⟩
 | full e τ xs =>
  obtain ⟨⟨cs, q1, q2⟩, qc⟩ := h
  refine ⟨⟨cs, q1, fun i x j y hx hy => ?_⟩, qc⟩
  obtain ⟨v, hv, hr⟩ := q2 i x j y hx hy
  exact ⟨v, hv, hr.step (Nat.le_refl _) (fun _ _ _ => rfl) hf (fun b u hb _ => by rw [enc_ment' hy] at hb; cases hb)⟩
theorem con_ofB {f : FuncId} {fn : Func} {c : Code} {args : List AV} {bi bo : BL} {out : COut} (hf : P.funcs[f]? = some fn) (hb : fn.body = some c) (hN : args.length ≤ fn.ntmps) (hk : (bi.map (·.1)).all (· < 1000) = true)
  (h : ∀ (w0 : World) (fz : Nat → Prop) (η : Nat → Option Value) (a : Act), (∀ w', Fr (ownB fz η) w0 w' → I w') → SimL fn.ntmps w0 (ownB fz η) (num 0 args) bi a w0 → c.wp P (FnQB P fn w0 fz η bi out bo) a w0) : ConB P I f args bi out bo := by
 intro w fz η vs hI hfz hd hbx hnew hap hR
 have hun : ∀ k, fz k → k < w.heap.size → Fz (Amb w (ownB fz η)) η k := fun k h1 _ => ⟨.inl h1, fun b u hb hk => (hnew b u k hb hk).2 h1⟩
 refine calls_of_wp hf hb (h w fz η _ hI ⟨η, ?_⟩)
 refine ⟨?_, rfl, Fr.refl _ _, fun t av ht => ?_, fun b B h => ?_, fun b u k h1 h2 => ⟨(hnew b u k h1 h2).1, .inr ⟨b, u, h1, h2⟩⟩, hap, fun b u u' h1 h2 => ?_, fun b u h => ?_⟩
 ·have := hR.1; simp; omega
 ·obtain ⟨_, h1⟩ := num_at ht
  rw [Nat.sub_zero] at h1
  have hlt : t < vs.size := by have := (List.getElem?_eq_some_iff.1 h1).1; have := hR.1; omega
  refine ⟨vs[t], ?_, ?_⟩
  ·show (vs ++ Array.replicate (fn.ntmps - vs.size) undef)[t]? = some vs[t]
   rw [Array.getElem?_append_left hlt]; exact Array.getElem?_eq_getElem hlt
  ·exact (hR.2 t _ av (Array.getElem?_eq_getElem hlt) h1).step (Nat.le_refl _) (fun _ _ _ => rfl) hun (fun b u _ h => h)
 ·obtain ⟨u, hu, hr⟩ := hbx b B h
  exact ⟨u, hu, BoxR_up hun (fun _ _ _ h => h) hr⟩
 ·have h1' : η b = some u := h1
  rw [h2] at h1'; injection h1'
 ·obtain ⟨X, hX⟩ := Option.isSome_iff_exists.1 (hd b u h)
  have := List.all_eq_true.1 hk b (List.mem_map.2 ⟨(b, X), lkp_mem hX, rfl⟩)
  simpa using this
theorem ownB_of {bi bo : BL} {out : COut} {e : Ending} (s : Sim N w0 (ownB fz η) η' (lkp T) (lkp bo) a w)
  (ho : ∀ η2 : Nat → Option Value, (∀ b, η2 b = if (lkp bo b).isSome then η' b else none) → (∀ v x, (∀ b, ment b x = true → (lkp bo b).isSome = true) → R w (Fz (Amb w0 (ownB fz η)) η') η' v x → R w (FzB w0 fz η η2) η2 v x) → OutB w (FzB w0 fz η η2) η2 e out) : PostB w0 fz η bi w e out bo := by
 refine ⟨⟨s.frame.os, s.frame.tape, s.frame.output, s.frame.size, fun k hk hn => s.frame.block k hk hn⟩, .inr ?_⟩
 obtain ⟨η2, h2⟩ : ∃ η2 : Nat → Option Value, ∀ b, η2 b = if (lkp bo b).isSome then η' b else none := ⟨_, fun _ => rfl⟩
 have sub : ∀ b u, η2 b = some u → (lkp bo b).isSome = true ∧ η' b = some u := fun b u h => by
  rw [h2] at h
  split at h
  ·rename_i hb; exact ⟨hb, h⟩
  ·cases h
 have hf : ∀ k, Fz (Amb w0 (ownB fz η)) η' k → k < w.heap.size → FzB w0 fz η η2 k := fun k hk _ => by
  refine ⟨?_, fun b u hb => hk.2 b u (sub b u hb).2⟩
  rcases hk.1 with h1 | h1 | h1
  ·exact .inl h1
  ·exact .inr (.inr h1)
  ·exact .inr (.inl h1)
 refine ⟨η2, fun b u h => (sub b u h).1, fun b _ u u' h1 h3 => s.pin b u u' h1 (sub b u' h3).2, fun b u k h1 h3 => s.new b u k (sub b u h1).2 h3, fun b b' u u' k h1 h3 => s.apart b b' u u' k (sub b u h1).2 (sub b' u' h3).2, fun b X hX => ?_, ho η2 h2 (fun v x _ hR => hR.step (Nat.le_refl _) (fun _ _ _ => rfl) hf (fun b u _ h => (sub b u h).2))⟩
 obtain ⟨u, hu, hr⟩ := s.dom b X hX
 exact ⟨u, by rw [h2, hX]; exact hu, BoxR_up hf (fun b u _ h => (sub b u h).2) hr⟩
theorem SimL.nil {ow : Own} (hs : SimL N w0 ow T B a w) (k t : Nat) (e : TypeId) (τ : Ty) (ht : lkp T t = some nilv) (hk : 1000 ≤ k) (hT : T.all (fun p => !(keysA p.2).contains k) = true) (hB : B.all (fun p => !(keysB p.2).contains k) = true) : SimL N w0 ow ((t, .own k) :: T) ((k, .sl e τ []) :: B) a w := by
 obtain ⟨η, s⟩ := hs
 have hf : Fresh k (lkp T) (lkp B) := ⟨fun t av h => by
   cases hm : ment k av with
   | false => rfl
   | true => have := List.all_eq_true.1 hT (t, av) (lkp_mem h); simp at this; exact absurd (mem_keysA av hm) this, fun b X h => by
   cases hm : mentB k X with
   | false => rfl
   | true => have := List.all_eq_true.1 hB (b, X) (lkp_mem h); simp at this; exact absurd (mem_keysB hm) this, hk⟩
 obtain ⟨tr, hs2⟩ := s.grow (w' := w) (B := .sl e τ []) (v := .slice none 0 0) (del := []) (row := none) hf ⟨rfl, rfl, rfl, Nat.le_refl _, fun _ _ _ => rfl⟩ (.inl rfl) (fun k hk => by simp [blk] at hk)
 have s2 := hs2 ⟨[], World.ownsRow_nil w 0 e _, fun i x j y hx => by simp at hx⟩
 obtain ⟨v, hv, hR⟩ := s.tmp t _ ht
 have hvn := hR.lit_inv
 have hb : updB (lkp B) [] [(k, .sl e τ [])] = lkp ((k, .sl e τ []) :: B) := by
  funext c
  simp only [updB, lkp]
  by_cases hc : c = k
  ·simp [hc]
  ·simp [hc]
 rw [hb] at s2
 refine ⟨_, s2.size, s2.nod, s2.frame, fun t' av h => ?_, s2.dom, s2.new, s2.apart, s2.pin, s2.pinlt⟩
 simp only [lkp] at h
 split at h
 ·rename_i he
  simp only [Option.some.injEq] at h
  subst h he
  exact ⟨v, hv, .own _ _ (fun u hu => by simp [setη] at hu; rw [hvn, ← hu])⟩
 ·exact s2.tmp t' av h
theorem SimL.nilB {ow : Own} (hs : SimL N w0 ow T B a w) (k b j : Nat) (e : TypeId) (τ : Ty) (l : List AV) (hb : lkp B b = some (.var l)) (hl : l[j]? = some nilv) (hbk : b ≠ k) (hk : 1000 ≤ k) (hT : T.all (fun p => !(keysA p.2).contains k) = true) (hB : B.all (fun p => !(keysB p.2).contains k) = true) : SimL N w0 ow T ((b, .var (l.set j (.own k))) :: (k, .sl e τ []) :: B) a w := by
 obtain ⟨η, s⟩ := hs
 have hf : Fresh k (lkp T) (lkp B) := ⟨fun t av h => by
   cases hm : ment k av with
   | false => rfl
   | true => have := List.all_eq_true.1 hT (t, av) (lkp_mem h); simp at this; exact absurd (mem_keysA av hm) this, fun b X h => by
   cases hm : mentB k X with
   | false => rfl
   | true => have := List.all_eq_true.1 hB (b, X) (lkp_mem h); simp at this; exact absurd (mem_keysB hm) this, hk⟩
 obtain ⟨tr, hs2⟩ := s.grow (w' := w) (B := .sl e τ []) (v := .slice none 0 0) (del := []) (row := none) hf ⟨rfl, rfl, rfl, Nat.le_refl _, fun _ _ _ => rfl⟩ (.inl rfl) (fun k hk => by simp [blk] at hk)
 have s2 := hs2 ⟨[], World.ownsRow_nil w 0 e _, fun i x j y hx => by simp at hx⟩
 have hb2 : updB (lkp B) [] [(k, .sl e τ [])] = lkp ((k, .sl e τ []) :: B) := by
  funext c
  simp only [updB, lkp]
  by_cases hc : c = k
  ·simp [hc]
  ·simp [hc]
 rw [hb2] at s2
 refine ⟨_, s2.size, s2.nod, s2.frame, s2.tmp, fun c X h => ?_, s2.new, s2.apart, s2.pin, s2.pinlt⟩
 rw [lkp] at h
 split at h
 ·rename_i he
  simp only [Option.some.injEq] at h
  subst h he
  obtain ⟨u, hu, hr⟩ := s2.dom c (.var l) (by simp only [lkp]; rw [if_neg hbk]; exact hb)
  obtain ⟨g, C, ee, rfl, q1, q2, q3⟩ := hr
  refine ⟨_, hu, g, C, ee, rfl, q1, by rw [List.length_set]; exact q2, fun i v x hv hx => ?_⟩
  rw [List.getElem?_set] at hx
  split at hx
  ·rename_i hij
   subst hij
   split at hx
   ·simp only [Option.some.injEq] at hx
    subst hx
    have hvn := (q3 j v _ hv hl).lit_inv
    exact .own _ _ (fun u hu => by simp [setη] at hu; rw [hvn, ← hu])
   ·cases hx
  ·exact q3 i v x hv hx
 ·exact s2.dom c X h
theorem ret_okB {fn : Func} {bi : BL} {r : AV} (bo : BL) (hs : SimL N w0 (ownB fz η) T bo a w) (h : resA P fn (lkp T) (lkp bo) = some r) (hk : (keysA r).all (fun b => (lkp bo b).isSome) = true) : FnQB P fn w0 fz η bi (.val r) bo .ret a w := by
 obtain ⟨η', s⟩ := hs
 obtain ⟨v, hrun, hR⟩ := resA_ok s h
 refine ⟨s.nod, v, hrun, ownB_of s (fun η2 _ hup => ⟨v, rfl, hup v r (fun b hb => ?_) hR⟩)⟩
 exact List.all_eq_true.1 hk b (mem_keysA r hb)
theorem norm_okB {fn : Func} {bi : BL} {r : AV} (bo : BL) (hs : SimL N w0 (ownB fz η) T bo a w) (h : resA P fn (lkp T) (lkp bo) = some r) (hk : (keysA r).all (fun b => (lkp bo b).isSome) = true) : FnQB P fn w0 fz η bi (.val r) bo .normal a w := ret_okB bo hs h hk
theorem rounds_step {c : Code} {Q : Exit → Act → World → Prop} {n : Nat} (h : c.wp P (Exit.then (Code.rounds P c Q n) Q) a w) : Code.rounds P c Q (n + 1) a w := h
theorem ng_ret {Q : Exit → Act → World → Prop} (h : Q .ret a w) : Exit.noGoto Q .ret a w := h
theorem ng_thr {Q : Exit → Act → World → Prop} {ch : List PanicEntry} (h : Q (.panic ch) a w) : Exit.noGoto Q (.panic ch) a w := h
theorem FnQB_cast {fn : Func} {bi bo bo' : BL} {out out' : COut} {e : Exit} (h : out = out') (h' : bo = bo') (hq : FnQB P fn w0 fz η bi out bo e a w) : FnQB P fn w0 fz η bi out' bo' e a w := h ▸ h' ▸ hq
theorem Con.frz {f : FuncId} {args : List AV} {e : TypeId} {τ : Ty} {xs : List (El τ)} (h : Con P I f args (.own e τ xs)) : Con P I f args (.val (.row τ xs)) := by
 intro w fz vs hI hfz hR
 refine (h w fz vs hI hfz hR).mono ?_
 rintro en w' ⟨⟨v, rfl, hb, cs, ho, hel⟩, hbel⟩
 refine ⟨⟨v, rfl, ?_⟩, hbel⟩
 rcases ho.2 with ⟨rfl, h0⟩ | ⟨g, cap, cur, rfl, q0, q1, q2, q3, _⟩
 have : xs = [] := by cases xs; rfl; simp at h0
 subst this
 exact .nil τ
 obtain ⟨hge, hlt⟩ := hb g rfl
 refine .row_mk q2 q3 (fun i x hx => ⟨⟨g, 0, none⟩, rfl, .inr hge, hlt, fun j y hy => ?_⟩)
 obtain ⟨vv, hv, hrr⟩ := hel i x j y hx hy
 exact ⟨vv, ho.cells rfl _ _ hv, hrr.step (Nat.le_refl _) (fun _ _ _ => rfl) (fun k hk _ => hk.1) (fun b u _ hu => hu)⟩
theorem SimL.isNil {ow : Own} (hs : SimL N w0 ow T B a w) (t : Nat) (τ : Ty) (xs : List (El τ)) (ht : lkp T t = some (.row τ xs)) : ∃ b : Bool, (b = true → xs = []) ∧ SimL N w0 ow ((t, .rown τ xs b) :: T) B a w := by
 obtain ⟨η, s⟩ := hs
 obtain ⟨v, hv, hr⟩ := s.tmp t _ ht
 obtain ⟨A, c, rfl, hc, hm, hel⟩ := hr.row_inv
 refine ⟨A.isNone, fun hb => ?_, η, ⟨s.size, s.nod, s.frame, fun k av hk => ?_, s.dom, s.new, s.apart, s.pin, s.pinlt⟩⟩
 cases xs with
 | nil => rfl
 | cons x xs =>
  obtain ⟨ad, hA, _⟩ := hel 0 x rfl
  rw [hA] at hb; cases hb
 simp only [lkp] at hk
 split at hk
 rename_i e
 simp only [Option.some.injEq] at hk
 subst hk e
 exact ⟨_, hv, .rown A c τ xs hr⟩
 exact s.tmp k av hk
end
end Go.Proofs.YtfimffgfnhplkaaGreatDoor.F
namespace Go.Proofs.YtfimffgfnhplkaaGreatDoor.X
open Go.ChangeShapes Go.WideShapes Go.ChangeAt Go.RowKit
theorem laidOut : laidOutB Tryz.prog = true := by kernel_rfl
theorem open_rowI {H : Type} {enc : TypeId × Value → H} {W : World} {base : Nat} {v : Value} {d : DataW H} {p : List MemPlace} (hv : Value.okWide Tryz.prog W .any base 42 v) (h : DataW.Trod enc Tryz.prog W 0 (fun _ => true) true 42 v d p) :
  ∃ l : List Int, Go.Proofs.YtfimffgfnhplkaaGreatDoor.F.R W (fun k => k < W.heap.size) Go.Proofs.YtfimffgfnhplkaaGreatDoor.F.noη v (.row (.int .i64) l) := by
 obtain ⟨m, hm⟩ := h
 obtain ⟨a0, n0, c0, rfl⟩ := Go.WideShapes.okWide_slice Tryz.underlying42 hv
 have one : ∀ a n c, (Value.slice a0 n0 c0).cells.toList = [.slice a n c] → Value.slice a0 n0 c0 = .slice a n c := fun a n c h => by have h' : [Value.slice a0 n0 c0] = [.slice a n c] := h; exact (List.cons.inj h').1
 rcases Go.ChangeShapes.open_ints Tryz.underlying42 Tryz.underlying3 (by kernel_rfl) hm with ⟨hcs, _⟩ | ⟨x, len, cap, zs, hcs, _, hl, hm', hz, _, hcell, hwz⟩
 ·rw [one _ _ _ hcs]
  exact ⟨[], Go.Proofs.YtfimffgfnhplkaaGreatDoor.F.R.row_mk (τ := .int .i64) (xs := ([] : List Int)) (Nat.le_refl _) (by decide) (fun i x hx => by simp at hx)⟩
 ·rw [one _ _ _ hcs]
  have hz' : zs.length = cap := hz
  have hlen : (zs.take len).length = len := by rw [List.length_take]; omega
  refine ⟨zs.take len, ?_⟩
  have := Go.Proofs.YtfimffgfnhplkaaGreatDoor.F.R.row_mk (w := W) (fz := fun k => k < W.heap.size) (η := Go.Proofs.YtfimffgfnhplkaaGreatDoor.F.noη) (A := some x) (c := cap) (τ := .int .i64) (xs := zs.take len) (by rw [hlen]; exact hl) hm' (fun i y hy => ?_)
  ·rw [hlen] at this; exact this
  ·have hi : i < len := by have := (List.getElem?_eq_some_iff.1 hy).1; rwa [hlen] at this
   rw [List.getElem?_take, if_pos hi] at hy
   have hiz : i < zs.length := (List.getElem?_eq_some_iff.1 hy).1
   have hc := hcell i hiz
   have hg : zs.getD i 0 = y := by rw [List.getD_eq_getElem?_getD, hy]; rfl
   rw [hg] at hc
   have hb : x.block < W.heap.size := by
    have h9 := World.block_lt_of_cell? W _ (hcell 0 (by omega))
    rwa [Go.Proofs.YtfimffgfnhplkaaGreatDoor.F.add_block] at h9
   refine ⟨x, rfl, hb, hb, fun j a ha => ?_⟩
   rcases j with _ | j
   ·simp only [Go.Proofs.YtfimffgfnhplkaaGreatDoor.F.enc, List.getElem?_cons_zero, Option.some.injEq] at ha
    subst ha
    exact ⟨_, by simpa [Go.Proofs.YtfimffgfnhplkaaGreatDoor.F.sz] using hc, .lit _⟩
   ·simp [Go.Proofs.YtfimffgfnhplkaaGreatDoor.F.enc] at ha
end Go.Proofs.YtfimffgfnhplkaaGreatDoor.X
namespace Go.Proofs.YtfimffgfnhplkaaGreatDoor.F
open Go Go.RowKit
def Tree.et (t : Tree) : Tree := Tree.mk t.kind t.b ⟨t.n.neg, t.n.m, t.n.e⟩ t.s t.k t.v
theorem Tree.eta' (t : Tree) : t.et = t := by cases t; rfl
abbrev rwS (l : List ByteArray) : AV := .row .str l
abbrev rwT (l : List Tree) : AV := .row .tree l
abbrev rwU (l : List Int) : AV := .row (.int .u32) l
abbrev aTr (t : Tree) : AV := .agg (encTree t)
abbrev bTr (t : Tree) : Box := .var (encTree t)
abbrev e8 (l : List AV) (t : Tree) (m : List AV) : List AV := l ++ (encTree t ++ m)
abbrev zTr : List AV := [vi 0, vb false, vb false, nilv, vi 0, vs (ba []), nilv, nilv]
abbrev ciV (f : FuncId) (args : List AV) (x : AV) : CI := ciA f args [] [] (.val x)
abbrev rc (cs : List (Nat × CI)) : RI := ⟨cs, [], []⟩
abbrev rg (cs : List (Nat × CI)) (t f : List Nat) : RI := ⟨cs, t.map (fun i => (i, true)) ++ f.map (fun i => (i, false)), []⟩
def bz : Nat → Nat → List Bool
 | 0, _ => []
 | k + 1, n => (n % 2 == 1) :: bz k (n / 2)
def AllP : List Prop → Prop
 | [] => True
 | p :: l => p ∧ AllP l
def okC (c : CI) : Prop := match isB c with
 | true => okArgs (c.args.map (rn c.ρ)) ∧ okBxs (c.bi.map (fun p => some (rnB c.ρ p.2)))
 | false => okArgs c.args
theorem okC_ok (c : CI) : okC c := by
 unfold okC
 split
 exact ⟨rfl, rfl⟩
 rfl
def topP : List Prop → Prop
 | [] => True
 | p :: _ => p
def andP : List Prop → List Prop
 | q :: p :: l => (p ∧ q) :: l
 | l => l
def headC : List CI → Prop
 | [] => True
 | c :: _ => okC c
def foldP : Prop → List Prop → Prop
 | q, [] => q
 | q, p :: l => foldP (p ∧ q) l
def endP : List Prop → Prop
 | [] => True
 | q :: l => foldP q l
def skI : Nat → Nat → List CI → List Prop → List Prop → Prop
 | 0, _, _, _, st => endP st
 | f + 1, n, cs, l, st => match n with
  | 0 => endP st
  | k + 1 => match (k + 1) % 10 with
   | 0 => skI f ((k + 1) / 10) cs l (True :: True :: st)
   | 1 => skI f ((k + 1) / 10) cs l (True :: st)
   | 2 => skI f ((k + 1) / 10) cs l (andP st)
   | 3 => skI f ((k + 1) / 10) cs l.tail (topP l :: st)
   | 4 => skI f ((k + 1) / 10) cs.tail l (headC cs :: st)
   | 5 => skI f ((k + 1) / 10) cs.tail l.tail (topP l :: st)
   | 6 => skI f ((k + 1) / 10) cs l (andP (andP (andP (andP st))))
   | 7 => skI f ((k + 1) / 10) cs l.tail (True :: topP l :: st)
   | 8 => skI f ((k + 1) / 10) cs l (True :: True :: True :: st)
   | _ => skI f ((k + 1) / 10) cs l (andP (andP st))
structure Pk where
 p : Prop
 h : p
def q1 {p : Prop} (h : p) : Pk := ⟨p, h⟩
def q2 (p : Prop) (h : p := by omega) : Pk := ⟨p, h⟩
def q3 (n : Int) (h0 : -9223372036854775808 ≤ n := by omega) (h1 : n ≤ 9223372036854775807 := by omega) : Pk := ⟨InR .i64 n, inR64 h0 h1⟩
def q4 (n : Int) (m : Nat) (h : 0 ≤ n ∧ n < (m : Int) := by omega) : Pk := ⟨0 ≤ n ∧ n < (m : Int), h⟩
def q0 (b : Bool) : Pk := ⟨b = b, rfl⟩
def q5 (c n : Int) (hc : c ≠ 0 := by decide) (h0 : -9223372036854775808 ≤ n := by omega) (h1 : n ≤ 9223372036854775807 := by omega) : Pk := ⟨c ≠ 0 ∧ InR .i64 n, hc, inR64 h0 h1⟩
def q6 (c : Int) (hc : c ≠ 0 := by decide) : Pk := ⟨c ≠ 0, hc⟩
def q7 (a b k : Nat) (h : (a + b) * k ≤ 140737488355328 ∧ a + b ≤ 140737488355328 := by omega) : Pk := ⟨(a + b) * k ≤ 140737488355328 ∧ a + b ≤ 140737488355328, h⟩
theorem dT {p : Prop} [Decidable p] (h : decide p = true) : p := of_decide_eq_true h
theorem dF {p : Prop} [Decidable p] (h : decide p = false) : ¬ p := of_decide_eq_false h
theorem nB {α : Type} [BEq α] [LawfulBEq α] {a b : α} (h : (a == b) = false) : a ≠ b := beq_eq_false_iff_ne.1 h
theorem bd (p : Prop) [Decidable p] : (decide p = true ∧ p) ∨ (decide p = false ∧ ¬ p) := by
 by_cases h : p
 exact .inl ⟨decide_eq_true h, h⟩
 exact .inr ⟨decide_eq_false h, h⟩
theorem bq {α : Type} [BEq α] [LawfulBEq α] (a b : α) : ((a == b) = true ∧ a = b) ∨ ((a == b) = false ∧ a ≠ b) := by
 cases h : a == b
 exact .inr ⟨rfl, beq_eq_false_iff_ne.1 h⟩
 exact .inl ⟨rfl, eq_of_beq h⟩
theorem pk_ok : ∀ l : List Pk, AllP (l.map (·.p))
 | [] => trivial
 | x :: l => ⟨x.h, pk_ok l⟩
theorem top_ok : ∀ {l : List Prop}, AllP l → topP l
 | [], _ => trivial
 | _ :: _, h => h.1
theorem tail_ok : ∀ {l : List Prop}, AllP l → AllP l.tail
 | [], h => h
 | _ :: _, h => h.2
theorem and_ok : ∀ {l : List Prop}, AllP l → AllP (andP l)
 | [], h => h
 | [_], h => h
 | _ :: _ :: _, h => ⟨⟨h.2.1, h.1⟩, h.2.2⟩
theorem head_ok : ∀ cs : List CI, headC cs
 | [] => trivial
 | c :: _ => okC_ok c
theorem fold_ok : ∀ {q : Prop} {l : List Prop}, q → AllP l → foldP q l
 | _, [], hq, _ => hq
 | q, p :: _, hq, h => fold_ok (q := p ∧ q) ⟨h.1, hq⟩ h.2
theorem end_ok : ∀ {l : List Prop}, AllP l → endP l
 | [], _ => trivial
 | _ :: _, h => fold_ok h.1 h.2
theorem skI_ok : ∀ (f n : Nat) (cs : List CI) (l st : List Prop), AllP l → AllP st → skI f n cs l st
 | 0, n, cs, l, st, hl, hs => by
  rw [skI]; exact end_ok hs
 | f + 1, 0, cs, l, st, hl, hs => by
  rw [skI]; exact end_ok hs
 | f + 1, k + 1, cs, l, st, hl, hs => by
  rw [skI]
  split
  exact skI_ok f _ cs l _ hl ⟨trivial, trivial, hs⟩
  exact skI_ok f _ cs l _ hl ⟨trivial, hs⟩
  exact skI_ok f _ cs l _ hl (and_ok hs)
  exact skI_ok f _ cs _ _ (tail_ok hl) ⟨top_ok hl, hs⟩
  exact skI_ok f _ _ l _ hl ⟨head_ok cs, hs⟩
  exact skI_ok f _ _ _ _ (tail_ok hl) ⟨top_ok hl, hs⟩
  exact skI_ok f _ cs l _ hl (and_ok (and_ok (and_ok (and_ok hs))))
  exact skI_ok f _ cs _ _ (tail_ok hl) ⟨trivial, top_ok hl, hs⟩
  exact skI_ok f _ cs l _ hl ⟨trivial, trivial, trivial, hs⟩
  exact skI_ok f _ cs l _ hl (and_ok (and_ok hs))
def csOf (rs : List (Nat × RI)) : List CI := rs.flatMap (fun r => r.2.cs.map (·.2))
def AllK (P : Program) (I : World → Prop) : List (Nat × CI) → Prop → Prop
 | [], q => q
 | (_, c) :: l, q => ConC P I c ∧ AllK P I l q
def AllR (P : Program) (I : World → Prop) : List (Nat × RI) → Prop
 | [] => True
 | (_, ri) :: l => AllK P I ri.cs (AllR P I l)
def entsOk (e : List Nat) (rs : List (Nat × RI)) : Bool := rs.all fun r => r.2.cs.all fun c => e.contains c.2.f
theorem allK_ok {P : Program} {I : World → Prop} {e : List Nat} (he : ∀ f ∈ e, Ent P f) : ∀ {l : List (Nat × CI)} {q : Prop}, (l.all fun c => e.contains c.2.f) = true → AllK P I l q → Cons P I l ∧ q
 | [], _, _, h => ⟨trivial, h⟩
 | (_, c) :: l, _, h1, h => by
  rw [List.all_cons, Bool.and_eq_true] at h1
  have ih := allK_ok he h1.2 h.2
  exact ⟨⟨⟨he _ (by simpa using h1.1), h.1⟩, ih.1⟩, ih.2⟩
theorem allR_ok {P : Program} {I : World → Prop} {e : List Nat} (he : ∀ f ∈ e, Ent P f) : ∀ {rs : List (Nat × RI)}, entsOk e rs = true → AllR P I rs → AllCons P I rs
 | [], _, _ => trivial
 | (_, ri) :: rs, h1, h => by
  unfold entsOk at h1
  rw [List.all_cons, Bool.and_eq_true] at h1
  have h2 := allK_ok he h1.1 h
  exact ⟨h2.1, allR_ok he h1.2 h2.2⟩
def skC (rs : List (Nat × RI)) (n : Nat) (l : List Prop) : Prop := skI 4000 n (csOf rs) l []
theorem skC_ok {rs : List (Nat × RI)} {n : Nat} {l : List Prop} (h : AllP l) : skC rs n l := skI_ok _ n _ l [] h trivial
def tt (t : TypeId) : Option Ty := if t = 2 then some (.int .i64) else if t = 3 then some (.int .i64) else if t = 4 then some .bool else if t = 5 then some (.int .u8) else if t = 6 then some (.int .u8) else if t = 9 then some .str else if t = 10 then some .str else if t = 11 then some .str else if t = 12 then some (.int .u64) else if t = 21 then some (.int .i32) else if t = 22 then some (.ints .u32) else if t = 24 then some .num else if t = 25 then some .strs else if t = 26 then some .trees else if t = 28 then some .tree else if t = 35 then some (.int .i64) else if t = 42 then some (.ints .i64) else if t = 61 then some .opn else if t = 140 then some (.int .u64) else if t = 144 then some (.int .u32) else if t = 148 then some (.int .u64) else if t = 156 then some (.int .i64) else if t = 166 then some (.ints .i32) else if t = 170 then some (.int .u64) else if t = 177 then some (.ints .u8) else if t = 203 then some (.int .u8) else if t = 204 then some (.int .u8) else if t = 207 then some (.int .i32) else if t = 208 then some (.int .i32) else none
def I0 (w : World) : Prop := Go.Proofs.YtfimffgfnhplkaaGreatDoor.X.Laid w
theorem stab : ∀ w w', I0 w → Below w.heap.size w w' → I0 w' := fun _ _ h b => h.below b
theorem mix : Tryz.prog.follows .mixedOrders = true := by kernel_rfl
theorem tv : True := trivial
theorem ng1 {b : Bool} (h : b = true) : (!b) = false := by rw [h]; rfl
theorem ng0 {b : Bool} (h : b = false) : (!b) = true := by rw [h]; rfl
abbrev ty {p : Prop} (_ : p) : Prop := p
theorem bt (b : Bool) : b = true ∨ b = false := Bool.eq_false_or_eq_true b
def entL : List Nat := [10, 11, 15, 18, 19, 21, 22, 23, 24, 25, 26, 32, 33, 34, 35, 39, 48, 50, 51, 53, 54, 55, 57, 62, 64, 65, 66, 67, 68, 69, 74, 76, 78, 84, 85, 92, 93, 94, 97, 98, 99, 100, 101, 102, 103, 104, 105, 106, 107, 108, 109, 110, 111, 116, 124, 127, 128, 129, 130, 131, 132, 134, 135, 136, 137, 138, 139, 140, 141, 144, 145, 147, 148, 149, 150, 151, 152, 153, 154, 167, 168, 169, 170, 182, 189]
theorem entAll : ∀ f ∈ entL, Ent Tryz.prog f := by
 simp only [entL, List.forall_mem_cons]
 exact ⟨ent_of Tryz.func10 (by kernel_rfl) rfl, ent_of Tryz.func11 (by kernel_rfl) rfl, ent_of Tryz.func15 (by kernel_rfl) rfl, ent_of Tryz.func18 (by kernel_rfl) rfl, ent_of Tryz.func19 (by kernel_rfl) rfl, ent_of Tryz.func21 (by kernel_rfl) rfl, ent_of Tryz.func22 (by kernel_rfl) rfl, ent_of Tryz.func23 (by kernel_rfl) rfl, ent_of Tryz.func24 (by kernel_rfl) rfl, ent_of Tryz.func25 (by kernel_rfl) rfl, ent_of Tryz.func26 (by kernel_rfl) rfl, ent_of Tryz.func32 (by kernel_rfl) rfl, ent_of Tryz.func33 (by kernel_rfl) rfl, ent_of Tryz.func34 (by kernel_rfl) rfl, ent_of Tryz.func35 (by kernel_rfl) rfl, ent_of Tryz.func39 (by kernel_rfl) rfl, ent_of Tryz.func48 (by kernel_rfl) rfl, ent_of Tryz.func50 (by kernel_rfl) rfl, ent_of Tryz.func51 (by kernel_rfl) rfl, ent_of Tryz.func53 (by kernel_rfl) rfl, ent_of Tryz.func54 (by kernel_rfl) rfl, ent_of Tryz.func55 (by kernel_rfl) rfl, ent_of Tryz.func57 (by kernel_rfl) rfl, ent_of Tryz.func62 (by kernel_rfl) rfl, ent_of Tryz.func64 (by kernel_rfl) rfl, ent_of Tryz.func65 (by kernel_rfl) rfl, ent_of Tryz.func66 (by kernel_rfl) rfl, ent_of Tryz.func67 (by kernel_rfl) rfl, ent_of Tryz.func68 (by kernel_rfl) rfl, ent_of Tryz.func69 (by kernel_rfl) rfl, ent_of Tryz.func74 (by kernel_rfl) rfl, ent_of Tryz.func76 (by kernel_rfl) rfl, ent_of Tryz.func78 (by kernel_rfl) rfl, ent_of Tryz.func84 (by kernel_rfl) rfl, ent_of Tryz.func85 (by kernel_rfl) rfl, ent_of Tryz.func92 (by kernel_rfl) rfl, ent_of Tryz.func93 (by kernel_rfl) rfl, ent_of Tryz.func94 (by kernel_rfl) rfl, ent_of Tryz.func97 (by kernel_rfl) rfl, ent_of Tryz.func98 (by kernel_rfl) rfl, ent_of Tryz.func99 (by kernel_rfl) rfl, ent_of Tryz.func100 (by kernel_rfl) rfl, ent_of Tryz.func101 (by kernel_rfl) rfl, ent_of Tryz.func102 (by kernel_rfl) rfl, ent_of Tryz.func103 (by kernel_rfl) rfl, ent_of Tryz.func104 (by kernel_rfl) rfl, ent_of Tryz.func105 (by kernel_rfl) rfl, ent_of Tryz.func106 (by kernel_rfl) rfl, ent_of Tryz.func107 (by kernel_rfl) rfl, ent_of Tryz.func108 (by kernel_rfl) rfl, ent_of Tryz.func109 (by kernel_rfl) rfl, ent_of Tryz.func110 (by kernel_rfl) rfl, ent_of Tryz.func111 (by kernel_rfl) rfl, ent_of Tryz.func116 (by kernel_rfl) rfl, ent_of Tryz.func124 (by kernel_rfl) rfl, ent_of Tryz.func127 (by kernel_rfl) rfl, ent_of Tryz.func128 (by kernel_rfl) rfl, ent_of Tryz.func129 (by kernel_rfl) rfl, ent_of Tryz.func130 (by kernel_rfl) rfl, ent_of Tryz.func131 (by kernel_rfl) rfl, ent_of Tryz.func132 (by kernel_rfl) rfl, ent_of Tryz.func134 (by kernel_rfl) rfl, ent_of Tryz.func135 (by kernel_rfl) rfl, ent_of Tryz.func136 (by kernel_rfl) rfl, ent_of Tryz.func137 (by kernel_rfl) rfl, ent_of Tryz.func138 (by kernel_rfl) rfl, ent_of Tryz.func139 (by kernel_rfl) rfl, ent_of Tryz.func140 (by kernel_rfl) rfl, ent_of Tryz.func141 (by kernel_rfl) rfl, ent_of Tryz.func144 (by kernel_rfl) rfl, ent_of Tryz.func145 (by kernel_rfl) rfl, ent_of Tryz.func147 (by kernel_rfl) rfl, ent_of Tryz.func148 (by kernel_rfl) rfl, ent_of Tryz.func149 (by kernel_rfl) rfl, ent_of Tryz.func150 (by kernel_rfl) rfl, ent_of Tryz.func151 (by kernel_rfl) rfl, ent_of Tryz.func152 (by kernel_rfl) rfl, ent_of Tryz.func153 (by kernel_rfl) rfl, ent_of Tryz.func154 (by kernel_rfl) rfl, ent_of Tryz.func167 (by kernel_rfl) rfl, ent_of Tryz.func168 (by kernel_rfl) rfl, ent_of Tryz.func169 (by kernel_rfl) rfl, ent_of Tryz.func170 (by kernel_rfl) rfl, ent_of Tryz.func182 (by kernel_rfl) rfl, ent_of Tryz.func189 (by kernel_rfl) rfl, fun _ h => by simp at h⟩
section
variable {w0 w : World} {ow : Own} {N : Nat} {T : TL} {B : BL} {a : Act} {Q : Exit → Act → World → Prop} {c : Code}
theorem wL (hs : SimL N w0 ow T B a w) (hI : ∀ w', Fr ow w0 w' → I0 w') (rs : List (Nat × RI)) (bs : List Bool) (n : Nat) (l : List Pk) (lv : Lv) (T' : TL) (B' : BL) (hall : AllR Tryz.prog I0 rs) (hq : LvL N w0 ow Q lv T' B') (he : (entsOk entL rs, projC Tryz.prog tt N rs c T B bs (T'.map (·.1)) (B'.map (·.1))) = (true, some (skC rs n (l.map (·.p)), lv, T', B')) := by kernel_rfl) : c.wp Tryz.prog Q a w := way_L mix hI hs (allR_ok entAll (congrArg Prod.fst he) hall) (congrArg Prod.snd he) (skC_ok (pk_ok l)) hq
theorem wN (hs : SimL N w0 ow T B a w) (hI : ∀ w', Fr ow w0 w' → I0 w') (bs : List Bool) (n : Nat) (l : List Pk) (lv : Lv) (T' : TL) (B' : BL) (hq : LvL N w0 ow Q lv T' B') (he : projC Tryz.prog tt N [] c T B bs (T'.map (·.1)) (B'.map (·.1)) = some (skC [] n (l.map (·.p)), lv, T', B') := by kernel_rfl) : c.wp Tryz.prog Q a w := way_L (rs := []) mix hI hs trivial he (skC_ok (pk_ok l)) hq
theorem wLs {d : Code} (hs : SimL N w0 ow T B a w) (hI : ∀ w', Fr ow w0 w' → I0 w') (rs : List (Nat × RI)) (bs : List Bool) (n : Nat) (l : List Pk) (T' : TL) (B' : BL) (hall : AllR Tryz.prog I0 rs) (hq : ∀ a w, SimL N w0 ow T' B' a w → d.wp Tryz.prog Q a w) (he : (entsOk entL rs, projC Tryz.prog tt N rs c T B bs (T'.map (·.1)) (B'.map (·.1))) = (true, some (skC rs n (l.map (·.p)), .norm, T', B')) := by kernel_rfl) : (Code.seq c d).wp Tryz.prog Q a w := wp_seq (wL hs hI rs bs n l .norm T' B' hall (fun a w hs => then_norm (hq a w hs)) he)
theorem wNs {d : Code} (hs : SimL N w0 ow T B a w) (hI : ∀ w', Fr ow w0 w' → I0 w') (bs : List Bool) (n : Nat) (l : List Pk) (T' : TL) (B' : BL) (hq : ∀ a w, SimL N w0 ow T' B' a w → d.wp Tryz.prog Q a w) (he : projC Tryz.prog tt N [] c T B bs (T'.map (·.1)) (B'.map (·.1)) = some (skC [] n (l.map (·.p)), .norm, T', B') := by kernel_rfl) : (Code.seq c d).wp Tryz.prog Q a w := wp_seq (wN hs hI bs n l .norm T' B' (fun a w hs => then_norm (hq a w hs)) he)
theorem rK {fn : Func} {fz : Nat → Prop} {out' : COut} (out : COut) (del : List Nat) (hs : SimL N w0 (noO fz) T B a w) (h : out = out') (hr : retOk Tryz.prog fn T B del out := by exact ⟨by kernel_rfl, rfl⟩) : FnQ Tryz.prog fn w0 (noO fz) out' .ret a w := h ▸ ret_ok del hs hr
theorem nK {fn : Func} {fz : Nat → Prop} {out' : COut} (out : COut) (del : List Nat) (hs : SimL N w0 (noO fz) T B a w) (h : out = out') (hr : retOk Tryz.prog fn T B del out := by exact ⟨by kernel_rfl, rfl⟩) : FnQ Tryz.prog fn w0 (noO fz) out' .normal a w := h ▸ norm_ok del hs hr
theorem tK {fn : Func} {fz : Nat → Prop} {out' : COut} (v : Value) (hs : SimL N w0 (noO fz) T B a w) (h : COut.thr v = out') : FnQ Tryz.prog fn w0 (noO fz) out' (.panic [{ v, recovered := false }]) a w := h ▸ thr_ok hs
theorem SimL.cst (hs : SimL N w0 ow T B a w) (T' : TL) (B' : BL) (h : (T, B) = (T', B')) : SimL N w0 ow T' B' a w := by
 cases h; exact hs
theorem SimL.rmT (hs : SimL N w0 ow T B a w) (T' : TL) (B' : BL) (ρ : List (Nat × Nat)) (h : (renOk ρ T' B', T'.map (fun p => lkp T p.1), B'.map (fun p => lkp B (rnk ρ p.1))) = (true, T'.map (fun p => some (rn ρ p.2)), B'.map (fun p => some (rnB ρ p.2)))) : SimL N w0 ow T' B' a w := by
 simp only [Prod.mk.injEq] at h
 exact hs.ren ρ h.1 h.2.1 h.2.2
theorem SimL.rk (hs : SimL N w0 ow T B a w) {T' : TL} {B' : BL} (ρ : List (Nat × Nat)) (h : (renOk ρ T' B', T'.map (fun p => lkp T p.1), B'.map (fun p => lkp B (rnk ρ p.1))) = (true, T'.map (fun p => some (rn ρ p.2)), B'.map (fun p => some (rnB ρ p.2))) := by kernel_rfl) : SimL N w0 ow T' B' a w := hs.rmT T' B' ρ h
end
theorem ent63 : Ent Tryz.prog 63 := ent_of Tryz.func63 (by kernel_rfl) rfl
open Go.Proofs.Tryz
def bulk (t : Tree) : Nat := 1 + if t.kind = 3 then t.n.m.length else if t.kind = 4 then t.s.size else if t.kind = 5 then t.s.size else 0
mutual
def weight : Tree → Nat
 | .mk kind b n s k v => bulk (.mk kind b n s k v) + weightL v
def weightL : List Tree → Nat
 | [] => 0
 | t :: l => weight t + weightL l
end
theorem weight_eq (t : Tree) : weight t = bulk t + weightL t.v := by cases t; rfl
theorem weightL_take : ∀ (l : List Tree) (i : Nat), i < l.length → weightL (l.take (i + 1)) = weightL (l.take i) + weight (l.getD i (dflt .tree))
 | [], i, h => by simp at h
 | t :: l, 0, h => by simp [weightL]
 | t :: l, i + 1, h => by
  simp only [List.take_succ_cons, weightL, List.getD_cons_succ]
  rw [weightL_take l i (by simpa using h)]; omega
theorem weightL_le : ∀ (l : List Tree) (i : Nat), weightL (l.take i) ≤ weightL l
 | [], i => by simp
 | t :: l, 0 => by simp [weightL]
 | t :: l, i + 1 => by simp only [List.take_succ_cons, weightL]; have := weightL_le l i; omega
theorem weightL_len : ∀ (l : List Tree), l.length ≤ weightL l
  | [] => by simp
  | t :: l => by simp only [List.length_cons, weightL]; have := weightL_len l; have := weight_eq t; have : 1 ≤ bulk t := by simp [bulk]
                 omega
theorem bulk_3 {t : Tree} (h : t.kind = 3) : bulk t = 1 + t.n.m.length := by simp [bulk, h]
theorem bulk_4 {t : Tree} (h : t.kind = 4) : bulk t = 1 + t.s.size := by simp [bulk, h]
theorem bulk_5 {t : Tree} (h : t.kind = 5) : bulk t = 1 + t.s.size := by simp [bulk, h]
theorem bulk_0 {t : Tree} (h : ¬ t.kind = 3) (h' : ¬ t.kind = 4) (h2 : ¬ t.kind = 5) : bulk t = 1 := by simp [bulk, h, h', h2]
mutual
def nodes : Tree → Nat
 | .mk _ _ _ _ _ v => 1 + nodesL v
def nodesL : List Tree → Nat
 | [] => 0
 | t :: l => nodes t + nodesL l
end
theorem nodes_eq (t : Tree) : nodes t = 1 + nodesL t.v := by cases t; rfl
theorem nodes_at : ∀ {l : List Tree} {i : Nat}, i < l.length → nodes (l.getD i (dflt .tree)) ≤ nodesL l
 | [], i, h => by simp at h
 | t :: l, 0, h => by simp [nodesL]
 | t :: l, i + 1, h => by
  simp only [nodesL, List.getD_cons_succ]
  have := @nodes_at l i (by simpa using h); omega
theorem nodesL_take : ∀ (l : List Tree) (i : Nat), i < l.length → nodesL (l.take (i + 1)) = nodesL (l.take i) + nodes (l.getD i (dflt .tree))
 | [], i, h => by simp at h
 | t :: l, 0, h => by simp [nodesL]
 | t :: l, i + 1, h => by
  simp only [List.take_succ_cons, nodesL, List.getD_cons_succ]
  rw [nodesL_take l i (by simpa using h)]; omega
theorem nodesL_le : ∀ (l : List Tree) (i : Nat), nodesL (l.take i) ≤ nodesL l
 | [], i => by simp
 | t :: l, 0 => by simp [nodesL]
 | t :: l, i + 1 => by simp only [List.take_succ_cons, nodesL]; have := nodesL_le l i; omega
theorem nodesL_len : ∀ (l : List Tree), l.length ≤ nodesL l
 | [] => by simp
 | t :: l => by simp only [List.length_cons, nodesL]; have := nodesL_len l; have := nodes_eq t; omega
mutual
def depth : Tree → Nat
 | .mk _ _ _ _ _ v => 1 + depthL v
def depthL : List Tree → Nat
 | [] => 0
 | t :: l => max (depth t) (depthL l)
end
theorem depth_eq (t : Tree) : depth t = 1 + depthL t.v := by cases t; rfl
theorem depthL_take : ∀ (l : List Tree) (i : Nat), i < l.length → depthL (l.take (i + 1)) = max (depthL (l.take i)) (depth (l.getD i (dflt .tree)))
 | [], i, h => by simp at h
 | t :: l, 0, h => by simp [depthL]
 | t :: l, i + 1, h => by
  simp only [List.take_succ_cons, depthL, List.getD_cons_succ]
  rw [depthL_take l i (by simpa using h)]; omega
mutual
theorem depth_le : ∀ t : Tree, depth t ≤ nodes t
 | .mk _ _ _ _ _ v => by simp only [depth, nodes]; have := depthL_le v; omega
theorem depthL_le : ∀ l : List Tree, depthL l ≤ nodesL l
 | [] => by simp [depthL]
 | t :: l => by simp only [depthL, nodesL]; have := depth_le t; have := depthL_le l; omega
end
def cutK (t : Tree) : List ByteArray := if t.kind = 7 then t.k.take (min t.k.length t.v.length) else []
def cutV (t : Tree) : List Tree := if t.kind = 7 then t.v.take (min t.k.length t.v.length) else []
theorem cut_len (t : Tree) : (cutK t).length = (cutV t).length := by unfold cutK cutV; split <;> simp <;> omega
def eqT (a b : ByteArray) : Bool := a.toList == b.toList
def idxT (x : ByteArray) : List ByteArray → Int
 | [] => -1
 | y :: l => if eqT x y = true then 0 else if idxT x l < 0 then -1 else idxT x l + 1
theorem idxT_no {x : ByteArray} : ∀ {l : List ByteArray}, (∀ j, j < l.length → ∀ d, eqT x (l.getD j d) = false) → idxT x l = -1
 | [], _ => rfl
 | y :: l, h => by
  have h0 : eqT x y = false := h 0 (by simp) y
  have h1 := idxT_no (l := l) (fun j hj d => h (j + 1) (by simpa using hj) d)
  simp [idxT, h0, h1]
theorem idxT_at {x : ByteArray} : ∀ {l : List ByteArray} {i : Nat} (d : ByteArray), i < l.length → eqT x (l.getD i d) = true → (∀ j, j < i → ∀ d, eqT x (l.getD j d) = false) → idxT x l = (i : Int)
 | [], _, _, h, _, _ => by simp at h
 | y :: l, 0, d, h, hq, _ => by
  have hq' : eqT x y = true := hq
  simp [idxT, hq']
 | y :: l, i + 1, d, h, hq, hn => by
  have h0 : eqT x y = false := hn 0 (by omega) y
  have h1 := idxT_at (l := l) (i := i) d (by simpa using h) hq (fun j hj d => hn (j + 1) (by omega) d)
  simp only [idxT, h0, h1]
  rw [if_neg (by decide), if_neg (by omega)]
  omega
theorem idxT_in (x : ByteArray) : ∀ l : List ByteArray, -1 ≤ idxT x l ∧ idxT x l < l.length
 | [] => by simp [idxT]
 | y :: l => by
  have := idxT_in x l
  simp only [idxT, List.length_cons]
  split
  omega
  split <;> omega
theorem getD_any' {α : Type} {l : List α} {i : Nat} (h : i < l.length) (d d' : α) : l.getD i d = l.getD i d' := by
 rw [List.getD_eq_getElem?_getD, List.getD_eq_getElem?_getD, List.getElem?_eq_getElem h]; rfl
def memI (t : Tree) (x : ByteArray) : Int := idxT x (cutK t)
def memV (t : Tree) (x : ByteArray) : Tree := if memI t x ≥ 0 then (cutV t).getD (memI t x).toNat (dflt .tree) else Tree.zero
def memB (t : Tree) (x : ByteArray) : Bool := decide (memI t x ≥ 0)
theorem memV_pos {t : Tree} {x : ByteArray} (h : idxT x (cutK t) ≥ 0) : memV t x = (cutV t).getD (idxT x (cutK t)).toNat (dflt .tree) ∧ memB t x = true := ⟨if_pos h, decide_eq_true h⟩
theorem memV_neg {t : Tree} {x : ByteArray} (h : ¬ idxT x (cutK t) ≥ 0) : memV t x = Tree.zero ∧ memB t x = false := ⟨if_neg h, decide_eq_false h⟩
theorem con173 (t : Tree) : Con Tryz.prog I0 101 [.agg (encTree t)] (.val (.tup [.row .str (cutK t), .row .tree (cutV t)])) := by
 refine con_of Tryz.func101 rfl (Nat.le_of_ble_eq_true rfl) stab (fun w0 fz a hI hs => ?_)
 rcases bt (t.kind != 7) with b1 | b1
 have n1 := bne_iff_ne.1 b1
 refine wN hs hI (bz 1 1) 190729182918 [q1 b1] .ret [(2, nilv), (3, nilv)] [] fun a w hs => ?_
 exact rK (.val (.tup [rwS ([]), rwT ([])])) [] hs (by have b1 := b1; simp at b1; simp [cutK, cutV, b1]; try omega)
 have n1 := bne_eq_false_iff_eq.1 b1
 refine wN hs hI (bz 1 0) 1666078718668889729182918 [q1 b1, ⟨0 ≤ (0 : Int) ∧ (0 : Int) ≤ (min (t.k.length : Int) (t.v.length : Int)) ∧ (min (t.k.length : Int) (t.v.length : Int)) ≤ (min (t.k.length : Int) (t.v.length : Int)) ∧ (min (t.k.length : Int) (t.v.length : Int)) ≤ (t.k.length : Int), (by (repeat' apply And.intro) <;> (try split) <;> omega)⟩, ⟨0 ≤ (0 : Int) ∧ (0 : Int) ≤ (min (t.k.length : Int) (t.v.length : Int)) ∧ (min (t.k.length : Int) (t.v.length : Int)) ≤ (min (t.k.length : Int) (t.v.length : Int)) ∧ (min (t.k.length : Int) (t.v.length : Int)) ≤ (t.v.length : Int), (by (repeat' apply And.intro) <;> (try split) <;> omega)⟩] .ret [(2, rwS (t.k.take (min (t.k.length : Int) (t.v.length : Int)).toNat)), (3, rwT (t.v.take (min (t.k.length : Int) (t.v.length : Int)).toNat))] [] fun a w hs => ?_
 exact rK (.val (.tup [rwS (t.k.take (min (t.k.length : Int) (t.v.length : Int)).toNat), rwT (t.v.take (min (t.k.length : Int) (t.v.length : Int)).toNat)])) [] hs (by have b1 := b1; simp at b1; simp [cutK, cutV, b1]; try omega)
theorem con171 (xs : List ByteArray) (x : ByteArray) (hx : xs.length < 4611686018427387904) : Con Tryz.prog I0 102 [.row .str xs, vs x] (.val (vi (idxT x xs))) := by
 refine con_of Tryz.func102 rfl (Nat.le_of_ble_eq_true rfl) stab (fun w0 fz a hI hs => ?_)
 refine wNs hs hI [] 11 [] [(0, rwS xs), (1, vs x)] [] fun a w hs => ?_
 refine wp_seq ?_
 refine wNs hs hI [] 18 [] [(0, rwS xs), (1, vs x), (7, vi (xs.length : Int)), (8, vi 0)] [] fun a w hs => ?_
 refine wp_block ?_
 refine loop_L (N := Tryz.f102.ntmps) (w0 := w0) (ow := noO fz) (α := Nat) (fun p => [(0, rwS xs), (1, vs x), (7, vi (xs.length : Int)), (8, vi (p : Int))]) (fun p => []) (fun p => p ≤ xs.length ∧ ∀ j, j < p → ∀ d, eqT x (xs.getD j d) = false) (fun p => xs.length - p) 0 ?_ ?_ ?_
 exact ⟨Nat.zero_le _, fun j hj => absurd hj (Nat.not_lt_zero _)⟩
 exact hs.rk []
 rintro i hJ a w hs
 obtain ⟨hi, hall⟩ := hJ
 rcases bd ((i : Int) < (xs.length : Int)) with ⟨b1, n1⟩ | ⟨b1, n1⟩
 rcases bq (x.toList) ((xs.getD i (dflt .str)).toList) with ⟨b2, n2⟩ | ⟨b2, n2⟩
 refine wN hs hI (bz 2 3) 190796078982720 [q1 b1, q4 (i : Int) xs.length, q1 b2] .ret [(4, vi (i : Int))] [] fun a w hs => ?_
 refine then_ret ?_
 refine inb_ret ?_
 refine then_ret ?_
 exact rK (.val (vi (i : Int))) [] hs (by rw [idxT_at (i := i) (dflt .str) (by omega) b2 (fun j hj d => hall j hj d)])
 refine wN hs hI (bz 2 1) 1729796078982720 [q1 b1, q4 (i : Int) xs.length, q1 b2, q3 ((i : Int) + 1)] .norm [(0, rwS xs), (1, vs x), (7, vi (xs.length : Int)), (8, vi ((i : Int) + 1))] [] fun a w hs => ?_
 refine then_norm ⟨i + 1, ⟨by omega, fun j hj d => by rcases Nat.lt_succ_iff_lt_or_eq.1 hj with h | h; exact hall j h d; subst h; rw [getD_any' (by omega) d (dflt .str)]; exact b2⟩, by omega, ?_⟩
 exact hs.rk []
 refine wN hs hI (bz 1 0) 720 [q1 b1] (.exit 0) [] [] fun a w hs => ?_
 refine then_exit ?_
 refine inb_hit ?_
 refine then_norm ?_
 refine wN hs hI [] 120 [] .ret [(4, vi (-1))] [] fun a w hs => ?_
 exact rK (.val (vi (-1))) [] hs (by rw [idxT_no (fun j hj d => hall j (by omega) d)])
theorem con122 (t : Tree) (x : ByteArray) (hx : (cutK t).length < 4611686018427387904) : Con Tryz.prog I0 57 [.agg (encTree t), vs x] (.val (.tup [.agg (encTree (memV t x)), vb (memB t x)])) := by
 have hx1 := idxT_in x (cutK t)
 have hcl := cut_len t
 refine con_of Tryz.func57 rfl (Nat.le_of_ble_eq_true rfl) stab (fun w0 fz a hI hs => ?_)
 rcases bd ((idxT x (cutK t)) ≥ 0) with ⟨b1, n1⟩ | ⟨b1, n1⟩
 refine wL hs hI [(1, rc [(1, ciV 101 [aTr (t)] (.tup [rwS (cutK t), rwT (cutV t)]))]), (2, rc [(2, ciV 102 [rwS (cutK t), vs x] (vi (idxT x (cutK t))))])] (bz 1 1) 196871798604029688412918 [q1 b1, q4 (idxT x (cutK t)) ((cutV t).length)] .ret [(4, .ptr 1001 0), (5, vb true)] [(1001, bTr (((cutV t).getD ((idxT x (cutK t)).toNat) (dflt .tree))))] ⟨con173 _, con171 _ _ hx, tv⟩ fun a w hs => ?_
 exact rK (.val (.tup [aTr (((cutV t).getD ((idxT x (cutK t)).toNat) (dflt .tree))), vb true])) [] hs (by have h := memV_pos (by assumption); rw [h.1, h.2])
 refine wL hs hI [(1, rc [(1, ciV 101 [aTr (t)] (.tup [rwS (cutK t), rwT (cutV t)]))]), (2, rc [(2, ciV 102 [rwS (cutK t), vs x] (vi (idxT x (cutK t))))])] (bz 1 0) 1291829798604029688412918 [q1 b1] .ret [(4, .ptr 1001 0), (5, vb false)] [(1001, .var zTr)] ⟨con173 _, con171 _ _ hx, tv⟩ fun a w hs => ?_
 exact rK (.val (.tup [.agg [vi 0, vb false, vb false, rwU ([]), vi 0, vs (ba []), rwS ([]), rwT ([])], vb false])) [] hs (by have h := memV_neg (by assumption); rw [h.1, h.2]; rfl)
def getF : List ByteArray → Tree → Tree × Bool
 | [], t => (t, true)
 | n :: p, t => if memB t n = true then getF p (memV t n) else (Tree.zero, false)
theorem getF_yes {p : List ByteArray} {i : Nat} {u : Tree} (h : i < p.length) (hb : memB u (p.getD i (dflt .str)) = true) : getF (p.drop i) u = getF (p.drop (i + 1)) (memV u (p.getD i (dflt .str))) := by
 rw [List.drop_eq_getElem_cons h, getF]
 have e : p.getD i (dflt .str) = p[i] := by rw [List.getD_eq_getElem?_getD, List.getElem?_eq_getElem h]; rfl
 rw [e] at hb ⊢
 rw [if_pos hb]
theorem getF_no {p : List ByteArray} {i : Nat} {u : Tree} (h : i < p.length) (hb : memB u (p.getD i (dflt .str)) = false) : getF (p.drop i) u = (Tree.zero, false) := by
 rw [List.drop_eq_getElem_cons h, getF]
 have e : p.getD i (dflt .str) = p[i] := by rw [List.getD_eq_getElem?_getD, List.getElem?_eq_getElem h]; rfl
 rw [e] at hb
 rw [if_neg (by rw [hb]; decide)]
theorem nodesL_mem : ∀ {l : List Tree} {x : Tree}, x ∈ l → nodes x ≤ nodesL l
 | [], _, h => by simp at h
 | t :: l, x, h => by
  simp only [nodesL]
  rcases List.mem_cons.1 h with rfl | h
  omega
  have := nodesL_mem h; omega
theorem cutV_sub {t y : Tree} (h : y ∈ cutV t) : y ∈ t.v := by
 unfold cutV at h
 split at h
 exact List.mem_of_mem_take h
 simp at h
theorem memV_nodes {t : Tree} {x : ByteArray} (h : memB t x = true) : nodes (memV t x) ≤ nodes t := by
 have h0 : idxT x (cutK t) ≥ 0 := of_decide_eq_true h
 have h1 := idxT_in x (cutK t)
 have h2 := cut_len t
 rw [(memV_pos h0).1]
 have h3 : (idxT x (cutK t)).toNat < (cutV t).length := by omega
 have hm : (cutV t).getD (idxT x (cutK t)).toNat (dflt .tree) ∈ t.v := by
  refine cutV_sub ?_
  rw [List.getD_eq_getElem?_getD, List.getElem?_eq_getElem h3]
  exact List.getElem_mem h3
 have := nodesL_mem hm
 have := nodes_eq t
 omega
theorem eqT_iff {a b : ByteArray} : eqT a b = true ↔ a = b := by
 unfold eqT
 rw [beq_iff_eq]
 refine ⟨fun h => ?_, fun h => by rw [h]⟩
 rw [Lib.toList_data, Lib.toList_data] at h
 obtain ⟨⟨a⟩⟩ := a
 obtain ⟨⟨b⟩⟩ := b
 simp at h
 rw [h]
theorem eqT_ne {a b : ByteArray} : eqT a b = false ↔ a ≠ b := by
 cases h : eqT a b with
 | true => simp [eqT_iff.1 h]
 | false => simp only [true_iff]; intro e; rw [eqT_iff.2 e] at h; cases h
theorem eqT_self (a : ByteArray) : eqT a a = true := eqT_iff.2 rfl
abbrev Mem := List (ByteArray × Tree)
def lookA (x : ByteArray) : Mem → Option Tree
 | [] => none
 | (y, v) :: l => if eqT x y = true then some v else lookA x l
def gtB (a b : ByteArray) : Bool := !(Op.bytesLess a.toList b.toList || a.toList == b.toList)
def putA (x : ByteArray) (v : Tree) : Mem → Mem
 | [] => [(x, v)]
 | (y, u) :: l => if gtB y x = true then (x, v) :: (y, u) :: l else (y, u) :: putA x v l
def repA (x : ByteArray) (v : Tree) : Mem → Mem
 | [] => []
 | (y, u) :: l => if eqT x y = true then (y, v) :: l else (y, u) :: repA x v l
def insA (x : ByteArray) (v : Tree) (l : Mem) : Mem := if (lookA x l).isSome then repA x v l else putA x v l
def delA (x : ByteArray) : Mem → Mem
 | [] => []
 | (y, u) :: l => if eqT x y = true then l else (y, u) :: delA x l
theorem look_put {x y : ByteArray} {v : Tree} : ∀ {l : Mem}, lookA x l = none → lookA y (putA x v l) = if eqT y x = true then some v else lookA y l
 | [], _ => by simp [putA, lookA]
 | (z, u) :: l, h => by
  simp only [lookA] at h
  split at h
  cases h
  rename_i hz
  simp only [putA]
  split
  simp only [lookA]
  simp only [lookA]
  rw [look_put h]
  by_cases h1 : eqT y z = true
  simp only [h1, if_true]
  have : ¬ eqT y x = true := by rw [eqT_iff] at h1 hz ⊢; subst h1; exact fun e => hz e.symm
  simp [this]
  simp [h1]
theorem look_rep {x y : ByteArray} {v : Tree} : ∀ {l : Mem}, (lookA x l).isSome = true → lookA y (repA x v l) = if eqT y x = true then some v else lookA y l
 | [], h => by simp [lookA] at h
 | (z, u) :: l, h => by
  simp only [repA]
  by_cases hz : eqT x z = true
  simp only [hz, if_true, lookA]
  rw [eqT_iff] at hz; subst hz
  split <;> simp_all
  simp only [lookA, hz] at h
  simp only [hz, lookA]
  have ih := look_rep (y := y) (v := v) (l := l) (by simpa using h)
  by_cases h1 : eqT y z = true
  have : ¬ eqT y x = true := by rw [eqT_iff] at h1 hz ⊢; subst h1; exact fun e => hz e.symm
  simp [lookA, h1, this]
  simp [lookA, h1, ih]
theorem look_ins (x y : ByteArray) (v : Tree) (l : Mem) : lookA y (insA x v l) = if eqT y x = true then some v else lookA y l := by
 unfold insA
 split
 rename_i h; exact look_rep h
 rename_i h; exact look_put (by simpa using h)
theorem look_del_ne {x y : ByteArray} (hne : eqT y x = false) : ∀ {l : Mem}, lookA y (delA x l) = lookA y l
 | [] => rfl
 | (z, u) :: l => by
  simp only [delA]
  split
  rename_i h
  rw [eqT_iff] at h; subst h
  simp [lookA, hne]
  simp only [lookA, look_del_ne hne]
def Nodup (l : Mem) : Prop := (l.map (·.1)).Nodup
theorem look_notin {x : ByteArray} : ∀ {l : Mem}, x ∉ l.map (·.1) → lookA x l = none
 | [], _ => rfl
 | (y, u) :: l, h => by
  simp only [List.map_cons, List.mem_cons, not_or] at h
  simp only [lookA]
  rw [if_neg (by rw [eqT_iff]; exact h.1), look_notin h.2]
theorem look_del_self {x : ByteArray} : ∀ {l : Mem}, Nodup l → lookA x (delA x l) = none
 | [], _ => rfl
 | (y, u) :: l, h => by
  unfold Nodup at h
  simp only [List.map_cons, List.nodup_cons] at h
  simp only [delA]
  split
  rename_i e
  rw [eqT_iff] at e; subst e
  exact look_notin h.1
  rename_i e
  simp only [lookA, e]
  exact look_del_self h.2
def mems (t : Tree) : Mem := (cutK t).zip (cutV t)
theorem mems_k (t : Tree) : (mems t).map (·.1) = cutK t := by
 unfold mems
 rw [List.map_fst_zip (Nat.le_of_eq (cut_len t))]
theorem mems_v (t : Tree) : (mems t).map (·.2) = cutV t := by
 unfold mems
 rw [List.map_snd_zip (Nat.le_of_eq (cut_len t).symm)]
def objM (l : Mem) : Tree := .mk 7 false ⟨false, [], 0⟩ (ba []) (l.map (·.1)) (l.map (·.2))
theorem mems_objM (l : Mem) : mems (objM l) = l := by
 unfold mems cutK cutV objM
 simp only [Tree.kind, Tree.k, Tree.v, if_true, List.length_map, Nat.min_self]
 rw [List.take_of_length_le (by simp), List.take_of_length_le (by simp)]
 induction l with
 | nil => rfl
 | cons p l ih => simp [List.zip_cons_cons, ih]
theorem idxT_look (x : ByteArray) : ∀ l : Mem, (idxT x (l.map (·.1)) ≥ 0 ↔ (lookA x l).isSome = true) ∧ (idxT x (l.map (·.1)) ≥ 0 → lookA x l = some ((l.map (·.2)).getD (idxT x (l.map (·.1))).toNat (dflt .tree)))
 | [] => by simp [idxT, lookA]
 | (y, v) :: l => by
  obtain ⟨h1, h2⟩ := idxT_look x l
  simp only [List.map_cons, idxT, lookA]
  by_cases h : eqT x y = true
  simp [h]
  simp only [h]
  by_cases h0 : idxT x (l.map (·.1)) < 0
  have hn : ¬ (lookA x l).isSome = true := fun hh => by have := h1.2 hh; omega
  simp only [h0, if_true, Bool.false_eq_true, if_false]
  exact ⟨⟨fun hh => by omega, fun hh => absurd hh hn⟩, fun hh => by omega⟩
  have hp : idxT x (l.map (·.1)) ≥ 0 := by omega
  simp only [h0, if_false, Bool.false_eq_true]
  refine ⟨⟨fun _ => h1.1 hp, fun _ => by omega⟩, fun _ => ?_⟩
  rw [h2 hp, show (idxT x (l.map (·.1)) + 1).toNat = (idxT x (l.map (·.1))).toNat + 1 by omega, List.getD_cons_succ]
theorem memB_look (t : Tree) (x : ByteArray) : memB t x = (lookA x (mems t)).isSome := by
 have h := (idxT_look x (mems t)).1
 rw [mems_k] at h
 unfold memB memI
 rw [Bool.eq_iff_iff, decide_eq_true_iff]; exact h
theorem memV_look (t : Tree) (x : ByteArray) : memV t x = (lookA x (mems t)).getD Tree.zero := by
 have h := idxT_look x (mems t)
 rw [mems_k, mems_v] at h
 unfold memV memI
 by_cases h0 : idxT x (cutK t) ≥ 0
 rw [if_pos h0, h.2 h0]; rfl
 rw [if_neg h0]
 have hn : lookA x (mems t) = none := by
  cases hl : lookA x (mems t) with
  | none => rfl
  | some v => exact absurd (h.1.2 (by rw [hl]; rfl)) h0
 rw [hn]; rfl
def setT (t : Tree) (x : ByteArray) (v : Tree) : Tree := objM (insA x v (mems t))
def unsetT (t : Tree) (x : ByteArray) : Tree := if memB t x = true then objM (delA x (mems t)) else t
theorem look_setT (t : Tree) (x y : ByteArray) (v : Tree) : lookA y (mems (setT t x v)) = if eqT y x = true then some v else lookA y (mems t) := by
 unfold setT; rw [mems_objM, look_ins]
theorem look_unsetT_ne {t : Tree} {x y : ByteArray} (h : eqT y x = false) : lookA y (mems (unsetT t x)) = lookA y (mems t) := by
 unfold unsetT
 split
 rw [mems_objM, look_del_ne h]
 rfl
theorem look_unsetT_self {t : Tree} {x : ByteArray} (h : Nodup (mems t)) : lookA x (mems (unsetT t x)) = none := by
 unfold unsetT
 split
 rw [mems_objM, look_del_self h]
 rename_i hb
 rw [memB_look] at hb
 simpa using hb
end Go.Proofs.YtfimffgfnhplkaaGreatDoor.F
namespace Go.Proofs.YtfimffgfnhplkaaGreatDoor.X
open Go Go.RowKit
structure Hide0 (p : Prop) : Prop where
 out : p
theorem nt_Valid : Tryz.f154.ntmps = 24 := rfl
def validAt (s : ByteArray) : Nat → Nat → Bool
 | 0, _ => true
 | b + 1, i => if i < s.size then (if (Utf8.decode s i).1 = 65533 then (if (Utf8.decode s i).2 = 1 then false else validAt s b (i + (Utf8.decode s i).2)) else validAt s b (i + (Utf8.decode s i).2)) else true
theorem validAt_end (s : ByteArray) (b i : Nat) (h : ¬ i < s.size) : validAt s b i = true := by
 cases b with
 | zero => rfl
 | succ b => simp [validAt, h]
theorem run_next_at {P : Program} (W : World) (n : Nat) (s : ByteArray) (pos : Nat) (ty : TypeId) (hi : W.heap[n]? = some (.stringIter s pos)) (h : pos < s.size) :
  (Instr.next (.pointer (some ⟨n, 0, none⟩)) true ty).run P W = .ok (.tuple #[.bool true, .int .i64 pos, .int .i32 (Utf8.decode s pos).1]) { W with heap := W.heap.setIfInBounds n (.stringIter s (pos + (Utf8.decode s pos).2)) } := by
 simp only [Instr.next, getObj, setObj, Sem.run_bind, Sem.run, hi, Result.andThen, h, if_true]
 simp [goInt]
theorem run_next_at_end {P : Program} (W : World) (n : Nat) (s : ByteArray) (pos : Nat) (ty : TypeId) (hi : W.heap[n]? = some (.stringIter s pos)) (h : ¬ pos < s.size) :
  (Instr.next (.pointer (some ⟨n, 0, none⟩)) true ty).run P W = .ok (.tuple #[.bool false]) W := by
 simp [Instr.next, getObj, Sem.run, hi, h]
theorem decodeGo_from (s : ByteArray) (pos : Nat) (h : pos < s.size) : Lib.decodeGo (s.extract pos s.size) = Utf8.decode s pos := by
 have hx : (s.extract pos s.size).data.toList = s.data.toList.drop pos := by
  rw [Lib.extract_data, List.take_of_length_le (by rw [List.length_drop, ← Lib.size_eq]; omega)]
 have hsz : (s.extract pos s.size).size ≠ 0 := by rw [Lib.size_eq, hx, List.length_drop, ← Lib.size_eq]; omega
 unfold Lib.decodeGo
 rw [if_neg hsz, ← Lib.decodeL_drop s pos, ← hx]
 rfl
def World.turned (W : World) (n : Nat) (s : ByteArray) (p : Nat) : World := { W with heap := W.heap.setIfInBounds n (.stringIter s p) }
theorem turned_at {W : World} {n : Nat} {s s0 : ByteArray} {p q : Nat} (h : W.heap[n]? = some (.stringIter s0 q)) : (World.turned W n s p).heap[n]? = some (.stringIter s p) := by
 obtain ⟨hn, _⟩ := Array.getElem?_eq_some_iff.1 h
 show (W.heap.setIfInBounds n _)[n]? = _
 simp [Array.getElem?_setIfInBounds, hn]
theorem turned_below {B : Nat} {a W : World} {n : Nat} {s : ByteArray} {p : Nat} (h : Below B a W) (hn : B ≤ n) : Below B a (World.turned W n s p) :=
 ⟨h.os, h.tape, h.output, by show _ ≤ (W.heap.setIfInBounds n _).size; rw [Array.size_setIfInBounds]; exact h.size, fun k hk => by
  show (W.heap.setIfInBounds n _)[k]? = _
  rw [Array.getElem?_setIfInBounds_ne (by omega)]
  exact h.block k hk⟩
theorem run_next_on {P : Program} (W : World) (n : Nat) (s : ByteArray) (pos : Nat) (ty : TypeId) (hi : W.heap[n]? = some (.stringIter s pos)) (h : pos < s.size) :
  (Instr.next (.pointer (some ⟨n, 0, none⟩)) true ty).run P W = .ok (.tuple #[.bool true, .int .i64 pos, .int .i32 (Utf8.decode s pos).1]) (World.turned W n s (pos + (Utf8.decode s pos).2)) := run_next_at W n s pos ty hi h
def utf_Valid.f (s : ByteArray) : Option Bool := some (validAt s s.size 0)
set_option maxHeartbeats 8000000 in
theorem utf_Valid.calls (s : ByteArray) (r : Bool) (w : World) (hL : Laid w) (h : utf_Valid.f s = some r) :
  Calls Tryz.prog 154 #[.string s] w fun e w' => e = .returned (.bool r) ∧ Below w.heap.size w w' := by
 obtain rfl := Option.some.inj h
 clear h
 replace hL := Hide0.mk hL
 go_enter Tryz.func154, nt_Valid
 go_wp2
 refine wp_scope_straight ?_
 refine wp_seq ?_
 refine wp_label ?_
 go_wp2
 go_loopw [3] (fun n w' => ∃ (pos b : Nat), w'.heap[w.heap.size]? = some (.stringIter s pos) ∧ Below w.heap.size w w' ∧ Hide0 (validAt s b pos = validAt s s.size 0) ∧ s.size ≤ pos + b) (fun _ w' => s.size - w'.iterPos w.heap.size)
 case atStart => exact ⟨0, s.size, World.iter_heap w s 0, (Below.refl _ _).alloc (Nat.le_refl _) _, ⟨rfl⟩, by omega⟩
 case round =>
  obtain ⟨pos, b, hi, hB, hc, hb⟩ := hrel
  have hHI := Hide0.mk hi
  have hHB := Hide0.mk hB
  by_cases hp : pos < s.size
  ·have hnx : ∀ ty, (Instr.next (.pointer (some ⟨w.heap.size, 0, none⟩)) true ty).run Tryz.prog wr = _ := fun ty => run_next_on wr _ s pos ty hi hp
   have hK : 1 ≤ (Utf8.decode s pos).2 := Lib.width_pos s pos
   have hG := decodeGo_from s pos hp
   have hit := Hide0.mk (turned_at (s := s) (p := pos + (Utf8.decode s pos).2) hi)
   have hBt := Hide0.mk (turned_below (s := s) (p := pos + (Utf8.decode s pos).2) hB (Nat.le_refl _))
   have hip : (World.turned wr w.heap.size s (pos + (Utf8.decode s pos).2)).iterPos w.heap.size = pos + (Utf8.decode s pos).2 := by unfold World.iterPos; rw [hit.out]
   have hip0 : wr.iterPos w.heap.size = pos := by unfold World.iterPos; rw [hi]
   rcases b with _ | b
   ·omega
   have hv : validAt s (b + 1) pos = if (Utf8.decode s pos).1 = 65533 then (if (Utf8.decode s pos).2 = 1 then false else validAt s b (pos + (Utf8.decode s pos).2)) else validAt s b (pos + (Utf8.decode s pos).2) := by rw [validAt, if_pos hp]
   clear hi hB
   generalize hRe : (Utf8.decode s pos).1 = R at *
   generalize hKe : (Utf8.decode s pos).2 = K at *
   have hRK : Utf8.decode s pos = (R, K) := by rw [← hRe, ← hKe]
   by_cases hr : R = 65533
   ·subst hr
    rw [if_pos rfl] at hv
    by_cases hk : K = 1
    ·subst hk
     rw [if_pos rfl] at hv
     go_wp2_with (go_at_fn 171; done)
     refine (Tryz.utf8_DecodeRuneInString _ _ (hL.out.below hBt.out).utf8).mono ?_
     rintro e w' ⟨rfl, hb'⟩
     rw [hG, hRK]
     have hB2 := Hide0.mk (hBt.out.trans (hb'.mono hBt.out.size))
     clear hb' hit hip
     go_wp2
     (try rw [Exit.noGoto_ret])
     go_ret
     rw [← hc.out, hv]
     exact ⟨rfl, hB2.out⟩
    ·rw [if_neg hk] at hv
     have hk' : ¬ ((K : Int) = 1) := by omega
     go_wp2_with (go_at_fn 171; done)
     refine (Tryz.utf8_DecodeRuneInString _ _ (hL.out.below hBt.out).utf8).mono ?_
     rintro e w' ⟨rfl, hb'⟩
     rw [hG, hRK]
     have hB2 := Hide0.mk (hBt.out.trans (hb'.mono hBt.out.size))
     have hlt : w.heap.size < (World.turned wr w.heap.size s (pos + K)).heap.size := (Array.getElem?_eq_some_iff.1 hit.out).1
     have hit2 := Hide0.mk ((hb'.block _ hlt).trans hit.out)
     have hip2 : w'.iterPos w.heap.size = pos + K := by unfold World.iterPos; rw [hit2.out]
     clear hb' hit hip
     go_wp2
     go_roundw
     case rel => exact ⟨pos + K, b, hit2.out, hB2.out, ⟨hv.symm.trans hc.out⟩, by omega⟩
     case measure => rw [hip2, hip0]; omega
   ·have hr' : ¬ ((R : Int) = 65533) := by omega
    rw [if_neg hr] at hv
    go_wp2
    go_roundw
    case rel => exact ⟨pos + K, b, hit.out, hBt.out, ⟨hv.symm.trans hc.out⟩, by omega⟩
    case measure => rw [hip, hip0]; omega
  ·have hnx : ∀ ty, (Instr.next (.pointer (some ⟨w.heap.size, 0, none⟩)) true ty).run Tryz.prog wr = _ := fun ty => run_next_at_end wr _ s pos ty hi hp
   clear hi hB
   go_wp2
   (try rw [Exit.noGoto_ret])
   go_ret
   rw [← hc.out, validAt_end s b pos hp]
   exact ⟨rfl, hHB.out⟩
end Go.Proofs.YtfimffgfnhplkaaGreatDoor.X
namespace Go.Proofs.YtfimffgfnhplkaaGreatDoor.F
open Go Go.RowKit Go.Proofs.Tryz
theorem con_lits {P : Program} {I : World → Prop} {f : FuncId} {args : List Value} {r : Value} (h : ∀ w, I w → Calls P f args.toArray w fun e w' => e = .returned r ∧ Below w.heap.size w w') : Con P I f (args.map .lit) (.val (.lit r)) := by
 intro w fz vs hI hfz hR
 have hv : vs = args.toArray := by
  refine Array.ext (by simpa using hR.1) (fun i h1 h2 => ?_)
  have h3 : i < args.length := by simpa using h2
  have := (hR.2 i vs[i] (.lit args[i]) (Array.getElem?_eq_getElem h1) (by rw [List.getElem?_map, List.getElem?_eq_getElem h3]; rfl)).lit_inv
  simpa using this
 subst hv
 exact (h w hI).mono fun e w' hh => ⟨⟨_, hh.1, .lit _⟩, hh.2⟩
theorem conValid (s : ByteArray) {r : Bool} (h : X.validAt s s.size 0 = r) : Con Tryz.prog I0 154 [vs s] (.val (vb r)) :=
 con_lits (args := [.string s]) (fun w hI => X.utf_Valid.calls s r w hI (by rw [← h]; rfl))
def nameOk (s : ByteArray) (i : Nat) : Bool :=
 ((decide (bitsOr .u8 (byteAt s (i : Int)) 32 ≥ 97) && decide (bitsOr .u8 (byteAt s (i : Int)) 32 ≤ 122)) || byteAt s (i : Int) == 95) || (!((i : Int) == 0) && (!decide (byteAt s (i : Int) < 48) && !decide (byteAt s (i : Int) > 57)))
def nameF (s : ByteArray) : Bool := (List.range s.size).all (nameOk s) && (decide (s.size ≠ 0) && decide ((s.size : Int) ≤ 2000))
theorem nameF_no {s : ByteArray} {i : Nat} (h : i < s.size) (hn : nameOk s i = false) : nameF s = false := by
 have : (List.range s.size).all (nameOk s) = false := List.all_eq_false.2 ⟨i, by simpa using h, by simp [hn]⟩
 simp [nameF, this]
theorem nameF_yes {s : ByteArray} (h : ∀ j, j < s.size → nameOk s j = true) : nameF s = (decide (s.size ≠ 0) && decide ((s.size : Int) ≤ 2000)) := by
 have : (List.range s.size).all (nameOk s) = true := List.all_eq_true.2 (fun j hj => h j (by simpa using hj))
 simp [nameF, this]
theorem ba_nil_ne (s : ByteArray) : (!(s.toList == (ba []).toList)) = decide (s.size ≠ 0) := by
 have h1 : (ba []).toList = [] := by rw [Lib.toList_data]
 have h2 : s.toList = s.data.toList := Lib.toList_data s
 have h3 := Lib.size_eq s
 rw [h1, h2, h3]
 cases s.data.toList with
 | nil => rfl
 | cons x l => rfl
theorem con37 (s : ByteArray) (hs0 : s.size < 4294967281) : Con Tryz.prog I0 111 [vs s] (.val (vb (nameF s))) := by
 refine con_of Tryz.func111 rfl (Nat.le_of_ble_eq_true rfl) stab (fun w0 fz a hI hs => ?_)
 refine wNs hs hI [] 11 [] [(0, vs s)] [] fun a w hs => ?_
 refine wp_seq ?_
 refine wNs hs hI [] 18 [] [(0, vs s), (7, vi (s.size : Int)), (8, vi 0)] [] fun a w hs => ?_
 refine wp_block ?_
 refine loop_L (N := Tryz.f111.ntmps) (w0 := w0) (ow := noO fz) (α := Nat) (fun p => [(0, vs s), (7, vi (s.size : Int)), (8, vi (p : Int))]) (fun p => []) (fun p => p ≤ s.size ∧ ∀ j, j < p → nameOk s j = true) (fun p => s.size - p) 0 ?_ ?_ ?_
 exact ⟨Nat.zero_le _, fun j hj => absurd hj (Nat.not_lt_zero _)⟩
 exact hs.rk []
 rintro i hJ a w hs
 obtain ⟨hi, hall⟩ := hJ
 refine wNs hs hI [] 11 [] [(0, vs s), (7, vi (s.size : Int)), (8, vi (i : Int)), (9, vb (decide ((i : Int) < (s.size : Int))))] [] fun a w hs => ?_
 refine wp_seq ?_
 rcases bd ((i : Int) < (s.size : Int)) with ⟨b1, n1⟩ | ⟨b1, n1⟩
 refine wN hs hI (bz 1 1) 7 [q1 b1] .norm [(0, vs s), (7, vi (s.size : Int)), (8, vi (i : Int))] [] fun a w hs => ?_
 refine then_norm ?_
 rcases bd ((bitsOr .u8 (byteAt s (i : Int)) 32) ≥ 97) with ⟨b2, n2⟩ | ⟨b2, n2⟩
 rcases bd ((bitsOr .u8 (byteAt s (i : Int)) 32) ≤ 122) with ⟨b3, n3⟩ | ⟨b3, n3⟩
 refine wL hs hI [(5, rg [] [3, 4, 1005, 1011] [7, 8, 9, 10]), (6, rg [] [] [3, 4, 5, 10, 11, 16, 1017])] (bz 1 0) 172679666673873873382966617333377782607098 [q4 (i : Int) s.size, q1 b2, q1 b2, q1 b2, q1 b3, q1 b3, q1 b3, q1 b3, q1 b3, q0 false, q0 false, q0 false, q0 false, q0 false, q0 false, q0 false, q0 false, q3 ((i : Int) + 1)] .norm [(0, vs s), (7, vi (s.size : Int)), (8, vi ((i : Int) + 1))] [] tv fun a w hs => ?_
 refine then_norm ⟨i + 1, ⟨by omega, fun j hj => by rcases Nat.lt_succ_iff_lt_or_eq.1 hj with h | rfl; exact hall j h; simp only [nameOk, b1, b2, b3]; rfl⟩, by omega, ?_⟩
 exact hs.rk []
 rcases bq (byteAt s (i : Int)) (95) with ⟨b4, n4⟩ | ⟨b4, n4⟩
 refine wL hs hI [(5, rg [] [3, 4, 1005, 7, 8, 9, 10] [1011]), (6, rg [] [] [3, 4, 5, 10, 11, 16, 1017])] (bz 1 0) 17267966667387387338296666177337777782607098 [q4 (i : Int) s.size, q1 b2, q1 b2, q1 b2, q1 b3, q1 b3, q1 b3, q4 (i : Int) s.size, q1 b3, q1 b3, q1 (ng1 b4), q1 (ng1 b4), q1 (ng1 b4), q1 (ng1 b4), q1 (ng1 b4), q1 (ng1 b4), q1 (ng1 b4), q0 false, q3 ((i : Int) + 1)] .norm [(0, vs s), (7, vi (s.size : Int)), (8, vi ((i : Int) + 1))] [] tv fun a w hs => ?_
 refine then_norm ⟨i + 1, ⟨by omega, fun j hj => by rcases Nat.lt_succ_iff_lt_or_eq.1 hj with h | rfl; exact hall j h; simp only [nameOk, b1, b2, b3, b4]; rfl⟩, by omega, ?_⟩
 exact hs.rk []
 rcases bq (i : Int) (0) with ⟨b5, n5⟩ | ⟨b5, n5⟩
 refine wL hs hI [(5, rg [] [3, 4, 1005, 7, 8, 9, 10] [1011]), (6, rg [] [3, 4, 5, 10, 1010, 11, 16, 1016, 1017] [6, 7, 8, 9, 12, 13, 14, 15])] (bz 1 1) 1217666666733333373333337778296666177337777782607098 [q4 (i : Int) s.size, q1 b2, q1 b2, q1 b2, q1 b3, q1 b3, q1 b3, q4 (i : Int) s.size, q1 b3, q1 b3, q1 (ng0 b4), q1 (ng0 b4), q1 (ng0 b4), q1 b5, q1 b5, q1 b5, q1 b5, q1 (ng0 b4), q1 b5, q1 (ng0 b4), q0 true, q0 true, q0 true, q0 true, q1 (ng0 b4), q0 true, q1 (ng0 b4), q0 true] .ret [(2, vb false)] [] tv fun a w hs => ?_
 refine then_ret ?_
 refine inb_ret ?_
 refine then_ret ?_
 exact rK (.val (vb false)) [] hs (by rw [nameF_no (s := s) (i := i) (by omega) (by simp only [nameOk, b1, b2, b3, b4, b5]; rfl)])
 rcases bd ((byteAt s (i : Int)) < 48) with ⟨b6, n6⟩ | ⟨b6, n6⟩
 refine wL hs hI [(5, rg [] [3, 4, 1005, 7, 8, 9, 10] [1011]), (6, rg [] [3, 4, 5, 6, 7, 8, 9, 10, 11, 16, 1016, 1017] [1010, 12, 13, 14, 15])] (bz 1 1) 121766666667333333733733777778296666177337777782607098 [q4 (i : Int) s.size, q1 b2, q1 b2, q1 b2, q1 b3, q1 b3, q1 b3, q4 (i : Int) s.size, q1 b3, q1 b3, q1 (ng0 b4), q1 (ng0 b4), q1 (ng0 b4), q1 b5, q1 b5, q1 b5, q4 (i : Int) s.size, q1 b5, q1 (ng0 b4), q1 b5, q1 (ng0 b4), q1 b6, q1 b6, q1 b6, q1 b6, q1 (ng0 b4), q1 b6, q1 (ng0 b4), q0 true] .ret [(2, vb false)] [] tv fun a w hs => ?_
 refine then_ret ?_
 refine inb_ret ?_
 refine then_ret ?_
 exact rK (.val (vb false)) [] hs (by rw [nameF_no (s := s) (i := i) (by omega) (by simp only [nameOk, b1, b2, b3, b4, b5, b6]; rfl)])
 rcases bd ((byteAt s (i : Int)) > 57) with ⟨b7, n7⟩ | ⟨b7, n7⟩
 refine wL hs hI [(5, rg [] [3, 4, 1005, 7, 8, 9, 10] [1011]), (6, rg [] [3, 4, 5, 6, 7, 8, 9, 10, 11, 12, 13, 14, 15, 16, 1017] [1010, 1016])] (bz 1 1) 12176666666673373377733733777778296666177337777782607098 [q4 (i : Int) s.size, q1 b2, q1 b2, q1 b2, q1 b3, q1 b3, q1 b3, q4 (i : Int) s.size, q1 b3, q1 b3, q1 (ng0 b4), q1 (ng0 b4), q1 (ng0 b4), q1 b5, q1 b5, q1 b5, q4 (i : Int) s.size, q1 b5, q1 (ng0 b4), q1 b5, q1 (ng0 b4), q1 b6, q1 b6, q1 b6, q4 (i : Int) s.size, q1 b6, q1 (ng0 b4), q1 b6, q1 (ng0 b4), q1 b7] .ret [(2, vb false)] [] tv fun a w hs => ?_
 refine then_ret ?_
 refine inb_ret ?_
 refine then_ret ?_
 exact rK (.val (vb false)) [] hs (by rw [nameF_no (s := s) (i := i) (by omega) (by simp only [nameOk, b1, b2, b3, b4, b5, b6, b7]; rfl)])
 refine wL hs hI [(5, rg [] [3, 4, 1005, 7, 8, 9, 10] [1011]), (6, rg [] [3, 4, 5, 6, 7, 8, 9, 10, 11, 12, 13, 14, 15, 16, 1017] [1010, 1016])] (bz 1 0) 172676666666673373377733733777778296666177337777782607098 [q4 (i : Int) s.size, q1 b2, q1 b2, q1 b2, q1 b3, q1 b3, q1 b3, q4 (i : Int) s.size, q1 b3, q1 b3, q1 (ng0 b4), q1 (ng0 b4), q1 (ng0 b4), q1 b5, q1 b5, q1 b5, q4 (i : Int) s.size, q1 b5, q1 (ng0 b4), q1 b5, q1 (ng0 b4), q1 b6, q1 b6, q1 b6, q4 (i : Int) s.size, q1 b6, q1 (ng0 b4), q1 b6, q1 (ng0 b4), q1 b7, q3 ((i : Int) + 1)] .norm [(0, vs s), (7, vi (s.size : Int)), (8, vi ((i : Int) + 1))] [] tv fun a w hs => ?_
 refine then_norm ⟨i + 1, ⟨by omega, fun j hj => by rcases Nat.lt_succ_iff_lt_or_eq.1 hj with h | rfl; exact hall j h; simp only [nameOk, b1, b2, b3, b4, b5, b6, b7]; rfl⟩, by omega, ?_⟩
 exact hs.rk []
 rcases bq (byteAt s (i : Int)) (95) with ⟨b8, n8⟩ | ⟨b8, n8⟩
 refine wL hs hI [(5, rg [] [7, 8, 9, 10] [3, 4, 1005, 1011]), (6, rg [] [] [3, 4, 5, 10, 11, 16, 1017])] (bz 1 0) 1726796666738738733826666177337773382607098 [q4 (i : Int) s.size, q1 b2, q1 b2, q1 b2, q0 false, q0 false, q0 false, q4 (i : Int) s.size, q0 false, q0 false, q1 (ng1 b8), q1 (ng1 b8), q1 (ng1 b8), q1 (ng1 b8), q1 (ng1 b8), q1 (ng1 b8), q1 (ng1 b8), q0 false, q3 ((i : Int) + 1)] .norm [(0, vs s), (7, vi (s.size : Int)), (8, vi ((i : Int) + 1))] [] tv fun a w hs => ?_
 refine then_norm ⟨i + 1, ⟨by omega, fun j hj => by rcases Nat.lt_succ_iff_lt_or_eq.1 hj with h | rfl; exact hall j h; simp only [nameOk, b1, b2, b8]; rfl⟩, by omega, ?_⟩
 exact hs.rk []
 rcases bq (i : Int) (0) with ⟨b9, n9⟩ | ⟨b9, n9⟩
 refine wL hs hI [(5, rg [] [7, 8, 9, 10] [3, 4, 1005, 1011]), (6, rg [] [3, 4, 5, 10, 1010, 11, 16, 1016, 1017] [6, 7, 8, 9, 12, 13, 14, 15])] (bz 1 1) 121766666673333337333333777826666177337773382607098 [q4 (i : Int) s.size, q1 b2, q1 b2, q1 b2, q0 false, q0 false, q0 false, q4 (i : Int) s.size, q0 false, q0 false, q1 (ng0 b8), q1 (ng0 b8), q1 (ng0 b8), q1 b9, q1 b9, q1 b9, q1 b9, q1 (ng0 b8), q1 b9, q1 (ng0 b8), q0 true, q0 true, q0 true, q0 true, q1 (ng0 b8), q0 true, q1 (ng0 b8), q0 true] .ret [(2, vb false)] [] tv fun a w hs => ?_
 refine then_ret ?_
 refine inb_ret ?_
 refine then_ret ?_
 exact rK (.val (vb false)) [] hs (by rw [nameF_no (s := s) (i := i) (by omega) (by simp only [nameOk, b1, b2, b8, b9]; rfl)])
 rcases bd ((byteAt s (i : Int)) < 48) with ⟨b10, n10⟩ | ⟨b10, n10⟩
 refine wL hs hI [(5, rg [] [7, 8, 9, 10] [3, 4, 1005, 1011]), (6, rg [] [3, 4, 5, 6, 7, 8, 9, 10, 11, 16, 1016, 1017] [1010, 12, 13, 14, 15])] (bz 1 1) 12176666666733333373373377777826666177337773382607098 [q4 (i : Int) s.size, q1 b2, q1 b2, q1 b2, q0 false, q0 false, q0 false, q4 (i : Int) s.size, q0 false, q0 false, q1 (ng0 b8), q1 (ng0 b8), q1 (ng0 b8), q1 b9, q1 b9, q1 b9, q4 (i : Int) s.size, q1 b9, q1 (ng0 b8), q1 b9, q1 (ng0 b8), q1 b10, q1 b10, q1 b10, q1 b10, q1 (ng0 b8), q1 b10, q1 (ng0 b8), q0 true] .ret [(2, vb false)] [] tv fun a w hs => ?_
 refine then_ret ?_
 refine inb_ret ?_
 refine then_ret ?_
 exact rK (.val (vb false)) [] hs (by rw [nameF_no (s := s) (i := i) (by omega) (by simp only [nameOk, b1, b2, b8, b9, b10]; rfl)])
 rcases bd ((byteAt s (i : Int)) > 57) with ⟨b11, n11⟩ | ⟨b11, n11⟩
 refine wL hs hI [(5, rg [] [7, 8, 9, 10] [3, 4, 1005, 1011]), (6, rg [] [3, 4, 5, 6, 7, 8, 9, 10, 11, 12, 13, 14, 15, 16, 1017] [1010, 1016])] (bz 1 1) 1217666666667337337773373377777826666177337773382607098 [q4 (i : Int) s.size, q1 b2, q1 b2, q1 b2, q0 false, q0 false, q0 false, q4 (i : Int) s.size, q0 false, q0 false, q1 (ng0 b8), q1 (ng0 b8), q1 (ng0 b8), q1 b9, q1 b9, q1 b9, q4 (i : Int) s.size, q1 b9, q1 (ng0 b8), q1 b9, q1 (ng0 b8), q1 b10, q1 b10, q1 b10, q4 (i : Int) s.size, q1 b10, q1 (ng0 b8), q1 b10, q1 (ng0 b8), q1 b11] .ret [(2, vb false)] [] tv fun a w hs => ?_
 refine then_ret ?_
 refine inb_ret ?_
 refine then_ret ?_
 exact rK (.val (vb false)) [] hs (by rw [nameF_no (s := s) (i := i) (by omega) (by simp only [nameOk, b1, b2, b8, b9, b10, b11]; rfl)])
 refine wL hs hI [(5, rg [] [7, 8, 9, 10] [3, 4, 1005, 1011]), (6, rg [] [3, 4, 5, 6, 7, 8, 9, 10, 11, 12, 13, 14, 15, 16, 1017] [1010, 1016])] (bz 1 0) 17267666666667337337773373377777826666177337773382607098 [q4 (i : Int) s.size, q1 b2, q1 b2, q1 b2, q0 false, q0 false, q0 false, q4 (i : Int) s.size, q0 false, q0 false, q1 (ng0 b8), q1 (ng0 b8), q1 (ng0 b8), q1 b9, q1 b9, q1 b9, q4 (i : Int) s.size, q1 b9, q1 (ng0 b8), q1 b9, q1 (ng0 b8), q1 b10, q1 b10, q1 b10, q4 (i : Int) s.size, q1 b10, q1 (ng0 b8), q1 b10, q1 (ng0 b8), q1 b11, q3 ((i : Int) + 1)] .norm [(0, vs s), (7, vi (s.size : Int)), (8, vi ((i : Int) + 1))] [] tv fun a w hs => ?_
 refine then_norm ⟨i + 1, ⟨by omega, fun j hj => by rcases Nat.lt_succ_iff_lt_or_eq.1 hj with h | rfl; exact hall j h; simp only [nameOk, b1, b2, b8, b9, b10, b11]; rfl⟩, by omega, ?_⟩
 exact hs.rk []
 refine wN hs hI (bz 1 0) 7 [q1 b1] (.exit 0) [(0, vs s)] [] fun a w hs => ?_
 refine then_exit ?_
 refine then_exit ?_
 refine inb_hit ?_
 refine then_norm ?_
 rcases bq (s.toList) ((ba []).toList) with ⟨b12, n12⟩ | ⟨b12, n12⟩
 refine wL hs hI [(9, rg [] [] [3, 4, 5, 1006])] [] 166173338 [q1 (ng1 b12), q1 (ng1 b12), q1 (ng1 b12), q1 (ng1 b12)] .ret [(2, vb false)] [] tv fun a w hs => ?_
 exact rK (.val (vb false)) [] hs (by rw [nameF_yes (s := s) (fun j hj => hall j (by omega)), ← ba_nil_ne]; simp only [b1, b12]; try rfl)
 refine wL hs hI [(9, rg [] [3, 4, 5, 1006] [])] [] 12966177778 [q1 (ng0 b12), q1 (ng0 b12), q1 (ng0 b12), q1 (ng0 b12)] .ret [(2, vb (decide ((s.size : Int) ≤ 2000)))] [] tv fun a w hs => ?_
 exact rK (.val (vb (decide ((s.size : Int) ≤ 2000)))) [] hs (by rw [nameF_yes (s := s) (fun j hj => hall j (by omega)), ← ba_nil_ne]; simp only [b1, b12]; try rfl)
def idxF {α : Type} (q : α → Bool) : List α → Int
 | [] => -1
 | x :: l => if q x = true then 0 else if idxF q l < 0 then -1 else idxF q l + 1
theorem idxF_no {α : Type} {q : α → Bool} : ∀ {l : List α}, (∀ j, j < l.length → ∀ d, q (l.getD j d) = false) → idxF q l = -1
 | [], _ => rfl
 | x :: l, h => by
  have h0 : q x = false := h 0 (by simp) x
  have h1 := idxF_no (l := l) (fun j hj d => h (j + 1) (by simpa using hj) d)
  simp [idxF, h0, h1]
theorem idxF_at {α : Type} {q : α → Bool} : ∀ {l : List α} {i : Nat} (d : α), i < l.length → q (l.getD i d) = true → (∀ j, j < i → ∀ d, q (l.getD j d) = false) → idxF q l = (i : Int)
 | [], _, _, h, _, _ => by simp at h
 | x :: l, 0, d, h, hq, _ => by
  have hq' : q x = true := hq
  simp [idxF, hq']
 | x :: l, i + 1, d, h, hq, hn => by
  have h0 : q x = false := hn 0 (by omega) x
  have h1 := idxF_at (l := l) (i := i) d (by simpa using h) hq (fun j hj d => hn (j + 1) (by omega) d)
  simp only [idxF, h0, h1]
  rw [if_neg (by decide), if_neg (by omega)]
  omega
theorem idxF_any {α : Type} (q : α → Bool) : ∀ l : List α, decide (idxF q l ≥ 0) = l.any q
 | [] => rfl
 | x :: l => by
  have h1 := idxF_any q l
  by_cases hq : q x = true
  have e : idxF q (x :: l) = 0 := by simp [idxF, hq]
  rw [decide_eq_true (by omega), List.any_cons, hq]; rfl
  have hq' : q x = false := by simpa using hq
  by_cases hn : idxF q l < 0
  have e : idxF q (x :: l) = -1 := by simp [idxF, hq', hn]
  rw [List.any_cons, ← h1, hq', decide_eq_false (by omega), decide_eq_false (by omega)]; rfl
  have e : idxF q (x :: l) = idxF q l + 1 := by simp [idxF, hq', hn]
  rw [List.any_cons, ← h1, hq', decide_eq_true (by omega), decide_eq_true (by omega)]; rfl
theorem getD_mem {α : Type} {l : List α} {i : Nat} (h : i < l.length) (d : α) : l.getD i d ∈ l := by
 rw [List.getD_eq_getElem?_getD, List.getElem?_eq_getElem h]; exact List.getElem_mem h
theorem getD_any {α : Type} {l : List α} {i : Nat} (h : i < l.length) (d d' : α) : l.getD i d = l.getD i d' := by
 rw [List.getD_eq_getElem?_getD, List.getD_eq_getElem?_getD, List.getElem?_eq_getElem h]; rfl
def small (s : ByteArray) : Prop := s.size < 4294967281
def badPath (p : List ByteArray) : Bool := ((p.length : Int) == 0) || (decide ((p.length : Int) > 63) || p.any fun n => !nameF n)
def checkF (l : List (List ByteArray)) : Bool := decide ((l.length : Int) ≤ 60) && !(l.any badPath)
theorem con91 (s : ByteArray) (hs0 : s.size < 4294967281) : Con Tryz.prog I0 110 [vs s] (.val (vb (!nameF s))) := by
 refine con_of Tryz.func110 rfl (Nat.le_of_ble_eq_true rfl) stab (fun w0 fz a hI hs => ?_)
 refine wL hs hI [(1, rc [(1, ciV 111 [vs s] (vb (nameF s)))])] [] 1684120 [] .ret [(2, vb (!(nameF s)))] [] ⟨con37 _ (by assumption), tv⟩ fun a w hs => ?_
 exact rK (.val (vb (!(nameF s)))) [] hs rfl
theorem con140_91 (xs : List ByteArray) (hxs : ∀ x ∈ xs, small x) (hlen : xs.length < 4294967281) : Con Tryz.prog I0 145 [.row .str xs, .lit (.func (.func 110) #[] #[])] (.val (vi (idxF (fun n => !nameF n) xs))) := by
 refine con_of Tryz.func145 rfl (Nat.le_of_ble_eq_true rfl) stab (fun w0 fz a hI hs => ?_)
 refine wNs hs hI [] 11 [] [(0, rwS xs), (1, .lit (.func (.func 110) #[] #[]))] [] fun a w hs => ?_
 refine wp_seq ?_
 refine wNs hs hI [] 18 [] [(0, rwS xs), (1, .lit (.func (.func 110) #[] #[])), (7, vi (xs.length : Int)), (8, vi 0)] [] fun a w hs => ?_
 refine wp_block ?_
 refine loop_L (N := Tryz.f145.ntmps) (w0 := w0) (ow := noO fz) (α := Nat) (fun p => [(0, rwS xs), (1, .lit (.func (.func 110) #[] #[])), (7, vi (xs.length : Int)), (8, vi (p : Int))]) (fun p => []) (fun p => p ≤ xs.length ∧ ∀ j, j < p → ∀ d, (fun n => !nameF n) (xs.getD j d) = false) (fun p => xs.length - p) 0 ?_ ?_ ?_
 exact ⟨Nat.zero_le _, fun j hj => absurd hj (Nat.not_lt_zero _)⟩
 exact hs.rk []
 rintro i hJ a w hs
 obtain ⟨hi, hall⟩ := hJ
 rcases bd ((i : Int) < (xs.length : Int)) with ⟨b1, n1⟩ | ⟨b1, n1⟩
 rcases bt (!nameF (xs.getD i (dflt .str))) with b2 | b2
 refine wL hs hI [(4, rc [(5, ciV 110 [vs (xs.getD i (dflt .str))] (vb (!nameF (xs.getD i (dflt .str)))))])] (bz 2 3) 1907961478982720 [q1 b1, q4 (i : Int) xs.length, q1 b2] .ret [(4, vi (i : Int))] [] ⟨con91 _ (hxs _ (getD_mem (by omega) _)), tv⟩ fun a w hs => ?_
 refine then_ret ?_
 refine inb_ret ?_
 refine then_ret ?_
 exact rK (.val (vi (i : Int))) [] hs (by rw [idxF_at (q := (fun n => !nameF n)) (i := i) (dflt .str) (by omega) (by first | exact b2 | (simp only [b2]; rfl)) (fun j hj d => hall j hj d)])
 refine wL hs hI [(4, rc [(5, ciV 110 [vs (xs.getD i (dflt .str))] (vb (!nameF (xs.getD i (dflt .str)))))])] (bz 2 1) 17297961478982720 [q1 b1, q4 (i : Int) xs.length, q1 b2, q3 ((i : Int) + 1)] .norm [(0, rwS xs), (1, .lit (.func (.func 110) #[] #[])), (7, vi (xs.length : Int)), (8, vi ((i : Int) + 1))] [] ⟨con91 _ (hxs _ (getD_mem (by omega) _)), tv⟩ fun a w hs => ?_
 refine then_norm ⟨i + 1, ⟨by omega, fun j hj d => by rcases Nat.lt_succ_iff_lt_or_eq.1 hj with h | h; exact hall j h d; subst h; rw [getD_any (by omega) d (dflt .str)]; exact b2⟩, by omega, ?_⟩
 exact hs.rk []
 refine wN hs hI (bz 1 0) 720 [q1 b1] (.exit 0) [] [] fun a w hs => ?_
 refine then_exit ?_
 refine inb_hit ?_
 refine then_norm ?_
 refine wN hs hI [] 120 [] .ret [(4, vi (-1))] [] fun a w hs => ?_
 exact rK (.val (vi (-1))) [] hs (by rw [idxF_no (q := (fun n => !nameF n)) (fun j hj d => hall j (by omega) d)])
theorem con83_91 (xs : List ByteArray) (hxs : ∀ x ∈ xs, small x) (hlen : xs.length < 4294967281) : Con Tryz.prog I0 109 [.row .str xs, .lit (.func (.func 110) #[] #[])] (.val (vb (xs.any (fun n => !nameF n)))) := by
 refine con_of Tryz.func109 rfl (Nat.le_of_ble_eq_true rfl) stab (fun w0 fz a hI hs => ?_)
 refine wL hs hI [(1, rc [(2, ciV 145 [rwS xs, .lit (.func (.func 110) #[] #[])] (vi (idxF (fun n => !nameF n) xs)))])] [] 12684020 [] .ret [(4, vb (decide ((idxF (fun n => !nameF n) xs) ≥ 0)))] [] ⟨con140_91 _ hxs hlen, tv⟩ fun a w hs => ?_
 exact rK (.val (vb (decide ((idxF (fun n => !nameF n) xs) ≥ 0)))) [] hs (by rw [← idxF_any])
theorem con90 (xs : List ByteArray) (hxs : ∀ x ∈ xs, small x) (hlen : xs.length < 4294967281) : Con Tryz.prog I0 108 [.row .str xs] (.val (vb (badPath xs))) := by
 refine con_of Tryz.func108 rfl (Nat.le_of_ble_eq_true rfl) stab (fun w0 fz a hI hs => ?_)
 rcases bq (xs.length : Int) (0) with ⟨b1, n1⟩ | ⟨b1, n1⟩
 refine wL hs hI [(1, rg [] [1007, 1011] [4, 5, 6, 9, 10])] [] 12666173373331820 [q1 b1, q1 b1, q1 b1, q1 b1, q0 true, q0 true, q0 true] .ret [(2, vb true)] [] tv fun a w hs => ?_
 exact rK (.val (vb true)) [] hs (by simp only [badPath, b1]; try rfl)
 rcases bd ((xs.length : Int) > 63) with ⟨b2, n2⟩ | ⟨b2, n2⟩
 refine wL hs hI [(1, rg [] [4, 5, 6, 1011] [1007, 9, 10])] [] 16666173377771820 [q1 b1, q1 b1, q1 b1, q1 b1, q1 b2, q1 b2, q1 b2] .ret [(2, vb true)] [] tv fun a w hs => ?_
 exact rK (.val (vb true)) [] hs (by simp only [badPath, b1, b2]; try rfl)
 refine wL hs hI [(1, rg [(10, ciV 109 [rwS xs, .lit (.func (.func 110) #[] #[])] (vb (xs.any (fun n => !nameF n))))] [4, 5, 6, 9, 10] [1007, 1011])] [] 1966661743777771820 [q1 b1, q1 b1, q1 b1, q1 b1, q1 b2, q1 b2, q1 b2] .ret [(2, vb (xs.any (fun n => !nameF n)))] [] ⟨con83_91 _ hxs hlen, tv⟩ fun a w hs => ?_
 exact rK (.val (vb (xs.any (fun n => !nameF n)))) [] hs (by simp only [badPath, b1, b2]; try rfl)
def smalls (p : List ByteArray) : Prop := (∀ x ∈ p, small x) ∧ p.length < 4294967281
theorem con146 (xs : List (List ByteArray)) (hxs : ∀ x ∈ xs, smalls x) (hlen : xs.length < 4294967281) : Con Tryz.prog I0 144 [.row .strs xs, .lit (.func (.func 108) #[] #[])] (.val (vi (idxF badPath xs))) := by
 refine con_of Tryz.func144 rfl (Nat.le_of_ble_eq_true rfl) stab (fun w0 fz a hI hs => ?_)
 refine wNs hs hI [] 11 [] [(0, .row .strs xs), (1, .lit (.func (.func 108) #[] #[]))] [] fun a w hs => ?_
 refine wp_seq ?_
 refine wNs hs hI [] 18 [] [(0, .row .strs xs), (1, .lit (.func (.func 108) #[] #[])), (7, vi (xs.length : Int)), (8, vi 0)] [] fun a w hs => ?_
 refine wp_block ?_
 refine loop_L (N := Tryz.f144.ntmps) (w0 := w0) (ow := noO fz) (α := Nat) (fun p => [(0, .row .strs xs), (1, .lit (.func (.func 108) #[] #[])), (7, vi (xs.length : Int)), (8, vi (p : Int))]) (fun p => []) (fun p => p ≤ xs.length ∧ ∀ j, j < p → ∀ d, badPath (xs.getD j d) = false) (fun p => xs.length - p) 0 ?_ ?_ ?_
 exact ⟨Nat.zero_le _, fun j hj => absurd hj (Nat.not_lt_zero _)⟩
 exact hs.rk []
 rintro i hJ a w hs
 obtain ⟨hi, hall⟩ := hJ
 rcases bd ((i : Int) < (xs.length : Int)) with ⟨b1, n1⟩ | ⟨b1, n1⟩
 rcases bt (badPath (xs.getD i (dflt .strs))) with b2 | b2
 refine wL hs hI [(4, rc [(5, ciV 108 [rwS (xs.getD i (dflt .strs))] (vb (badPath (xs.getD i (dflt .strs)))))])] (bz 2 3) 1907961478982720 [q1 b1, q4 (i : Int) xs.length, q1 b2] .ret [(4, vi (i : Int))] [] ⟨con90 _ (hxs _ (getD_mem (by omega) _)).1 (hxs _ (getD_mem (by omega) _)).2, tv⟩ fun a w hs => ?_
 refine then_ret ?_
 refine inb_ret ?_
 refine then_ret ?_
 exact rK (.val (vi (i : Int))) [] hs (by rw [idxF_at (q := badPath) (i := i) (dflt .strs) (by omega) b2 (fun j hj d => hall j hj d)])
 refine wL hs hI [(4, rc [(5, ciV 108 [rwS (xs.getD i (dflt .strs))] (vb (badPath (xs.getD i (dflt .strs)))))])] (bz 2 1) 17297961478982720 [q1 b1, q4 (i : Int) xs.length, q1 b2, q3 ((i : Int) + 1)] .norm [(0, .row .strs xs), (1, .lit (.func (.func 108) #[] #[])), (7, vi (xs.length : Int)), (8, vi ((i : Int) + 1))] [] ⟨con90 _ (hxs _ (getD_mem (by omega) _)).1 (hxs _ (getD_mem (by omega) _)).2, tv⟩ fun a w hs => ?_
 refine then_norm ⟨i + 1, ⟨by omega, fun j hj d => by rcases Nat.lt_succ_iff_lt_or_eq.1 hj with h | h; exact hall j h d; subst h; rw [getD_any (by omega) d (dflt .strs)]; exact b2⟩, by omega, ?_⟩
 exact hs.rk []
 refine wN hs hI (bz 1 0) 720 [q1 b1] (.exit 0) [] [] fun a w hs => ?_
 refine then_exit ?_
 refine inb_hit ?_
 refine then_norm ?_
 refine wN hs hI [] 120 [] .ret [(4, vi (-1))] [] fun a w hs => ?_
 exact rK (.val (vi (-1))) [] hs (by rw [idxF_no (q := badPath) (fun j hj d => hall j (by omega) d)])
theorem con89 (xs : List (List ByteArray)) (hxs : ∀ x ∈ xs, smalls x) (hlen : xs.length < 4294967281) : Con Tryz.prog I0 107 [.row .strs xs, .lit (.func (.func 108) #[] #[])] (.val (vb (xs.any badPath))) := by
 refine con_of Tryz.func107 rfl (Nat.le_of_ble_eq_true rfl) stab (fun w0 fz a hI hs => ?_)
 refine wL hs hI [(1, rc [(2, ciV 144 [.row .strs xs, .lit (.func (.func 108) #[] #[])] (vi (idxF badPath xs)))])] [] 12684020 [] .ret [(4, vb (decide ((idxF badPath xs) ≥ 0)))] [] ⟨con146 _ hxs hlen, tv⟩ fun a w hs => ?_
 exact rK (.val (vb (decide ((idxF badPath xs) ≥ 0)))) [] hs (by rw [← idxF_any])
theorem con39 (xs : List (List ByteArray)) (hxs : ∀ x ∈ xs, smalls x) (hlen : xs.length < 4294967281) : Con Tryz.prog I0 69 [.row .strs xs] (.val (vb (checkF xs))) := by
 refine con_of Tryz.func69 rfl (Nat.le_of_ble_eq_true rfl) stab (fun w0 fz a hI hs => ?_)
 rcases bd ((xs.length : Int) ≤ 60) with ⟨b1, n1⟩ | ⟨b1, n1⟩
 refine wL hs hI [(1, rg [(5, ciV 107 [.row .strs xs, .lit (.func (.func 108) #[] #[])] (vb (xs.any badPath)))] [4, 5, 6, 1007] [])] [] 16661774371820 [q1 b1, q1 b1, q1 b1, q1 b1] .ret [(2, vb (!(xs.any badPath)))] [] ⟨con89 _ hxs hlen, tv⟩ fun a w hs => ?_
 exact rK (.val (vb (!(xs.any badPath)))) [] hs (by simp only [checkF, b1]; try rfl)
 refine wL hs hI [(1, rg [] [] [4, 5, 6, 1007])] [] 1266173331820 [q1 b1, q1 b1, q1 b1, q1 b1] .ret [(2, vb false)] [] tv fun a w hs => ?_
 exact rK (.val (vb false)) [] hs (by simp only [checkF, b1]; try rfl)
theorem con_grow_str (n : Int) (h0 : 0 ≤ n) (hn : n < 4000000000) : Con Tryz.prog I0 141 [nilv, vi n] (.own 9 .str ([])) := by
 refine con_of Tryz.func141 rfl (Nat.le_of_ble_eq_true rfl) stab (fun w0 fz a hI hs => ?_)
 have b1 : (decide (n < 0)) = false := by exact decide_eq_false (by omega)
 rcases bd ((n - 0) > 0) with ⟨b2, n2⟩ | ⟨b2, n2⟩
 refine wN hs hI (bz 2 2) 19826661717187986617308979820 [q1 b1, q3 0, q3 (n - 0), q1 b2, q2 (0 ≤ (n - 0) ∧ (((n - 0).toNat) * 16 : Nat) ≤ 140737488355328), q2 (0 ≤ (0 : Int) ∧ (0 : Int) ≤ (List.replicate (n - 0).toNat (dflt .str)).length)] .ret [(4, .own 6008)] [(6008, .sl 9 .str ((List.replicate (n - 0).toNat (dflt .str)).take 0))] fun a w hs => ?_
 exact FnQ_cast (out := .own 9 .str ((List.replicate (n - 0).toNat (dflt .str)).take 0)) (by rw [List.take_zero]) (ret_ok [] hs (.inl ⟨6008, by kernel_rfl, rfl⟩))
 refine wN hs hI (bz 2 0) 198297986617308979820 [q1 b1, q3 0, q3 (n - 0), q1 b2] .ret [(4, nilv)] [] fun a w hs => ?_
 exact FnQ_cast (out := .own 9 .str ([])) (rfl) (ret_ok [] hs (.inr ⟨by kernel_rfl, rfl⟩))
theorem con_cat_str (xs ys : List (El .str)) (h : xs.length + ys.length < 4000000000) : Con Tryz.prog I0 104 [.row .strs ([xs, ys])] (.own 9 .str (xs ++ ys)) := by
 refine con_of Tryz.func104 rfl (Nat.le_of_ble_eq_true rfl) stab (fun w0 fz a hI hs => ?_)
 refine wNs hs hI [] 11 [] [(0, .row .strs ([xs, ys]))] [] fun a w hs => ?_
 refine wNs hs hI [] 11 [] [(0, .row .strs ([xs, ys])), (3, vi 0)] [] fun a w hs => ?_
 refine wp_seq ?_
 refine wNs hs hI [] 18 [] [(0, .row .strs ([xs, ys])), (3, vi 0), (9, .row .strs ([xs, ys])), (10, vi 2), (11, vi 0)] [] fun a w hs => ?_
 refine wp_block ?_
 refine wp_loop_rounds 3 ?_
 refine rounds_step ?_
 have b1 : (decide ((0 + (xs.length : Int)) < 0)) = false := by exact decide_eq_false (by omega)
 refine wN hs hI (bz 2 1) 1767982617829072720 [q0 true, ⟨(0 : Int) ≤ 0 ∧ (0 : Int) < ((2 : Nat) : Int), (by decide)⟩, q3 (0 + (xs.length : Int)), q1 b1, q3 1] .norm [(0, .row .strs ([xs, ys])), (3, vi (0 + (xs.length : Int))), (9, .row .strs ([xs, ys])), (10, vi 2), (11, vi 1)] [] fun a w hs => ?_
 refine then_norm ?_
 refine rounds_step ?_
 have b2 : (decide (((0 + (xs.length : Int)) + (ys.length : Int)) < 0)) = false := by exact decide_eq_false (by omega)
 refine wN hs hI (bz 2 1) 1767982617829072720 [q0 true, ⟨(0 : Int) ≤ 1 ∧ (1 : Int) < ((2 : Nat) : Int), (by decide)⟩, q3 ((0 + (xs.length : Int)) + (ys.length : Int)), q1 b2, q3 2] .norm [(0, .row .strs ([xs, ys])), (3, vi ((0 + (xs.length : Int)) + (ys.length : Int))), (9, .row .strs ([xs, ys])), (10, vi 2), (11, vi 2)] [] fun a w hs => ?_
 refine then_norm ?_
 refine rounds_step ?_
 refine wN hs hI (bz 1 0) 720 [q0 false] (.exit 0) [(0, .row .strs ([xs, ys])), (3, vi ((0 + (xs.length : Int)) + (ys.length : Int)))] [] fun a w hs => ?_
 refine then_exit ?_
 refine inb_hit ?_
 refine then_norm ?_
 refine wLs hs hI [(9, rc [(1, ciA 141 [nilv, vi ((0 + (xs.length : Int)) + (ys.length : Int))] [] [] (.own 9 .str ([])))])] [] 1141 [] [(0, .row .strs ([xs, ys])), (6, .own 10001)] [(10001, .sl 9 .str ([]))] ⟨con_grow_str _ (by omega) (by omega), tv⟩ fun a w hs => ?_
 refine wp_seq ?_
 refine wNs hs hI [] 18 [] [(6, .own 10001), (25, .row .strs ([xs, ys])), (26, vi 2), (27, vi 0)] [(10001, .sl 9 .str ([]))] fun a w hs => ?_
 refine wp_block ?_
 refine wp_loop_rounds 3 ?_
 refine rounds_step ?_
 refine wN hs hI (bz 1 1) 172617029072720 [q0 true, ⟨(0 : Int) ≤ 0 ∧ (0 : Int) < ((2 : Nat) : Int), (by decide)⟩, q7 0 xs.length 16, q3 1] .norm [(6, .own 14002), (25, .row .strs ([xs, ys])), (26, vi 2), (27, vi 1)] [(14002, .sl 9 .str (([]) ++ xs))] fun a w hs => ?_
 refine then_norm ?_
 have hs := hs.rmT [(6, .own 10000001), (25, .row .strs ([xs, ys])), (26, vi 2), (27, vi 1)] [(10000001, .sl 9 .str (([]) ++ xs))] [(10000001, 14002)] (by kernel_rfl)
 refine rounds_step ?_
 refine wN hs hI (bz 1 1) 172617029072720 [q0 true, ⟨(0 : Int) ≤ 1 ∧ (1 : Int) < ((2 : Nat) : Int), (by decide)⟩, ⟨(((([]) ++ xs).length + ys.length) * 16 : Nat) ≤ 140737488355328 ∧ (([]) ++ xs).length + ys.length ≤ 140737488355328, (by simp only [List.nil_append]; omega)⟩, q3 2] .norm [(6, .own 14002), (25, .row .strs ([xs, ys])), (26, vi 2), (27, vi 2)] [(14002, .sl 9 .str ((([]) ++ xs) ++ ys))] fun a w hs => ?_
 refine then_norm ?_
 have hs := hs.rmT [(6, .own 10000002), (25, .row .strs ([xs, ys])), (26, vi 2), (27, vi 2)] [(10000002, .sl 9 .str ((([]) ++ xs) ++ ys))] [(10000002, 14002)] (by kernel_rfl)
 refine rounds_step ?_
 refine wN hs hI (bz 1 0) 720 [q0 false] (.exit 2) [(6, .own 10000002)] [(10000002, .sl 9 .str ((([]) ++ xs) ++ ys))] fun a w hs => ?_
 refine then_exit ?_
 refine inb_hit ?_
 refine then_norm ?_
 refine wN hs hI [] 198 [] .ret [(2, .own 10000002)] [(10000002, .sl 9 .str ((([]) ++ xs) ++ ys))] fun a w hs => ?_
 exact FnQ_cast (out := .own 9 .str ((([]) ++ xs) ++ ys)) (by simp) (ret_ok [] hs (.inl ⟨10000002, by kernel_rfl, rfl⟩))
def setP : List ByteArray → Tree → Tree → Tree
 | [], _, v => v
 | n :: p, t, v => setT t n (setP p (memV t n) v)
def unsetP : List ByteArray → Tree → Tree
 | [], t => t
 | [n], t => unsetT t n
 | n :: m :: p, t => if memB t n = true then setT t n (unsetP (m :: p) (memV t n)) else t
theorem setP_at {q : List ByteArray} {t v : Tree} (h : 0 < q.length) : setP q t v = setT t (q.getD 0 (dflt .str)) (setP (q.drop 1) (memV t (q.getD 0 (dflt .str))) v) := by
 cases q with
 | nil => simp at h
 | cons n q => rfl
theorem unsetP_one {q : List ByteArray} {t : Tree} (h : q.length = 1) : unsetP q t = unsetT t (q.getD 0 (dflt .str)) := by
 match q, h with
 | [n], _ => rfl
theorem unsetP_yes {q : List ByteArray} {t : Tree} (h : 1 < q.length) (hb : memB t (q.getD 0 (dflt .str)) = true) : unsetP q t = setT t (q.getD 0 (dflt .str)) (unsetP (q.drop 1) (memV t (q.getD 0 (dflt .str)))) := by
 match q, h with
 | n :: m :: q, _ => show (if memB t n = true then _ else t) = _; rw [if_pos (show memB t n = true from hb)]; rfl
theorem unsetP_no {q : List ByteArray} {t : Tree} (h : 1 < q.length) (hb : memB t (q.getD 0 (dflt .str)) = false) : unsetP q t = t := by
 match q, h with
 | n :: m :: q, _ => show (if memB t n = true then _ else t) = _; rw [if_neg (by rw [show memB t n = false from hb]; decide)]
theorem memV_nodes' (t : Tree) (x : ByteArray) : nodes (memV t x) ≤ nodes t := by
 cases h : memB t x with
 | true => exact memV_nodes h
 | false =>
  have h0 : ¬ idxT x (cutK t) ≥ 0 := of_decide_eq_false h
  rw [(memV_neg h0).1, show nodes Tree.zero = 1 from by simp [Tree.zero, nodes, nodesL]]
  have := nodes_eq t; omega
def cmpB (a b : ByteArray) : Int := if Op.bytesLess a.toList b.toList = true then -1 else if gtB a b = true then 1 else 0
def cmpS : List ByteArray → List ByteArray → Int
 | [], [] => 0
 | [], _ :: _ => -1
 | _ :: _, [] => 1
 | x :: xs, y :: ys => if cmpB x y = 0 then cmpS xs ys else cmpB x y
theorem cmpS_go {xs ys : List ByteArray} {i : Nat} (hi : i < xs.length) (hj : i < ys.length) : cmpS (xs.drop i) (ys.drop i) = if cmpB (xs.getD i (dflt .str)) (ys.getD i (dflt .str)) = 0 then cmpS (xs.drop (i + 1)) (ys.drop (i + 1)) else cmpB (xs.getD i (dflt .str)) (ys.getD i (dflt .str)) := by
 rw [List.drop_eq_getElem_cons hi, List.drop_eq_getElem_cons hj, cmpS]
 have e : xs.getD i (dflt .str) = xs[i] := by rw [List.getD_eq_getElem?_getD, List.getElem?_eq_getElem hi]; rfl
 have e' : ys.getD i (dflt .str) = ys[i] := by rw [List.getD_eq_getElem?_getD, List.getElem?_eq_getElem hj]; rfl
 rw [e, e']
theorem cmpS_gt {xs ys : List ByteArray} {i : Nat} (hi : i < xs.length) (hj : ¬ i < ys.length) : cmpS (xs.drop i) (ys.drop i) = 1 := by
 rw [List.drop_eq_getElem_cons hi, List.drop_of_length_le (l := ys) (by omega)]; rfl
theorem cmpS_lt {xs ys : List ByteArray} {i : Nat} (hi : ¬ i < xs.length) (hj : i < ys.length) : cmpS (xs.drop i) (ys.drop i) = -1 := by
 rw [List.drop_of_length_le (l := xs) (by omega), List.drop_eq_getElem_cons hj]; rfl
theorem cmpS_nil {xs ys : List ByteArray} {i : Nat} (hi : ¬ i < xs.length) (hj : ¬ i < ys.length) : cmpS (xs.drop i) (ys.drop i) = 0 := by
 rw [List.drop_of_length_le (l := xs) (by omega), List.drop_of_length_le (l := ys) (by omega)]; rfl
def startsF (a b : List ByteArray) : Bool := decide ((a.length : Int) ≤ (b.length : Int)) && decide (a = b.take a.length)
theorem list_eq {a b : List ByteArray} (hl : a.length = b.length) (h : ∀ j, j < a.length → ∀ d, a.getD j d = b.getD j d) : a = b := by
 refine List.ext_getElem hl (fun i h1 h2 => ?_)
 have := h i h1 (dflt .str)
 rw [List.getD_eq_getElem?_getD, List.getD_eq_getElem?_getD, List.getElem?_eq_getElem h1, List.getElem?_eq_getElem h2] at this
 exact this
theorem con134 (xs ys : List ByteArray) (h : xs.length < 1000000000) (h2 : ys.length < 1000000000) : Con Tryz.prog I0 99 [.row .str xs, .row .str ys] (.val (vb (decide (xs = ys)))) := by
 refine con_of Tryz.func99 rfl (Nat.le_of_ble_eq_true rfl) stab (fun w0 fz a hI hs => ?_)
 refine wNs hs hI [] 11 [] [(0, rwS xs), (1, rwS ys)] [] fun a w hs => ?_
 refine wp_seq ?_
 rcases bt ((xs.length : Int) != (ys.length : Int)) with b1 | b1
 have n1 := bne_iff_ne.1 b1
 refine wN hs hI (bz 1 1) 12172688 [q1 b1] .ret [(4, vb false)] [] fun a w hs => ?_
 refine then_ret ?_
 exact rK (.val (vb false)) [] hs (by rw [decide_eq_false (fun e => by subst e; omega)])
 have n1 := bne_eq_false_iff_eq.1 b1
 refine wN hs hI (bz 1 0) 72688 [q1 b1] .norm [(0, rwS xs), (1, rwS ys)] [] fun a w hs => ?_
 refine then_norm ?_
 refine wp_seq ?_
 refine wNs hs hI [] 18 [] [(0, rwS xs), (1, rwS ys), (12, vi (xs.length : Int)), (13, vi 0)] [] fun a w hs => ?_
 refine wp_block ?_
 refine loop_L (N := Tryz.f99.ntmps) (w0 := w0) (ow := noO fz) (α := Nat) (fun p => [(0, rwS xs), (1, rwS ys), (12, vi (xs.length : Int)), (13, vi (p : Int))]) (fun p => []) (fun p => p ≤ xs.length ∧ ∀ j, j < p → ∀ d, xs.getD j d = ys.getD j d) (fun p => xs.length - p) 0 ?_ ?_ ?_
 exact ⟨Nat.zero_le _, fun j hj => absurd hj (Nat.not_lt_zero _)⟩
 exact (hs.cst [(0, rwS xs), (1, rwS ys), (12, vi (xs.length : Int)), (13, vi ((0 : Nat) : Int))] [] rfl).rk []
 rintro i hJ a w hs
 obtain ⟨hi, hall⟩ := hJ
 rcases bd ((i : Int) < (xs.length : Int)) with ⟨b2, n2⟩ | ⟨b2, n2⟩
 rcases bq ((xs.getD i (dflt .str)).toList) ((ys.getD i (dflt .str)).toList) with ⟨b3, n3⟩ | ⟨b3, n3⟩
 refine wN hs hI (bz 2 1) 1729726607070982720 [q1 b2, q4 (i : Int) xs.length, q4 (i : Int) ys.length, q1 (ng1 b3), q3 ((i : Int) + 1)] .norm [(0, rwS xs), (1, rwS ys), (12, vi (xs.length : Int)), (13, vi ((i : Int) + 1))] [] fun a w hs => ?_
 refine then_norm ⟨i + 1, ⟨by omega, fun j hj d => by rcases Nat.lt_succ_iff_lt_or_eq.1 hj with h | h; exact hall j h d; subst h; rw [getD_any (by omega) d (dflt .str), getD_any (l := ys) (by omega) d (dflt .str)]; exact eqT_iff.1 b3⟩, by omega, ?_⟩
 exact hs.rk []
 refine wN hs hI (bz 2 3) 121726607070982720 [q1 b2, q4 (i : Int) xs.length, q4 (i : Int) ys.length, q1 (ng0 b3)] .ret [(4, vb false)] [] fun a w hs => ?_
 refine then_ret ?_
 refine inb_ret ?_
 refine then_ret ?_
 exact rK (.val (vb false)) [] hs (by rw [decide_eq_false (fun e => by subst e; exact absurd (eqT_self _) (by rw [show eqT _ _ = false from b3]; decide))])
 refine wN hs hI (bz 1 0) 720 [q1 b2] (.exit 0) [] [] fun a w hs => ?_
 refine then_exit ?_
 refine inb_hit ?_
 refine then_norm ?_
 refine wN hs hI [] 120 [] .ret [(4, vb true)] [] fun a w hs => ?_
 exact rK (.val (vb true)) [] hs (by rw [decide_eq_true (list_eq (by omega) (fun j hj d => hall j (by omega) d))])
def ltB (a b : ByteArray) : Prop := a.toList < b.toList
theorem ltB_irrefl (a : ByteArray) : ¬ ltB a a := List.lt_irrefl _
theorem ltB_trans {a b c : ByteArray} (h1 : ltB a b) (h2 : ltB b c) : ltB a c := List.lt_trans h1 h2
theorem toList_inj {a b : ByteArray} (h : a.toList = b.toList) : a = b := eqT_iff.1 (by unfold eqT; rw [h]; simp)
theorem ltB_tri (a b : ByteArray) : ltB a b ∨ a = b ∨ ltB b a := by
 by_cases h1 : a.toList < b.toList
 exact .inl h1
 by_cases h2 : b.toList < a.toList
 exact .inr (.inr h2)
 exact .inr (.inl (toList_inj (List.le_antisymm (List.not_lt.1 h2) (List.not_lt.1 h1))))
theorem ltB_less {a b : ByteArray} : Op.bytesLess a.toList b.toList = true ↔ ltB a b := by rw [bytesLess_eq]; exact decide_eq_true_iff
theorem cmpB_of_lt {a b : ByteArray} (h : ltB a b) : cmpB a b = -1 := if_pos (ltB_less.2 h)
theorem cmpB_self (a : ByteArray) : cmpB a a = 0 := by
 unfold cmpB gtB
 rw [if_neg (fun h => ltB_irrefl a (ltB_less.1 h))]
 simp
theorem cmpB_of_gt {a b : ByteArray} (h : ltB b a) : cmpB a b = 1 := by
 have h1 : ¬ ltB a b := fun h2 => ltB_irrefl _ (ltB_trans h h2)
 have h2 : Op.bytesLess a.toList b.toList = false := by
  cases hb : Op.bytesLess a.toList b.toList with
  | false => rfl
  | true => exact absurd (ltB_less.1 hb) h1
 have h3 : (a.toList == b.toList) = false := by
  cases hb : a.toList == b.toList with
  | false => rfl
  | true =>
   have := toList_inj (eq_of_beq hb)
   subst this; exact absurd h h1
 unfold cmpB gtB
 rw [h2, h3]; rfl
theorem cmpB_neg {a b : ByteArray} : cmpB a b < 0 ↔ ltB a b := by
 rcases ltB_tri a b with h | h | h
 rw [cmpB_of_lt h]; simp [h]
 subst h; rw [cmpB_self]; simp [ltB_irrefl]
 rw [cmpB_of_gt h]; exact ⟨fun h => absurd h (by decide), fun h2 => absurd (ltB_trans h h2) (ltB_irrefl _)⟩
theorem cmpB_zero {a b : ByteArray} : cmpB a b = 0 ↔ a = b := by
 rcases ltB_tri a b with h | h | h
 rw [cmpB_of_lt h]; exact ⟨fun h => absurd h (by decide), fun e => by subst e; exact absurd h (ltB_irrefl _)⟩
 subst h; simp [cmpB_self]
 rw [cmpB_of_gt h]; exact ⟨fun h => absurd h (by decide), fun e => by subst e; exact absurd h (ltB_irrefl _)⟩
theorem cmpB_pos {a b : ByteArray} : 0 < cmpB a b ↔ ltB b a := by
 rcases ltB_tri a b with h | h | h
 rw [cmpB_of_lt h]; exact ⟨fun h => absurd h (by decide), fun h2 => absurd (ltB_trans h h2) (ltB_irrefl _)⟩
 subst h; rw [cmpB_self]; simp [ltB_irrefl]
 rw [cmpB_of_gt h]; simp [h]
theorem cmpS_self : ∀ xs : List ByteArray, cmpS xs xs = 0
 | [] => rfl
 | x :: xs => by rw [cmpS, cmpB_self, if_pos rfl, cmpS_self xs]
theorem cmpS_zero : ∀ {xs ys : List ByteArray}, cmpS xs ys = 0 → xs = ys
 | [], [], _ => rfl
 | [], _ :: _, h => absurd h (by simp [cmpS])
 | _ :: _, [], h => absurd h (by simp [cmpS])
 | x :: xs, y :: ys, h => by
  rw [cmpS] at h
  split at h
  rename_i e
  rw [cmpB_zero.1 e, cmpS_zero h]
  rename_i e; exact absurd h e
theorem cmpS_swap : ∀ (xs ys : List ByteArray), cmpS xs ys < 0 ↔ 0 < cmpS ys xs
 | [], [] => by simp [cmpS]
 | [], _ :: _ => by simp [cmpS]
 | _ :: _, [] => by simp [cmpS]
 | x :: xs, y :: ys => by
  rw [cmpS, cmpS]
  by_cases e : x = y
  subst e
  rw [cmpB_self, if_pos rfl, if_pos rfl]; exact cmpS_swap xs ys
  rw [if_neg (fun h => e (cmpB_zero.1 h)), if_neg (fun h => e (cmpB_zero.1 h).symm), cmpB_neg, cmpB_pos]
theorem cmpS_trans : ∀ {xs ys zs : List ByteArray}, cmpS xs ys < 0 → cmpS ys zs < 0 → cmpS xs zs < 0
 | [], [], _, h, _ => absurd h (by simp [cmpS])
 | _ :: _, [], _, h, _ => absurd h (by simp [cmpS])
 | _, _ :: _, [], _, h => absurd h (by simp [cmpS])
 | [], _ :: _, _ :: _, _, _ => by simp [cmpS]
 | x :: xs, y :: ys, z :: zs, h1, h2 => by
  rw [cmpS] at h1 h2 ⊢
  by_cases e1 : x = y
  subst e1
  rw [cmpB_self, if_pos rfl] at h1
  by_cases e2 : x = z
  subst e2
  rw [cmpB_self, if_pos rfl] at h2 ⊢
  exact cmpS_trans h1 h2
  rw [if_neg (fun h => e2 (cmpB_zero.1 h))] at h2 ⊢
  exact h2
  rw [if_neg (fun h => e1 (cmpB_zero.1 h)), cmpB_neg] at h1
  by_cases e2 : y = z
  subst e2
  rw [if_neg (fun h => e1 (cmpB_zero.1 h)), cmpB_neg]; exact h1
  rw [if_neg (fun h => e2 (cmpB_zero.1 h)), cmpB_neg] at h2
  have h3 := ltB_trans h1 h2
  rw [if_neg (fun h => by rw [cmpB_zero.1 h] at h3; exact ltB_irrefl _ h3), cmpB_neg]; exact h3
theorem cmpS_le_trans {xs ys zs : List ByteArray} (h1 : ¬ cmpS xs ys < 0) (h2 : ¬ cmpS ys zs < 0) : ¬ cmpS xs zs < 0 := by
 intro h
 rcases Int.lt_trichotomy (cmpS xs ys) 0 with a | a | a
 exact h1 a
 rw [cmpS_zero a] at h; exact h2 h
 have := cmpS_trans ((cmpS_swap _ _).2 a) h
 exact h2 this
theorem cmpS_anti {xs ys : List ByteArray} (h1 : ¬ cmpS xs ys < 0) (h2 : ¬ cmpS ys xs < 0) : xs = ys := by
 rcases Int.lt_trichotomy (cmpS xs ys) 0 with a | a | a
 exact absurd a h1
 exact cmpS_zero a
 exact absurd ((cmpS_swap _ _).2 a) h2
open Go.Proofs Go.Sort
def sortP (l : List (List ByteArray)) : List (List ByteArray) := l.mergeSort (fun x y => !decide (cmpS y x < 0))
structure It (w : World) (fz : Nat → Prop) (η : Nat → Option Value) where
 v : Value
 xs : List ByteArray
 hr : R w fz η v (.row .str xs)
 len : xs.length < 1000000000
section
variable {w : World} {fz : Nat → Prop} {η : Nat → Option Value}
instance : Inhabited (It w fz η) := ⟨⟨.slice none 0 0, [], .row none 0 .str [] (fun _ _ => .bool false) (Nat.le_refl _) (Nat.zero_le _) (fun i x h => by simp at h) (fun i x j y h => by simp at h), by decide⟩⟩
theorem its : ∀ (xs : List (List ByteArray)) (cs : List Value), cs.length = xs.length → (∀ (i : Nat) (x : List ByteArray) (v : Value), xs[i]? = some x → cs[i]? = some v → R w fz η v (.row .str x)) → (∀ x ∈ xs, x.length < 1000000000) → ∃ l : List (It w fz η), l.map It.v = cs ∧ l.map It.xs = xs
 | [], [], _, _, _ => ⟨[], rfl, rfl⟩
 | [], _ :: _, h, _, _ => by simp at h
 | _ :: _, [], h, _, _ => by simp at h
 | x :: xs, c :: cs, h, hr, hl => by
  obtain ⟨l, h1, h2⟩ := its xs cs (by simpa using h) (fun i x v hx hv => hr (i + 1) x v (by simpa using hx) (by simpa using hv)) (fun x hx => hl x (by simp [hx]))
  exact ⟨⟨c, x, hr 0 x c rfl rfl, hl x (by simp)⟩ :: l, by simp [h1], by simp [h2]⟩
end
def textOk (s : ByteArray) : Bool := decide ((s.size : Int) ≤ 2000) && X.validAt s s.size 0
theorem con215 (s : ByteArray) : Con Tryz.prog I0 139 [vs s] (.val (vb (textOk s))) := by
 refine con_of Tryz.func139 rfl (Nat.le_of_ble_eq_true rfl) stab (fun w0 fz a hI hs => ?_)
 rcases bd ((s.size : Int) ≤ 2000) with ⟨b1, n1⟩ | ⟨b1, n1⟩
 refine wL hs hI [(1, rg [(5, ciV 154 [vs s] (vb (X.validAt s s.size 0)))] [4, 5, 1006] [])] [] 1966174371820 [q1 b1, q1 b1, q1 b1] .ret [(2, vb (X.validAt s s.size 0))] [] ⟨conValid _ rfl, tv⟩ fun a w hs => ?_
 exact rK (.val (vb (X.validAt s s.size 0))) [] hs (by simp only [textOk]; rw [b1]; rfl)
 refine wL hs hI [(1, rg [] [] [4, 5, 1006])] [] 16617331820 [q1 b1, q1 b1, q1 b1] .ret [(2, vb false)] [] tv fun a w hs => ?_
 exact rK (.val (vb false)) [] hs (by simp only [textOk]; rw [b1]; rfl)
def nmOk (l : List ByteArray) (i : Nat) : Bool := textOk (l.getD i (dflt .str)) && (!(decide ((i : Int) > 0)) || Op.bytesLess (l.getD ((i : Int) - 1).toNat (dflt .str)).toList (l.getD i (dflt .str)).toList)
def namesOk (l : List ByteArray) : Bool := (List.range l.length).all (nmOk l) && decide ((l.length : Int) ≤ 300)
theorem all_no' {n : Nat} {q : Nat → Bool} {i : Nat} (h : i < n) (hn : q i = false) : (List.range n).all q = false := List.all_eq_false.2 ⟨i, by simpa using h, by simp [hn]⟩
theorem all_yes' {n : Nat} {q : Nat → Bool} (h : ∀ j, j < n → q j = true) : (List.range n).all q = true := List.all_eq_true.2 (fun j hj => h j (by simpa using hj))
theorem con216 (l : List ByteArray) (hl : l.length < 4611686018427387904) : Con Tryz.prog I0 140 [.row .str l] (.val (vb (namesOk l))) := by
 refine con_of Tryz.func140 rfl (Nat.le_of_ble_eq_true rfl) stab (fun w0 fz a hI hs => ?_)
 refine wNs hs hI [] 11 [] [(0, rwS l)] [] fun a w hs => ?_
 refine wp_seq ?_
 refine wNs hs hI [] 18 [] [(0, rwS l), (5, rwS l), (6, vi (l.length : Int)), (7, vi 0)] [] fun a w hs => ?_
 refine wp_block ?_
 refine loop_L (N := Tryz.f140.ntmps) (w0 := w0) (ow := noO fz) (α := Nat) (fun p => [(0, rwS l), (5, rwS l), (6, vi (l.length : Int)), (7, vi (p : Int))]) (fun p => []) (fun p => p ≤ l.length ∧ ∀ j, j < p → nmOk l j = true) (fun p => l.length - p) 0 ?_ ?_ ?_
 exact ⟨Nat.zero_le _, fun j hj => absurd hj (Nat.not_lt_zero _)⟩
 exact hs.rk []
 rintro i hJ a w hs
 obtain ⟨hi, hall⟩ := hJ
 rcases bd ((i : Int) < (l.length : Int)) with ⟨b1, n1⟩ | ⟨b1, n1⟩
 rcases bt (textOk (l.getD i (dflt .str))) with b2 | b2
 rcases bd ((i : Int) > 0) with ⟨b3, n3⟩ | ⟨b3, n3⟩
 rcases bt (Op.bytesLess (l.getD (((i : Int) - 1).toNat) (dflt .str)).toList (l.getD i (dflt .str)).toList) with b4 | b4
 refine wL hs hI [(4, rg [(1, ciV 139 [vs (l.getD i (dflt .str))] (vb (textOk (l.getD i (dflt .str)))))] [4, 5, 6, 7, 8, 9, 10, 11, 12, 13, 14, 1014] [1015])] (bz 2 1) 1729729666666733777333377777041268712720 [q1 b1, q4 (i : Int) l.length, q1 (ng1 b2), q1 (ng1 b2), q1 (ng1 b2), q1 b3, q1 b3, q1 b3, q3 ((i : Int) - 1), q1 b3, q4 ((i : Int) - 1) l.length, q1 b3, q1 b3, q1 b3, q1 (ng1 b2), q1 b3, q1 (ng1 b2), q1 (ng1 b4), q3 ((i : Int) + 1)] .norm [(0, rwS l), (5, rwS l), (6, vi (l.length : Int)), (7, vi ((i : Int) + 1))] [] ⟨con215 _, tv⟩ fun a w hs => ?_
 refine then_norm ⟨i + 1, ⟨by omega, fun j hj => by rcases Nat.lt_succ_iff_lt_or_eq.1 hj with h | h; exact hall j h; subst h; simp only [nmOk, b1, b2, b3, b4]; rfl⟩, by omega, ?_⟩
 exact hs.rk []
 refine wL hs hI [(4, rg [(1, ciV 139 [vs (l.getD i (dflt .str))] (vb (textOk (l.getD i (dflt .str)))))] [4, 5, 6, 7, 8, 9, 10, 11, 12, 13, 14, 1014] [1015])] (bz 2 3) 121729666666733777333377777041268712720 [q1 b1, q4 (i : Int) l.length, q1 (ng1 b2), q1 (ng1 b2), q1 (ng1 b2), q1 b3, q1 b3, q1 b3, q3 ((i : Int) - 1), q1 b3, q4 ((i : Int) - 1) l.length, q1 b3, q1 b3, q1 b3, q1 (ng1 b2), q1 b3, q1 (ng1 b2), q1 (ng0 b4)] .ret [(2, vb false)] [] ⟨con215 _, tv⟩ fun a w hs => ?_
 refine then_ret ?_
 refine inb_ret ?_
 refine then_ret ?_
 exact rK (.val (vb false)) [] hs (by simp only [namesOk]; rw [all_no' (i := i) (by omega) (by simp only [nmOk, b1, b2, b3, b4]; rfl)]; rfl)
 refine wL hs hI [(4, rg [(1, ciV 139 [vs (l.getD i (dflt .str))] (vb (textOk (l.getD i (dflt .str)))))] [4, 5, 6, 14] [7, 8, 9, 10, 11, 12, 13, 1014, 1015])] (bz 2 1) 17297666667333333333777041268712720 [q1 b1, q4 (i : Int) l.length, q1 (ng1 b2), q1 (ng1 b2), q1 (ng1 b2), q1 b3, q1 b3, q1 b3, q1 b3, q1 b3, q1 b3, q1 b3, q1 (ng1 b2), q1 b3, q1 (ng1 b2), q0 false, q3 ((i : Int) + 1)] .norm [(0, rwS l), (5, rwS l), (6, vi (l.length : Int)), (7, vi ((i : Int) + 1))] [] ⟨con215 _, tv⟩ fun a w hs => ?_
 refine then_norm ⟨i + 1, ⟨by omega, fun j hj => by rcases Nat.lt_succ_iff_lt_or_eq.1 hj with h | h; exact hall j h; subst h; simp only [nmOk, b1, b2, b3]; rfl⟩, by omega, ?_⟩
 exact hs.rk []
 refine wL hs hI [(4, rg [(1, ciV 139 [vs (l.getD i (dflt .str))] (vb (textOk (l.getD i (dflt .str)))))] [1015] [4, 5, 6, 14])] (bz 2 3) 121766667388733041268712720 [q1 b1, q4 (i : Int) l.length, q1 (ng0 b2), q1 (ng0 b2), q1 (ng0 b2), q1 (ng0 b2), q1 (ng0 b2), q0 true] .ret [(2, vb false)] [] ⟨con215 _, tv⟩ fun a w hs => ?_
 refine then_ret ?_
 refine inb_ret ?_
 refine then_ret ?_
 exact rK (.val (vb false)) [] hs (by simp only [namesOk]; rw [all_no' (i := i) (by omega) (by simp only [nmOk, b1, b2]; rfl)]; rfl)
 refine wN hs hI (bz 1 0) 720 [q1 b1] (.exit 0) [(0, rwS l)] [] fun a w hs => ?_
 refine then_exit ?_
 refine inb_hit ?_
 refine then_norm ?_
 refine wN hs hI [] 1608 [] .ret [(2, vb (decide ((l.length : Int) ≤ 300)))] [] fun a w hs => ?_
 exact rK (.val (vb (decide ((l.length : Int) ≤ 300)))) [] hs (by simp only [namesOk]; rw [all_yes' (fun j hj => hall j (by omega))]; rfl)
end Go.Proofs.YtfimffgfnhplkaaGreatDoor.F
