import Derived.Test.YtondpnipoogoiaaGreatDoorE1
import Derived.Maps.AppendAt
import Derived.Great.BuildSlice
import Derived.Laws.IdiomCopy
import Derived.Laws.Rows
set_option maxRecDepth 100000
set_option linter.unusedVariables false
set_option linter.unusedSimpArgs false
namespace Go.Proofs.YtondpnipoogoiaaGreatDoor.F
open Go Go.RowKit
def asStr : AV → Option (List ByteArray)
 | .row .str xs => some xs
 | .lit (.slice none 0 0) => some []
 | _ => none
def asInts (k : IntKind) : AV → Option (List Int)
 | .row (.int j) xs => if j = k then some xs else none
 | .lit (.slice none 0 0) => some []
 | _ => none
def asTrees : AV → Option (List Tree)
 | .row .tree xs => some xs
 | .lit (.slice none 0 0) => some []
 | _ => none
def decTree : List AV → Option Tree
 | [.lit (.int .i64 k), .lit (.bool b), .lit (.bool ng), m, .lit (.int .i64 e), .lit (.string s), ks, vs] =>
  match asInts .u32 m, asStr ks, asTrees vs with
  | some m, some ks, some vs => some (.mk k b ⟨ng, m, e⟩ s ks vs)
  | _, _, _ => none
 | _ => none
def dec : (τ : Ty) → List AV → Option (El τ)
 | .int k, [.lit (.int j n)] => if j = k then some n else none
 | .bool, [.lit (.bool b)] => some b
 | .str, [.lit (.string s)] => some s
 | .strs, [a] => asStr a
 | .trees, [a] => asTrees a
 | .ints k, [a] => asInts k a
 | .num, [.lit (.bool ng), m, .lit (.int .i64 e)] => (asInts .u32 m).map fun m => ⟨ng, m, e⟩
 | .tree, l => decTree l
 | .opn, .lit (.int .i64 k) :: p :: f :: l => match asStr p, asStr f, decTree l with
  | some p, some f, some t => some ⟨k, p, f, t⟩
  | _, _, _ => none
 | .grd, [.lit (.int .i64 k), p] => (asStr p).map fun p => ⟨k, p⟩
 | _, _ => none
section
variable {w : World} {fz : Nat → Prop} {η : Nat → Option Value} {v : Value} {a : AV}
theorem R.nil (τ : Ty) : R w fz η (.slice none 0 0) (.row τ []) := .row_mk (A := none) (c := 0) (xs := []) (Nat.le_refl _) (Nat.zero_le _) (fun i x hx => by simp at hx)
theorem asStr_ok {xs : List ByteArray} (h : asStr a = some xs) (hr : R w fz η v a) : R w fz η v (.row .str xs) := by
 unfold asStr at h
 split at h
 simp only [Option.some.injEq] at h; subst h; exact hr
 simp only [Option.some.injEq] at h; subst h; have e := hr.lit_inv; subst e; exact .nil _
 cases h
theorem asTrees_ok {xs : List Tree} (h : asTrees a = some xs) (hr : R w fz η v a) : R w fz η v (.row .tree xs) := by
 unfold asTrees at h
 split at h
 simp only [Option.some.injEq] at h; subst h; exact hr
 simp only [Option.some.injEq] at h; subst h; have e := hr.lit_inv; subst e; exact .nil _
 cases h
theorem asInts_ok {k : IntKind} {xs : List Int} (h : asInts k a = some xs) (hr : R w fz η v a) : R w fz η v (.row (.int k) xs) := by
 unfold asInts at h
 split at h
 split at h
 rename_i hk; subst hk; simp only [Option.some.injEq] at h; subst h; exact hr
 cases h
 simp only [Option.some.injEq] at h; subst h; have e := hr.lit_inv; subst e; exact .nil _
 cases h
abbrev RLl (w : World) (fz : Nat → Prop) (η : Nat → Option Value) (C : List Value) (l : List AV) : Prop := C.length = l.length ∧ ∀ (j : Nat) u x, C[j]? = some u → l[j]? = some x → R w fz η u x
theorem RLl_cons {v : Value} {C : List Value} {a : AV} {l : List AV} : RLl w fz η (v :: C) (a :: l) ↔ R w fz η v a ∧ RLl w fz η C l := by
 constructor
 ·rintro ⟨h1, h2⟩
  exact ⟨h2 0 v a rfl rfl, by simpa using h1, fun j u x hu hx => h2 (j + 1) u x (by simpa using hu) (by simpa using hx)⟩
 ·rintro ⟨h1, h2, h3⟩
  refine ⟨by simpa using h2, fun j u x hu hx => ?_⟩
  match j with
  | 0 => simp at hu hx; subst hu hx; exact h1
  | j + 1 => simp only [List.getElem?_cons_succ] at hu hx; exact h3 j u x hu hx
theorem RLl_form {C : List Value} {a : AV} {l : List AV} (h : RLl w fz η C (a :: l)) : ∃ v C', C = v :: C' ∧ R w fz η v a ∧ RLl w fz η C' l := by
 cases C with
 | nil => have := h.1; simp at this
 | cons v C => exact ⟨v, C, rfl, RLl_cons.1 h⟩
theorem RLl_nil : RLl w fz η [] [] := ⟨rfl, fun j u x hu => by simp at hu⟩
theorem decTree_ok {C : List Value} {l : List AV} {t : Tree} (h : decTree l = some t) (hr : RLl w fz η C l) : RLl w fz η C (encTree t) := by
 unfold decTree at h
 split at h
 rename_i k b ng m e s ks vs
 split at h
 rename_i m' ks' vs' h1 h2 h3
 simp only [Option.some.injEq] at h
 subst h
 obtain ⟨v0, C, rfl, r0, hr⟩ := RLl_form hr
 obtain ⟨v1, C, rfl, r1, hr⟩ := RLl_form hr
 obtain ⟨v2, C, rfl, r2, hr⟩ := RLl_form hr
 obtain ⟨v3, C, rfl, r3, hr⟩ := RLl_form hr
 obtain ⟨v4, C, rfl, r4, hr⟩ := RLl_form hr
 obtain ⟨v5, C, rfl, r5, hr⟩ := RLl_form hr
 obtain ⟨v6, C, rfl, r6, hr⟩ := RLl_form hr
 obtain ⟨v7, C, rfl, r7, hr⟩ := RLl_form hr
 exact RLl_cons.2 ⟨r0, RLl_cons.2 ⟨r1, RLl_cons.2 ⟨r2, RLl_cons.2 ⟨asInts_ok h1 r3, RLl_cons.2 ⟨r4, RLl_cons.2 ⟨r5, RLl_cons.2 ⟨asStr_ok h2 r6, RLl_cons.2 ⟨asTrees_ok h3 r7, hr⟩⟩⟩⟩⟩⟩⟩⟩
 cases h
 cases h
theorem dec_ok {τ : Ty} {C : List Value} {l : List AV} {x : El τ} (h : dec τ l = some x) (hr : RLl w fz η C l) : RLl w fz η C (enc τ x) := by
 unfold dec at h
 split at h
 split at h
 rename_i hk; subst hk; simp only [Option.some.injEq] at h; subst h; exact hr
 cases h
 simp only [Option.some.injEq] at h; subst h; exact hr
 simp only [Option.some.injEq] at h; subst h; exact hr
 obtain ⟨v0, C, rfl, r0, hr⟩ := RLl_form hr
 exact RLl_cons.2 ⟨asStr_ok h r0, hr⟩
 obtain ⟨v0, C, rfl, r0, hr⟩ := RLl_form hr
 exact RLl_cons.2 ⟨asTrees_ok h r0, hr⟩
 obtain ⟨v0, C, rfl, r0, hr⟩ := RLl_form hr
 exact RLl_cons.2 ⟨asInts_ok h r0, hr⟩
 simp only [Option.map_eq_some_iff] at h
 obtain ⟨m', h1, rfl⟩ := h
 obtain ⟨v0, C, rfl, r0, hr⟩ := RLl_form hr
 obtain ⟨v1, C, rfl, r1, hr⟩ := RLl_form hr
 exact RLl_cons.2 ⟨r0, RLl_cons.2 ⟨asInts_ok h1 r1, hr⟩⟩
 exact decTree_ok h hr
 split at h
 rename_i h1 h2 h3
 simp only [Option.some.injEq] at h
 subst h
 obtain ⟨v0, C, rfl, r0, hr⟩ := RLl_form hr
 obtain ⟨v1, C, rfl, r1, hr⟩ := RLl_form hr
 obtain ⟨v2, C, rfl, r2, hr⟩ := RLl_form hr
 exact RLl_cons.2 ⟨r0, RLl_cons.2 ⟨asStr_ok h1 r1, RLl_cons.2 ⟨asStr_ok h2 r2, decTree_ok h3 hr⟩⟩⟩
 cases h
 simp only [Option.map_eq_some_iff] at h
 obtain ⟨p', h1, rfl⟩ := h
 obtain ⟨v0, C, rfl, r0, hr⟩ := RLl_form hr
 obtain ⟨v1, C, rfl, r1, hr⟩ := RLl_form hr
 exact RLl_cons.2 ⟨r0, RLl_cons.2 ⟨asStr_ok h1 r1, hr⟩⟩
 cases h
theorem enc_one {τ : Ty} {x : El τ} {j : Nat} {y : AV} (h : (enc τ x)[j]? = some y) (hr : R w fz η v y) : v.oneCell' = true := by
 have h0 : ∀ y ∈ enc τ x, (∃ u, y = .lit u ∧ u.oneCell' = true) ∨ ∃ τ' xs, y = .row τ' xs := by
  cases τ <;> simp [enc, encTree, Value.oneCell']
 rcases h0 y (List.mem_of_getElem? h) with ⟨u, rfl, hu⟩ | ⟨τ', xs, rfl⟩
 have e := hr.lit_inv; subst e; exact hu
 obtain ⟨A, c, rfl, _⟩ := hr.row_inv; rfl
end
section
variable {P : Program} {w w' w0 : World} {ow : Own} {η η' : Nat → Option Value} {N key b g : Nat} {tm tmr : Nat → Option AV} {bx bxr : Bx} {a : Act} {u : Value} {B B' : Box}
theorem same_tr (s : Sim N w0 ow η tm bx a w) (hu : η b = some u) (hg : blk u = some g) (cs : Array Value) : Tr η η b w (w.setRow g cs) := by
 refine ⟨rfl, rfl, rfl, by simp, fun k hk hf => setRow_other w g k cs (fun e => hf b u hu (by rw [e]; exact hg)), fun _ _ _ h => h, fun b' u' k hb h hk => setRow_other w g k cs (fun e => hb (s.apart b' b u' u g h hu (e ▸ hk) hg)), fun u' k h hk => ?_⟩
 have := s.new b u' k h hk
 refine ⟨by simp; exact this.1, .inr ⟨b, u', h, hk, fun b' u2 hb h2 hk2 => hb (s.apart b' b u2 u' k h2 h hk2 hk)⟩⟩
theorem Sim.inplace (s : Sim N w0 ow η tm bx a w) (hu : η b = some u) (hg : blk u = some g) (cs : Array Value) (hB : BoxR (w.setRow g cs) (Fz (Amb w0 ow) η) η u B') :
  Sim N w0 ow η tm (updB bx [] [(b, B')]) a (w.setRow g cs) := by
 refine s.tr (c := b) (same_tr s hu hg cs) (.inl fun _ h => h) (fun b' B2 hb hB2 => ?_) (fun B2 hB2 => ?_)
 ·rw [updB_ne1 hb] at hB2; simp at hB2; exact ⟨hB2, rfl⟩
 ·rw [updB_eq1, Option.some.injEq] at hB2; subst hB2; exact ⟨u, hu, hB⟩
def wrStore (P : Program) (ρ : Operand → Option AV) (bx : Bx) (t : TypeId) (x y : Operand) : Option Wr :=
 match ρ x, ρ y, P.info? t with
 | some (.ptr b off), some v, some i => match bx b with
  | some (.var l) => if partsOk bx v = true ∧ (cellsA v).length = i.size ∧ off + i.size ≤ l.length then some ⟨True, none, [], [(b, .var (l.take off ++ cellsA v ++ l.drop (off + i.size)))], false⟩ else none
  | _ => none
 | some (.op τ' b j off), some v, some i => match bx b with
  | some (.sl e τ xs) => if partsOk bx v = true ∧ (cellsA v).length = i.size ∧ off = 0 ∧ i.size = sz τ ∧ sz τ' = sz τ then (dec τ (cellsA v)).map fun x => ⟨j < xs.length, none, [], [(b, .sl e τ (xs.set j x))], false⟩ else none
  | _ => none
 | _, _, _ => none
theorem RL_toList {C : Array Value} {l : List AV} {fz : Nat → Prop} (h : RL w fz η C l) : RLl w fz η C.toList l := ⟨by simpa using h.1, fun j u x hu hx => h.2 j u x (by rw [← Array.getElem?_toList]; exact hu) hx⟩
theorem store_run {t : TypeId} {i : TypeInfo} {g off : Nat} {cur : Array Value} {e : TypeId} {v : Value} (hi : P.info? t = some i) (hg : w.heap[g]? = some (.cells cur e (0, 0))) (hs : v.cells.size = i.size) (hle : off + i.size ≤ cur.size) (h1 : ∀ (j : Nat) u, v.cells[j]? = some u → u.oneCell' = true) :
  (storeVar t ⟨g, off, none⟩ v).run P w = .ok () (w.setRow g (cur.toList.take off ++ v.cells.toList ++ cur.toList.drop (off + v.cells.size)).toArray) := by
 have hr := run_storeCells_at P g off e v.cells.toList 0 cur w hg (by simp; omega) (fun u hu => by
  obtain ⟨j, hj⟩ := List.getElem?_of_mem hu
  rw [Array.getElem?_toList] at hj
  exact h1 j u hj)
 simp only [Nat.add_zero, Array.length_toList] at hr
 simp [storeVar, sizeOf_run hi, hs, hr]
theorem splice_R {C D : List Value} {l m : List AV} {off n : Nat} {fz : Nat → Prop} (h1 : RLl w fz η C l) (h2 : RLl w fz η D m) (hn : D.length = n) (hle : off + n ≤ l.length) : RLl w fz η (C.take off ++ D ++ C.drop (off + n)) (l.take off ++ m ++ l.drop (off + n)) := by
 have e1 := h1.1
 have e2 := h2.1
 refine ⟨by simp; omega, fun j u x hu hx => ?_⟩
 rw [List.append_assoc] at hu hx
 by_cases hj : j < off
 rw [List.getElem?_append_left (by simp; omega), List.getElem?_take, if_pos hj] at hu hx
 exact h1.2 j u x hu hx
 rw [List.getElem?_append_right (by simp; omega)] at hu hx
 have f1 : (l.take off).length = off := by simp; omega
 have f2 : (C.take off).length = off := by simp; omega
 rw [f1] at hx; rw [f2] at hu
 by_cases hj2 : j < off + n
 rw [List.getElem?_append_left (by omega)] at hu hx
 exact h2.2 _ u x hu hx
 rw [List.getElem?_append_right (by omega), List.getElem?_drop] at hu hx
 rw [hn, show off + n + (j - off - n) = j by omega] at hu
 rw [← e2, hn, show off + n + (j - off - n) = j by omega] at hx
 exact h1.2 j u x hu hx
theorem take_splice {α : Type} (C D : List α) (o n m : Nat) (hD : D.length = n) (h : o + n ≤ m) (hm : m ≤ C.length) : (C.take o ++ D ++ C.drop (o + n)).take m = (C.take m).take o ++ D ++ (C.take m).drop (o + n) := by
 have h1 : (C.take o).length = o := by simp; omega
 rw [List.append_assoc, List.take_append, List.take_append, h1, hD, List.take_take, List.take_take, List.drop_take, List.append_assoc, Nat.min_eq_right (by omega), Nat.min_eq_left (by omega), List.take_of_length_le (l := D) (by omega), show m - o - n = m - (o + n) by omega]
theorem wrStore_ok (s : Sim N w0 ow η tm bx a w) (sr : Sim N w0 ow η tmr bxr a w) {o : Oper} {t : TypeId} {x y : Operand} {E : Wr} (ho : o.op = .store t x y) (h : wrStore P (evalA tmr) bxr t x y = some E) : Does P N w0 ow tm bx a w o E := by
 unfold wrStore at h
 split at h
 rename_i b off v i hx hy hi
 split at h
 rename_i l hb
 split at h
 rename_i hc
 obtain ⟨hp, hlen, hle⟩ := hc
 simp only [Option.some.injEq] at h
 subst h
 intro _
 obtain ⟨g1, g2, g3⟩ := cells_R sr.ctx hp (sr.ev hy)
 obtain ⟨u, hu, g, C, e, rfl, q1, q2, q3⟩ := sr.dom b _ hb
 obtain ⟨g', hg, hv⟩ := (sr.ev hx).ptr_inv hu
 injection hg with hg; injection hg with hg; injection hg with hg
 subst hg
 have hrun := store_run (P := P) (w := w) (v := a.eval y) (off := off) hi q1 (by omega) (by omega) g3
 have e9 : (a.eval y).cells.size = i.size := by omega
 rw [e9] at hrun
 have tr := same_tr s hu rfl (C.toList.take off ++ (a.eval y).cells.toList ++ C.toList.drop (off + i.size)).toArray
 refine ⟨.skip, undef, w.setRow g (C.toList.take off ++ (a.eval y).cells.toList ++ C.toList.drop (off + i.size)).toArray, η, ?_, .inr ⟨rfl, rfl⟩, fun x hx => by simp at hx, s.inplace hu rfl (C.toList.take off ++ (a.eval y).cells.toList ++ C.toList.drop (off + i.size)).toArray ⟨g, (C.toList.take off ++ (a.eval y).cells.toList ++ C.toList.drop (off + i.size)).toArray, e, rfl, setRow_heap w g C _ e (0, 0) q1, ?_⟩⟩
 simp [execOp, ho, Instr.storeAt, Instr.sureAddr, hv, hrun]
 have hspl := splice_R (off := off) (RL_toList ⟨q2, q3⟩) (RL_toList ⟨g1, g2⟩) (n := i.size) (by simp; omega) hle
 refine ⟨by simpa using hspl.1, fun j v x hv hx => tr.R ?_ (fun _ _ h => h)⟩
 exact hspl.2 j v x (by simpa using hv) hx
 cases h
 cases h
 rename_i τ' b j off v i hx hy hi
 split at h
 rename_i e τ xs hb
 split at h
 rename_i hc
 obtain ⟨hp, hlen, rfl, hsz, hsz'⟩ := hc
 simp only [Option.map_eq_some_iff] at h
 obtain ⟨x1, hx1, rfl⟩ := h
 intro hj
 obtain ⟨g1, g2, g3⟩ := cells_R sr.ctx hp (sr.ev hy)
 obtain ⟨u, hu, cs, ho2, hel⟩ := sr.dom b _ hb
 obtain ⟨g, n, cc, rfl, hv⟩ := (sr.ev hx).op_inv hu
 rw [hsz'] at hv
 rcases ho2.2 with ⟨hc1, _⟩ | ⟨g', cap, cur, hc1, _, q1, q2, q3, q4, q5⟩
 cases hc1
 injection hc1 with hc1 hc2 hc3; injection hc1 with hc1; injection hc1 with hc1
 subst hc1 hc2 hc3
 have hjb : j * sz τ + sz τ ≤ cur.size := by
  rw [q4]
  have : (j + 1) * sz τ ≤ cc * sz τ := Nat.mul_le_mul_right _ (by simp only at hj; omega)
  rw [Nat.add_mul] at this; omega
 have hrun := store_run (P := P) (w := w) (v := a.eval y) (off := j * sz τ) hi q1 (by omega) (by omega) g3
 have e9 : (a.eval y).cells.size = sz τ := by omega
 rw [e9] at hrun
 have tr := same_tr s hu rfl (cur.toList.take (j * sz τ) ++ (a.eval y).cells.toList ++ cur.toList.drop (j * sz τ + sz τ)).toArray
 have hnew : RLl w (Fz (Amb w0 ow) η) η (a.eval y).cells.toList (enc τ x1) := dec_ok hx1 (RL_toList ⟨g1, g2⟩)
 have hjn : j * sz τ + sz τ ≤ xs.length * sz τ := by
  have : (j + 1) * sz τ ≤ xs.length * sz τ := Nat.mul_le_mul_right _ hj
  rw [Nat.add_mul] at this; omega
 refine ⟨.skip, undef, w.setRow g (cur.toList.take (j * sz τ) ++ (a.eval y).cells.toList ++ cur.toList.drop (j * sz τ + sz τ)).toArray, η, ?_, .inr ⟨rfl, rfl⟩, fun x hx => by simp at hx, s.inplace hu rfl (cur.toList.take (j * sz τ) ++ (a.eval y).cells.toList ++ cur.toList.drop (j * sz τ + sz τ)).toArray ⟨cs.take (j * sz τ) ++ (a.eval y).cells.toList ++ cs.drop (j * sz τ + sz τ), ⟨?_, .inr ⟨g, cc, (cur.toList.take (j * sz τ) ++ (a.eval y).cells.toList ++ cur.toList.drop (j * sz τ + sz τ)).toArray, ?_, Nat.zero_le _, setRow_heap w g cur _ e (0, 0) q1, ?_, q3, ?_, ?_⟩⟩, ?_⟩⟩
 simp [execOp, ho, Instr.storeAt, Instr.sureAddr, hv, hrun]
 have := ho2.1; simp; omega
 simp
 simpa using q2
 simp; omega
 rw [← q5]
 simp only [List.length_set]
 have h9 : xs.length * sz τ ≤ cc * sz τ := Nat.mul_le_mul_right _ q2
 rw [← q4] at h9
 exact take_splice _ _ _ _ _ (by simp; omega) hjn (by rw [Array.length_toList]; exact h9)
 intro i2 x2 j2 y2 hx2 hy2
 have hj2 : j2 < sz τ := by have := (List.getElem?_eq_some_iff.1 hy2).1; rwa [enc_len] at this
 by_cases hij : i2 = j
 subst hij
 rw [List.getElem?_set_self (by simpa using hj)] at hx2
 simp only [Option.some.injEq] at hx2
 subst hx2
 have hlt : j2 < (a.eval y).cells.toList.length := by simp; omega
 refine ⟨(a.eval y).cells.toList[j2], ?_, tr.R (hnew.2 j2 _ _ (List.getElem?_eq_getElem hlt) hy2) (fun _ _ h => h)⟩
 have hc2 : (cs.take (i2 * sz τ)).length = i2 * sz τ := by have := ho2.1; simp; omega
 rw [List.append_assoc, List.getElem?_append_right (by omega), hc2, List.getElem?_append_left (by omega), show i2 * sz τ + j2 - i2 * sz τ = j2 by omega]
 exact List.getElem?_eq_getElem hlt
 rw [List.getElem?_set_ne (Ne.symm hij)] at hx2
 obtain ⟨vv, hvv, hrr⟩ := hel i2 x2 j2 y2 hx2 hy2
 refine ⟨vv, ?_, tr.R hrr (fun _ _ h => h)⟩
 have hc2 : (cs.take (j * sz τ)).length = j * sz τ := by have := ho2.1; simp; omega
 rw [List.append_assoc]
 rcases Nat.lt_or_gt_of_ne hij with hlt | hgt
 have : (i2 + 1) * sz τ ≤ j * sz τ := Nat.mul_le_mul_right _ hlt
 rw [Nat.add_mul] at this
 rw [List.getElem?_append_left (by omega), List.getElem?_take, if_pos (by omega)]; exact hvv
 have : (j + 1) * sz τ ≤ i2 * sz τ := Nat.mul_le_mul_right _ hgt
 rw [Nat.add_mul] at this
 rw [List.getElem?_append_right (by omega), hc2, List.getElem?_append_right (by simp; omega), List.getElem?_drop]
 simp only [Array.length_toList, e9]
 rw [show j * sz τ + sz τ + (i2 * sz τ + j2 - j * sz τ - sz τ) = i2 * sz τ + j2 by omega]; exact hvv
 cases h
 cases h
 cases h
end
def frz1 (bx : Bx) (del : List Nat) : AV → AV
 | .own b => if del.contains b then (match bx b with | some (.sl _ τ xs) => .row τ xs | some (.full _ τ xs) => .rowc τ xs xs.length | _ => .junk) else .own b
 | a => a
def frz (bx : Bx) (del : List Nat) : AV → AV
 | .agg l => .agg (l.map (frz1 bx del))
 | .tup l => .tup (l.map (frz1 bx del))
 | a => frz1 bx del a
def owns1 : AV → List Nat
 | .own b => [b]
 | _ => []
def owns : AV → List Nat
 | .agg l => l.flatMap owns1
 | .tup l => l.flatMap owns1
 | a => owns1 a
section
variable {P : Program} {w w' w0 : World} {ow : Own} {η η' : Nat → Option Value} {N key b g : Nat} {tm : Nat → Option AV} {bx : Bx} {a : Act} {u v : Value} {B : Box} {x : AV}
theorem own_row (s : Sim N w0 ow η tm bx a w) {b : Nat} {u : Value} {e : TypeId} {τ : Ty} {xs : List (El τ)} (hu : η b = some u) (hr : BoxR w (Fz (Amb w0 ow) η) η u (.sl e τ xs)) {η' : Nat → Option Value} (hsub : ∀ b' u', η' b' = some u' → η b' = some u' ∧ b' ≠ b) :
  R w (Fz (Amb w0 ow) η') η' u (.row τ xs) := by
 obtain ⟨cs, ho, hel⟩ := hr
 rcases ho.2 with ⟨rfl, h0⟩ | ⟨g, cap, cur, rfl, _, q1, q2, q3, q4, q5⟩
 ·have : xs = [] := by cases xs; rfl; simp at h0
  subst this
  exact .nil τ
 ·have hlt : g < w.heap.size := (s.new b _ g hu rfl).1
  have hamb : Amb w0 ow g := by
   rcases (s.new b _ g hu rfl).2 with h | h
   ·exact .inr (.inr h)
   ·exact .inr (.inl h)
  refine .row_mk q2 q3 (fun i x hx => ⟨⟨g, 0, none⟩, rfl, ⟨hamb, fun b' u' hb' hk => ?_⟩, hlt, fun j y hy => ?_⟩)
  ·obtain ⟨h1, h2⟩ := hsub b' u' hb'
   exact h2 (s.apart b' b u' _ g h1 hu hk rfl)
  ·obtain ⟨vv, hv, hrr⟩ := hel i x j y hx hy
   refine ⟨vv, ho.cells rfl _ _ hv, hrr.step (Nat.le_refl _) (fun _ _ _ => rfl) (fun k hk _ => ⟨hk.1, fun b' u' hb' => hk.2 b' u' (hsub b' u' hb').1⟩) (fun b' u' _ hu' => (hsub b' u' hu').1)⟩
theorem R_frz1 (s : Sim N w0 ow η tm bx a w) (h : R w (Fz (Amb w0 ow) η) η v x) (del : List Nat) : R w (Fz (Amb w0 ow) (dropη η del)) (dropη η del) v (frz1 bx del x) := by
 unfold frz1
 split
 ·rename_i b
  by_cases hb : del.contains b = true
  ·rw [if_pos hb]
   split
   ·rename_i e τ xs hB
    obtain ⟨u, hu, hr⟩ := s.dom b _ hB
    rw [h.own_inv hu]
    refine own_row s hu hr (fun b' u' hb' => ⟨(drop_some hb').1, fun e => ?_⟩)
    have := (drop_some hb').2
    rw [e, hb] at this; cases this
   ·rename_i e τ xs hB
    obtain ⟨u, hu, hr, hc⟩ := s.dom b _ hB
    rw [h.own_inv hu]
    have h0 := own_row s hu hr (η' := dropη η del) (fun b' u' hb' => ⟨(drop_some hb').1, fun e => by
     have := (drop_some hb').2
     rw [e, hb] at this; cases this⟩)
    obtain ⟨A, c, rfl, _⟩ := h0.row_inv
    obtain rfl := hc A _ c rfl
    exact .rowc _ _ _ _ h0
   ·exact .junk _
  ·rw [if_neg hb]; exact R_drop h del
 ·exact R_drop h del
theorem R_frz (s : Sim N w0 ow η tm bx a w) (h : R w (Fz (Amb w0 ow) η) η v x) (del : List Nat) : R w (Fz (Amb w0 ow) (dropη η del)) (dropη η del) v (frz bx del x) := by
 unfold frz
 split
 obtain ⟨vs, rfl, hl, hR⟩ := h.agg_inv
 refine .agg _ _ (by simpa using hl) (fun j u y hu hy => ?_)
 rw [List.getElem?_map, Option.map_eq_some_iff] at hy
 obtain ⟨y0, hy0, rfl⟩ := hy
 exact R_frz1 s (hR j u y0 hu hy0) del
 obtain ⟨vs, rfl, hl, hR⟩ := h.tup_inv
 refine .tup _ _ (by simpa using hl) (fun j u y hu hy => ?_)
 rw [List.getElem?_map, Option.map_eq_some_iff] at hy
 obtain ⟨y0, hy0, rfl⟩ := hy
 exact R_frz1 s (hR j u y0 hu hy0) del
 exact R_frz1 s h del
def evF (tm : Nat → Option AV) (bx : Bx) (del : List Nat) (x : Operand) : Option AV := (evalA tm x).map (frz bx del)
theorem Sim.ctxF (s : Sim N w0 ow η tm bx a w) (del : List Nat) : Ctx w (Fz (Amb w0 ow) (dropη η del)) (dropη η del) a.eval (evF tm bx del) (updB bx del []) := by
 refine ⟨fun x y h => ?_, (s.drop del).dom⟩
 simp only [evF, Option.map_eq_some_iff] at h
 obtain ⟨y0, h0, rfl⟩ := h
 exact R_frz s (s.ev h0) del
theorem Sim.grow (s : Sim N w0 ow η tm bx a w) (hf : Fresh key tm bx) {row : Option Nat} {del : List Nat} (hg : w.grownBy w' row) (hrow : row = none ∨ ∃ b u, del.contains b = true ∧ η b = some u ∧ blk u = row)
  (hv : ∀ k, blk v = some k → k < w'.heap.size ∧ (w.heap.size ≤ k ∨ row = some k)) :
  Tr η (setη (dropη η del) key v) key w w' ∧ ((BoxR w' (Fz (Amb w0 ow) (setη (dropη η del) key v)) (setη (dropη η del) key v) v B) → Sim N w0 ow (setη (dropη η del) key v) tm (updB bx del [(key, B)]) a w') := by
 have hsub : ∀ b' u', b' ≠ key → setη (dropη η del) key v b' = some u' → η b' = some u' ∧ del.contains b' = false := fun b' u' hb h => by
  simp only [setη] at h; rw [if_neg hb] at h; exact drop_some h
 have hne : ∀ b' u' k, b' ≠ key → setη (dropη η del) key v b' = some u' → blk u' = some k → row ≠ some k := by
  intro b' u' k hb h hk
  obtain ⟨h1, h2⟩ := hsub b' u' hb h
  rcases hrow with rfl | ⟨b, u, hd, hu, hr⟩
  ·exact fun h => by cases h
  ·intro he
   have := s.apart b' b u' u k h1 hu hk (hr.trans he)
   rw [this, hd] at h2; cases h2
 have tr : Tr η (setη (dropη η del) key v) key w w' := by
  refine ⟨hg.os, hg.tape, hg.output, hg.size, fun k hk hf2 => hg.block k hk (fun he => ?_), fun b' u' hb h => (hsub b' u' hb h).1, fun b' u' k hb h hk => hg.block k (s.bound b' u' k (hsub b' u' hb h).1 hk) (fun he => hne b' u' k hb h hk he.symm), fun u' k h hk => ?_⟩
  ·rcases hrow with rfl | ⟨b, u, _, hu, hr⟩
   ·cases he
   ·exact hf2 b u hu (hr.trans he.symm)
  ·simp only [setη, if_true, Option.some.injEq] at h
   subst h
   obtain ⟨h1, h2⟩ := hv k hk
   refine ⟨h1, ?_⟩
   rcases h2 with h2 | h2
   ·exact .inl h2
   ·rcases hrow with rfl | ⟨b, u, hd, hu, hr⟩
    ·cases h2
    ·exact .inr ⟨b, u, hu, hr.trans h2, fun b' u' hb h hk2 => hne b' u' k hb h hk2 h2⟩
 refine ⟨tr, fun hB => s.tr tr (.inr ⟨hf.2.2, hf.1, fun b' B' hb hB' => ?_⟩) (fun b' B' hb hB' => ?_) (fun B' hB' => ?_)⟩
 ·rw [updB_ne1 hb] at hB'
  split at hB'
  ·cases hB'
  ·exact hf.2.1 b' B' hB'
 ·rw [updB_ne1 hb] at hB'
  split at hB'
  ·cases hB'
  ·rename_i hc; exact ⟨hB', by simp only [setη, dropη]; rw [if_neg hb, if_neg hc]⟩
 ·rw [updB_eq1, Option.some.injEq] at hB'
  subst hB'
  exact ⟨v, by simp [setη], hB⟩
def decN (τ : Ty) : Nat → List AV → Option (List (El τ))
 | 0, l => match l with
  | [] => some []
  | _ => none
 | n + 1, l => match dec τ (l.take (sz τ)), decN τ n (l.drop (sz τ)) with
  | some x, some xs => some (x :: xs)
  | _, _ => none
theorem decN_ok {τ : Ty} {fz : Nat → Prop} {η : Nat → Option Value} : ∀ (n : Nat) (l : List AV) (C : List Value) (xs : List (El τ)), decN τ n l = some xs → RLl w fz η C l → xs.length = n ∧ C.length = n * sz τ ∧ ∀ i x (j : Nat) y, xs[i]? = some x → (enc τ x)[j]? = some y → ∃ v, C[i * sz τ + j]? = some v ∧ R w fz η v y
 | 0, l, C, xs, h, hr => by
  simp only [decN] at h
  split at h
  ·simp only [Option.some.injEq] at h
   subst h
   exact ⟨rfl, by simpa using hr.1, fun i x j y hx => by simp at hx⟩
  ·cases h
 | n + 1, l, C, xs, h, hr => by
  simp only [decN] at h
  split at h
  ·rename_i x xs' h1 h2
   simp only [Option.some.injEq] at h
   subst h
   have hlen := hr.1
   have hd : RLl w fz η (C.drop (sz τ)) (l.drop (sz τ)) := ⟨by simp; omega, fun j u y hu hy => hr.2 _ u y (by rw [List.getElem?_drop] at hu; exact hu) (by rw [List.getElem?_drop] at hy; exact hy)⟩
   have ht : RLl w fz η (C.take (sz τ)) (l.take (sz τ)) := ⟨by simp; omega, fun j u y hu hy => by
    rw [List.getElem?_take] at hu hy
    split at hu
    ·rename_i hj; rw [if_pos hj] at hy; exact hr.2 _ u y hu hy
    ·cases hu⟩
   obtain ⟨i1, i2, i3⟩ := decN_ok n _ _ _ h2 hd
   have hx := dec_ok h1 ht
   have hsz : (C.take (sz τ)).length = sz τ := by rw [hx.1, enc_len]
   refine ⟨by simp [i1], ?_, fun i x0 j y hx0 hy => ?_⟩
   ·simp at hsz i2; rw [Nat.add_mul]; omega
   ·have hj : j < sz τ := by have := (List.getElem?_eq_some_iff.1 hy).1; rwa [enc_len] at this
    match i with
    | 0 =>
     simp only [List.getElem?_cons_zero, Option.some.injEq] at hx0
     subst hx0
     have hjl : j < (C.take (sz τ)).length := by omega
     refine ⟨(C.take (sz τ))[j], ?_, hx.2 j _ y (List.getElem?_eq_getElem hjl) hy⟩
     rw [Nat.zero_mul, Nat.zero_add]
     have := List.getElem?_eq_getElem hjl
     rw [List.getElem?_take, if_pos hj] at this
     exact this
    | i + 1 =>
     simp only [List.getElem?_cons_succ] at hx0
     obtain ⟨vv, hv, hrr⟩ := i3 i x0 j y hx0 hy
     refine ⟨vv, ?_, hrr⟩
     rw [List.getElem?_drop] at hv
     rw [Nat.add_mul, Nat.one_mul, show i * sz τ + sz τ + j = sz τ + (i * sz τ + j) by omega]; exact hv
  ·cases h
end
def cat : (τ τ' : Ty) → List (El τ) → List (El τ') → Option (List (El τ))
 | .int k, .int k', xs, ys => if k = k' then some (xs ++ ys) else none
 | .bool, .bool, xs, ys => some (xs ++ ys)
 | .str, .str, xs, ys => some (xs ++ ys)
 | .strs, .strs, xs, ys => some (xs ++ ys)
 | .trees, .trees, xs, ys => some (xs ++ ys)
 | .ints k, .ints k', xs, ys => if k = k' then some (xs ++ ys) else none
 | .num, .num, xs, ys => some (xs ++ ys)
 | .tree, .tree, xs, ys => some (xs ++ ys)
 | .opn, .opn, xs, ys => some (xs ++ ys)
 | .grd, .grd, xs, ys => some (xs ++ ys)
 | _, _, _, _ => none
theorem cat_ok {τ τ' : Ty} {xs : List (El τ)} {ys : List (El τ')} {zs : List (El τ)} (h : cat τ τ' xs ys = some zs) : ∃ e : τ' = τ, zs = xs ++ e ▸ ys := by
  cases τ <;> cases τ' <;> simp only [cat] at h <;> first
    | (simp only [Option.some.injEq] at h; subst h; exact ⟨rfl, rfl⟩)
    | (split at h
       · rename_i hk; subst hk; simp only [Option.some.injEq] at h; subst h; exact ⟨rfl, rfl⟩
       · cases h)
    | cases h
section
variable {P : Program} {w w' w0 : World} {ow : Own} {η η' : Nat → Option Value} {N key b g : Nat} {tm tmr : Nat → Option AV} {bx bxr : Bx} {a : Act} {u v : Value} {B : Box} {x : AV} {tt : TypeId → Option Ty}
def zerosA (z : List AV) (n : Nat) : List AV := (List.range n).map fun k => (z[k % z.length]?).getD .junk
theorem zerosA_R {z : Array Value} {fz : Nat → Prop} {η : Nat → Option Value} (n : Nat) : RL w fz η ((Array.range n).map (z[· % z.size]!)) (zerosA (z.toList.map .lit) n) := by
 refine ⟨by simp [zerosA], fun j u y hu hy => ?_⟩
 simp only [zerosA, List.length_map, Array.length_toList] at hy
 have hj : j < n := by have := (List.getElem?_eq_some_iff.1 hy).1; simpa using this
 simp [hj] at hu hy
 subst hu hy
 cases hz : z[j % z.size]? with
 | none => simp; exact .junk _
 | some v => simp [getElem!_def, hz]; exact .lit v
def delOf (tm : Nat → Option AV) (l : List Operand) : List Nat := (l.filterMap (evalA tm)).flatMap owns
def wrBuildSlice (P : Program) (tt : TypeId → Option Ty) (key : Nat) (tm : Nat → Option AV) (bx : Bx) (t : TypeId) (len : Nat) (ps : Array (Nat × Operand)) : Option Wr :=
 let del := delOf tm (ps.toList.map (·.2))
 match P.underlying t with
 | some (.slice e) => match P.info? e, zeroA P e, tt e, ps.toList.mapM (fun p => (evF tm bx del p.2).map fun a => (p.1, a)) with
  | some ie, some z, some τ, some pa =>
   if len * ie.size ≤ 16777216 ∧ len * ie.size ≠ 0 then
    match fillA (updB bx del []) (fun i => some (i * ie.size, ie.size)) (zerosA z (len * ie.size)) pa with
    | some l => match decN τ len l with
     | some xs => some ⟨True, some (.own key), del, [(key, .sl e τ xs)], true⟩
     | none => none
    | none => none
   else if len = 0 ∧ ps.toList.length = 0 then some ⟨True, some (.own key), [], [(key, .sl e τ [])], true⟩ else none
  | _, _, _, _ => none
 | _ => none
theorem own_R (h : η key = some v) {fz : Nat → Prop} : R w fz η v (.own key) := .own _ _ (fun u hu => by rw [h] at hu; injection hu)
theorem updB_updB (bx : Bx) (del : List Nat) (p : List (Nat × Box)) : updB (updB bx del []) [] p = updB bx del p := by
 funext k
 simp [updB, lkp]
theorem Fresh.drop {bx : Bx} (h : Fresh key tm bx) (del : List Nat) : Fresh key tm (updB bx del []) := ⟨h.1, (fun b B hB => by
 rw [updB_none] at hB
 split at hB
 ·cases hB
 ·exact h.2.1 b B hB), h.2.2⟩
theorem zeroA_inv {t : TypeId} {z : List AV} {i : TypeInfo} (h : zeroA P t = some z) (hi : P.info? t = some i) : ∃ zv, i.zero = some zv ∧ z = zv.cells.toList.map .lit := by
 unfold zeroA at h
 rw [hi] at h
 simp only at h
 split at h
 rename_i zv hz; simp only [Option.some.injEq] at h; exact ⟨zv, hz, h.symm⟩
 cases h
theorem wrBuildSlice_ok (s : Sim N w0 ow η tm bx a w) (sr : Sim N w0 ow η tmr bxr a w) (hf : Fresh key tm bx) {o : Oper} {t : TypeId} {len : Nat} {ps : Array (Nat × Operand)} {E : Wr} (ho : o.op = .buildSlice t len ps) (h : wrBuildSlice P tt key tmr bxr t len ps = some E) : Does P N w0 ow tm bx a w o E := by
 unfold wrBuildSlice at h
 simp only at h
 generalize hdel : delOf tmr (ps.toList.map (·.2)) = del at h
 split at h
 ·rename_i e ht
  split at h
  ·rename_i ie z τ pa hie hz hτ hpa
   split at h
   ·rename_i hsz
    split at h
    ·rename_i l hl
     split at h
     ·rename_i xs hxs
      simp only [Option.some.injEq] at h
      subst h
      intro _
      have c := sr.ctxF del
      obtain ⟨zv, hzv, rfl⟩ := zeroA_inv hz hie
      obtain ⟨C, hC, hRL⟩ := fill_ok c ps.toList pa _ _ l hpa (zerosA_R (z := zv.cells) (len * ie.size)) hl
      obtain ⟨e1, e2, e3⟩ := decN_ok len l C.toList xs hxs (RL_toList hRL)
      have s1 := s.drop del
      have hu : ∀ k, blk (.slice (some ⟨w.heap.size, 0, none⟩) len len) = some k → k = w.heap.size := fun k hk => by simp [blk] at hk; exact hk.symm
      have tr := alloc_tr (c := key) (u := .slice (some ⟨w.heap.size, 0, none⟩) len len) s1.bound (.cells C e) hu
      have hlen : len ≤ maxLen := by
       have : len ≤ len * ie.size := Nat.le_mul_of_pos_right _ (Nat.pos_of_ne_zero (fun h0 => hsz.2 (by rw [h0, Nat.mul_zero])))
       unfold maxLen; omega
      have hown := World.ownsRow_lit (w := w) (base := 0) (e := e) (size := sz τ) C len (Nat.zero_le _) hlen (by simpa using e2)
      have s2 := s1.mkBox (hf.drop del) (.cells C e) hu (B := .sl e τ xs) ⟨C.toList, by rw [e1]; exact hown, fun i x j y hx hy => by
       obtain ⟨vv, hv, hr⟩ := e3 i x j y hx hy
       exact ⟨vv, hv, tr.R hr (fun hm => by rw [enc_ment' hy] at hm; cases hm)⟩⟩
      rw [updB_updB] at s2
      refine ⟨.value (.slice (some ⟨w.heap.size, 0, none⟩) len len), _, _, _, ?_, .inl rfl, fun x hx => ?_, s2⟩
      ·have hr := run_buildSlice (P := P) w t e len (ps.map fun (p : Nat × Operand) => (p.1, a.eval p.2)) C ie zv ht hie hzv (by omega) hsz.2 (by simpa using hC)
       simp [execOp, ho, hr]
      ·simp at hx; subst hx; exact own_R (by simp [setη])
     ·cases h
    ·cases h
   ·split at h
    ·rename_i hc
     obtain ⟨rfl, hps⟩ := hc
     simp only [Option.some.injEq] at h
     subst h
     intro _
     have hps' : ps = #[] := by
      have : ps.size = 0 := by simpa using hps
      exact Array.eq_empty_of_size_eq_zero this
     subst hps'
     have hu : ∀ k, blk (.slice (some ⟨w.heap.size, 0, none⟩) 0 0) = some k → k = w.heap.size := fun k hk => by simp [blk] at hk; exact hk.symm
     have hown := World.ownsRow_lit (w := w) (base := 0) (e := e) (size := sz τ) #[] 0 (Nat.zero_le _) (by decide) (by simp)
     have s2 := s.mkBox hf (.cells #[] e) hu (B := .sl e τ []) ⟨[], by simpa using hown, fun i x j y hx => by simp at hx⟩
     refine ⟨.value (.slice (some ⟨w.heap.size, 0, none⟩) 0 0), _, _, _, ?_, .inl rfl, fun x hx => ?_, s2⟩
     ·simp [execOp, ho, Instr.buildSlice, run_underlying ht, sizeOf, typeInfo, hie, Instr.fill, newRow]
      rw [show (Array.range 0).map (fun _ : Nat => (default : Value)) = #[] from Array.eq_empty_of_size_eq_zero (by simp)]
     ·simp at hx; subst hx; exact own_R (by simp [setη])
    ·cases h
  ·cases h
 ·cases h
def wrMakeSlice (P : Program) (tt : TypeId → Option Ty) (key : Nat) (ρ : Operand → Option AV) (t : TypeId) (l c : Operand) : Option Wr :=
 match P.underlying t with
 | some (.slice e) => match P.info? e, zeroA P e, tt e, ρ l, ρ c with
  | some ie, some z, some τ, some (.lit (.int _ n)), some (.lit (.int _ m)) =>
   if ie.size = sz τ ∧ z.length = sz τ then
    match l with
    | .const (.int _ 0) => some ⟨0 ≤ m ∧ ie.bytes * m ≤ 281474976710656 ∧ m ≤ 9223372036854775807 ∧ n = 0, some (.own key), [], [(key, .sl e τ [])], true⟩
    | _ => match dec τ z with
     | some x0 => some ⟨n = m ∧ 0 ≤ n ∧ ie.bytes * n ≤ 281474976710656 ∧ n ≤ 9223372036854775807, some (.own key), [], [(key, .sl e τ (List.replicate n.toNat x0))], true⟩
     | none => none
   else none
  | _, _, _, _, _ => none
 | _ => none
theorem madeCells_at {z : Array Value} {n s : Nat} (hs : z.size = s) {i j : Nat} (hi : i < n) (hj : j < s) : (madeCells z (n * s)).toList[i * s + j]? = z[j]? := by
 have h1 : i * s + j < n * s := by
  have : (i + 1) * s ≤ n * s := Nat.mul_le_mul_right _ hi
  rw [Nat.add_mul] at this; omega
 rw [Array.getElem?_toList]
 simp only [madeCells]
 rw [Array.getElem?_map]
 have h2 : (Array.range (n * s))[i * s + j]? = some (i * s + j) := by simp [h1]
 rw [h2]
 simp only [Option.map_some, hs]
 have h3 : (i * s + j) % s = j := by rw [Nat.mul_comm, Nat.mul_add_mod, Nat.mod_eq_of_lt hj]
 rw [h3, Array.getElem?_eq_getElem (by omega)]
 simp [hs, hj]
theorem bytes_le {b : Nat} {m : Int} (h0 : 0 ≤ m) (h1 : b * m ≤ 281474976710656) : b * m.toNat ≤ 281474976710656 := by
 have h2 : ((b * m.toNat : Nat) : Int) ≤ 281474976710656 := by rw [Int.natCast_mul, Int.toNat_of_nonneg h0]; exact h1
 omega
theorem wrMakeSlice_ok (s : Sim N w0 ow η tm bx a w) (sr : Sim N w0 ow η tmr bxr a w) (hf : Fresh key tm bx) {o : Oper} {t : TypeId} {l c : Operand} {E : Wr} (ho : o.op = .makeSlice t l c) (h : wrMakeSlice P tt key (evalA tmr) t l c = some E) : Does P N w0 ow tm bx a w o E := by
 unfold wrMakeSlice at h
 split at h
 ·rename_i e ht
  split at h
  ·rename_i ie z τ kn n km m hie hz hτ hl hc
   split at h
   ·rename_i hsz
    obtain ⟨hs1, hs2⟩ := hsz
    obtain ⟨zv, hzv, rfl⟩ := zeroA_inv hz hie
    have hln := (sr.ev hl).lit_inv
    have hcm := (sr.ev hc).lit_inv
    have fin : ∀ (v : Value) (w' : World) (xs : List (El τ)), (Instr.makeSlice t (.int kn n) (.int km m)).run P w = .ok v w' → (∀ k, blk v = some k → k = w.heap.size) → w.grownBy w' none → (∀ k, blk v = some k → k < w'.heap.size) →
      (∀ fz η, BoxR w' fz η v (.sl e τ xs)) → ∃ n v w' η', (execOp a.eval o).run P w = .ok n w' ∧ (n = .value v ∨ (n = .skip ∧ v = undef)) ∧ (∀ x, some (AV.own key) = some x → R w' (Fz (Amb w0 ow) η') η' v x) ∧ Sim N w0 ow η' tm (updB bx [] [(key, .sl e τ xs)]) a w' := by
     intro v w' xs hrun hv hg hlt hB
     obtain ⟨_, hs⟩ := s.grow (B := .sl e τ xs) (v := v) (del := []) hf hg (.inl rfl) (fun k hk => ⟨hlt k hk, .inl (by rw [hv k hk]; exact Nat.le_refl _)⟩)
     refine ⟨.value v, v, w', _, by simp [execOp, ho, hln, hcm, hrun], .inl rfl, fun x hx => ?_, hs (hB _ _)⟩
     simp at hx; subst hx; exact own_R (by simp [setη])
    have hmk : ∀ (c' : Nat) (k : Nat), blk (.slice (some ⟨w.heap.size, 0, none⟩) c' c') = some k → k = w.heap.size := fun c' k hk => by simp [blk] at hk; exact hk.symm
    split at h
    ·simp only [Option.some.injEq] at h
     subst h
     rintro ⟨h0, h1, h2, rfl⟩
     obtain ⟨w', hr, ho1, hg⟩ := run_make_own (P := P) w 0 t e ie zv (sz τ) ht hie hzv hs1 kn km m.toNat (bytes_le h0 h1) (by unfold maxLen; omega) (Nat.zero_le _)
     rw [Int.toNat_of_nonneg h0] at hr
     refine fin _ w' [] hr (fun k hk => by simp [blk] at hk; exact hk.symm) hg (fun k hk => (ho1.lt k (by simp [blk] at hk; simp [Value.ownBlock, hk])).2) (fun fz η => ⟨[], ho1, fun i x j y hx => by simp at hx⟩)
    ·split at h
     ·rename_i x0 hx0
      simp only [Option.some.injEq] at h
      subst h
      rintro ⟨rfl, h0, h1, h2⟩
      obtain ⟨w', hr, ho1, hg⟩ := run_make_full (P := P) w 0 t e ie zv (sz τ) ht hie hzv hs1 kn km n.toNat (bytes_le h0 h1) (by unfold maxLen; omega) (Nat.zero_le _)
      rw [Int.toNat_of_nonneg h0] at hr
      have hz2 : zv.cells.size = sz τ := by simpa using hs2
      refine fin _ w' (List.replicate n.toNat x0) hr (fun k hk => by simp [blk] at hk; exact hk.symm) hg (fun k hk => (ho1.lt k (by simp [blk] at hk; simp [Value.ownBlock, hk])).2) (fun fz η => ⟨_, by rw [List.length_replicate]; exact ho1, fun i x j y hx hy => ?_⟩)
      have hi : i < n.toNat := by have := (List.getElem?_eq_some_iff.1 hx).1; simpa using this
      have hj : j < sz τ := by have := (List.getElem?_eq_some_iff.1 hy).1; rwa [enc_len] at this
      rw [List.getElem?_replicate, if_pos hi] at hx
      simp only [Option.some.injEq] at hx
      subst hx
      rw [madeCells_at hz2 hi hj]
      have hd := dec_ok hx0 (RL_toList (RL_lits (w := w') (fz := fz) (η := η) zv.cells))
      have hjc : j < zv.cells.size := by omega
      exact ⟨zv.cells[j], Array.getElem?_eq_getElem hjc, hd.2 j _ y (by rw [Array.getElem?_toList]; exact Array.getElem?_eq_getElem hjc) hy⟩
     ·cases h
   ·cases h
  ·cases h
 ·cases h
end
section
variable {P : Program} {w w' w0 : World} {ow : Own} {η η' : Nat → Option Value} {N key b g : Nat} {tm tmr : Nat → Option AV} {bx bxr : Bx} {a : Act} {u v : Value} {B : Box} {x : AV} {tt : TypeId → Option Ty}
def srcOf0 (bx : Bx) : AV → Option ((τ : Ty) × List (El τ))
 | .row τ xs => some ⟨τ, xs⟩
 | .own b => match bx b with
  | some (.sl _ τ xs) => some ⟨τ, xs⟩
  | _ => none
 | _ => none
def isNil : AV → Bool
 | .lit (.slice none 0 0) => true
 | _ => false
theorem isNil_eq (h : isNil x = true) : x = .lit (.slice none 0 0) := by
 unfold isNil at h
 split at h
 rfl
 cases h
theorem src_cells0 (s : Sim N w0 ow η tm bx a w) {τ : Ty} {ys : List (El τ)} (hx : srcOf0 bx x = some ⟨τ, ys⟩) (hr : R w (Fz (Amb w0 ow) η) η v x) :
  ∃ A c, v = .slice A ys.length c ∧ ys.length ≤ maxLen ∧ (A = none → ys = []) ∧ ∀ ad, A = some ad → ∃ news : List Value, news.length = ys.length * sz τ ∧ (∀ (j : Nat) u, news[j]? = some u → w.cell? (ad.add j) = some u) ∧ (∀ u ∈ news, u.oneCell' = true) ∧
   ∀ i y (j : Nat) z, ys[i]? = some y → (enc τ y)[j]? = some z → ∃ u, news[i * sz τ + j]? = some u ∧ R w (Fz (Amb w0 ow) η) η u z := by
 have idx : ∀ k : Nat, k < ys.length * sz τ → k / sz τ < ys.length ∧ k % sz τ < sz τ ∧ k / sz τ * sz τ + k % sz τ = k := fun k hk =>
  ⟨Nat.div_lt_of_lt_mul (by rw [Nat.mul_comm]; exact hk), Nat.mod_lt _ (sz_pos τ), by rw [Nat.mul_comm]; exact Nat.div_add_mod k (sz τ)⟩
 unfold srcOf0 at hx
 split at hx
 ·rename_i τ' xs'
  simp only [Option.some.injEq, Sigma.mk.injEq] at hx
  obtain ⟨rfl, hx⟩ := hx
  have hx := eq_of_heq hx
  subst hx
  obtain ⟨A, c, rfl, hc, hm, hel⟩ := hr.row_inv
  refine ⟨A, c, rfl, Nat.le_trans hc hm, fun hA => ?_, fun ad hA => ?_⟩
  ·cases xs' with
   | nil => rfl
   | cons y ys => obtain ⟨ad, h1, _⟩ := hel 0 y rfl; rw [hA] at h1; cases h1
  ·have get : ∀ k, k < xs'.length * sz τ' → ∃ u, w.cell? (ad.add k) = some u ∧ u.oneCell' = true := fun k hk => by
    obtain ⟨h1, h2, h3⟩ := idx k hk
    obtain ⟨ad', he, _, _, hcell⟩ := hel _ _ (List.getElem?_eq_getElem h1)
    rw [hA] at he
    injection he with he
    subst he
    have hz : (enc τ' xs'[k / sz τ'])[k % sz τ']? = some ((enc τ' xs'[k / sz τ'])[k % sz τ']'(by rw [enc_len]; exact h2)) := List.getElem?_eq_getElem _
    obtain ⟨u, hu, hR⟩ := hcell _ _ hz
    rw [h3] at hu
    exact ⟨u, hu, enc_one hz hR⟩
   refine ⟨(List.range (xs'.length * sz τ')).map (fun k => (w.cell? (ad.add k)).getD undef), by simp, fun j u hu => ?_, fun u hu => ?_, fun i y j z hy hz => ?_⟩
   ·have hj : j < xs'.length * sz τ' := by have := (List.getElem?_eq_some_iff.1 hu).1; simpa using this
    obtain ⟨u', hu', _⟩ := get j hj
    simp [hj, hu'] at hu
    rw [← hu]; exact hu'
   ·simp only [List.mem_map, List.mem_range] at hu
    obtain ⟨k, hk, rfl⟩ := hu
    obtain ⟨u', hu', h1⟩ := get k hk
    rw [hu']; exact h1
   ·obtain ⟨ad', he, _, _, hcell⟩ := hel i y hy
    rw [hA] at he
    injection he with he
    subst he
    obtain ⟨u, hu, hR⟩ := hcell j z hz
    have hi : i < xs'.length := (List.getElem?_eq_some_iff.1 hy).1
    have hj : j < sz τ' := by have := (List.getElem?_eq_some_iff.1 hz).1; rwa [enc_len] at this
    have hlt : i * sz τ' + j < xs'.length * sz τ' := by
     have : (i + 1) * sz τ' ≤ xs'.length * sz τ' := Nat.mul_le_mul_right _ hi
     rw [Nat.add_mul] at this; omega
    exact ⟨u, by simp [hlt, hu], hR⟩
 ·rename_i b
  split at hx
  ·rename_i e τ' xs' hb
   simp only [Option.some.injEq, Sigma.mk.injEq] at hx
   obtain ⟨rfl, hx⟩ := hx
   have hx := eq_of_heq hx
   subst hx
   obtain ⟨u, hu, cs, ho, hel⟩ := s.dom b _ hb
   have hv := hr.own_inv hu
   subst hv
   have hone : ∀ u ∈ cs, u.oneCell' = true := fun u hu2 => by
    obtain ⟨k, hk⟩ := List.getElem?_of_mem hu2
    have hk2 : k < xs'.length * sz τ' := by have := (List.getElem?_eq_some_iff.1 hk).1; rwa [ho.1] at this
    obtain ⟨h1, h2, h3⟩ := idx k hk2
    have hz : (enc τ' xs'[k / sz τ'])[k % sz τ']? = some ((enc τ' xs'[k / sz τ'])[k % sz τ']'(by rw [enc_len]; exact h2)) := List.getElem?_eq_getElem _
    obtain ⟨u', hu', hR⟩ := hel _ _ _ _ (List.getElem?_eq_getElem h1) hz
    rw [h3, hk] at hu'
    injection hu' with hu'
    subst hu'
    exact enc_one hz hR
   rcases ho.2 with ⟨rfl, h0⟩ | ⟨g, cap, cur, rfl, _, q1, q2, q3, q4, q5⟩
   ·refine ⟨none, 0, by rw [h0], by omega, fun _ => by cases xs'; rfl; simp at h0, fun ad hA => by cases hA⟩
   ·refine ⟨some ⟨g, 0, none⟩, cap, rfl, Nat.le_trans q2 q3, (fun hA => by cases hA), fun ad hA => ?_⟩
    injection hA with hA
    subst hA
    exact ⟨cs, ho.1, fun j u hu => ho.cells rfl j u hu, hone, hel⟩
  ·cases hx
 ·cases hx
def srcOf (bx : Bx) (x : AV) : Option ((τ : Ty) × List (El τ)) := match x with
 | .rown τ xs _ => some ⟨τ, xs⟩
 | .rowc τ xs _ => some ⟨τ, xs⟩
 | _ => srcOf0 bx x
theorem src_cells (s : Sim N w0 ow η tm bx a w) {τ : Ty} {ys : List (El τ)} (hx : srcOf bx x = some ⟨τ, ys⟩) (hr : R w (Fz (Amb w0 ow) η) η v x) :
  ∃ A c, v = .slice A ys.length c ∧ ys.length ≤ maxLen ∧ (A = none → ys = []) ∧ ∀ ad, A = some ad → ∃ news : List Value, news.length = ys.length * sz τ ∧ (∀ (j : Nat) u, news[j]? = some u → w.cell? (ad.add j) = some u) ∧ (∀ u ∈ news, u.oneCell' = true) ∧
   ∀ i y (j : Nat) z, ys[i]? = some y → (enc τ y)[j]? = some z → ∃ u, news[i * sz τ + j]? = some u ∧ R w (Fz (Amb w0 ow) η) η u z := by
 unfold srcOf at hx
 split at hx
 ·rename_i τ' xs' b
  obtain ⟨_, _, _, _, h⟩ := hr.rown_inv
  exact src_cells0 s (x := .row τ' xs') hx h
 ·rename_i τ' xs' c
  obtain ⟨_, _, h⟩ := hr.rowc_inv
  exact src_cells0 s (x := .row τ' xs') hx h
 ·exact src_cells0 s hx hr
def wrAppend (P : Program) (tt : TypeId → Option Ty) (key : Nat) (tm : Nat → Option AV) (bx : Bx) (t t' : TypeId) (s x : Operand) : Option Wr :=
  match P.underlying t with
  | some (.slice e) => match P.info? e, zeroA P e, evalA tm s, evalA tm x with
    | some ie, some z, some (.own b), some y => match bx b, srcOf bx y with
      | some (.sl e0 τ xs), some ⟨τ', ys⟩ => if t = t' ∧ e0 = e ∧ ie.size = sz τ ∧ z.length = sz τ then match cat τ τ' xs ys with
          | some zs => some ⟨((xs.length + ys.length) * ie.bytes : Nat) ≤ 140737488355328 ∧ xs.length + ys.length ≤ 140737488355328, some (.own key), [b], [(key, .sl e τ zs)], true⟩
          | none => none
        else none
      | some (.sl e0 τ xs), none => if t = t' ∧ e0 = e ∧ isNil y = true then some ⟨True, some (.own key), [b], [(key, .sl e τ xs)], true⟩ else none
      | _, _ => none
    | some ie, some z, some y0, some y => match srcOf bx y with
      | some ⟨τ, ys⟩ => if isNil y0 = true ∧ t = t' ∧ ie.size = sz τ ∧ z.length = sz τ then
          some ⟨(ys.length * ie.bytes : Nat) ≤ 140737488355328 ∧ ys.length ≤ 140737488355328, some (.own key), [], [(key, .sl e τ ys)], true⟩ else none
      | none => if isNil y0 = true ∧ isNil y = true ∧ t = t' then match tt e with
          | some τ => some ⟨True, some (.own key), [], [(key, .sl e τ [])], true⟩
          | none => none
        else none
    | _, _, _, _ => none
  | _ => none
theorem append_nil_run {t ty e : TypeId} {ie : TypeInfo} {A : Option Addr} {n c cc : Nat} (ht : P.underlying t = some (.slice e)) (hie : P.info? e = some ie) (hn : n ≤ c) :
  (Builtin.append_ #[t, t] ty #[.slice A n c, .slice none 0 cc]).run P w = .ok (.slice A n c) w := by
 cases A <;> simp [Builtin.append_, run_underlying ht, sizeOf_run hie, Builtin.lenOf, hn, Builtin.firstCells, storeCells]
theorem wrAppend_ok (s : Sim N w0 ow η tm bx a w) (sr : Sim N w0 ow η tmr bxr a w) (hf : Fresh key tm bx) {o : Oper} {t t' : TypeId} {x0 x1 : Operand} {E : Wr} (ho : o.op = .call { callee := .builtin .append, args := #[x0, x1], argTypes := #[t, t'] })
  (h : wrAppend P tt key tmr bxr t t' x0 x1 = some E) : Does P N w0 ow tm bx a w o E := by
 unfold wrAppend at h
 have exec : ∀ v w', (Builtin.append_ #[t, t'] o.type #[a.eval x0, a.eval x1]).run P w = .ok v w' → (execOp a.eval o).run P w = .ok (.value v) w' := fun v w' hr => by
  simp [execOp, ho, resolve, invoke, builtin, hr]
 have sur : ∀ (del : List Nat) (v : Value) (w' : World) (η1 : Nat → Option Value), η1 key = some v → (∀ x, some (AV.own key) = some x → R w' (Fz (Amb w0 ow) η1) η1 v x) := fun del v w' η1 h x hx => by simp at hx; subst hx; exact own_R h
 split at h
 ·rename_i e ht
  split at h
  ·rename_i ie z b y hie hz hs0 hs1
   obtain ⟨zv, hzv, rfl⟩ := zeroA_inv hz hie
   split at h
   ·rename_i e0 τ xs τ' ys hb hsrc
    split at h
    ·rename_i hc
     obtain ⟨rfl, rfl, hs2, hs3⟩ := hc
     split at h
     ·rename_i zs hzs
      obtain ⟨rfl, hzs⟩ := cat_ok hzs
      simp only at hzs
      subst hzs
      simp only [Option.some.injEq] at h
      subst h
      rintro ⟨hB, hL⟩
      obtain ⟨u, hu, cs, hown, hel⟩ := sr.dom b _ hb
      have hv0 := (sr.ev hs0).own_inv hu
      obtain ⟨A, c, hv1, hm, hA, hnews⟩ := src_cells sr hsrc (sr.ev hs1)
      cases A with
      | none =>
       have hy := hA rfl
       subst hy
       have hrow : blk u = u.ownBlock := by rcases hown.2 with ⟨rfl, _⟩ | ⟨g, cap, cur, rfl, _⟩ <;> rfl
       obtain ⟨tr, hs⟩ := s.grow (w' := w) (B := .sl e0 τ' (xs ++ [])) (v := u) (del := [b]) (row := blk u) hf ⟨rfl, rfl, rfl, Nat.le_refl _, fun _ _ _ => rfl⟩ (.inr ⟨b, u, by simp, hu, rfl⟩) (fun k hk => ⟨s.bound b u k hu hk, .inr hk⟩)
       refine ⟨.value u, u, w, _, exec u w ?_, .inl rfl, sur [b] u w _ (by simp [setη]), hs ⟨cs, by rw [List.append_nil]; exact hown, fun i x j y hx hy => ?_⟩⟩
       ·rw [hv0, hv1]
        rcases hown.2 with ⟨rfl, _⟩ | ⟨g, cap, cur, rfl, _, _, hle, _⟩
        ·exact append_nil_run ht hie (Nat.zero_le _)
        ·exact append_nil_run ht hie hle
       ·rw [List.append_nil] at hx
        obtain ⟨vv, h1, h2⟩ := hel i x j y hx hy
        exact ⟨vv, h1, tr.R h2 (fun hh => by rw [enc_ment' hy] at hh; cases hh)⟩
      | some ad =>
       obtain ⟨news, n1, n2, n3, n4⟩ := hnews ad rfl
       obtain ⟨v', w', hr, hown', hg, _, hat⟩ := run_append_own_at (P := P) w 0 t o.type e0 ie zv (sz τ') ie.bytes ht hie hzv hs2 rfl (by simpa using hs3) (sz_pos τ') u xs.length cs hown ad ys.length c news n1 n2 n3 (by unfold maxLen; omega) hB (Nat.zero_le _)
       have hblk : ∀ u : Value, (∃ cs n, w.ownsRow 0 e0 (sz τ') u n cs) ∨ (∃ cs n, w'.ownsRow 0 e0 (sz τ') u n cs) → blk u = u.ownBlock := by
        rintro u (⟨cs, n, h⟩ | ⟨cs, n, h⟩) <;> (rcases h.2 with ⟨rfl, _⟩ | ⟨g, cap, cur, rfl, _⟩ <;> rfl)
       have e1 := hblk u (.inl ⟨_, _, hown⟩)
       have e2 := hblk v' (.inr ⟨_, _, hown'⟩)
       obtain ⟨tr, hs⟩ := s.grow (w' := w') (B := .sl e0 τ' (xs ++ ys)) (v := v') (del := [b]) (row := u.ownBlock) hf hg (.inr ⟨b, u, by simp, hu, e1⟩) (fun k hk => ⟨(hown'.lt k (e2 ▸ hk)).2, by
        rw [e2] at hk
        rcases hat with h | h
        ·exact .inr (h ▸ hk)
        ·rw [h] at hk; injection hk with hk; exact .inl (by omega)⟩)
       refine ⟨.value v', v', w', _, exec v' w' (by rw [hv0, hv1]; exact hr), .inl rfl, sur [b] v' w' _ (by simp [setη]), hs ⟨cs ++ news, by rw [List.length_append]; exact hown', fun i x j y hx hy => ?_⟩⟩
       have hj : j < sz τ' := by have := (List.getElem?_eq_some_iff.1 hy).1; rwa [enc_len] at this
       by_cases hi : i < xs.length
       ·rw [List.getElem?_append_left hi] at hx
        obtain ⟨vv, h1, h2⟩ := hel i x j y hx hy
        have : (i + 1) * sz τ' ≤ xs.length * sz τ' := Nat.mul_le_mul_right _ hi
        rw [Nat.add_mul] at this
        exact ⟨vv, by rw [List.getElem?_append_left (by rw [hown.1]; omega)]; exact h1, tr.R h2 (fun hh => by rw [enc_ment' hy] at hh; cases hh)⟩
       ·rw [List.getElem?_append_right (by omega)] at hx
        obtain ⟨vv, h1, h2⟩ := n4 _ x j y hx hy
        have e4 : i * sz τ' + j = cs.length + ((i - xs.length) * sz τ' + j) := by
         rw [hown.1, ← Nat.add_assoc, ← Nat.add_mul, show xs.length + (i - xs.length) = i by omega]
        exact ⟨vv, by rw [e4, List.getElem?_append_right (by omega), Nat.add_sub_cancel_left]; exact h1, tr.R h2 (fun hh => by rw [enc_ment' hy] at hh; cases hh)⟩
     ·cases h
    ·cases h
   ·rename_i e0 τ xs hb hsrc
    split at h
    ·rename_i hc
     obtain ⟨rfl, rfl, hn⟩ := hc
     simp only [Option.some.injEq] at h
     subst h
     intro _
     have := isNil_eq hn
     subst this
     obtain ⟨u, hu, cs, hown, hel⟩ := sr.dom b _ hb
     have hv0 := (sr.ev hs0).own_inv hu
     have hv1 := (sr.ev hs1).lit_inv
     obtain ⟨tr, hs⟩ := s.grow (w' := w) (B := .sl e0 τ xs) (v := u) (del := [b]) (row := blk u) hf ⟨rfl, rfl, rfl, Nat.le_refl _, fun _ _ _ => rfl⟩ (.inr ⟨b, u, by simp, hu, rfl⟩) (fun k hk => ⟨s.bound b u k hu hk, .inr hk⟩)
     refine ⟨.value u, u, w, _, exec u w ?_, .inl rfl, sur [b] u w _ (by simp [setη]), hs ⟨cs, hown, fun i x j y hx hy => ?_⟩⟩
     ·rw [hv0, hv1]
      rcases hown.2 with ⟨rfl, _⟩ | ⟨g, cap, cur, rfl, _, _, hle, _⟩
      ·exact append_nil_run ht hie (Nat.zero_le _)
      ·exact append_nil_run ht hie hle
     ·obtain ⟨vv, h1, h2⟩ := hel i x j y hx hy
      exact ⟨vv, h1, tr.R h2 (fun hh => by rw [enc_ment' hy] at hh; cases hh)⟩
    ·cases h
   ·cases h
  ·rename_i ie z y0 y hno hie hz hs0 hs1
   obtain ⟨zv, hzv, rfl⟩ := zeroA_inv hz hie
   split at h
   ·rename_i τ ys hsrc
    split at h
    ·rename_i hc
     obtain ⟨hn, rfl, hs2, hs3⟩ := hc
     simp only [Option.some.injEq] at h
     subst h
     rintro ⟨hB, hL⟩
     have := isNil_eq hn
     subst this
     have hv0 := (sr.ev hs0).lit_inv
     obtain ⟨A, c, hv1, hm, hA, hnews⟩ := src_cells sr hsrc (sr.ev hs1)
     cases A with
     | none =>
      have hy := hA rfl
      subst hy
      obtain ⟨tr, hs⟩ := s.grow (w' := w) (B := .sl e τ []) (v := .slice none 0 0) (del := []) (row := none) hf ⟨rfl, rfl, rfl, Nat.le_refl _, fun _ _ _ => rfl⟩ (.inl rfl) (fun k hk => by simp [blk] at hk)
      refine ⟨.value (.slice none 0 0), .slice none 0 0, w, _, exec _ w ?_, .inl rfl, sur [] _ w _ (by simp [setη]), hs ⟨[], World.ownsRow_nil w 0 e _, fun i x j y hx => by simp at hx⟩⟩
      rw [hv0, hv1]; exact append_nil_run ht hie (Nat.le_refl _)
     | some ad =>
      obtain ⟨news, n1, n2, n3, n4⟩ := hnews ad rfl
      obtain ⟨v', w', hr, hown', hg, _, hat⟩ := run_append_own_at (P := P) w 0 t o.type e ie zv (sz τ) ie.bytes ht hie hzv hs2 rfl (by simpa using hs3) (sz_pos τ) (.slice none 0 0) 0 [] (World.ownsRow_nil w 0 e _) ad ys.length c news n1 n2 n3 (by unfold maxLen; omega) (by rw [Nat.zero_add]; exact hB) (Nat.zero_le _)
      have e2 : blk v' = v'.ownBlock := by rcases hown'.2 with ⟨rfl, _⟩ | ⟨g, cap, cur, rfl, _⟩ <;> rfl
      obtain ⟨tr, hs⟩ := s.grow (w' := w') (B := .sl e τ ys) (v := v') (del := []) (row := none) hf hg (.inl rfl) (fun k hk => ⟨(hown'.lt k (e2 ▸ hk)).2, .inl (by
       rw [e2] at hk
       rcases hat with h | h
       ·rw [h] at hk; cases hk
       ·rw [h] at hk; injection hk with hk; omega)⟩)
      refine ⟨.value v', v', w', _, exec v' w' (by rw [hv0, hv1]; exact hr), .inl rfl, sur [] v' w' _ (by simp [setη]), hs ⟨news, by rw [Nat.zero_add] at hown'; exact hown', fun i x j y hx hy => ?_⟩⟩
      obtain ⟨vv, h1, h2⟩ := n4 i x j y hx hy
      exact ⟨vv, h1, tr.R h2 (fun hh => by rw [enc_ment' hy] at hh; cases hh)⟩
    ·cases h
   ·split at h
    ·rename_i hc
     obtain ⟨hn0, hn1, rfl⟩ := hc
     split at h
     ·rename_i τ hτ
      simp only [Option.some.injEq] at h
      subst h
      intro _
      have := isNil_eq hn0
      subst this
      have := isNil_eq hn1
      subst this
      have hv0 := (sr.ev hs0).lit_inv
      have hv1 := (sr.ev hs1).lit_inv
      obtain ⟨tr, hs⟩ := s.grow (w' := w) (B := .sl e τ []) (v := .slice none 0 0) (del := []) (row := none) hf ⟨rfl, rfl, rfl, Nat.le_refl _, fun _ _ _ => rfl⟩ (.inl rfl) (fun k hk => by simp [blk] at hk)
      refine ⟨.value (.slice none 0 0), .slice none 0 0, w, _, exec _ w ?_, .inl rfl, sur [] _ w _ (by simp [setη]), hs ⟨[], World.ownsRow_nil w 0 e _, fun i x j y hx => by simp at hx⟩⟩
      rw [hv0, hv1]; exact append_nil_run ht hie (Nat.le_refl _)
     ·cases h
    ·cases h
  ·cases h
 ·cases h
end
theorem blk_set {w : World} {g : Nat} {t : TypeId} {cs : Array Value} (h : w.heap[g]? = some (.cells cs t (0, 0))) (i : Nat) (u : Value) : (w.setCell ⟨g, i, none⟩ u).heap[g]? = some (.cells (cs.setIfInBounds i u) t (0, 0)) := by
 simp [World.setCell, Array.getElem?_modify, h]
theorem blk_frozen {w : World} {g : Nat} {t : TypeId} {cs : Array Value} (h : w.heap[g]? = some (.cells cs t (0, 0))) (i : Nat) : w.frozen? ⟨g, i, none⟩ = false := by simp [World.frozen?, h]
theorem setCells_row {g : Nat} {e : TypeId} : ∀ (vs : List Value) (o : Nat) (w : World) (cur : Array Value), w.heap[g]? = some (.cells cur e (0, 0)) → o + vs.length ≤ cur.size →
  ∃ cur', (w.setCells g o vs).heap[g]? = some (.cells cur' e (0, 0)) ∧ cur'.size = cur.size ∧ cur'.toList = cur.toList.take o ++ vs ++ cur.toList.drop (o + vs.length)
 | [], o, w, cur, h, _ => ⟨cur, h, rfl, by simp⟩
 | v :: r, o, w, cur, h, hl => by
  have h2 := blk_set h o v
  simp only [List.length_cons] at hl
  obtain ⟨cur', h3, h4, h5⟩ := setCells_row r (o + 1) (w.setCell ⟨g, o, none⟩ v) _ h2 (by simp; omega)
  refine ⟨cur', h3, by rw [h4]; simp, ?_⟩
  rw [h5, Array.toList_setIfInBounds]
  have ho : o < cur.toList.length := by rw [Array.length_toList]; omega
  rw [List.take_set, List.drop_set_of_lt (by omega)]
  simp only [List.length_cons]
  rw [show o + 1 + r.length = o + (r.length + 1) by omega]
  congr 1
  rw [List.take_succ_eq_append_getElem ho, List.set_append_right _ _ (by rw [List.length_take]; omega)]
  have ho' : o < cur.size := by omega
  simp [Nat.min_eq_left (Nat.le_of_lt ho')]
theorem setCells_same (g : Nat) : ∀ (vs : List Value) (o : Nat) (w : World), (w.setCells g o vs).os = w.os ∧ (w.setCells g o vs).tape = w.tape ∧ (w.setCells g o vs).output = w.output ∧ (w.setCells g o vs).heap.size = w.heap.size
 | [], _, _ => ⟨rfl, rfl, rfl, rfl⟩
 | v :: r, o, w => by
  obtain ⟨h1, h2, h3, h4⟩ := setCells_same g r (o + 1) (w.setCell ⟨g, o, none⟩ v)
  rw [World.setCells]
  exact ⟨h1, h2, h3, by rw [h4]; simp [World.setCell]⟩
theorem setCells_far {g : Nat} : ∀ (vs : List Value) (o : Nat) {w : World} (k : Nat), k ≠ g → (w.setCells g o vs).heap[k]? = w.heap[k]?
 | [], _, _, _, _ => rfl
 | v :: r, o, w, k, hk => by
  rw [World.setCells, setCells_far r (o + 1) k hk]
  exact Below.heap_setCell w ⟨g, o, none⟩ v k hk
theorem add_plain (g j : Nat) : (⟨g, 0, none⟩ : Addr).add j = ⟨g, j, none⟩ := by unfold Addr.add; split <;> simp_all
section
variable {P : Program}
theorem run_append_zeros (w : World) (base : Nat) (t ti ty e : TypeId) (i : TypeInfo) (z : Value) (size bytes : Nat) (ht : P.underlying t = some (.slice e)) {k : IntKind} (hti : P.underlying ti = some (.int k)) (hi : P.info? e = some i) (hz : i.zero = some z)
  (hsize : i.size = size) (hby : i.bytes = bytes) (hzs : z.cells.size = size) (hsz : 0 < size) (hb0 : 0 < bytes)
  (v : Value) (n : Nat) (xs : List Value) (hown : w.ownsRow base e size v n xs) (kx : IntKind) (m : Nat) (h1 : ∀ u ∈ (Builtin.zeroCells z.cells m).toList, u.oneCell' = true)
  (hbytes : (n + m) * bytes ≤ 140737488355328) (hbase : base ≤ w.heap.size) :
  ∃ v' w', (Builtin.append_ #[t, ti] ty #[v, .int kx m]).run P w = .ok v' w' ∧ w'.ownsRow base e size v' (n + m) (xs ++ (Builtin.zeroCells z.cells m).toList) ∧ w.grownBy w' v.ownBlock ∧
   (v'.ownBlock = v.ownBlock ∨ v'.ownBlock = some w.heap.size) := by
 subst hsize
 subst hby
 have hle : n + m ≤ 140737488355328 := Nat.le_trans (Nat.le_mul_of_pos_right _ hb0) hbytes
 have h63 : n + m ≤ maxLen := by simp only [maxLen]; omega
 have hw : IntKind.i64.wrap (m : Int) = m := by rw [IntKind.wrap_i64]; omega
 have hw0 : IntKind.i64.wrap 0 = 0 := by rw [IntKind.wrap_i64]; rfl
 have hneg : ¬ ((m : Int) < 0) := by omega
 have hmb : m * i.bytes ≤ 140737488355328 := Nat.le_trans (Nat.mul_le_mul_right _ (Nat.le_add_left m n)) hbytes
 have hbig : ¬ (281474976710656 < (m : Int) * (i.bytes : Int)) := by
  rw [← Int.natCast_mul]
  omega
 have hsn : i.size ≠ 0 := by omega
 obtain ⟨news, hnews⟩ : ∃ news, news = (Builtin.zeroCells z.cells m).toList := ⟨_, rfl⟩
 rw [← hnews] at h1 ⊢
 have hl : news.length = m * i.size := by rw [hnews, Array.length_toList, size_zeroCells, hzs]
 have hna : Builtin.zeroCells z.cells m = news.toArray := by rw [hnews]
 have hlen : (xs ++ news).length = (n + m) * i.size := by rw [List.length_append, hown.1, hl, Nat.add_mul]
 have hnil : m = 0 → news = [] := fun h => List.eq_nil_of_length_eq_zero (by rw [hl, h, Nat.zero_mul])
 have grown : ∀ (old : Nat), old < n + m → ∀ (row : Option Nat),
   (w.drew.alloc (.cells (xs.toArray ++ news.toArray ++ Builtin.zeroCells z.cells (grownCap w (n + m) old e - (n + m))) e)).ownsRow base e i.size
    (.slice (some ⟨w.heap.size, 0, none⟩) (n + m) (grownCap w (n + m) old e)) (n + m) (xs ++ news) ∧
   w.grownBy (w.drew.alloc (.cells (xs.toArray ++ news.toArray ++ Builtin.zeroCells z.cells (grownCap w (n + m) old e - (n + m))) e)) row := by
  intro old ho row
  have hge := grownCap_ge w (n + m) old e
  have hcm : grownCap w (n + m) old e ≤ maxLen := grownCap_le_maxLen w (n + m) old e h63
  refine ⟨⟨hlen, .inr ⟨w.heap.size, _, _, rfl, hbase, heap_alloc_new w.drew _, hge, hcm, ?_, ?_⟩⟩, ⟨rfl, rfl, rfl, by simp, fun k hk _ => (show (w.drew.heap.push _)[k]? = w.drew.heap[k]? by rw [Array.getElem?_push, if_neg (show ¬ k = w.drew.heap.size from Nat.ne_of_lt hk)])⟩⟩
  ·simp only [Array.size_append, List.size_toArray, size_zeroCells, hzs, hown.1, hl, ← Nat.add_mul]
   congr 1
   omega
  ·simp only [Array.toList_append, List.append_assoc]
   rw [← List.append_assoc, ← hlen]
   exact List.take_left
 have runs : ∀ (A : Option Addr) (cap : Nat), cap < n + m → (Builtin.firstCells i.size n (.slice A n cap)).run P w.drew = .ok xs.toArray w.drew → (Builtin.append_ #[t, ti] ty #[.slice A n cap, .int kx m]).run P w =
   .ok (.slice (some ⟨w.heap.size, 0, none⟩) (n + m) (grownCap w (n + m) cap e)) (w.drew.alloc (.cells (xs.toArray ++ news.toArray ++ Builtin.zeroCells z.cells (grownCap w (n + m) cap e - (n + m))) e)) := by
  intro A cap hcap hfo
  have hn : ¬ (n + m ≤ cap) := by omega
  have h63' : ¬ (9223372036854775807 < ((n : Int) + (m : Int))) := by omega
  have hfit := growslice_fits hcap hbytes
  have h48' : ¬ (281474976710656 < Builtin.nextslicecap (n + m) cap * i.bytes) := by omega
  by_cases hm : m = 0
  ·have hnl := hnil hm
   subst hm
   rw [hnl]
   simp only [Nat.add_zero] at hn h63' h48' ⊢
   have h63'' : ¬ (9223372036854775807 < (n : Int)) := by omega
   simp [Builtin.append_, run_underlying ht, run_underlying hti, sizeOf, typeInfo, zeroValue, hi, hz, asInt, asIntOf, hw0, hn, h63'', h48', Question.forced, hfo, newRow, grownCap]
  ·have hmz : ¬ (m * i.size = 0) := Nat.mul_ne_zero hm hsn
   simp [Builtin.append_, run_underlying ht, run_underlying hti, sizeOf, typeInfo, zeroValue, hi, hz, asInt, asIntOf, hw, hneg, hbig, hn, h63', h48', Question.forced, hfo, newRow, grownCap, hmz, hna]
   congr 2
   apply Array.ext'
   simp [List.append_assoc]
 rcases hown.2 with ⟨rfl, rfl⟩ | ⟨g, cap, cur, rfl, hbg, hg, hnc, hcm, hcs, htake⟩
 ·have hx : xs = [] := List.eq_nil_of_length_eq_zero (by simpa using hown.1)
  subst hx
  by_cases hm : m = 0
  ·have hnl := hnil hm
   subst hm
   rw [hnl]
   refine ⟨.slice none 0 0, w, ?_, World.ownsRow_nil w base e i.size, ⟨rfl, rfl, rfl, Nat.le_refl _, fun _ _ _ => rfl⟩, Or.inl rfl⟩
   simp [Builtin.append_, run_underlying ht, run_underlying hti, sizeOf, typeInfo, hi, asInt, asIntOf, hw0]
  ·have hgr := grown 0 (by omega) (Value.ownBlock (.slice none 0 0))
   exact ⟨_, _, runs none 0 (by omega) (by simp [Builtin.firstCells]), hgr.1, hgr.2, Or.inr rfl⟩
 ·by_cases hroom : n + m ≤ cap
  ·have hfit : n * i.size + news.length ≤ cur.size := by rw [hl, hcs, ← Nat.add_mul]; exact Nat.mul_le_mul_right _ hroom
   obtain ⟨cur', h3, h4, h5⟩ := setCells_row news (n * i.size) w cur hg hfit
   obtain ⟨s1, s2, s3, s4⟩ := setCells_same g news (n * i.size) w
   have hst := run_storeCells_cells (P := P) g (n * i.size) news 0 w (fun j hj => by rw [cell_of_row w g _ cur e (0, 0) hg]; simp; omega) (fun j _ => blk_frozen hg _) h1
   simp only [Nat.add_zero] at hst
   refine ⟨.slice (some ⟨g, 0, none⟩) (n + m) cap, w.setCells g (n * i.size) news, ?_, ⟨hlen, .inr ⟨g, cap, cur', rfl, hbg, h3, hroom, hcm, by rw [h4, hcs], ?_⟩⟩, ⟨s1, s2, s3, by rw [s4]; exact Nat.le_refl _, fun k _ hk => setCells_far news _ k (fun e => hk (by simp [Value.ownBlock, e]))⟩, Or.inl rfl⟩
   ·by_cases hm : m = 0
    ·have hnl := hnil hm
     subst hm
     rw [hnl] at hst ⊢
     simp [Builtin.append_, run_underlying ht, run_underlying hti, sizeOf, typeInfo, hi, asInt, asIntOf, hw0, hnc, add_plain, hst]
    ·have hmz : ¬ (m * i.size = 0) := Nat.mul_ne_zero hm hsn
     simp [Builtin.append_, run_underlying ht, run_underlying hti, sizeOf, typeInfo, zeroValue, hi, hz, asInt, asIntOf, hw, hneg, hbig, hroom, hmz, hna, add_plain, hst]
   ·rw [h5]
    have h6 : cur.toList.take (n * i.size) = xs := htake
    rw [h6, ← hlen]
    exact List.take_left
  ·have holds : ∀ j u, xs[j]? = some u → w.cell? ((⟨g, 0, none⟩ : Addr).add j) = some u := hown.cells (g := g) rfl
   have hgr := grown cap (by omega) (Value.ownBlock (.slice (some ⟨g, 0, none⟩) n cap))
   exact ⟨_, _, runs (some ⟨g, 0, none⟩) cap (by omega) (run_firstCells_some (P := P) w.drew i.size n _ n cap xs hown.1 (by simpa using holds)), hgr.1, hgr.2, Or.inr rfl⟩
end
section
variable {P : Program} {w w' w0 : World} {ow : Own} {η η' : Nat → Option Value} {N key b g : Nat} {tm tmr : Nat → Option AV} {bx bxr : Bx} {a : Act} {tt : TypeId → Option Ty}
theorem zeroCells_eq {z : Array Value} {n s : Nat} (hz : z.size = s) : Builtin.zeroCells z n = madeCells z (n * s) := by
 unfold Builtin.zeroCells madeCells; rw [hz]
def wrZeros (P : Program) (tt : TypeId → Option Ty) (key : Nat) (tm : Nat → Option AV) (bx : Bx) (t ti : TypeId) (s x : Operand) : Option Wr :=
  match P.underlying t, P.underlying ti, evalA tm x with
  | some (.slice e), some (.int _), some (.lit (.int _ n)) => match P.info? e, zeroA P e, tt e, evalA tm s with
    | some ie, some z, some τ, some (.own b) => match bx b, dec τ z with
      | some (.sl e0 τ0 xs), some x0 => if e0 = e ∧ ie.size = sz τ ∧ z.length = sz τ ∧ 0 < ie.bytes then match cat τ0 τ xs (List.replicate n.toNat x0) with
          | some zs => some ⟨0 ≤ n ∧ ((xs.length + n.toNat) * ie.bytes : Nat) ≤ 140737488355328, some (.own key), [b], [(key, .sl e τ0 zs)], true⟩
          | none => none
        else none
      | _, _ => none
    | some ie, some z, some τ, some y0 => match dec τ z with
      | some x0 => if isNil y0 = true ∧ ie.size = sz τ ∧ z.length = sz τ ∧ 0 < ie.bytes then
          some ⟨0 ≤ n ∧ (n.toNat * ie.bytes : Nat) ≤ 140737488355328, some (.own key), [], [(key, .sl e τ (List.replicate n.toNat x0))], true⟩ else none
      | none => none
    | _, _, _, _ => none
  | _, _, _ => none
theorem wrZeros_ok (s : Sim N w0 ow η tm bx a w) (sr : Sim N w0 ow η tmr bxr a w) (hf : Fresh key tm bx) {o : Oper} {t ti : TypeId} {x0 x1 : Operand} {E : Wr} (ho : o.op = .call { callee := .builtin .append, args := #[x0, x1], argTypes := #[t, ti] })
  (h : wrZeros P tt key tmr bxr t ti x0 x1 = some E) : Does P N w0 ow tm bx a w o E := by
 unfold wrZeros at h
 have exec : ∀ v w', (Builtin.append_ #[t, ti] o.type #[a.eval x0, a.eval x1]).run P w = .ok v w' → (execOp a.eval o).run P w = .ok (.value v) w' := fun v w' hr => by
  simp [execOp, ho, resolve, invoke, builtin, hr]
 split at h
 ·rename_i e ki kx n ht hti hx
  have hvx := (sr.ev hx).lit_inv
  -- all there is of it
  have core : ∀ (ie : TypeInfo) (z : List AV) (τ : Ty) (z0 : El τ) (v : Value) (xs : List (El τ)) (cs : List Value) (del : List Nat) (row : Option Nat), P.info? e = some ie → zeroA P e = some z → dec τ z = some z0 → ie.size = sz τ → z.length = sz τ → 0 < ie.bytes →
    a.eval x0 = v → w.ownsRow 0 e (sz τ) v xs.length cs → (∀ i x j y, xs[i]? = some x → (enc τ x)[j]? = some y → ∃ v, cs[i * sz τ + j]? = some v ∧ R w (Fz (Amb w0 ow) η) η v y) → blk v = row → (row = none ∨ ∃ b u, del.contains b = true ∧ η b = some u ∧ blk u = row) →
    0 ≤ n → ((xs.length + n.toNat) * ie.bytes : Nat) ≤ 140737488355328 →
    ∃ n0 v w' η', (execOp a.eval o).run P w = .ok n0 w' ∧ (n0 = .value v ∨ (n0 = .skip ∧ v = undef)) ∧ (∀ x, some (AV.own key) = some x → R w' (Fz (Amb w0 ow) η') η' v x) ∧ Sim N w0 ow η' tm (updB bx del [(key, .sl e τ (xs ++ List.replicate n.toNat z0))]) a w' := by
   intro ie z τ z0 v xs cs del row hie hz hdec hs2 hs3 hb0 hv0 hown hel hrow hdel hn0 hB
   obtain ⟨zv, hzv, rfl⟩ := zeroA_inv hz hie
   have hzs : zv.cells.size = sz τ := by simpa using hs3
   have hd := fun (w : World) (fz : Nat → Prop) (η : Nat → Option Value) => dec_ok hdec (RL_toList (RL_lits (w := w) (fz := fz) (η := η) zv.cells))
   have hone : ∀ u ∈ (Builtin.zeroCells zv.cells n.toNat).toList, u.oneCell' = true := fun u hu => by
    rw [zeroCells_eq hzs] at hu
    obtain ⟨k, hk, hku⟩ := List.getElem_of_mem hu
    have hk' : k < n.toNat * sz τ := by simpa [size_madeCells] using hk
    have hi : k / sz τ < n.toNat := Nat.div_lt_of_lt_mul (by rw [Nat.mul_comm]; exact hk')
    have hj : k % sz τ < sz τ := Nat.mod_lt _ (sz_pos τ)
    have he := madeCells_at (z := zv.cells) (n := n.toNat) hzs hi hj
    rw [show k / sz τ * sz τ + k % sz τ = k by rw [Nat.mul_comm]; exact Nat.div_add_mod k (sz τ), List.getElem?_eq_getElem hk, hku] at he
    have hjc : k % sz τ < zv.cells.size := by omega
    have hy : (enc τ z0)[k % sz τ]? = some ((enc τ z0)[k % sz τ]'(by rw [enc_len]; exact hj)) := List.getElem?_eq_getElem _
    exact enc_one hy ((hd w (Fz (Amb w0 ow) η) η).2 (k % sz τ) u _ (by rw [Array.getElem?_toList]; exact he.symm) hy)
   obtain ⟨v', w', hr, hown', hg, hat⟩ := run_append_zeros (P := P) w 0 t ti o.type e ie zv (sz τ) ie.bytes ht hti hie hzv hs2 rfl hzs (sz_pos τ) hb0 v xs.length cs hown kx n.toNat hone hB (Nat.zero_le _)
   rw [Int.toNat_of_nonneg hn0] at hr
   have hblk : ∀ u : Value, (∃ cs n, w.ownsRow 0 e (sz τ) u n cs) ∨ (∃ cs n, w'.ownsRow 0 e (sz τ) u n cs) → blk u = u.ownBlock := by
    rintro u (⟨cs, n, h⟩ | ⟨cs, n, h⟩) <;> (rcases h.2 with ⟨rfl, _⟩ | ⟨g, cap, cur, rfl, _⟩ <;> rfl)
   have e1 := hblk v (.inl ⟨_, _, hown⟩)
   have e2 := hblk v' (.inr ⟨_, _, hown'⟩)
   rw [hrow] at e1
   obtain ⟨tr, hs⟩ := s.grow (w' := w') (B := .sl e τ (xs ++ List.replicate n.toNat z0)) (v := v') (del := del) (row := row) hf (e1 ▸ hg) hdel (fun k hk => ⟨(hown'.lt k (e2 ▸ hk)).2, by
    rw [e2] at hk
    rcases hat with h | h
    ·exact .inr (e1.trans (h ▸ hk))
    ·rw [h] at hk; injection hk with hk; exact .inl (by omega)⟩)
   refine ⟨.value v', v', w', _, exec v' w' (by rw [hv0, hvx]; exact hr), .inl rfl, (fun x hx => by simp at hx; subst hx; exact own_R (by simp [setη])), hs ⟨cs ++ (Builtin.zeroCells zv.cells n.toNat).toList, by rw [List.length_append, List.length_replicate]; exact hown', fun i x j y hx hy => ?_⟩⟩
   have hj : j < sz τ := by have := (List.getElem?_eq_some_iff.1 hy).1; rwa [enc_len] at this
   by_cases hi : i < xs.length
   ·rw [List.getElem?_append_left hi] at hx
    obtain ⟨vv, h1, h2⟩ := hel i x j y hx hy
    have : (i + 1) * sz τ ≤ xs.length * sz τ := Nat.mul_le_mul_right _ hi
    rw [Nat.add_mul] at this
    exact ⟨vv, by rw [List.getElem?_append_left (by rw [hown.1]; omega)]; exact h1, tr.R h2 (fun hh => by rw [enc_ment' hy] at hh; cases hh)⟩
   ·rw [List.getElem?_append_right (by omega)] at hx
    have hi2 : i - xs.length < n.toNat := by have := (List.getElem?_eq_some_iff.1 hx).1; simpa using this
    rw [List.getElem?_replicate, if_pos hi2] at hx
    simp only [Option.some.injEq] at hx
    subst hx
    have hjc : j < zv.cells.size := by omega
    refine ⟨zv.cells[j], ?_, (hd _ _ _).2 j _ y (by rw [Array.getElem?_toList]; exact Array.getElem?_eq_getElem hjc) hy⟩
    have hge : xs.length * sz τ ≤ i * sz τ := Nat.mul_le_mul_right _ (by omega)
    rw [List.getElem?_append_right (by rw [hown.1]; omega), hown.1, zeroCells_eq hzs, show i * sz τ + j - xs.length * sz τ = (i - xs.length) * sz τ + j by rw [Nat.sub_mul]; omega, madeCells_at hzs hi2 hj]
    exact Array.getElem?_eq_getElem hjc
  split at h
  ·rename_i ie z τ b hie hz hτ hs0
   split at h
   ·rename_i e0 τ0 xs z0 hb hdec
    split at h
    ·rename_i hc
     obtain ⟨rfl, hs2, hs3, hb0⟩ := hc
     split at h
     ·rename_i zs hzs
      obtain ⟨rfl, hzs⟩ := cat_ok hzs
      simp only at hzs
      subst hzs
      simp only [Option.some.injEq] at h
      subst h
      rintro ⟨hn0, hB⟩
      obtain ⟨u, hu, cs, hown, hel⟩ := sr.dom b _ hb
      exact core ie z _ z0 u xs cs [b] (blk u) hie hz hdec hs2 hs3 hb0 ((sr.ev hs0).own_inv hu) hown hel rfl (.inr ⟨b, u, by simp, hu, rfl⟩) hn0 hB
     ·cases h
    ·cases h
   ·cases h
  ·rename_i ie z τ y0 _ hie hz hτ hs0
   split at h
   ·rename_i z0 hdec
    split at h
    ·rename_i hc
     obtain ⟨hnil, hs2, hs3, hb0⟩ := hc
     simp only [Option.some.injEq] at h
     subst h
     rintro ⟨hn0, hB⟩
     have hy0 := isNil_eq hnil
     subst hy0
     have := core ie z τ z0 (.slice none 0 0) [] [] [] none hie hz hdec hs2 hs3 hb0 (sr.ev hs0).lit_inv (World.ownsRow_nil w 0 e (sz τ)) (fun i x j y hx => by simp at hx) rfl (.inl rfl) hn0 (by simpa using hB)
     rw [List.nil_append] at this
     exact this
    ·cases h
   ·cases h
  ·cases h
 ·cases h
end
section
variable {P : Program} {w w' w0 : World} {ow : Own} {η η' : Nat → Option Value} {N key b g : Nat} {tm tmr : Nat → Option AV} {bx bxr : Bx} {a : Act} {u v : Value} {B : Box} {x : AV} {tt : TypeId → Option Ty}
theorem Sim.same (s : Sim N w0 ow η tm bx a w) (hu : η b = some u) (hB : BoxR w (Fz (Amb w0 ow) η) η u B) : Sim N w0 ow η tm (updB bx [] [(b, B)]) a w := by
 refine ⟨s.size, s.nod, s.frame, s.tmp, fun b' B' hB' => ?_, s.new, s.apart, s.pin, s.pinlt⟩
 by_cases h : b' = b
 subst h; rw [updB_eq1, Option.some.injEq] at hB'; subst hB'; exact ⟨u, hu, hB⟩
 rw [updB_ne1 h] at hB'; simp at hB'; exact s.dom b' B' hB'
def wrCopy (P : Program) (tm : Nat → Option AV) (bx : Bx) (t : TypeId) (d x : Operand) : Option Wr :=
  match P.underlying t with
  | some (.slice e) => match P.info? e, evalA tm d, evalA tm x with
    | some ie, some (.own b), some y => match bx b, srcOf bx y with
      | some (.sl e0 τ xs), some ⟨τ', ys⟩ => if ie.size = sz τ then match cat τ τ' [] ys with
          | some zs => some ⟨True, some (.lit (.int .i64 (min zs.length xs.length))), [], [(b, .sl e0 τ (zs.take xs.length ++ xs.drop zs.length))], false⟩
          | none => none
        else none
      | _, _ => none
    | _, _, _ => none
  | _ => none
theorem wrCopy_ok (s : Sim N w0 ow η tm bx a w) (sr : Sim N w0 ow η tmr bxr a w) {o : Oper} {t t' : TypeId} {x0 x1 : Operand} {E : Wr} (ho : o.op = .call { callee := .builtin .copy, args := #[x0, x1], argTypes := #[t, t'] })
  (h : wrCopy P tmr bxr t x0 x1 = some E) : Does P N w0 ow tm bx a w o E := by
 unfold wrCopy at h
 have exec : ∀ v w', (Builtin.copy_ #[t, t'] o.type #[a.eval x0, a.eval x1]).run P w = .ok v w' → (execOp a.eval o).run P w = .ok (.value v) w' := fun v w' hr => by
  simp [execOp, ho, resolve, invoke, builtin, hr]
 split at h
 ·rename_i e ht
  split at h
  ·rename_i ie b y hie hs0 hs1
   split at h
   ·rename_i e0 τ xs τ' ys hb hsrc
    split at h
    ·rename_i hsz
     split at h
     ·rename_i zs hzs
      obtain ⟨rfl, hzs⟩ := cat_ok hzs
      simp only [List.nil_append] at hzs
      subst hzs
      simp only [Option.some.injEq] at h
      subst h
      intro _
      obtain ⟨u, hu, cs, hown, hel⟩ := sr.dom b _ hb
      have hv0 := (sr.ev hs0).own_inv hu
      obtain ⟨A, c, hv1, hm, hA, hnews⟩ := src_cells sr hsrc (sr.ev hs1)
      generalize hn : min zs.length xs.length = n
      have hmin : Nat.min zs.length xs.length = n := hn
      have sur : ∀ (v : Value) (w' : World) (η1 : Nat → Option Value), v = .int .i64 n → (∀ x, some (AV.lit (.int .i64 (n : Int))) = some x → R w' (Fz (Amb w0 ow) η1) η1 v x) := fun v w' η1 h x hx => by
       simp only [Option.some.injEq] at hx; subst hx; rw [h]; exact .lit _
      have hi : ((min zs.length xs.length : Nat) : Int) = (n : Int) := by rw [hn]
      have fin : ∀ w', (Builtin.copy_ #[t, t'] o.type #[a.eval x0, a.eval x1]).run P w = .ok (.int .i64 n) w' → Sim N w0 ow η tm (updB bx [] [(b, .sl e0 τ' (zs.take xs.length ++ xs.drop zs.length))]) a w' →
        ∃ n_ v w' η', (execOp a.eval o).run P w = .ok n_ w' ∧ (n_ = .value v ∨ (n_ = .skip ∧ v = undef)) ∧ (∀ x, some (AV.lit (.int .i64 (min zs.length xs.length))) = some x → R w' (Fz (Amb w0 ow) η') η' v x) ∧ Sim N w0 ow η' tm (updB bx [] [(b, .sl e0 τ' (zs.take xs.length ++ xs.drop zs.length))]) a w' := fun w' hr hs => by
       refine ⟨.value (.int .i64 n), .int .i64 n, w', η, exec _ w' hr, .inl rfl, fun x hx => ?_, hs⟩
       simp only [Option.some.injEq] at hx; subst hx
       have e1 : (min (zs.length : Int) (xs.length : Int)) = (n : Int) := by omega
       rw [e1]; exact .lit _
      by_cases hz : n = 0
      ·subst hz
       have hl : zs.take xs.length ++ xs.drop zs.length = xs := by
        by_cases h0 : xs.length = 0
        ·have : xs = [] := by cases xs; rfl; simp at h0
         subst this; simp
        ·have : zs.length = 0 := by omega
         have : zs = [] := by cases zs; rfl; simp at this
         subst this; simp
       refine fin w ?_ (s.same hu (by rw [hl]; exact ⟨cs, hown, hel⟩))
       rw [hv0, hv1]
       rcases hown.2 with ⟨rfl, h0⟩ | ⟨g, cap, cur, rfl, _⟩
       ·cases A <;> simp [Builtin.copy_, run_underlying ht, Builtin.lenOf, sizeOf_run hie, Builtin.firstCells, storeCells, goInt, loadCells, loadCellsFrom]
       ·cases A <;> simp [Builtin.copy_, run_underlying ht, Builtin.lenOf, sizeOf_run hie, Builtin.firstCells, storeCells, goInt, hmin, loadCells, loadCellsFrom]
      ·have hzs0 : zs ≠ [] := fun h => by subst h; simp at hn; omega
       obtain ⟨ad, rfl⟩ : ∃ ad, A = some ad := by cases A with
        | none => exact absurd (hA rfl) hzs0
        | some ad => exact ⟨ad, rfl⟩
       obtain ⟨news, n1, n2, n3, n4⟩ := hnews ad rfl
       rcases hown.2 with ⟨rfl, h0⟩ | ⟨g, cap, cur, rfl, _, q1, q2, q3, q4, q5⟩
       ·omega
       have hnz : n * sz τ' ≤ zs.length * sz τ' := Nat.mul_le_mul_right _ (by omega)
       have hnx : n * sz τ' ≤ xs.length * sz τ' := Nat.mul_le_mul_right _ (by omega)
       have hxc : xs.length * sz τ' ≤ cap * sz τ' := Nat.mul_le_mul_right _ q2
       have hD : (news.take (n * sz τ')).length = n * sz τ' := by simp; omega
       have hload := run_loadCells_list (P := P) w ad (news.take (n * sz τ')) (fun j v hv => by
        rw [List.getElem?_take] at hv
        split at hv
        ·exact n2 j v hv
        ·cases hv)
       rw [hD] at hload
       have hst := run_storeCells_at P g 0 e0 (news.take (n * sz τ')) 0 cur w q1 (by rw [hD]; omega) (fun v hv => n3 v (List.mem_of_mem_take hv))
       simp only [Nat.add_zero, Nat.zero_add, hD] at hst
       have tr := same_tr s hu rfl (cur.toList.take 0 ++ news.take (n * sz τ') ++ cur.toList.drop (n * sz τ')).toArray
       refine fin (w.setRow g (cur.toList.take 0 ++ news.take (n * sz τ') ++ cur.toList.drop (n * sz τ')).toArray) ?_ (s.inplace hu rfl _ ⟨cs.take 0 ++ news.take (n * sz τ') ++ cs.drop (0 + n * sz τ'), ⟨?_, .inr ⟨g, cap, _, ?_, Nat.zero_le _, setRow_heap w g cur _ e0 (0, 0) q1, ?_, q3, ?_, ?_⟩⟩, ?_⟩)
       ·rw [hv0, hv1]
        simp [Builtin.copy_, run_underlying ht, Builtin.lenOf, hmin, sizeOf_run hie, hsz, Builtin.firstCells, hload, hst, goInt]
       ·have := hown.1
        have h7 : (zs.take xs.length ++ xs.drop zs.length).length = xs.length := by simp; omega
        rw [h7]; simp; omega
       ·have h7 : (zs.take xs.length ++ xs.drop zs.length).length = xs.length := by simp; omega
        rw [h7]
       ·have h7 : (zs.take xs.length ++ xs.drop zs.length).length = xs.length := by simp; omega
        rw [h7]; exact q2
       ·simp; omega
       ·have h7 : (zs.take xs.length ++ xs.drop zs.length).length = xs.length := by simp; omega
        rw [h7, ← q5]
        have := take_splice cur.toList (news.take (n * sz τ')) 0 (n * sz τ') (xs.length * sz τ') hD (by omega) (by rw [← q4] at hxc; rw [Array.length_toList]; exact hxc)
        simpa using this
       ·intro i x j y hx hy
        have hj : j < sz τ' := by have := (List.getElem?_eq_some_iff.1 hy).1; rwa [enc_len] at this
        simp only [List.take_zero, List.nil_append, Nat.zero_add]
        have htl : (zs.take xs.length).length = n := by simp; omega
        by_cases hi : i < n
        ·rw [List.getElem?_append_left (by omega), List.getElem?_take, if_pos (by omega)] at hx
         obtain ⟨vv, h1, h2⟩ := n4 i x j y hx hy
         have : (i + 1) * sz τ' ≤ n * sz τ' := Nat.mul_le_mul_right _ hi
         rw [Nat.add_mul] at this
         exact ⟨vv, by rw [List.getElem?_append_left (by omega), List.getElem?_take, if_pos (by omega)]; exact h1, tr.R h2 (fun _ _ h => h)⟩
        ·rw [List.getElem?_append_right (by omega), htl, List.getElem?_drop] at hx
         have hzl : zs.length = n := by
          by_cases h5 : zs.length ≤ xs.length
          ·omega
          ·have := (List.getElem?_eq_some_iff.1 hx).1; omega
         rw [hzl, show n + (i - n) = i by omega] at hx
         obtain ⟨vv, h1, h2⟩ := hel i x j y hx hy
         have : n * sz τ' ≤ i * sz τ' := Nat.mul_le_mul_right _ (by omega)
         exact ⟨vv, by rw [List.getElem?_append_right (by omega), hD, List.getElem?_drop, show n * sz τ' + (i * sz τ' + j - n * sz τ') = i * sz τ' + j by omega]; exact h1, tr.R h2 (fun _ _ h => h)⟩
     ·cases h
    ·cases h
   ·cases h
  ·cases h
 ·cases h
def wrTake (P : Program) (key : Nat) (tm : Nat → Option AV) (bx : Bx) (t : TypeId) (x hi : Operand) : Option Wr :=
 match typ P t, evalA tm x, evalA tm hi with
 | some (.slice e', _), some (.own b), some (.lit (.int _ n)) => match typ P e', bx b with
  | some (_, s), some (.sl e τ xs) => if s = sz τ then some ⟨0 ≤ n ∧ n ≤ xs.length, some (.own key), [b], [(key, .sl e τ (xs.take n.toNat))], true⟩ else none
  | _, _ => none
 | _, _, _ => none
theorem wrTake_ok (s : Sim N w0 ow η tm bx a w) (sr : Sim N w0 ow η tmr bxr a w) (hf : Fresh key tm bx) {o : Oper} {t : TypeId} {x hi : Operand} {E : Wr} (ho : o.op = .slice t x none (some hi) none)
  (h : wrTake P key tmr bxr t x hi = some E) : Does P N w0 ow tm bx a w o E := by
 unfold wrTake at h
 split at h
 ·rename_i e' _ b k n ht hx hh
  split at h
  ·rename_i d s' e τ xs hs hb
   split at h
   ·rename_i hsz
    obtain ⟨ht, _⟩ := typ_und ht
    obtain ⟨h1, inf, h2, rfl⟩ := typ_und hs
    simp only [Option.some.injEq] at h
    subst h
    rintro ⟨hn0, hn1⟩
    obtain ⟨u, hu, cs, hown, hel⟩ := sr.dom b _ hb
    have hv0 := (sr.ev hx).own_inv hu
    have hvh := (sr.ev hh).lit_inv
    obtain ⟨m, rfl⟩ : ∃ m : Nat, n = (m : Int) := ⟨n.toNat, by omega⟩
    simp only [Int.toNat_natCast]
    have hm : m ≤ xs.length := by omega
    have hlen : (xs.take m).length = m := by rw [List.length_take]; omega
    have els : ∀ (i : Nat) y j z, (xs.take m)[i]? = some y → (enc τ y)[j]? = some z → ∃ v, (cs.take (m * sz τ))[i * sz τ + j]? = some v ∧ R w (Fz (Amb w0 ow) η) η v z := fun i y j z hy hz => by
     have hi : i < m := by have := (List.getElem?_eq_some_iff.1 hy).1; rwa [hlen] at this
     rw [List.getElem?_take, if_pos hi] at hy
     obtain ⟨v, hv, hr⟩ := hel i y j z hy hz
     have hj : j < sz τ := by have := (List.getElem?_eq_some_iff.1 hz).1; rwa [enc_len] at this
     have hlt : i * sz τ + j < m * sz τ := by
      have : (i + 1) * sz τ ≤ m * sz τ := Nat.mul_le_mul_right _ hi
      rw [Nat.add_mul] at this; omega
     exact ⟨v, by rw [List.getElem?_take, if_pos hlt]; exact hv, hr⟩
    rcases hown.2 with ⟨rfl, hz⟩ | ⟨g, cap, cur, rfl, hb0, hblk, hle, hmax, hsize, htake⟩
    ·have hm0 : m = 0 := by omega
     subst hm0
     obtain ⟨tr, hs⟩ := s.grow (w' := w) (B := .sl e τ (xs.take 0)) (v := .slice none 0 0) (del := [b]) (row := none) hf ⟨rfl, rfl, rfl, Nat.le_refl _, fun _ _ _ => rfl⟩ (.inl rfl) (fun k hk => by simp [blk] at hk)
     refine ⟨.value (.slice none 0 0), .slice none 0 0, w, _, ?_, .inl rfl, (fun z hz => by simp at hz; subst hz; exact own_R (by simp [setη])), hs ⟨[], by simpa using World.ownsRow_nil w 0 e (sz τ), fun i x j y hx => by simp at hx⟩⟩
     have hbd := sliceBounds_run (P := P) (w := w) (b := true) (len := 0) (cap := 0) (lo := none) (hi := some (.int k ((0 : Nat) : Int))) (mx := none) (l := 0) (h := ((0 : Nat) : Int)) (m := ((0 : Nat) : Int)) (.inl ⟨rfl, rfl⟩) (.inr ⟨k, rfl⟩) (.inl ⟨rfl, rfl⟩) (by decide) (by decide) (by decide) (by decide)
     simp only [Int.toNat_natCast] at hbd
     simp [execOp, ho, Instr.sliceAt, Instr.slice, run_underlying ht, hv0, hvh] at hbd ⊢
     simp [hbd, sizeOf_run h2]
    ·have hbk : blk (.slice (some ⟨g, 0, none⟩) xs.length cap) = some g := rfl
     obtain ⟨tr, hs⟩ := s.grow (w' := w) (B := .sl e τ (xs.take m)) (v := .slice (some ⟨g, 0, none⟩) m cap) (del := [b]) (row := some g) hf ⟨rfl, rfl, rfl, Nat.le_refl _, fun _ _ _ => rfl⟩ (.inr ⟨b, _, by simp, hu, hbk⟩) (fun k hk => ⟨s.bound b _ k hu (by rw [hbk]; exact hk), .inr hk⟩)
     refine ⟨.value (.slice (some ⟨g, 0, none⟩) m cap), .slice (some ⟨g, 0, none⟩) m cap, w, _, ?_, .inl rfl, (fun z hz => by simp at hz; subst hz; exact own_R (by simp [setη])), hs ⟨cs.take (m * sz τ), ?_, fun i y j z hy hz => ?_⟩⟩
     ·have hbd := sliceBounds_run (P := P) (w := w) (b := true) (len := xs.length) (cap := cap) (lo := none) (hi := some (.int k (m : Int))) (mx := none) (l := 0) (h := (m : Int)) (m := (cap : Int)) (.inl ⟨rfl, rfl⟩) (.inr ⟨k, rfl⟩) (.inl ⟨rfl, rfl⟩) (by decide) (by omega) (by omega) (by omega)
      simp only [Int.toNat_natCast, Int.toNat_zero] at hbd
      simp [execOp, ho, Instr.sliceAt, Instr.slice, run_underlying ht, hv0, hvh, hbd, sizeOf_run h2]
      intro _; rfl
     ·rw [hlen]
      refine ⟨?_, .inr ⟨g, cap, cur, rfl, hb0, hblk, by omega, hmax, hsize, ?_⟩⟩
      ·rw [List.length_take, hown.1]
       have : m * sz τ ≤ xs.length * sz τ := Nat.mul_le_mul_right _ hm
       omega
      ·rw [← htake, List.take_take]
       congr 1
       have : m * sz τ ≤ xs.length * sz τ := Nat.mul_le_mul_right _ hm
       omega
     ·obtain ⟨vv, q1, q2⟩ := els i y j z hy hz
      exact ⟨vv, q1, tr.R q2 (fun hh => by rw [enc_ment' hz] at hh; cases hh)⟩
   ·cases h
  ·cases h
 ·cases h
def wrOp (P : Program) (tt : TypeId → Option Ty) (key : Nat) (o : Oper) (tm : Nat → Option AV) (bx : Bx) : Option Wr :=
 match o.op with
 | .alloc t => wrAlloc P key t
 | .box _ x => wrBox key (evalA tm) bx x
 | .store t x y => wrStore P (evalA tm) bx t x y
 | .buildSlice t n ps => wrBuildSlice P tt key tm bx t n ps
 | .slice t x none (some h) none => wrTake P key tm bx t x h
 | .makeSlice t l c => wrMakeSlice P tt key (evalA tm) t l c
 | .call ⟨.builtin .append, ⟨[s, x]⟩, ⟨[t, t']⟩⟩ => match wrAppend P tt key tm bx t t' s x with
  | some E => some E
  | none => wrZeros P tt key tm bx t t' s x
 | .call ⟨.builtin .copy, ⟨[s, x]⟩, ⟨[t, _]⟩⟩ => wrCopy P tm bx t s x
 | _ => none
theorem wrOp_ok (s : Sim N w0 ow η tm bx a w) (sr : Sim N w0 ow η tmr bxr a w) (hm0 : ∀ x y, evalA tmr x = some y → ment key y = false) (hf : Fresh key tm bx) {o : Oper} {E : Wr} (h : wrOp P tt key o tmr bxr = some E) : Does P N w0 ow tm bx a w o E := by
 unfold wrOp at h
 split at h
 rename_i ho; exact wrAlloc_ok s hf ho h
 rename_i ho; exact wrBox_ok s sr hm0 hf ho h
 rename_i ho; exact wrStore_ok s sr ho h
 rename_i ho; exact wrBuildSlice_ok s sr hf ho h
 rename_i ho; exact wrTake_ok s sr hf ho h
 rename_i ho; exact wrMakeSlice_ok s sr hf ho h
 rename_i ho
 split at h
 rename_i E' hE
 simp only [Option.some.injEq] at h
 subst h
 exact wrAppend_ok s sr hf ho hE
 exact wrZeros_ok s sr hf ho h
 rename_i ho; exact wrCopy_ok s sr ho h
 cases h
end
end Go.Proofs.YtondpnipoogoiaaGreatDoor.F
