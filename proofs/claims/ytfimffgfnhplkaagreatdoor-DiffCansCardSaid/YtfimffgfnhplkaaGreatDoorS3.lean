import Derived.Test.YtfimffgfnhplkaaGreatDoorS2
import Derived.Laws.IdiomCopy
import Derived.Laws.Rows
import Derived.Deep.AppendSrc
import Derived.Lib.AppendZerosOnto
set_option maxRecDepth 100000
set_option linter.unusedVariables false
set_option linter.unusedSimpArgs false
namespace Go.Proofs.YtfimffgfnhplkaaGreatDoor.F
open Go Go.RowKit
def cat : (τ τ' : Ty) → List (El τ) → List (El τ') → Option (List (El τ))
 | .int k, .int k', xs, ys => if k = k' then some (xs ++ ys) else none
 | .bool, .bool, xs, ys => some (xs ++ ys)
 | .str, .str, xs, ys => some (xs ++ ys)
 | .strs, .strs, xs, ys => some (xs ++ ys)
 | .trees, .trees, xs, ys => some (xs ++ ys)
 | .ints k, .ints k', xs, ys => if k = k' then some (xs ++ ys) else none
 | .num, .num, xs, ys => some (xs ++ ys)
 | .tree, .tree, xs, ys => some (xs ++ ys)
 | .opn, .opn, xs, ys => some (xs ++ ys)
 | .grd, .grd, xs, ys => some (xs ++ ys)
 | _, _, _, _ => none
theorem cat_ok {τ τ' : Ty} {xs : List (El τ)} {ys : List (El τ')} {zs : List (El τ)} (h : cat τ τ' xs ys = some zs) : ∃ e : τ' = τ, zs = xs ++ e ▸ ys := by
  cases τ <;> cases τ' <;> simp only [cat] at h <;> first
    | (simp only [Option.some.injEq] at h; subst h; exact ⟨rfl, rfl⟩)
    | (split at h
       · rename_i hk; subst hk; simp only [Option.some.injEq] at h; subst h; exact ⟨rfl, rfl⟩
       · cases h)
    | cases h
section
variable {P : Program} {w w' w0 : World} {ow : Own} {η η' : Nat → Option Value} {N key b g : Nat} {tm tmr : Nat → Option AV} {bx bxr : Bx} {a : Act} {u v : Value} {B : Box} {x : AV} {tt : TypeId → Option Ty}
def zerosA (z : List AV) (n : Nat) : List AV := (List.range n).map fun k => (z[k % z.length]?).getD .junk
theorem zerosA_R {z : Array Value} {fz : Nat → Prop} {η : Nat → Option Value} (n : Nat) : RL w fz η ((Array.range n).map (z[· % z.size]!)) (zerosA (z.toList.map .lit) n) := by
 refine ⟨by simp [zerosA], fun j u y hu hy => ?_⟩
 simp only [zerosA, List.length_map, Array.length_toList] at hy
 have hj : j < n := by have := (List.getElem?_eq_some_iff.1 hy).1; simpa using this
 simp [hj] at hu hy
 subst hu hy
 cases hz : z[j % z.size]? with
 | none => simp; exact .junk _
 | some v => simp [getElem!_def, hz]; exact .lit v
def delOf (tm : Nat → Option AV) (l : List Operand) : List Nat := (l.filterMap (evalA tm)).flatMap owns
def wrBuildSlice (P : Program) (tt : TypeId → Option Ty) (key : Nat) (tm : Nat → Option AV) (bx : Bx) (t : TypeId) (len : Nat) (ps : Array (Nat × Operand)) : Option Wr :=
 let del := delOf tm (ps.toList.map (·.2))
 match P.underlying t with
 | some (.slice e) => match P.info? e, zeroA P e, tt e, ps.toList.mapM (fun p => (evF tm bx del p.2).map fun a => (p.1, a)) with
  | some ie, some z, some τ, some pa =>
   if len * ie.size ≤ 16777216 ∧ len * ie.size ≠ 0 then
    match fillA (updB bx del []) (fun i => some (i * ie.size, ie.size)) (zerosA z (len * ie.size)) pa with
    | some l => match decN τ len l with
     | some xs => some ⟨True, some (.own key), del, [(key, .sl e τ xs)], true⟩
     | none => none
    | none => none
   else if len = 0 ∧ ps.toList.length = 0 then some ⟨True, some (.own key), [], [(key, .sl e τ [])], true⟩ else none
  | _, _, _, _ => none
 | _ => none
theorem own_R (h : η key = some v) {fz : Nat → Prop} : R w fz η v (.own key) := .own _ _ (fun u hu => by rw [h] at hu; injection hu)
theorem updB_updB (bx : Bx) (del : List Nat) (p : List (Nat × Box)) : updB (updB bx del []) [] p = updB bx del p := by
 funext k
 simp [updB, lkp]
theorem Fresh.drop {bx : Bx} (h : Fresh key tm bx) (del : List Nat) : Fresh key tm (updB bx del []) := ⟨h.1, (fun b B hB => by
 rw [updB_none] at hB
 split at hB
 ·cases hB
 ·exact h.2.1 b B hB), h.2.2⟩
theorem zeroA_inv {t : TypeId} {z : List AV} {i : TypeInfo} (h : zeroA P t = some z) (hi : P.info? t = some i) : ∃ zv, i.zero = some zv ∧ z = zv.cells.toList.map .lit := by
 unfold zeroA at h
 rw [hi] at h
 simp only at h
 split at h
 rename_i zv hz; simp only [Option.some.injEq] at h; exact ⟨zv, hz, h.symm⟩
 cases h
theorem wrBuildSlice_ok (s : Sim N w0 ow η tm bx a w) (sr : Sim N w0 ow η tmr bxr a w) (hf : Fresh key tm bx) {o : Oper} {t : TypeId} {len : Nat} {ps : Array (Nat × Operand)} {E : Wr} (ho : o.op = .buildSlice t len ps) (h : wrBuildSlice P tt key tmr bxr t len ps = some E) : Does P N w0 ow tm bx a w o E := by
 unfold wrBuildSlice at h
 simp only at h
 generalize hdel : delOf tmr (ps.toList.map (·.2)) = del at h
 split at h
 ·rename_i e ht
  split at h
  ·rename_i ie z τ pa hie hz hτ hpa
   split at h
   ·rename_i hsz
    split at h
    ·rename_i l hl
     split at h
     ·rename_i xs hxs
      simp only [Option.some.injEq] at h
      subst h
      intro _
      have c := sr.ctxF del
      obtain ⟨zv, hzv, rfl⟩ := zeroA_inv hz hie
      obtain ⟨C, hC, hRL⟩ := fill_ok c ps.toList pa _ _ l hpa (zerosA_R (z := zv.cells) (len * ie.size)) hl
      obtain ⟨e1, e2, e3⟩ := decN_ok len l C.toList xs hxs (RL_toList hRL)
      have s1 := s.drop del
      have hu : ∀ k, blk (.slice (some ⟨w.heap.size, 0, none⟩) len len) = some k → k = w.heap.size := fun k hk => by simp [blk] at hk; exact hk.symm
      have tr := alloc_tr (c := key) (u := .slice (some ⟨w.heap.size, 0, none⟩) len len) s1.bound (.cells C e) hu
      have hlen : len ≤ maxLen := by
       have : len ≤ len * ie.size := Nat.le_mul_of_pos_right _ (Nat.pos_of_ne_zero (fun h0 => hsz.2 (by rw [h0, Nat.mul_zero])))
       unfold maxLen; omega
      have hown := World.ownsRow_lit (w := w) (base := 0) (e := e) (size := sz τ) C len (Nat.zero_le _) hlen (by simpa using e2)
      have s2 := s1.mkBox (hf.drop del) (.cells C e) hu (B := .sl e τ xs) ⟨C.toList, by rw [e1]; exact hown, fun i x j y hx hy => by
       obtain ⟨vv, hv, hr⟩ := e3 i x j y hx hy
       exact ⟨vv, hv, tr.R hr (fun hm => by rw [enc_ment' hy] at hm; cases hm)⟩⟩
      rw [updB_updB] at s2
      refine ⟨.value (.slice (some ⟨w.heap.size, 0, none⟩) len len), _, _, _, ?_, .inl rfl, fun x hx => ?_, s2⟩
      ·have hr := run_buildSlice (P := P) w t e len (ps.map fun (p : Nat × Operand) => (p.1, a.eval p.2)) C ie zv ht hie hzv (by omega) hsz.2 (by simpa using hC)
       simp [execOp, ho, hr]
      ·simp at hx; subst hx; exact own_R (by simp [setη])
     ·cases h
    ·cases h
   ·split at h
    ·rename_i hc
     obtain ⟨rfl, hps⟩ := hc
     simp only [Option.some.injEq] at h
     subst h
     intro _
     have hps' : ps = #[] := by
      have : ps.size = 0 := by simpa using hps
      exact Array.eq_empty_of_size_eq_zero this
     subst hps'
     have hu : ∀ k, blk (.slice (some ⟨w.heap.size, 0, none⟩) 0 0) = some k → k = w.heap.size := fun k hk => by simp [blk] at hk; exact hk.symm
     have hown := World.ownsRow_lit (w := w) (base := 0) (e := e) (size := sz τ) #[] 0 (Nat.zero_le _) (by decide) (by simp)
     have s2 := s.mkBox hf (.cells #[] e) hu (B := .sl e τ []) ⟨[], by simpa using hown, fun i x j y hx => by simp at hx⟩
     refine ⟨.value (.slice (some ⟨w.heap.size, 0, none⟩) 0 0), _, _, _, ?_, .inl rfl, fun x hx => ?_, s2⟩
     ·simp [execOp, ho, Instr.buildSlice, run_underlying ht, sizeOf, typeInfo, hie, Instr.fill, newRow]
      rw [show (Array.range 0).map (fun _ : Nat => (default : Value)) = #[] from Array.eq_empty_of_size_eq_zero (by simp)]
     ·simp at hx; subst hx; exact own_R (by simp [setη])
    ·cases h
  ·cases h
 ·cases h
def wrMakeSlice (P : Program) (tt : TypeId → Option Ty) (key : Nat) (ρ : Operand → Option AV) (t : TypeId) (l c : Operand) : Option Wr :=
 match P.underlying t with
 | some (.slice e) => match P.info? e, zeroA P e, tt e, ρ l, ρ c with
  | some ie, some z, some τ, some (.lit (.int _ n)), some (.lit (.int _ m)) =>
   if ie.size = sz τ ∧ z.length = sz τ then
    match l with
    | .const (.int _ 0) => some ⟨0 ≤ m ∧ ie.bytes * m ≤ 281474976710656 ∧ m ≤ 9223372036854775807 ∧ n = 0, some (.own key), [], [(key, .sl e τ [])], true⟩
    | _ => match dec τ z with
     | some x0 => some ⟨n = m ∧ 0 ≤ n ∧ ie.bytes * n ≤ 281474976710656 ∧ n ≤ 9223372036854775807, some (.own key), [], [(key, .sl e τ (List.replicate n.toNat x0))], true⟩
     | none => none
   else none
  | _, _, _, _, _ => none
 | _ => none
theorem madeCells_at {z : Array Value} {n s : Nat} (hs : z.size = s) {i j : Nat} (hi : i < n) (hj : j < s) : (madeCells z (n * s)).toList[i * s + j]? = z[j]? := by
 have h1 : i * s + j < n * s := by
  have : (i + 1) * s ≤ n * s := Nat.mul_le_mul_right _ hi
  rw [Nat.add_mul] at this; omega
 rw [Array.getElem?_toList]
 simp only [madeCells]
 rw [Array.getElem?_map]
 have h2 : (Array.range (n * s))[i * s + j]? = some (i * s + j) := by simp [h1]
 rw [h2]
 simp only [Option.map_some, hs]
 have h3 : (i * s + j) % s = j := by rw [Nat.mul_comm, Nat.mul_add_mod, Nat.mod_eq_of_lt hj]
 rw [h3, Array.getElem?_eq_getElem (by omega)]
 simp [hs, hj]
theorem bytes_le {b : Nat} {m : Int} (h0 : 0 ≤ m) (h1 : b * m ≤ 281474976710656) : b * m.toNat ≤ 281474976710656 := by
 have h2 : ((b * m.toNat : Nat) : Int) ≤ 281474976710656 := by rw [Int.natCast_mul, Int.toNat_of_nonneg h0]; exact h1
 omega
theorem wrMakeSlice_ok (s : Sim N w0 ow η tm bx a w) (sr : Sim N w0 ow η tmr bxr a w) (hf : Fresh key tm bx) {o : Oper} {t : TypeId} {l c : Operand} {E : Wr} (ho : o.op = .makeSlice t l c) (h : wrMakeSlice P tt key (evalA tmr) t l c = some E) : Does P N w0 ow tm bx a w o E := by
 unfold wrMakeSlice at h
 split at h
 ·rename_i e ht
  split at h
  ·rename_i ie z τ kn n km m hie hz hτ hl hc
   split at h
   ·rename_i hsz
    obtain ⟨hs1, hs2⟩ := hsz
    obtain ⟨zv, hzv, rfl⟩ := zeroA_inv hz hie
    have hln := (sr.ev hl).lit_inv
    have hcm := (sr.ev hc).lit_inv
    have fin : ∀ (v : Value) (w' : World) (xs : List (El τ)), (Instr.makeSlice t (.int kn n) (.int km m)).run P w = .ok v w' → (∀ k, blk v = some k → k = w.heap.size) → w.grownBy w' none → (∀ k, blk v = some k → k < w'.heap.size) →
      (∀ fz η, BoxR w' fz η v (.sl e τ xs)) → ∃ n v w' η', (execOp a.eval o).run P w = .ok n w' ∧ (n = .value v ∨ (n = .skip ∧ v = undef)) ∧ (∀ x, some (AV.own key) = some x → R w' (Fz (Amb w0 ow) η') η' v x) ∧ Sim N w0 ow η' tm (updB bx [] [(key, .sl e τ xs)]) a w' := by
     intro v w' xs hrun hv hg hlt hB
     obtain ⟨_, hs⟩ := s.grow (B := .sl e τ xs) (v := v) (del := []) hf hg (.inl rfl) (fun k hk => ⟨hlt k hk, .inl (by rw [hv k hk]; exact Nat.le_refl _)⟩)
     refine ⟨.value v, v, w', _, by simp [execOp, ho, hln, hcm, hrun], .inl rfl, fun x hx => ?_, hs (hB _ _)⟩
     simp at hx; subst hx; exact own_R (by simp [setη])
    have hmk : ∀ (c' : Nat) (k : Nat), blk (.slice (some ⟨w.heap.size, 0, none⟩) c' c') = some k → k = w.heap.size := fun c' k hk => by simp [blk] at hk; exact hk.symm
    split at h
    ·simp only [Option.some.injEq] at h
     subst h
     rintro ⟨h0, h1, h2, rfl⟩
     obtain ⟨w', hr, ho1, hg⟩ := run_make_own (P := P) w 0 t e ie zv (sz τ) ht hie hzv hs1 kn km m.toNat (bytes_le h0 h1) (by unfold maxLen; omega) (Nat.zero_le _)
     rw [Int.toNat_of_nonneg h0] at hr
     refine fin _ w' [] hr (fun k hk => by simp [blk] at hk; exact hk.symm) hg (fun k hk => (ho1.lt k (by simp [blk] at hk; simp [Value.ownBlock, hk])).2) (fun fz η => ⟨[], ho1, fun i x j y hx => by simp at hx⟩)
    ·split at h
     ·rename_i x0 hx0
      simp only [Option.some.injEq] at h
      subst h
      rintro ⟨rfl, h0, h1, h2⟩
      obtain ⟨w', hr, ho1, hg⟩ := run_make_full (P := P) w 0 t e ie zv (sz τ) ht hie hzv hs1 kn km n.toNat (bytes_le h0 h1) (by unfold maxLen; omega) (Nat.zero_le _)
      rw [Int.toNat_of_nonneg h0] at hr
      have hz2 : zv.cells.size = sz τ := by simpa using hs2
      refine fin _ w' (List.replicate n.toNat x0) hr (fun k hk => by simp [blk] at hk; exact hk.symm) hg (fun k hk => (ho1.lt k (by simp [blk] at hk; simp [Value.ownBlock, hk])).2) (fun fz η => ⟨_, by rw [List.length_replicate]; exact ho1, fun i x j y hx hy => ?_⟩)
      have hi : i < n.toNat := by have := (List.getElem?_eq_some_iff.1 hx).1; simpa using this
      have hj : j < sz τ := by have := (List.getElem?_eq_some_iff.1 hy).1; rwa [enc_len] at this
      rw [List.getElem?_replicate, if_pos hi] at hx
      simp only [Option.some.injEq] at hx
      subst hx
      rw [madeCells_at hz2 hi hj]
      have hd := dec_ok hx0 (RL_toList (RL_lits (w := w') (fz := fz) (η := η) zv.cells))
      have hjc : j < zv.cells.size := by omega
      exact ⟨zv.cells[j], Array.getElem?_eq_getElem hjc, hd.2 j _ y (by rw [Array.getElem?_toList]; exact Array.getElem?_eq_getElem hjc) hy⟩
     ·cases h
   ·cases h
  ·cases h
 ·cases h
end
section
variable {P : Program} {w w' w0 : World} {ow : Own} {η η' : Nat → Option Value} {N key b g : Nat} {tm tmr : Nat → Option AV} {bx bxr : Bx} {a : Act} {u v : Value} {B : Box} {x : AV} {tt : TypeId → Option Ty}
def srcOf0 (bx : Bx) : AV → Option ((τ : Ty) × List (El τ))
 | .row τ xs => some ⟨τ, xs⟩
 | .own b => match bx b with
  | some (.sl _ τ xs) => some ⟨τ, xs⟩
  | _ => none
 | _ => none
def isNil : AV → Bool
 | .lit (.slice none 0 0) => true
 | _ => false
theorem isNil_eq (h : isNil x = true) : x = .lit (.slice none 0 0) := by
 unfold isNil at h
 split at h
 rfl
 cases h
theorem src_cells0 (s : Sim N w0 ow η tm bx a w) {τ : Ty} {ys : List (El τ)} (hx : srcOf0 bx x = some ⟨τ, ys⟩) (hr : R w (Fz (Amb w0 ow) η) η v x) :
  ∃ A c, v = .slice A ys.length c ∧ ys.length ≤ maxLen ∧ (A = none → ys = []) ∧ ∀ ad, A = some ad → ∃ news : List Value, news.length = ys.length * sz τ ∧ (∀ (j : Nat) u, news[j]? = some u → w.cell? (ad.add j) = some u) ∧ (∀ u ∈ news, u.oneCell' = true) ∧
   ∀ i y (j : Nat) z, ys[i]? = some y → (enc τ y)[j]? = some z → ∃ u, news[i * sz τ + j]? = some u ∧ R w (Fz (Amb w0 ow) η) η u z := by
 have idx : ∀ k : Nat, k < ys.length * sz τ → k / sz τ < ys.length ∧ k % sz τ < sz τ ∧ k / sz τ * sz τ + k % sz τ = k := fun k hk =>
  ⟨Nat.div_lt_of_lt_mul (by rw [Nat.mul_comm]; exact hk), Nat.mod_lt _ (sz_pos τ), by rw [Nat.mul_comm]; exact Nat.div_add_mod k (sz τ)⟩
 unfold srcOf0 at hx
 split at hx
 ·rename_i τ' xs'
  simp only [Option.some.injEq, Sigma.mk.injEq] at hx
  obtain ⟨rfl, hx⟩ := hx
  have hx := eq_of_heq hx
  subst hx
  obtain ⟨A, c, rfl, hc, hm, hel⟩ := hr.row_inv
  refine ⟨A, c, rfl, Nat.le_trans hc hm, fun hA => ?_, fun ad hA => ?_⟩
  ·cases xs' with
   | nil => rfl
   | cons y ys => obtain ⟨ad, h1, _⟩ := hel 0 y rfl; rw [hA] at h1; cases h1
  ·have get : ∀ k, k < xs'.length * sz τ' → ∃ u, w.cell? (ad.add k) = some u ∧ u.oneCell' = true := fun k hk => by
    obtain ⟨h1, h2, h3⟩ := idx k hk
    obtain ⟨ad', he, _, _, hcell⟩ := hel _ _ (List.getElem?_eq_getElem h1)
    rw [hA] at he
    injection he with he
    subst he
    have hz : (enc τ' xs'[k / sz τ'])[k % sz τ']? = some ((enc τ' xs'[k / sz τ'])[k % sz τ']'(by rw [enc_len]; exact h2)) := List.getElem?_eq_getElem _
    obtain ⟨u, hu, hR⟩ := hcell _ _ hz
    rw [h3] at hu
    exact ⟨u, hu, enc_one hz hR⟩
   refine ⟨(List.range (xs'.length * sz τ')).map (fun k => (w.cell? (ad.add k)).getD undef), by simp, fun j u hu => ?_, fun u hu => ?_, fun i y j z hy hz => ?_⟩
   ·have hj : j < xs'.length * sz τ' := by have := (List.getElem?_eq_some_iff.1 hu).1; simpa using this
    obtain ⟨u', hu', _⟩ := get j hj
    simp [hj, hu'] at hu
    rw [← hu]; exact hu'
   ·simp only [List.mem_map, List.mem_range] at hu
    obtain ⟨k, hk, rfl⟩ := hu
    obtain ⟨u', hu', h1⟩ := get k hk
    rw [hu']; exact h1
   ·obtain ⟨ad', he, _, _, hcell⟩ := hel i y hy
    rw [hA] at he
    injection he with he
    subst he
    obtain ⟨u, hu, hR⟩ := hcell j z hz
    have hi : i < xs'.length := (List.getElem?_eq_some_iff.1 hy).1
    have hj : j < sz τ' := by have := (List.getElem?_eq_some_iff.1 hz).1; rwa [enc_len] at this
    have hlt : i * sz τ' + j < xs'.length * sz τ' := by
     have : (i + 1) * sz τ' ≤ xs'.length * sz τ' := Nat.mul_le_mul_right _ hi
     rw [Nat.add_mul] at this; omega
    exact ⟨u, by simp [hlt, hu], hR⟩
 ·rename_i b
  split at hx
  ·rename_i e τ' xs' hb
   simp only [Option.some.injEq, Sigma.mk.injEq] at hx
   obtain ⟨rfl, hx⟩ := hx
   have hx := eq_of_heq hx
   subst hx
   obtain ⟨u, hu, cs, ho, hel⟩ := s.dom b _ hb
   have hv := hr.own_inv hu
   subst hv
   have hone : ∀ u ∈ cs, u.oneCell' = true := fun u hu2 => by
    obtain ⟨k, hk⟩ := List.getElem?_of_mem hu2
    have hk2 : k < xs'.length * sz τ' := by have := (List.getElem?_eq_some_iff.1 hk).1; rwa [ho.1] at this
    obtain ⟨h1, h2, h3⟩ := idx k hk2
    have hz : (enc τ' xs'[k / sz τ'])[k % sz τ']? = some ((enc τ' xs'[k / sz τ'])[k % sz τ']'(by rw [enc_len]; exact h2)) := List.getElem?_eq_getElem _
    obtain ⟨u', hu', hR⟩ := hel _ _ _ _ (List.getElem?_eq_getElem h1) hz
    rw [h3, hk] at hu'
    injection hu' with hu'
    subst hu'
    exact enc_one hz hR
   rcases ho.2 with ⟨rfl, h0⟩ | ⟨g, cap, cur, rfl, _, q1, q2, q3, q4, q5⟩
   ·refine ⟨none, 0, by rw [h0], by omega, fun _ => by cases xs'; rfl; simp at h0, fun ad hA => by cases hA⟩
   ·refine ⟨some ⟨g, 0, none⟩, cap, rfl, Nat.le_trans q2 q3, (fun hA => by cases hA), fun ad hA => ?_⟩
    injection hA with hA
    subst hA
    exact ⟨cs, ho.1, fun j u hu => ho.cells rfl j u hu, hone, hel⟩
  ·cases hx
 ·cases hx
def srcOf (bx : Bx) (x : AV) : Option ((τ : Ty) × List (El τ)) := match x with
 | .rown τ xs _ => some ⟨τ, xs⟩
 | .rowc τ xs _ => some ⟨τ, xs⟩
 | _ => srcOf0 bx x
theorem src_cells (s : Sim N w0 ow η tm bx a w) {τ : Ty} {ys : List (El τ)} (hx : srcOf bx x = some ⟨τ, ys⟩) (hr : R w (Fz (Amb w0 ow) η) η v x) :
  ∃ A c, v = .slice A ys.length c ∧ ys.length ≤ maxLen ∧ (A = none → ys = []) ∧ ∀ ad, A = some ad → ∃ news : List Value, news.length = ys.length * sz τ ∧ (∀ (j : Nat) u, news[j]? = some u → w.cell? (ad.add j) = some u) ∧ (∀ u ∈ news, u.oneCell' = true) ∧
   ∀ i y (j : Nat) z, ys[i]? = some y → (enc τ y)[j]? = some z → ∃ u, news[i * sz τ + j]? = some u ∧ R w (Fz (Amb w0 ow) η) η u z := by
 unfold srcOf at hx
 split at hx
 ·rename_i τ' xs' b
  obtain ⟨_, _, _, _, h⟩ := hr.rown_inv
  exact src_cells0 s (x := .row τ' xs') hx h
 ·rename_i τ' xs' c
  obtain ⟨_, _, h⟩ := hr.rowc_inv
  exact src_cells0 s (x := .row τ' xs') hx h
 ·exact src_cells0 s hx hr
def wrAppend (P : Program) (tt : TypeId → Option Ty) (key : Nat) (tm : Nat → Option AV) (bx : Bx) (t t' : TypeId) (s x : Operand) : Option Wr :=
  match P.underlying t with
  | some (.slice e) => match P.info? e, zeroA P e, evalA tm s, evalA tm x with
    | some ie, some z, some (.own b), some y => match bx b, srcOf bx y with
      | some (.sl e0 τ xs), some ⟨τ', ys⟩ => if t = t' ∧ e0 = e ∧ ie.size = sz τ ∧ z.length = sz τ then match cat τ τ' xs ys with
          | some zs => some ⟨((xs.length + ys.length) * ie.bytes : Nat) ≤ 140737488355328 ∧ xs.length + ys.length ≤ 140737488355328, some (.own key), [b], [(key, .sl e τ zs)], true⟩
          | none => none
        else none
      | some (.sl e0 τ xs), none => if t = t' ∧ e0 = e ∧ isNil y = true then some ⟨True, some (.own key), [b], [(key, .sl e τ xs)], true⟩ else none
      | _, _ => none
    | some ie, some z, some y0, some y => match srcOf bx y with
      | some ⟨τ, ys⟩ => if isNil y0 = true ∧ t = t' ∧ ie.size = sz τ ∧ z.length = sz τ then
          some ⟨(ys.length * ie.bytes : Nat) ≤ 140737488355328 ∧ ys.length ≤ 140737488355328, some (.own key), [], [(key, .sl e τ ys)], true⟩ else none
      | none => if isNil y0 = true ∧ isNil y = true ∧ t = t' then match tt e with
          | some τ => some ⟨True, some (.own key), [], [(key, .sl e τ [])], true⟩
          | none => none
        else none
    | _, _, _, _ => none
  | _ => none
theorem append_nil_run {t ty e : TypeId} {ie : TypeInfo} {A : Option Addr} {n c cc : Nat} (ht : P.underlying t = some (.slice e)) (hie : P.info? e = some ie) (hn : n ≤ c) :
  (Builtin.append_ #[t, t] ty #[.slice A n c, .slice none 0 cc]).run P w = .ok (.slice A n c) w := by
 cases A <;> simp [Builtin.append_, run_underlying ht, sizeOf_run hie, Builtin.lenOf, hn, Builtin.firstCells, storeCells]
theorem wrAppend_ok (s : Sim N w0 ow η tm bx a w) (sr : Sim N w0 ow η tmr bxr a w) (hf : Fresh key tm bx) {o : Oper} {t t' : TypeId} {x0 x1 : Operand} {E : Wr} (ho : o.op = .call { callee := .builtin .append, args := #[x0, x1], argTypes := #[t, t'] })
  (h : wrAppend P tt key tmr bxr t t' x0 x1 = some E) : Does P N w0 ow tm bx a w o E := by
 unfold wrAppend at h
 have exec : ∀ v w', (Builtin.append_ #[t, t'] o.type #[a.eval x0, a.eval x1]).run P w = .ok v w' → (execOp a.eval o).run P w = .ok (.value v) w' := fun v w' hr => by
  simp [execOp, ho, resolve, invoke, builtin, hr]
 have sur : ∀ (del : List Nat) (v : Value) (w' : World) (η1 : Nat → Option Value), η1 key = some v → (∀ x, some (AV.own key) = some x → R w' (Fz (Amb w0 ow) η1) η1 v x) := fun del v w' η1 h x hx => by simp at hx; subst hx; exact own_R h
 split at h
 ·rename_i e ht
  split at h
  ·rename_i ie z b y hie hz hs0 hs1
   obtain ⟨zv, hzv, rfl⟩ := zeroA_inv hz hie
   split at h
   ·rename_i e0 τ xs τ' ys hb hsrc
    split at h
    ·rename_i hc
     obtain ⟨rfl, rfl, hs2, hs3⟩ := hc
     split at h
     ·rename_i zs hzs
      obtain ⟨rfl, hzs⟩ := cat_ok hzs
      simp only at hzs
      subst hzs
      simp only [Option.some.injEq] at h
      subst h
      rintro ⟨hB, hL⟩
      obtain ⟨u, hu, cs, hown, hel⟩ := sr.dom b _ hb
      have hv0 := (sr.ev hs0).own_inv hu
      obtain ⟨A, c, hv1, hm, hA, hnews⟩ := src_cells sr hsrc (sr.ev hs1)
      cases A with
      | none =>
       have hy := hA rfl
       subst hy
       have hrow : blk u = u.ownBlock := by rcases hown.2 with ⟨rfl, _⟩ | ⟨g, cap, cur, rfl, _⟩ <;> rfl
       obtain ⟨tr, hs⟩ := s.grow (w' := w) (B := .sl e0 τ' (xs ++ [])) (v := u) (del := [b]) (row := blk u) hf ⟨rfl, rfl, rfl, Nat.le_refl _, fun _ _ _ => rfl⟩ (.inr ⟨b, u, by simp, hu, rfl⟩) (fun k hk => ⟨s.bound b u k hu hk, .inr hk⟩)
       refine ⟨.value u, u, w, _, exec u w ?_, .inl rfl, sur [b] u w _ (by simp [setη]), hs ⟨cs, by rw [List.append_nil]; exact hown, fun i x j y hx hy => ?_⟩⟩
       ·rw [hv0, hv1]
        rcases hown.2 with ⟨rfl, _⟩ | ⟨g, cap, cur, rfl, _, _, hle, _⟩
        ·exact append_nil_run ht hie (Nat.zero_le _)
        ·exact append_nil_run ht hie hle
       ·rw [List.append_nil] at hx
        obtain ⟨vv, h1, h2⟩ := hel i x j y hx hy
        exact ⟨vv, h1, tr.R h2 (fun hh => by rw [enc_ment' hy] at hh; cases hh)⟩
      | some ad =>
       obtain ⟨news, n1, n2, n3, n4⟩ := hnews ad rfl
       obtain ⟨v', w', hr, hown', hg, _, hat⟩ := run_append_own_at (P := P) w 0 t o.type e0 ie zv (sz τ') ie.bytes ht hie hzv hs2 rfl (by simpa using hs3) (sz_pos τ') u xs.length cs hown ad ys.length c news n1 n2 n3 (by unfold maxLen; omega) hB (Nat.zero_le _)
       have hblk : ∀ u : Value, (∃ cs n, w.ownsRow 0 e0 (sz τ') u n cs) ∨ (∃ cs n, w'.ownsRow 0 e0 (sz τ') u n cs) → blk u = u.ownBlock := by
        rintro u (⟨cs, n, h⟩ | ⟨cs, n, h⟩) <;> (rcases h.2 with ⟨rfl, _⟩ | ⟨g, cap, cur, rfl, _⟩ <;> rfl)
       have e1 := hblk u (.inl ⟨_, _, hown⟩)
       have e2 := hblk v' (.inr ⟨_, _, hown'⟩)
       obtain ⟨tr, hs⟩ := s.grow (w' := w') (B := .sl e0 τ' (xs ++ ys)) (v := v') (del := [b]) (row := u.ownBlock) hf hg (.inr ⟨b, u, by simp, hu, e1⟩) (fun k hk => ⟨(hown'.lt k (e2 ▸ hk)).2, by
        rw [e2] at hk
        rcases hat with h | h
        ·exact .inr (h ▸ hk)
        ·rw [h] at hk; injection hk with hk; exact .inl (by omega)⟩)
       refine ⟨.value v', v', w', _, exec v' w' (by rw [hv0, hv1]; exact hr), .inl rfl, sur [b] v' w' _ (by simp [setη]), hs ⟨cs ++ news, by rw [List.length_append]; exact hown', fun i x j y hx hy => ?_⟩⟩
       have hj : j < sz τ' := by have := (List.getElem?_eq_some_iff.1 hy).1; rwa [enc_len] at this
       by_cases hi : i < xs.length
       ·rw [List.getElem?_append_left hi] at hx
        obtain ⟨vv, h1, h2⟩ := hel i x j y hx hy
        have : (i + 1) * sz τ' ≤ xs.length * sz τ' := Nat.mul_le_mul_right _ hi
        rw [Nat.add_mul] at this
        exact ⟨vv, by rw [List.getElem?_append_left (by rw [hown.1]; omega)]; exact h1, tr.R h2 (fun hh => by rw [enc_ment' hy] at hh; cases hh)⟩
       ·rw [List.getElem?_append_right (by omega)] at hx
        obtain ⟨vv, h1, h2⟩ := n4 _ x j y hx hy
        have e4 : i * sz τ' + j = cs.length + ((i - xs.length) * sz τ' + j) := by
         rw [hown.1, ← Nat.add_assoc, ← Nat.add_mul, show xs.length + (i - xs.length) = i by omega]
        exact ⟨vv, by rw [e4, List.getElem?_append_right (by omega), Nat.add_sub_cancel_left]; exact h1, tr.R h2 (fun hh => by rw [enc_ment' hy] at hh; cases hh)⟩
     ·cases h
    ·cases h
   ·rename_i e0 τ xs hb hsrc
    split at h
    ·rename_i hc
     obtain ⟨rfl, rfl, hn⟩ := hc
     simp only [Option.some.injEq] at h
     subst h
     intro _
     have := isNil_eq hn
     subst this
     obtain ⟨u, hu, cs, hown, hel⟩ := sr.dom b _ hb
     have hv0 := (sr.ev hs0).own_inv hu
     have hv1 := (sr.ev hs1).lit_inv
     obtain ⟨tr, hs⟩ := s.grow (w' := w) (B := .sl e0 τ xs) (v := u) (del := [b]) (row := blk u) hf ⟨rfl, rfl, rfl, Nat.le_refl _, fun _ _ _ => rfl⟩ (.inr ⟨b, u, by simp, hu, rfl⟩) (fun k hk => ⟨s.bound b u k hu hk, .inr hk⟩)
     refine ⟨.value u, u, w, _, exec u w ?_, .inl rfl, sur [b] u w _ (by simp [setη]), hs ⟨cs, hown, fun i x j y hx hy => ?_⟩⟩
     ·rw [hv0, hv1]
      rcases hown.2 with ⟨rfl, _⟩ | ⟨g, cap, cur, rfl, _, _, hle, _⟩
      ·exact append_nil_run ht hie (Nat.zero_le _)
      ·exact append_nil_run ht hie hle
     ·obtain ⟨vv, h1, h2⟩ := hel i x j y hx hy
      exact ⟨vv, h1, tr.R h2 (fun hh => by rw [enc_ment' hy] at hh; cases hh)⟩
    ·cases h
   ·cases h
  ·rename_i ie z y0 y hno hie hz hs0 hs1
   obtain ⟨zv, hzv, rfl⟩ := zeroA_inv hz hie
   split at h
   ·rename_i τ ys hsrc
    split at h
    ·rename_i hc
     obtain ⟨hn, rfl, hs2, hs3⟩ := hc
     simp only [Option.some.injEq] at h
     subst h
     rintro ⟨hB, hL⟩
     have := isNil_eq hn
     subst this
     have hv0 := (sr.ev hs0).lit_inv
     obtain ⟨A, c, hv1, hm, hA, hnews⟩ := src_cells sr hsrc (sr.ev hs1)
     cases A with
     | none =>
      have hy := hA rfl
      subst hy
      obtain ⟨tr, hs⟩ := s.grow (w' := w) (B := .sl e τ []) (v := .slice none 0 0) (del := []) (row := none) hf ⟨rfl, rfl, rfl, Nat.le_refl _, fun _ _ _ => rfl⟩ (.inl rfl) (fun k hk => by simp [blk] at hk)
      refine ⟨.value (.slice none 0 0), .slice none 0 0, w, _, exec _ w ?_, .inl rfl, sur [] _ w _ (by simp [setη]), hs ⟨[], World.ownsRow_nil w 0 e _, fun i x j y hx => by simp at hx⟩⟩
      rw [hv0, hv1]; exact append_nil_run ht hie (Nat.le_refl _)
     | some ad =>
      obtain ⟨news, n1, n2, n3, n4⟩ := hnews ad rfl
      obtain ⟨v', w', hr, hown', hg, _, hat⟩ := run_append_own_at (P := P) w 0 t o.type e ie zv (sz τ) ie.bytes ht hie hzv hs2 rfl (by simpa using hs3) (sz_pos τ) (.slice none 0 0) 0 [] (World.ownsRow_nil w 0 e _) ad ys.length c news n1 n2 n3 (by unfold maxLen; omega) (by rw [Nat.zero_add]; exact hB) (Nat.zero_le _)
      have e2 : blk v' = v'.ownBlock := by rcases hown'.2 with ⟨rfl, _⟩ | ⟨g, cap, cur, rfl, _⟩ <;> rfl
      obtain ⟨tr, hs⟩ := s.grow (w' := w') (B := .sl e τ ys) (v := v') (del := []) (row := none) hf hg (.inl rfl) (fun k hk => ⟨(hown'.lt k (e2 ▸ hk)).2, .inl (by
       rw [e2] at hk
       rcases hat with h | h
       ·rw [h] at hk; cases hk
       ·rw [h] at hk; injection hk with hk; omega)⟩)
      refine ⟨.value v', v', w', _, exec v' w' (by rw [hv0, hv1]; exact hr), .inl rfl, sur [] v' w' _ (by simp [setη]), hs ⟨news, by rw [Nat.zero_add] at hown'; exact hown', fun i x j y hx hy => ?_⟩⟩
      obtain ⟨vv, h1, h2⟩ := n4 i x j y hx hy
      exact ⟨vv, h1, tr.R h2 (fun hh => by rw [enc_ment' hy] at hh; cases hh)⟩
    ·cases h
   ·split at h
    ·rename_i hc
     obtain ⟨hn0, hn1, rfl⟩ := hc
     split at h
     ·rename_i τ hτ
      simp only [Option.some.injEq] at h
      subst h
      intro _
      have := isNil_eq hn0
      subst this
      have := isNil_eq hn1
      subst this
      have hv0 := (sr.ev hs0).lit_inv
      have hv1 := (sr.ev hs1).lit_inv
      obtain ⟨tr, hs⟩ := s.grow (w' := w) (B := .sl e τ []) (v := .slice none 0 0) (del := []) (row := none) hf ⟨rfl, rfl, rfl, Nat.le_refl _, fun _ _ _ => rfl⟩ (.inl rfl) (fun k hk => by simp [blk] at hk)
      refine ⟨.value (.slice none 0 0), .slice none 0 0, w, _, exec _ w ?_, .inl rfl, sur [] _ w _ (by simp [setη]), hs ⟨[], World.ownsRow_nil w 0 e _, fun i x j y hx => by simp at hx⟩⟩
      rw [hv0, hv1]; exact append_nil_run ht hie (Nat.le_refl _)
     ·cases h
    ·cases h
  ·cases h
 ·cases h
end
theorem blk_set {w : World} {g : Nat} {t : TypeId} {cs : Array Value} (h : w.heap[g]? = some (.cells cs t (0, 0))) (i : Nat) (u : Value) : (w.setCell ⟨g, i, none⟩ u).heap[g]? = some (.cells (cs.setIfInBounds i u) t (0, 0)) := by
 simp [World.setCell, Array.getElem?_modify, h]
theorem blk_frozen {w : World} {g : Nat} {t : TypeId} {cs : Array Value} (h : w.heap[g]? = some (.cells cs t (0, 0))) (i : Nat) : w.frozen? ⟨g, i, none⟩ = false := by simp [World.frozen?, h]
theorem setCells_row {g : Nat} {e : TypeId} : ∀ (vs : List Value) (o : Nat) (w : World) (cur : Array Value), w.heap[g]? = some (.cells cur e (0, 0)) → o + vs.length ≤ cur.size →
  ∃ cur', (w.setCells g o vs).heap[g]? = some (.cells cur' e (0, 0)) ∧ cur'.size = cur.size ∧ cur'.toList = cur.toList.take o ++ vs ++ cur.toList.drop (o + vs.length)
 | [], o, w, cur, h, _ => ⟨cur, h, rfl, by simp⟩
 | v :: r, o, w, cur, h, hl => by
  have h2 := blk_set h o v
  simp only [List.length_cons] at hl
  obtain ⟨cur', h3, h4, h5⟩ := setCells_row r (o + 1) (w.setCell ⟨g, o, none⟩ v) _ h2 (by simp; omega)
  refine ⟨cur', h3, by rw [h4]; simp, ?_⟩
  rw [h5, Array.toList_setIfInBounds]
  have ho : o < cur.toList.length := by rw [Array.length_toList]; omega
  rw [List.take_set, List.drop_set_of_lt (by omega)]
  simp only [List.length_cons]
  rw [show o + 1 + r.length = o + (r.length + 1) by omega]
  congr 1
  rw [List.take_succ_eq_append_getElem ho, List.set_append_right _ _ (by rw [List.length_take]; omega)]
  have ho' : o < cur.size := by omega
  simp [Nat.min_eq_left (Nat.le_of_lt ho')]
theorem setCells_same (g : Nat) : ∀ (vs : List Value) (o : Nat) (w : World), (w.setCells g o vs).os = w.os ∧ (w.setCells g o vs).tape = w.tape ∧ (w.setCells g o vs).output = w.output ∧ (w.setCells g o vs).heap.size = w.heap.size
 | [], _, _ => ⟨rfl, rfl, rfl, rfl⟩
 | v :: r, o, w => by
  obtain ⟨h1, h2, h3, h4⟩ := setCells_same g r (o + 1) (w.setCell ⟨g, o, none⟩ v)
  rw [World.setCells]
  exact ⟨h1, h2, h3, by rw [h4]; simp [World.setCell]⟩
theorem setCells_far {g : Nat} : ∀ (vs : List Value) (o : Nat) {w : World} (k : Nat), k ≠ g → (w.setCells g o vs).heap[k]? = w.heap[k]?
 | [], _, _, _, _ => rfl
 | v :: r, o, w, k, hk => by
  rw [World.setCells, setCells_far r (o + 1) k hk]
  exact Below.heap_setCell w ⟨g, o, none⟩ v k hk
theorem add_plain (g j : Nat) : (⟨g, 0, none⟩ : Addr).add j = ⟨g, j, none⟩ := by unfold Addr.add; split <;> simp_all
section
variable {P : Program}
theorem run_append_zeros (w : World) (base : Nat) (t ti ty e : TypeId) (i : TypeInfo) (z : Value) (size bytes : Nat) (ht : P.underlying t = some (.slice e)) {k : IntKind} (hti : P.underlying ti = some (.int k)) (hi : P.info? e = some i) (hz : i.zero = some z)
  (hsize : i.size = size) (hby : i.bytes = bytes) (hzs : z.cells.size = size) (hsz : 0 < size) (hb0 : 0 < bytes)
  (v : Value) (n : Nat) (xs : List Value) (hown : w.ownsRow base e size v n xs) (kx : IntKind) (m : Nat) (h1 : ∀ u ∈ (Builtin.zeroCells z.cells m).toList, u.oneCell' = true)
  (hbytes : (n + m) * bytes ≤ 140737488355328) (hbase : base ≤ w.heap.size) :
  ∃ v' w', (Builtin.append_ #[t, ti] ty #[v, .int kx m]).run P w = .ok v' w' ∧ w'.ownsRow base e size v' (n + m) (xs ++ (Builtin.zeroCells z.cells m).toList) ∧ w.grownBy w' v.ownBlock ∧
   (v'.ownBlock = v.ownBlock ∨ v'.ownBlock = some w.heap.size) := by
 subst hsize
 subst hby
 have hle : n + m ≤ 140737488355328 := Nat.le_trans (Nat.le_mul_of_pos_right _ hb0) hbytes
 have h63 : n + m ≤ maxLen := by simp only [maxLen]; omega
 have hw : IntKind.i64.wrap (m : Int) = m := by rw [IntKind.wrap_i64]; omega
 have hw0 : IntKind.i64.wrap 0 = 0 := by rw [IntKind.wrap_i64]; rfl
 have hneg : ¬ ((m : Int) < 0) := by omega
 have hmb : m * i.bytes ≤ 140737488355328 := Nat.le_trans (Nat.mul_le_mul_right _ (Nat.le_add_left m n)) hbytes
 have hbig : ¬ (281474976710656 < (m : Int) * (i.bytes : Int)) := by
  rw [← Int.natCast_mul]
  omega
 have hsn : i.size ≠ 0 := by omega
 obtain ⟨news, hnews⟩ : ∃ news, news = (Builtin.zeroCells z.cells m).toList := ⟨_, rfl⟩
 rw [← hnews] at h1 ⊢
 have hl : news.length = m * i.size := by rw [hnews, Array.length_toList, size_zeroCells, hzs]
 have hna : Builtin.zeroCells z.cells m = news.toArray := by rw [hnews]
 have hlen : (xs ++ news).length = (n + m) * i.size := by rw [List.length_append, hown.1, hl, Nat.add_mul]
 have hnil : m = 0 → news = [] := fun h => List.eq_nil_of_length_eq_zero (by rw [hl, h, Nat.zero_mul])
 have grown : ∀ (old : Nat), old < n + m → ∀ (row : Option Nat),
   (w.drew.alloc (.cells (xs.toArray ++ news.toArray ++ Builtin.zeroCells z.cells (grownCap w (n + m) old e - (n + m))) e)).ownsRow base e i.size
    (.slice (some ⟨w.heap.size, 0, none⟩) (n + m) (grownCap w (n + m) old e)) (n + m) (xs ++ news) ∧
   w.grownBy (w.drew.alloc (.cells (xs.toArray ++ news.toArray ++ Builtin.zeroCells z.cells (grownCap w (n + m) old e - (n + m))) e)) row := by
  intro old ho row
  have hge := grownCap_ge w (n + m) old e
  have hcm : grownCap w (n + m) old e ≤ maxLen := grownCap_le_maxLen w (n + m) old e h63
  refine ⟨⟨hlen, .inr ⟨w.heap.size, _, _, rfl, hbase, heap_alloc_new w.drew _, hge, hcm, ?_, ?_⟩⟩, ⟨rfl, rfl, rfl, by simp, fun k hk _ => (show (w.drew.heap.push _)[k]? = w.drew.heap[k]? by rw [Array.getElem?_push, if_neg (show ¬ k = w.drew.heap.size from Nat.ne_of_lt hk)])⟩⟩
  ·simp only [Array.size_append, List.size_toArray, size_zeroCells, hzs, hown.1, hl, ← Nat.add_mul]
   congr 1
   omega
  ·simp only [Array.toList_append, List.append_assoc]
   rw [← List.append_assoc, ← hlen]
   exact List.take_left
 have runs : ∀ (A : Option Addr) (cap : Nat), cap < n + m → (Builtin.firstCells i.size n (.slice A n cap)).run P w.drew = .ok xs.toArray w.drew → (Builtin.append_ #[t, ti] ty #[.slice A n cap, .int kx m]).run P w =
   .ok (.slice (some ⟨w.heap.size, 0, none⟩) (n + m) (grownCap w (n + m) cap e)) (w.drew.alloc (.cells (xs.toArray ++ news.toArray ++ Builtin.zeroCells z.cells (grownCap w (n + m) cap e - (n + m))) e)) := by
  intro A cap hcap hfo
  have hn : ¬ (n + m ≤ cap) := by omega
  have h63' : ¬ (9223372036854775807 < ((n : Int) + (m : Int))) := by omega
  have hfit := growslice_fits hcap hbytes
  have h48' : ¬ (281474976710656 < Builtin.nextslicecap (n + m) cap * i.bytes) := by omega
  by_cases hm : m = 0
  ·have hnl := hnil hm
   subst hm
   rw [hnl]
   simp only [Nat.add_zero] at hn h63' h48' ⊢
   have h63'' : ¬ (9223372036854775807 < (n : Int)) := by omega
   simp [Builtin.append_, run_underlying ht, run_underlying hti, sizeOf, typeInfo, zeroValue, hi, hz, asInt, asIntOf, hw0, hn, h63'', h48', Question.forced, hfo, newRow, grownCap]
  ·have hmz : ¬ (m * i.size = 0) := Nat.mul_ne_zero hm hsn
   simp [Builtin.append_, run_underlying ht, run_underlying hti, sizeOf, typeInfo, zeroValue, hi, hz, asInt, asIntOf, hw, hneg, hbig, hn, h63', h48', Question.forced, hfo, newRow, grownCap, hmz, hna]
   congr 2
   apply Array.ext'
   simp [List.append_assoc]
 rcases hown.2 with ⟨rfl, rfl⟩ | ⟨g, cap, cur, rfl, hbg, hg, hnc, hcm, hcs, htake⟩
 ·have hx : xs = [] := List.eq_nil_of_length_eq_zero (by simpa using hown.1)
  subst hx
  by_cases hm : m = 0
  ·have hnl := hnil hm
   subst hm
   rw [hnl]
   refine ⟨.slice none 0 0, w, ?_, World.ownsRow_nil w base e i.size, ⟨rfl, rfl, rfl, Nat.le_refl _, fun _ _ _ => rfl⟩, Or.inl rfl⟩
   simp [Builtin.append_, run_underlying ht, run_underlying hti, sizeOf, typeInfo, hi, asInt, asIntOf, hw0]
  ·have hgr := grown 0 (by omega) (Value.ownBlock (.slice none 0 0))
   exact ⟨_, _, runs none 0 (by omega) (by simp [Builtin.firstCells]), hgr.1, hgr.2, Or.inr rfl⟩
 ·by_cases hroom : n + m ≤ cap
  ·have hfit : n * i.size + news.length ≤ cur.size := by rw [hl, hcs, ← Nat.add_mul]; exact Nat.mul_le_mul_right _ hroom
   obtain ⟨cur', h3, h4, h5⟩ := setCells_row news (n * i.size) w cur hg hfit
   obtain ⟨s1, s2, s3, s4⟩ := setCells_same g news (n * i.size) w
   have hst := run_storeCells_cells (P := P) g (n * i.size) news 0 w (fun j hj => by rw [cell_of_row w g _ cur e (0, 0) hg]; simp; omega) (fun j _ => blk_frozen hg _) h1
   simp only [Nat.add_zero] at hst
   refine ⟨.slice (some ⟨g, 0, none⟩) (n + m) cap, w.setCells g (n * i.size) news, ?_, ⟨hlen, .inr ⟨g, cap, cur', rfl, hbg, h3, hroom, hcm, by rw [h4, hcs], ?_⟩⟩, ⟨s1, s2, s3, by rw [s4]; exact Nat.le_refl _, fun k _ hk => setCells_far news _ k (fun e => hk (by simp [Value.ownBlock, e]))⟩, Or.inl rfl⟩
   ·by_cases hm : m = 0
    ·have hnl := hnil hm
     subst hm
     rw [hnl] at hst ⊢
     simp [Builtin.append_, run_underlying ht, run_underlying hti, sizeOf, typeInfo, hi, asInt, asIntOf, hw0, hnc, add_plain, hst]
    ·have hmz : ¬ (m * i.size = 0) := Nat.mul_ne_zero hm hsn
     simp [Builtin.append_, run_underlying ht, run_underlying hti, sizeOf, typeInfo, zeroValue, hi, hz, asInt, asIntOf, hw, hneg, hbig, hroom, hmz, hna, add_plain, hst]
   ·rw [h5]
    have h6 : cur.toList.take (n * i.size) = xs := htake
    rw [h6, ← hlen]
    exact List.take_left
  ·have holds : ∀ j u, xs[j]? = some u → w.cell? ((⟨g, 0, none⟩ : Addr).add j) = some u := hown.cells (g := g) rfl
   have hgr := grown cap (by omega) (Value.ownBlock (.slice (some ⟨g, 0, none⟩) n cap))
   exact ⟨_, _, runs (some ⟨g, 0, none⟩) cap (by omega) (run_firstCells_some (P := P) w.drew i.size n _ n cap xs hown.1 (by simpa using holds)), hgr.1, hgr.2, Or.inr rfl⟩
end
section
variable {P : Program} {w w' w0 : World} {ow : Own} {η η' : Nat → Option Value} {N key b g : Nat} {tm tmr : Nat → Option AV} {bx bxr : Bx} {a : Act} {tt : TypeId → Option Ty}
theorem zeroCells_eq {z : Array Value} {n s : Nat} (hz : z.size = s) : Builtin.zeroCells z n = madeCells z (n * s) := by
 unfold Builtin.zeroCells madeCells; rw [hz]
def wrZeros (P : Program) (tt : TypeId → Option Ty) (key : Nat) (tm : Nat → Option AV) (bx : Bx) (t ti : TypeId) (s x : Operand) : Option Wr :=
  match P.underlying t, P.underlying ti, evalA tm x with
  | some (.slice e), some (.int _), some (.lit (.int _ n)) => match P.info? e, zeroA P e, tt e, evalA tm s with
    | some ie, some z, some τ, some (.own b) => match bx b, dec τ z with
      | some (.sl e0 τ0 xs), some x0 => if e0 = e ∧ ie.size = sz τ ∧ z.length = sz τ ∧ 0 < ie.bytes then match cat τ0 τ xs (List.replicate n.toNat x0) with
          | some zs => some ⟨0 ≤ n ∧ ((xs.length + n.toNat) * ie.bytes : Nat) ≤ 140737488355328, some (.own key), [b], [(key, .sl e τ0 zs)], true⟩
          | none => none
        else none
      | _, _ => none
    | some ie, some z, some τ, some y0 => match dec τ z with
      | some x0 => if isNil y0 = true ∧ ie.size = sz τ ∧ z.length = sz τ ∧ 0 < ie.bytes then
          some ⟨0 ≤ n ∧ (n.toNat * ie.bytes : Nat) ≤ 140737488355328, some (.own key), [], [(key, .sl e τ (List.replicate n.toNat x0))], true⟩ else none
      | none => none
    | _, _, _, _ => none
  | _, _, _ => none
theorem wrZeros_ok (s : Sim N w0 ow η tm bx a w) (sr : Sim N w0 ow η tmr bxr a w) (hf : Fresh key tm bx) {o : Oper} {t ti : TypeId} {x0 x1 : Operand} {E : Wr} (ho : o.op = .call { callee := .builtin .append, args := #[x0, x1], argTypes := #[t, ti] })
  (h : wrZeros P tt key tmr bxr t ti x0 x1 = some E) : Does P N w0 ow tm bx a w o E := by
 unfold wrZeros at h
 have exec : ∀ v w', (Builtin.append_ #[t, ti] o.type #[a.eval x0, a.eval x1]).run P w = .ok v w' → (execOp a.eval o).run P w = .ok (.value v) w' := fun v w' hr => by
  simp [execOp, ho, resolve, invoke, builtin, hr]
 split at h
 ·rename_i e ki kx n ht hti hx
  have hvx := (sr.ev hx).lit_inv
  -- all there is of it
  have core : ∀ (ie : TypeInfo) (z : List AV) (τ : Ty) (z0 : El τ) (v : Value) (xs : List (El τ)) (cs : List Value) (del : List Nat) (row : Option Nat), P.info? e = some ie → zeroA P e = some z → dec τ z = some z0 → ie.size = sz τ → z.length = sz τ → 0 < ie.bytes →
    a.eval x0 = v → w.ownsRow 0 e (sz τ) v xs.length cs → (∀ i x j y, xs[i]? = some x → (enc τ x)[j]? = some y → ∃ v, cs[i * sz τ + j]? = some v ∧ R w (Fz (Amb w0 ow) η) η v y) → blk v = row → (row = none ∨ ∃ b u, del.contains b = true ∧ η b = some u ∧ blk u = row) →
    0 ≤ n → ((xs.length + n.toNat) * ie.bytes : Nat) ≤ 140737488355328 →
    ∃ n0 v w' η', (execOp a.eval o).run P w = .ok n0 w' ∧ (n0 = .value v ∨ (n0 = .skip ∧ v = undef)) ∧ (∀ x, some (AV.own key) = some x → R w' (Fz (Amb w0 ow) η') η' v x) ∧ Sim N w0 ow η' tm (updB bx del [(key, .sl e τ (xs ++ List.replicate n.toNat z0))]) a w' := by
   intro ie z τ z0 v xs cs del row hie hz hdec hs2 hs3 hb0 hv0 hown hel hrow hdel hn0 hB
   obtain ⟨zv, hzv, rfl⟩ := zeroA_inv hz hie
   have hzs : zv.cells.size = sz τ := by simpa using hs3
   have hd := fun (w : World) (fz : Nat → Prop) (η : Nat → Option Value) => dec_ok hdec (RL_toList (RL_lits (w := w) (fz := fz) (η := η) zv.cells))
   have hone : ∀ u ∈ (Builtin.zeroCells zv.cells n.toNat).toList, u.oneCell' = true := fun u hu => by
    rw [zeroCells_eq hzs] at hu
    obtain ⟨k, hk, hku⟩ := List.getElem_of_mem hu
    have hk' : k < n.toNat * sz τ := by simpa [size_madeCells] using hk
    have hi : k / sz τ < n.toNat := Nat.div_lt_of_lt_mul (by rw [Nat.mul_comm]; exact hk')
    have hj : k % sz τ < sz τ := Nat.mod_lt _ (sz_pos τ)
    have he := madeCells_at (z := zv.cells) (n := n.toNat) hzs hi hj
    rw [show k / sz τ * sz τ + k % sz τ = k by rw [Nat.mul_comm]; exact Nat.div_add_mod k (sz τ), List.getElem?_eq_getElem hk, hku] at he
    have hjc : k % sz τ < zv.cells.size := by omega
    have hy : (enc τ z0)[k % sz τ]? = some ((enc τ z0)[k % sz τ]'(by rw [enc_len]; exact hj)) := List.getElem?_eq_getElem _
    exact enc_one hy ((hd w (Fz (Amb w0 ow) η) η).2 (k % sz τ) u _ (by rw [Array.getElem?_toList]; exact he.symm) hy)
   obtain ⟨v', w', hr, hown', hg, hat⟩ := run_append_zeros (P := P) w 0 t ti o.type e ie zv (sz τ) ie.bytes ht hti hie hzv hs2 rfl hzs (sz_pos τ) hb0 v xs.length cs hown kx n.toNat hone hB (Nat.zero_le _)
   rw [Int.toNat_of_nonneg hn0] at hr
   have hblk : ∀ u : Value, (∃ cs n, w.ownsRow 0 e (sz τ) u n cs) ∨ (∃ cs n, w'.ownsRow 0 e (sz τ) u n cs) → blk u = u.ownBlock := by
    rintro u (⟨cs, n, h⟩ | ⟨cs, n, h⟩) <;> (rcases h.2 with ⟨rfl, _⟩ | ⟨g, cap, cur, rfl, _⟩ <;> rfl)
   have e1 := hblk v (.inl ⟨_, _, hown⟩)
   have e2 := hblk v' (.inr ⟨_, _, hown'⟩)
   rw [hrow] at e1
   obtain ⟨tr, hs⟩ := s.grow (w' := w') (B := .sl e τ (xs ++ List.replicate n.toNat z0)) (v := v') (del := del) (row := row) hf (e1 ▸ hg) hdel (fun k hk => ⟨(hown'.lt k (e2 ▸ hk)).2, by
    rw [e2] at hk
    rcases hat with h | h
    ·exact .inr (e1.trans (h ▸ hk))
    ·rw [h] at hk; injection hk with hk; exact .inl (by omega)⟩)
   refine ⟨.value v', v', w', _, exec v' w' (by rw [hv0, hvx]; exact hr), .inl rfl, (fun x hx => by simp at hx; subst hx; exact own_R (by simp [setη])), hs ⟨cs ++ (Builtin.zeroCells zv.cells n.toNat).toList, by rw [List.length_append, List.length_replicate]; exact hown', fun i x j y hx hy => ?_⟩⟩
   have hj : j < sz τ := by have := (List.getElem?_eq_some_iff.1 hy).1; rwa [enc_len] at this
   by_cases hi : i < xs.length
   ·rw [List.getElem?_append_left hi] at hx
    obtain ⟨vv, h1, h2⟩ := hel i x j y hx hy
    have : (i + 1) * sz τ ≤ xs.length * sz τ := Nat.mul_le_mul_right _ hi
    rw [Nat.add_mul] at this
    exact ⟨vv, by rw [List.getElem?_append_left (by rw [hown.1]; omega)]; exact h1, tr.R h2 (fun hh => by rw [enc_ment' hy] at hh; cases hh)⟩
   ·rw [List.getElem?_append_right (by omega)] at hx
    have hi2 : i - xs.length < n.toNat := by have := (List.getElem?_eq_some_iff.1 hx).1; simpa using this
    rw [List.getElem?_replicate, if_pos hi2] at hx
    simp only [Option.some.injEq] at hx
    subst hx
    have hjc : j < zv.cells.size := by omega
    refine ⟨zv.cells[j], ?_, (hd _ _ _).2 j _ y (by rw [Array.getElem?_toList]; exact Array.getElem?_eq_getElem hjc) hy⟩
    have hge : xs.length * sz τ ≤ i * sz τ := Nat.mul_le_mul_right _ (by omega)
    rw [List.getElem?_append_right (by rw [hown.1]; omega), hown.1, zeroCells_eq hzs, show i * sz τ + j - xs.length * sz τ = (i - xs.length) * sz τ + j by rw [Nat.sub_mul]; omega, madeCells_at hzs hi2 hj]
    exact Array.getElem?_eq_getElem hjc
  split at h
  ·rename_i ie z τ b hie hz hτ hs0
   split at h
   ·rename_i e0 τ0 xs z0 hb hdec
    split at h
    ·rename_i hc
     obtain ⟨rfl, hs2, hs3, hb0⟩ := hc
     split at h
     ·rename_i zs hzs
      obtain ⟨rfl, hzs⟩ := cat_ok hzs
      simp only at hzs
      subst hzs
      simp only [Option.some.injEq] at h
      subst h
      rintro ⟨hn0, hB⟩
      obtain ⟨u, hu, cs, hown, hel⟩ := sr.dom b _ hb
      exact core ie z _ z0 u xs cs [b] (blk u) hie hz hdec hs2 hs3 hb0 ((sr.ev hs0).own_inv hu) hown hel rfl (.inr ⟨b, u, by simp, hu, rfl⟩) hn0 hB
     ·cases h
    ·cases h
   ·cases h
  ·rename_i ie z τ y0 _ hie hz hτ hs0
   split at h
   ·rename_i z0 hdec
    split at h
    ·rename_i hc
     obtain ⟨hnil, hs2, hs3, hb0⟩ := hc
     simp only [Option.some.injEq] at h
     subst h
     rintro ⟨hn0, hB⟩
     have hy0 := isNil_eq hnil
     subst hy0
     have := core ie z τ z0 (.slice none 0 0) [] [] [] none hie hz hdec hs2 hs3 hb0 (sr.ev hs0).lit_inv (World.ownsRow_nil w 0 e (sz τ)) (fun i x j y hx => by simp at hx) rfl (.inl rfl) hn0 (by simpa using hB)
     rw [List.nil_append] at this
     exact this
    ·cases h
   ·cases h
  ·cases h
 ·cases h
end
section
variable {P : Program} {w w' w0 : World} {ow : Own} {η η' : Nat → Option Value} {N key b g : Nat} {tm tmr : Nat → Option AV} {bx bxr : Bx} {a : Act} {u v : Value} {B : Box} {x : AV} {tt : TypeId → Option Ty}
theorem Sim.same (s : Sim N w0 ow η tm bx a w) (hu : η b = some u) (hB : BoxR w (Fz (Amb w0 ow) η) η u B) : Sim N w0 ow η tm (updB bx [] [(b, B)]) a w := by
 refine ⟨s.size, s.nod, s.frame, s.tmp, fun b' B' hB' => ?_, s.new, s.apart, s.pin, s.pinlt⟩
 by_cases h : b' = b
 subst h; rw [updB_eq1, Option.some.injEq] at hB'; subst hB'; exact ⟨u, hu, hB⟩
 rw [updB_ne1 h] at hB'; simp at hB'; exact s.dom b' B' hB'
def wrCopy (P : Program) (tm : Nat → Option AV) (bx : Bx) (t : TypeId) (d x : Operand) : Option Wr :=
  match P.underlying t with
  | some (.slice e) => match P.info? e, evalA tm d, evalA tm x with
    | some ie, some (.own b), some y => match bx b, srcOf bx y with
      | some (.sl e0 τ xs), some ⟨τ', ys⟩ => if ie.size = sz τ then match cat τ τ' [] ys with
          | some zs => some ⟨True, some (.lit (.int .i64 (min zs.length xs.length))), [], [(b, .sl e0 τ (zs.take xs.length ++ xs.drop zs.length))], false⟩
          | none => none
        else none
      | _, _ => none
    | _, _, _ => none
  | _ => none
theorem wrCopy_ok (s : Sim N w0 ow η tm bx a w) (sr : Sim N w0 ow η tmr bxr a w) {o : Oper} {t t' : TypeId} {x0 x1 : Operand} {E : Wr} (ho : o.op = .call { callee := .builtin .copy, args := #[x0, x1], argTypes := #[t, t'] })
  (h : wrCopy P tmr bxr t x0 x1 = some E) : Does P N w0 ow tm bx a w o E := by
 unfold wrCopy at h
 have exec : ∀ v w', (Builtin.copy_ #[t, t'] o.type #[a.eval x0, a.eval x1]).run P w = .ok v w' → (execOp a.eval o).run P w = .ok (.value v) w' := fun v w' hr => by
  simp [execOp, ho, resolve, invoke, builtin, hr]
 split at h
 ·rename_i e ht
  split at h
  ·rename_i ie b y hie hs0 hs1
   split at h
   ·rename_i e0 τ xs τ' ys hb hsrc
    split at h
    ·rename_i hsz
     split at h
     ·rename_i zs hzs
      obtain ⟨rfl, hzs⟩ := cat_ok hzs
      simp only [List.nil_append] at hzs
      subst hzs
      simp only [Option.some.injEq] at h
      subst h
      intro _
      obtain ⟨u, hu, cs, hown, hel⟩ := sr.dom b _ hb
      have hv0 := (sr.ev hs0).own_inv hu
      obtain ⟨A, c, hv1, hm, hA, hnews⟩ := src_cells sr hsrc (sr.ev hs1)
      generalize hn : min zs.length xs.length = n
      have hmin : Nat.min zs.length xs.length = n := hn
      have sur : ∀ (v : Value) (w' : World) (η1 : Nat → Option Value), v = .int .i64 n → (∀ x, some (AV.lit (.int .i64 (n : Int))) = some x → R w' (Fz (Amb w0 ow) η1) η1 v x) := fun v w' η1 h x hx => by
       simp only [Option.some.injEq] at hx; subst hx; rw [h]; exact .lit _
      have hi : ((min zs.length xs.length : Nat) : Int) = (n : Int) := by rw [hn]
      have fin : ∀ w', (Builtin.copy_ #[t, t'] o.type #[a.eval x0, a.eval x1]).run P w = .ok (.int .i64 n) w' → Sim N w0 ow η tm (updB bx [] [(b, .sl e0 τ' (zs.take xs.length ++ xs.drop zs.length))]) a w' →
        ∃ n_ v w' η', (execOp a.eval o).run P w = .ok n_ w' ∧ (n_ = .value v ∨ (n_ = .skip ∧ v = undef)) ∧ (∀ x, some (AV.lit (.int .i64 (min zs.length xs.length))) = some x → R w' (Fz (Amb w0 ow) η') η' v x) ∧ Sim N w0 ow η' tm (updB bx [] [(b, .sl e0 τ' (zs.take xs.length ++ xs.drop zs.length))]) a w' := fun w' hr hs => by
       refine ⟨.value (.int .i64 n), .int .i64 n, w', η, exec _ w' hr, .inl rfl, fun x hx => ?_, hs⟩
       simp only [Option.some.injEq] at hx; subst hx
       have e1 : (min (zs.length : Int) (xs.length : Int)) = (n : Int) := by omega
       rw [e1]; exact .lit _
      by_cases hz : n = 0
      ·subst hz
       have hl : zs.take xs.length ++ xs.drop zs.length = xs := by
        by_cases h0 : xs.length = 0
        ·have : xs = [] := by cases xs; rfl; simp at h0
         subst this; simp
        ·have : zs.length = 0 := by omega
         have : zs = [] := by cases zs; rfl; simp at this
         subst this; simp
       refine fin w ?_ (s.same hu (by rw [hl]; exact ⟨cs, hown, hel⟩))
       rw [hv0, hv1]
       rcases hown.2 with ⟨rfl, h0⟩ | ⟨g, cap, cur, rfl, _⟩
       ·cases A <;> simp [Builtin.copy_, run_underlying ht, Builtin.lenOf, sizeOf_run hie, Builtin.firstCells, storeCells, goInt, loadCells, loadCellsFrom]
       ·cases A <;> simp [Builtin.copy_, run_underlying ht, Builtin.lenOf, sizeOf_run hie, Builtin.firstCells, storeCells, goInt, hmin, loadCells, loadCellsFrom]
      ·have hzs0 : zs ≠ [] := fun h => by subst h; simp at hn; omega
       obtain ⟨ad, rfl⟩ : ∃ ad, A = some ad := by cases A with
        | none => exact absurd (hA rfl) hzs0
        | some ad => exact ⟨ad, rfl⟩
       obtain ⟨news, n1, n2, n3, n4⟩ := hnews ad rfl
       rcases hown.2 with ⟨rfl, h0⟩ | ⟨g, cap, cur, rfl, _, q1, q2, q3, q4, q5⟩
       ·omega
       have hnz : n * sz τ' ≤ zs.length * sz τ' := Nat.mul_le_mul_right _ (by omega)
       have hnx : n * sz τ' ≤ xs.length * sz τ' := Nat.mul_le_mul_right _ (by omega)
       have hxc : xs.length * sz τ' ≤ cap * sz τ' := Nat.mul_le_mul_right _ q2
       have hD : (news.take (n * sz τ')).length = n * sz τ' := by simp; omega
       have hload := run_loadCells_list (P := P) w ad (news.take (n * sz τ')) (fun j v hv => by
        rw [List.getElem?_take] at hv
        split at hv
        ·exact n2 j v hv
        ·cases hv)
       rw [hD] at hload
       have hst := run_storeCells_at P g 0 e0 (news.take (n * sz τ')) 0 cur w q1 (by rw [hD]; omega) (fun v hv => n3 v (List.mem_of_mem_take hv))
       simp only [Nat.add_zero, Nat.zero_add, hD] at hst
       have tr := same_tr s hu rfl (cur.toList.take 0 ++ news.take (n * sz τ') ++ cur.toList.drop (n * sz τ')).toArray
       refine fin (w.setRow g (cur.toList.take 0 ++ news.take (n * sz τ') ++ cur.toList.drop (n * sz τ')).toArray) ?_ (s.inplace hu rfl _ ⟨cs.take 0 ++ news.take (n * sz τ') ++ cs.drop (0 + n * sz τ'), ⟨?_, .inr ⟨g, cap, _, ?_, Nat.zero_le _, setRow_heap w g cur _ e0 (0, 0) q1, ?_, q3, ?_, ?_⟩⟩, ?_⟩)
       ·rw [hv0, hv1]
        simp [Builtin.copy_, run_underlying ht, Builtin.lenOf, hmin, sizeOf_run hie, hsz, Builtin.firstCells, hload, hst, goInt]
       ·have := hown.1
        have h7 : (zs.take xs.length ++ xs.drop zs.length).length = xs.length := by simp; omega
        rw [h7]; simp; omega
       ·have h7 : (zs.take xs.length ++ xs.drop zs.length).length = xs.length := by simp; omega
        rw [h7]
       ·have h7 : (zs.take xs.length ++ xs.drop zs.length).length = xs.length := by simp; omega
        rw [h7]; exact q2
       ·simp; omega
       ·have h7 : (zs.take xs.length ++ xs.drop zs.length).length = xs.length := by simp; omega
        rw [h7, ← q5]
        have := take_splice cur.toList (news.take (n * sz τ')) 0 (n * sz τ') (xs.length * sz τ') hD (by omega) (by rw [← q4] at hxc; rw [Array.length_toList]; exact hxc)
        simpa using this
       ·intro i x j y hx hy
        have hj : j < sz τ' := by have := (List.getElem?_eq_some_iff.1 hy).1; rwa [enc_len] at this
        simp only [List.take_zero, List.nil_append, Nat.zero_add]
        have htl : (zs.take xs.length).length = n := by simp; omega
        by_cases hi : i < n
        ·rw [List.getElem?_append_left (by omega), List.getElem?_take, if_pos (by omega)] at hx
         obtain ⟨vv, h1, h2⟩ := n4 i x j y hx hy
         have : (i + 1) * sz τ' ≤ n * sz τ' := Nat.mul_le_mul_right _ hi
         rw [Nat.add_mul] at this
         exact ⟨vv, by rw [List.getElem?_append_left (by omega), List.getElem?_take, if_pos (by omega)]; exact h1, tr.R h2 (fun _ _ h => h)⟩
        ·rw [List.getElem?_append_right (by omega), htl, List.getElem?_drop] at hx
         have hzl : zs.length = n := by
          by_cases h5 : zs.length ≤ xs.length
          ·omega
          ·have := (List.getElem?_eq_some_iff.1 hx).1; omega
         rw [hzl, show n + (i - n) = i by omega] at hx
         obtain ⟨vv, h1, h2⟩ := hel i x j y hx hy
         have : n * sz τ' ≤ i * sz τ' := Nat.mul_le_mul_right _ (by omega)
         exact ⟨vv, by rw [List.getElem?_append_right (by omega), hD, List.getElem?_drop, show n * sz τ' + (i * sz τ' + j - n * sz τ') = i * sz τ' + j by omega]; exact h1, tr.R h2 (fun _ _ h => h)⟩
     ·cases h
    ·cases h
   ·cases h
  ·cases h
 ·cases h
def wrTake (P : Program) (key : Nat) (tm : Nat → Option AV) (bx : Bx) (t : TypeId) (x hi : Operand) : Option Wr :=
 match typ P t, evalA tm x, evalA tm hi with
 | some (.slice e', _), some (.own b), some (.lit (.int _ n)) => match typ P e', bx b with
  | some (_, s), some (.sl e τ xs) => if s = sz τ then some ⟨0 ≤ n ∧ n ≤ xs.length, some (.own key), [b], [(key, .sl e τ (xs.take n.toNat))], true⟩ else none
  | _, _ => none
 | _, _, _ => none
theorem wrTake_ok (s : Sim N w0 ow η tm bx a w) (sr : Sim N w0 ow η tmr bxr a w) (hf : Fresh key tm bx) {o : Oper} {t : TypeId} {x hi : Operand} {E : Wr} (ho : o.op = .slice t x none (some hi) none)
  (h : wrTake P key tmr bxr t x hi = some E) : Does P N w0 ow tm bx a w o E := by
 unfold wrTake at h
 split at h
 ·rename_i e' _ b k n ht hx hh
  split at h
  ·rename_i d s' e τ xs hs hb
   split at h
   ·rename_i hsz
    obtain ⟨ht, _⟩ := typ_und ht
    obtain ⟨h1, inf, h2, rfl⟩ := typ_und hs
    simp only [Option.some.injEq] at h
    subst h
    rintro ⟨hn0, hn1⟩
    obtain ⟨u, hu, cs, hown, hel⟩ := sr.dom b _ hb
    have hv0 := (sr.ev hx).own_inv hu
    have hvh := (sr.ev hh).lit_inv
    obtain ⟨m, rfl⟩ : ∃ m : Nat, n = (m : Int) := ⟨n.toNat, by omega⟩
    simp only [Int.toNat_natCast]
    have hm : m ≤ xs.length := by omega
    have hlen : (xs.take m).length = m := by rw [List.length_take]; omega
    have els : ∀ (i : Nat) y j z, (xs.take m)[i]? = some y → (enc τ y)[j]? = some z → ∃ v, (cs.take (m * sz τ))[i * sz τ + j]? = some v ∧ R w (Fz (Amb w0 ow) η) η v z := fun i y j z hy hz => by
     have hi : i < m := by have := (List.getElem?_eq_some_iff.1 hy).1; rwa [hlen] at this
     rw [List.getElem?_take, if_pos hi] at hy
     obtain ⟨v, hv, hr⟩ := hel i y j z hy hz
     have hj : j < sz τ := by have := (List.getElem?_eq_some_iff.1 hz).1; rwa [enc_len] at this
     have hlt : i * sz τ + j < m * sz τ := by
      have : (i + 1) * sz τ ≤ m * sz τ := Nat.mul_le_mul_right _ hi
      rw [Nat.add_mul] at this; omega
     exact ⟨v, by rw [List.getElem?_take, if_pos hlt]; exact hv, hr⟩
    rcases hown.2 with ⟨rfl, hz⟩ | ⟨g, cap, cur, rfl, hb0, hblk, hle, hmax, hsize, htake⟩
    ·have hm0 : m = 0 := by omega
     subst hm0
     obtain ⟨tr, hs⟩ := s.grow (w' := w) (B := .sl e τ (xs.take 0)) (v := .slice none 0 0) (del := [b]) (row := none) hf ⟨rfl, rfl, rfl, Nat.le_refl _, fun _ _ _ => rfl⟩ (.inl rfl) (fun k hk => by simp [blk] at hk)
     refine ⟨.value (.slice none 0 0), .slice none 0 0, w, _, ?_, .inl rfl, (fun z hz => by simp at hz; subst hz; exact own_R (by simp [setη])), hs ⟨[], by simpa using World.ownsRow_nil w 0 e (sz τ), fun i x j y hx => by simp at hx⟩⟩
     have hbd := sliceBounds_run (P := P) (w := w) (b := true) (len := 0) (cap := 0) (lo := none) (hi := some (.int k ((0 : Nat) : Int))) (mx := none) (l := 0) (h := ((0 : Nat) : Int)) (m := ((0 : Nat) : Int)) (.inl ⟨rfl, rfl⟩) (.inr ⟨k, rfl⟩) (.inl ⟨rfl, rfl⟩) (by decide) (by decide) (by decide) (by decide)
     simp only [Int.toNat_natCast] at hbd
     simp [execOp, ho, Instr.sliceAt, Instr.slice, run_underlying ht, hv0, hvh] at hbd ⊢
     simp [hbd, sizeOf_run h2]
    ·have hbk : blk (.slice (some ⟨g, 0, none⟩) xs.length cap) = some g := rfl
     obtain ⟨tr, hs⟩ := s.grow (w' := w) (B := .sl e τ (xs.take m)) (v := .slice (some ⟨g, 0, none⟩) m cap) (del := [b]) (row := some g) hf ⟨rfl, rfl, rfl, Nat.le_refl _, fun _ _ _ => rfl⟩ (.inr ⟨b, _, by simp, hu, hbk⟩) (fun k hk => ⟨s.bound b _ k hu (by rw [hbk]; exact hk), .inr hk⟩)
     refine ⟨.value (.slice (some ⟨g, 0, none⟩) m cap), .slice (some ⟨g, 0, none⟩) m cap, w, _, ?_, .inl rfl, (fun z hz => by simp at hz; subst hz; exact own_R (by simp [setη])), hs ⟨cs.take (m * sz τ), ?_, fun i y j z hy hz => ?_⟩⟩
     ·have hbd := sliceBounds_run (P := P) (w := w) (b := true) (len := xs.length) (cap := cap) (lo := none) (hi := some (.int k (m : Int))) (mx := none) (l := 0) (h := (m : Int)) (m := (cap : Int)) (.inl ⟨rfl, rfl⟩) (.inr ⟨k, rfl⟩) (.inl ⟨rfl, rfl⟩) (by decide) (by omega) (by omega) (by omega)
      simp only [Int.toNat_natCast, Int.toNat_zero] at hbd
      simp [execOp, ho, Instr.sliceAt, Instr.slice, run_underlying ht, hv0, hvh, hbd, sizeOf_run h2]
      intro _; rfl
     ·rw [hlen]
      refine ⟨?_, .inr ⟨g, cap, cur, rfl, hb0, hblk, by omega, hmax, hsize, ?_⟩⟩
      ·rw [List.length_take, hown.1]
       have : m * sz τ ≤ xs.length * sz τ := Nat.mul_le_mul_right _ hm
       omega
      ·rw [← htake, List.take_take]
       congr 1
       have : m * sz τ ≤ xs.length * sz τ := Nat.mul_le_mul_right _ hm
       omega
     ·obtain ⟨vv, q1, q2⟩ := els i y j z hy hz
      exact ⟨vv, q1, tr.R q2 (fun hh => by rw [enc_ment' hz] at hh; cases hh)⟩
   ·cases h
  ·cases h
 ·cases h
def wrOp (P : Program) (tt : TypeId → Option Ty) (key : Nat) (o : Oper) (tm : Nat → Option AV) (bx : Bx) : Option Wr :=
 match o.op with
 | .alloc t => wrAlloc P key t
 | .box _ x => wrBox key (evalA tm) bx x
 | .store t x y => wrStore P (evalA tm) bx t x y
 | .buildSlice t n ps => wrBuildSlice P tt key tm bx t n ps
 | .slice t x none (some h) none => wrTake P key tm bx t x h
 | .makeSlice t l c => wrMakeSlice P tt key (evalA tm) t l c
 | .call ⟨.builtin .append, ⟨[s, x]⟩, ⟨[t, t']⟩⟩ => match wrAppend P tt key tm bx t t' s x with
  | some E => some E
  | none => wrZeros P tt key tm bx t t' s x
 | .call ⟨.builtin .copy, ⟨[s, x]⟩, ⟨[t, _]⟩⟩ => wrCopy P tm bx t s x
 | _ => none
theorem wrOp_ok (s : Sim N w0 ow η tm bx a w) (sr : Sim N w0 ow η tmr bxr a w) (hm0 : ∀ x y, evalA tmr x = some y → ment key y = false) (hf : Fresh key tm bx) {o : Oper} {E : Wr} (h : wrOp P tt key o tmr bxr = some E) : Does P N w0 ow tm bx a w o E := by
 unfold wrOp at h
 split at h
 rename_i ho; exact wrAlloc_ok s hf ho h
 rename_i ho; exact wrBox_ok s sr hm0 hf ho h
 rename_i ho; exact wrStore_ok s sr ho h
 rename_i ho; exact wrBuildSlice_ok s sr hf ho h
 rename_i ho; exact wrTake_ok s sr hf ho h
 rename_i ho; exact wrMakeSlice_ok s sr hf ho h
 rename_i ho
 split at h
 rename_i E' hE
 simp only [Option.some.injEq] at h
 subst h
 exact wrAppend_ok s sr hf ho hE
 exact wrZeros_ok s sr hf ho h
 rename_i ho; exact wrCopy_ok s sr ho h
 cases h
end
section
variable {P : Program} {w : World} {fz : Nat → Prop} {η : Nat → Option Value} {ev : Operand → Value} {ρ : Operand → Option AV} {bx : Bx} {o : Oper} {E : Prop × AV}
def rdSliceC (P : Program) (ρ : Operand → Option AV) (bx : Bx) (t : TypeId) (x : Operand) (lo hi : Option Operand) : Rd :=
 match typ P t, ρ x, optInt ρ lo, optInt ρ hi with
 | some (.slice e, _), some (.rowc τ xs c), some (some l), some none => match typ P e with
  | some (_, s) => if s = sz τ then some (0 ≤ l ∧ l ≤ xs.length, .row τ (xs.drop l.toNat)) else none
  | none => none
 | some (.slice e, _), some (.rowc τ xs c), some none, some (some h) => match typ P e with
  | some (_, s) => if s = sz τ then some (0 ≤ h ∧ h ≤ xs.length, .rowc τ (xs.take h.toNat) c) else none
  | none => none
 | some (.slice e, _), some (.own b), some (some l), some none => match typ P e, bx b with
  | some (_, s), some (.sl _ τ xs) => if s = sz τ then some (0 ≤ l ∧ l < xs.length, .ot τ b l.toNat) else none
  | _, _ => none
 | _, _, _, _ => none
theorem optNone (c : Ctx w fz η ev ρ bx) {x : Option Operand} (h : optInt ρ x = some none) : x = none := by
 rcases optInt_ok c h with ⟨h, _⟩ | ⟨_, _, _, _, hc, _⟩
 exact h
 cases hc
theorem optSome (c : Ctx w fz η ev ρ bx) {x : Option Operand} {l : Int} (h : optInt ρ x = some (some l)) : ∃ y k, x = some y ∧ ev y = .int k l := by
 rcases optInt_ok c h with ⟨_, hc⟩ | ⟨y, k, n, h1, h2, h3⟩
 cases hc
 injection h2 with h2; subst h2; exact ⟨y, k, h1, h3⟩
theorem rdSliceC_ok (c : Ctx w fz η ev ρ bx) {t : TypeId} {x : Operand} {lo hi : Option Operand} (ho : o.op = .slice t x lo hi none) (hh : rdSliceC P ρ bx t x lo hi = some E) : Yields P w fz η ev o E := by
 unfold rdSliceC at hh
 split at hh
 rename_i e _ τ xs cc l ht hx hl hhi
 split at hh
 rename_i d s hs
 split at hh
 rename_i hsz
 obtain ⟨ht, _⟩ := typ_und ht
 obtain ⟨h1, inf, h2, rfl⟩ := typ_und hs
 simp only [Option.some.injEq] at hh
 subst hh
 rintro ⟨h0, h3⟩
 obtain rfl := optNone c hhi
 obtain ⟨y, k, rfl, hy⟩ := optSome c hl
 obtain ⟨A, hv, hr⟩ := (c.ev x _ hx).rowc_inv
 obtain ⟨A', c', hv', hc, hmax, hel⟩ := hr.row_inv
 rw [hv] at hv'
 injection hv' with e1 e2 e3
 subst e1 e3
 obtain ⟨m, rfl⟩ : ∃ m : Nat, l = (m : Int) := ⟨l.toNat, by omega⟩
 have hb := sliceBounds_run (P := P) (w := w) (b := true) (len := xs.length) (cap := cc) (lo := some (.int k (m : Int))) (hi := none) (mx := none) (l := (m : Int)) (h := (xs.length : Int)) (m := (cc : Int)) (.inr ⟨k, rfl⟩) (.inl ⟨rfl, rfl, rfl⟩) (.inl ⟨rfl, rfl⟩) h0 h3 (by omega) (Int.le_refl _)
 simp only [Int.toNat_natCast] at hb ⊢
 refine ⟨.slice (if cc = m then A else A.map (·.add (m * sz τ))) (xs.length - m) (cc - m), by simp [execOp, ho, Instr.sliceAt, Instr.slice, run_underlying ht, hv, hy, hb, sizeOf_run h2, hsz], ?_⟩
 have hlen : (xs.drop m).length = xs.length - m := List.length_drop
 rw [← hlen]
 refine .row_mk (by rw [hlen]; omega) (by omega) (fun i z hz => ?_)
 rw [List.getElem?_drop] at hz
 obtain ⟨ad, rfl, hf, hb, hcell⟩ := hel _ _ hz
 have := (List.getElem?_eq_some_iff.1 hz).1
 rw [if_neg (by omega)]
 refine ⟨_, rfl, by rw [add_block]; exact hf, by rw [add_block]; exact hb, fun j a ha => ?_⟩
 rw [add_add, ← Nat.add_assoc, ← Nat.add_mul]
 exact hcell j a ha
 cases hh
 cases hh
 rename_i e _ τ xs cc l ht hx hl hhi
 split at hh
 rename_i d s hs
 split at hh
 rename_i hsz
 obtain ⟨ht, _⟩ := typ_und ht
 obtain ⟨h1, inf, h2, rfl⟩ := typ_und hs
 simp only [Option.some.injEq] at hh
 subst hh
 rintro ⟨h0, h3⟩
 obtain rfl := optNone c hl
 obtain ⟨y, k, rfl, hy⟩ := optSome c hhi
 obtain ⟨A, hv, hr⟩ := (c.ev x _ hx).rowc_inv
 obtain ⟨A', c', hv', hc, hmax, hel⟩ := hr.row_inv
 rw [hv] at hv'
 injection hv' with e1 e2 e3
 subst e1 e3
 obtain ⟨m, rfl⟩ : ∃ m : Nat, l = (m : Int) := ⟨l.toNat, by omega⟩
 have hb := sliceBounds_run (P := P) (w := w) (b := true) (len := xs.length) (cap := cc) (lo := none) (hi := some (.int k (m : Int))) (mx := none) (l := 0) (h := (m : Int)) (m := (cc : Int)) (.inl ⟨rfl, rfl⟩) (.inr ⟨k, rfl⟩) (.inl ⟨rfl, rfl⟩) (by decide) h0 (by omega) (Int.le_refl _)
 simp only [Int.toNat_natCast, Int.toNat_zero] at hb ⊢
 have hlen : (xs.take m).length = m := by rw [List.length_take]; omega
 have hA : (if cc = 0 then A else A.map (·.add 0)) = A := by
  split
  rfl
  cases A <;> simp [Addr.add]
 refine ⟨.slice A (xs.take m).length cc, by simp [execOp, ho, Instr.sliceAt, Instr.slice, run_underlying ht, hv, hy, hb, sizeOf_run h2, hsz, hlen]; intro _; cases A <;> simp [Addr.add], .rowc _ _ _ _ ?_⟩
 refine .row_mk (by rw [hlen]; omega) (by omega) (fun i z hz => ?_)
 have := (List.getElem?_eq_some_iff.1 hz).1
 rw [hlen] at this
 rw [List.getElem?_take, if_pos this] at hz
 exact hel _ _ hz
 cases hh
 cases hh
 rename_i e _ b l ht hx hl hhi
 split at hh
 rename_i d s e0 τ xs hs hb0
 split at hh
 rename_i hsz
 obtain ⟨ht, _⟩ := typ_und ht
 obtain ⟨h1, inf, h2, rfl⟩ := typ_und hs
 simp only [Option.some.injEq] at hh
 subst hh
 rintro ⟨h0, h3⟩
 obtain rfl := optNone c hhi
 obtain ⟨y, k, rfl, hy⟩ := optSome c hl
 obtain ⟨u, hu, cs, hown, hel⟩ := c.box b _ hb0
 have hv := (c.ev x _ hx).own_inv hu
 obtain ⟨m, rfl⟩ : ∃ m : Nat, l = (m : Int) := ⟨l.toNat, by omega⟩
 rcases hown.2 with ⟨_, hz⟩ | ⟨g, cap, cur, rfl, _, _, hle, _⟩
 omega
 have hb := sliceBounds_run (P := P) (w := w) (b := true) (len := xs.length) (cap := cap) (lo := some (.int k (m : Int))) (hi := none) (mx := none) (l := (m : Int)) (h := (xs.length : Int)) (m := (cap : Int)) (.inr ⟨k, rfl⟩) (.inl ⟨rfl, rfl, rfl⟩) (.inl ⟨rfl, rfl⟩) h0 (by omega) (by omega) (Int.le_refl _)
 simp only [Int.toNat_natCast] at hb ⊢
 refine ⟨.slice (some ⟨g, m * sz τ, none⟩) (xs.length - m) (cap - m), ?_, .ot _ _ _ _ (fun u2 hu2 => ?_)⟩
 simp [execOp, ho, Instr.sliceAt, Instr.slice, run_underlying ht, hv, hy, hb, sizeOf_run h2, hsz, lit_add]
 omega
 rw [hu] at hu2
 injection hu2 with hu2
 exact ⟨g, _, cap, hu2.symm, by omega, rfl⟩
 cases hh
 cases hh
 cases hh
def isNilC : AV → Bool
 | .lit (.slice none 0 0) => true
 | _ => false
def rdMore (P : Program) (o : Oper) (ρ : Operand → Option AV) (bx : Bx) : Rd :=
 match o.op with
 | .binOp .eql t x y _ => match typ P t, ρ x, ρ y with
  | some (.slice _, _), some (.rown _ xs b), some z => if isNilC z = true then some (True, .lit (.bool b)) else none
  | _, _, _ => none
 | .binOp .neq t x y _ => match typ P t, ρ x, ρ y with
  | some (.slice _, _), some (.rown _ xs b), some z => if isNilC z = true then some (True, .lit (.bool !b)) else none
  | _, _, _ => none
 | .slice t x lo hi none => rdSliceC P ρ bx t x lo hi
 | .call ⟨.builtin .len, ⟨[x]⟩, ⟨[t]⟩⟩ => match P.underlying t, ρ x with
  | some (.slice _), some (.rowc _ xs _) => some (True, .lit (.int .i64 xs.length))
  | some (.slice _), some (.own b) => match bx b with
   | some (.full _ _ xs) => some (True, .lit (.int .i64 xs.length))
   | _ => none
  | _, _ => none
 | .call ⟨.builtin .cap, ⟨[x]⟩, ⟨[t]⟩⟩ => match P.underlying t, ρ x with
  | some (.slice _), some (.rowc _ _ c) => some (True, .lit (.int .i64 c))
  | _, _ => none
 | _ => none
theorem rdMore_ok (c : Ctx w fz η ev ρ bx) (h : rdMore P o ρ bx = some E) : Yields P w fz η ev o E := by
 unfold rdMore at h
 split at h
 rename_i t x y t' ho
 split at h
 rename_i e _ τ xs b z ht hx hy
 split at h
 rename_i hz
 obtain ⟨ht, _⟩ := typ_und ht
 simp only [Option.some.injEq] at h
 subst h
 intro _
 have hz' : z = .lit (.slice none 0 0) := by
  unfold isNilC at hz
  split at hz
  rfl
  cases hz
 subst hz'
 obtain ⟨A, cc, hv, hb, _⟩ := (c.ev x _ hx).rown_inv
 have hv2 := (c.ev y _ hy).lit_inv
 refine ⟨.bool b, ?_, .lit _⟩
 subst hb
 have hq := run_equal_slice_nil (P := P) w t e A xs.length cc ht
 cases A <;> simp [execOp, ho, hv, hv2, eqGuard, Go.binOp, hq]
 cases h
 cases h
 rename_i t x y t' ho
 split at h
 rename_i e _ τ xs b z ht hx hy
 split at h
 rename_i hz
 obtain ⟨ht, _⟩ := typ_und ht
 simp only [Option.some.injEq] at h
 subst h
 intro _
 have hz' : z = .lit (.slice none 0 0) := by
  unfold isNilC at hz
  split at hz
  rfl
  cases hz
 subst hz'
 obtain ⟨A, cc, hv, hb, _⟩ := (c.ev x _ hx).rown_inv
 have hv2 := (c.ev y _ hy).lit_inv
 refine ⟨.bool !b, ?_, .lit _⟩
 subst hb
 have hq := run_equal_slice_nil (P := P) w t e A xs.length cc ht
 cases A <;> simp [execOp, ho, hv, hv2, eqGuard, Go.binOp, hq]
 cases h
 cases h
 rename_i t x lo hi ho
 exact rdSliceC_ok c ho h
 rename_i x t ho
 split at h
 rename_i e τ xs cc ht hx
 simp only [Option.some.injEq] at h
 subst h
 intro _
 obtain ⟨A, hv, _⟩ := (c.ev x _ hx).rowc_inv
 exact ⟨_, by simp [execOp, ho, resolve, invoke, builtin, Builtin.len_, run_underlying ht, hv, goInt], .lit _⟩
 rename_i e b ht hx
 split at h
 rename_i e2 τ xs hb
 simp only [Option.some.injEq] at h
 subst h
 intro _
 obtain ⟨u, hu, ⟨cs, ho2, _⟩, _⟩ := c.box b _ hb
 have hv := (c.ev x _ hx).own_inv hu
 rcases ho2.2 with ⟨rfl, h0⟩ | ⟨g, cap, cur, rfl, _⟩
 exact ⟨.int .i64 xs.length, by rw [h0]; simp [execOp, ho, resolve, invoke, builtin, Builtin.len_, run_underlying ht, hv, goInt], .lit _⟩
 exact ⟨_, by simp [execOp, ho, resolve, invoke, builtin, Builtin.len_, run_underlying ht, hv, goInt], .lit _⟩
 cases h
 cases h
 rename_i x t ho
 split at h
 rename_i e τ xs cc ht hx
 simp only [Option.some.injEq] at h
 subst h
 intro _
 obtain ⟨A, hv, _⟩ := (c.ev x _ hx).rowc_inv
 exact ⟨_, by simp [execOp, ho, resolve, invoke, builtin, Builtin.cap_, run_underlying ht, hv, goInt], .lit _⟩
 cases h
 cases h
end
section
variable {P : Program} {w w' w0 : World} {ow : Own} {η η' : Nat → Option Value} {N key b g : Nat} {tm tmr : Nat → Option AV} {bx bxr : Bx} {a : Act} {u v : Value} {B : Box} {x : AV} {tt : TypeId → Option Ty}
theorem grow_core (s : Sim N w0 ow η tm bx a w) (hf : Fresh key tm bx) {o : Oper} {e : TypeId} {τ : Ty} (zs : List (El τ)) (cells : List Value) (hcl : cells.length = zs.length * sz τ) (cap : Nat) (hc1 : zs.length ≤ cap) (hc2 : cap ≤ maxLen) (rest : Array Value) (hrest : rest.size = (cap - zs.length) * sz τ)
  (hel : ∀ i x j y, zs[i]? = some x → (enc τ x)[j]? = some y → ∃ v, cells[i * sz τ + j]? = some v ∧ R w (Fz (Amb w0 ow) η) η v y)
  (hrun : (execOp a.eval o).run P w = .ok (.value (.slice (some ⟨w.heap.size, 0, none⟩) zs.length cap)) (w.drew.alloc (.cells (cells.toArray ++ rest) e))) :
  ∃ n v w' η', (execOp a.eval o).run P w = .ok n w' ∧ (n = .value v ∨ (n = .skip ∧ v = undef)) ∧ (∀ x, some (AV.own key) = some x → R w' (Fz (Amb w0 ow) η') η' v x) ∧ Sim N w0 ow η' tm (updB bx [] [(key, .sl e τ zs)]) a w' := by
 have hgb : w.grownBy (w.drew.alloc (.cells (cells.toArray ++ rest) e)) none := ⟨rfl, rfl, rfl, by simp, fun k hk _ => _root_.Go.heap_alloc_old (w := w.drew) (o := _) (h := hk)⟩
 obtain ⟨tr, hs⟩ := s.grow (w' := w.drew.alloc (.cells (cells.toArray ++ rest) e)) (B := .sl e τ zs) (v := .slice (some ⟨w.heap.size, 0, none⟩) zs.length cap) (del := []) (row := none) hf hgb (.inl rfl) (fun k hk => by
  simp only [blk, Option.some.injEq] at hk
  subst hk
  exact ⟨by simp, .inl (Nat.le_refl _)⟩)
 refine ⟨_, _, _, _, hrun, .inl rfl, (fun x hx => by simp at hx; subst hx; exact own_R (by simp [setη])), hs ⟨cells, ⟨hcl, .inr ⟨w.heap.size, cap, _, rfl, Nat.zero_le _, heap_alloc_new w.drew _, hc1, hc2, ?_, ?_⟩⟩, fun i x j y hx hy => ?_⟩⟩
 ·simp only [Array.size_append, List.size_toArray, hcl, hrest, ← Nat.add_mul]
  congr 1; omega
 ·simp only [Array.toList_append]
  rw [← hcl]; exact List.take_left
 ·obtain ⟨vv, h1, h2⟩ := hel i x j y hx hy
  exact ⟨vv, h1, tr.R h2 (fun hh => by rw [enc_ment' hy] at hh; cases hh)⟩
theorem rowc_cells (s : Sim N w0 ow η tm bx a w) {τ : Ty} {xs : List (El τ)} {c : Nat} (hr : R w (Fz (Amb w0 ow) η) η v (.rowc τ xs c)) :
  ∃ A, ∃ olds : List Value, v = .slice A xs.length c ∧ olds.length = xs.length * sz τ ∧ (∀ (size : Nat), size = sz τ → (Builtin.firstCells size xs.length (.slice A xs.length c)).run P w.drew = .ok olds.toArray w.drew) ∧
   ∀ i y (j : Nat) z, xs[i]? = some y → (enc τ y)[j]? = some z → ∃ u, olds[i * sz τ + j]? = some u ∧ R w (Fz (Amb w0 ow) η) η u z := by
 obtain ⟨A, rfl, hr⟩ := hr.rowc_inv
 obtain ⟨A', c', hv, hm, hA, hnews⟩ := src_cells s (x := .row τ xs) rfl hr
 injection hv with e1 e2 e3
 subst e1 e3
 cases A with
 | none =>
  have hx := hA rfl
  subst hx
  exact ⟨none, [], rfl, by simp, fun size _ => run_firstCells_none w.drew size 0 _ _, fun i y j z hy => by simp at hy⟩
 | some ad =>
  obtain ⟨news, n1, n2, n3, n4⟩ := hnews ad rfl
  exact ⟨some ad, news, rfl, n1, fun size h => by subst h; exact run_firstCells_some w.drew _ _ ad _ _ news n1 (fun j v hj => n2 j v hj), n4⟩
def wrAppendC (P : Program) (key : Nat) (tm : Nat → Option AV) (bx : Bx) (t t' : TypeId) (s x : Operand) : Option Wr :=
  match P.underlying t with
  | some (.slice e) => match P.info? e, zeroA P e, evalA tm s, evalA tm x with
    | some ie, some z, some (.rowc τ xs c), some y => match srcOf bx y with
      | some ⟨τ', ys⟩ => if t = t' ∧ ie.size = sz τ ∧ z.length = sz τ then match cat τ τ' xs ys with
          | some zs => some ⟨c < xs.length + ys.length ∧ ((xs.length + ys.length) * ie.bytes : Nat) ≤ 140737488355328 ∧ xs.length + ys.length ≤ 140737488355328, some (.own key), [], [(key, .sl e τ zs)], true⟩
          | none => none
        else none
      | none => none
    | _, _, _, _ => none
  | _ => none
theorem wrAppendC_ok (s : Sim N w0 ow η tm bx a w) (sr : Sim N w0 ow η tmr bxr a w) (hf : Fresh key tm bx) {o : Oper} {t t' : TypeId} {x0 x1 : Operand} {E : Wr} (ho : o.op = .call { callee := .builtin .append, args := #[x0, x1], argTypes := #[t, t'] })
  (h : wrAppendC P key tmr bxr t t' x0 x1 = some E) : Does P N w0 ow tm bx a w o E := by
 unfold wrAppendC at h
 have exec : ∀ v w', (Builtin.append_ #[t, t'] o.type #[a.eval x0, a.eval x1]).run P w = .ok v w' → (execOp a.eval o).run P w = .ok (.value v) w' := fun v w' hr => by
  simp [execOp, ho, resolve, invoke, builtin, hr]
 split at h
 ·rename_i e ht
  split at h
  ·rename_i ie z τ xs c y hie hz hs0 hs1
   obtain ⟨zv, hzv, rfl⟩ := zeroA_inv hz hie
   split at h
   ·rename_i τ' ys hsrc
    split at h
    ·rename_i hc
     obtain ⟨rfl, hs2, hs3⟩ := hc
     split at h
     ·rename_i zs hzs
      obtain ⟨rfl, hzs⟩ := cat_ok hzs
      simp only at hzs
      subst hzs
      simp only [Option.some.injEq] at h
      subst h
      rintro ⟨hg, hB, hL⟩
      obtain ⟨A0, olds, hv0, o1, o2, o3⟩ := rowc_cells (P := P) sr (sr.ev hs0)
      obtain ⟨A, c', hv1, hm, hA, hnews⟩ := src_cells sr hsrc (sr.ev hs1)
      have hz2 : zv.cells.size = sz τ' := by simpa using hs3
      obtain ⟨news, n1, hsr, n4⟩ : ∃ news : List Value, news.length = ys.length * sz τ' ∧ Src P ie.size t (.slice A ys.length c') ys.length news w ∧ ∀ i y (j : Nat) z, ys[i]? = some y → (enc τ' y)[j]? = some z → ∃ u, news[i * sz τ' + j]? = some u ∧ R w (Fz (Amb w0 ow) η) η u z := by
       cases A with
       | none =>
        have hy := hA rfl
        subst hy
        exact ⟨[], by simp, Src.ofNil w ht _, fun i y j z hy => by simp at hy⟩
       | some ad =>
        obtain ⟨news, n1, n2, n3, n4⟩ := hnews ad rfl
        exact ⟨news, n1, Src.ofSlice w ht ad _ _ news (by rw [hs2]; exact n1) n2 n3, n4⟩
      have hrun := run_append_grow_src (P := P) w t t o.type e ie zv ht hie hzv A0 xs.length c olds (o2 _ hs2) (.slice A ys.length c') ys.length news hsr hg (by omega) (growslice_fits hg hB)
      refine grow_core s hf (xs ++ ys) (olds ++ news) (by rw [List.length_append, o1, n1, List.length_append, Nat.add_mul]) (grownCap w (xs.length + ys.length) c e) (by rw [List.length_append]; exact grownCap_ge w _ _ _) (grownCap_le_maxLen w _ _ _ (by unfold maxLen; omega)) _ (by rw [size_zeroCells, hz2, List.length_append]) (fun i x j y hx hy => ?_) (exec _ _ (by rw [hv0, hv1, List.length_append]; exact hrun))
      have hj : j < sz τ' := by have := (List.getElem?_eq_some_iff.1 hy).1; rwa [enc_len] at this
      by_cases hi : i < xs.length
      ·rw [List.getElem?_append_left hi] at hx
       obtain ⟨vv, h1, h2⟩ := o3 i x j y hx hy
       have : (i + 1) * sz τ' ≤ xs.length * sz τ' := Nat.mul_le_mul_right _ hi
       rw [Nat.add_mul] at this
       exact ⟨vv, by rw [List.getElem?_append_left (by rw [o1]; omega)]; exact h1, h2⟩
      ·rw [List.getElem?_append_right (by omega)] at hx
       obtain ⟨vv, h1, h2⟩ := n4 _ x j y hx hy
       have e4 : i * sz τ' + j = olds.length + ((i - xs.length) * sz τ' + j) := by
        rw [o1, ← Nat.add_assoc, ← Nat.add_mul, show xs.length + (i - xs.length) = i by omega]
       exact ⟨vv, by rw [e4, List.getElem?_append_right (by omega), Nat.add_sub_cancel_left]; exact h1, h2⟩
     ·cases h
    ·cases h
   ·cases h
  ·cases h
 ·cases h
def wrZerosC (P : Program) (tt : TypeId → Option Ty) (key : Nat) (tm : Nat → Option AV) (t ti : TypeId) (s x : Operand) : Option Wr :=
  match P.underlying t, P.underlying ti, evalA tm x with
  | some (.slice e), some (.int _), some (.lit (.int _ n)) => match P.info? e, zeroA P e, tt e, evalA tm s with
    | some ie, some z, some τ, some (.rowc τ0 xs c) => match dec τ z with
      | some x0 => if ie.size = sz τ0 ∧ z.length = sz τ ∧ sz τ = sz τ0 then match cat τ0 τ xs (List.replicate n.toNat x0) with
          | some zs => some ⟨0 < n ∧ c < xs.length + n.toNat ∧ ((xs.length + n.toNat) * ie.bytes : Nat) ≤ 140737488355328 ∧ xs.length + n.toNat ≤ 140737488355328, some (.own key), [], [(key, .sl e τ0 zs)], true⟩
          | none => none
        else none
      | none => none
    | _, _, _, _ => none
  | _, _, _ => none
theorem wrZerosC_ok (s : Sim N w0 ow η tm bx a w) (sr : Sim N w0 ow η tmr bxr a w) (hf : Fresh key tm bx) {o : Oper} {t ti : TypeId} {x0 x1 : Operand} {E : Wr} (ho : o.op = .call { callee := .builtin .append, args := #[x0, x1], argTypes := #[t, ti] })
  (h : wrZerosC P tt key tmr t ti x0 x1 = some E) : Does P N w0 ow tm bx a w o E := by
 unfold wrZerosC at h
 have exec : ∀ v w', (Builtin.append_ #[t, ti] o.type #[a.eval x0, a.eval x1]).run P w = .ok v w' → (execOp a.eval o).run P w = .ok (.value v) w' := fun v w' hr => by
  simp [execOp, ho, resolve, invoke, builtin, hr]
 split at h
 ·rename_i e ki kx n ht hti hx
  have hvx := (sr.ev hx).lit_inv
  split at h
  ·rename_i ie z τ τ0 xs c hie hz hτ hs0
   obtain ⟨zv, hzv, rfl⟩ := zeroA_inv hz hie
   split at h
   ·rename_i x00 hdec
    split at h
    ·rename_i hc
     obtain ⟨hs2, hs3, hs4⟩ := hc
     split at h
     ·rename_i zs hzs
      obtain ⟨rfl, hzs⟩ := cat_ok hzs
      simp only at hzs
      subst hzs
      simp only [Option.some.injEq] at h
      subst h
      rintro ⟨hn0, hg, hB, hL⟩
      obtain ⟨A0, olds, hv0, o1, o2, o3⟩ := rowc_cells (P := P) sr (sr.ev hs0)
      have hz2 : zv.cells.size = sz τ := by simpa using hs3
      have hkb : n.toNat * ie.bytes ≤ (xs.length + n.toNat) * ie.bytes := Nat.mul_le_mul_right _ (by omega)
      have hrun := Lib.run_append_grow_zeros (P := P) w t ti o.type e ie zv kx ki ht hti hie hzv A0 xs.length c olds (o2 _ hs2) n.toNat (by omega) (by rw [hs2]; exact sz_pos _) hg (by omega) (by omega) (growslice_fits hg hB)
      rw [Int.toNat_of_nonneg (by omega)] at hrun
      have hd := dec_ok hdec (RL_toList (RL_lits (w := w) (fz := Fz (Amb w0 ow) η) (η := η) zv.cells))
      have hrl : (xs ++ List.replicate n.toNat x00).length = xs.length + n.toNat := by rw [List.length_append, List.length_replicate]
      refine grow_core s hf (xs ++ List.replicate n.toNat x00) (olds ++ (Builtin.zeroCells zv.cells n.toNat).toList) (by rw [List.length_append, o1, show (Builtin.zeroCells zv.cells n.toNat).toList.length = n.toNat * sz τ from by rw [Array.length_toList, size_zeroCells, hz2], hrl, Nat.add_mul]) (grownCap w (xs.length + n.toNat) c e) (by rw [hrl]; exact grownCap_ge w _ _ _) (grownCap_le_maxLen w _ _ _ (by unfold maxLen; omega)) _ (by rw [size_zeroCells, hz2, hrl]) (fun i x j y hx hy => ?_) (exec _ _ (by
       rw [hv0, hvx, hrl]
       have e1 : (olds ++ (Builtin.zeroCells zv.cells n.toNat).toList).toArray = olds.toArray ++ Builtin.zeroCells zv.cells n.toNat := by apply Array.ext'; simp
       rw [e1]; exact hrun))
      have hj : j < sz τ := by have := (List.getElem?_eq_some_iff.1 hy).1; rwa [enc_len] at this
      by_cases hi : i < xs.length
      ·rw [List.getElem?_append_left hi] at hx
       obtain ⟨vv, h1, h2⟩ := o3 i x j y hx hy
       have : (i + 1) * sz τ ≤ xs.length * sz τ := Nat.mul_le_mul_right _ hi
       rw [Nat.add_mul] at this
       exact ⟨vv, by rw [List.getElem?_append_left (by rw [o1]; omega)]; exact h1, h2⟩
      ·rw [List.getElem?_append_right (by omega)] at hx
       have hi2 : i - xs.length < n.toNat := by have := (List.getElem?_eq_some_iff.1 hx).1; simpa using this
       rw [List.getElem?_replicate, if_pos hi2] at hx
       simp only [Option.some.injEq] at hx
       subst hx
       have hjc : j < zv.cells.size := by omega
       refine ⟨zv.cells[j], ?_, hd.2 j _ y (by rw [Array.getElem?_toList]; exact Array.getElem?_eq_getElem hjc) hy⟩
       have hge : xs.length * sz τ ≤ i * sz τ := Nat.mul_le_mul_right _ (by omega)
       rw [List.getElem?_append_right (by rw [o1]; omega), o1, zeroCells_eq hz2, show i * sz τ + j - xs.length * sz τ = (i - xs.length) * sz τ + j by rw [Nat.sub_mul]; omega, madeCells_at hz2 hi2 hj]
       exact Array.getElem?_eq_getElem hjc
     ·cases h
    ·cases h
   ·cases h
  ·cases h
 ·cases h
theorem copy_core (s : Sim N w0 ow η tm bx a w) {o : Oper} {t t' e e0 : TypeId} {ie : TypeInfo} {τ : Ty} {xs zs : List (El τ)} {g cap c lo n : Nat} {ad : Addr} {news : List Value} {v0 v1 : Value} {cs : List Value} (ht : P.underlying t = some (.slice e)) (hie : P.info? e = some ie) (hsz : ie.size = sz τ)
  (hu : η b = some (.slice (some ⟨g, 0, none⟩) xs.length cap)) (hown : w.ownsRow 0 e0 (sz τ) (.slice (some ⟨g, 0, none⟩) xs.length cap) xs.length cs) (hel : ∀ i x j y, xs[i]? = some x → (enc τ x)[j]? = some y → ∃ v, cs[i * sz τ + j]? = some v ∧ R w (Fz (Amb w0 ow) η) η v y)
  (hlo : lo ≤ xs.length) (hn : n = min zs.length (xs.length - lo)) (hv0 : v0 = .slice (some ⟨g, lo * sz τ, none⟩) (xs.length - lo) c) (hv1 : ∃ cc, v1 = .slice (some ad) zs.length cc) (n1 : news.length = zs.length * sz τ) (n2 : ∀ (j : Nat) u, news[j]? = some u → w.cell? (ad.add j) = some u) (n3 : ∀ u ∈ news, u.oneCell' = true)
  (n4 : ∀ i y (j : Nat) z, zs[i]? = some y → (enc τ y)[j]? = some z → ∃ u, news[i * sz τ + j]? = some u ∧ R w (Fz (Amb w0 ow) η) η u z) :
  ∃ cur', (Builtin.copy_ #[t, t'] o.type #[v0, v1]).run P w = .ok (.int .i64 n) (w.setRow g cur') ∧ ∃ cs', (w.setRow g cur').ownsRow 0 e0 (sz τ) (.slice (some ⟨g, 0, none⟩) xs.length cap) (xs.take lo ++ (zs.take (xs.length - lo) ++ xs.drop (lo + zs.length))).length cs' ∧
   ∀ i x j y, (xs.take lo ++ (zs.take (xs.length - lo) ++ xs.drop (lo + zs.length)))[i]? = some x → (enc τ x)[j]? = some y → ∃ v, cs'[i * sz τ + j]? = some v ∧ R (w.setRow g cur') (Fz (Amb w0 ow) η) η v y := by
 obtain ⟨cc, rfl⟩ := hv1
 subst hv0
 rcases hown.2 with ⟨hcon, _⟩ | ⟨g', cap', cur, he, _, q1, q2, q3, q4, q5⟩
 ·cases hcon
 injection he with he1 he2 he3
 injection he1 with he1; injection he1 with he1
 subst he1 he3
 have hmin : Nat.min (xs.length - lo) zs.length = n := by rw [hn]; exact Nat.min_comm _ _
 have hmin2 : Nat.min zs.length (xs.length - lo) = n := hn.symm
 have hlen' : (xs.take lo ++ (zs.take (xs.length - lo) ++ xs.drop (lo + zs.length))).length = xs.length := by
  simp only [List.length_append, List.length_take, List.length_drop]; omega
 have hnz : n * sz τ ≤ zs.length * sz τ := Nat.mul_le_mul_right _ (by omega)
 have hlon : lo * sz τ + n * sz τ ≤ xs.length * sz τ := by rw [← Nat.add_mul]; exact Nat.mul_le_mul_right _ (by omega)
 have hxc : xs.length * sz τ ≤ cap * sz τ := Nat.mul_le_mul_right _ q2
 have hD : (news.take (n * sz τ)).length = n * sz τ := by simp; omega
 have hload := run_loadCells_list (P := P) w ad (news.take (n * sz τ)) (fun j v hv => by
  rw [List.getElem?_take] at hv
  split at hv
  ·exact n2 j v hv
  ·cases hv)
 rw [hD] at hload
 have hst := run_storeCells_at P g (lo * sz τ) e0 (news.take (n * sz τ)) 0 cur w q1 (by rw [hD]; omega) (fun v hv => n3 v (List.mem_of_mem_take hv))
 simp only [Nat.add_zero, Nat.zero_add, hD] at hst
 have tr := same_tr s hu rfl (cur.toList.take (lo * sz τ) ++ news.take (n * sz τ) ++ cur.toList.drop (lo * sz τ + n * sz τ)).toArray
 refine ⟨(cur.toList.take (lo * sz τ) ++ news.take (n * sz τ) ++ cur.toList.drop (lo * sz τ + n * sz τ)).toArray, ?_, cs.take (lo * sz τ) ++ news.take (n * sz τ) ++ cs.drop (lo * sz τ + n * sz τ), ?_, ?_⟩
 ·simp [Builtin.copy_, run_underlying ht, Builtin.lenOf, hmin, hmin2, sizeOf_run hie, hsz, Builtin.firstCells, hload, hst, goInt]
 ·rw [hlen']
  refine ⟨?_, .inr ⟨g, cap, _, rfl, Nat.zero_le _, setRow_heap w g cur _ e0 (0, 0) q1, q2, q3, ?_, ?_⟩⟩
  ·have := hown.1
   simp only [List.length_append, hD, List.length_take, List.length_drop]; omega
  ·simp; omega
  ·have := take_splice cur.toList (news.take (n * sz τ)) (lo * sz τ) (n * sz τ) (xs.length * sz τ) hD hlon (by rw [← q4] at hxc; rw [Array.length_toList]; exact hxc)
   rw [q5] at this
   simpa using this
 ·intro i x j y hx hy
  have hj : j < sz τ := by have := (List.getElem?_eq_some_iff.1 hy).1; rwa [enc_len] at this
  have htl : (xs.take lo).length = lo := by simp; omega
  have hzl : (zs.take (xs.length - lo)).length = n := by simp; omega
  have hc1 := hown.1
  have hctl : (cs.take (lo * sz τ)).length = lo * sz τ := by rw [List.length_take, hc1]; omega
  by_cases hi : i < lo
  ·rw [List.getElem?_append_left (by omega), List.getElem?_take, if_pos hi] at hx
   obtain ⟨vv, h1, h2⟩ := hel i x j y hx hy
   have : (i + 1) * sz τ ≤ lo * sz τ := Nat.mul_le_mul_right _ hi
   rw [Nat.add_mul] at this
   exact ⟨vv, by rw [List.append_assoc, List.getElem?_append_left (by omega), List.getElem?_take, if_pos (by omega)]; exact h1, tr.R h2 (fun _ _ h => h)⟩
  ·have hge : lo * sz τ ≤ i * sz τ := Nat.mul_le_mul_right _ (by omega)
   have hsub : i * sz τ + j - lo * sz τ = (i - lo) * sz τ + j := by rw [Nat.sub_mul]; omega
   rw [List.getElem?_append_right (by omega), htl] at hx
   by_cases hi2 : i - lo < n
   ·rw [List.getElem?_append_left (by omega), List.getElem?_take, if_pos (by omega)] at hx
    obtain ⟨vv, h1, h2⟩ := n4 (i - lo) x j y hx hy
    have : (i - lo + 1) * sz τ ≤ n * sz τ := Nat.mul_le_mul_right _ hi2
    rw [Nat.add_mul] at this
    exact ⟨vv, by rw [List.append_assoc, List.getElem?_append_right (by omega), hctl, hsub, List.getElem?_append_left (by omega), List.getElem?_take, if_pos (by omega)]; exact h1, tr.R h2 (fun _ _ h => h)⟩
   ·rw [List.getElem?_append_right (by omega), hzl, List.getElem?_drop] at hx
    have hlt := (List.getElem?_eq_some_iff.1 hx).1
    have hzn : zs.length = n := by omega
    rw [hzn, show lo + n + (i - lo - n) = i by omega] at hx
    obtain ⟨vv, h1, h2⟩ := hel i x j y hx hy
    have : n * sz τ ≤ (i - lo) * sz τ := Nat.mul_le_mul_right _ (by omega)
    exact ⟨vv, by rw [List.append_assoc, List.getElem?_append_right (by omega), hctl, hsub, List.getElem?_append_right (by omega), hD, List.getElem?_drop, show lo * sz τ + n * sz τ + ((i - lo) * sz τ + j - n * sz τ) = i * sz τ + j by omega]; exact h1, tr.R h2 (fun _ _ h => h)⟩
def wrCopyC (P : Program) (tm : Nat → Option AV) (bx : Bx) (t : TypeId) (d x : Operand) : Option Wr :=
  match P.underlying t with
  | some (.slice e) => match P.info? e, evalA tm d, evalA tm x with
    | some ie, some (.ot τ0 b lo), some y => match bx b, srcOf bx y with
      | some (.sl e0 τ xs), some ⟨τ', ys⟩ => if ie.size = sz τ ∧ sz τ0 = sz τ then match cat τ τ' [] ys with
          | some zs => some ⟨lo < xs.length ∧ 0 < zs.length, some (.lit (.int .i64 (min zs.length (xs.length - lo) : Nat))), [], [(b, .sl e0 τ (xs.take lo ++ (zs.take (xs.length - lo) ++ xs.drop (lo + zs.length))))], false⟩
          | none => none
        else none
      | _, _ => none
    | some ie, some (.own b), some y => match bx b, srcOf bx y with
      | some (.full e0 τ xs), some ⟨τ', ys⟩ => if ie.size = sz τ then match cat τ τ' [] ys with
          | some zs => some ⟨True, some (.lit (.int .i64 (min zs.length xs.length : Nat))), [], [(b, .full e0 τ (zs.take xs.length ++ xs.drop zs.length))], false⟩
          | none => none
        else none
      | _, _ => none
    | _, _, _ => none
  | _ => none
theorem wrCopyC_ok (s : Sim N w0 ow η tm bx a w) (sr : Sim N w0 ow η tmr bxr a w) {o : Oper} {t t' : TypeId} {x0 x1 : Operand} {E : Wr} (ho : o.op = .call { callee := .builtin .copy, args := #[x0, x1], argTypes := #[t, t'] })
  (h : wrCopyC P tmr bxr t x0 x1 = some E) : Does P N w0 ow tm bx a w o E := by
 unfold wrCopyC at h
 have exec : ∀ v w', (Builtin.copy_ #[t, t'] o.type #[a.eval x0, a.eval x1]).run P w = .ok v w' → (execOp a.eval o).run P w = .ok (.value v) w' := fun v w' hr => by
  simp [execOp, ho, resolve, invoke, builtin, hr]
 split at h
 ·rename_i e ht
  split at h
  ·rename_i ie τ0 b lo y hie hs0 hs1
   split at h
   ·rename_i e0 τ xs τ' ys hb hsrc
    split at h
    ·rename_i hsz
     obtain ⟨hsz, hsz0⟩ := hsz
     split at h
     ·rename_i zs hzs
      obtain ⟨rfl, hzs⟩ := cat_ok hzs
      simp only [List.nil_append] at hzs
      subst hzs
      simp only [Option.some.injEq] at h
      subst h
      rintro ⟨hlo, hpos⟩
      obtain ⟨u, hu, cs, hown, hel⟩ := sr.dom b _ hb
      obtain ⟨g, m, cap, rfl, hlm, hv0⟩ := (sr.ev hs0).ot_inv hu
      obtain ⟨A, c, hv1, hm, hA, hnews⟩ := src_cells sr hsrc (sr.ev hs1)
      obtain ⟨ad, rfl⟩ : ∃ ad, A = some ad := by cases A with
       | none => have := hA rfl; subst this; simp at hpos
       | some ad => exact ⟨ad, rfl⟩
      obtain ⟨news, n1, n2, n3, n4⟩ := hnews ad rfl
      have hmx : m = xs.length := by
       rcases hown.2 with ⟨hc, _⟩ | ⟨g', cap', cur, he, _⟩
       ·cases hc
       ·injection he with _ h2 _
      subst hmx
      rw [hsz0] at hv0
      obtain ⟨cur', hrun, cs', ho', he'⟩ := copy_core (P := P) (b := b) s (o := o) (t' := t') (zs := zs) (lo := lo) (n := min zs.length (xs.length - lo)) ht hie hsz hu hown hel (Nat.le_of_lt hlo) rfl hv0 ⟨c, hv1⟩ n1 n2 n3 n4
      exact ⟨_, _, _, η, exec _ _ hrun, .inl rfl, (fun x hx => by simp only [Option.some.injEq] at hx; subst hx; exact .lit _), s.inplace hu rfl _ ⟨cs', by
       have : (xs.take lo ++ (zs.take (xs.length - lo) ++ xs.drop (lo + zs.length))).length = xs.length := by simp only [List.length_append, List.length_take, List.length_drop]; omega
       rw [this] at ho' ⊢; exact ho', he'⟩⟩
     ·cases h
    ·cases h
   ·cases h
  ·rename_i ie b y hie hs0 hs1
   split at h
   ·rename_i e0 τ xs τ' ys hb hsrc
    split at h
    ·rename_i hsz
     split at h
     ·rename_i zs hzs
      obtain ⟨rfl, hzs⟩ := cat_ok hzs
      simp only [List.nil_append] at hzs
      subst hzs
      simp only [Option.some.injEq] at h
      subst h
      intro _
      obtain ⟨u, hu, ⟨cs, hown, hel⟩, hcap⟩ := sr.dom b _ hb
      have hv0 := (sr.ev hs0).own_inv hu
      obtain ⟨A, c, hv1, hm, hA, hnews⟩ := src_cells sr hsrc (sr.ev hs1)
      have hl7 : (zs.take xs.length ++ xs.drop zs.length).length = xs.length := by simp only [List.length_append, List.length_take, List.length_drop]; omega
      by_cases hz : min zs.length xs.length = 0
      ·have hl : zs.take xs.length ++ xs.drop zs.length = xs := by
        by_cases h0 : xs.length = 0
        ·have : xs = [] := by cases xs; rfl; simp at h0
         subst this; simp
        ·have hz0 : zs.length = 0 := by omega
         have : zs = [] := List.eq_nil_of_length_eq_zero hz0
         subst this; simp
       rw [hz]
       refine ⟨.value (.int .i64 0), .int .i64 0, w, η, exec _ _ ?_, .inl rfl, (fun x hx => by simp only [Option.some.injEq] at hx; subst hx; exact .lit _), s.same hu (by rw [hl]; exact ⟨⟨cs, hown, hel⟩, hcap⟩)⟩
       rw [hv0, hv1]
       have hm1 : Nat.min zs.length xs.length = 0 := hz
       rcases hown.2 with ⟨rfl, h0⟩ | ⟨g, cap, cur, rfl, _⟩
       ·cases A <;> simp [Builtin.copy_, run_underlying ht, Builtin.lenOf, sizeOf_run hie, Builtin.firstCells, storeCells, goInt, loadCells, loadCellsFrom]
       ·cases A <;> simp [Builtin.copy_, run_underlying ht, Builtin.lenOf, sizeOf_run hie, Builtin.firstCells, storeCells, goInt, hm1, loadCells, loadCellsFrom]
      ·obtain ⟨ad, rfl⟩ : ∃ ad, A = some ad := by cases A with
        | none => have := hA rfl; subst this; simp at hz
        | some ad => exact ⟨ad, rfl⟩
       obtain ⟨news, n1, n2, n3, n4⟩ := hnews ad rfl
       rcases hown.2 with ⟨rfl, h0⟩ | ⟨g, cap, cur, rfl, _⟩
       ·omega
       obtain ⟨cur', hrun, cs', ho', he'⟩ := copy_core (P := P) (b := b) s (o := o) (t' := t') (zs := zs) (lo := 0) (n := min zs.length (xs.length - 0)) (c := cap) (v0 := a.eval x0) (v1 := a.eval x1) ht hie hsz hu hown hel (Nat.zero_le _) rfl (by rw [hv0]; simp) ⟨c, hv1⟩ n1 n2 n3 n4
       simp only [List.take_zero, List.nil_append, Nat.sub_zero, Nat.zero_add] at hrun ho' he'
       exact ⟨_, _, _, η, exec _ _ hrun, .inl rfl, (fun x hx => by simp only [Option.some.injEq] at hx; subst hx; exact .lit _), s.inplace hu rfl _ ⟨⟨cs', by rw [hl7] at ho' ⊢; exact ho', he'⟩, hcap⟩⟩
     ·cases h
    ·cases h
   ·cases h
  ·cases h
 ·cases h
def wrMakeFull (P : Program) (tt : TypeId → Option Ty) (key : Nat) (ρ : Operand → Option AV) (t : TypeId) (l c : Operand) : Option Wr :=
 match P.underlying t with
 | some (.slice e) => match P.info? e, zeroA P e, tt e, ρ l, ρ c with
  | some ie, some z, some τ, some (.lit (.int _ n)), some (.lit (.int _ m)) =>
   if ie.size = sz τ ∧ z.length = sz τ then match dec τ z with
    | some x0 => some ⟨n = m ∧ 0 ≤ n ∧ ie.bytes * n ≤ 281474976710656 ∧ n ≤ 9223372036854775807, some (.own key), [], [(key, .full e τ (List.replicate n.toNat x0))], true⟩
    | none => none
   else none
  | _, _, _, _, _ => none
 | _ => none
theorem wrMakeFull_ok (s : Sim N w0 ow η tm bx a w) (sr : Sim N w0 ow η tmr bxr a w) (hf : Fresh key tm bx) {o : Oper} {t : TypeId} {l c : Operand} {E : Wr} (ho : o.op = .makeSlice t l c) (h : wrMakeFull P tt key (evalA tmr) t l c = some E) : Does P N w0 ow tm bx a w o E := by
 unfold wrMakeFull at h
 split at h
 rename_i e ht
 split at h
 rename_i ie z τ kn n km m hie hz hτ hl hc
 split at h
 rename_i hsz
 obtain ⟨hs1, hs2⟩ := hsz
 obtain ⟨zv, hzv, rfl⟩ := zeroA_inv hz hie
 have hln := (sr.ev hl).lit_inv
 have hcm := (sr.ev hc).lit_inv
 split at h
 rename_i x0 hx0
 simp only [Option.some.injEq] at h
 subst h
 rintro ⟨rfl, h0, h1, h2⟩
 obtain ⟨w', hr, ho1, hg⟩ := run_make_full (P := P) w 0 t e ie zv (sz τ) ht hie hzv hs1 kn km n.toNat (bytes_le h0 h1) (by unfold maxLen; omega) (Nat.zero_le _)
 rw [Int.toNat_of_nonneg h0] at hr
 have hz2 : zv.cells.size = sz τ := by simpa using hs2
 obtain ⟨_, hs⟩ := s.grow (B := .full e τ (List.replicate n.toNat x0)) (v := .slice (some ⟨w.heap.size, 0, none⟩) n.toNat n.toNat) (del := []) hf hg (.inl rfl) (fun k hk => ⟨(ho1.lt k (by simp [blk] at hk; simp [Value.ownBlock, hk])).2, .inl (by simp [blk] at hk; omega)⟩)
 refine ⟨.value (.slice (some ⟨w.heap.size, 0, none⟩) n.toNat n.toNat), .slice (some ⟨w.heap.size, 0, none⟩) n.toNat n.toNat, w', _, by simp [execOp, ho, hln, hcm, hr], .inl rfl, (fun x hx => by simp at hx; subst hx; exact own_R (by simp [setη])), hs ⟨⟨_, by rw [List.length_replicate]; exact ho1, fun i x j y hx hy => ?_⟩, fun A m c h => by injection h with _ h2 h3; omega⟩⟩
 have hi : i < n.toNat := by have := (List.getElem?_eq_some_iff.1 hx).1; simpa using this
 have hj : j < sz τ := by have := (List.getElem?_eq_some_iff.1 hy).1; rwa [enc_len] at this
 rw [List.getElem?_replicate, if_pos hi] at hx
 simp only [Option.some.injEq] at hx
 subst hx
 rw [madeCells_at hz2 hi hj]
 have hd := fun fz η => dec_ok hx0 (RL_toList (RL_lits (w := w') (fz := fz) (η := η) zv.cells))
 have hjc : j < zv.cells.size := by omega
 exact ⟨zv.cells[j], Array.getElem?_eq_getElem hjc, (hd _ _).2 j _ y (by rw [Array.getElem?_toList]; exact Array.getElem?_eq_getElem hjc) hy⟩
 cases h
 cases h
 cases h
 cases h
def wrMore (P : Program) (tt : TypeId → Option Ty) (key : Nat) (fl : Option Bool) (o : Oper) (tm : Nat → Option AV) (bx : Bx) : Option Wr :=
 match o.op with
 | .makeSlice t l c => match fl with
  | some true => wrMakeFull P tt key (evalA tm) t l c
  | _ => none
 | .call ⟨.builtin .append, ⟨[s, x]⟩, ⟨[t, t']⟩⟩ => match wrAppendC P key tm bx t t' s x with
  | some E => some E
  | none => wrZerosC P tt key tm t t' s x
 | .call ⟨.builtin .copy, ⟨[s, x]⟩, ⟨[t, _]⟩⟩ => wrCopyC P tm bx t s x
 | _ => none
theorem wrMore_ok (s : Sim N w0 ow η tm bx a w) (sr : Sim N w0 ow η tmr bxr a w) (hf : Fresh key tm bx) {o : Oper} {fl : Option Bool} {E : Wr} (h : wrMore P tt key fl o tmr bxr = some E) : Does P N w0 ow tm bx a w o E := by
 unfold wrMore at h
 split at h
 rename_i t l c ho
 split at h
 exact wrMakeFull_ok s sr hf ho h
 cases h
 rename_i x0 x1 t t' ho
 split at h
 rename_i E' hE
 simp only [Option.some.injEq] at h
 subst h
 exact wrAppendC_ok s sr hf ho hE
 exact wrZerosC_ok s sr hf ho h
 rename_i x0 x1 t t' ho
 exact wrCopyC_ok s sr ho h
 cases h
def wrOp2 (P : Program) (tt : TypeId → Option Ty) (key : Nat) (fl : Option Bool) (o : Oper) (tm : Nat → Option AV) (bx : Bx) : Option Wr :=
 match wrMore P tt key fl o tm bx with
 | some E => some E
 | none => wrOp P tt key o tm bx
theorem wrOp2_ok (s : Sim N w0 ow η tm bx a w) (sr : Sim N w0 ow η tmr bxr a w) (hm0 : ∀ x y, evalA tmr x = some y → ment key y = false) (hf : Fresh key tm bx) {o : Oper} {fl : Option Bool} {E : Wr} (h : wrOp2 P tt key fl o tmr bxr = some E) : Does P N w0 ow tm bx a w o E := by
 unfold wrOp2 at h
 split at h
 rename_i E' hE
 simp only [Option.some.injEq] at h
 subst h
 exact wrMore_ok s sr hf hE
 exact wrOp_ok s sr hm0 hf h
def nzB : Box → Box
 | .full e τ xs => .sl e τ xs
 | B => B
def nzx (bx : Bx) : Bx := fun b => (bx b).map nzB
theorem Ctx.nz {fz : Nat → Prop} {ev : Operand → Value} {ρ : Operand → Option AV} (c : Ctx w fz η ev ρ bx) : Ctx w fz η ev ρ (nzx bx) := by
 refine ⟨c.ev, fun b B hB => ?_⟩
 unfold nzx at hB
 rw [Option.map_eq_some_iff] at hB
 obtain ⟨B0, hB0, rfl⟩ := hB
 obtain ⟨u, hu, hr⟩ := c.box b B0 hB0
 refine ⟨u, hu, ?_⟩
 cases B0 with
 | full e τ xs => exact hr.1
 | _ => exact hr
def rdIf (P : Program) (o : Oper) (ρ : Operand → Option AV) : Rd :=
 match o.op with
 | .binOp .neq t x y _ => match typ P t, ρ x, ρ y with
  | some (.interface _, _), some (.lit (.iface _ _)), some (.lit .nilIface) => some (True, .lit (.bool true))
  | some (.interface _, _), some (.lit .nilIface), some (.lit .nilIface) => match y with
   | .const _ => some (True, .lit (.bool false))
   | _ => none
  | _, _, _ => none
 | .typeAssert x _ t true => match typ P t, ρ x with
  | some (.interface _, _), _ => none
  | some _, some (.lit (.iface d u)) => if d = t then some (True, .tup [.lit u, .lit (.bool true)]) else none
  | _, _ => none
 | _ => none
theorem run_equalIn_if {P : Program} {w : World} {t : TypeId} {m : Array (String × TypeId)} {a : TypeId} {u : Value} (d : Nat) (h : P.underlying t = some (.interface m)) : (Op.equalIn (d + 1) t (.iface a u) .nilIface).run P w = .ok false w := by simp [Op.equalIn, run_underlying h]
theorem run_equal_if {P : Program} {w : World} {t : TypeId} {m : Array (String × TypeId)} {a : TypeId} {u : Value} (h : P.underlying t = some (.interface m)) : (Op.equal t (.iface a u) .nilIface).run P w = .ok false w := run_equalIn_if 9999 h
theorem run_equalIn_nn {P : Program} {w : World} {t : TypeId} {m : Array (String × TypeId)} (d : Nat) (h : P.underlying t = some (.interface m)) : (Op.equalIn (d + 1) t .nilIface .nilIface).run P w = .ok true w := by simp [Op.equalIn, run_underlying h]
theorem run_equal_nn {P : Program} {w : World} {t : TypeId} {m : Array (String × TypeId)} (h : P.underlying t = some (.interface m)) : (Op.equal t .nilIface .nilIface).run P w = .ok true w := run_equalIn_nn 9999 h
theorem rdIf_ok {fz : Nat → Prop} {ev : Operand → Value} {ρ : Operand → Option AV} {o : Oper} {E : Prop × AV} (c : Ctx w fz η ev ρ bx) (h : rdIf P o ρ = some E) : Yields P w fz η ev o E := by
 unfold rdIf at h
 split at h
 ·rename_i t x y t' ho
  split at h
  ·rename_i m n d u ht hx hy
   obtain ⟨ht, _⟩ := typ_und ht
   simp only [Option.some.injEq] at h
   subst h
   intro _
   have hv := (c.ev x _ hx).lit_inv
   have hv2 := (c.ev y _ hy).lit_inv
   exact ⟨.bool true, by simp [execOp, ho, hv, hv2, eqGuard, Go.binOp, run_equal_if ht], .lit _⟩
  ·rename_i m n ht hx hy
   split at h
   ·rename_i k
    obtain ⟨ht, _⟩ := typ_und ht
    simp only [Option.some.injEq] at h
    subst h
    intro _
    have hv := (c.ev x _ hx).lit_inv
    have hv2 := (c.ev _ _ hy).lit_inv
    exact ⟨.bool false, by simp [execOp, ho, hv, hv2, eqGuard, Go.binOp, run_equal_nn ht], .lit _⟩
   ·cases h
  ·cases h
 ·rename_i x xT t ho
  split at h
  ·cases h
  ·rename_i p d u hne ht hx
   split at h
   ·rename_i hd
    subst hd
    obtain ⟨dd, n⟩ := p
    obtain ⟨hu, _⟩ := typ_und ht
    simp only [Option.some.injEq] at h
    subst h
    intro _
    have hv := (c.ev x _ hx).lit_inv
    refine ⟨.tuple #[u, .bool true], ?_, .tup _ _ rfl (fun j v a hv ha => ?_)⟩
    ·cases dd <;> first | (exact (hne _ _ rfl).elim) | (simp [execOp, ho, hv, Instr.typeAssert, run_underlying hu])
    ·match j with
     | 0 => simp at hv ha; subst hv ha; exact .lit _
     | 1 => simp at hv ha; subst hv ha; exact .lit _
     | j + 2 => simp at hv
   ·cases h
  ·cases h
 ·cases h
def rdOp2 (P : Program) (o : Oper) (ρ : Operand → Option AV) (bx : Bx) : Rd :=
 match rdMore P o ρ bx with
 | some p => some p
 | none => match rdOp P o ρ bx with
  | some p => some p
  | none => match rdOp P o ρ (nzx bx) with
   | some p => some p
   | none => rdIf P o ρ
theorem rdOp2_ok {fz : Nat → Prop} {ev : Operand → Value} {ρ : Operand → Option AV} {o : Oper} {E : Prop × AV} (c : Ctx w fz η ev ρ bx) (h : rdOp2 P o ρ bx = some E) : Yields P w fz η ev o E := by
 unfold rdOp2 at h
 split at h
 rename_i p hp
 simp only [Option.some.injEq] at h
 subst h
 exact rdMore_ok c hp
 split at h
 rename_i p hp
 simp only [Option.some.injEq] at h
 subst h
 exact rdOp_ok c hp
 split at h
 rename_i p hp
 simp only [Option.some.injEq] at h
 subst h
 exact rdOp_ok c.nz hp
 exact rdIf_ok c h
end
inductive COut where
 | val (a : AV)
 | own (e : TypeId) (τ : Ty) (xs : List (El τ))
 | thr (v : Value)
def noη : Nat → Option Value := fun _ => none
def Post (w : World) (fz : Nat → Prop) (w' : World) (e : Ending) : COut → Prop
 | .val r => ∃ v, e = .returned v ∧ R w' (fun k => fz k ∨ w.heap.size ≤ k) noη v r
 | .own t τ xs => ∃ v, e = .returned v ∧ (∀ k, blk v = some k → w.heap.size ≤ k ∧ k < w'.heap.size) ∧ BoxR w' (fun k => (fz k ∨ w.heap.size ≤ k) ∧ blk v ≠ some k) noη v (.sl t τ xs)
 | .thr v => e = .panicked [{ v, recovered := false }]
def Ent (P : Program) (f : FuncId) : Prop := ∀ args w, (callFunc f args).run P w = .ok (.enter f args) w
theorem ent_of {P : Program} {f : FuncId} {fn : Func} (hf : P.funcs[f]? = some fn) (hname : (fn.name == "runtime.NumGoroutine") = false) (hb : fn.body.isSome = true) : Ent P f := by
 intro args w
 have h1 : fn.name ≠ "runtime.NumGoroutine" := by simpa using hname
 obtain ⟨c, hc⟩ := Option.isSome_iff_exists.1 hb
 simp [callFunc, hf, h1, hc]
def Con (P : Program) (I : World → Prop) (f : FuncId) (args : List AV) (out : COut) : Prop :=
 ∀ (w : World) (fz : Nat → Prop) (vs : Array Value), I w → (∀ k, fz k → k < w.heap.size) → RL w fz noη vs args → Calls P f vs w fun e w' => Post w fz w' e out ∧ Below w.heap.size w w'
mutual
def keysA : AV → List Nat
 | .own b => [b]
 | .ptr b _ => [b]
 | .op _ b _ _ => [b]
 | .ot _ b _ => [b]
 | .agg l => keysL l
 | .tup l => keysL l
 | .clo _ l => keysL l
 | _ => []
def keysL : List AV → List Nat
 | [] => []
 | a :: l => keysA a ++ keysL l
end
mutual
theorem mem_keysA {b : Nat} : (a : AV) → ment b a = true → b ∈ keysA a
 | .own c, h => by simp [ment] at h; simp [keysA, h]
 | .ptr c _, h => by simp [ment] at h; simp [keysA, h]
 | .op _ c _ _, h => by simp [ment] at h; simp [keysA, h]
 | .ot _ c _, h => by simp [ment] at h; simp [keysA, h]
 | .agg l, h => by simp only [ment] at h; simp only [keysA]; exact mem_keysL l h
 | .tup l, h => by simp only [ment] at h; simp only [keysA]; exact mem_keysL l h
 | .clo _ l, h => by simp only [ment] at h; simp only [keysA]; exact mem_keysL l h
 | .junk, h => by simp [ment] at h
 | .lit _, h => by simp [ment] at h
 | .row _ _, h => by simp [ment] at h
 | .ep _ _ _, h => by simp [ment] at h
theorem mem_keysL {b : Nat} : (l : List AV) → mentL b l = true → b ∈ keysL l
 | [], h => by simp [mentL] at h
 | a :: l, h => by
  simp only [mentL, Bool.or_eq_true] at h
  simp only [keysL, List.mem_append]
  rcases h with h | h
  exact .inl (mem_keysA a h)
  exact .inr (mem_keysL l h)
end
theorem ment_none {b : Nat} {a : AV} (h : keysA a = []) : ment b a = false := by
 cases hm : ment b a with
 | false => rfl
 | true => have := mem_keysA a hm; rw [h] at this; cases this
def flat1 : AV → Bool
 | .lit _ => true
 | _ => false
def flat : AV → Bool
 | .agg l => l.all flat1
 | .tup l => l.all flat1
 | a => flat1 a
theorem R_flat1 {w w' : World} {fz fz' : Nat → Prop} {η η' : Nat → Option Value} {v : Value} {a : AV} (hf : flat1 a = true) (h : R w fz η v a) : R w' fz' η' v a := by
 cases a <;> simp [flat1] at hf
 have e := h.lit_inv; subst e; exact .lit _
theorem R_flat {w w' : World} {fz fz' : Nat → Prop} {η η' : Nat → Option Value} {v : Value} {a : AV} (hf : flat a = true) (h : R w fz η v a) : R w' fz' η' v a := by
 unfold flat at hf
 split at hf
 obtain ⟨vs, rfl, hl, hR⟩ := h.agg_inv
 exact .agg _ _ hl (fun j v x hv hx => R_flat1 (List.all_eq_true.1 hf x (List.mem_of_getElem? hx)) (hR j v x hv hx))
 obtain ⟨vs, rfl, hl, hR⟩ := h.tup_inv
 exact .tup _ _ hl (fun j v x hv hx => R_flat1 (List.all_eq_true.1 hf x (List.mem_of_getElem? hx)) (hR j v x hv hx))
 exact R_flat1 hf h
def rnk (ρ : List (Nat × Nat)) (b : Nat) : Nat := (lkp ρ b).getD 0
def rn1 (ρ : List (Nat × Nat)) : AV → AV
 | .own b => .own (rnk ρ b)
 | .ptr b off => .ptr (rnk ρ b) off
 | .op τ b i off => .op τ (rnk ρ b) i off
 | .ot τ b lo => .ot τ (rnk ρ b) lo
 | a => a
def rn (ρ : List (Nat × Nat)) : AV → AV
 | .agg l => .agg (l.map (rn1 ρ))
 | .tup l => .tup (l.map (rn1 ρ))
 | .clo f l => .clo f (l.map (rn1 ρ))
 | a => rn1 ρ a
def rnB (ρ : List (Nat × Nat)) : Box → Box
 | .var l => .var (l.map (rn1 ρ))
 | .sl e τ xs => .sl e τ xs
 | .full e τ xs => .full e τ xs
 | .any => .any
def plain1 (ρ : List (Nat × Nat)) : AV → Bool
 | .own b => (lkp ρ b).isSome
 | .ptr b _ => (lkp ρ b).isSome
 | .op _ b _ _ => (lkp ρ b).isSome
 | .ot _ b _ => (lkp ρ b).isSome
 | .agg _ => false
 | .tup _ => false
 | .clo _ _ => false
 | _ => true
def plain (ρ : List (Nat × Nat)) : AV → Bool
 | .agg l => l.all (plain1 ρ)
 | .tup l => l.all (plain1 ρ)
 | .clo _ l => l.all (plain1 ρ)
 | a => plain1 ρ a
def plainB (ρ : List (Nat × Nat)) : Box → Bool
 | .var l => l.all (plain1 ρ)
 | .sl _ _ _ => true
 | .full _ _ _ => true
 | .any => true
def injOk (ρ : List (Nat × Nat)) : Bool := (ρ.map (·.2)).Nodup
theorem nodup_inj : ∀ {ρ : List (Nat × Nat)}, (ρ.map (·.2)).Nodup → ∀ {b b' c : Nat}, lkp ρ b = some c → lkp ρ b' = some c → b = b'
 | [], _, _, _, _, h, _ => by cases h
 | (k, x) :: l, hn, b, b', c, h, h' => by
  simp only [List.map_cons, List.nodup_cons] at hn
  have no : ∀ b, lkp l b = some x → False := fun b hb => hn.1 (List.mem_map.2 ⟨(b, x), lkp_mem hb, rfl⟩)
  simp only [lkp] at h h'
  split at h
  rename_i e
  simp only [Option.some.injEq] at h
  subst h
  split at h'
  rename_i e'; rw [e, e']
  exact (no b' h').elim
  split at h'
  simp only [Option.some.injEq] at h'; subst h'; exact (no b h).elim
  exact nodup_inj hn.2 h h'
structure CI where
 f : FuncId
 args : List AV
 snap : List Nat
 del : List Nat
 out : COut
 bi : List (Nat × Box) := []
 bo : List (Nat × Box) := []
 ρ : List (Nat × Nat) := []
def fit1 : AV → AV → AV
 | .lit (.slice none 0 0), .row τ _ => .row τ []
 | .rowc τ xs _, .row _ _ => .row τ xs
 | .rown τ xs _, .row _ _ => .row τ xs
 | a, _ => a
def fit : AV → AV → AV
 | .agg l, .agg m => if l.length = m.length then .agg (List.zipWith fit1 l m) else .agg l
 | a, b => fit1 a b
theorem R_fit1 {w : World} {fz : Nat → Prop} {η : Nat → Option Value} {v : Value} {a b : AV} (h : R w fz η v a) : R w fz η v (fit1 a b) := by
 unfold fit1
 split
 have e := h.lit_inv; subst e; exact .nil _
 obtain ⟨_, _, h⟩ := h.rowc_inv; exact h
 obtain ⟨_, _, _, _, h⟩ := h.rown_inv; exact h
 exact h
theorem R_fit {w : World} {fz : Nat → Prop} {η : Nat → Option Value} {v : Value} {a b : AV} (h : R w fz η v a) : R w fz η v (fit a b) := by
 unfold fit
 split
 split
 rename_i l m hlm
 obtain ⟨vs, rfl, hl, hR⟩ := h.agg_inv
 refine .agg _ _ (by simp; omega) (fun j u y hu hy => ?_)
 rw [List.getElem?_zipWith] at hy
 split at hy
 rename_i x z hx hz
 simp only [Option.some.injEq] at hy
 subst hy
 exact R_fit1 (hR j u x hu hx)
 cases hy
 exact h
 exact R_fit1 h
def calleeA (tm : Nat → Option AV) (x : Operand) : Option (FuncId × List AV) :=
 match evalA tm x with
 | some (.lit (.func (.func f) ⟨[]⟩ ⟨[]⟩)) => some (f, [])
 | some (.clo (.func f) l) => some (f, l)
 | _ => none
def flatOut : COut → Bool
 | .val a => flat a
 | .own _ _ _ => false
 | .thr _ => true
def wrCall (key : Nat) (ci : CI) (o : Oper) (tm : Nat → Option AV) (bx : Bx) : Option (Wr × Option Value) :=
 match o.op with
 | .call ⟨.value x, ars, _⟩ => match calleeA tm x, ars.toList.mapM (evF tm bx (ci.del ++ ci.snap)) with
  | some (f, l), some m =>
   if f = ci.f ∧ ci.args.all (fun a => (keysA a).isEmpty) = true ∧ (ci.snap.isEmpty = true ∨ flatOut ci.out = true) ∧ (m ++ l.map (frz bx (ci.del ++ ci.snap))).length = ci.args.length then
    match ci.out with
    | .val r => if (keysA r).isEmpty then some (⟨List.zipWith fit (m ++ l.map (frz bx (ci.del ++ ci.snap))) ci.args = ci.args, some r, ci.del, [], false⟩, none) else none
    | .own e τ xs => some (⟨List.zipWith fit (m ++ l.map (frz bx (ci.del ++ ci.snap))) ci.args = ci.args, some (.own key), ci.del, [(key, .sl e τ xs)], true⟩, none)
    | .thr v => some (⟨List.zipWith fit (m ++ l.map (frz bx (ci.del ++ ci.snap))) ci.args = ci.args, none, [], [], false⟩, some v)
   else none
  | _, _ => none
 | _ => none
section
variable {P : Program} {I : World → Prop} {w w' w0 : World} {ow : Own} {η η' : Nat → Option Value} {N key b g : Nat} {tm tmr : Nat → Option AV} {bx bxr : Bx} {a : Act} {u v : Value} {B : Box} {x : AV}
theorem below_tr (s : Sim N w0 ow η tm bx a w) (h : Below w.heap.size w w') (c : Nat) : Tr η η c w w' := by
 refine ⟨h.os, h.tape, h.output, h.size, fun k hk _ => h.block k hk, fun _ _ _ h => h, fun b u k _ hu hk => h.block k (s.bound b u k hu hk), fun u k hu hk => ⟨Nat.lt_of_lt_of_le (s.bound c u k hu hk) h.size, .inr ⟨c, u, hu, hk, fun b' u' hb hu' hk' => hb (s.apart b' c u' u k hu' hu hk' hk)⟩⟩⟩
theorem Sim.below (s : Sim N w0 ow η tm bx a w) (h : Below w.heap.size w w') : Sim N w0 ow η tm bx a w' := by
 refine s.tr (c := 0) (below_tr s h 0) (.inl fun _ h => h) (fun b B hb hB => ⟨hB, rfl⟩) (fun B hB => ?_)
 obtain ⟨u, hu, hr⟩ := s.dom 0 B hB
 exact ⟨u, hu, (below_tr s h 1).box (by decide) hu hr (fun _ _ h => h)⟩
theorem mapM_R {ρ : Operand → Option AV} {ev : Operand → Value} {fz : Nat → Prop} (hρ : ∀ x y, ρ x = some y → R w fz η (ev x) y) : ∀ (l : List Operand) (m : List AV), l.mapM ρ = some m → RLl w fz η (l.map ev) m
 | [], m, h => by simp at h; subst h; exact RLl_nil
 | x :: l, m, h => by
  simp only [List.mapM_cons] at h
  cases hx : ρ x with
  | none => simp [hx] at h
  | some y =>
   cases hl : l.mapM ρ with
   | none => simp [hx, hl] at h
   | some m' =>
    simp [hx, hl] at h
    subst h
    exact RLl_cons.2 ⟨hρ x y hx, mapM_R hρ l m' hl⟩
theorem RLl_append {fz : Nat → Prop} {C D : List Value} {l m : List AV} (h1 : RLl w fz η C l) (h2 : RLl w fz η D m) : RLl w fz η (C ++ D) (l ++ m) := by
 have e := h1.1
 refine ⟨by simp [h1.1, h2.1], fun j u x hu hx => ?_⟩
 by_cases hj : j < C.length
 rw [List.getElem?_append_left hj] at hu
 rw [List.getElem?_append_left (by omega)] at hx
 exact h1.2 j u x hu hx
 rw [List.getElem?_append_right (by omega)] at hu
 rw [List.getElem?_append_right (by omega)] at hx
 rw [e] at hu
 exact h2.2 _ u x hu hx
theorem updB_nil (bx : Bx) : updB bx [] [] = bx := by funext k; simp [updB, lkp]
theorem wrCall_ok (s : Sim N w0 ow η tm bx a w) (sr : Sim N w0 ow η tmr bxr a w) (hf : Fresh key tm bx) {o : Oper} {ci : CI} {E : Wr} {th : Option Value} (h : wrCall key ci o tmr bxr = some (E, th)) (hE : E.cond) (hent : Ent P ci.f) (hcon : Con P I ci.f ci.args ci.out) (hI : I w)
  {K : Act → World → Prop} {Q : Exit → Act → World → Prop} (hK : th = none → ∀ η' v w', (∀ x, E.val = some x → R w' (Fz (Amb w0 ow) η') η' v x) → Sim N w0 ow η' tm (updB bx E.del E.ins) a w' → K (a.put o.dst v) w')
  (hT : ∀ v, th = some v → ∀ w', Sim N w0 ow η tm bx a w' → Q (.panic [{ v, recovered := false }]) a w') : o.wp P a w K Q := by
 unfold wrCall at h
 split at h
 ·rename_i x ars ts ho
  split at h
  ·rename_i f l m hcal hm
   split at h
   ·rename_i hc
    obtain ⟨rfl, hk, hsn, hlen⟩ := hc
    -- the callee's value
    obtain ⟨caps, hcv, hcl⟩ : ∃ caps : Array Value, a.eval x = .func (.func ci.f) #[] caps ∧ RLl w (Fz (Amb w0 ow) η) η caps.toList l := by
     unfold calleeA at hcal
     split at hcal
     ·rename_i f' hx
      simp only [Option.some.injEq, Prod.mk.injEq] at hcal
      obtain ⟨rfl, rfl⟩ := hcal
      exact ⟨#[], (sr.ev hx).lit_inv, RLl_nil⟩
     ·rename_i f' l' hx
      simp only [Option.some.injEq, Prod.mk.injEq] at hcal
      obtain ⟨rfl, rfl⟩ := hcal
      obtain ⟨vs, hv, hl, hR⟩ := (sr.ev hx).clo_inv
      exact ⟨vs, hv, RL_toList ⟨hl, hR⟩⟩
     ·cases hcal
    generalize hD : ci.del ++ ci.snap = D at *
    have cF := sr.ctxF D
    have hargs : RL w (Fz (Amb w0 ow) (dropη η D)) (dropη η D) (ars.map a.eval ++ caps) (m ++ l.map (frz bxr D)) := by
     have h1 := mapM_R cF.ev ars.toList m hm
     have h2 : RLl w (Fz (Amb w0 ow) (dropη η D)) (dropη η D) caps.toList (l.map (frz bxr D)) := ⟨by simpa using hcl.1, fun j u y hu hy => by
      rw [List.getElem?_map, Option.map_eq_some_iff] at hy
      obtain ⟨y0, hy0, rfl⟩ := hy
      exact R_frz sr (hcl.2 j u y0 hu hy0) D⟩
     have h3 := RLl_append h1 h2
     refine ⟨by have := h3.1; simpa using this, fun j u y hu hy => h3.2 j u y ?_ hy⟩
     rw [← Array.getElem?_toList] at hu
     simpa using hu
    have hcond : List.zipWith fit (m ++ l.map (frz bxr D)) ci.args = ci.args := by
     split at h
     ·split at h
      ·simp only [Option.some.injEq, Prod.mk.injEq] at h; rw [← h.1] at hE; exact hE
      ·cases h
     ·simp only [Option.some.injEq, Prod.mk.injEq] at h; rw [← h.1] at hE; exact hE
     ·simp only [Option.some.injEq, Prod.mk.injEq] at h; rw [← h.1] at hE; exact hE
    have hargs2 : RL w (fun k => Fz (Amb w0 ow) (dropη η D) k ∧ k < w.heap.size) noη (ars.map a.eval ++ caps) ci.args := by
     refine ⟨by have := hargs.1; omega, fun j u y hu hy => ?_⟩
     have hj : j < (m ++ l.map (frz bxr D)).length := by have := (List.getElem?_eq_some_iff.1 hy).1; omega
     have hz : (List.zipWith fit (m ++ l.map (frz bxr D)) ci.args)[j]? = some (fit ((m ++ l.map (frz bxr D))[j]) y) := by
      rw [List.getElem?_zipWith, List.getElem?_eq_getElem hj, hy]
     rw [hcond, hy] at hz
     injection hz with hz
     have h4 := R_fit (b := y) (hargs.2 j u _ hu (List.getElem?_eq_getElem hj))
     rw [← hz] at h4
     have hkk : keysA y = [] := by have := List.all_eq_true.1 hk y (List.mem_of_getElem? hy); simpa using this
     exact h4.step (Nat.le_refl _) (fun _ _ _ => rfl) (fun k h1 h2 => ⟨h1, h2⟩) (fun b u hb _ => by rw [ment_none hkk] at hb; cases hb)
    have hcalls := hcon w (fun k => Fz (Amb w0 ow) (dropη η D) k ∧ k < w.heap.size) _ hI (fun k hk => hk.2) hargs2
    have hrun : (execOp a.eval o).run P w = .ok (.enter ci.f (ars.map a.eval ++ caps)) w := by
     have he := hent (ars.map a.eval ++ caps) w
     simp [execOp, ho, resolve, hcv, Deferred.ofValue, invoke, he]
    unfold Oper.wp
    rw [hrun, Oper.upon_enter]
    refine hcalls.mono fun e w' hh => ?_
    obtain ⟨hpost, hbel⟩ := hh
    split at h
    ·rename_i r hr
     split at h
     ·rename_i hkr
      simp only [Option.some.injEq, Prod.mk.injEq] at h
      obtain ⟨rfl, rfl⟩ := h
      rw [hr] at hpost
      obtain ⟨vr, rfl, hR⟩ := hpost
      have s2 := (s.drop ci.del).below hbel
      refine hK rfl (dropη η ci.del) vr w' (fun x hx => ?_) s2
      simp only [Option.some.injEq] at hx
      subst hx
      have hkk : keysA r = [] := by simpa using hkr
      by_cases hfl : flat r = true
      ·exact R_flat hfl hR
      ·have hsn2 : ci.snap = [] := by
        rcases hsn with h | h
        ·simpa using h
        ·rw [hr] at h; exact absurd h hfl
       rw [hsn2, List.append_nil] at hD
       subst hD
       refine hR.step (Nat.le_refl _) (fun _ _ _ => rfl) (fun k hk hlt => ?_) (fun b u hb _ => by rw [ment_none hkk] at hb; cases hb)
       rcases hk with ⟨hk, _⟩ | hk
       ·exact hk
       ·refine ⟨.inr (.inr (Nat.le_trans s.frame.size hk)), fun b u hb hbk => ?_⟩
        have := s.bound b u k (drop_some hb).1 hbk
        omega
     ·cases h
    ·rename_i e2 τ xs hr
     simp only [Option.some.injEq, Prod.mk.injEq] at h
     obtain ⟨rfl, rfl⟩ := h
     rw [hr] at hpost
     obtain ⟨vr, rfl, hblk, hB⟩ := hpost
     have hsn2 : ci.snap = [] := by
      rcases hsn with h | h
      ·simpa using h
      ·rw [hr] at h; cases h
     rw [hsn2, List.append_nil] at hD
     subst hD
     have s1 := s.drop ci.del
     obtain ⟨tr, hs⟩ := s1.grow (w' := w') (B := .sl e2 τ xs) (v := vr) (del := []) (row := none) (hf.drop ci.del) ⟨hbel.os, hbel.tape, hbel.output, hbel.size, fun k hk _ => hbel.block k hk⟩ (.inl rfl) (fun k hk => ⟨(hblk k hk).2, .inl (hblk k hk).1⟩)
     have hdd : dropη (dropη η ci.del) [] = dropη η ci.del := by funext b; simp [dropη]
     rw [hdd, updB_updB] at hs
     refine hK rfl _ vr w' (fun x hx => ?_) (hs ?_)
     ·simp only [Option.some.injEq] at hx; subst hx; exact own_R (by simp [setη])
     ·obtain ⟨cs, h1, h2⟩ := hB
      refine ⟨cs, h1, fun i x j y hx hy => ?_⟩
      obtain ⟨vv, h3, h4⟩ := h2 i x j y hx hy
      refine ⟨vv, h3, h4.step (Nat.le_refl _) (fun _ _ _ => rfl) (fun k hk hlt => ?_) (fun b u hb _ => by rw [enc_ment' hy] at hb; cases hb)⟩
      refine ⟨?_, fun b u hb hbk => ?_⟩
      ·rcases hk.1 with ⟨hk1, _⟩ | hk1
       ·exact hk1.1
       ·exact .inr (.inr (Nat.le_trans s.frame.size hk1))
      simp only [setη] at hb
      split at hb
      ·injection hb with hb; subst hb; exact hk.2 hbk
      ·rcases hk.1 with ⟨hk1, _⟩ | hk1
       ·exact hk1.2 b u hb hbk
       ·have := s.bound b u k (drop_some hb).1 hbk
        omega
    ·rename_i vt hr
     simp only [Option.some.injEq, Prod.mk.injEq] at h
     obtain ⟨rfl, rfl⟩ := h
     rw [hr] at hpost
     simp only [Post] at hpost
     subst hpost
     exact hT vt rfl w' (s.below hbel)
   ·cases h
  ·cases h
 ·cases h
end
end Go.Proofs.YtfimffgfnhplkaaGreatDoor.F
