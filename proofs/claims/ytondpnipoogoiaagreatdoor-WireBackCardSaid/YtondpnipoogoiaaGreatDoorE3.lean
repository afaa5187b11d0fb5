import Derived.Test.YtondpnipoogoiaaGreatDoorE2
import Derived.Deep.AppendSrc
import Derived.Lib.AppendZerosOnto
set_option maxRecDepth 100000
set_option linter.unusedVariables false
set_option linter.unusedSimpArgs false
namespace Go.Proofs.YtondpnipoogoiaaGreatDoor.F
open Go Go.RowKit
section
variable {P : Program} {w : World} {fz : Nat → Prop} {η : Nat → Option Value} {ev : Operand → Value} {ρ : Operand → Option AV} {bx : Bx} {o : Oper} {E : Prop × AV}
def rdSliceC (P : Program) (ρ : Operand → Option AV) (bx : Bx) (t : TypeId) (x : Operand) (lo hi : Option Operand) : Rd :=
 match typ P t, ρ x, optInt ρ lo, optInt ρ hi with
 | some (.slice e, _), some (.rowc τ xs c), some (some l), some none => match typ P e with
  | some (_, s) => if s = sz τ then some (0 ≤ l ∧ l ≤ xs.length, .row τ (xs.drop l.toNat)) else none
  | none => none
 | some (.slice e, _), some (.rowc τ xs c), some none, some (some h) => match typ P e with
  | some (_, s) => if s = sz τ then some (0 ≤ h ∧ h ≤ xs.length, .rowc τ (xs.take h.toNat) c) else none
  | none => none
 | some (.slice e, _), some (.own b), some (some l), some none => match typ P e, bx b with
  | some (_, s), some (.sl _ τ xs) => if s = sz τ then some (0 ≤ l ∧ l < xs.length, .ot τ b l.toNat) else none
  | _, _ => none
 | _, _, _, _ => none
theorem optNone (c : Ctx w fz η ev ρ bx) {x : Option Operand} (h : optInt ρ x = some none) : x = none := by
 rcases optInt_ok c h with ⟨h, _⟩ | ⟨_, _, _, _, hc, _⟩
 exact h
 cases hc
theorem optSome (c : Ctx w fz η ev ρ bx) {x : Option Operand} {l : Int} (h : optInt ρ x = some (some l)) : ∃ y k, x = some y ∧ ev y = .int k l := by
 rcases optInt_ok c h with ⟨_, hc⟩ | ⟨y, k, n, h1, h2, h3⟩
 cases hc
 injection h2 with h2; subst h2; exact ⟨y, k, h1, h3⟩
theorem rdSliceC_ok (c : Ctx w fz η ev ρ bx) {t : TypeId} {x : Operand} {lo hi : Option Operand} (ho : o.op = .slice t x lo hi none) (hh : rdSliceC P ρ bx t x lo hi = some E) : Yields P w fz η ev o E := by
 unfold rdSliceC at hh
 split at hh
 rename_i e _ τ xs cc l ht hx hl hhi
 split at hh
 rename_i d s hs
 split at hh
 rename_i hsz
 obtain ⟨ht, _⟩ := typ_und ht
 obtain ⟨h1, inf, h2, rfl⟩ := typ_und hs
 simp only [Option.some.injEq] at hh
 subst hh
 rintro ⟨h0, h3⟩
 obtain rfl := optNone c hhi
 obtain ⟨y, k, rfl, hy⟩ := optSome c hl
 obtain ⟨A, hv, hr⟩ := (c.ev x _ hx).rowc_inv
 obtain ⟨A', c', hv', hc, hmax, hel⟩ := hr.row_inv
 rw [hv] at hv'
 injection hv' with e1 e2 e3
 subst e1 e3
 obtain ⟨m, rfl⟩ : ∃ m : Nat, l = (m : Int) := ⟨l.toNat, by omega⟩
 have hb := sliceBounds_run (P := P) (w := w) (b := true) (len := xs.length) (cap := cc) (lo := some (.int k (m : Int))) (hi := none) (mx := none) (l := (m : Int)) (h := (xs.length : Int)) (m := (cc : Int)) (.inr ⟨k, rfl⟩) (.inl ⟨rfl, rfl, rfl⟩) (.inl ⟨rfl, rfl⟩) h0 h3 (by omega) (Int.le_refl _)
 simp only [Int.toNat_natCast] at hb ⊢
 refine ⟨.slice (if cc = m then A else A.map (·.add (m * sz τ))) (xs.length - m) (cc - m), by simp [execOp, ho, Instr.sliceAt, Instr.slice, run_underlying ht, hv, hy, hb, sizeOf_run h2, hsz], ?_⟩
 have hlen : (xs.drop m).length = xs.length - m := List.length_drop
 rw [← hlen]
 refine .row_mk (by rw [hlen]; omega) (by omega) (fun i z hz => ?_)
 rw [List.getElem?_drop] at hz
 obtain ⟨ad, rfl, hf, hb, hcell⟩ := hel _ _ hz
 have := (List.getElem?_eq_some_iff.1 hz).1
 rw [if_neg (by omega)]
 refine ⟨_, rfl, by rw [add_block]; exact hf, by rw [add_block]; exact hb, fun j a ha => ?_⟩
 rw [add_add, ← Nat.add_assoc, ← Nat.add_mul]
 exact hcell j a ha
 cases hh
 cases hh
 rename_i e _ τ xs cc l ht hx hl hhi
 split at hh
 rename_i d s hs
 split at hh
 rename_i hsz
 obtain ⟨ht, _⟩ := typ_und ht
 obtain ⟨h1, inf, h2, rfl⟩ := typ_und hs
 simp only [Option.some.injEq] at hh
 subst hh
 rintro ⟨h0, h3⟩
 obtain rfl := optNone c hl
 obtain ⟨y, k, rfl, hy⟩ := optSome c hhi
 obtain ⟨A, hv, hr⟩ := (c.ev x _ hx).rowc_inv
 obtain ⟨A', c', hv', hc, hmax, hel⟩ := hr.row_inv
 rw [hv] at hv'
 injection hv' with e1 e2 e3
 subst e1 e3
 obtain ⟨m, rfl⟩ : ∃ m : Nat, l = (m : Int) := ⟨l.toNat, by omega⟩
 have hb := sliceBounds_run (P := P) (w := w) (b := true) (len := xs.length) (cap := cc) (lo := none) (hi := some (.int k (m : Int))) (mx := none) (l := 0) (h := (m : Int)) (m := (cc : Int)) (.inl ⟨rfl, rfl⟩) (.inr ⟨k, rfl⟩) (.inl ⟨rfl, rfl⟩) (by decide) h0 (by omega) (Int.le_refl _)
 simp only [Int.toNat_natCast, Int.toNat_zero] at hb ⊢
 have hlen : (xs.take m).length = m := by rw [List.length_take]; omega
 have hA : (if cc = 0 then A else A.map (·.add 0)) = A := by
  split
  rfl
  cases A <;> simp [Addr.add]
 refine ⟨.slice A (xs.take m).length cc, by simp [execOp, ho, Instr.sliceAt, Instr.slice, run_underlying ht, hv, hy, hb, sizeOf_run h2, hsz, hlen]; intro _; cases A <;> simp [Addr.add], .rowc _ _ _ _ ?_⟩
 refine .row_mk (by rw [hlen]; omega) (by omega) (fun i z hz => ?_)
 have := (List.getElem?_eq_some_iff.1 hz).1
 rw [hlen] at this
 rw [List.getElem?_take, if_pos this] at hz
 exact hel _ _ hz
 cases hh
 cases hh
 rename_i e _ b l ht hx hl hhi
 split at hh
 rename_i d s e0 τ xs hs hb0
 split at hh
 rename_i hsz
 obtain ⟨ht, _⟩ := typ_und ht
 obtain ⟨h1, inf, h2, rfl⟩ := typ_und hs
 simp only [Option.some.injEq] at hh
 subst hh
 rintro ⟨h0, h3⟩
 obtain rfl := optNone c hhi
 obtain ⟨y, k, rfl, hy⟩ := optSome c hl
 obtain ⟨u, hu, cs, hown, hel⟩ := c.box b _ hb0
 have hv := (c.ev x _ hx).own_inv hu
 obtain ⟨m, rfl⟩ : ∃ m : Nat, l = (m : Int) := ⟨l.toNat, by omega⟩
 rcases hown.2 with ⟨_, hz⟩ | ⟨g, cap, cur, rfl, _, _, hle, _⟩
 omega
 have hb := sliceBounds_run (P := P) (w := w) (b := true) (len := xs.length) (cap := cap) (lo := some (.int k (m : Int))) (hi := none) (mx := none) (l := (m : Int)) (h := (xs.length : Int)) (m := (cap : Int)) (.inr ⟨k, rfl⟩) (.inl ⟨rfl, rfl, rfl⟩) (.inl ⟨rfl, rfl⟩) h0 (by omega) (by omega) (Int.le_refl _)
 simp only [Int.toNat_natCast] at hb ⊢
 refine ⟨.slice (some ⟨g, m * sz τ, none⟩) (xs.length - m) (cap - m), ?_, .ot _ _ _ _ (fun u2 hu2 => ?_)⟩
 simp [execOp, ho, Instr.sliceAt, Instr.slice, run_underlying ht, hv, hy, hb, sizeOf_run h2, hsz, lit_add]
 omega
 rw [hu] at hu2
 injection hu2 with hu2
 exact ⟨g, _, cap, hu2.symm, by omega, rfl⟩
 cases hh
 cases hh
 cases hh
def isNilC : AV → Bool
 | .lit (.slice none 0 0) => true
 | _ => false
def rdMore (P : Program) (o : Oper) (ρ : Operand → Option AV) (bx : Bx) : Rd :=
 match o.op with
 | .binOp .eql t x y _ => match typ P t, ρ x, ρ y with
  | some (.slice _, _), some (.rown _ xs b), some z => if isNilC z = true then some (True, .lit (.bool b)) else none
  | _, _, _ => none
 | .binOp .neq t x y _ => match typ P t, ρ x, ρ y with
  | some (.slice _, _), some (.rown _ xs b), some z => if isNilC z = true then some (True, .lit (.bool !b)) else none
  | _, _, _ => none
 | .slice t x lo hi none => rdSliceC P ρ bx t x lo hi
 | .call ⟨.builtin .len, ⟨[x]⟩, ⟨[t]⟩⟩ => match P.underlying t, ρ x with
  | some (.slice _), some (.rowc _ xs _) => some (True, .lit (.int .i64 xs.length))
  | some (.slice _), some (.own b) => match bx b with
   | some (.full _ _ xs) => some (True, .lit (.int .i64 xs.length))
   | _ => none
  | _, _ => none
 | .call ⟨.builtin .cap, ⟨[x]⟩, ⟨[t]⟩⟩ => match P.underlying t, ρ x with
  | some (.slice _), some (.rowc _ _ c) => some (True, .lit (.int .i64 c))
  | _, _ => none
 | _ => none
theorem rdMore_ok (c : Ctx w fz η ev ρ bx) (h : rdMore P o ρ bx = some E) : Yields P w fz η ev o E := by
 unfold rdMore at h
 split at h
 rename_i t x y t' ho
 split at h
 rename_i e _ τ xs b z ht hx hy
 split at h
 rename_i hz
 obtain ⟨ht, _⟩ := typ_und ht
 simp only [Option.some.injEq] at h
 subst h
 intro _
 have hz' : z = .lit (.slice none 0 0) := by
  unfold isNilC at hz
  split at hz
  rfl
  cases hz
 subst hz'
 obtain ⟨A, cc, hv, hb, _⟩ := (c.ev x _ hx).rown_inv
 have hv2 := (c.ev y _ hy).lit_inv
 refine ⟨.bool b, ?_, .lit _⟩
 subst hb
 have hq := run_equal_slice_nil (P := P) w t e A xs.length cc ht
 cases A <;> simp [execOp, ho, hv, hv2, eqGuard, Go.binOp, hq]
 cases h
 cases h
 rename_i t x y t' ho
 split at h
 rename_i e _ τ xs b z ht hx hy
 split at h
 rename_i hz
 obtain ⟨ht, _⟩ := typ_und ht
 simp only [Option.some.injEq] at h
 subst h
 intro _
 have hz' : z = .lit (.slice none 0 0) := by
  unfold isNilC at hz
  split at hz
  rfl
  cases hz
 subst hz'
 obtain ⟨A, cc, hv, hb, _⟩ := (c.ev x _ hx).rown_inv
 have hv2 := (c.ev y _ hy).lit_inv
 refine ⟨.bool !b, ?_, .lit _⟩
 subst hb
 have hq := run_equal_slice_nil (P := P) w t e A xs.length cc ht
 cases A <;> simp [execOp, ho, hv, hv2, eqGuard, Go.binOp, hq]
 cases h
 cases h
 rename_i t x lo hi ho
 exact rdSliceC_ok c ho h
 rename_i x t ho
 split at h
 rename_i e τ xs cc ht hx
 simp only [Option.some.injEq] at h
 subst h
 intro _
 obtain ⟨A, hv, _⟩ := (c.ev x _ hx).rowc_inv
 exact ⟨_, by simp [execOp, ho, resolve, invoke, builtin, Builtin.len_, run_underlying ht, hv, goInt], .lit _⟩
 rename_i e b ht hx
 split at h
 rename_i e2 τ xs hb
 simp only [Option.some.injEq] at h
 subst h
 intro _
 obtain ⟨u, hu, ⟨cs, ho2, _⟩, _⟩ := c.box b _ hb
 have hv := (c.ev x _ hx).own_inv hu
 rcases ho2.2 with ⟨rfl, h0⟩ | ⟨g, cap, cur, rfl, _⟩
 exact ⟨.int .i64 xs.length, by rw [h0]; simp [execOp, ho, resolve, invoke, builtin, Builtin.len_, run_underlying ht, hv, goInt], .lit _⟩
 exact ⟨_, by simp [execOp, ho, resolve, invoke, builtin, Builtin.len_, run_underlying ht, hv, goInt], .lit _⟩
 cases h
 cases h
 rename_i x t ho
 split at h
 rename_i e τ xs cc ht hx
 simp only [Option.some.injEq] at h
 subst h
 intro _
 obtain ⟨A, hv, _⟩ := (c.ev x _ hx).rowc_inv
 exact ⟨_, by simp [execOp, ho, resolve, invoke, builtin, Builtin.cap_, run_underlying ht, hv, goInt], .lit _⟩
 cases h
 cases h
end
section
variable {P : Program} {w w' w0 : World} {ow : Own} {η η' : Nat → Option Value} {N key b g : Nat} {tm tmr : Nat → Option AV} {bx bxr : Bx} {a : Act} {u v : Value} {B : Box} {x : AV} {tt : TypeId → Option Ty}
theorem grow_core (s : Sim N w0 ow η tm bx a w) (hf : Fresh key tm bx) {o : Oper} {e : TypeId} {τ : Ty} (zs : List (El τ)) (cells : List Value) (hcl : cells.length = zs.length * sz τ) (cap : Nat) (hc1 : zs.length ≤ cap) (hc2 : cap ≤ maxLen) (rest : Array Value) (hrest : rest.size = (cap - zs.length) * sz τ)
  (hel : ∀ i x j y, zs[i]? = some x → (enc τ x)[j]? = some y → ∃ v, cells[i * sz τ + j]? = some v ∧ R w (Fz (Amb w0 ow) η) η v y)
  (hrun : (execOp a.eval o).run P w = .ok (.value (.slice (some ⟨w.heap.size, 0, none⟩) zs.length cap)) (w.drew.alloc (.cells (cells.toArray ++ rest) e))) :
  ∃ n v w' η', (execOp a.eval o).run P w = .ok n w' ∧ (n = .value v ∨ (n = .skip ∧ v = undef)) ∧ (∀ x, some (AV.own key) = some x → R w' (Fz (Amb w0 ow) η') η' v x) ∧ Sim N w0 ow η' tm (updB bx [] [(key, .sl e τ zs)]) a w' := by
 have hgb : w.grownBy (w.drew.alloc (.cells (cells.toArray ++ rest) e)) none := ⟨rfl, rfl, rfl, by simp, fun k hk _ => _root_.Go.heap_alloc_old (w := w.drew) (o := _) (h := hk)⟩
 obtain ⟨tr, hs⟩ := s.grow (w' := w.drew.alloc (.cells (cells.toArray ++ rest) e)) (B := .sl e τ zs) (v := .slice (some ⟨w.heap.size, 0, none⟩) zs.length cap) (del := []) (row := none) hf hgb (.inl rfl) (fun k hk => by
  simp only [blk, Option.some.injEq] at hk
  subst hk
  exact ⟨by simp, .inl (Nat.le_refl _)⟩)
 refine ⟨_, _, _, _, hrun, .inl rfl, (fun x hx => by simp at hx; subst hx; exact own_R (by simp [setη])), hs ⟨cells, ⟨hcl, .inr ⟨w.heap.size, cap, _, rfl, Nat.zero_le _, heap_alloc_new w.drew _, hc1, hc2, ?_, ?_⟩⟩, fun i x j y hx hy => ?_⟩⟩
 ·simp only [Array.size_append, List.size_toArray, hcl, hrest, ← Nat.add_mul]
  congr 1; omega
 ·simp only [Array.toList_append]
  rw [← hcl]; exact List.take_left
 ·obtain ⟨vv, h1, h2⟩ := hel i x j y hx hy
  exact ⟨vv, h1, tr.R h2 (fun hh => by rw [enc_ment' hy] at hh; cases hh)⟩
theorem rowc_cells (s : Sim N w0 ow η tm bx a w) {τ : Ty} {xs : List (El τ)} {c : Nat} (hr : R w (Fz (Amb w0 ow) η) η v (.rowc τ xs c)) :
  ∃ A, ∃ olds : List Value, v = .slice A xs.length c ∧ olds.length = xs.length * sz τ ∧ (∀ (size : Nat), size = sz τ → (Builtin.firstCells size xs.length (.slice A xs.length c)).run P w.drew = .ok olds.toArray w.drew) ∧
   ∀ i y (j : Nat) z, xs[i]? = some y → (enc τ y)[j]? = some z → ∃ u, olds[i * sz τ + j]? = some u ∧ R w (Fz (Amb w0 ow) η) η u z := by
 obtain ⟨A, rfl, hr⟩ := hr.rowc_inv
 obtain ⟨A', c', hv, hm, hA, hnews⟩ := src_cells s (x := .row τ xs) rfl hr
 injection hv with e1 e2 e3
 subst e1 e3
 cases A with
 | none =>
  have hx := hA rfl
  subst hx
  exact ⟨none, [], rfl, by simp, fun size _ => run_firstCells_none w.drew size 0 _ _, fun i y j z hy => by simp at hy⟩
 | some ad =>
  obtain ⟨news, n1, n2, n3, n4⟩ := hnews ad rfl
  exact ⟨some ad, news, rfl, n1, fun size h => by subst h; exact run_firstCells_some w.drew _ _ ad _ _ news n1 (fun j v hj => n2 j v hj), n4⟩
def wrAppendC (P : Program) (key : Nat) (tm : Nat → Option AV) (bx : Bx) (t t' : TypeId) (s x : Operand) : Option Wr :=
  match P.underlying t with
  | some (.slice e) => match P.info? e, zeroA P e, evalA tm s, evalA tm x with
    | some ie, some z, some (.rowc τ xs c), some y => match srcOf bx y with
      | some ⟨τ', ys⟩ => if t = t' ∧ ie.size = sz τ ∧ z.length = sz τ then match cat τ τ' xs ys with
          | some zs => some ⟨c < xs.length + ys.length ∧ ((xs.length + ys.length) * ie.bytes : Nat) ≤ 140737488355328 ∧ xs.length + ys.length ≤ 140737488355328, some (.own key), [], [(key, .sl e τ zs)], true⟩
          | none => none
        else none
      | none => none
    | _, _, _, _ => none
  | _ => none
theorem wrAppendC_ok (s : Sim N w0 ow η tm bx a w) (sr : Sim N w0 ow η tmr bxr a w) (hf : Fresh key tm bx) {o : Oper} {t t' : TypeId} {x0 x1 : Operand} {E : Wr} (ho : o.op = .call { callee := .builtin .append, args := #[x0, x1], argTypes := #[t, t'] })
  (h : wrAppendC P key tmr bxr t t' x0 x1 = some E) : Does P N w0 ow tm bx a w o E := by
 unfold wrAppendC at h
 have exec : ∀ v w', (Builtin.append_ #[t, t'] o.type #[a.eval x0, a.eval x1]).run P w = .ok v w' → (execOp a.eval o).run P w = .ok (.value v) w' := fun v w' hr => by
  simp [execOp, ho, resolve, invoke, builtin, hr]
 split at h
 ·rename_i e ht
  split at h
  ·rename_i ie z τ xs c y hie hz hs0 hs1
   obtain ⟨zv, hzv, rfl⟩ := zeroA_inv hz hie
   split at h
   ·rename_i τ' ys hsrc
    split at h
    ·rename_i hc
     obtain ⟨rfl, hs2, hs3⟩ := hc
     split at h
     ·rename_i zs hzs
      obtain ⟨rfl, hzs⟩ := cat_ok hzs
      simp only at hzs
      subst hzs
      simp only [Option.some.injEq] at h
      subst h
      rintro ⟨hg, hB, hL⟩
      obtain ⟨A0, olds, hv0, o1, o2, o3⟩ := rowc_cells (P := P) sr (sr.ev hs0)
      obtain ⟨A, c', hv1, hm, hA, hnews⟩ := src_cells sr hsrc (sr.ev hs1)
      have hz2 : zv.cells.size = sz τ' := by simpa using hs3
      obtain ⟨news, n1, hsr, n4⟩ : ∃ news : List Value, news.length = ys.length * sz τ' ∧ Src P ie.size t (.slice A ys.length c') ys.length news w ∧ ∀ i y (j : Nat) z, ys[i]? = some y → (enc τ' y)[j]? = some z → ∃ u, news[i * sz τ' + j]? = some u ∧ R w (Fz (Amb w0 ow) η) η u z := by
       cases A with
       | none =>
        have hy := hA rfl
        subst hy
        exact ⟨[], by simp, Src.ofNil w ht _, fun i y j z hy => by simp at hy⟩
       | some ad =>
        obtain ⟨news, n1, n2, n3, n4⟩ := hnews ad rfl
        exact ⟨news, n1, Src.ofSlice w ht ad _ _ news (by rw [hs2]; exact n1) n2 n3, n4⟩
      have hrun := run_append_grow_src (P := P) w t t o.type e ie zv ht hie hzv A0 xs.length c olds (o2 _ hs2) (.slice A ys.length c') ys.length news hsr hg (by omega) (growslice_fits hg hB)
      refine grow_core s hf (xs ++ ys) (olds ++ news) (by rw [List.length_append, o1, n1, List.length_append, Nat.add_mul]) (grownCap w (xs.length + ys.length) c e) (by rw [List.length_append]; exact grownCap_ge w _ _ _) (grownCap_le_maxLen w _ _ _ (by unfold maxLen; omega)) _ (by rw [size_zeroCells, hz2, List.length_append]) (fun i x j y hx hy => ?_) (exec _ _ (by rw [hv0, hv1, List.length_append]; exact hrun))
      have hj : j < sz τ' := by have := (List.getElem?_eq_some_iff.1 hy).1; rwa [enc_len] at this
      by_cases hi : i < xs.length
      ·rw [List.getElem?_append_left hi] at hx
       obtain ⟨vv, h1, h2⟩ := o3 i x j y hx hy
       have : (i + 1) * sz τ' ≤ xs.length * sz τ' := Nat.mul_le_mul_right _ hi
       rw [Nat.add_mul] at this
       exact ⟨vv, by rw [List.getElem?_append_left (by rw [o1]; omega)]; exact h1, h2⟩
      ·rw [List.getElem?_append_right (by omega)] at hx
       obtain ⟨vv, h1, h2⟩ := n4 _ x j y hx hy
       have e4 : i * sz τ' + j = olds.length + ((i - xs.length) * sz τ' + j) := by
        rw [o1, ← Nat.add_assoc, ← Nat.add_mul, show xs.length + (i - xs.length) = i by omega]
       exact ⟨vv, by rw [e4, List.getElem?_append_right (by omega), Nat.add_sub_cancel_left]; exact h1, h2⟩
     ·cases h
    ·cases h
   ·cases h
  ·cases h
 ·cases h
def wrZerosC (P : Program) (tt : TypeId → Option Ty) (key : Nat) (tm : Nat → Option AV) (t ti : TypeId) (s x : Operand) : Option Wr :=
  match P.underlying t, P.underlying ti, evalA tm x with
  | some (.slice e), some (.int _), some (.lit (.int _ n)) => match P.info? e, zeroA P e, tt e, evalA tm s with
    | some ie, some z, some τ, some (.rowc τ0 xs c) => match dec τ z with
      | some x0 => if ie.size = sz τ0 ∧ z.length = sz τ ∧ sz τ = sz τ0 then match cat τ0 τ xs (List.replicate n.toNat x0) with
          | some zs => some ⟨0 < n ∧ c < xs.length + n.toNat ∧ ((xs.length + n.toNat) * ie.bytes : Nat) ≤ 140737488355328 ∧ xs.length + n.toNat ≤ 140737488355328, some (.own key), [], [(key, .sl e τ0 zs)], true⟩
          | none => none
        else none
      | none => none
    | _, _, _, _ => none
  | _, _, _ => none
theorem wrZerosC_ok (s : Sim N w0 ow η tm bx a w) (sr : Sim N w0 ow η tmr bxr a w) (hf : Fresh key tm bx) {o : Oper} {t ti : TypeId} {x0 x1 : Operand} {E : Wr} (ho : o.op = .call { callee := .builtin .append, args := #[x0, x1], argTypes := #[t, ti] })
  (h : wrZerosC P tt key tmr t ti x0 x1 = some E) : Does P N w0 ow tm bx a w o E := by
 unfold wrZerosC at h
 have exec : ∀ v w', (Builtin.append_ #[t, ti] o.type #[a.eval x0, a.eval x1]).run P w = .ok v w' → (execOp a.eval o).run P w = .ok (.value v) w' := fun v w' hr => by
  simp [execOp, ho, resolve, invoke, builtin, hr]
 split at h
 ·rename_i e ki kx n ht hti hx
  have hvx := (sr.ev hx).lit_inv
  split at h
  ·rename_i ie z τ τ0 xs c hie hz hτ hs0
   obtain ⟨zv, hzv, rfl⟩ := zeroA_inv hz hie
   split at h
   ·rename_i x00 hdec
    split at h
    ·rename_i hc
     obtain ⟨hs2, hs3, hs4⟩ := hc
     split at h
     ·rename_i zs hzs
      obtain ⟨rfl, hzs⟩ := cat_ok hzs
      simp only at hzs
      subst hzs
      simp only [Option.some.injEq] at h
      subst h
      rintro ⟨hn0, hg, hB, hL⟩
      obtain ⟨A0, olds, hv0, o1, o2, o3⟩ := rowc_cells (P := P) sr (sr.ev hs0)
      have hz2 : zv.cells.size = sz τ := by simpa using hs3
      have hkb : n.toNat * ie.bytes ≤ (xs.length + n.toNat) * ie.bytes := Nat.mul_le_mul_right _ (by omega)
      have hrun := Lib.run_append_grow_zeros (P := P) w t ti o.type e ie zv kx ki ht hti hie hzv A0 xs.length c olds (o2 _ hs2) n.toNat (by omega) (by rw [hs2]; exact sz_pos _) hg (by omega) (by omega) (growslice_fits hg hB)
      rw [Int.toNat_of_nonneg (by omega)] at hrun
      have hd := dec_ok hdec (RL_toList (RL_lits (w := w) (fz := Fz (Amb w0 ow) η) (η := η) zv.cells))
      have hrl : (xs ++ List.replicate n.toNat x00).length = xs.length + n.toNat := by rw [List.length_append, List.length_replicate]
      refine grow_core s hf (xs ++ List.replicate n.toNat x00) (olds ++ (Builtin.zeroCells zv.cells n.toNat).toList) (by rw [List.length_append, o1, show (Builtin.zeroCells zv.cells n.toNat).toList.length = n.toNat * sz τ from by rw [Array.length_toList, size_zeroCells, hz2], hrl, Nat.add_mul]) (grownCap w (xs.length + n.toNat) c e) (by rw [hrl]; exact grownCap_ge w _ _ _) (grownCap_le_maxLen w _ _ _ (by unfold maxLen; omega)) _ (by rw [size_zeroCells, hz2, hrl]) (fun i x j y hx hy => ?_) (exec _ _ (by
       rw [hv0, hvx, hrl]
       have e1 : (olds ++ (Builtin.zeroCells zv.cells n.toNat).toList).toArray = olds.toArray ++ Builtin.zeroCells zv.cells n.toNat := by apply Array.ext'; simp
       rw [e1]; exact hrun))
      have hj : j < sz τ := by have := (List.getElem?_eq_some_iff.1 hy).1; rwa [enc_len] at this
      by_cases hi : i < xs.length
      ·rw [List.getElem?_append_left hi] at hx
       obtain ⟨vv, h1, h2⟩ := o3 i x j y hx hy
       have : (i + 1) * sz τ ≤ xs.length * sz τ := Nat.mul_le_mul_right _ hi
       rw [Nat.add_mul] at this
       exact ⟨vv, by rw [List.getElem?_append_left (by rw [o1]; omega)]; exact h1, h2⟩
      ·rw [List.getElem?_append_right (by omega)] at hx
       have hi2 : i - xs.length < n.toNat := by have := (List.getElem?_eq_some_iff.1 hx).1; simpa using this
       rw [List.getElem?_replicate, if_pos hi2] at hx
       simp only [Option.some.injEq] at hx
       subst hx
       have hjc : j < zv.cells.size := by omega
       refine ⟨zv.cells[j], ?_, hd.2 j _ y (by rw [Array.getElem?_toList]; exact Array.getElem?_eq_getElem hjc) hy⟩
       have hge : xs.length * sz τ ≤ i * sz τ := Nat.mul_le_mul_right _ (by omega)
       rw [List.getElem?_append_right (by rw [o1]; omega), o1, zeroCells_eq hz2, show i * sz τ + j - xs.length * sz τ = (i - xs.length) * sz τ + j by rw [Nat.sub_mul]; omega, madeCells_at hz2 hi2 hj]
       exact Array.getElem?_eq_getElem hjc
     ·cases h
    ·cases h
   ·cases h
  ·cases h
 ·cases h
theorem copy_core (s : Sim N w0 ow η tm bx a w) {o : Oper} {t t' e e0 : TypeId} {ie : TypeInfo} {τ : Ty} {xs zs : List (El τ)} {g cap c lo n : Nat} {ad : Addr} {news : List Value} {v0 v1 : Value} {cs : List Value} (ht : P.underlying t = some (.slice e)) (hie : P.info? e = some ie) (hsz : ie.size = sz τ)
  (hu : η b = some (.slice (some ⟨g, 0, none⟩) xs.length cap)) (hown : w.ownsRow 0 e0 (sz τ) (.slice (some ⟨g, 0, none⟩) xs.length cap) xs.length cs) (hel : ∀ i x j y, xs[i]? = some x → (enc τ x)[j]? = some y → ∃ v, cs[i * sz τ + j]? = some v ∧ R w (Fz (Amb w0 ow) η) η v y)
  (hlo : lo ≤ xs.length) (hn : n = min zs.length (xs.length - lo)) (hv0 : v0 = .slice (some ⟨g, lo * sz τ, none⟩) (xs.length - lo) c) (hv1 : ∃ cc, v1 = .slice (some ad) zs.length cc) (n1 : news.length = zs.length * sz τ) (n2 : ∀ (j : Nat) u, news[j]? = some u → w.cell? (ad.add j) = some u) (n3 : ∀ u ∈ news, u.oneCell' = true)
  (n4 : ∀ i y (j : Nat) z, zs[i]? = some y → (enc τ y)[j]? = some z → ∃ u, news[i * sz τ + j]? = some u ∧ R w (Fz (Amb w0 ow) η) η u z) :
  ∃ cur', (Builtin.copy_ #[t, t'] o.type #[v0, v1]).run P w = .ok (.int .i64 n) (w.setRow g cur') ∧ ∃ cs', (w.setRow g cur').ownsRow 0 e0 (sz τ) (.slice (some ⟨g, 0, none⟩) xs.length cap) (xs.take lo ++ (zs.take (xs.length - lo) ++ xs.drop (lo + zs.length))).length cs' ∧
   ∀ i x j y, (xs.take lo ++ (zs.take (xs.length - lo) ++ xs.drop (lo + zs.length)))[i]? = some x → (enc τ x)[j]? = some y → ∃ v, cs'[i * sz τ + j]? = some v ∧ R (w.setRow g cur') (Fz (Amb w0 ow) η) η v y := by
 obtain ⟨cc, rfl⟩ := hv1
 subst hv0
 rcases hown.2 with ⟨hcon, _⟩ | ⟨g', cap', cur, he, _, q1, q2, q3, q4, q5⟩
 ·cases hcon
 injection he with he1 he2 he3
 injection he1 with he1; injection he1 with he1
 subst he1 he3
 have hmin : Nat.min (xs.length - lo) zs.length = n := by rw [hn]; exact Nat.min_comm _ _
 have hmin2 : Nat.min zs.length (xs.length - lo) = n := hn.symm
 have hlen' : (xs.take lo ++ (zs.take (xs.length - lo) ++ xs.drop (lo + zs.length))).length = xs.length := by
  simp only [List.length_append, List.length_take, List.length_drop]; omega
 have hnz : n * sz τ ≤ zs.length * sz τ := Nat.mul_le_mul_right _ (by omega)
 have hlon : lo * sz τ + n * sz τ ≤ xs.length * sz τ := by rw [← Nat.add_mul]; exact Nat.mul_le_mul_right _ (by omega)
 have hxc : xs.length * sz τ ≤ cap * sz τ := Nat.mul_le_mul_right _ q2
 have hD : (news.take (n * sz τ)).length = n * sz τ := by simp; omega
 have hload := run_loadCells_list (P := P) w ad (news.take (n * sz τ)) (fun j v hv => by
  rw [List.getElem?_take] at hv
  split at hv
  ·exact n2 j v hv
  ·cases hv)
 rw [hD] at hload
 have hst := run_storeCells_at P g (lo * sz τ) e0 (news.take (n * sz τ)) 0 cur w q1 (by rw [hD]; omega) (fun v hv => n3 v (List.mem_of_mem_take hv))
 simp only [Nat.add_zero, Nat.zero_add, hD] at hst
 have tr := same_tr s hu rfl (cur.toList.take (lo * sz τ) ++ news.take (n * sz τ) ++ cur.toList.drop (lo * sz τ + n * sz τ)).toArray
 refine ⟨(cur.toList.take (lo * sz τ) ++ news.take (n * sz τ) ++ cur.toList.drop (lo * sz τ + n * sz τ)).toArray, ?_, cs.take (lo * sz τ) ++ news.take (n * sz τ) ++ cs.drop (lo * sz τ + n * sz τ), ?_, ?_⟩
 ·simp [Builtin.copy_, run_underlying ht, Builtin.lenOf, hmin, hmin2, sizeOf_run hie, hsz, Builtin.firstCells, hload, hst, goInt]
 ·rw [hlen']
  refine ⟨?_, .inr ⟨g, cap, _, rfl, Nat.zero_le _, setRow_heap w g cur _ e0 (0, 0) q1, q2, q3, ?_, ?_⟩⟩
  ·have := hown.1
   simp only [List.length_append, hD, List.length_take, List.length_drop]; omega
  ·simp; omega
  ·have := take_splice cur.toList (news.take (n * sz τ)) (lo * sz τ) (n * sz τ) (xs.length * sz τ) hD hlon (by rw [← q4] at hxc; rw [Array.length_toList]; exact hxc)
   rw [q5] at this
   simpa using this
 ·intro i x j y hx hy
  have hj : j < sz τ := by have := (List.getElem?_eq_some_iff.1 hy).1; rwa [enc_len] at this
  have htl : (xs.take lo).length = lo := by simp; omega
  have hzl : (zs.take (xs.length - lo)).length = n := by simp; omega
  have hc1 := hown.1
  have hctl : (cs.take (lo * sz τ)).length = lo * sz τ := by rw [List.length_take, hc1]; omega
  by_cases hi : i < lo
  ·rw [List.getElem?_append_left (by omega), List.getElem?_take, if_pos hi] at hx
   obtain ⟨vv, h1, h2⟩ := hel i x j y hx hy
   have : (i + 1) * sz τ ≤ lo * sz τ := Nat.mul_le_mul_right _ hi
   rw [Nat.add_mul] at this
   exact ⟨vv, by rw [List.append_assoc, List.getElem?_append_left (by omega), List.getElem?_take, if_pos (by omega)]; exact h1, tr.R h2 (fun _ _ h => h)⟩
  ·have hge : lo * sz τ ≤ i * sz τ := Nat.mul_le_mul_right _ (by omega)
   have hsub : i * sz τ + j - lo * sz τ = (i - lo) * sz τ + j := by rw [Nat.sub_mul]; omega
   rw [List.getElem?_append_right (by omega), htl] at hx
   by_cases hi2 : i - lo < n
   ·rw [List.getElem?_append_left (by omega), List.getElem?_take, if_pos (by omega)] at hx
    obtain ⟨vv, h1, h2⟩ := n4 (i - lo) x j y hx hy
    have : (i - lo + 1) * sz τ ≤ n * sz τ := Nat.mul_le_mul_right _ hi2
    rw [Nat.add_mul] at this
    exact ⟨vv, by rw [List.append_assoc, List.getElem?_append_right (by omega), hctl, hsub, List.getElem?_append_left (by omega), List.getElem?_take, if_pos (by omega)]; exact h1, tr.R h2 (fun _ _ h => h)⟩
   ·rw [List.getElem?_append_right (by omega), hzl, List.getElem?_drop] at hx
    have hlt := (List.getElem?_eq_some_iff.1 hx).1
    have hzn : zs.length = n := by omega
    rw [hzn, show lo + n + (i - lo - n) = i by omega] at hx
    obtain ⟨vv, h1, h2⟩ := hel i x j y hx hy
    have : n * sz τ ≤ (i - lo) * sz τ := Nat.mul_le_mul_right _ (by omega)
    exact ⟨vv, by rw [List.append_assoc, List.getElem?_append_right (by omega), hctl, hsub, List.getElem?_append_right (by omega), hD, List.getElem?_drop, show lo * sz τ + n * sz τ + ((i - lo) * sz τ + j - n * sz τ) = i * sz τ + j by omega]; exact h1, tr.R h2 (fun _ _ h => h)⟩
def wrCopyC (P : Program) (tm : Nat → Option AV) (bx : Bx) (t : TypeId) (d x : Operand) : Option Wr :=
  match P.underlying t with
  | some (.slice e) => match P.info? e, evalA tm d, evalA tm x with
    | some ie, some (.ot τ0 b lo), some y => match bx b, srcOf bx y with
      | some (.sl e0 τ xs), some ⟨τ', ys⟩ => if ie.size = sz τ ∧ sz τ0 = sz τ then match cat τ τ' [] ys with
          | some zs => some ⟨lo < xs.length ∧ 0 < zs.length, some (.lit (.int .i64 (min zs.length (xs.length - lo) : Nat))), [], [(b, .sl e0 τ (xs.take lo ++ (zs.take (xs.length - lo) ++ xs.drop (lo + zs.length))))], false⟩
          | none => none
        else none
      | _, _ => none
    | some ie, some (.own b), some y => match bx b, srcOf bx y with
      | some (.full e0 τ xs), some ⟨τ', ys⟩ => if ie.size = sz τ then match cat τ τ' [] ys with
          | some zs => some ⟨True, some (.lit (.int .i64 (min zs.length xs.length : Nat))), [], [(b, .full e0 τ (zs.take xs.length ++ xs.drop zs.length))], false⟩
          | none => none
        else none
      | _, _ => none
    | _, _, _ => none
  | _ => none
theorem wrCopyC_ok (s : Sim N w0 ow η tm bx a w) (sr : Sim N w0 ow η tmr bxr a w) {o : Oper} {t t' : TypeId} {x0 x1 : Operand} {E : Wr} (ho : o.op = .call { callee := .builtin .copy, args := #[x0, x1], argTypes := #[t, t'] })
  (h : wrCopyC P tmr bxr t x0 x1 = some E) : Does P N w0 ow tm bx a w o E := by
 unfold wrCopyC at h
 have exec : ∀ v w', (Builtin.copy_ #[t, t'] o.type #[a.eval x0, a.eval x1]).run P w = .ok v w' → (execOp a.eval o).run P w = .ok (.value v) w' := fun v w' hr => by
  simp [execOp, ho, resolve, invoke, builtin, hr]
 split at h
 ·rename_i e ht
  split at h
  ·rename_i ie τ0 b lo y hie hs0 hs1
   split at h
   ·rename_i e0 τ xs τ' ys hb hsrc
    split at h
    ·rename_i hsz
     obtain ⟨hsz, hsz0⟩ := hsz
     split at h
     ·rename_i zs hzs
      obtain ⟨rfl, hzs⟩ := cat_ok hzs
      simp only [List.nil_append] at hzs
      subst hzs
      simp only [Option.some.injEq] at h
      subst h
      rintro ⟨hlo, hpos⟩
      obtain ⟨u, hu, cs, hown, hel⟩ := sr.dom b _ hb
      obtain ⟨g, m, cap, rfl, hlm, hv0⟩ := (sr.ev hs0).ot_inv hu
      obtain ⟨A, c, hv1, hm, hA, hnews⟩ := src_cells sr hsrc (sr.ev hs1)
      obtain ⟨ad, rfl⟩ : ∃ ad, A = some ad := by cases A with
       | none => have := hA rfl; subst this; simp at hpos
       | some ad => exact ⟨ad, rfl⟩
      obtain ⟨news, n1, n2, n3, n4⟩ := hnews ad rfl
      have hmx : m = xs.length := by
       rcases hown.2 with ⟨hc, _⟩ | ⟨g', cap', cur, he, _⟩
       ·cases hc
       ·injection he with _ h2 _
      subst hmx
      rw [hsz0] at hv0
      obtain ⟨cur', hrun, cs', ho', he'⟩ := copy_core (P := P) (b := b) s (o := o) (t' := t') (zs := zs) (lo := lo) (n := min zs.length (xs.length - lo)) ht hie hsz hu hown hel (Nat.le_of_lt hlo) rfl hv0 ⟨c, hv1⟩ n1 n2 n3 n4
      exact ⟨_, _, _, η, exec _ _ hrun, .inl rfl, (fun x hx => by simp only [Option.some.injEq] at hx; subst hx; exact .lit _), s.inplace hu rfl _ ⟨cs', by
       have : (xs.take lo ++ (zs.take (xs.length - lo) ++ xs.drop (lo + zs.length))).length = xs.length := by simp only [List.length_append, List.length_take, List.length_drop]; omega
       rw [this] at ho' ⊢; exact ho', he'⟩⟩
     ·cases h
    ·cases h
   ·cases h
  ·rename_i ie b y hie hs0 hs1
   split at h
   ·rename_i e0 τ xs τ' ys hb hsrc
    split at h
    ·rename_i hsz
     split at h
     ·rename_i zs hzs
      obtain ⟨rfl, hzs⟩ := cat_ok hzs
      simp only [List.nil_append] at hzs
      subst hzs
      simp only [Option.some.injEq] at h
      subst h
      intro _
      obtain ⟨u, hu, ⟨cs, hown, hel⟩, hcap⟩ := sr.dom b _ hb
      have hv0 := (sr.ev hs0).own_inv hu
      obtain ⟨A, c, hv1, hm, hA, hnews⟩ := src_cells sr hsrc (sr.ev hs1)
      have hl7 : (zs.take xs.length ++ xs.drop zs.length).length = xs.length := by simp only [List.length_append, List.length_take, List.length_drop]; omega
      by_cases hz : min zs.length xs.length = 0
      ·have hl : zs.take xs.length ++ xs.drop zs.length = xs := by
        by_cases h0 : xs.length = 0
        ·have : xs = [] := by cases xs; rfl; simp at h0
         subst this; simp
        ·have hz0 : zs.length = 0 := by omega
         have : zs = [] := List.eq_nil_of_length_eq_zero hz0
         subst this; simp
       rw [hz]
       refine ⟨.value (.int .i64 0), .int .i64 0, w, η, exec _ _ ?_, .inl rfl, (fun x hx => by simp only [Option.some.injEq] at hx; subst hx; exact .lit _), s.same hu (by rw [hl]; exact ⟨⟨cs, hown, hel⟩, hcap⟩)⟩
       rw [hv0, hv1]
       have hm1 : Nat.min zs.length xs.length = 0 := hz
       rcases hown.2 with ⟨rfl, h0⟩ | ⟨g, cap, cur, rfl, _⟩
       ·cases A <;> simp [Builtin.copy_, run_underlying ht, Builtin.lenOf, sizeOf_run hie, Builtin.firstCells, storeCells, goInt, loadCells, loadCellsFrom]
       ·cases A <;> simp [Builtin.copy_, run_underlying ht, Builtin.lenOf, sizeOf_run hie, Builtin.firstCells, storeCells, goInt, hm1, loadCells, loadCellsFrom]
      ·obtain ⟨ad, rfl⟩ : ∃ ad, A = some ad := by cases A with
        | none => have := hA rfl; subst this; simp at hz
        | some ad => exact ⟨ad, rfl⟩
       obtain ⟨news, n1, n2, n3, n4⟩ := hnews ad rfl
       rcases hown.2 with ⟨rfl, h0⟩ | ⟨g, cap, cur, rfl, _⟩
       ·omega
       obtain ⟨cur', hrun, cs', ho', he'⟩ := copy_core (P := P) (b := b) s (o := o) (t' := t') (zs := zs) (lo := 0) (n := min zs.length (xs.length - 0)) (c := cap) (v0 := a.eval x0) (v1 := a.eval x1) ht hie hsz hu hown hel (Nat.zero_le _) rfl (by rw [hv0]; simp) ⟨c, hv1⟩ n1 n2 n3 n4
       simp only [List.take_zero, List.nil_append, Nat.sub_zero, Nat.zero_add] at hrun ho' he'
       exact ⟨_, _, _, η, exec _ _ hrun, .inl rfl, (fun x hx => by simp only [Option.some.injEq] at hx; subst hx; exact .lit _), s.inplace hu rfl _ ⟨⟨cs', by rw [hl7] at ho' ⊢; exact ho', he'⟩, hcap⟩⟩
     ·cases h
    ·cases h
   ·cases h
  ·cases h
 ·cases h
def wrMakeFull (P : Program) (tt : TypeId → Option Ty) (key : Nat) (ρ : Operand → Option AV) (t : TypeId) (l c : Operand) : Option Wr :=
 match P.underlying t with
 | some (.slice e) => match P.info? e, zeroA P e, tt e, ρ l, ρ c with
  | some ie, some z, some τ, some (.lit (.int _ n)), some (.lit (.int _ m)) =>
   if ie.size = sz τ ∧ z.length = sz τ then match dec τ z with
    | some x0 => some ⟨n = m ∧ 0 ≤ n ∧ ie.bytes * n ≤ 281474976710656 ∧ n ≤ 9223372036854775807, some (.own key), [], [(key, .full e τ (List.replicate n.toNat x0))], true⟩
    | none => none
   else none
  | _, _, _, _, _ => none
 | _ => none
theorem wrMakeFull_ok (s : Sim N w0 ow η tm bx a w) (sr : Sim N w0 ow η tmr bxr a w) (hf : Fresh key tm bx) {o : Oper} {t : TypeId} {l c : Operand} {E : Wr} (ho : o.op = .makeSlice t l c) (h : wrMakeFull P tt key (evalA tmr) t l c = some E) : Does P N w0 ow tm bx a w o E := by
 unfold wrMakeFull at h
 split at h
 rename_i e ht
 split at h
 rename_i ie z τ kn n km m hie hz hτ hl hc
 split at h
 rename_i hsz
 obtain ⟨hs1, hs2⟩ := hsz
 obtain ⟨zv, hzv, rfl⟩ := zeroA_inv hz hie
 have hln := (sr.ev hl).lit_inv
 have hcm := (sr.ev hc).lit_inv
 split at h
 rename_i x0 hx0
 simp only [Option.some.injEq] at h
 subst h
 rintro ⟨rfl, h0, h1, h2⟩
 obtain ⟨w', hr, ho1, hg⟩ := run_make_full (P := P) w 0 t e ie zv (sz τ) ht hie hzv hs1 kn km n.toNat (bytes_le h0 h1) (by unfold maxLen; omega) (Nat.zero_le _)
 rw [Int.toNat_of_nonneg h0] at hr
 have hz2 : zv.cells.size = sz τ := by simpa using hs2
 obtain ⟨_, hs⟩ := s.grow (B := .full e τ (List.replicate n.toNat x0)) (v := .slice (some ⟨w.heap.size, 0, none⟩) n.toNat n.toNat) (del := []) hf hg (.inl rfl) (fun k hk => ⟨(ho1.lt k (by simp [blk] at hk; simp [Value.ownBlock, hk])).2, .inl (by simp [blk] at hk; omega)⟩)
 refine ⟨.value (.slice (some ⟨w.heap.size, 0, none⟩) n.toNat n.toNat), .slice (some ⟨w.heap.size, 0, none⟩) n.toNat n.toNat, w', _, by simp [execOp, ho, hln, hcm, hr], .inl rfl, (fun x hx => by simp at hx; subst hx; exact own_R (by simp [setη])), hs ⟨⟨_, by rw [List.length_replicate]; exact ho1, fun i x j y hx hy => ?_⟩, fun A m c h => by injection h with _ h2 h3; omega⟩⟩
 have hi : i < n.toNat := by have := (List.getElem?_eq_some_iff.1 hx).1; simpa using this
 have hj : j < sz τ := by have := (List.getElem?_eq_some_iff.1 hy).1; rwa [enc_len] at this
 rw [List.getElem?_replicate, if_pos hi] at hx
 simp only [Option.some.injEq] at hx
 subst hx
 rw [madeCells_at hz2 hi hj]
 have hd := fun fz η => dec_ok hx0 (RL_toList (RL_lits (w := w') (fz := fz) (η := η) zv.cells))
 have hjc : j < zv.cells.size := by omega
 exact ⟨zv.cells[j], Array.getElem?_eq_getElem hjc, (hd _ _).2 j _ y (by rw [Array.getElem?_toList]; exact Array.getElem?_eq_getElem hjc) hy⟩
 cases h
 cases h
 cases h
 cases h
def wrMore (P : Program) (tt : TypeId → Option Ty) (key : Nat) (fl : Option Bool) (o : Oper) (tm : Nat → Option AV) (bx : Bx) : Option Wr :=
 match o.op with
 | .makeSlice t l c => match fl with
  | some true => wrMakeFull P tt key (evalA tm) t l c
  | _ => none
 | .call ⟨.builtin .append, ⟨[s, x]⟩, ⟨[t, t']⟩⟩ => match wrAppendC P key tm bx t t' s x with
  | some E => some E
  | none => wrZerosC P tt key tm t t' s x
 | .call ⟨.builtin .copy, ⟨[s, x]⟩, ⟨[t, _]⟩⟩ => wrCopyC P tm bx t s x
 | _ => none
theorem wrMore_ok (s : Sim N w0 ow η tm bx a w) (sr : Sim N w0 ow η tmr bxr a w) (hf : Fresh key tm bx) {o : Oper} {fl : Option Bool} {E : Wr} (h : wrMore P tt key fl o tmr bxr = some E) : Does P N w0 ow tm bx a w o E := by
 unfold wrMore at h
 split at h
 rename_i t l c ho
 split at h
 exact wrMakeFull_ok s sr hf ho h
 cases h
 rename_i x0 x1 t t' ho
 split at h
 rename_i E' hE
 simp only [Option.some.injEq] at h
 subst h
 exact wrAppendC_ok s sr hf ho hE
 exact wrZerosC_ok s sr hf ho h
 rename_i x0 x1 t t' ho
 exact wrCopyC_ok s sr ho h
 cases h
def wrOp2 (P : Program) (tt : TypeId → Option Ty) (key : Nat) (fl : Option Bool) (o : Oper) (tm : Nat → Option AV) (bx : Bx) : Option Wr :=
 match wrMore P tt key fl o tm bx with
 | some E => some E
 | none => wrOp P tt key o tm bx
theorem wrOp2_ok (s : Sim N w0 ow η tm bx a w) (sr : Sim N w0 ow η tmr bxr a w) (hm0 : ∀ x y, evalA tmr x = some y → ment key y = false) (hf : Fresh key tm bx) {o : Oper} {fl : Option Bool} {E : Wr} (h : wrOp2 P tt key fl o tmr bxr = some E) : Does P N w0 ow tm bx a w o E := by
 unfold wrOp2 at h
 split at h
 rename_i E' hE
 simp only [Option.some.injEq] at h
 subst h
 exact wrMore_ok s sr hf hE
 exact wrOp_ok s sr hm0 hf h
def nzB : Box → Box
 | .full e τ xs => .sl e τ xs
 | B => B
def nzx (bx : Bx) : Bx := fun b => (bx b).map nzB
theorem Ctx.nz {fz : Nat → Prop} {ev : Operand → Value} {ρ : Operand → Option AV} (c : Ctx w fz η ev ρ bx) : Ctx w fz η ev ρ (nzx bx) := by
 refine ⟨c.ev, fun b B hB => ?_⟩
 unfold nzx at hB
 rw [Option.map_eq_some_iff] at hB
 obtain ⟨B0, hB0, rfl⟩ := hB
 obtain ⟨u, hu, hr⟩ := c.box b B0 hB0
 refine ⟨u, hu, ?_⟩
 cases B0 with
 | full e τ xs => exact hr.1
 | _ => exact hr
def rdIf (P : Program) (o : Oper) (ρ : Operand → Option AV) : Rd :=
 match o.op with
 | .binOp .neq t x y _ => match typ P t, ρ x, ρ y with
  | some (.interface _, _), some (.lit (.iface _ _)), some (.lit .nilIface) => some (True, .lit (.bool true))
  | some (.interface _, _), some (.lit .nilIface), some (.lit .nilIface) => match y with
   | .const _ => some (True, .lit (.bool false))
   | _ => none
  | _, _, _ => none
 | .typeAssert x _ t true => match typ P t, ρ x with
  | some (.interface _, _), _ => none
  | some _, some (.lit (.iface d u)) => if d = t then some (True, .tup [.lit u, .lit (.bool true)]) else none
  | _, _ => none
 | _ => none
theorem run_equalIn_if {P : Program} {w : World} {t : TypeId} {m : Array (String × TypeId)} {a : TypeId} {u : Value} (d : Nat) (h : P.underlying t = some (.interface m)) : (Op.equalIn (d + 1) t (.iface a u) .nilIface).run P w = .ok false w := by simp [Op.equalIn, run_underlying h]
theorem run_equal_if {P : Program} {w : World} {t : TypeId} {m : Array (String × TypeId)} {a : TypeId} {u : Value} (h : P.underlying t = some (.interface m)) : (Op.equal t (.iface a u) .nilIface).run P w = .ok false w := run_equalIn_if 9999 h
theorem run_equalIn_nn {P : Program} {w : World} {t : TypeId} {m : Array (String × TypeId)} (d : Nat) (h : P.underlying t = some (.interface m)) : (Op.equalIn (d + 1) t .nilIface .nilIface).run P w = .ok true w := by simp [Op.equalIn, run_underlying h]
theorem run_equal_nn {P : Program} {w : World} {t : TypeId} {m : Array (String × TypeId)} (h : P.underlying t = some (.interface m)) : (Op.equal t .nilIface .nilIface).run P w = .ok true w := run_equalIn_nn 9999 h
theorem rdIf_ok {fz : Nat → Prop} {ev : Operand → Value} {ρ : Operand → Option AV} {o : Oper} {E : Prop × AV} (c : Ctx w fz η ev ρ bx) (h : rdIf P o ρ = some E) : Yields P w fz η ev o E := by
 unfold rdIf at h
 split at h
 ·rename_i t x y t' ho
  split at h
  ·rename_i m n d u ht hx hy
   obtain ⟨ht, _⟩ := typ_und ht
   simp only [Option.some.injEq] at h
   subst h
   intro _
   have hv := (c.ev x _ hx).lit_inv
   have hv2 := (c.ev y _ hy).lit_inv
   exact ⟨.bool true, by simp [execOp, ho, hv, hv2, eqGuard, Go.binOp, run_equal_if ht], .lit _⟩
  ·rename_i m n ht hx hy
   split at h
   ·rename_i k
    obtain ⟨ht, _⟩ := typ_und ht
    simp only [Option.some.injEq] at h
    subst h
    intro _
    have hv := (c.ev x _ hx).lit_inv
    have hv2 := (c.ev _ _ hy).lit_inv
    exact ⟨.bool false, by simp [execOp, ho, hv, hv2, eqGuard, Go.binOp, run_equal_nn ht], .lit _⟩
   ·cases h
  ·cases h
 ·rename_i x xT t ho
  split at h
  ·cases h
  ·rename_i p d u hne ht hx
   split at h
   ·rename_i hd
    subst hd
    obtain ⟨dd, n⟩ := p
    obtain ⟨hu, _⟩ := typ_und ht
    simp only [Option.some.injEq] at h
    subst h
    intro _
    have hv := (c.ev x _ hx).lit_inv
    refine ⟨.tuple #[u, .bool true], ?_, .tup _ _ rfl (fun j v a hv ha => ?_)⟩
    ·cases dd <;> first | (exact (hne _ _ rfl).elim) | (simp [execOp, ho, hv, Instr.typeAssert, run_underlying hu])
    ·match j with
     | 0 => simp at hv ha; subst hv ha; exact .lit _
     | 1 => simp at hv ha; subst hv ha; exact .lit _
     | j + 2 => simp at hv
   ·cases h
  ·cases h
 ·cases h
def rdOp2 (P : Program) (o : Oper) (ρ : Operand → Option AV) (bx : Bx) : Rd :=
 match rdMore P o ρ bx with
 | some p => some p
 | none => match rdOp P o ρ bx with
  | some p => some p
  | none => match rdOp P o ρ (nzx bx) with
   | some p => some p
   | none => rdIf P o ρ
theorem rdOp2_ok {fz : Nat → Prop} {ev : Operand → Value} {ρ : Operand → Option AV} {o : Oper} {E : Prop × AV} (c : Ctx w fz η ev ρ bx) (h : rdOp2 P o ρ bx = some E) : Yields P w fz η ev o E := by
 unfold rdOp2 at h
 split at h
 rename_i p hp
 simp only [Option.some.injEq] at h
 subst h
 exact rdMore_ok c hp
 split at h
 rename_i p hp
 simp only [Option.some.injEq] at h
 subst h
 exact rdOp_ok c hp
 split at h
 rename_i p hp
 simp only [Option.some.injEq] at h
 subst h
 exact rdOp_ok c.nz hp
 exact rdIf_ok c h
end
inductive COut where
 | val (a : AV)
 | own (e : TypeId) (τ : Ty) (xs : List (El τ))
 | thr (v : Value)
def noη : Nat → Option Value := fun _ => none
def Post (w : World) (fz : Nat → Prop) (w' : World) (e : Ending) : COut → Prop
 | .val r => ∃ v, e = .returned v ∧ R w' (fun k => fz k ∨ w.heap.size ≤ k) noη v r
 | .own t τ xs => ∃ v, e = .returned v ∧ (∀ k, blk v = some k → w.heap.size ≤ k ∧ k < w'.heap.size) ∧ BoxR w' (fun k => (fz k ∨ w.heap.size ≤ k) ∧ blk v ≠ some k) noη v (.sl t τ xs)
 | .thr v => e = .panicked [{ v, recovered := false }]
def Ent (P : Program) (f : FuncId) : Prop := ∀ args w, (callFunc f args).run P w = .ok (.enter f args) w
theorem ent_of {P : Program} {f : FuncId} {fn : Func} (hf : P.funcs[f]? = some fn) (hname : (fn.name == "runtime.NumGoroutine") = false) (hb : fn.body.isSome = true) : Ent P f := by
 intro args w
 have h1 : fn.name ≠ "runtime.NumGoroutine" := by simpa using hname
 obtain ⟨c, hc⟩ := Option.isSome_iff_exists.1 hb
 simp [callFunc, hf, h1, hc]
def Con (P : Program) (I : World → Prop) (f : FuncId) (args : List AV) (out : COut) : Prop :=
 ∀ (w : World) (fz : Nat → Prop) (vs : Array Value), I w → (∀ k, fz k → k < w.heap.size) → RL w fz noη vs args → Calls P f vs w fun e w' => Post w fz w' e out ∧ Below w.heap.size w w'
mutual
def keysA : AV → List Nat
 | .own b => [b]
 | .ptr b _ => [b]
 | .op _ b _ _ => [b]
 | .ot _ b _ => [b]
 | .agg l => keysL l
 | .tup l => keysL l
 | .clo _ l => keysL l
 | _ => []
def keysL : List AV → List Nat
 | [] => []
 | a :: l => keysA a ++ keysL l
end
mutual
theorem mem_keysA {b : Nat} : (a : AV) → ment b a = true → b ∈ keysA a
 | .own c, h => by simp [ment] at h; simp [keysA, h]
 | .ptr c _, h => by simp [ment] at h; simp [keysA, h]
 | .op _ c _ _, h => by simp [ment] at h; simp [keysA, h]
 | .ot _ c _, h => by simp [ment] at h; simp [keysA, h]
 | .agg l, h => by simp only [ment] at h; simp only [keysA]; exact mem_keysL l h
 | .tup l, h => by simp only [ment] at h; simp only [keysA]; exact mem_keysL l h
 | .clo _ l, h => by simp only [ment] at h; simp only [keysA]; exact mem_keysL l h
 | .junk, h => by simp [ment] at h
 | .lit _, h => by simp [ment] at h
 | .row _ _, h => by simp [ment] at h
 | .ep _ _ _, h => by simp [ment] at h
theorem mem_keysL {b : Nat} : (l : List AV) → mentL b l = true → b ∈ keysL l
 | [], h => by simp [mentL] at h
 | a :: l, h => by
  simp only [mentL, Bool.or_eq_true] at h
  simp only [keysL, List.mem_append]
  rcases h with h | h
  exact .inl (mem_keysA a h)
  exact .inr (mem_keysL l h)
end
theorem ment_none {b : Nat} {a : AV} (h : keysA a = []) : ment b a = false := by
 cases hm : ment b a with
 | false => rfl
 | true => have := mem_keysA a hm; rw [h] at this; cases this
def flat1 : AV → Bool
 | .lit _ => true
 | _ => false
def flat : AV → Bool
 | .agg l => l.all flat1
 | .tup l => l.all flat1
 | a => flat1 a
theorem R_flat1 {w w' : World} {fz fz' : Nat → Prop} {η η' : Nat → Option Value} {v : Value} {a : AV} (hf : flat1 a = true) (h : R w fz η v a) : R w' fz' η' v a := by
 cases a <;> simp [flat1] at hf
 have e := h.lit_inv; subst e; exact .lit _
theorem R_flat {w w' : World} {fz fz' : Nat → Prop} {η η' : Nat → Option Value} {v : Value} {a : AV} (hf : flat a = true) (h : R w fz η v a) : R w' fz' η' v a := by
 unfold flat at hf
 split at hf
 obtain ⟨vs, rfl, hl, hR⟩ := h.agg_inv
 exact .agg _ _ hl (fun j v x hv hx => R_flat1 (List.all_eq_true.1 hf x (List.mem_of_getElem? hx)) (hR j v x hv hx))
 obtain ⟨vs, rfl, hl, hR⟩ := h.tup_inv
 exact .tup _ _ hl (fun j v x hv hx => R_flat1 (List.all_eq_true.1 hf x (List.mem_of_getElem? hx)) (hR j v x hv hx))
 exact R_flat1 hf h
def rnk (ρ : List (Nat × Nat)) (b : Nat) : Nat := (lkp ρ b).getD 0
def rn1 (ρ : List (Nat × Nat)) : AV → AV
 | .own b => .own (rnk ρ b)
 | .ptr b off => .ptr (rnk ρ b) off
 | .op τ b i off => .op τ (rnk ρ b) i off
 | .ot τ b lo => .ot τ (rnk ρ b) lo
 | a => a
def rn (ρ : List (Nat × Nat)) : AV → AV
 | .agg l => .agg (l.map (rn1 ρ))
 | .tup l => .tup (l.map (rn1 ρ))
 | .clo f l => .clo f (l.map (rn1 ρ))
 | a => rn1 ρ a
def rnB (ρ : List (Nat × Nat)) : Box → Box
 | .var l => .var (l.map (rn1 ρ))
 | .sl e τ xs => .sl e τ xs
 | .full e τ xs => .full e τ xs
 | .any => .any
def plain1 (ρ : List (Nat × Nat)) : AV → Bool
 | .own b => (lkp ρ b).isSome
 | .ptr b _ => (lkp ρ b).isSome
 | .op _ b _ _ => (lkp ρ b).isSome
 | .ot _ b _ => (lkp ρ b).isSome
 | .agg _ => false
 | .tup _ => false
 | .clo _ _ => false
 | _ => true
def plain (ρ : List (Nat × Nat)) : AV → Bool
 | .agg l => l.all (plain1 ρ)
 | .tup l => l.all (plain1 ρ)
 | .clo _ l => l.all (plain1 ρ)
 | a => plain1 ρ a
def plainB (ρ : List (Nat × Nat)) : Box → Bool
 | .var l => l.all (plain1 ρ)
 | .sl _ _ _ => true
 | .full _ _ _ => true
 | .any => true
def injOk (ρ : List (Nat × Nat)) : Bool := (ρ.map (·.2)).Nodup
theorem nodup_inj : ∀ {ρ : List (Nat × Nat)}, (ρ.map (·.2)).Nodup → ∀ {b b' c : Nat}, lkp ρ b = some c → lkp ρ b' = some c → b = b'
 | [], _, _, _, _, h, _ => by cases h
 | (k, x) :: l, hn, b, b', c, h, h' => by
  simp only [List.map_cons, List.nodup_cons] at hn
  have no : ∀ b, lkp l b = some x → False := fun b hb => hn.1 (List.mem_map.2 ⟨(b, x), lkp_mem hb, rfl⟩)
  simp only [lkp] at h h'
  split at h
  rename_i e
  simp only [Option.some.injEq] at h
  subst h
  split at h'
  rename_i e'; rw [e, e']
  exact (no b' h').elim
  split at h'
  simp only [Option.some.injEq] at h'; subst h'; exact (no b h).elim
  exact nodup_inj hn.2 h h'
structure CI where
 f : FuncId
 args : List AV
 snap : List Nat
 del : List Nat
 out : COut
 bi : List (Nat × Box) := []
 bo : List (Nat × Box) := []
 ρ : List (Nat × Nat) := []
def fit1 : AV → AV → AV
 | .lit (.slice none 0 0), .row τ _ => .row τ []
 | .rowc τ xs _, .row _ _ => .row τ xs
 | .rown τ xs _, .row _ _ => .row τ xs
 | a, _ => a
def fit : AV → AV → AV
 | .agg l, .agg m => if l.length = m.length then .agg (List.zipWith fit1 l m) else .agg l
 | a, b => fit1 a b
theorem R_fit1 {w : World} {fz : Nat → Prop} {η : Nat → Option Value} {v : Value} {a b : AV} (h : R w fz η v a) : R w fz η v (fit1 a b) := by
 unfold fit1
 split
 have e := h.lit_inv; subst e; exact .nil _
 obtain ⟨_, _, h⟩ := h.rowc_inv; exact h
 obtain ⟨_, _, _, _, h⟩ := h.rown_inv; exact h
 exact h
theorem R_fit {w : World} {fz : Nat → Prop} {η : Nat → Option Value} {v : Value} {a b : AV} (h : R w fz η v a) : R w fz η v (fit a b) := by
 unfold fit
 split
 split
 rename_i l m hlm
 obtain ⟨vs, rfl, hl, hR⟩ := h.agg_inv
 refine .agg _ _ (by simp; omega) (fun j u y hu hy => ?_)
 rw [List.getElem?_zipWith] at hy
 split at hy
 rename_i x z hx hz
 simp only [Option.some.injEq] at hy
 subst hy
 exact R_fit1 (hR j u x hu hx)
 cases hy
 exact h
 exact R_fit1 h
def calleeA (tm : Nat → Option AV) (x : Operand) : Option (FuncId × List AV) :=
 match evalA tm x with
 | some (.lit (.func (.func f) ⟨[]⟩ ⟨[]⟩)) => some (f, [])
 | some (.clo (.func f) l) => some (f, l)
 | _ => none
def flatOut : COut → Bool
 | .val a => flat a
 | .own _ _ _ => false
 | .thr _ => true
def wrCall (key : Nat) (ci : CI) (o : Oper) (tm : Nat → Option AV) (bx : Bx) : Option (Wr × Option Value) :=
 match o.op with
 | .call ⟨.value x, ars, _⟩ => match calleeA tm x, ars.toList.mapM (evF tm bx (ci.del ++ ci.snap)) with
  | some (f, l), some m =>
   if f = ci.f ∧ ci.args.all (fun a => (keysA a).isEmpty) = true ∧ (ci.snap.isEmpty = true ∨ flatOut ci.out = true) ∧ (m ++ l.map (frz bx (ci.del ++ ci.snap))).length = ci.args.length then
    match ci.out with
    | .val r => if (keysA r).isEmpty then some (⟨List.zipWith fit (m ++ l.map (frz bx (ci.del ++ ci.snap))) ci.args = ci.args, some r, ci.del, [], false⟩, none) else none
    | .own e τ xs => some (⟨List.zipWith fit (m ++ l.map (frz bx (ci.del ++ ci.snap))) ci.args = ci.args, some (.own key), ci.del, [(key, .sl e τ xs)], true⟩, none)
    | .thr v => some (⟨List.zipWith fit (m ++ l.map (frz bx (ci.del ++ ci.snap))) ci.args = ci.args, none, [], [], false⟩, some v)
   else none
  | _, _ => none
 | _ => none
section
variable {P : Program} {I : World → Prop} {w w' w0 : World} {ow : Own} {η η' : Nat → Option Value} {N key b g : Nat} {tm tmr : Nat → Option AV} {bx bxr : Bx} {a : Act} {u v : Value} {B : Box} {x : AV}
theorem below_tr (s : Sim N w0 ow η tm bx a w) (h : Below w.heap.size w w') (c : Nat) : Tr η η c w w' := by
 refine ⟨h.os, h.tape, h.output, h.size, fun k hk _ => h.block k hk, fun _ _ _ h => h, fun b u k _ hu hk => h.block k (s.bound b u k hu hk), fun u k hu hk => ⟨Nat.lt_of_lt_of_le (s.bound c u k hu hk) h.size, .inr ⟨c, u, hu, hk, fun b' u' hb hu' hk' => hb (s.apart b' c u' u k hu' hu hk' hk)⟩⟩⟩
theorem Sim.below (s : Sim N w0 ow η tm bx a w) (h : Below w.heap.size w w') : Sim N w0 ow η tm bx a w' := by
 refine s.tr (c := 0) (below_tr s h 0) (.inl fun _ h => h) (fun b B hb hB => ⟨hB, rfl⟩) (fun B hB => ?_)
 obtain ⟨u, hu, hr⟩ := s.dom 0 B hB
 exact ⟨u, hu, (below_tr s h 1).box (by decide) hu hr (fun _ _ h => h)⟩
theorem mapM_R {ρ : Operand → Option AV} {ev : Operand → Value} {fz : Nat → Prop} (hρ : ∀ x y, ρ x = some y → R w fz η (ev x) y) : ∀ (l : List Operand) (m : List AV), l.mapM ρ = some m → RLl w fz η (l.map ev) m
 | [], m, h => by simp at h; subst h; exact RLl_nil
 | x :: l, m, h => by
  simp only [List.mapM_cons] at h
  cases hx : ρ x with
  | none => simp [hx] at h
  | some y =>
   cases hl : l.mapM ρ with
   | none => simp [hx, hl] at h
   | some m' =>
    simp [hx, hl] at h
    subst h
    exact RLl_cons.2 ⟨hρ x y hx, mapM_R hρ l m' hl⟩
theorem RLl_append {fz : Nat → Prop} {C D : List Value} {l m : List AV} (h1 : RLl w fz η C l) (h2 : RLl w fz η D m) : RLl w fz η (C ++ D) (l ++ m) := by
 have e := h1.1
 refine ⟨by simp [h1.1, h2.1], fun j u x hu hx => ?_⟩
 by_cases hj : j < C.length
 rw [List.getElem?_append_left hj] at hu
 rw [List.getElem?_append_left (by omega)] at hx
 exact h1.2 j u x hu hx
 rw [List.getElem?_append_right (by omega)] at hu
 rw [List.getElem?_append_right (by omega)] at hx
 rw [e] at hu
 exact h2.2 _ u x hu hx
theorem updB_nil (bx : Bx) : updB bx [] [] = bx := by funext k; simp [updB, lkp]
theorem wrCall_ok (s : Sim N w0 ow η tm bx a w) (sr : Sim N w0 ow η tmr bxr a w) (hf : Fresh key tm bx) {o : Oper} {ci : CI} {E : Wr} {th : Option Value} (h : wrCall key ci o tmr bxr = some (E, th)) (hE : E.cond) (hent : Ent P ci.f) (hcon : Con P I ci.f ci.args ci.out) (hI : I w)
  {K : Act → World → Prop} {Q : Exit → Act → World → Prop} (hK : th = none → ∀ η' v w', (∀ x, E.val = some x → R w' (Fz (Amb w0 ow) η') η' v x) → Sim N w0 ow η' tm (updB bx E.del E.ins) a w' → K (a.put o.dst v) w')
  (hT : ∀ v, th = some v → ∀ w', Sim N w0 ow η tm bx a w' → Q (.panic [{ v, recovered := false }]) a w') : o.wp P a w K Q := by
 unfold wrCall at h
 split at h
 ·rename_i x ars ts ho
  split at h
  ·rename_i f l m hcal hm
   split at h
   ·rename_i hc
    obtain ⟨rfl, hk, hsn, hlen⟩ := hc
    -- the callee's value
    obtain ⟨caps, hcv, hcl⟩ : ∃ caps : Array Value, a.eval x = .func (.func ci.f) #[] caps ∧ RLl w (Fz (Amb w0 ow) η) η caps.toList l := by
     unfold calleeA at hcal
     split at hcal
     ·rename_i f' hx
      simp only [Option.some.injEq, Prod.mk.injEq] at hcal
      obtain ⟨rfl, rfl⟩ := hcal
      exact ⟨#[], (sr.ev hx).lit_inv, RLl_nil⟩
     ·rename_i f' l' hx
      simp only [Option.some.injEq, Prod.mk.injEq] at hcal
      obtain ⟨rfl, rfl⟩ := hcal
      obtain ⟨vs, hv, hl, hR⟩ := (sr.ev hx).clo_inv
      exact ⟨vs, hv, RL_toList ⟨hl, hR⟩⟩
     ·cases hcal
    generalize hD : ci.del ++ ci.snap = D at *
    have cF := sr.ctxF D
    have hargs : RL w (Fz (Amb w0 ow) (dropη η D)) (dropη η D) (ars.map a.eval ++ caps) (m ++ l.map (frz bxr D)) := by
     have h1 := mapM_R cF.ev ars.toList m hm
     have h2 : RLl w (Fz (Amb w0 ow) (dropη η D)) (dropη η D) caps.toList (l.map (frz bxr D)) := ⟨by simpa using hcl.1, fun j u y hu hy => by
      rw [List.getElem?_map, Option.map_eq_some_iff] at hy
      obtain ⟨y0, hy0, rfl⟩ := hy
      exact R_frz sr (hcl.2 j u y0 hu hy0) D⟩
     have h3 := RLl_append h1 h2
     refine ⟨by have := h3.1; simpa using this, fun j u y hu hy => h3.2 j u y ?_ hy⟩
     rw [← Array.getElem?_toList] at hu
     simpa using hu
    have hcond : List.zipWith fit (m ++ l.map (frz bxr D)) ci.args = ci.args := by
     split at h
     ·split at h
      ·simp only [Option.some.injEq, Prod.mk.injEq] at h; rw [← h.1] at hE; exact hE
      ·cases h
     ·simp only [Option.some.injEq, Prod.mk.injEq] at h; rw [← h.1] at hE; exact hE
     ·simp only [Option.some.injEq, Prod.mk.injEq] at h; rw [← h.1] at hE; exact hE
    have hargs2 : RL w (fun k => Fz (Amb w0 ow) (dropη η D) k ∧ k < w.heap.size) noη (ars.map a.eval ++ caps) ci.args := by
     refine ⟨by have := hargs.1; omega, fun j u y hu hy => ?_⟩
     have hj : j < (m ++ l.map (frz bxr D)).length := by have := (List.getElem?_eq_some_iff.1 hy).1; omega
     have hz : (List.zipWith fit (m ++ l.map (frz bxr D)) ci.args)[j]? = some (fit ((m ++ l.map (frz bxr D))[j]) y) := by
      rw [List.getElem?_zipWith, List.getElem?_eq_getElem hj, hy]
     rw [hcond, hy] at hz
     injection hz with hz
     have h4 := R_fit (b := y) (hargs.2 j u _ hu (List.getElem?_eq_getElem hj))
     rw [← hz] at h4
     have hkk : keysA y = [] := by have := List.all_eq_true.1 hk y (List.mem_of_getElem? hy); simpa using this
     exact h4.step (Nat.le_refl _) (fun _ _ _ => rfl) (fun k h1 h2 => ⟨h1, h2⟩) (fun b u hb _ => by rw [ment_none hkk] at hb; cases hb)
    have hcalls := hcon w (fun k => Fz (Amb w0 ow) (dropη η D) k ∧ k < w.heap.size) _ hI (fun k hk => hk.2) hargs2
    have hrun : (execOp a.eval o).run P w = .ok (.enter ci.f (ars.map a.eval ++ caps)) w := by
     have he := hent (ars.map a.eval ++ caps) w
     simp [execOp, ho, resolve, hcv, Deferred.ofValue, invoke, he]
    unfold Oper.wp
    rw [hrun, Oper.upon_enter]
    refine hcalls.mono fun e w' hh => ?_
    obtain ⟨hpost, hbel⟩ := hh
    split at h
    ·rename_i r hr
     split at h
     ·rename_i hkr
      simp only [Option.some.injEq, Prod.mk.injEq] at h
      obtain ⟨rfl, rfl⟩ := h
      rw [hr] at hpost
      obtain ⟨vr, rfl, hR⟩ := hpost
      have s2 := (s.drop ci.del).below hbel
      refine hK rfl (dropη η ci.del) vr w' (fun x hx => ?_) s2
      simp only [Option.some.injEq] at hx
      subst hx
      have hkk : keysA r = [] := by simpa using hkr
      by_cases hfl : flat r = true
      ·exact R_flat hfl hR
      ·have hsn2 : ci.snap = [] := by
        rcases hsn with h | h
        ·simpa using h
        ·rw [hr] at h; exact absurd h hfl
       rw [hsn2, List.append_nil] at hD
       subst hD
       refine hR.step (Nat.le_refl _) (fun _ _ _ => rfl) (fun k hk hlt => ?_) (fun b u hb _ => by rw [ment_none hkk] at hb; cases hb)
       rcases hk with ⟨hk, _⟩ | hk
       ·exact hk
       ·refine ⟨.inr (.inr (Nat.le_trans s.frame.size hk)), fun b u hb hbk => ?_⟩
        have := s.bound b u k (drop_some hb).1 hbk
        omega
     ·cases h
    ·rename_i e2 τ xs hr
     simp only [Option.some.injEq, Prod.mk.injEq] at h
     obtain ⟨rfl, rfl⟩ := h
     rw [hr] at hpost
     obtain ⟨vr, rfl, hblk, hB⟩ := hpost
     have hsn2 : ci.snap = [] := by
      rcases hsn with h | h
      ·simpa using h
      ·rw [hr] at h; cases h
     rw [hsn2, List.append_nil] at hD
     subst hD
     have s1 := s.drop ci.del
     obtain ⟨tr, hs⟩ := s1.grow (w' := w') (B := .sl e2 τ xs) (v := vr) (del := []) (row := none) (hf.drop ci.del) ⟨hbel.os, hbel.tape, hbel.output, hbel.size, fun k hk _ => hbel.block k hk⟩ (.inl rfl) (fun k hk => ⟨(hblk k hk).2, .inl (hblk k hk).1⟩)
     have hdd : dropη (dropη η ci.del) [] = dropη η ci.del := by funext b; simp [dropη]
     rw [hdd, updB_updB] at hs
     refine hK rfl _ vr w' (fun x hx => ?_) (hs ?_)
     ·simp only [Option.some.injEq] at hx; subst hx; exact own_R (by simp [setη])
     ·obtain ⟨cs, h1, h2⟩ := hB
      refine ⟨cs, h1, fun i x j y hx hy => ?_⟩
      obtain ⟨vv, h3, h4⟩ := h2 i x j y hx hy
      refine ⟨vv, h3, h4.step (Nat.le_refl _) (fun _ _ _ => rfl) (fun k hk hlt => ?_) (fun b u hb _ => by rw [enc_ment' hy] at hb; cases hb)⟩
      refine ⟨?_, fun b u hb hbk => ?_⟩
      ·rcases hk.1 with ⟨hk1, _⟩ | hk1
       ·exact hk1.1
       ·exact .inr (.inr (Nat.le_trans s.frame.size hk1))
      simp only [setη] at hb
      split at hb
      ·injection hb with hb; subst hb; exact hk.2 hbk
      ·rcases hk.1 with ⟨hk1, _⟩ | hk1
       ·exact hk1.2 b u hb hbk
       ·have := s.bound b u k (drop_some hb).1 hbk
        omega
    ·rename_i vt hr
     simp only [Option.some.injEq, Prod.mk.injEq] at h
     obtain ⟨rfl, rfl⟩ := h
     rw [hr] at hpost
     simp only [Post] at hpost
     subst hpost
     exact hT vt rfl w' (s.below hbel)
   ·cases h
  ·cases h
 ·cases h
end
abbrev BL := List (Nat × Box)
def nk (key : Nat) : List Nat := [key, key + 1000000, key + 2000000]
def Bk (η : Nat → Option Value) (k : Nat) : Prop := ∃ b u, η b = some u ∧ blk u = some k
def FzB (w : World) (fz : Nat → Prop) (η η' : Nat → Option Value) (k : Nat) : Prop := (fz k ∨ w.heap.size ≤ k ∨ Bk η k) ∧ Un η' k
def OutB (w' : World) (fz : Nat → Prop) (η' : Nat → Option Value) (e : Ending) : COut → Prop
 | .val r => ∃ v, e = .returned v ∧ R w' fz η' v r
 | .own _ _ _ => False
 | .thr v => e = .panicked [{ v, recovered := false }]
def PostB (w : World) (fz : Nat → Prop) (η : Nat → Option Value) (bi : BL) (w' : World) (e : Ending) (out : COut) (bo : BL) : Prop :=
 (w'.os = w.os ∧ w'.tape = w.tape ∧ w'.output = w.output ∧ w.heap.size ≤ w'.heap.size ∧ ∀ k, k < w.heap.size → ¬ Bk η k → w'.heap[k]? = w.heap[k]?) ∧
 ((∃ v, out = .thr v ∧ e = .panicked [{ v, recovered := false }]) ∨
 ∃ η' : Nat → Option Value, (∀ b u, η' b = some u → (lkp bo b).isSome = true) ∧ (∀ b, (lkp bi b).isSome = true → ∀ u u', η b = some u → η' b = some u' → u' = u) ∧
  (∀ b u k, η' b = some u → blk u = some k → k < w'.heap.size ∧ (w.heap.size ≤ k ∨ Bk η k)) ∧ (∀ b b' u u' k, η' b = some u → η' b' = some u' → blk u = some k → blk u' = some k → b = b') ∧
  (∀ b B, lkp bo b = some B → ∃ u, η' b = some u ∧ BoxR w' (FzB w fz η η') η' u B) ∧ OutB w' (FzB w fz η η') η' e out)
def ownB (fz : Nat → Prop) (η : Nat → Option Value) : Own := ⟨Bk η, fz, η, []⟩
def ConB (P : Program) (I : World → Prop) (f : FuncId) (args : List AV) (bi : BL) (out : COut) (bo : BL) : Prop :=
 ∀ (w : World) (fz : Nat → Prop) (η : Nat → Option Value) (vs : Array Value), (∀ w', Fr (ownB fz η) w w' → I w') → (∀ k, fz k → k < w.heap.size) → (∀ b u, η b = some u → (lkp bi b).isSome = true) → (∀ b B, lkp bi b = some B → ∃ u, η b = some u ∧ BoxR w fz η u B) →
  (∀ b u k, η b = some u → blk u = some k → k < w.heap.size ∧ ¬ fz k) → (∀ b b' u u' k, η b = some u → η b' = some u' → blk u = some k → blk u' = some k → b = b') → RL w fz η vs args →
  Calls P f vs w fun e w' => PostB w fz η bi w' e out bo
def bkeys (l : BL) : List Nat := l.map (·.1)
def plainOut (ρ : List (Nat × Nat)) : COut → Bool
 | .val r => plain ρ r
 | .own _ _ _ => false
 | .thr _ => true
def okB (key : Nat) (ci : CI) : Bool :=
 injOk ci.ρ && ci.snap.isEmpty && ci.args.all (plain ci.ρ) && plainOut ci.ρ ci.out && ci.bi.all (fun p => (lkp ci.ρ p.1).isSome && plainB ci.ρ p.2) && ci.bo.all (fun p => (lkp ci.ρ p.1).isSome && plainB ci.ρ p.2) &&
 ci.ρ.all (fun p => (lkp ci.bi p.1).isSome || (lkp ci.bo p.1).isSome) && (bkeys ci.bo).all (fun b => (lkp ci.bi b).isSome || (nk key).contains (rnk ci.ρ b)) &&
 (bkeys ci.bi).all (fun b => !ci.del.contains (rnk ci.ρ b)) && (bkeys ci.bi).Nodup && (bkeys ci.bo).Nodup
def goneB (ci : CI) : List Nat := ci.del ++ ((bkeys ci.bi).filter fun b => !(lkp ci.bo b).isSome).map (rnk ci.ρ)
def wrCallB (key : Nat) (ci : CI) (o : Oper) (tm : Nat → Option AV) (bx : Bx) : Option (Wr × Option Value) :=
 match o.op with
 | .call ⟨.value x, ars, _⟩ => match calleeA tm x, ars.toList.mapM (evF tm bx ci.del) with
  | some (f, l), some m =>
   if f = ci.f ∧ okB key ci = true ∧ (m ++ l.map (frz bx ci.del)).length = ci.args.length then
    let C := List.zipWith fit (m ++ l.map (frz bx ci.del)) (ci.args.map (rn ci.ρ)) = ci.args.map (rn ci.ρ) ∧ ci.bi.map (fun p => bx (rnk ci.ρ p.1)) = ci.bi.map (fun p => some (rnB ci.ρ p.2))
    match ci.out with
    | .val r => some (⟨C, some (rn ci.ρ r), goneB ci, ci.bo.map (fun p => (rnk ci.ρ p.1, rnB ci.ρ p.2)), true⟩, none)
    | .own _ _ _ => none
    | .thr v => some (⟨C, none, [], [], false⟩, some v)
   else none
  | _, _ => none
 | _ => none
section
variable {w : World} {fz fz' : Nat → Prop} {η η' : Nat → Option Value} {ρ : List (Nat × Nat)} {v : Value} {x : AV}
theorem rnk_of {b c : Nat} (h : lkp ρ b = some c) : rnk ρ b = c := by simp [rnk, h]
theorem R_in1 (hf : ∀ k, fz k → k < w.heap.size → fz' k) (hη : ∀ b u, η' b = some u → η (rnk ρ b) = some u) (hp : plain1 ρ x = true) (h : R w fz η v (rn1 ρ x)) : R w fz' η' v x := by
 have st : ∀ y, keysA y = [] → R w fz η v y → R w fz' η' v y := fun y hk h => h.step (Nat.le_refl _) (fun _ _ _ => rfl) hf (fun b u hb _ => by rw [ment_none hk] at hb; cases hb)
 cases x with
 | own b => exact .own _ _ (fun u hu => h.own_inv (hη b u hu))
 | ptr b off => exact .ptr _ _ _ (fun u hu => h.ptr_inv (hη b u hu))
 | op τ b i off => exact .op _ _ _ _ _ (fun u hu => h.op_inv (hη b u hu))
 | ot τ b lo => exact .ot _ _ _ _ (fun u hu => h.ot_inv (hη b u hu))
 | agg l => simp [plain1] at hp
 | tup l => simp [plain1] at hp
 | clo f l => simp [plain1] at hp
 | _ => exact st _ rfl h
theorem R_in (hf : ∀ k, fz k → k < w.heap.size → fz' k) (hη : ∀ b u, η' b = some u → η (rnk ρ b) = some u) (hp : plain ρ x = true) (h : R w fz η v (rn ρ x)) : R w fz' η' v x := by
 have elems : ∀ (vs : Array Value) (l : List AV), l.all (plain1 ρ) = true → (∀ (j : Nat) u y, vs[j]? = some u → (l.map (rn1 ρ))[j]? = some y → R w fz η u y) → ∀ (j : Nat) u y, vs[j]? = some u → l[j]? = some y → R w fz' η' u y := fun vs l hl hR j u y hu hy =>
  R_in1 hf hη (List.all_eq_true.1 hl y (List.mem_of_getElem? hy)) (hR j u _ hu (by rw [List.getElem?_map, hy]; rfl))
 cases x with
 | agg l => obtain ⟨vs, rfl, h1, h2⟩ := R.agg_inv h; exact .agg _ _ (by simpa using h1) (elems vs l hp h2)
 | tup l => obtain ⟨vs, rfl, h1, h2⟩ := R.tup_inv h; exact .tup _ _ (by simpa using h1) (elems vs l hp h2)
 | clo f l => obtain ⟨vs, rfl, h1, h2⟩ := R.clo_inv h; exact .clo _ _ _ (by simpa using h1) (elems vs l hp h2)
 | _ => exact R_in1 hf hη hp h
theorem R_out1 (hf : ∀ k, fz k → k < w.heap.size → fz' k) (hη : ∀ b u, (lkp ρ b).isSome = true → η' (rnk ρ b) = some u → η b = some u) (hp : plain1 ρ x = true) (h : R w fz η v x) : R w fz' η' v (rn1 ρ x) := by
 have st : ∀ y, keysA y = [] → R w fz η v y → R w fz' η' v y := fun y hk h => h.step (Nat.le_refl _) (fun _ _ _ => rfl) hf (fun b u hb _ => by rw [ment_none hk] at hb; cases hb)
 cases x with
 | own b => exact .own _ _ (fun u hu => h.own_inv (hη b u hp hu))
 | ptr b off => exact .ptr _ _ _ (fun u hu => h.ptr_inv (hη b u hp hu))
 | op τ b i off => exact .op _ _ _ _ _ (fun u hu => h.op_inv (hη b u hp hu))
 | ot τ b lo => exact .ot _ _ _ _ (fun u hu => h.ot_inv (hη b u hp hu))
 | agg l => simp [plain1] at hp
 | tup l => simp [plain1] at hp
 | clo f l => simp [plain1] at hp
 | _ => exact st _ rfl h
theorem R_out (hf : ∀ k, fz k → k < w.heap.size → fz' k) (hη : ∀ b u, (lkp ρ b).isSome = true → η' (rnk ρ b) = some u → η b = some u) (hp : plain ρ x = true) (h : R w fz η v x) : R w fz' η' v (rn ρ x) := by
 have elems : ∀ (vs : Array Value) (l : List AV), l.all (plain1 ρ) = true → (∀ (j : Nat) u y, vs[j]? = some u → l[j]? = some y → R w fz η u y) → ∀ (j : Nat) u y, vs[j]? = some u → (l.map (rn1 ρ))[j]? = some y → R w fz' η' u y := fun vs l hl hR j u y hu hy => by
  rw [List.getElem?_map, Option.map_eq_some_iff] at hy
  obtain ⟨y0, hy0, rfl⟩ := hy
  exact R_out1 hf hη (List.all_eq_true.1 hl y0 (List.mem_of_getElem? hy0)) (hR j u y0 hu hy0)
 cases x with
 | agg l => obtain ⟨vs, rfl, h1, h2⟩ := R.agg_inv h; exact .agg _ _ (by simpa using h1) (elems vs l hp h2)
 | tup l => obtain ⟨vs, rfl, h1, h2⟩ := R.tup_inv h; exact .tup _ _ (by simpa using h1) (elems vs l hp h2)
 | clo f l => obtain ⟨vs, rfl, h1, h2⟩ := R.clo_inv h; exact .clo _ _ _ (by simpa using h1) (elems vs l hp h2)
 | junk => exact R_out1 (x := .junk) hf hη hp h
 | lit u => exact R_out1 (x := .lit u) hf hη hp h
 | row τ xs => exact R_out1 (x := .row τ xs) hf hη hp h
 | own b => exact R_out1 (x := .own b) hf hη hp h
 | ptr b off => exact R_out1 (x := .ptr b off) hf hη hp h
 | ep τ y off => exact R_out1 (x := .ep τ y off) hf hη hp h
 | op τ b i off => exact R_out1 (x := .op τ b i off) hf hη hp h
 | rowc τ xs c => exact R_out1 (x := .rowc τ xs c) hf hη hp h
 | rown τ xs b => exact R_out1 (x := .rown τ xs b) hf hη hp h
 | ot τ b lo => exact R_out1 (x := .ot τ b lo) hf hη hp h
theorem BoxR_in {u : Value} {B : Box} (hf : ∀ k, fz k → k < w.heap.size → fz' k) (hη : ∀ b u, η' b = some u → η (rnk ρ b) = some u) (hp : plainB ρ B = true) (h : BoxR w fz η u (rnB ρ B)) : BoxR w fz' η' u B := by
 cases B with
 | any => exact h
 | var l =>
  obtain ⟨g, C, e, rfl, q1, q2, q3⟩ := h
  exact ⟨g, C, e, rfl, q1, by simpa using q2, fun j v x hv hx => R_in1 hf hη (List.all_eq_true.1 hp x (List.mem_of_getElem? hx)) (q3 j v _ hv (by rw [List.getElem?_map, hx]; rfl))⟩
 | sl e τ xs =>
  obtain ⟨cs, q1, q2⟩ := h
  refine ⟨cs, q1, fun i x j y hx hy => ?_⟩
  obtain ⟨v, hv, hr⟩ := q2 i x j y hx hy
  exact ⟨v, hv, hr.step (Nat.le_refl _) (fun _ _ _ => rfl) hf (fun b u hb _ => by rw [enc_ment' hy] at hb; cases hb)⟩
 | full e τ xs =>
  obtain ⟨⟨cs, q1, q2⟩, qc⟩ := h
  refine ⟨⟨cs, q1, fun i x j y hx hy => ?_⟩, qc⟩
  obtain ⟨v, hv, hr⟩ := q2 i x j y hx hy
  exact ⟨v, hv, hr.step (Nat.le_refl _) (fun _ _ _ => rfl) hf (fun b u hb _ => by rw [enc_ment' hy] at hb; cases hb)⟩
theorem BoxR_out {u : Value} {B : Box} (hf : ∀ k, fz k → k < w.heap.size → fz' k) (hη : ∀ b u, (lkp ρ b).isSome = true → η' (rnk ρ b) = some u → η b = some u) (hp : plainB ρ B = true) (h : BoxR w fz η u B) : BoxR w fz' η' u (rnB ρ B) := by
 cases B with
 | any => exact h
 | var l =>
  obtain ⟨g, C, e, rfl, q1, q2, q3⟩ := h
  refine ⟨g, C, e, rfl, q1, by simpa using q2, fun j v x hv hx => ?_⟩
  rw [List.getElem?_map, Option.map_eq_some_iff] at hx
  obtain ⟨x0, hx0, rfl⟩ := hx
  exact R_out1 hf hη (List.all_eq_true.1 hp x0 (List.mem_of_getElem? hx0)) (q3 j v x0 hv hx0)
 | sl e τ xs =>
  obtain ⟨cs, q1, q2⟩ := h
  refine ⟨cs, q1, fun i x j y hx hy => ?_⟩
  obtain ⟨v, hv, hr⟩ := q2 i x j y hx hy
  exact ⟨v, hv, hr.step (Nat.le_refl _) (fun _ _ _ => rfl) hf (fun b u hb _ => by rw [enc_ment' hy] at hb; cases hb)⟩
 | full e τ xs =>
  obtain ⟨⟨cs, q1, q2⟩, qc⟩ := h
  refine ⟨⟨cs, q1, fun i x j y hx hy => ?_⟩, qc⟩
  obtain ⟨v, hv, hr⟩ := q2 i x j y hx hy
  exact ⟨v, hv, hr.step (Nat.le_refl _) (fun _ _ _ => rfl) hf (fun b u hb _ => by rw [enc_ment' hy] at hb; cases hb)⟩
theorem map_at {α β : Type} {f g : α → β} : ∀ {l : List α}, l.map f = l.map g → ∀ p ∈ l, f p = g p
 | [], _, p, hp => by simp at hp
 | q :: l, h, p, hp => by
  simp only [List.map_cons, List.cons.injEq] at h
  rcases List.mem_cons.1 hp with rfl | hp
  exact h.1
  exact map_at h.2 p hp
theorem lkp_isSome {α : Type} : ∀ {l : List (Nat × α)} {t : Nat} {x : α}, (t, x) ∈ l → (lkp l t).isSome = true
 | [], _, _, h => by simp at h
 | (k, y) :: l, t, x, h => by
  simp only [lkp]
  split
  rfl
  rename_i hne
  rcases List.mem_cons.1 h with h | h
  injection h with h1 h2; exact absurd h1 hne
  exact lkp_isSome h
theorem lkp_nodup {α : Type} : ∀ {l : List (Nat × α)} {t : Nat} {x : α}, (l.map (·.1)).Nodup → (t, x) ∈ l → lkp l t = some x
 | [], _, _, _, h => by simp at h
 | (k, y) :: l, t, x, hn, h => by
  simp only [List.map_cons, List.nodup_cons] at hn
  simp only [lkp]
  rcases List.mem_cons.1 h with h | h
  injection h with h1 h2; subst h1 h2; simp
  have : t ≠ k := fun e => hn.1 (e ▸ List.mem_map.2 ⟨(t, x), h, rfl⟩)
  rw [if_neg this]; exact lkp_nodup hn.2 h
end
section
variable {P : Program} {I : World → Prop} {w w' w0 : World} {ow : Own} {η η' : Nat → Option Value} {N key : Nat} {tm tmr : Nat → Option AV} {bx bxr : Bx} {a : Act}
theorem lkp_image {α : Type} {l : List (Nat × α)} {ρ : List (Nat × Nat)} {β : Type} {g : α → β} {k : Nat} {y : β} (h : lkp (l.map fun p => (rnk ρ p.1, g p.2)) k = some y) : ∃ b x, (b, x) ∈ l ∧ k = rnk ρ b ∧ y = g x := by
 obtain ⟨⟨b, x⟩, hm, he⟩ := List.mem_map.1 (lkp_mem h)
 injection he with h1 h2
 exact ⟨b, x, hm, h1.symm, h2.symm⟩
theorem wrCallB_ok (s : Sim N w0 ow η tm bx a w) (sr : Sim N w0 ow η tmr bxr a w) (hf : ∀ k ∈ nk key, Fresh k tm bx) {o : Oper} {ci : CI} {E : Wr} {th : Option Value} (h : wrCallB key ci o tmr bxr = some (E, th)) (hE : E.cond) (hent : Ent P ci.f) (hcon : ConB P I ci.f ci.args ci.bi ci.out ci.bo) (hI : ∀ w', Fr ow w0 w' → I w')
  {K : Act → World → Prop} {Q : Exit → Act → World → Prop} (hK : th = none → ∀ η' v w', (∀ x, E.val = some x → R w' (Fz (Amb w0 ow) η') η' v x) → Sim N w0 ow η' tm (updB bx E.del E.ins) a w' → K (a.put o.dst v) w')
  (hT : ∀ v, th = some v → ∀ η' tm' bx' w', Sim N w0 ow η' tm' bx' a w' → Q (.panic [{ v, recovered := false }]) a w') : o.wp P a w K Q := by
 unfold wrCallB at h
 split at h
 ·rename_i x ars ts ho
  split at h
  ·rename_i f l m hcal hm
   split at h
   ·rename_i hc
    obtain ⟨rfl, hok, hlen⟩ := hc
    obtain ⟨caps, hcv, hcl⟩ : ∃ caps : Array Value, a.eval x = .func (.func ci.f) #[] caps ∧ RLl w (Fz (Amb w0 ow) η) η caps.toList l := by
     unfold calleeA at hcal
     split at hcal
     ·rename_i f' hx
      simp only [Option.some.injEq, Prod.mk.injEq] at hcal
      obtain ⟨rfl, rfl⟩ := hcal
      exact ⟨#[], (sr.ev hx).lit_inv, RLl_nil⟩
     ·rename_i f' l' hx
      simp only [Option.some.injEq, Prod.mk.injEq] at hcal
      obtain ⟨rfl, rfl⟩ := hcal
      obtain ⟨vs, hv, hl, hR⟩ := (sr.ev hx).clo_inv
      exact ⟨vs, hv, RL_toList ⟨hl, hR⟩⟩
     ·cases hcal
    simp only [okB, Bool.and_eq_true] at hok
    obtain ⟨⟨⟨⟨⟨⟨⟨⟨⟨⟨ok1, ok2⟩, ok3⟩, ok4⟩, ok5⟩, ok6⟩, ok7⟩, ok8⟩, ok10⟩, ok11⟩, ok12⟩ := hok
    have hinj : (ci.ρ.map (·.2)).Nodup := by simpa [injOk] using ok1
    have hnbi : (ci.bi.map (·.1)).Nodup := of_decide_eq_true ok11
    have hnbo : (ci.bo.map (·.1)).Nodup := of_decide_eq_true ok12
    have cF := sr.ctxF ci.del
    have hargs : RL w (Fz (Amb w0 ow) (dropη η ci.del)) (dropη η ci.del) (ars.map a.eval ++ caps) (m ++ l.map (frz bxr ci.del)) := by
     have h1 := mapM_R cF.ev ars.toList m hm
     have h2 : RLl w (Fz (Amb w0 ow) (dropη η ci.del)) (dropη η ci.del) caps.toList (l.map (frz bxr ci.del)) := ⟨by simpa using hcl.1, fun j u y hu hy => by
      rw [List.getElem?_map, Option.map_eq_some_iff] at hy
      obtain ⟨y0, hy0, rfl⟩ := hy
      exact R_frz sr (hcl.2 j u y0 hu hy0) ci.del⟩
     have h3 := RLl_append h1 h2
     refine ⟨by have := h3.1; simpa using this, fun j u y hu hy => h3.2 j u y ?_ hy⟩
     rw [← Array.getElem?_toList] at hu
     simpa using hu
    obtain ⟨hcond, hbx⟩ : List.zipWith fit (m ++ l.map (frz bxr ci.del)) (ci.args.map (rn ci.ρ)) = ci.args.map (rn ci.ρ) ∧ ci.bi.map (fun p => bxr (rnk ci.ρ p.1)) = ci.bi.map (fun p => some (rnB ci.ρ p.2)) := by
     simp only at h
     split at h
     ·simp only [Option.some.injEq, Prod.mk.injEq] at h; rw [← h.1] at hE; exact hE
     ·cases h
     ·simp only [Option.some.injEq, Prod.mk.injEq] at h; rw [← h.1] at hE; exact hE
    -- the callee's boxes
    obtain ⟨ηc, hηc⟩ : ∃ ηc : Nat → Option Value, ∀ b, ηc b = if (lkp ci.bi b).isSome = true then η (rnk ci.ρ b) else none := ⟨_, fun _ => rfl⟩
    have inbi : ∀ b B, lkp ci.bi b = some B → (b, B) ∈ ci.bi := fun b B h => lkp_mem h
    have ηc_some : ∀ b u, ηc b = some u → (lkp ci.bi b).isSome = true ∧ η (rnk ci.ρ b) = some u := fun b u hb => by
     rw [hηc] at hb
     split at hb
     ·rename_i h1; exact ⟨h1, hb⟩
     ·cases hb
    have nodel : ∀ b, (lkp ci.bi b).isSome = true → ci.del.contains (rnk ci.ρ b) = false := fun b hb => by
     obtain ⟨B, hB⟩ := Option.isSome_iff_exists.1 hb
     have := List.all_eq_true.1 ok10 b (List.mem_map.2 ⟨(b, B), inbi b B hB, rfl⟩)
     simpa using this
    have ηc_drop : ∀ b u, ηc b = some u → dropη η ci.del (rnk ci.ρ b) = some u := fun b u hb => by
     obtain ⟨h1, h2⟩ := ηc_some b u hb
     simp only [dropη]; rw [if_neg (by rw [nodel b h1]; decide)]; exact h2
    have rinj : ∀ b b', (lkp ci.ρ b).isSome = true → (lkp ci.ρ b').isSome = true → rnk ci.ρ b = rnk ci.ρ b' → b = b' := fun b b' h1 h2 he => by
     obtain ⟨c, hc⟩ := Option.isSome_iff_exists.1 h1
     obtain ⟨c', hc'⟩ := Option.isSome_iff_exists.1 h2
     rw [rnk_of hc, rnk_of hc'] at he
     subst he
     exact nodup_inj hinj hc hc'
    have inρ_bi : ∀ b, (lkp ci.bi b).isSome = true → (lkp ci.ρ b).isSome = true := fun b hb => by
     obtain ⟨B, hB⟩ := Option.isSome_iff_exists.1 hb
     have := List.all_eq_true.1 ok5 (b, B) (inbi b B hB)
     simp only [Bool.and_eq_true] at this; exact this.1
    have inρ_bo : ∀ b, (lkp ci.bo b).isSome = true → (lkp ci.ρ b).isSome = true := fun b hb => by
     obtain ⟨B, hB⟩ := Option.isSome_iff_exists.1 hb
     have := List.all_eq_true.1 ok6 (b, B) (lkp_mem hB)
     simp only [Bool.and_eq_true] at this; exact this.1
    have hfz : ∀ k, Fz (Amb w0 ow) (dropη η ci.del) k → k < w.heap.size → Fz (Amb w0 ow) (dropη η ci.del) k ∧ k < w.heap.size := fun k h1 h2 => ⟨h1, h2⟩
    have hargs2 : RL w (fun k => Fz (Amb w0 ow) (dropη η ci.del) k ∧ k < w.heap.size) ηc (ars.map a.eval ++ caps) ci.args := by
     refine ⟨by have := hargs.1; omega, fun j u y hu hy => ?_⟩
     have hj : j < (m ++ l.map (frz bxr ci.del)).length := by have := (List.getElem?_eq_some_iff.1 hy).1; omega
     have hy2 : (ci.args.map (rn ci.ρ))[j]? = some (rn ci.ρ y) := by rw [List.getElem?_map, hy]; rfl
     have hz : (List.zipWith fit (m ++ l.map (frz bxr ci.del)) (ci.args.map (rn ci.ρ)))[j]? = some (fit ((m ++ l.map (frz bxr ci.del))[j]) (rn ci.ρ y)) := by
      rw [List.getElem?_zipWith, List.getElem?_eq_getElem hj, hy2]
     rw [hcond, hy2] at hz
     injection hz with hz
     have h4 := R_fit (b := rn ci.ρ y) (hargs.2 j u _ hu (List.getElem?_eq_getElem hj))
     rw [← hz] at h4
     exact R_in hfz (fun b u hb => ηc_drop b u hb) (List.all_eq_true.1 ok3 y (List.mem_of_getElem? hy)) h4
    have hboxes : ∀ b B, lkp ci.bi b = some B → ∃ u, ηc b = some u ∧ BoxR w (fun k => Fz (Amb w0 ow) (dropη η ci.del) k ∧ k < w.heap.size) ηc u B := by
     intro b B hB
     have he := map_at hbx (b, B) (inbi b B hB)
     simp only at he
     obtain ⟨u, hu, hr⟩ := sr.dom _ _ he
     have hp := List.all_eq_true.1 ok5 (b, B) (inbi b B hB)
     simp only [Bool.and_eq_true] at hp
     refine ⟨u, by rw [hηc, if_pos (by rw [hB]; rfl)]; exact hu, ?_⟩
     exact BoxR_in hfz (fun b u hb => ηc_drop b u hb) hp.2 (BoxR_drop hr ci.del)
    have hnew : ∀ b u k, ηc b = some u → blk u = some k → k < w.heap.size ∧ ¬ (Fz (Amb w0 ow) (dropη η ci.del) k ∧ k < w.heap.size) := fun b u k hb hk => by
     obtain ⟨_, h2⟩ := ηc_some b u hb
     exact ⟨(s.new _ u k h2 hk).1, fun hh => hh.1.2 _ u (ηc_drop b u hb) hk⟩
    have hap : ∀ b b' u u' k, ηc b = some u → ηc b' = some u' → blk u = some k → blk u' = some k → b = b' := fun b b' u u' k hb hb' hk hk' => by
     obtain ⟨h1, h2⟩ := ηc_some b u hb
     obtain ⟨h3, h4⟩ := ηc_some b' u' hb'
     exact rinj b b' (inρ_bi b h1) (inρ_bi b' h3) (s.apart _ _ u u' k h2 h4 hk hk')
    have hI2 : ∀ w', Fr (ownB (fun k => Fz (Amb w0 ow) (dropη η ci.del) k ∧ k < w.heap.size) ηc) w w' → I w' := fun w' hfr => hI w' ⟨hfr.os.trans s.frame.os, hfr.tape.trans s.frame.tape, hfr.output.trans s.frame.output, Nat.le_trans s.frame.size hfr.size, fun k hk hno => by
     rw [← s.frame.block k hk hno]
     refine hfr.block k (Nat.lt_of_lt_of_le hk s.frame.size) (fun hb => ?_)
     obtain ⟨b, u, hb1, hb2⟩ := hb
     rcases (s.new _ u k (ηc_some b u hb1).2 hb2).2 with h1 | h1
     ·omega
     ·exact hno h1⟩
    have hcalls := hcon w (fun k => Fz (Amb w0 ow) (dropη η ci.del) k ∧ k < w.heap.size) ηc _ hI2 (fun k hk => hk.2) (fun b u hb => (ηc_some b u hb).1) hboxes hnew hap hargs2
    have hrun : (execOp a.eval o).run P w = .ok (.enter ci.f (ars.map a.eval ++ caps)) w := by
     have he := hent (ars.map a.eval ++ caps) w
     simp [execOp, ho, resolve, hcv, Deferred.ofValue, invoke, he]
    have bk_old : ∀ k, Bk ηc k → ∃ b u, (lkp ci.bi b).isSome = true ∧ η (rnk ci.ρ b) = some u ∧ blk u = some k := fun k ⟨b, u, hb, hk⟩ => ⟨b, u, (ηc_some b u hb).1, (ηc_some b u hb).2, hk⟩
    have un_bk : ∀ k, Un η k → ¬ Bk ηc k := fun k hk hb => by
     obtain ⟨b, u, _, h2, h3⟩ := bk_old k hb
     exact hk _ u h2 h3
    unfold Oper.wp
    rw [hrun, Oper.upon_enter]
    refine hcalls.mono fun e w' hh => ?_
    obtain ⟨⟨ho1, ho2, ho3, ho4, ho5⟩, hpost⟩ := hh
    have hframe : Fr ow w0 w' := ⟨ho1.trans s.frame.os, ho2.trans s.frame.tape, ho3.trans s.frame.output, Nat.le_trans s.frame.size ho4, fun k hk hko => by
     rw [← s.frame.block k hk hko]
     refine ho5 k (Nat.lt_of_lt_of_le hk s.frame.size) (un_bk k (fun b u hb hbk => ?_))
     rcases (s.new b u k hb hbk).2 with h1 | h1
     ·omega
     ·exact hko h1⟩
    rcases hpost with ⟨vt, hout, he⟩ | ⟨η', p1, p2, p3, p4, p5, p6⟩
    ·simp only [hout, Option.some.injEq, Prod.mk.injEq] at h
     obtain ⟨rfl, rfl⟩ := h
     subst he
     exact hT vt rfl (fun _ => none) (fun _ => none) (fun _ => none) w' ⟨s.size, s.nod, hframe, (fun t av ht => by cases ht), (fun b B hb => by cases hb), (fun b u k hb => by cases hb), (fun b b' u u' k hb => by cases hb), (fun b u u' _ hb => by cases hb), s.pinlt⟩
    ·simp only at h
     split at h
     ·rename_i r hr
      simp only [Option.some.injEq, Prod.mk.injEq] at h
      obtain ⟨rfl, rfl⟩ := h
      rw [hr] at p6
      obtain ⟨vr, rfl, hR⟩ := p6
      obtain ⟨η2, hη2⟩ : ∃ η2 : Nat → Option Value, ∀ k, η2 k = match lkp (ci.bo.map fun p => (rnk ci.ρ p.1, p.1)) k with | some b => η' b | none => if (goneB ci).contains k then none else η k := ⟨_, fun _ => rfl⟩
      have im_fwd : ∀ k b, lkp (ci.bo.map fun p => (rnk ci.ρ p.1, p.1)) k = some b → (lkp ci.bo b).isSome = true ∧ k = rnk ci.ρ b := fun k b hk => by
       obtain ⟨⟨b1, B1⟩, hm1, he1⟩ := List.mem_map.1 (lkp_mem hk)
       injection he1 with h1 h2
       subst h2
       exact ⟨lkp_isSome hm1, h1.symm⟩
      have im_bwd : ∀ b, (lkp ci.bo b).isSome = true → lkp (ci.bo.map fun p => (rnk ci.ρ p.1, p.1)) (rnk ci.ρ b) = some b := fun b hb => by
       obtain ⟨B, hB⟩ := Option.isSome_iff_exists.1 hb
       have h1 : (lkp (ci.bo.map fun p => (rnk ci.ρ p.1, p.1)) (rnk ci.ρ b)).isSome = true := lkp_isSome (List.mem_map.2 ⟨(b, B), lkp_mem hB, rfl⟩)
       obtain ⟨b', hb'⟩ := Option.isSome_iff_exists.1 h1
       obtain ⟨h2, h3⟩ := im_fwd _ b' hb'
       rw [hb', rinj b b' (inρ_bo b hb) (inρ_bo b' h2) h3]
      have gone_bi : ∀ b, (lkp ci.bi b).isSome = true → (lkp ci.bo b).isSome = false → (goneB ci).contains (rnk ci.ρ b) = true := fun b h1 h2 => by
       obtain ⟨B, hB⟩ := Option.isSome_iff_exists.1 h1
       simp only [goneB, List.contains_iff_mem, List.mem_append, List.mem_map, List.mem_filter]
       exact .inr ⟨b, ⟨List.mem_map.2 ⟨(b, B), lkp_mem hB, rfl⟩, by simpa using h2⟩, rfl⟩
      have del_gone : ∀ k, (goneB ci).contains k = false → ci.del.contains k = false := fun k hk => by
       cases hd : ci.del.contains k with
       | false => rfl
       | true =>
        have : (goneB ci).contains k = true := by
         simp only [goneB, List.contains_iff_mem, List.mem_append] at hd ⊢; exact .inl hd
        rw [this] at hk; cases hk
      -- a box that is none of the call's
      have else_ : ∀ b u, lkp (ci.bo.map fun p => (rnk ci.ρ p.1, p.1)) b = none → η2 b = some u → η b = some u ∧ (goneB ci).contains b = false ∧ ∀ k, blk u = some k → ¬ Bk ηc k := fun b u h1 h2 => by
       rw [hη2, h1] at h2
       simp only at h2
       split at h2
       ·cases h2
       ·rename_i hg
        have hg' : (goneB ci).contains b = false := by simpa using hg
        refine ⟨h2, hg', fun k hk hb => ?_⟩
        obtain ⟨b1, u1, q1, q2, q3⟩ := bk_old k hb
        have e1 := s.apart b _ u u1 k h2 q2 hk q3
        cases hbo : (lkp ci.bo b1).isSome with
        | true => rw [e1, im_bwd b1 hbo] at h1; cases h1
        | false => rw [e1, gone_bi b1 q1 hbo] at hg'; cases hg'
      have stay : ∀ b u, b ∉ nk key → η2 b = some u → η b = some u := fun b u hb h2 => by
       cases him : lkp (ci.bo.map fun p => (rnk ci.ρ p.1, p.1)) b with
       | none => exact (else_ b u him h2).1
       | some b0 =>
        obtain ⟨q1, q2⟩ := im_fwd b b0 him
        rw [hη2, him] at h2
        simp only at h2
        cases hbi : (lkp ci.bi b0).isSome with
        | true =>
         obtain ⟨B0, hB0⟩ := Option.isSome_iff_exists.1 hbi
         obtain ⟨u0, hu0, _⟩ := hboxes b0 B0 hB0
         rw [p2 b0 hbi u0 u hu0 h2, q2]; exact (ηc_some b0 u0 hu0).2
        | false =>
         exfalso
         obtain ⟨B0, hB0⟩ := Option.isSome_iff_exists.1 q1
         have := List.all_eq_true.1 ok8 b0 (List.mem_map.2 ⟨(b0, B0), lkp_mem hB0, rfl⟩)
         rw [hbi, Bool.false_or] at this
         exact hb (by rw [q2]; simpa using this)
      have hfz2 : ∀ k, Fz (Amb w0 ow) η k → k < w.heap.size → Fz (Amb w0 ow) η2 k := fun k hk hlt => ⟨hk.1, fun b u hb hbk => by
       cases him : lkp (ci.bo.map fun p => (rnk ci.ρ p.1, p.1)) b with
       | none => exact hk.2 b u (else_ b u him hb).1 hbk
       | some b0 =>
        rw [hη2, him] at hb
        simp only at hb
        rcases (p3 b0 u k hb hbk).2 with h1 | h1
        ·omega
        ·exact un_bk k hk.2 h1⟩
      have hfzo : ∀ k, FzB w (fun k => Fz (Amb w0 ow) (dropη η ci.del) k ∧ k < w.heap.size) ηc η' k → k < w'.heap.size → Fz (Amb w0 ow) η2 k := fun k hk _ => by
       refine ⟨?_, fun b u hb hbk => ?_⟩
       ·rcases hk.1 with h1 | h1 | h1
        ·exact h1.1.1
        ·exact .inr (.inr (Nat.le_trans s.frame.size h1))
        ·obtain ⟨b1, u1, _, q2, q3⟩ := bk_old k h1
         rcases (s.new _ u1 k q2 q3).2 with h2 | h2
         ·exact .inr (.inr h2)
         ·exact .inr (.inl h2)
       ·cases him : lkp (ci.bo.map fun p => (rnk ci.ρ p.1, p.1)) b with
        | some b0 =>
         rw [hη2, him] at hb
         exact hk.2 b0 u hb hbk
        | none =>
         obtain ⟨q1, q2, q3⟩ := else_ b u him hb
         rcases hk.1 with h1 | h1 | h1
         ·exact h1.1.2 b u (by simp only [dropη]; rw [if_neg (by rw [del_gone b q2]; decide)]; exact q1) hbk
         ·have := s.bound b u k q1 hbk; omega
         ·exact q3 k hbk h1
      have hηo : ∀ b u, (lkp ci.ρ b).isSome = true → η2 (rnk ci.ρ b) = some u → η' b = some u := fun b u hb hu => by
       cases hbo : (lkp ci.bo b).isSome with
       | true => rw [hη2, im_bwd b hbo] at hu; exact hu
       | false =>
        exfalso
        obtain ⟨c, hc⟩ := Option.isSome_iff_exists.1 hb
        have h7 := List.all_eq_true.1 ok7 (b, c) (lkp_mem hc)
        simp only [hbo, Bool.or_false] at h7
        have hg := gone_bi b h7 hbo
        have him : lkp (ci.bo.map fun p => (rnk ci.ρ p.1, p.1)) (rnk ci.ρ b) = none := by
         cases him : lkp (ci.bo.map fun p => (rnk ci.ρ p.1, p.1)) (rnk ci.ρ b) with
         | none => rfl
         | some b0 =>
          obtain ⟨q1, q2⟩ := im_fwd _ b0 him
          rw [rinj b b0 hb (inρ_bo b0 q1) q2, q1] at hbo; cases hbo
        have := (else_ _ u him hu).2.1
        rw [hg] at this; cases this
      have noment : ∀ k, k ∈ nk key → ∀ t av, tm t = some av → ment k av = false := fun k hk => (hf k hk).1
      refine hK rfl η2 vr w' (fun x hx => ?_) ⟨s.size, s.nod, hframe, fun t av ht => ?_, fun b B hB => ?_, fun b u k hb hk => ?_, fun b b' u u' k hb hb' hk hk' => ?_, fun b u u' hp hb => ?_, s.pinlt⟩
      ·simp only [Option.some.injEq] at hx
       subst hx
       exact R_out hfzo hηo (by rw [hr] at ok4; exact ok4) hR
      ·obtain ⟨v, hv, hRv⟩ := s.tmp t av ht
       refine ⟨v, hv, hRv.step ho4 (fun k hk hlt => ho5 k hlt (un_bk k hk.2)) hfz2 (fun b u hm hb => stay b u (fun hmem => ?_) hb)⟩
       rw [noment b hmem t av ht] at hm; cases hm
      ·simp only [updB] at hB
       split at hB
       ·rename_i B1 hB1
        simp only [Option.some.injEq] at hB
        subst hB
        obtain ⟨b0, B0, hm0, hb0, hB0⟩ := lkp_image hB1
        subst hb0 hB0
        have hlk := lkp_nodup hnbo hm0
        obtain ⟨u, hu, hr5⟩ := p5 b0 B0 hlk
        refine ⟨u, by rw [hη2, im_bwd b0 (by rw [hlk]; rfl)]; exact hu, BoxR_out hfzo hηo ?_ hr5⟩
        have := List.all_eq_true.1 ok6 (b0, B0) hm0
        simp only [Bool.and_eq_true] at this
        exact this.2
       ·rename_i hnone
        split at hB
        ·cases hB
        ·rename_i hg
         have hg' : (goneB ci).contains b = false := by simpa using hg
         obtain ⟨u, hu, hrb⟩ := s.dom b B hB
         have him : lkp (ci.bo.map fun p => (rnk ci.ρ p.1, p.1)) b = none := by
          cases him : lkp (ci.bo.map fun p => (rnk ci.ρ p.1, p.1)) b with
          | none => rfl
          | some b0 =>
           exfalso
           obtain ⟨q1, q2⟩ := im_fwd b b0 him
           obtain ⟨B0, hB0⟩ := Option.isSome_iff_exists.1 q1
           have : (lkp (ci.bo.map fun p => (rnk ci.ρ p.1, rnB ci.ρ p.2)) b).isSome = true := lkp_isSome (List.mem_map.2 ⟨(b0, B0), lkp_mem hB0, by rw [q2]⟩)
           rw [hnone] at this; cases this
         have hu2 : η2 b = some u := by rw [hη2, him]; simp only; rw [if_neg hg]; exact hu
         have hsame : ∀ k, blk u = some k → w'.heap[k]? = w.heap[k]? := fun k hk => ho5 k (s.bound b u k hu hk) ((else_ b u him hu2).2.2 k hk)
         have hst : ∀ b' u', mentB b' B = true → η2 b' = some u' → η b' = some u' := fun b' u' hm hb' => stay b' u' (fun hmem => by rw [(hf b' hmem).2.1 b B hB] at hm; cases hm) hb'
         refine ⟨u, hu2, ?_⟩
         cases B with
         | any => exact hrb
         | var l =>
          obtain ⟨g, C, e, rfl, c1, c2, c3⟩ := hrb
          refine ⟨g, C, e, rfl, by rw [hsame g rfl]; exact c1, c2, fun j v x hv hx => (c3 j v x hv hx).step ho4 (fun k hk hlt => ho5 k hlt (un_bk k hk.2)) hfz2 (fun b' u' hm hb' => hst b' u' (mentL_of hx hm) hb')⟩
         | sl e τ xs =>
          obtain ⟨cs, c1, c2⟩ := hrb
          refine ⟨cs, ownsRow_block c1 hsame, fun i x j y hx hy => ?_⟩
          obtain ⟨v, hv, hrr⟩ := c2 i x j y hx hy
          exact ⟨v, hv, hrr.step ho4 (fun k hk hlt => ho5 k hlt (un_bk k hk.2)) hfz2 (fun b' u' hm _ => by rw [enc_ment' hy] at hm; cases hm)⟩
         | full e τ xs =>
          obtain ⟨⟨cs, c1, c2⟩, hcc⟩ := hrb
          refine ⟨⟨cs, ownsRow_block c1 hsame, fun i x j y hx hy => ?_⟩, hcc⟩
          obtain ⟨v, hv, hrr⟩ := c2 i x j y hx hy
          exact ⟨v, hv, hrr.step ho4 (fun k hk hlt => ho5 k hlt (un_bk k hk.2)) hfz2 (fun b' u' hm _ => by rw [enc_ment' hy] at hm; cases hm)⟩
      ·cases him : lkp (ci.bo.map fun p => (rnk ci.ρ p.1, p.1)) b with
       | none =>
        have h1 := (else_ b u him hb).1
        have := s.new b u k h1 hk
        exact ⟨Nat.lt_of_lt_of_le this.1 ho4, this.2⟩
       | some b0 =>
        rw [hη2, him] at hb
        obtain ⟨h1, h2⟩ := p3 b0 u k hb hk
        refine ⟨h1, ?_⟩
        rcases h2 with h2 | h2
        ·exact .inl (Nat.le_trans s.frame.size h2)
        ·obtain ⟨b1, u1, _, q2, q3⟩ := bk_old k h2
         exact (s.new _ u1 k q2 q3).2
      ·have cross : ∀ b b' u u', (∃ b0, lkp (ci.bo.map fun p => (rnk ci.ρ p.1, p.1)) b = some b0 ∧ η' b0 = some u) → lkp (ci.bo.map fun p => (rnk ci.ρ p.1, p.1)) b' = none → η2 b' = some u' → blk u = some k → blk u' = some k → False := fun b b' u u' ⟨b0, h1, h2⟩ h3 h4 hk hk' => by
        obtain ⟨q1, q2, q3⟩ := else_ b' u' h3 h4
        rcases (p3 b0 u k h2 hk).2 with h5 | h5
        ·have := s.bound b' u' k q1 hk'; omega
        ·exact q3 k hk' h5
       cases him : lkp (ci.bo.map fun p => (rnk ci.ρ p.1, p.1)) b with
       | none =>
        cases him' : lkp (ci.bo.map fun p => (rnk ci.ρ p.1, p.1)) b' with
        | none => exact s.apart b b' u u' k (else_ b u him hb).1 (else_ b' u' him' hb').1 hk hk'
        | some b0' =>
         rw [hη2, him'] at hb'
         exact (cross b' b u' u ⟨b0', him', hb'⟩ him hb hk' hk).elim
       | some b0 =>
        have hb0 := hb
        rw [hη2, him] at hb0
        cases him' : lkp (ci.bo.map fun p => (rnk ci.ρ p.1, p.1)) b' with
        | none => exact (cross b b' u u' ⟨b0, him, hb0⟩ him' hb' hk hk').elim
        | some b0' =>
         rw [hη2, him'] at hb'
         have := p4 b0 b0' u u' k hb0 hb' hk hk'
         subst this
         rw [(im_fwd b b0 him).2, (im_fwd b' b0 him').2]
      ·refine s.pin b u u' hp (stay b u' (fun hmem => ?_) hb)
       have h1 := (hf b hmem).2.2
       have h2 := s.pinlt b u hp
       omega
     ·cases h
     ·rename_i vt hr
      rw [hr] at p6
      simp only [OutB] at p6
      subst p6
      simp only [Option.some.injEq, Prod.mk.injEq] at h
      obtain ⟨rfl, rfl⟩ := h
      exact hT vt rfl (fun _ => none) (fun _ => none) (fun _ => none) w' ⟨s.size, s.nod, hframe, (fun t av ht => by cases ht), (fun b B hb => by cases hb), (fun b u k hb => by cases hb), (fun b b' u u' k hb => by cases hb), (fun b u u' _ hb => by cases hb), s.pinlt⟩
   ·cases h
  ·cases h
 ·cases h
end
abbrev Tm := Nat → Option AV
inductive RO where
 | norm (tm : Tm) (bx : Bx)
 | thr (v : Value) (tm : Tm) (bx : Bx)
def keysB : Box → List Nat
 | .var l => keysL l
 | .sl _ _ _ => []
 | .full _ _ _ => []
 | .any => []
theorem mem_keysB {b : Nat} {B : Box} (h : mentB b B = true) : b ∈ keysB B := by
 cases B with
 | var l => exact mem_keysL l h
 | sl e τ xs => simp [mentB] at h
 | full e τ xs => simp [mentB] at h
 | any => simp [mentB] at h
def sub (l ks : List Nat) : Bool := l.all ks.contains
theorem sub_mem {l ks : List Nat} (h : sub l ks = true) {b : Nat} (hb : b ∈ l) : ks.contains b = true := List.all_eq_true.1 h b hb
def Inv (ks : List Nat) (tm : Tm) (bx : Bx) : Prop := (∀ t av, tm t = some av → ∀ b, ment b av = true → ks.contains b = true) ∧ ∀ b B, bx b = some B → ∀ b', mentB b' B = true → ks.contains b' = true
theorem Inv.fresh {ks : List Nat} {tm : Tm} {bx : Bx} (h : Inv ks tm bx) {key : Nat} (hk : ks.contains key = false) (h1000 : 1000 ≤ key) : Fresh key tm bx := by
 refine ⟨fun t av ht => ?_, fun b B hB => ?_, h1000⟩
 cases hm : ment key av with
 | false => rfl
 | true => rw [h.1 t av ht key hm] at hk; cases hk
 cases hm : mentB key B with
 | false => rfl
 | true => rw [h.2 b B hB key hm] at hk; cases hk
theorem Inv.fresh' {ks : List Nat} {tm : Tm} {bx : Bx} (h : Inv ks tm bx) {l : List Nat} (hk : ∀ k ∈ l, ks.contains k = false ∧ 1000 ≤ k) : ∀ k ∈ l, Fresh k tm bx := fun k hkl => h.fresh (hk k hkl).1 (hk k hkl).2
def optKeys : Option AV → List Nat
 | some a => keysA a
 | none => []
def insKeys : List (Nat × Box) → List Nat
 | [] => []
 | (_, B) :: l => keysB B ++ insKeys l
theorem insKeys_mem : ∀ {l : List (Nat × Box)} {k b : Nat} {B : Box}, lkp l k = some B → b ∈ keysB B → b ∈ insKeys l
 | [], _, _, _, h, _ => by cases h
 | (c, B0) :: l, k, b, B, h, hb => by
  simp only [lkp] at h
  simp only [insKeys, List.mem_append]
  split at h
  simp only [Option.some.injEq] at h; subst h; exact .inl hb
  exact .inr (insKeys_mem h hb)
def effOk (key : Nat) (ks : List Nat) (E : Wr) : Bool := (nk key).all (fun k => !ks.contains k && decide (1000 ≤ k)) && sub (optKeys E.val) (if E.fresh then nk key ++ ks else ks) && sub (insKeys E.ins) (if E.fresh then nk key ++ ks else ks)
theorem app_contains {l ks : List Nat} {b : Nat} (h : ks.contains b = true) : (l ++ ks).contains b = true := by
 simp only [List.contains_iff_mem, List.mem_append] at h ⊢; exact .inr h
theorem effOk_keys {key : Nat} {ks : List Nat} {E : Wr} (h : effOk key ks E = true) : ∀ k ∈ nk key, ks.contains k = false ∧ 1000 ≤ k := by
 simp only [effOk, Bool.and_eq_true] at h
 intro k hk
 have := List.all_eq_true.1 h.1.1 k hk
 simpa using this
theorem Inv.step {key : Nat} {ks : List Nat} {tm : Tm} {bx : Bx} {E : Wr} (h : Inv ks tm bx) (he : effOk key ks E = true) (d : Option Nat) : Inv (if E.fresh then nk key ++ ks else ks) (upd tm d E.val) (updB bx E.del E.ins) := by
 simp only [effOk, Bool.and_eq_true] at he
 obtain ⟨⟨h1, h2⟩, h3⟩ := he
 have up : ∀ b, ks.contains b = true → (if E.fresh = true then nk key ++ ks else ks).contains b = true := fun b hb => by
  split
  exact app_contains hb
  exact hb
 refine ⟨fun t av ht b hb => ?_, fun b B hB b' hb' => ?_⟩
 simp only [upd] at ht
 split at ht
 rw [ht] at h2; exact sub_mem h2 (mem_keysA av hb)
 exact up b (h.1 t av ht b hb)
 simp only [updB] at hB
 split at hB
 rename_i B0 hins
 simp only [Option.some.injEq] at hB; subst hB; exact sub_mem h3 (insKeys_mem hins (mem_keysB hb'))
 split at hB
 cases hB
 exact up b' (h.2 b B hB b' hb')
theorem Inv.none {ks : List Nat} {tm : Tm} {bx : Bx} (h : Inv ks tm bx) (d : Option Nat) : Inv ks (upd tm d none) bx := ⟨fun t av ht b hb => by
 simp only [upd] at ht
 split at ht
 ·cases ht
 ·exact h.1 t av ht b hb, h.2⟩
def dstOk (N : Nat) (o : Oper) : Bool := match o.dst with
 | some d => decide (d < N)
 | none => true
theorem dstOk_lt {N : Nat} {o : Oper} (h : dstOk N o = true) : ∀ t, o.dst = some t → t < N := fun t ht => by
 simp only [dstOk, ht] at h; simpa using h
def isB (ci : CI) : Bool := match ci.bi, ci.bo with
 | [], [] => false
 | _, _ => true
def ConC (P : Program) (I : World → Prop) (ci : CI) : Prop := match isB ci with
 | true => ConB P I ci.f ci.args ci.bi ci.out ci.bo
 | false => Con P I ci.f ci.args ci.out
def calB (cs : List (Nat × CI)) (i : Nat) : Bool := match cs.lookup i with
 | some ci => isB ci
 | none => false
def opE (P : Program) (tt : TypeId → Option Ty) (cs : List (Nat × CI)) (gd : List (Nat × Bool)) (key i : Nat) (o : Oper) (tm : Tm) (bx : Bx) : Option (Wr × Option Value) :=
 match cs.lookup i with
 | some ci => match isB ci with
  | true => wrCallB key ci o tm bx
  | false => wrCall key ci o tm bx
 | none => match o.op with
  | .panic x => match evalA tm x with
   | some (.lit (.iface t v)) => some (⟨True, none, [], [], false⟩, some (.iface t v))
   | _ => none
  | .pick c x y => match evalA tm c, gd.lookup (i + 1000) with
   | some (.lit (.bool b)), some true => (evalA tm x).map fun v => (⟨b = true, some v, [], [], false⟩, none)
   | some (.lit (.bool b)), some false => (evalA tm y).map fun v => (⟨b = false, some v, [], [], false⟩, none)
   | _, _ => none
  | _ => match wrOp2 P tt key (gd.lookup (i + 2000)) o tm bx with
   | some E => some (E, none)
   | none => (rdOp2 P o (evalA tm) bx).map fun p => (⟨p.1, some p.2, [], [], false⟩, none)
def Cons (P : Program) (I : World → Prop) : List (Nat × CI) → Prop
 | [] => True
 | (_, ci) :: l => (Ent P ci.f ∧ ConC P I ci) ∧ Cons P I l
theorem Cons.of {P : Program} {I : World → Prop} : ∀ {l : List (Nat × CI)} {i : Nat} {ci : CI}, Cons P I l → l.lookup i = some ci → Ent P ci.f ∧ ConC P I ci
 | [], i, ci, _, h => by simp at h
 | (j, c) :: l, i, ci, hl, h => by
  simp only [List.lookup] at h
  split at h
  simp only [Option.some.injEq] at h; subst h; exact hl.1
  exact Cons.of hl.2 h
section
variable {P : Program} {I : World → Prop} {w w' w0 : World} {ow : Own} {η η' : Nat → Option Value} {N key : Nat} {tm tmr : Tm} {bx bxr : Bx} {a : Act} {tt : TypeId → Option Ty} {cs : List (Nat × CI)} {gd : List (Nat × Bool)}
theorem Sim.weaken {tm' : Tm} {bx' : Bx} (s : Sim N w0 ow η tm bx a w) (h1 : ∀ t x, tm' t = some x → tm t = some x) (h2 : ∀ b B, bx' b = some B → bx b = some B) : Sim N w0 ow η tm' bx' a w :=
 ⟨s.size, s.nod, s.frame, fun t x h => s.tmp t x (h1 t x h), fun b B h => s.dom b B (h2 b B h), s.new, s.apart, s.pin, s.pinlt⟩
theorem opE_ok (s : Sim N w0 ow η tm bx a w) (sr : Sim N w0 ow η tmr bxr a w) (hm0 : ∀ k ∈ nk key, ∀ x y, evalA tmr x = some y → ment k y = false) {i : Nat} {o : Oper} {E : Wr} {th : Option Value} (h : opE P tt cs gd key i o tmr bxr = some (E, th)) (hE : E.cond) (hf : ∀ k ∈ nk key, Fresh k tm bx) (hcs : Cons P I cs) (hI : ∀ w', Fr ow w0 w' → I w') (hd : dstOk N o = true)
  {K : Act → World → Prop} {Q : Exit → Act → World → Prop} (hK : th = none → ∀ η' a' w', Sim N w0 ow η' (upd tm o.dst E.val) (updB bx E.del E.ins) a' w' → K a' w')
  (hT : ∀ v, th = some v → ∀ η' tm' bx' w', Sim N w0 ow η' tm' bx' a w' → (calB cs i = false → tm' = tm ∧ bx' = bx) → Q (.panic [{ v, recovered := false }]) a w') : o.wp P a w K Q := by
 have wr : ∀ v w' η', (execOp a.eval o).run P w = .ok (.value v) w' ∨ ((execOp a.eval o).run P w = .ok .skip w' ∧ v = undef) → (∀ x, E.val = some x → R w' (Fz (Amb w0 ow) η') η' v x) → Sim N w0 ow η' tm (updB bx E.del E.ins) a w' → th = none → o.wp P a w K Q := by
  intro v w' η' hr hR hs hth
  have hfin := hK hth η' _ w' (hs.put (dstOk_lt hd) hR)
  unfold Oper.wp
  rcases hr with hr | ⟨hr, rfl⟩
  ·rw [hr]; exact hfin
  ·rw [hr]; exact hfin
 unfold opE at h
 split at h
 ·rename_i ci hci
  obtain ⟨he, hc⟩ := hcs.of hci
  unfold ConC at hc
  split at h
  ·rename_i hb
   rw [hb] at hc
   exact wrCallB_ok s sr hf h hE he hc hI (fun hth η' v w' hR hs => hK hth η' _ w' (hs.put (dstOk_lt hd) hR)) (fun v hv η2 tm2 bx2 w2 hs2 => hT v hv η2 tm2 bx2 w2 hs2 (fun hcb => by simp only [calB, hci, hb] at hcb; cases hcb))
  ·rename_i hb
   rw [hb] at hc
   exact wrCall_ok s sr (hf key (by simp [nk])) h hE he hc (hI w s.frame) (fun hth η' v w' hR hs => hK hth η' _ w' (hs.put (dstOk_lt hd) hR)) (fun v hv w2 hs2 => hT v hv η tm bx w2 hs2 (fun _ => ⟨rfl, rfl⟩))
 ·split at h
  ·rename_i x hop
   split at h
   ·rename_i t v hx
    simp only [Option.some.injEq, Prod.mk.injEq] at h
    obtain ⟨rfl, rfl⟩ := h
    have hv := (sr.ev hx).lit_inv
    unfold Oper.wp
    have hr : (execOp a.eval o).run P w = .halt (.panic (.iface t v)) w := by simp [execOp, hop, hv, Instr.panic]
    rw [hr]
    exact hT _ rfl _ _ _ w s (fun _ => ⟨rfl, rfl⟩)
   ·cases h
  ·rename_i c x y hop
   split at h
   ·rename_i b hc hg
    simp only [Option.map_eq_some_iff] at h
    obtain ⟨v, hv, h⟩ := h
    simp only [Prod.mk.injEq] at h
    obtain ⟨rfl, rfl⟩ := h
    have hc' := (sr.ev hc).lit_inv
    simp only at hE
    subst hE
    refine wr (a.eval x) w η (.inl ?_) (fun z hz => ?_) (by rw [updB_nil]; exact s) rfl
    ·simp [execOp, hop, hc', asBool]
    ·simp only [Option.some.injEq] at hz; subst hz; exact sr.ctx.ev x _ hv
   ·rename_i b hc hg
    simp only [Option.map_eq_some_iff] at h
    obtain ⟨v, hv, h⟩ := h
    simp only [Prod.mk.injEq] at h
    obtain ⟨rfl, rfl⟩ := h
    have hc' := (sr.ev hc).lit_inv
    simp only at hE
    subst hE
    refine wr (a.eval y) w η (.inl ?_) (fun z hz => ?_) (by rw [updB_nil]; exact s) rfl
    ·simp [execOp, hop, hc', asBool]
    ·simp only [Option.some.injEq] at hz; subst hz; exact sr.ctx.ev y _ hv
   ·cases h
  ·split at h
   ·rename_i E' hE'
    simp only [Option.some.injEq, Prod.mk.injEq] at h
    obtain ⟨rfl, rfl⟩ := h
    obtain ⟨n, v, w', η', hr, hn, hR, hs⟩ := wrOp2_ok s sr (hm0 key (by simp [nk])) (hf key (by simp [nk])) hE' hE
    refine wr v w' η' ?_ hR hs rfl
    rcases hn with rfl | ⟨rfl, rfl⟩
    ·exact .inl hr
    ·exact .inr ⟨hr, rfl⟩
   ·simp only [Option.map_eq_some_iff] at h
    obtain ⟨p, hp, h⟩ := h
    simp only [Prod.mk.injEq] at h
    obtain ⟨rfl, rfl⟩ := h
    obtain ⟨v, hr, hR⟩ := rdOp2_ok sr.ctx hp hE
    refine wr v w η (.inl hr) (fun x hx => ?_) (by rw [updB_nil]; exact s) rfl
    simp only [Option.some.injEq] at hx; subst hx; exact hR
abbrev undA : AV := .lit (.tuple #[])
def runL (P : Program) (tt : TypeId → Option Ty) (N : Nat) (ops : Array Oper) (cs : List (Nat × CI)) (gd : List (Nat × Bool)) (kb : Nat) : Nat → List Oper → Tm → Bx → List Nat → Option (Prop × RO)
  | _, [], tm, bx, _ => some (True, .norm tm bx)
  | i, o :: rest, tm, bx, ks =>
    let go : Option (Prop × RO) := match opE P tt cs gd (kb + i) i o tm bx with
      | some (E, none) => if effOk (kb + i) ks E = true ∧ dstOk N o = true then
          (runL P tt N ops cs gd kb (i + 1) rest (upd tm o.dst E.val) (updB bx E.del E.ins) (if E.fresh then nk (kb + i) ++ ks else ks)).map fun p => (E.cond ∧ p.1, p.2) else none
      | some (E, some v) => if effOk (kb + i) ks E = true ∧ dstOk N o = true then some (E.cond, .thr v (if calB cs i then fun _ => none else tm) (if calB cs i then fun _ => none else bx)) else none
      | none => none
    match o.guard with
    | none => go
    | some (j, want) => match ((ops[j]?).bind (·.dst)).bind tm, gd.lookup i with
      | some (.lit (.bool b)), some true => go.map fun p => (b = want ∧ p.1, p.2)
      | some (.lit (.bool b)), some false => if dstOk N o = true then (runL P tt N ops cs gd kb (i + 1) rest (upd tm o.dst (some undA)) bx ks).map fun p => (b = (!want) ∧ p.1, p.2) else none
      | some (.lit (.tuple _)), _ => if dstOk N o = true then (runL P tt N ops cs gd kb (i + 1) rest (upd tm o.dst (some undA)) bx ks).map fun p => (True ∧ p.1, p.2) else none
      | _, _ => none
theorem yielded_lit (s : Sim N w0 ow η tm bx a w) {ops : Array Oper} {j : Nat} {b : Bool} (h : ((ops[j]?).bind (·.dst)).bind tm = some (.lit (.bool b))) : yielded ops a.tmps j = some b := by
 unfold yielded
 cases hd : (ops[j]?).bind (·.dst) with
 | none => rw [hd] at h; simp at h
 | some d =>
  rw [hd] at h
  simp only [Option.bind_some] at h ⊢
  obtain ⟨v, hv, hr⟩ := s.tmp d _ h
  rw [hv, hr.lit_inv]
theorem yielded_und (s : Sim N w0 ow η tm bx a w) {ops : Array Oper} {j : Nat} {l : Array Value} (h : ((ops[j]?).bind (·.dst)).bind tm = some (.lit (.tuple l))) : yielded ops a.tmps j = none := by
 unfold yielded
 cases hd : (ops[j]?).bind (·.dst) with
 | none => rw [hd] at h; simp at h
 | some d =>
  rw [hd] at h
  simp only [Option.bind_some] at h ⊢
  obtain ⟨v, hv, hr⟩ := s.tmp d _ h
  rw [hv, hr.lit_inv]
theorem Inv.und {ks : List Nat} {tm : Tm} {bx : Bx} (h : Inv ks tm bx) (d : Option Nat) : Inv ks (upd tm d (some undA)) bx := ⟨fun t av ht b hb => by
 simp only [upd] at ht
 split at ht
 ·simp only [Option.some.injEq] at ht; subst ht; simp [undA, ment] at hb
 ·exact h.1 t av ht b hb, h.2⟩
theorem runL_ok {ops : Array Oper} {gd : List (Nat × Bool)} {kb : Nat} (hcs : Cons P I cs) (hI : ∀ w', Fr ow w0 w' → I w') {Q : Exit → Act → World → Prop} : ∀ (l : List Oper) (i : Nat) (η : Nat → Option Value) (tm : Tm) (bx : Bx) (ks : List Nat) (a : Act) (w : World) (C : Prop) (r : RO),
    runL P tt N ops cs gd kb i l tm bx ks = some (C, r) → C → Sim N w0 ow η tm bx a w → Inv ks tm bx →
    (∀ tm' bx', r = .norm tm' bx' → ∀ η' a' w', Sim N w0 ow η' tm' bx' a' w' → Q .normal a' w') →
    (∀ v tm' bx', r = .thr v tm' bx' → ∀ η' a' w', Sim N w0 ow η' tm' bx' a' w' → Q (.panic [{ v, recovered := false }]) a' w') → wpList P ops Q l a w := by
  intro l
  induction l with
  | nil =>
    intro i η tm bx ks a w C r h hC s hinv hn ht
    simp only [runL, Option.some.injEq, Prod.mk.injEq] at h
    exact hn tm bx h.2.symm η a w s
  | cons o rest ih =>
    intro i η tm bx ks a w C r h hC s hinv hn ht
    have hgo : ∀ C', (match opE P tt cs gd (kb + i) i o tm bx with
      | some (E, none) => if effOk (kb + i) ks E = true ∧ dstOk N o = true then
          (runL P tt N ops cs gd kb (i + 1) rest (upd tm o.dst E.val) (updB bx E.del E.ins) (if E.fresh then nk (kb + i) ++ ks else ks)).map fun p => (E.cond ∧ p.1, p.2) else none
      | some (E, some v) => if effOk (kb + i) ks E = true ∧ dstOk N o = true then some (E.cond, RO.thr v (if calB cs i then fun _ => none else tm) (if calB cs i then fun _ => none else bx)) else none
      | none => none) = some (C', r) → C' → o.wp P a w (wpList P ops Q rest) Q := by
      intro C' hh hC'
      split at hh
      · rename_i E hE
        split at hh
        · rename_i hc
          simp only [Option.map_eq_some_iff] at hh
          obtain ⟨⟨C2, r2⟩, h2, h3⟩ := hh
          simp only [Prod.mk.injEq] at h3
          obtain ⟨rfl, rfl⟩ := h3
          have hk := effOk_keys hc.1
          refine opE_ok s s (fun k hk' x y hy => (hinv.fresh' hk k hk').ev hy) hE hC'.1 (hinv.fresh' hk) hcs hI hc.2 (fun _ η' a' w' hs => ?_) (fun v hv => by cases hv)
          exact ih (i + 1) η' _ _ _ a' w' C2 r2 h2 hC'.2 hs (hinv.step hc.1 o.dst) hn ht
        · cases hh
      · rename_i E v hE
        split at hh
        · rename_i hc
          simp only [Option.some.injEq, Prod.mk.injEq] at hh
          obtain ⟨rfl, rfl⟩ := hh
          have hk := effOk_keys hc.1
          exact opE_ok s s (fun k hk' x y hy => (hinv.fresh' hk k hk').ev hy) hE hC' (hinv.fresh' hk) hcs hI hc.2 (fun h => by cases h) (fun v' hv η' tm' bx' w' hs hst => by
            injection hv with hv; subst hv
            refine ht v _ _ rfl η' a w' ?_
            cases hcb : calB cs i with
            | true => exact hs.weaken (fun t x h => by simp at h) (fun b B h => by simp at h)
            | false =>
              obtain ⟨h1, h2⟩ := hst hcb
              subst h1 h2
              simpa using hs)
        · cases hh
      · cases hh
    simp only [runL] at h
    unfold wpList
    split at h
    · rename_i hg
      rw [if_pos (by simp [Region.wanted, hg])]
      exact .inl (hgo C h hC)
    · rename_i j want hg
      split at h
      · rename_i b hb hgd
        simp only [Option.map_eq_some_iff] at h
        obtain ⟨⟨C2, r2⟩, h2, h3⟩ := h
        simp only [Prod.mk.injEq] at h3
        obtain ⟨rfl, rfl⟩ := h3
        rw [if_pos (by simp [Region.wanted, hg, yielded_lit s hb, hC.1])]
        exact .inl (hgo C2 h2 hC.2)
      · rename_i b hb hgd
        split at h
        · rename_i hd
          simp only [Option.map_eq_some_iff] at h
          obtain ⟨⟨C2, r2⟩, h2, h3⟩ := h
          simp only [Prod.mk.injEq] at h3
          obtain ⟨rfl, rfl⟩ := h3
          rw [if_neg (by simp [Region.wanted, hg, yielded_lit s hb, hC.1])]
          exact ih (i + 1) η _ _ _ _ w C2 r2 h2 hC.2 (s.put (dstOk_lt hd) (fun x hx => by simp only [Option.some.injEq] at hx; subst hx; exact .lit _)) (hinv.und o.dst) hn ht
        · cases h
      · rename_i l hb
        split at h
        · rename_i hd
          simp only [Option.map_eq_some_iff] at h
          obtain ⟨⟨C2, r2⟩, h2, h3⟩ := h
          simp only [Prod.mk.injEq] at h3
          obtain ⟨rfl, rfl⟩ := h3
          rw [if_neg (by simp [Region.wanted, hg, yielded_und s hb])]
          exact ih (i + 1) η _ _ _ _ w C2 r2 h2 hC.2 (s.put (dstOk_lt hd) (fun x hx => by simp only [Option.some.injEq] at hx; subst hx; exact .lit _)) (hinv.und o.dst) hn ht
        · cases h
      · cases h
end
structure Ef where
 T : List Nat
 K : List Nat
 G : List Nat
 dst : Option Nat
 E : Wr
 th : Option Value
 dead : Bool
def tmF : List Ef → (Nat → Bool) → Nat → Tm → Tm
 | [], _, _, tm => tm
 | e :: es, D, i, tm => tmF es D (i + 1) (if D i then upd tm e.dst e.E.val else tm)
def bxF : List Ef → (Nat → Bool) → Nat → Bx → Bx
 | [], _, _, bx => bx
 | e :: es, D, i, bx => bxF es D (i + 1) (if D i then updB bx e.E.del e.E.ins else bx)
def hits (e : Ef) (b : Nat) : Bool := e.E.del.contains b || (lkp e.E.ins b).isSome
theorem updB_ne {bx : Bx} {e : Ef} {b : Nat} (h : hits e b = false) : updB bx e.E.del e.E.ins b = bx b := by
 simp only [hits, Bool.or_eq_false_iff, Option.isSome_eq_false_iff, Option.isNone_iff_eq_none] at h
 unfold updB
 rw [h.2, h.1]; simp
theorem updB_hit {bx bx' : Bx} {e : Ef} {b : Nat} (h : hits e b = true) : updB bx e.E.del e.E.ins b = updB bx' e.E.del e.E.ins b := by
 simp only [hits, Bool.or_eq_true] at h
 unfold updB
 split
 rfl
 rename_i hn
 rcases h with h | h
 rw [h]; simp
 rw [hn] at h; cases h
theorem tmF_ext {D D' : Nat → Bool} {t : Nat} : ∀ (es : List Ef) (i : Nat) (tm tm' : Tm), tm t = tm' t → (∀ k e, es[k]? = some e → e.dst = some t → D (i + k) = D' (i + k)) → tmF es D i tm t = tmF es D' i tm' t
 | [], _, _, _, h, _ => h
 | e :: es, i, tm, tm', h, hd => by
  simp only [tmF]
  refine tmF_ext es (i + 1) _ _ ?_ (fun k e' hk he => by have := hd (k + 1) e' hk he; rwa [show i + 1 + k = i + (k + 1) by omega])
  by_cases he : e.dst = some t
  have := hd 0 e rfl he
  simp only [Nat.add_zero] at this
  rw [this]
  split
  simp [upd, he]
  exact h
  have hu : ∀ m : Tm, upd m e.dst e.E.val t = m t := fun m => by simp [upd, he]
  split <;> split <;> simp only [hu, h]
theorem bxF_ext {D D' : Nat → Bool} {b : Nat} : ∀ (es : List Ef) (i : Nat) (bx bx' : Bx), bx b = bx' b → (∀ k e, es[k]? = some e → hits e b = true → D (i + k) = D' (i + k)) → bxF es D i bx b = bxF es D' i bx' b
 | [], _, _, _, h, _ => h
 | e :: es, i, bx, bx', h, hd => by
  simp only [bxF]
  refine bxF_ext es (i + 1) _ _ ?_ (fun k e' hk he => by have := hd (k + 1) e' hk he; rwa [show i + 1 + k = i + (k + 1) by omega])
  by_cases he : hits e b = true
  have := hd 0 e rfl he
  simp only [Nat.add_zero] at this
  rw [this]
  split
  exact updB_hit he
  exact h
  have hu : ∀ m : Bx, updB m e.E.del e.E.ins b = m b := fun m => updB_ne (by simpa using he)
  split <;> split <;> simp only [hu, h]
theorem tmF_none {D : Nat → Bool} {t : Nat} (es : List Ef) (i : Nat) (tm : Tm) (h : ∀ k e, es[k]? = some e → e.dst = some t → D (i + k) = false) : tmF es D i tm t = tm t := by
 have h2 : ∀ (es : List Ef) (i : Nat) (tm : Tm), tmF es (fun _ => false) i tm = tm := by
  intro es; induction es with
  | nil => intros; rfl
  | cons e es ih => intro i tm; simp only [tmF]; exact ih _ _
 rw [tmF_ext (D' := fun _ => false) es i tm tm rfl h, h2]
theorem bxF_none {D : Nat → Bool} {b : Nat} (es : List Ef) (i : Nat) (bx : Bx) (h : ∀ k e, es[k]? = some e → hits e b = true → D (i + k) = false) : bxF es D i bx b = bx b := by
 have h2 : ∀ (es : List Ef) (i : Nat) (bx : Bx), bxF es (fun _ => false) i bx = bx := by
  intro es; induction es with
  | nil => intros; rfl
  | cons e es ih => intro i bx; simp only [bxF]; exact ih _ _
 rw [bxF_ext (D' := fun _ => false) es i bx bx rfl h, h2]
theorem tmF_last {D : Nat → Bool} {t : Nat} : ∀ (es : List Ef) (i j : Nat) (tm : Tm) (e : Ef), es[j]? = some e → e.dst = some t → D (i + j) = true → (∀ k e', j < k → es[k]? = some e' → e'.dst = some t → D (i + k) = false) → tmF es D i tm t = e.E.val
 | [], _, _, _, _, h, _, _, _ => by simp at h
 | e0 :: es, i, 0, tm, e, h, hd, hD, hl => by
  simp only [List.getElem?_cons_zero, Option.some.injEq] at h
  subst h
  simp only [tmF]
  rw [tmF_none es (i + 1) _ (fun k e' hk he => by have := hl (k + 1) e' (by omega) hk he; rwa [show i + 1 + k = i + (k + 1) by omega])]
  rw [Nat.add_zero] at hD
  rw [if_pos hD]; simp [upd, hd]
 | e0 :: es, i, j + 1, tm, e, h, hd, hD, hl => by
  simp only [tmF]
  exact tmF_last es (i + 1) j _ e h hd (by rwa [show i + 1 + j = i + (j + 1) by omega]) (fun k e' hk hk' he => by have := hl (k + 1) e' (by omega) hk' he; rwa [show i + 1 + k = i + (k + 1) by omega])
theorem bxF_last {D : Nat → Bool} {b : Nat} (bx0 : Bx) : ∀ (es : List Ef) (i j : Nat) (bx : Bx) (e : Ef), es[j]? = some e → hits e b = true → D (i + j) = true → (∀ k e', j < k → es[k]? = some e' → hits e' b = true → D (i + k) = false) → bxF es D i bx b = updB bx0 e.E.del e.E.ins b
 | [], _, _, _, _, h, _, _, _ => by simp at h
 | e0 :: es, i, 0, bx, e, h, hd, hD, hl => by
  simp only [List.getElem?_cons_zero, Option.some.injEq] at h
  subst h
  simp only [bxF]
  rw [bxF_none es (i + 1) _ (fun k e' hk he => by have := hl (k + 1) e' (by omega) hk he; rwa [show i + 1 + k = i + (k + 1) by omega])]
  rw [Nat.add_zero] at hD
  rw [if_pos hD]; exact updB_hit hd
 | e0 :: es, i, j + 1, bx, e, h, hd, hD, hl => by
  simp only [bxF]
  exact bxF_last bx0 es (i + 1) j _ e h hd (by rwa [show i + 1 + j = i + (j + 1) by omega]) (fun k e' hk hk' he => by have := hl (k + 1) e' (by omega) hk' he; rwa [show i + 1 + k = i + (k + 1) by omega])
def restr {α : Type} (f : Nat → Option α) (l : List Nat) : Nat → Option α := fun t => if l.contains t then f t else none
theorem restr_ext {α : Type} {f g : Nat → Option α} {l : List Nat} (h : ∀ t, l.contains t = true → f t = g t) : restr f l = restr g l := by
 funext t
 simp only [restr]
 split
 rename_i ht; exact h t ht
 rfl
def tmpsOf (l : List Operand) : List Nat := l.filterMap fun | .tmp t => some t | _ => none
def opT (ops : Array Oper) (o : Oper) : List Nat := (match o.guard with
  | some (j, _) => ((ops[j]?).bind (·.dst)).toList
  | none => []) ++ tmpsOf o.op.operands.toList
def keysOf (tmr : Tm) (x : Operand) : List Nat := match evalA tmr x with
 | some a => keysA a
 | none => []
def nestK (bx : Bx) (K : List Nat) : List Nat := K.flatMap fun k => match bx k with
 | some (.var l) => keysL l
 | _ => []
def opK (o : Oper) (T : List Nat) (tmr : Tm) (bx : Bx) : List Nat := match o.op with
 | .store _ p _ => keysOf tmr p
 | .call _ => (T.filterMap tmr).flatMap keysA ++ nestK bx ((T.filterMap tmr).flatMap keysA)
 | _ => (T.filterMap tmr).flatMap keysA
theorem nestK_ext {bx bx' : Bx} : ∀ {K : List Nat}, (∀ k ∈ K, bx k = bx' k) → nestK bx K = nestK bx' K
 | [], _ => rfl
 | k :: K, h => by
  have ih := nestK_ext (K := K) (fun k hk => h k (List.mem_cons_of_mem _ hk))
  unfold nestK at ih ⊢
  rw [List.flatMap_cons, List.flatMap_cons, ih, h k (List.mem_cons_self ..)]
theorem opK_ext {o : Oper} {T : List Nat} {tmr : Tm} {bx bx' : Bx} (h : ∀ k, (opK o T tmr bx).contains k = true → bx k = bx' k) : opK o T tmr bx = opK o T tmr bx' := by
 unfold opK at h ⊢
 split
 rfl
 rename_i c hc
 rw [hc] at h
 simp only at h
 rw [nestK_ext (fun k hk => h k (by simpa only [List.contains_iff_mem, List.mem_append] using .inl hk))]
 rfl
def opG (o : Oper) (tmr : Tm) : List Nat := match o.op with
 | .store _ _ x => keysOf tmr x
 | _ => []
def restrG (bx : Bx) (K G : List Nat) : Bx := fun b => if K.contains b then bx b else if G.contains b then (bx b).map fun _ => .any else none
theorem restrG_ext {f g : Bx} {K G : List Nat} (h : ∀ b, K.contains b = true → f b = g b) (h2 : ∀ b, G.contains b = true → (f b).isSome = (g b).isSome) : restrG f K G = restrG g K G := by
 funext b
 simp only [restrG]
 split
 rename_i hb; exact h b hb
 split
 rename_i hb
 have := h2 b hb
 cases hf : f b <;> cases hg : g b <;> simp [hf, hg] at this ⊢
 rfl
def opDc (P : Program) (tt : TypeId → Option Ty) (ops : Array Oper) (cs : List (Nat × CI)) (gd : List (Nat × Bool)) (kb i : Nat) (o : Oper) (T K G : List Nat) (tmr : Tm) (bxr : Bx) : Option (Prop × Ef) :=
 let go : Option (Prop × Ef) := (opE P tt cs gd (kb + i) i o tmr bxr).map fun p => (p.1.cond, ⟨T, K, G, o.dst, p.1, p.2, false⟩)
 match o.guard with
 | none => go
 | some (j, want) => match ((ops[j]?).bind (·.dst)).bind tmr, gd.lookup i with
  | some (.lit (.bool b)), some true => go.map fun p => (b = want ∧ p.1, p.2)
  | some (.lit (.bool b)), some false => some (b = (!want), ⟨T, K, G, o.dst, ⟨True, some undA, [], [], false⟩, none, false⟩)
  | some (.lit (.tuple _)), _ => some (True, ⟨T, K, G, o.dst, ⟨True, some undA, [], [], false⟩, none, false⟩)
  | _, _ => none
def opD (P : Program) (tt : TypeId → Option Ty) (ops : Array Oper) (cs : List (Nat × CI)) (gd : List (Nat × Bool)) (kb i : Nat) (o : Oper) (tm : Tm) (bx : Bx) : Option (Prop × Ef) :=
 opDc P tt ops cs gd kb i o (opT ops o) (opK o (opT ops o) (restr tm (opT ops o)) bx) (opG o (restr tm (opT ops o))) (restr tm (opT ops o)) (restrG bx (opK o (opT ops o) (restr tm (opT ops o)) bx) (opG o (restr tm (opT ops o))))
theorem opDc_TK {P : Program} {tt : TypeId → Option Ty} {ops : Array Oper} {cs : List (Nat × CI)} {gd : List (Nat × Bool)} {kb i : Nat} {o : Oper} {T K G : List Nat} {tmr : Tm} {bxr : Bx} {C : Prop} {e : Ef} (h : opDc P tt ops cs gd kb i o T K G tmr bxr = some (C, e)) : e.T = T ∧ e.K = K ∧ e.G = G ∧ e.dst = o.dst ∧ e.dead = false := by
 unfold opDc at h
 simp only at h
 split at h
 simp only [Option.map_eq_some_iff] at h
 obtain ⟨p, _, hp⟩ := h
 simp only [Prod.mk.injEq] at hp
 obtain ⟨_, rfl⟩ := hp
 exact ⟨rfl, rfl, rfl, rfl, rfl⟩
 split at h
 simp only [Option.map_eq_some_iff] at h
 obtain ⟨q, ⟨p, _, hp⟩, hq⟩ := h
 simp only [Prod.mk.injEq] at hq
 obtain ⟨_, rfl⟩ := hq
 subst hp
 exact ⟨rfl, rfl, rfl, rfl, rfl⟩
 simp only [Option.some.injEq, Prod.mk.injEq] at h
 obtain ⟨_, rfl⟩ := h
 exact ⟨rfl, rfl, rfl, rfl, rfl⟩
 simp only [Option.some.injEq, Prod.mk.injEq] at h
 obtain ⟨_, rfl⟩ := h
 exact ⟨rfl, rfl, rfl, rfl, rfl⟩
 cases h
def runD (P : Program) (tt : TypeId → Option Ty) (ops : Array Oper) (cs : List (Nat × CI)) (gd : List (Nat × Bool)) (dead : List Nat) (kb : Nat) : Nat → List Oper → Tm → Bx → Option (Prop × List Ef)
 | _, [], _, _ => some (True, [])
 | i, o :: rest, tm, bx =>
  if dead.contains i then (runD P tt ops cs gd dead kb (i + 1) rest (upd tm none none) (updB bx [] [])).map fun p => (p.1, ⟨[], [], [], none, ⟨True, none, [], [], false⟩, none, true⟩ :: p.2)
  else match opD P tt ops cs gd kb i o tm bx with
   | some (C, e) => (runD P tt ops cs gd dead kb (i + 1) rest (upd tm e.dst e.E.val) (updB bx e.E.del e.E.ins)).map fun p => (C ∧ p.1, e :: p.2)
   | none => none
theorem runD_at {P : Program} {tt : TypeId → Option Ty} {ops : Array Oper} {cs : List (Nat × CI)} {gd : List (Nat × Bool)} {dead : List Nat} {kb : Nat} : ∀ (l : List Oper) (i : Nat) (tm : Tm) (bx : Bx) (C : Prop) (es : List Ef), runD P tt ops cs gd dead kb i l tm bx = some (C, es) → C →
  es.length = l.length ∧ ∀ k o, l[k]? = some o → ∃ e, es[k]? = some e ∧ ((e.dead = true ∧ dead.contains (i + k) = true) ∨ (dead.contains (i + k) = false ∧ ∃ Ck, opD P tt ops cs gd kb (i + k) o (tmF es (fun m => decide (m < i + k)) i tm) (bxF es (fun m => decide (m < i + k)) i bx) = some (Ck, e) ∧ Ck))
 | [], i, tm, bx, C, es, h, hC => by
  simp only [runD, Option.some.injEq, Prod.mk.injEq] at h
  obtain ⟨_, rfl⟩ := h
  exact ⟨rfl, fun k o hk => by simp at hk⟩
 | o :: rest, i, tm, bx, C, es, h, hC => by
  have nf : ∀ (es : List Ef) (tm : Tm), tmF es (fun m => decide (m < i)) i tm = tm := fun es tm => by
   funext t; exact tmF_none es i tm (fun k e _ _ => by simp)
  have nb : ∀ (es : List Ef) (bx : Bx), bxF es (fun m => decide (m < i)) i bx = bx := fun es bx => by
   funext t; exact bxF_none es i bx (fun k e _ _ => by simp)
  simp only [runD] at h
  split at h
  ·rename_i hd
   simp only [Option.map_eq_some_iff] at h
   obtain ⟨⟨C2, es2⟩, h2, h3⟩ := h
   simp only [Prod.mk.injEq] at h3
   obtain ⟨rfl, rfl⟩ := h3
   obtain ⟨i1, i2⟩ := runD_at rest (i + 1) _ _ C2 es2 h2 hC
   refine ⟨by simp [i1], fun k o' hk => ?_⟩
   match k with
   | 0 => exact ⟨_, rfl, .inl ⟨rfl, hd⟩⟩
   | k + 1 =>
    obtain ⟨e, he, hh⟩ := i2 k o' hk
    refine ⟨e, he, ?_⟩
    simp only [tmF, bxF, show i < i + (k + 1) by omega, decide_true, if_true]
    rw [show i + (k + 1) = i + 1 + k by omega]
    exact hh
  ·rename_i hd
   split at h
   ·rename_i C1 e1 h1
    simp only [Option.map_eq_some_iff] at h
    obtain ⟨⟨C2, es2⟩, h2, h3⟩ := h
    simp only [Prod.mk.injEq] at h3
    obtain ⟨rfl, rfl⟩ := h3
    obtain ⟨i1, i2⟩ := runD_at rest (i + 1) _ _ C2 es2 h2 hC.2
    refine ⟨by simp [i1], fun k o' hk => ?_⟩
    match k with
    | 0 =>
     simp only [List.getElem?_cons_zero, Option.some.injEq] at hk
     subst hk
     refine ⟨e1, rfl, .inr ⟨by simpa using hd, C1, ?_, hC.1⟩⟩
     simp only [Nat.add_zero]
     rw [nf, nb]; exact h1
    | k + 1 =>
     obtain ⟨e, he, hh⟩ := i2 k o' hk
     refine ⟨e, he, ?_⟩
     simp only [tmF, bxF, show i < i + (k + 1) by omega, decide_true, if_true]
     rw [show i + (k + 1) = i + 1 + k by omega]
     exact hh
   ·cases h
end Go.Proofs.YtondpnipoogoiaaGreatDoor.F
