import Derived.Test.YtmkdcokdilllcaaDoorProg
import Derived.Lib.LaidTab
import Derived.Lib.ItoaNum
import Derived.WalkSmall
import Derived.Test.YtmkdcokdilllcaaDoorCards
import Derived.Test.YtmkdcokdilllcaaDoorTie
import Derived.WalkKit
import Derived.ProofKit
import Derived.OpenShut
import Derived.Deep.DeepHandedRow
import Derived.Below
import Derived.Deep.Draws
import Derived.Deep.AppendLies
import Derived.Maps.AppendAt
import Derived.OwnWalk
import Derived.Laws.BytesArg
import Derived.Laws.MakeOwn
import Derived.Laws.OwnMore
import Derived.Deep.OwnRows
import Derived.Tactics
import Derived.Lib.ConvBytes
import Derived.Laws.Slices
import Derived.KernelRfl
import Derived.RowKit3
import Derived.Deep.LoopGhost
import Derived.Deep.QuietTactic
import Derived.BigQuiet
import Derived.WideLaws
import Derived.Deep.DeepCutAuto
import Derived.Deep.CutBlock
import Derived.Deep.RegionHeld3
import Derived.Laws.Rows
import Derived.Lib.AppendStr
import Derived.ArgAppend
import Derived.Laws.IdiomCopy
import Derived.OrdersHeld
import Derived.Laws.BitsLemmas
import Derived.RowKit
import Derived.WalkMore
import Derived.Test.YtmkdcokdilllcaaDoorMr1
import Derived.Laws.StructEq
import Derived.Laws.CopyOwn
import Derived.Lib.SmallJoins
import Derived.Carry
import Derived.DataShut
/- The tables that the walks ask of a world, and that they last. -/
namespace Go.Proofs.YtmkdcokdilllcaaDoor.X
open Go.RowKit
theorem var_lasts {P : Program} {W W' : World} {n : String} {cs : Array Value} (h : Below W.heap.size W W') (hv : W.var? P n = some cs) : W'.var? P n = some cs := by
  rcases hg : P.globalNamed n with _ | g
  · unfold World.var? at hv
    simp [hg] at hv
  · refine var?_below h hg ?_ hv
    unfold World.var? at hv
    simp only [hg, Option.bind_some] at hv
    rcases hh : W.heap[g]? with _ | o
    · rw [hh] at hv
      simp at hv
    · exact (Array.getElem?_eq_some_iff.1 hh).1
/-- What the listed variables of Go's library hold. -/
structure Laid (w : World) : Prop where
  pow10 : Lib.TabIs Tryd.prog w "internal/strconv.uint64pow10" .u64 Lib.pow10Tab
theorem Laid.below {w w' : World} (h : Laid w) (hb : Below w.heap.size w w') : Laid w' := ⟨var_lasts hb h.pow10⟩
theorem Laid.drewN {w : World} (h : Laid w) (n : Nat) : Laid (w.drewN n) := h.below (Go.below_drewN (Below.refl _ _) n)
theorem Laid.drew {w : World} (h : Laid w) : Laid w.drew := h.drewN 1
end Go.Proofs.YtmkdcokdilllcaaDoor.X
/- What the rows of this seat list: the tables that the walks ask for; a world that holds all that is listed. -/
namespace Go.Proofs.YtmkdcokdilllcaaDoor.X
open Go.ChangeShapes Go.WideShapes Go.ChangeAt Go.RowKit
theorem own : ownKnob Tryd.prog.godebug = none := by kernel_rfl
theorem laidMet_tail {P : Program} {W : World} {x : String × DataW Unit} {l : List (String × DataW Unit)} (h : laidMet P (x :: l) W) : laidMet P l W := by
  obtain ⟨ps, hv, hn, hm⟩ := h
  obtain ⟨g, t, cs, fuel, p, q, h1, h2, h3, h4, hr, rfl⟩ := hv
  exact ⟨q, hr, (List.nodup_append.1 hn).2.1, fun b off h => hm b off (List.mem_append_right _ h)⟩
theorem g64 : Tryd.prog.globalNamed "internal/strconv.uint64pow10" = some 5 := by kernel_rfl
theorem g64t : (Tryd.prog.globals[5]?).map (·.type) = some 141 := by kernel_rfl
theorem g64c : Tryd.prog.cellsOf 141 = 20 := by kernel_rfl
theorem g64e : Tryd.prog.cellsOf 47 = 1 := by kernel_rfl
theorem laid_of {W : World} (h : laidMetH Tryd.prog Rows.numTextsRow.laid W) : Laid W :=
  ⟨Lib.tabIs_of_head (rest := [("unicode/utf8.acceptRanges", Rows.laid_unicode_utf8_acceptRanges), ("strconv.ErrRange", Rows.laid_strconv_ErrRange), ("strconv.ErrSyntax", Rows.laid_strconv_ErrSyntax), ("unicode/utf8.first", Rows.laid_unicode_utf8_first)]) g64 g64t Tryd.underlying141 Tryd.underlying47 g64e g64c (laidMet_tail (laidMet_tail (show laidMet Tryd.prog Rows.numTextsRow.laid W from h)))⟩
/-- The cells of a datum of numbers. -/
def cellsD : DataW Unit → List Value
  | .agg xs => xs.flatMap fun
    | .lit (.int k z) => [.int k z]
    | .agg ys => ys.map fun
      | .lit (.int k z) => .int k z
      | _ => undef
    | _ => []
  | _ => []
noncomputable def low : Nat := (World.holding Tryd.prog default ⟨#[], #[], []⟩).heap.size
def put (g : Nat) (cs : List Value) (heap : Array Obj) : Array Obj := heap.modify g fun
  | .cells _ t frozen => .cells cs.toArray t frozen
  | o => o
def errR : ByteArray := ⟨#[118, 97, 108, 117, 101, 32, 111, 117, 116, 32, 111, 102, 32, 114, 97, 110, 103, 101]⟩
def errS : ByteArray := ⟨#[105, 110, 118, 97, 108, 105, 100, 32, 115, 121, 110, 116, 97, 120]⟩
/-- A world that holds what is listed. -/
noncomputable def laidWorld (os : Os) : World :=
  let w0 := World.holding Tryd.prog os ⟨#[.cells #[.string errR] 147, .cells #[.string errS] 147], #[], []⟩
  let h1 := put 6 (cellsD Rows.laid_math_bits_deBruijn32tab) w0.heap
  let h2 := put 7 (cellsD Rows.laid_math_bits_deBruijn64tab) h1
  let h3 := put 5 (cellsD Rows.laid_internal_strconv_uint64pow10) h2
  let h4 := put 4 (cellsD Rows.laid_unicode_utf8_acceptRanges) h3
  let h5 := put 3 (cellsD Rows.laid_unicode_utf8_first) h4
  let h6 := put 2 [.iface 145 (.pointer (some ⟨low, 0, none⟩))] h5
  let h7 := put 1 [.iface 145 (.pointer (some ⟨low + 1, 0, none⟩))] h6
  { w0 with heap := h7 }
end Go.Proofs.YtmkdcokdilllcaaDoor.X
-- A walk, written by a program of this session (xp.py).
namespace Go.Proofs.YtmkdcokdilllcaaDoor.X
open Go.RowKit Go.Proofs.YtmkdcokdilllcaaDoorW.PrintWords Go.Proofs.YtmkdcokdilllcaaDoorW.PrintLast Go.Proofs.YtmkdcokdilllcaaDoorW.PrintMore
attribute [local go_sem] max2_int min2_int max_two min_two max_three min_three max_four min_four
set_option linter.unusedVariables false
set_option linter.unusedSimpArgs false

def errW : Option Int → Value
  | none => .nilIface
  | some c => .iface 116 (.int .i64 c)
theorem errW_none : errW none = .nilIface := rfl
theorem errW_some (c : Int) : errW (some c) = .iface 116 (.int .i64 c) := rfl

theorem x_u8 (a : Int) : IntKind.u8.wrap a = a % 256 := by unfold IntKind.wrap; simp [IntKind.bits, IntKind.signed]
theorem x_u32 (a : Int) : IntKind.u32.wrap a = a % 4294967296 := by unfold IntKind.wrap; simp [IntKind.bits, IntKind.signed]
theorem x_u64 (a : Int) : IntKind.u64.wrap a = a % 18446744073709551616 := by unfold IntKind.wrap; simp [IntKind.bits, IntKind.signed]
theorem x_mm (a : Int) : a % 256 % 4294967296 = a % 256 := by omega
theorem x_u32u8 (a : Int) : IntKind.u32.wrap (IntKind.u8.wrap a) = a % 256 := by rw [x_u8, x_u32]; omega
theorem halt_absurd {P : Program} {o : Oper} {a : Act} {K : Act → World → Prop} {Q : Exit → Act → World → Prop} {hh : Halt} {w : World} (h : False) : Oper.upon P o a K Q (.halt hh w) := h.elim
theorem ba_size_mk (a : Array UInt8) : (⟨a⟩ : ByteArray).size = a.size := rfl
theorem info40 : (Tryd.prog.info? 40).map (fun i => (i.zero, i.size, i.bytes)) = some (some (.int .u32 0), 1, 4) := by kernel_rfl
-- the values' own types

end Go.Proofs.YtmkdcokdilllcaaDoor.X
/- nat.Norm comes to the list without its noughts at the top. -/
namespace Go.Proofs.YtmkdcokdilllcaaDoor.X
open Go.RowKit Go.Proofs.YtmkdcokdilllcaaDoorW.PrintWords Go.Proofs.YtmkdcokdilllcaaDoorW.PrintLast Go.Proofs.YtmkdcokdilllcaaDoorW.PrintMore
set_option linter.unusedVariables false
set_option linter.unusedSimpArgs false
/-- A list without its noughts at the end. -/
def norm (l : List Int) : List Int := (l.reverse.dropWhile (· == 0)).reverse
theorem norm_nil : norm [] = [] := rfl
theorem norm_snoc (l : List Int) (x : Int) : norm (l ++ [x]) = if x = 0 then norm l else l ++ [x] := by
  unfold norm
  by_cases h : x = 0 <;> simp [h]
theorem take_snoc' (l : List Int) (m : Nat) (h : m < l.length) : l.take (m + 1) = l.take m ++ [rd l m] := by
  rw [List.take_succ_eq_append_getElem h]
  simp [rd, h]
theorem norm_take (l : List Int) (m : Nat) (h : m < l.length) : norm (l.take (m + 1)) = if rd l m = 0 then norm (l.take m) else l.take (m + 1) := by
  rw [take_snoc' l m h, norm_snoc]
theorem R_of_cells {w' : World} {k : IntKind} {e g base : Nat} {xs : List Int} (hg : w'.heap[g]? = some (.cells (nums k xs).toArray e (0, 0))) (hb : base ≤ g) (hl : xs.length ≤ maxLen) :
    Kd.R (Kd.int k) e w' base (fun _ => True) (.slice (some ⟨g, 0, none⟩) xs.length xs.length) xs :=
  Kd.R_of_own (enc := Value.int k) ⟨by simp [encs], .inr ⟨g, xs.length, _, rfl, hb, hg, Nat.le_refl _, hl, by simp [nums], by simp [nums, encs]; exact List.take_of_length_le (by simp)⟩⟩ (fun _ _ => trivial)
/-- A list of Go's own, read in memory, is written into a row that was just made. -/
theorem copy_made {P : Program} {ops : Array Oper} {rest : List Oper} {o : Oper} {a : Act} {Q : Exit → Act → World → Prop} {w W : World} (k : IntKind) (T e : TypeId) (hgd : o.guard = none) (d s : Operand)
    (ho : o.op = .call { callee := .builtin .copy, args := #[d, s], argTypes := #[T, T] }) (hu : P.underlying T = some (.slice e)) (hsz : (P.info? e).map (·.size) = some 1)
    (A : Option Addr) (n c m : Nat) (xs : List Int) (hd : a.eval d = .slice (some ⟨W.heap.size, 0, none⟩) m m) (hs : a.eval s = .slice A n c) (hr : Kd.C (Kd.int k) W A n xs) (hmn : m ≤ n) (hm : m ≤ maxLen) (hB : Below w.heap.size w W)
    (h : ∀ v w', v = .slice (some ⟨W.heap.size, 0, none⟩) m m → Kd.R (Kd.int k) e w' w.heap.size (fun _ => True) v (xs.take m) → Below w.heap.size w w' → wpList P ops Q rest (a.put o.dst (goInt m)) w') :
    wpList P ops Q (o :: rest) a (W.alloc (.cells (madeCells #[.int k 0] m) e)) := by
  have hlen : xs.length = n := hr.1
  have hg : (W.alloc (.cells (madeCells #[.int k 0] m) e)).heap[W.heap.size]? = some (.cells ((madeCells #[Value.int k 0] m).toList).toArray e (0, 0)) := by simpa using heap_alloc_new W _
  refine wpList_copy_splice hgd d s T T ho e hu hsz _ _ _ _ _ _ hd hs W.heap.size 0 _ e hg (nums k (xs.take m)) ?_ ?_ ?_ ?_ w.heap.size w (below_alloc hB _) hB.size ?_
  · simp [nums, hlen, Nat.min_eq_left hmn, Nat.min_eq_right hmn]
  · intro hp
    refine ⟨rfl, ?_⟩
    have hn : 0 < n := by
      simp [nums, hlen] at hp
      omega
    obtain ⟨ad, e, hx⟩ := Kd.at_int hr 0 (by omega) (by omega)
    refine ⟨ad, e, fun j v hv => ?_⟩
    have hj : j < m := by
      have := (List.getElem?_eq_some_iff.1 hv).1
      simp [nums, hlen] at this
      omega
    obtain ⟨ad', e', hx'⟩ := Kd.at_int hr j (by omega) (by omega)
    rw [e] at e'
    injection e' with e'
    subst e'
    rw [Int.toNat_natCast] at hx'
    rw [World.cell?_alloc_lt _ _ _ (World.block_lt_of_cell? _ _ hx'), hx']
    simp only [nums, List.getElem?_map, List.getElem?_take, if_pos hj, rd, Int.toNat_natCast] at hv ⊢
    rw [List.getElem?_eq_getElem (by omega)] at hv
    simp at hv
    rw [← hv, List.getD_eq_getElem?_getD, List.getElem?_eq_getElem (by omega)]
    rfl
  · simp [nums, madeCells, hlen]
    omega
  · intro v hv
    simp only [nums, List.mem_map] at hv
    obtain ⟨_, _, rfl⟩ := hv
    rfl
  · intro w' hid hb
    have hl2 : (xs.take m).length = m := by simp [hlen]; omega
    have hsp : splice (madeCells #[Value.int k 0] m).toList 0 (nums k (xs.take m)) = nums k (xs.take m) := by
      simp [splice, nums, madeCells, hl2]
      omega
    have hc : (nums k (xs.take m)).length = m := by simp [nums, hlen]; omega
    rw [hc]
    have hid' : w'.heap[W.heap.size]? = some (.cells (nums k (xs.take m)).toArray e (0, 0)) := by
      have := hid
      unfold Hid at this
      rw [hsp] at this
      exact this
    have hR := R_of_cells (base := w.heap.size) hid' hB.size (by omega)
    rw [hl2] at hR
    exact h _ w' rfl hR hb
def nat_Norm.f (l0 : List Int) : Option (List Int) := if l0.length < 35184372088832 then some (norm l0) else none
set_option maxHeartbeats 8000000 in
set_option maxRecDepth 100000 in
theorem nat_Norm.calls (A0 : Option Addr) (c0 : Nat) (l0 : List Int) (r : List Int) (w : World) (hr0 : Kd.C (Kd.int .u32) w A0 l0.length l0) (hc0 : l0.length ≤ c0) (h : nat_Norm.f l0 = some r) :
    Calls Tryd.prog 53 #[.slice A0 l0.length c0] w fun e w' => ∃ v0_ : Value, e = .returned (v0_) ∧ Kd.R (Kd.int .u32) 40 w' w.heap.size (fun _ => True) v0_ r ∧ Below w.heap.size w w' := by
  unfold nat_Norm.f at h
  by_cases hl : l0.length < 35184372088832
  case neg => rw [if_neg hl] at h; exact absurd h (by simp)
  rw [if_pos hl] at h
  obtain rfl := Option.some.inj h
  clear h
  have HR := Aside0.mk hr0
  clear hr0
  go_enter Tryd.func53, Tryd.ntmps53
  go_wp2
  go_loop [3] (fun n => ∃ m : Nat, m ≤ l0.length ∧ n = .int .i64 m ∧ Aside0 (norm (l0.take m) = norm l0)) (fun n => (intOf n).toNat)
  case atStart => exact ⟨l0.length, Nat.le_refl _, rfl, ⟨by rw [List.take_length]⟩⟩
  case round =>
    obtain ⟨m, hm, rfl, HN⟩ := hrel
    rcases m with _ | m
    · go_wp2
      go_ret
      refine ⟨_, rfl, ?_, Below.refl _ _⟩
      have := HN.out
      simp [norm] at this
      rw [← show [] = norm l0 from by simpa [norm] using this]
      exact Kd.R_nil _ _ _ _ _
    · have hlt : m < l0.length := by omega
      obtain ⟨ad, e, hx⟩ := Kd.at_int HR.out (m : Int) (by omega) (by omega)
      cases e
      rw [Int.toNat_natCast] at hx
      have hnt := norm_take l0 m hlt
      by_cases hz : rd l0 m = 0
      · rw [hz] at hx
        have HN' := Aside0.mk ((HN.out.symm.trans hnt).trans (if_pos hz))
        clear hnt hz HN
        go_wp2
        go_round
        case rel => exact ⟨m, by omega, by go_num, ⟨HN'.out.symm⟩⟩
        case measure => simp [intOf]
      · have hb : (rd l0 m == 0) = false := by simpa using hz
        have HN' := Aside0.mk ((HN.out.symm.trans hnt).trans (if_neg hz))
        have hmk := print_make (P := Tryd.prog) 23 40 .u32 4 Tryd.underlying23 (by kernel_rfl) (by decide) (m + 1) (by omega)
        simp only [Int.natCast_add, Int.cast_ofNat_Int] at hmk
        clear hnt hz HN
        go_wp2_with (refine copy_made .u32 23 40 rfl (.tmp 23) (.tmp 24) rfl Tryd.underlying23 (by kernel_rfl) _ _ _ (m + 1) l0 rfl rfl HR.out (by omega) (by unfold maxLen; omega) (Below.refl _ _) ?_; intro v w' hv hR hb; have HV := Aside0.mk hv; have HR2 := Aside0.mk hR; have HB2 := Aside0.mk hb; clear hv hR hb; generalize (Value.slice (some ⟨w.heap.size, 0, none⟩) (m + 1) (m + 1)) = v2 at *; obtain rfl := HV.out)
        go_ret
        refine ⟨_, rfl, ?_, HB2.out⟩
        rw [HN'.out]
        exact HR2.out
end Go.Proofs.YtmkdcokdilllcaaDoor.X
/- Limbs and the naturals that they stand for. -/
namespace Go.Proofs.YtmkdcokdilllcaaDoor.X
open Go.RowKit Go.Proofs.YtmkdcokdilllcaaDoorW.PrintWords
set_option linter.unusedVariables false
set_option linter.unusedSimpArgs false
def Ok (l : List Int) : Prop := ∀ x ∈ l, 0 ≤ x ∧ x < 4294967296
def val : List Int → Nat
  | [] => 0
  | x :: l => x.toNat + 4294967296 * val l
/-- A natural's limbs. -/
def lim (n : Nat) : List Int := if n = 0 then [] else ((n % 4294967296 : Nat) : Int) :: lim (n / 4294967296)
termination_by n
decreasing_by omega
theorem Ok.nil : Ok [] := fun x hx => by simp at hx
theorem Ok.cons {x : Int} {l : List Int} (h0 : 0 ≤ x) (h1 : x < 4294967296) (h : Ok l) : Ok (x :: l) := fun y hy => by
  rcases List.mem_cons.1 hy with rfl | hy
  · exact ⟨h0, h1⟩
  · exact h y hy
theorem Ok.head {x : Int} {l : List Int} (h : Ok (x :: l)) : 0 ≤ x ∧ x < 4294967296 := h x (by simp)
theorem Ok.tail {x : Int} {l : List Int} (h : Ok (x :: l)) : Ok l := fun y hy => h y (by simp [hy])
theorem Ok.append {a b : List Int} (ha : Ok a) (hb : Ok b) : Ok (a ++ b) := fun x hx => by
  rcases List.mem_append.1 hx with h | h
  · exact ha x h
  · exact hb x h
theorem Ok.take {a : List Int} (h : Ok a) (n : Nat) : Ok (a.take n) := fun x hx => h x (List.mem_of_mem_take hx)
theorem Ok.drop {a : List Int} (h : Ok a) (n : Nat) : Ok (a.drop n) := fun x hx => h x (List.mem_of_mem_drop hx)
theorem Ok.set {a : List Int} (h : Ok a) (n : Nat) {x : Int} (h0 : 0 ≤ x) (h1 : x < 4294967296) : Ok (a.set n x) := fun y hy => by
  rcases List.mem_or_eq_of_mem_set hy with hy | rfl
  · exact h y hy
  · exact ⟨h0, h1⟩
theorem Ok.rep (n : Nat) : Ok (List.replicate n 0) := fun x hx => by
  obtain rfl := List.eq_of_mem_replicate hx
  omega
theorem Ok.rd {l : List Int} (h : Ok l) (i : Int) : 0 ≤ rd l i ∧ rd l i < 4294967296 := by
  unfold YtmkdcokdilllcaaDoorW.PrintWords.rd
  rw [List.getD_eq_getElem?_getD]
  rcases Nat.lt_or_ge i.toNat l.length with hi | hi
  · rw [List.getElem?_eq_getElem hi]
    exact h _ (List.getElem_mem hi)
  · rw [List.getElem?_eq_none hi]
    simp
theorem lim_zero : lim 0 = [] := by unfold lim; simp
theorem lim_pos {n : Nat} (h : n ≠ 0) : lim n = ((n % 4294967296 : Nat) : Int) :: lim (n / 4294967296) := by rw [lim, if_neg h]
theorem lim_ok (n : Nat) : Ok (lim n) := by
  induction n using Nat.strongRecOn with
  | _ n ih =>
    by_cases h : n = 0
    · subst h; rw [lim_zero]; exact Ok.nil
    · rw [lim_pos h]
      exact Ok.cons (by omega) (by omega) (ih _ (by omega))
theorem val_lim (n : Nat) : val (lim n) = n := by
  induction n using Nat.strongRecOn with
  | _ n ih =>
    by_cases h : n = 0
    · subst h; rw [lim_zero]; rfl
    · rw [lim_pos h, val, ih _ (by omega)]
      omega
theorem lim_nil_iff (n : Nat) : lim n = [] ↔ n = 0 := by
  constructor
  · intro h
    have := val_lim n
    rw [h] at this
    exact this.symm
  · rintro rfl
    exact lim_zero
theorem lim_len_zero (n : Nat) : (lim n).length = 0 ↔ n = 0 := by rw [List.length_eq_zero_iff, lim_nil_iff]
theorem val_append (a b : List Int) : val (a ++ b) = val a + 4294967296 ^ a.length * val b := by
  induction a with
  | nil => simp [val]
  | cons x a ih => simp only [List.cons_append, val, ih, List.length_cons, Nat.pow_succ]; grind
theorem val_lt {l : List Int} (h : Ok l) : val l < 4294967296 ^ l.length := by
  induction l with
  | nil => simp [val]
  | cons x l ih =>
    have := ih h.tail
    have := h.head
    simp only [val, List.length_cons, Nat.pow_succ]
    omega
theorem val_rep (n : Nat) : val (List.replicate n 0) = 0 := by
  induction n with
  | zero => rfl
  | succ n ih => simp [List.replicate_succ, val, ih]
theorem norm_lim {l : List Int} (h : Ok l) : norm l = lim (val l) := by
  have key : ∀ (n : Nat) (l : List Int), l.length = n → Ok l → norm l = lim (val l) := by
    intro n
    induction n with
    | zero =>
      intro l hl _
      obtain rfl := List.eq_nil_of_length_eq_zero hl
      simp [norm_nil, val, lim_zero]
    | succ n ih =>
      intro l hl hok
      rcases List.eq_nil_or_concat l with rfl | ⟨l', x, rfl⟩
      · simp at hl
      · rw [List.concat_eq_append] at hl hok ⊢
        have hx := hok x (by simp)
        have hok' : Ok l' := fun y hy => hok y (by simp [hy])
        rw [norm_snoc]
        by_cases h0 : x = 0
        · subst h0
          rw [if_pos rfl, ih l' (by simpa using hl) hok', val_append]
          simp [val]
        · rw [if_neg h0]
          -- a list with a limb at the top is its own
          have key2 : ∀ (l' : List Int), Ok l' → l' ++ [x] = lim (val (l' ++ [x])) := by
            intro l'
            induction l' with
            | nil =>
              intro _
              have : x.toNat ≠ 0 := by omega
              simp only [List.nil_append, val, Nat.mul_zero, Nat.add_zero]
              rw [lim_pos this, Nat.mod_eq_of_lt (by omega), Nat.div_eq_of_lt (by omega), lim_zero]
              congr 1
              omega
            | cons y l' ih2 =>
              intro hok
              have hy := hok.head
              have ih3 := ih2 hok.tail
              have hv : val (l' ++ [x]) ≠ 0 := by
                intro hz
                rw [hz, lim_zero] at ih3
                simp at ih3
              simp only [List.cons_append, val]
              rw [lim_pos (by omega), show (y.toNat + 4294967296 * val (l' ++ [x])) % 4294967296 = y.toNat by omega, show (y.toNat + 4294967296 * val (l' ++ [x])) / 4294967296 = val (l' ++ [x]) by omega, ← ih3]
              congr 1
              omega
          exact key2 l' hok'
  exact key _ l rfl h
theorem lim_norm (n : Nat) : norm (lim n) = lim n := by rw [norm_lim (lim_ok n), val_lim]
theorem lim_len_le {n k : Nat} (h : n < 4294967296 ^ k) : (lim n).length ≤ k := by
  induction k generalizing n with
  | zero => have : n = 0 := by omega
            subst this; simp [lim_zero]
  | succ k ih =>
    by_cases h0 : n = 0
    · subst h0; simp [lim_zero]
    · rw [lim_pos h0, List.length_cons]
      have := ih (n := n / 4294967296) (by rw [Nat.pow_succ] at h; omega)
      omega
theorem val_take_succ {l : List Int} {m : Nat} (h : m < l.length) : val (l.take (m + 1)) = val (l.take m) + 4294967296 ^ m * (rd l m).toNat := by
  rw [take_snoc' l m h, val_append]
  simp [val, List.length_take, Nat.min_eq_left (Nat.le_of_lt h)]
theorem val_drop {l : List Int} {m : Nat} (h : m < l.length) : val (l.drop m) = (rd l m).toNat + 4294967296 * val (l.drop (m + 1)) := by
  rw [List.drop_eq_getElem_cons h, val]
  congr 2
  simp [YtmkdcokdilllcaaDoorW.PrintWords.rd, h]
theorem val_take_drop (l : List Int) (m : Nat) (h : m ≤ l.length) : val l = val (l.take m) + 4294967296 ^ m * val (l.drop m) := by
  have := val_append (l.take m) (l.drop m)
  rw [List.take_append_drop, List.length_take, Nat.min_eq_left h] at this
  exact this
theorem rd_ge {l : List Int} {i : Int} (h : (l.length : Int) ≤ i) : rd l i = 0 := by
  unfold YtmkdcokdilllcaaDoorW.PrintWords.rd
  rw [List.getD_eq_getElem?_getD, List.getElem?_eq_none (by omega)]
  rfl
theorem rd_set_same {l : List Int} {m : Nat} {x : Int} (h : m < l.length) : rd (l.set m x) m = x := by
  simp [YtmkdcokdilllcaaDoorW.PrintWords.rd, List.getD_eq_getElem?_getD, h]
theorem rd_set_ne {l : List Int} {m : Nat} {i : Int} {x : Int} (h : i.toNat ≠ m) : rd (l.set m x) i = rd l i := by
  unfold YtmkdcokdilllcaaDoorW.PrintWords.rd
  rw [List.getD_eq_getElem?_getD, List.getD_eq_getElem?_getD, List.getElem?_set_ne (by omega)]
end Go.Proofs.YtmkdcokdilllcaaDoor.X
/- A number as a parameter of a law. -/
namespace Go.Proofs.YtmkdcokdilllcaaDoor.X
open Go.ChangeShapes Go.WideShapes Go.ChangeAt Go.RowKit Go.Proofs.YtmkdcokdilllcaaDoorW.PrintWords Go.Proofs.YtmkdcokdilllcaaDoorW.PrintLast Go.Proofs.YtmkdcokdilllcaaDoorW.PrintMore
set_option linter.unusedVariables false
theorem int_bounds {n : Int} (h : (Lit.int .i64 n).wf = true) : -9223372036854775808 ≤ n ∧ n ≤ 9223372036854775807 := by
  have h1 := (Lit.wf_int_iff .i64 n).1 h
  rw [show IntKind.i64.min = -9223372036854775808 from by decide +kernel, show IntKind.i64.max = 9223372036854775807 from by decide +kernel] at h1
  exact h1
end Go.Proofs.YtmkdcokdilllcaaDoor.X
-- A walk, written by a program of this session (xp.py).
namespace Go.Proofs.YtmkdcokdilllcaaDoor.X
open Go.RowKit Go.Proofs.YtmkdcokdilllcaaDoorW.PrintWords Go.Proofs.YtmkdcokdilllcaaDoorW.PrintLast Go.Proofs.YtmkdcokdilllcaaDoorW.PrintMore
attribute [local go_sem] max2_int min2_int max_two min_two max_three min_three max_four min_four
set_option linter.unusedVariables false
set_option linter.unusedSimpArgs false

/-! ### nat_at: function 84 -/
def nat_at.f (l0 : List Int) (a1 : Int) : Option (Int) := if a1 < (l0.length : Int) then (if 0 ≤ a1 then (some (IntKind.u64.wrap (rd l0 a1))) else (none)) else (some 0)
set_option maxHeartbeats 8000000 in
set_option maxRecDepth 100000 in
theorem nat_at.calls (A0 : Option Addr) (c0 : Nat) (l0 : List Int) (a1 : Int) (r : Int) (w : World) (hr0 : Kd.C (Kd.int .u32) w A0 l0.length l0) (hc0 : l0.length ≤ c0) (h : nat_at.f l0 a1 = some r) :
    Calls Tryd.prog 84 #[.slice A0 l0.length c0, .int .i64 a1] w fun e w' => e = .returned (.int .u64 r) ∧ Drawn0 w w' := by
  have HR0 := Aside0.mk hr0
  have HC0 := Aside0.mk hc0
  clear hr0 hc0
  have H : (if a1 < (l0.length : Int) then (if 0 ≤ a1 then (some (IntKind.u64.wrap (rd l0 a1))) else (none)) else (some 0)) = some r := h
  clear h
  by_cases c3 : a1 < (l0.length : Int)
  · rw [if_pos c3] at H
    have c3b0 : decide (a1 < (l0.length : Int)) = true := decide_eq_true c3
    clear c3
    by_cases c4 : 0 ≤ a1
    · rw [if_pos c4] at H
      have c4b0 : decide (0 ≤ a1) = true := decide_eq_true c4
      clear c4
      obtain rfl := Option.some.inj H
      have p167 : 0 ≤ (a1 : Int) := of_decide_eq_true (by first | (with_reducible assumption) | assumption)
      have q167 : a1 < (l0.length : Int) := of_decide_eq_true (by first | (with_reducible assumption) | assumption)
      obtain ⟨ad167, e167, hx167_0⟩ := Kd.at_int HR0.out a1 p167 q167
      cases e167
      replace p167 := eq_true p167
      replace q167 := eq_true q167
      go_enter Tryd.func84, Tryd.ntmps84
      go_wp2
      go_ret
      exact ⟨by first | rfl | (simp; done) | (simp [*]; done), by repeat (first | exact Drawn0.refl _ | apply Drawn0.step)⟩
    · rw [if_neg c4] at H
      exact absurd H (by simp)
  · rw [if_neg c3] at H
    have c3b0 : decide (a1 < (l0.length : Int)) = false := decide_eq_false c3
    clear c3
    obtain rfl := Option.some.inj H
    go_enter Tryd.func84, Tryd.ntmps84
    go_wp2
    go_ret
    exact ⟨by first | rfl | (simp; done) | (simp [*]; done), by repeat (first | exact Drawn0.refl _ | apply Drawn0.step)⟩

end Go.Proofs.YtmkdcokdilllcaaDoor.X
-- A walk, written by a program of this session (xp.py).
namespace Go.Proofs.YtmkdcokdilllcaaDoor.X
open Go.RowKit Go.Proofs.YtmkdcokdilllcaaDoorW.PrintWords Go.Proofs.YtmkdcokdilllcaaDoorW.PrintLast Go.Proofs.YtmkdcokdilllcaaDoorW.PrintMore
attribute [local go_sem] max2_int min2_int max_two min_two max_three min_three max_four min_four
set_option linter.unusedVariables false
set_option linter.unusedSimpArgs false

/-! ### nat_Add: function 68 -/
def nat_Add.l0 : Nat → List Int → List Int → List Int → Int → Int → Int → Option (List Int)
  | 0, _, _, _, _, _, _ => none
  | k + 1, x0, x1, x5, x6, x13, x14 => if x14 < x13 then ((nat_at.f x0 x14).bind fun t168 => ((nat_at.f x1 x14).bind fun t169 => (if x5.length < 35184372088832 then (nat_Add.l0 k x0 x1 (x5 ++ [(IntKind.u64.wrap (x6 + (IntKind.u64.wrap (t168 + t169)))) % 4294967296]) ((IntKind.u64.wrap (x6 + (IntKind.u64.wrap (t168 + t169)))) / 4294967296) x13 (wrap64 (x14 + 1))) else (none)))) else ((nat_Norm.f x5).bind fun t173 => (some t173))
def nat_Add.f (k : Nat) (l0 : List Int) (l1 : List Int) : Option (List Int) := nat_Add.l0 k l0 l1 ([] : List Int) 0 (wrap64 ((mx (l0.length : Int) (l1.length : Int)) + 1)) 0
set_option maxHeartbeats 8000000 in
set_option maxRecDepth 100000 in
theorem nat_Add.calls (k : Nat) (A0 : Option Addr) (c0 : Nat) (l0 : List Int) (A1 : Option Addr) (c1 : Nat) (l1 : List Int) (r : List Int) (w : World) (hr0 : Kd.C (Kd.int .u32) w A0 l0.length l0) (hc0 : l0.length ≤ c0) (hr1 : Kd.C (Kd.int .u32) w A1 l1.length l1) (hc1 : l1.length ≤ c1) (h : nat_Add.f k l0 l1 = some r) :
    Calls Tryd.prog 68 #[.slice A0 l0.length c0, .slice A1 l1.length c1] w fun e w' => ∃ v0_ : Value, e = .returned (v0_) ∧ Kd.R (Kd.int .u32) 40 w' w.heap.size (fun _ => True) v0_ r ∧ Below w.heap.size w w' := by
  have HR0 := Aside0.mk hr0
  have HC0 := Aside0.mk hc0
  clear hr0 hc0
  have HR1 := Aside0.mk hr1
  have HC1 := Aside0.mk hc1
  clear hr1 hc1
  have HB := Aside0.mk (Below.refl w.heap.size w)
  have H : (nat_Add.l0 k l0 l1 ([] : List Int) 0 (wrap64 ((mx (l0.length : Int) (l1.length : Int)) + 1)) 0) = some r := h
  clear h
  obtain ⟨ji3, hji3⟩ : ∃ j_ : Int, (mx (l0.length : Int) (l1.length : Int)) = j_ := ⟨_, rfl⟩
  replace H : (nat_Add.l0 k l0 l1 ([] : List Int) 0 (wrap64 ((ji3) + 1)) 0) = some r := by first | (rw [hji3] at H; exact H) | (simp only [hji3] at H ⊢; exact H)
  (try (have hji3l : 0 ≤ ji3 := by (rw [← hji3]; unfold mx; (repeat' split) <;> omega)))
  (try (have hji3m : 0 ≤ ji3 := by omega))
  have hji3n : (if l0.length < l1.length then (l1.length : Int) else (l0.length : Int)) = ji3 := by rw [← hji3]; unfold mx; simp only [Int.ofNat_lt]
  have hji3_ : (if (l0.length : Int) < (l1.length : Int) then (l1.length : Int) else (l0.length : Int)) = ji3 := hji3
  have H' := Aside0.mk H
  clear H
  go_enter Tryd.func68, Tryd.ntmps68
  go_wp2
  go_loopg [5, 6, 14] k (fun kq v5 v6 v14 w' => ∃ (x5_1 : List Int) (x6_1 : Int) (x14_1 : Int), v6 = .int .u64 x6_1 ∧ v14 = .int .i64 x14_1 ∧ Aside0 (nat_Add.l0 kq l0 l1 x5_1 x6_1 (wrap64 ((ji3) + 1)) x14_1 = some r) ∧ Aside0 (kq ≤ k) ∧ Aside0 (Kd.R (Kd.int .u32) 40 w' w.heap.size (fun _ => True) v5 x5_1) ∧ Aside0 (Below w.heap.size w w'))
  case atStart => exact ⟨(([] : List Int)), (0), (0), (by first | rfl | (simp; done) | (simp [*]; done)), (by first | rfl | (simp; done) | (simp [*]; done)), H', ⟨Nat.le_refl _⟩, ⟨by first | exact Kd.R_nil _ _ _ _ _ | exact Kd.N_nil _ _ _ _ _ | exact Kd.V_nil _ _ _ _ _ | exact Kd.Q_nil _ _ _ _ _ | exact Kd.S_nil _ _ _ _ _⟩, ⟨by repeat (first | (with_reducible first | exact HB.out | apply below_alloc | apply pw_below_drewN | apply below_drew1) | exact HB.out)⟩⟩
  case round =>
    clear H'
    try clear c1
    try clear p2
    obtain ⟨x5_1, x6_1, x14_1, rfl, rfl, HA, HK1, HO_5, HB⟩ := hrel
    cases gk with
    | zero => exact absurd HA.out (by simp [nat_Add.l0])
    | succ k1 =>
      have H := HA.out
      clear HA
      simp only [nat_Add.l0] at H
      by_cases c4 : x14_1 < (wrap64 ((ji3) + 1))
      · rw [if_pos c4] at H
        have c4b0 : decide (x14_1 < (wrap64 ((ji3) + 1))) = true := decide_eq_true c4
        clear c4
        replace H := Option.bind_eq_some_iff.mp H
        obtain ⟨t168, A50, H⟩ := H
        replace H : ((nat_at.f l1 x14_1).bind fun t169 => (if x5_1.length < 35184372088832 then (nat_Add.l0 k1 l0 l1 (x5_1 ++ [(IntKind.u64.wrap (x6_1 + (IntKind.u64.wrap (t168 + t169)))) % 4294967296]) ((IntKind.u64.wrap (x6_1 + (IntKind.u64.wrap (t168 + t169)))) / 4294967296) (wrap64 ((ji3) + 1)) (wrap64 (x14_1 + 1))) else (none))) = some r := H
        have A5 := Aside0.mk A50
        clear A50
        replace H := Option.bind_eq_some_iff.mp H
        obtain ⟨t169, A60, H⟩ := H
        replace H : (if x5_1.length < 35184372088832 then (nat_Add.l0 k1 l0 l1 (x5_1 ++ [(IntKind.u64.wrap (x6_1 + (IntKind.u64.wrap (t168 + t169)))) % 4294967296]) ((IntKind.u64.wrap (x6_1 + (IntKind.u64.wrap (t168 + t169)))) / 4294967296) (wrap64 ((ji3) + 1)) (wrap64 (x14_1 + 1))) else (none)) = some r := H
        have A6 := Aside0.mk A60
        clear A60
        by_cases c7 : x5_1.length < 35184372088832
        · rw [if_pos c7] at H
          have LMc7 := Aside0.mk c7
          clear c7
          obtain ⟨y170, hy170⟩ : ∃ y_ : List Int, y_ = (x5_1 ++ [(IntKind.u64.wrap (x6_1 + (IntKind.u64.wrap (t168 + t169)))) % 4294967296]) := ⟨_, rfl⟩
          replace H : (nat_Add.l0 k1 l0 l1 y170 ((IntKind.u64.wrap (x6_1 + (IntKind.u64.wrap (t168 + t169)))) / 4294967296) (wrap64 ((ji3) + 1)) (wrap64 (x14_1 + 1))) = some r := by first | (rw [hy170]; with_reducible exact H) | (have H2_ := (Option.bind_some _ _).symm.trans H; rw [hy170]; with_reducible exact H2_) | (have H2_ := (Option.bind_some _ _).symm.trans H; with_reducible exact H2_) | with_reducible exact H | (rw [hy170]; exact H) | exact H
          have Ny170 := Aside0.mk hy170
          clear hy170
          have H' := Aside0.mk H
          clear H
          go_wp2_with (first | ((with_reducible refine gate_callee (f := 84) rfl ?_); refine goesL_ (some 20) rfl rfl Tryd.func84 (by kernel_rfl) rfl #[.slice A0 l0.length c0, .int .i64 x14_1] rfl (by (try simp only [List.map_toArray, List.map_cons, List.map_nil]); first | done | rfl | (simp only [List.length_drop, List.length_take]; rfl)) ?_; (with_reducible refine (nat_at.calls _ _ l0 x14_1 t168 _ ?side1 ?side2 A5.out).mono ?_); (case side1 => repeat (first | exact (Kd.C_below HR0.out HB.out) | (with_reducible refine Kd.C_alloc ?_ _) | (with_reducible refine Kd.C_drewN ?_ _) | (with_reducible refine Kd.C_drew ?_))); (case side2 => exact HC0.out); rintro e w' ⟨rfl, ⟨nd, rfl⟩⟩; refine ⟨_, rfl, ?_⟩) | ((with_reducible refine gate_callee (f := 84) rfl ?_); refine goesL_ (some 23) rfl rfl Tryd.func84 (by kernel_rfl) rfl #[.slice A1 l1.length c1, .int .i64 x14_1] rfl (by (try simp only [List.map_toArray, List.map_cons, List.map_nil]); first | done | rfl | (simp only [List.length_drop, List.length_take]; rfl)) ?_; (with_reducible refine (nat_at.calls _ _ l1 x14_1 t169 _ ?side1 ?side2 A6.out).mono ?_); (case side1 => repeat (first | exact (Kd.C_below HR1.out (by repeat (first | (with_reducible first | exact HB.out | apply below_alloc | apply pw_below_drewN | apply below_drew1) | exact HB.out))) | (with_reducible refine Kd.C_alloc ?_ _) | (with_reducible refine Kd.C_drewN ?_ _) | (with_reducible refine Kd.C_drew ?_))); (case side2 => exact HC1.out); rintro e w' ⟨rfl, ⟨nd, rfl⟩⟩; refine ⟨_, rfl, ?_⟩) | ((with_reducible refine gate_builtin (b := .append) (xs := #[.tmp 26, .tmp 29]) rfl ?_); at_builtin; refine Kd.R_append (Kd.int .u32) (w0 := w) w.heap.size rfl (.tmp 26) (.tmp 29) 23 40 (.int .u32 0) 4 rfl Tryd.underlying23 info40 rfl (by decide) (by omega) u5 x5_1 ((IntKind.u64.wrap (x6_1 + (IntKind.u64.wrap (t168 + t169)))) % 4294967296) [.int .u32 ((IntKind.u64.wrap (x6_1 + (IntKind.u64.wrap (t168 + t169)))) % 4294967296)] (fun _ => True) (fun _ => False) rfl rfl ?aP (fun _ hk => hk.elim) ?aF ?aO ?aB ?aS ?aL ?_; (case aP => exact rfl); (case aB => exact (by repeat (first | (with_reducible first | exact HB.out | apply below_alloc | apply pw_below_drewN | apply below_drew1) | exact HB.out))); (case aF => exact (fun _ _ => trivial)); (case aO => exact (by (with_reducible repeat (first | apply Kd.R_alloc | apply Kd.R_drewN | apply Kd.R_drew)); exact HO_5.out)); (case aS => exact (below_size (by repeat (first | (with_reducible first | exact HB.out | apply below_alloc | apply pw_below_drewN | apply below_drew1) | exact HB.out)))); (case aL => have := LMc7.out; omega); intro v171 w8 ho hb hg hat; rw [← Ny170.out] at ho; have n0_ := Aside0.mk (hb); have n1_ := Aside0.mk (ho); clear HB; clear HO_5; have HB := n0_; have HO172 := n1_; clear n0_ n1_; clear ho hb hg hat))
          go_roundg k1
          case measure => have := HK1.out; omega
          case rel => exact ⟨(y170), ((IntKind.u64.wrap (x6_1 + (IntKind.u64.wrap (t168 + t169)))) / 4294967296), (wrap64 (x14_1 + 1)), (by first | rfl | (simp; done) | (simp [*]; done)), (by first | rfl | (simp; done) | (simp [*]; done)), (by first | exact H' | (simp only [hji3]; exact H')), ⟨by have := HK1.out; omega⟩, ⟨by (with_reducible repeat (first | apply Kd.R_alloc | apply Kd.R_drewN | apply Kd.R_drew)); exact HO172.out⟩, ⟨by repeat (first | (with_reducible first | exact HB.out | apply below_alloc | apply pw_below_drewN | apply below_drew1) | exact HB.out)⟩⟩
        · rw [if_neg c7] at H
          exact absurd H (by simp)
      · rw [if_neg c4] at H
        have c4b0 : decide (x14_1 < (wrap64 ((ji3) + 1))) = false := decide_eq_false c4
        clear c4
        replace H := Option.bind_eq_some_iff.mp H
        obtain ⟨t173, A90, H⟩ := H
        replace H : (some t173) = some r := H
        have A9 := Aside0.mk A90
        clear A90
        obtain rfl := Option.some.inj H
        obtain ⟨Ao10, co10, eo10⟩ := Kd.R_slice HO_5.out
        subst eo10
        go_wp2_with (first | ((with_reducible refine gate_callee (f := 53) rfl ?_); refine goesL_ (some 35) rfl rfl Tryd.func53 (by kernel_rfl) rfl #[.slice Ao10 x5_1.length co10] rfl (by (try simp only [List.map_toArray, List.map_cons, List.map_nil]); first | done | rfl | (simp only [List.length_drop, List.length_take]; rfl)) ?_; (with_reducible refine (nat_Norm.calls _ _ x5_1 t173 _ ?side1 ?side2 A9.out).mono ?_); (case side1 => repeat (first | exact (Kd.R_reads' HO_5.out).2.2 | (with_reducible refine Kd.C_alloc ?_ _) | (with_reducible refine Kd.C_drewN ?_ _) | (with_reducible refine Kd.C_drew ?_))); (case side2 => exact (Kd.R_reads' HO_5.out).2.1); rintro e w11 ⟨v174, rfl, ho0, hb⟩; refine ⟨_, rfl, ?_⟩; have n0_ := Aside0.mk (Kd.R_elder' (by (with_reducible repeat (first | apply Kd.R_alloc | apply Kd.R_drewN | apply Kd.R_drew)); exact HO_5.out) (Kd.R_base ho0) hb); have n1_ := Aside0.mk (Kd.R_lower (Kd.R_new' ho0 (Kd.R_lt (by (with_reducible repeat (first | apply Kd.R_alloc | apply Kd.R_drewN | apply Kd.R_drew)); exact HO_5.out))) (below_size (by repeat (first | (with_reducible first | exact HB.out | apply below_alloc | apply pw_below_drewN | apply below_drew1) | exact HB.out)))); have n2_ := Aside0.mk (below_step (by repeat (first | (with_reducible first | exact HB.out | apply below_alloc | apply pw_below_drewN | apply below_drew1) | exact HB.out)) hb); clear HO_5; clear HB; have HO_5 := n0_; have HO175 := n1_; have HB := n2_; clear n0_ n1_ n2_; (try clear hb); (try clear hb2); (try clear hk); (try clear hi); (try clear ho0)))
        go_ret
        exact ⟨_, by first | rfl | (simp [errW_none, errW_some] <;> rfl) | (simp only [← hji3]; first | rfl | (simp [errW_none, errW_some] <;> rfl)) | (simp [*, errW_none, errW_some] <;> rfl), by (with_reducible repeat (first | apply Kd.R_alloc | apply Kd.R_drewN | apply Kd.R_drew)); exact Kd.R_mono HO175.out (fun _ hk => trivial), by repeat (first | (with_reducible first | exact HB.out | apply below_alloc | apply pw_below_drewN | apply below_drew1) | exact HB.out)⟩

end Go.Proofs.YtmkdcokdilllcaaDoor.X
-- A walk, written by a program of this session (xp.py).
namespace Go.Proofs.YtmkdcokdilllcaaDoor.X
open Go.RowKit Go.Proofs.YtmkdcokdilllcaaDoorW.PrintWords Go.Proofs.YtmkdcokdilllcaaDoorW.PrintLast Go.Proofs.YtmkdcokdilllcaaDoorW.PrintMore
attribute [local go_sem] max2_int min2_int max_two min_two max_three min_three max_four min_four
set_option linter.unusedVariables false
set_option linter.unusedSimpArgs false

/-! ### nat_small: function 54 -/
def nat_small.l0 : Nat → List Int → Int → List Int → Int → Int → Option (List Int × Int)
  | 0, _, _, _, _, _ => none
  | k + 1, x0, x1, x6, x7, x8 => if x8 ≥ 0 then (if x8 < (x0.length : Int) then (if (IntKind.u64.wrap (x1)) = 0 then (none) else (if x8 < (x6.length : Int) then (nat_small.l0 k x0 x1 (x6.set (x8 : Int).toNat ((IntKind.u64.wrap (Int.tdiv (Go.bits .or .u64 (IntKind.u64.wrap (x7 * 4294967296)) (IntKind.u64.wrap (rd x0 x8))) (IntKind.u64.wrap (x1)))) % 4294967296)) (Int.tmod (Go.bits .or .u64 (IntKind.u64.wrap (x7 * 4294967296)) (IntKind.u64.wrap (rd x0 x8))) (IntKind.u64.wrap (x1))) (wrap64 (x8 - 1))) else (none))) else (none)) else ((nat_Norm.f x6).bind fun t106 => (some (t106, (x7) % 4294967296)))
def nat_small.f (k : Nat) (l0 : List Int) (a1 : Int) : Option (List Int × Int) := if 0 ≤ (l0.length : Int) then (if ((l0.length : Int) : Int).toNat ≤ 70368744177664 then (nat_small.l0 k l0 a1 (List.replicate ((l0.length : Int) : Int).toNat 0) 0 (wrap64 ((l0.length : Int) - 1))) else (none)) else (none)
set_option maxHeartbeats 8000000 in
set_option maxRecDepth 100000 in
theorem nat_small.calls (k : Nat) (A0 : Option Addr) (c0 : Nat) (l0 : List Int) (a1 : Int) (r1 : List Int) (r2 : Int) (w : World) (hr0 : Kd.C (Kd.int .u32) w A0 l0.length l0) (hc0 : l0.length ≤ c0) (h : nat_small.f k l0 a1 = some (r1, r2)) :
    Calls Tryd.prog 54 #[.slice A0 l0.length c0, .int .u32 a1] w fun e w' => ∃ v0_ : Value, e = .returned (.tuple #[v0_, .int .u32 r2]) ∧ Kd.R (Kd.int .u32) 40 w' w.heap.size (fun _ => True) v0_ r1 ∧ Below w.heap.size w w' := by
  have HR0 := Aside0.mk hr0
  have HC0 := Aside0.mk hc0
  clear hr0 hc0
  have HB := Aside0.mk (Below.refl w.heap.size w)
  have H : (if 0 ≤ (l0.length : Int) then (if ((l0.length : Int) : Int).toNat ≤ 70368744177664 then (nat_small.l0 k l0 a1 (List.replicate ((l0.length : Int) : Int).toNat 0) 0 (wrap64 ((l0.length : Int) - 1))) else (none)) else (none)) = some (r1, r2) := h
  clear h
  by_cases c3 : 0 ≤ (l0.length : Int)
  · rw [if_pos c3] at H
    have c3b0 := eq_true c3
    have c3b1 : decide (0 ≤ (l0.length : Int)) = true := decide_eq_true c3
    clear c3
    by_cases c4 : ((l0.length : Int) : Int).toNat ≤ 70368744177664
    · rw [if_pos c4] at H
      have c4b0 := eq_true c4
      have c4b1 : decide (((l0.length : Int) : Int).toNat ≤ 70368744177664) = true := decide_eq_true c4
      clear c4
      obtain ⟨y101, hy101⟩ : ∃ y_ : List Int, y_ = (List.replicate ((l0.length : Int) : Int).toNat 0) := ⟨_, rfl⟩
      replace H : (nat_small.l0 k l0 a1 y101 0 (wrap64 ((l0.length : Int) - 1))) = some (r1, r2) := by first | (rw [hy101]; with_reducible exact H) | (have H2_ := (Option.bind_some _ _).symm.trans H; rw [hy101]; with_reducible exact H2_) | (have H2_ := (Option.bind_some _ _).symm.trans H; with_reducible exact H2_) | with_reducible exact H | (rw [hy101]; exact H) | exact H
      have Ny101 := Aside0.mk hy101
      clear hy101
      have H' := Aside0.mk H
      clear H
      go_enter Tryd.func54, Tryd.ntmps54
      go_wp2_with (first | ((with_reducible refine gate_dst (N := 11) rfl ?_); refine Kd.R_make (Kd.int .u32) _ 40 rfl (N := 11) rfl 23 _ _ rfl (l0.length : Int) rfl rfl Tryd.underlying23 (.int .u32 0) 4 info40 rfl (by decide) (by omega) 0 (ok := fun _ => True) (okp := fun _ => True) rfl (fun _ hk => hk) trivial (of_decide_eq_true (by first | (with_reducible assumption) | assumption)) (Nat.le_trans (Nat.mul_le_mul_right _ (of_decide_eq_true (by first | (with_reducible assumption) | assumption) : (l0.length : Int).toNat ≤ 70368744177664)) (by omega)) (Below.refl _ _) (Nat.le_refl _) ?_; intro v102 w5 ho6 hb hg_ hnew_; clear hg_ hnew_; (first | rw [← Ny101.out] at ho6 | (simp only [Int.reduceToNat] at ho6; rw [← Ny101.out] at ho6)); have n0_ := Aside0.mk (Kd.R_lower ho6 (below_size (by repeat (first | (with_reducible first | exact HB.out | apply below_alloc | apply pw_below_drewN | apply below_drew1) | exact HB.out)))); have n1_ := Aside0.mk (below_step (by repeat (first | (with_reducible first | exact HB.out | apply below_alloc | apply pw_below_drewN | apply below_drew1) | exact HB.out)) hb); clear HB; have HO103 := n0_; have HB := n1_; clear n0_ n1_; clear hb ho6))
      go_loopg [7, 8] k (fun kq v7 v8 w' => ∃ (x6_1 : List Int) (x7_1 : Int) (x8_1 : Int), v7 = .int .u64 x7_1 ∧ v8 = .int .i64 x8_1 ∧ Aside0 (nat_small.l0 kq l0 a1 x6_1 x7_1 x8_1 = some (r1, r2)) ∧ Aside0 (kq ≤ k) ∧ Aside0 (Kd.R (Kd.int .u32) 40 w' w.heap.size (fun _ => True) v102 x6_1) ∧ Aside0 (Below w.heap.size w w'))
      case atStart => exact ⟨(y101), (0), (wrap64 ((l0.length : Int) - 1)), (by first | rfl | (simp; done) | (simp [*]; done)), (by first | rfl | (simp; done) | (simp [*]; done)), H', ⟨Nat.le_refl _⟩, ⟨by (with_reducible repeat (first | apply Kd.R_alloc | apply Kd.R_drewN | apply Kd.R_drew)); exact HO103.out⟩, ⟨by repeat (first | (with_reducible first | exact HB.out | apply below_alloc | apply pw_below_drewN | apply below_drew1) | exact HB.out)⟩⟩
      case round =>
        clear H'
        try clear p2
        try clear c3
        try clear c3b0
        try clear c3b1
        try clear c4
        try clear c4b0
        try clear c4b1
        try clear c5
        try clear p6
        obtain ⟨x6_1, x7_1, x8_1, rfl, rfl, HA, HK1, HO_6, HB⟩ := hrel
        cases gk with
        | zero => exact absurd HA.out (by simp [nat_small.l0])
        | succ k1 =>
          have H := HA.out
          clear HA
          simp only [nat_small.l0] at H
          by_cases c7 : x8_1 ≥ 0
          · rw [if_pos c7] at H
            have c7b0 : decide (0 ≤ x8_1) = true := decide_eq_true c7
            clear c7
            by_cases c8 : x8_1 < (l0.length : Int)
            · rw [if_pos c8] at H
              have c8b0 : decide (x8_1 < (l0.length : Int)) = true := decide_eq_true c8
              clear c8
              by_cases c9 : (IntKind.u64.wrap (a1)) = 0
              · rw [if_pos c9] at H
                exact absurd H (by simp)
              · rw [if_neg c9] at H
                have c9b0 : ((IntKind.u64.wrap (a1)) == 0) = false := beq_eq_false_iff_ne.mpr c9
                have c9b1 : ((IntKind.u64.wrap (a1)) != 0) = true := bne_iff_ne.mpr c9
                by_cases c10 : x8_1 < (x6_1.length : Int)
                · rw [if_pos c10] at H
                  have c10b0 : decide (x8_1 < (x6_1.length : Int)) = true := decide_eq_true c10
                  clear c10
                  obtain ⟨y105, hy105⟩ : ∃ y_ : List Int, y_ = (x6_1.set (x8_1 : Int).toNat ((IntKind.u64.wrap (Int.tdiv (Go.bits .or .u64 (IntKind.u64.wrap (x7_1 * 4294967296)) (IntKind.u64.wrap (rd l0 x8_1))) (IntKind.u64.wrap (a1)))) % 4294967296)) := ⟨_, rfl⟩
                  replace H : (nat_small.l0 k1 l0 a1 y105 (Int.tmod (Go.bits .or .u64 (IntKind.u64.wrap (x7_1 * 4294967296)) (IntKind.u64.wrap (rd l0 x8_1))) (IntKind.u64.wrap (a1))) (wrap64 (x8_1 - 1))) = some (r1, r2) := by first | (rw [hy105]; with_reducible exact H) | (have H2_ := (Option.bind_some _ _).symm.trans H; rw [hy105]; with_reducible exact H2_) | (have H2_ := (Option.bind_some _ _).symm.trans H; with_reducible exact H2_) | with_reducible exact H | (rw [hy105]; exact H) | exact H
                  have Ny105 := Aside0.mk hy105
                  clear hy105
                  have H' := Aside0.mk H
                  clear H
                  have p104 : 0 ≤ (x8_1 : Int) := of_decide_eq_true (by first | (with_reducible assumption) | assumption)
                  have q104 : x8_1 < (l0.length : Int) := of_decide_eq_true (by first | (with_reducible assumption) | assumption)
                  obtain ⟨ad104, e104, hx104_0⟩ := Kd.at_int HR0.out x8_1 p104 q104
                  cases e104
                  replace hx104_0 := (HB.out.cell (World.block_lt_of_cell? w _ hx104_0)).trans hx104_0
                  replace p104 := eq_true p104
                  replace q104 := eq_true q104
                  have p11 : 0 ≤ (x8_1 : Int) := of_decide_eq_true (by first | (with_reducible assumption) | assumption)
                  have q11 : (x8_1 : Int) < ((x6_1.length : Int) : Int) := of_decide_eq_true (by first | (with_reducible assumption) | assumption)
                  obtain ⟨go11, co11, eo11, gb11, gl11, cl11, HG11⟩ := Kd.R_form HO_6.out (by omega)
                  (first | cases eo11 | (injection eo11 with ea_ en_ ec_; (first | subst ea_ | (injection ea_ with ea_; subst ea_)); subst ec_; clear en_))
                  have GB11 := Aside0.mk gb11
                  have GG11 := Aside0.mk HG11
                  clear gb11 gl11 HG11
                  obtain ⟨hx11_0, hf11_0⟩ := Kd.R_celln 0 HO_6.out (x8_1 : Int) p11 q11
                  replace p11 := eq_true p11
                  replace q11 := eq_true q11
                  have HP12 := Kd.R_putg HO_6.out (x8_1 : Int) ((IntKind.u64.wrap (Int.tdiv (Go.bits .or .u64 (IntKind.u64.wrap (x7_1 * 4294967296)) (IntKind.u64.wrap (rd l0 x8_1))) (IntKind.u64.wrap (a1)))) % 4294967296)
                  go_wp2_with (first | ((with_reducible refine gate_store (t := 40) (p := 34) rfl ?_); refine store_event (t := 40) (p := 34) (v := ?vo_w13) (w1 := (wr.setCell ⟨go11, (x8_1 : Int).toNat, none⟩ (.int .u32 ((IntKind.u64.wrap (Int.tdiv (Go.bits .or .u64 (IntKind.u64.wrap (x7_1 * 4294967296)) (IntKind.u64.wrap (rd l0 x8_1))) (IntKind.u64.wrap (a1)))) % 4294967296)))) ?hg ?ho ?hn ?hr ?_; (case ho => rfl); (case hg => rfl); (case hn => rfl); (case hr => first | (go_simp; done) | (go_simp; rfl) | (go_simp; simp only [x_u32u8, x_u8, x_u32, x_u64, x_mm]; first | done | rfl)); intro w13 hw; have hg : wr.grownBy w13 (some go11) := (by rw [hw]; exact HP12.2); have hp_ : Kd.R (Kd.int .u32) 40 w13 w.heap.size (fun _ => True) (.slice (some ⟨go11, 0, none⟩) x6_1.length co11) y105 := (by rw [hw, Ny105.out]; exact HP12.1); clear HP12; have n0_ := Aside0.mk (hp_); have n1_ := Aside0.mk ((by rw [hw]; exact below_set (HB.out) GB11.out : Below w.heap.size w w13)); clear HO_6; clear HB; have HO_6 := n0_; have HB := n1_; clear n0_ n1_; clear hg hw hp_))
                  go_roundg k1
                  case measure => have := HK1.out; omega
                  case rel => exact ⟨(y105), (Int.tmod (Go.bits .or .u64 (IntKind.u64.wrap (x7_1 * 4294967296)) (IntKind.u64.wrap (rd l0 x8_1))) (IntKind.u64.wrap (a1))), (wrap64 (x8_1 - 1)), (by first | rfl | (simp; done) | (simp [*]; done)), (by first | rfl | (simp; done) | (simp [*]; done)), H', ⟨by have := HK1.out; omega⟩, ⟨by (with_reducible repeat (first | apply Kd.R_alloc | apply Kd.R_drewN | apply Kd.R_drew)); exact HO_6.out⟩, ⟨by repeat (first | (with_reducible first | exact HB.out | apply below_alloc | apply pw_below_drewN | apply below_drew1) | exact HB.out)⟩⟩
                · rw [if_neg c10] at H
                  exact absurd H (by simp)
            · rw [if_neg c8] at H
              exact absurd H (by simp)
          · rw [if_neg c7] at H
            have c7b0 : decide (0 ≤ x8_1) = false := decide_eq_false c7
            clear c7
            replace H := Option.bind_eq_some_iff.mp H
            obtain ⟨t106, A140, H⟩ := H
            replace H : (some (t106, (x7_1) % 4294967296)) = some (r1, r2) := H
            have A14 := Aside0.mk A140
            clear A140
            simp only [Option.some.injEq, Prod.mk.injEq] at H
            obtain ⟨rfl, rfl⟩ := H
            obtain ⟨Ao15, co15, eo15⟩ := Kd.R_slice HO_6.out
            subst eo15
            go_wp2_with (first | ((with_reducible refine gate_callee (f := 53) rfl ?_); refine goesL_ (some 40) rfl rfl Tryd.func53 (by kernel_rfl) rfl #[.slice Ao15 x6_1.length co15] rfl (by (try simp only [List.map_toArray, List.map_cons, List.map_nil]); first | done | rfl | (simp only [List.length_drop, List.length_take]; rfl)) ?_; (with_reducible refine (nat_Norm.calls _ _ x6_1 t106 _ ?side1 ?side2 A14.out).mono ?_); (case side1 => repeat (first | exact (Kd.R_reads' HO_6.out).2.2 | (with_reducible refine Kd.C_alloc ?_ _) | (with_reducible refine Kd.C_drewN ?_ _) | (with_reducible refine Kd.C_drew ?_))); (case side2 => exact (Kd.R_reads' HO_6.out).2.1); rintro e w16 ⟨v107, rfl, ho0, hb⟩; refine ⟨_, rfl, ?_⟩; have n0_ := Aside0.mk (Kd.R_elder' (by (with_reducible repeat (first | apply Kd.R_alloc | apply Kd.R_drewN | apply Kd.R_drew)); exact HO_6.out) (Kd.R_base ho0) hb); have n1_ := Aside0.mk (Kd.R_lower (Kd.R_new' ho0 (Kd.R_lt (by (with_reducible repeat (first | apply Kd.R_alloc | apply Kd.R_drewN | apply Kd.R_drew)); exact HO_6.out))) (below_size (by repeat (first | (with_reducible first | exact HB.out | apply below_alloc | apply pw_below_drewN | apply below_drew1) | exact HB.out)))); have n2_ := Aside0.mk (below_step (by repeat (first | (with_reducible first | exact HB.out | apply below_alloc | apply pw_below_drewN | apply below_drew1) | exact HB.out)) hb); clear HO_6; clear HB; have HO_6 := n0_; have HO108 := n1_; have HB := n2_; clear n0_ n1_ n2_; (try clear hb); (try clear hb2); (try clear hk); (try clear hi); (try clear ho0)))
            go_ret2
            exact ⟨_, by first | rfl | (simp [errW_none, errW_some] <;> rfl) | (simp [*, errW_none, errW_some] <;> rfl), by (with_reducible repeat (first | apply Kd.R_alloc | apply Kd.R_drewN | apply Kd.R_drew)); exact Kd.R_mono HO108.out (fun _ hk => trivial), by repeat (first | (with_reducible first | exact HB.out | apply below_alloc | apply pw_below_drewN | apply below_drew1) | exact HB.out)⟩
    · rw [if_neg c4] at H
      exact absurd H (by simp)
  · rw [if_neg c3] at H
    exact absurd H (by simp)

end Go.Proofs.YtmkdcokdilllcaaDoor.X
-- A walk, written by a program of this session (xp.py).
namespace Go.Proofs.YtmkdcokdilllcaaDoor.X
open Go.RowKit Go.Proofs.YtmkdcokdilllcaaDoorW.PrintWords Go.Proofs.YtmkdcokdilllcaaDoorW.PrintLast Go.Proofs.YtmkdcokdilllcaaDoorW.PrintMore
attribute [local go_sem] max2_int min2_int max_two min_two max_three min_three max_four min_four
set_option linter.unusedVariables false
set_option linter.unusedSimpArgs false

/-! ### nat_Mul: function 43 -/
mutual
def nat_Mul.l0 : Nat → List Int → List Int → List Int → Int → Int → Option (List Int)
  | 0, _, _, _, _, _ => none
  | k + 1, x1, x5, x17, x18, x19 => if x19 < x18 then (if 0 ≤ x19 then (if x19 < (x17.length : Int) then (if (rd x17 x19) = 0 then (nat_Mul.l0 k x1 x5 x17 x18 (wrap64 (x19 + 1))) else (nat_Mul.l1 k x1 x5 x19 (rd x17 x19) 0 x17 x18 x19 x1 (x1.length : Int) 0)) else (none)) else (none)) else ((nat_Norm.f x5).bind fun t159 => (some t159))
def nat_Mul.l1 : Nat → List Int → List Int → Int → Int → Int → List Int → Int → Int → List Int → Int → Int → Option (List Int)
  | 0, _, _, _, _, _, _, _, _, _, _, _ => none
  | k + 1, x1, x5, x6, x7, x8, x17, x18, x19, x26, x27, x28 => if x28 < x27 then (if 0 ≤ x28 then (if x28 < (x26.length : Int) then (if 0 ≤ (wrap64 (x6 + x28)) then (if (wrap64 (x6 + x28)) < (x5.length : Int) then (nat_Mul.l1 k x1 (x5.set ((wrap64 (x6 + x28)) : Int).toNat ((IntKind.u64.wrap (x8 + (IntKind.u64.wrap ((IntKind.u64.wrap ((IntKind.u64.wrap (x7)) * (IntKind.u64.wrap (rd x26 x28)))) + (IntKind.u64.wrap (rd x5 (wrap64 (x6 + x28)))))))) % 4294967296)) x6 x7 ((IntKind.u64.wrap (x8 + (IntKind.u64.wrap ((IntKind.u64.wrap ((IntKind.u64.wrap (x7)) * (IntKind.u64.wrap (rd x26 x28)))) + (IntKind.u64.wrap (rd x5 (wrap64 (x6 + x28)))))))) / 4294967296) x17 x18 x19 x26 x27 (wrap64 (x28 + 1))) else (none)) else (none)) else (none)) else (none)) else (if 0 ≤ (wrap64 (x6 + (x1.length : Int))) then (if (wrap64 (x6 + (x1.length : Int))) < (x5.length : Int) then (nat_Mul.l0 k x1 (x5.set ((wrap64 (x6 + (x1.length : Int))) : Int).toNat ((x8) % 4294967296)) x17 x18 (wrap64 (x19 + 1))) else (none)) else (none))
end
def nat_Mul.f (k : Nat) (l0 : List Int) (l1 : List Int) : Option (List Int) := if 0 ≤ (wrap64 ((l0.length : Int) + (l1.length : Int))) then (if (wrap64 ((l0.length : Int) + (l1.length : Int)) : Int).toNat ≤ 70368744177664 then (nat_Mul.l0 k l1 (List.replicate (wrap64 ((l0.length : Int) + (l1.length : Int)) : Int).toNat 0) l0 (l0.length : Int) 0) else (none)) else (none)
set_option maxHeartbeats 8000000 in
set_option maxRecDepth 100000 in
theorem nat_Mul.calls (k : Nat) (A0 : Option Addr) (c0 : Nat) (l0 : List Int) (A1 : Option Addr) (c1 : Nat) (l1 : List Int) (r : List Int) (w : World) (hr0 : Kd.C (Kd.int .u32) w A0 l0.length l0) (hc0 : l0.length ≤ c0) (hr1 : Kd.C (Kd.int .u32) w A1 l1.length l1) (hc1 : l1.length ≤ c1) (h : nat_Mul.f k l0 l1 = some r) :
    Calls Tryd.prog 43 #[.slice A0 l0.length c0, .slice A1 l1.length c1] w fun e w' => ∃ v0_ : Value, e = .returned (v0_) ∧ Kd.R (Kd.int .u32) 40 w' w.heap.size (fun _ => True) v0_ r ∧ Below w.heap.size w w' := by
  have HR0 := Aside0.mk hr0
  have HC0 := Aside0.mk hc0
  clear hr0 hc0
  have HR1 := Aside0.mk hr1
  have HC1 := Aside0.mk hc1
  clear hr1 hc1
  have HB := Aside0.mk (Below.refl w.heap.size w)
  have H : (if 0 ≤ (wrap64 ((l0.length : Int) + (l1.length : Int))) then (if (wrap64 ((l0.length : Int) + (l1.length : Int)) : Int).toNat ≤ 70368744177664 then (nat_Mul.l0 k l1 (List.replicate (wrap64 ((l0.length : Int) + (l1.length : Int)) : Int).toNat 0) l0 (l0.length : Int) 0) else (none)) else (none)) = some r := h
  clear h
  obtain ⟨ji3, hji3⟩ : ∃ j_ : Int, (wrap64 ((l0.length : Int) + (l1.length : Int))) = j_ := ⟨_, rfl⟩
  replace H : (if 0 ≤ (ji3) then (if (ji3 : Int).toNat ≤ 70368744177664 then (nat_Mul.l0 k l1 (List.replicate (ji3 : Int).toNat 0) l0 (l0.length : Int) 0) else (none)) else (none)) = some r := by first | (rw [hji3] at H; exact H) | (simp only [hji3] at H ⊢; exact H)
  have hji3w : (IntKind.i64.wrap ((l0.length : Int) + (l1.length : Int))) = ji3 := (i64_w _).trans hji3
  by_cases c4 : 0 ≤ (ji3)
  · rw [if_pos c4] at H
    have c4b0 := eq_true c4
    have c4b1 : decide (0 ≤ (ji3)) = true := decide_eq_true c4
    clear c4
    by_cases c5 : (ji3 : Int).toNat ≤ 70368744177664
    · rw [if_pos c5] at H
      have c5b0 := eq_true c5
      have c5b1 : decide ((ji3 : Int).toNat ≤ 70368744177664) = true := decide_eq_true c5
      clear c5
      obtain ⟨y156, hy156⟩ : ∃ y_ : List Int, y_ = (List.replicate (ji3 : Int).toNat 0) := ⟨_, rfl⟩
      replace H : (nat_Mul.l0 k l1 y156 l0 (l0.length : Int) 0) = some r := by first | (rw [hy156]; with_reducible exact H) | (have H2_ := (Option.bind_some _ _).symm.trans H; rw [hy156]; with_reducible exact H2_) | (have H2_ := (Option.bind_some _ _).symm.trans H; with_reducible exact H2_) | with_reducible exact H | (rw [hy156]; exact H) | exact H
      have Ny156 := Aside0.mk hy156
      clear hy156
      have H' := Aside0.mk H
      clear H
      go_enter Tryd.func43, Tryd.ntmps43
      go_wp2
      refine wp_scope_straight ?_
      go_wp2_with (first | ((with_reducible refine gate_dst (N := 16) rfl ?_); refine Kd.R_make (Kd.int .u32) _ 40 rfl (N := 16) rfl 23 _ _ rfl ji3 rfl rfl Tryd.underlying23 (.int .u32 0) 4 info40 rfl (by decide) (by omega) 0 (ok := fun _ => True) (okp := fun _ => True) rfl (fun _ hk => hk) trivial (of_decide_eq_true (by first | (with_reducible assumption) | assumption)) (Nat.le_trans (Nat.mul_le_mul_right _ (of_decide_eq_true (by first | (with_reducible assumption) | assumption) : ji3.toNat ≤ 70368744177664)) (by omega)) (Below.refl _ _) (Nat.le_refl _) ?_; intro v157 w6 ho7 hb hg_ hnew_; clear hg_ hnew_; (first | rw [← Ny156.out] at ho7 | (simp only [Int.reduceToNat] at ho7; rw [← Ny156.out] at ho7)); have n0_ := Aside0.mk (Kd.R_lower ho7 (below_size (by repeat (first | (with_reducible first | exact HB.out | apply below_alloc | apply pw_below_drewN | apply below_drew1) | exact HB.out)))); have n1_ := Aside0.mk (below_step (by repeat (first | (with_reducible first | exact HB.out | apply below_alloc | apply pw_below_drewN | apply below_drew1) | exact HB.out)) hb); clear HB; have HO158 := n0_; have HB := n1_; clear n0_ n1_; clear hb ho7))
      refine wp_label ?_
      go_wp2
      go_loopg [19] k (fun kq v19 w' => ∃ (x5_1 : List Int) (x19_1 : Int), v19 = .int .i64 x19_1 ∧ Aside0 (nat_Mul.l0 kq l1 x5_1 l0 (l0.length : Int) x19_1 = some r) ∧ Aside0 (kq ≤ k) ∧ Aside0 (Kd.R (Kd.int .u32) 40 w' w.heap.size (fun _ => True) v157 x5_1) ∧ Aside0 (Below w.heap.size w w'))
      case atStart => exact ⟨(y156), (0), (by first | rfl | (simp; done) | (simp [*]; done)), H', ⟨Nat.le_refl _⟩, ⟨by (with_reducible repeat (first | apply Kd.R_alloc | apply Kd.R_drewN | apply Kd.R_drew)); exact HO158.out⟩, ⟨by repeat (first | (with_reducible first | exact HB.out | apply below_alloc | apply pw_below_drewN | apply below_drew1) | exact HB.out)⟩⟩
      case round =>
        clear H'
        try clear c1
        try clear p2
        try clear c4
        try clear c4b0
        try clear c4b1
        try clear c5
        try clear c5b0
        try clear c5b1
        try clear p6
        obtain ⟨x5_1, x19_1, rfl, HA, HK1, HO_5, HB⟩ := hrel
        cases gk with
        | zero => exact absurd HA.out (by simp [nat_Mul.l0])
        | succ k1 =>
          have H := HA.out
          clear HA
          simp only [nat_Mul.l0] at H
          by_cases c8 : x19_1 < (l0.length : Int)
          · rw [if_pos c8] at H
            have c8b0 : decide (x19_1 < (l0.length : Int)) = true := decide_eq_true c8
            clear c8
            by_cases c9 : 0 ≤ x19_1
            · rw [if_pos c9] at H
              have c9b0 : decide (0 ≤ x19_1) = true := decide_eq_true c9
              clear c9
              by_cases c10 : x19_1 < (l0.length : Int)
              · rw [if_pos c10] at H
                have c10b0 : decide (x19_1 < (l0.length : Int)) = true := decide_eq_true c10
                clear c10
                by_cases c11 : (rd l0 x19_1) = 0
                · rw [if_pos c11] at H
                  have c11b0 : ((rd l0 x19_1) == 0) = true := beq_iff_eq.mpr c11
                  have c11b1 : ((rd l0 x19_1) != 0) = false := bne_eq_false_iff_eq.mpr c11
                  clear c11
                  have H' := Aside0.mk H
                  clear H
                  have p162 : 0 ≤ (x19_1 : Int) := of_decide_eq_true (by first | (with_reducible assumption) | assumption)
                  have q162 : x19_1 < (l0.length : Int) := of_decide_eq_true (by first | (with_reducible assumption) | assumption)
                  obtain ⟨ad162, e162, hx162_0⟩ := Kd.at_int HR0.out x19_1 p162 q162
                  cases e162
                  replace hx162_0 := (HB.out.cell (World.block_lt_of_cell? w _ hx162_0)).trans hx162_0
                  replace p162 := eq_true p162
                  replace q162 := eq_true q162
                  go_wp2
                  go_roundg k1
                  case measure => have := HK1.out; omega
                  case rel => exact ⟨(x5_1), (wrap64 (x19_1 + 1)), (by first | rfl | (simp; done) | (simp [*]; done)), (by first | exact H' | (simp only [hji3]; exact H')), ⟨by have := HK1.out; omega⟩, ⟨by (with_reducible repeat (first | apply Kd.R_alloc | apply Kd.R_drewN | apply Kd.R_drew)); exact HO_5.out⟩, ⟨by repeat (first | (with_reducible first | exact HB.out | apply below_alloc | apply pw_below_drewN | apply below_drew1) | exact HB.out)⟩⟩
                · rw [if_neg c11] at H
                  have c11b0 : ((rd l0 x19_1) == 0) = false := beq_eq_false_iff_ne.mpr c11
                  have c11b1 : ((rd l0 x19_1) != 0) = true := bne_iff_ne.mpr c11
                  have H' := Aside0.mk H
                  clear H
                  have p162 : 0 ≤ (x19_1 : Int) := of_decide_eq_true (by first | (with_reducible assumption) | assumption)
                  have q162 : x19_1 < (l0.length : Int) := of_decide_eq_true (by first | (with_reducible assumption) | assumption)
                  obtain ⟨ad162, e162, hx162_0⟩ := Kd.at_int HR0.out x19_1 p162 q162
                  cases e162
                  replace hx162_0 := (HB.out.cell (World.block_lt_of_cell? w _ hx162_0)).trans hx162_0
                  replace p162 := eq_true p162
                  replace q162 := eq_true q162
                  go_wp2
                  go_loopg [8, 28] k1 (fun kq v8 v28 w' => ∃ (x5_2 : List Int) (x8_2 : Int) (x28_2 : Int), v8 = .int .u64 x8_2 ∧ v28 = .int .i64 x28_2 ∧ Aside0 (nat_Mul.l1 kq l1 x5_2 x19_1 (rd l0 x19_1) x8_2 l0 (l0.length : Int) x19_1 l1 (l1.length : Int) x28_2 = some r) ∧ Aside0 (kq ≤ k1) ∧ Aside0 (Kd.R (Kd.int .u32) 40 w' w.heap.size (fun _ => True) v157 x5_2) ∧ Aside0 (Below w.heap.size w w'))
                  case atStart => exact ⟨(x5_1), (0), (0), (by first | rfl | (simp; done) | (simp [*]; done)), (by first | rfl | (simp; done) | (simp [*]; done)), H', ⟨Nat.le_refl _⟩, ⟨by (with_reducible repeat (first | apply Kd.R_alloc | apply Kd.R_drewN | apply Kd.R_drew)); exact HO_5.out⟩, ⟨by repeat (first | (with_reducible first | exact HB.out | apply below_alloc | apply pw_below_drewN | apply below_drew1) | exact HB.out)⟩⟩
                  case round =>
                    clear H'
                    try clear c1
                    try clear p1
                    try clear q1
                    try clear hx1
                    try clear p2
                    try clear c4
                    try clear c4b0
                    try clear c4b1
                    try clear c5
                    try clear c5b0
                    try clear c5b1
                    try clear p6
                    try clear c8
                    try clear c8b0
                    try clear c9
                    try clear c9b0
                    try clear c10
                    try clear c10b0
                    try clear c11
                    try clear c11b0
                    try clear c11b1
                    try clear hx162_0
                    try clear p162
                    try clear p2
                    try clear p6
                    try clear q162
                    obtain ⟨x5_2, x8_2, x28_2, rfl, rfl, HA, HK2, HO_5, HB⟩ := hrel
                    cases gk with
                    | zero => exact absurd HA.out (by simp [nat_Mul.l1])
                    | succ k2 =>
                      have H := HA.out
                      clear HA
                      simp only [nat_Mul.l1] at H
                      by_cases c12 : x28_2 < (l1.length : Int)
                      · rw [if_pos c12] at H
                        have c12b0 : decide (x28_2 < (l1.length : Int)) = true := decide_eq_true c12
                        clear c12
                        by_cases c13 : 0 ≤ x28_2
                        · rw [if_pos c13] at H
                          have c13b0 : decide (0 ≤ x28_2) = true := decide_eq_true c13
                          clear c13
                          by_cases c14 : x28_2 < (l1.length : Int)
                          · rw [if_pos c14] at H
                            have c14b0 : decide (x28_2 < (l1.length : Int)) = true := decide_eq_true c14
                            clear c14
                            obtain ⟨ji15, hji15⟩ : ∃ j_ : Int, (wrap64 (x19_1 + x28_2)) = j_ := ⟨_, rfl⟩
                            replace H : (if 0 ≤ (ji15) then (if (ji15) < (x5_2.length : Int) then (nat_Mul.l1 k2 l1 (x5_2.set ((ji15) : Int).toNat ((IntKind.u64.wrap (x8_2 + (IntKind.u64.wrap ((IntKind.u64.wrap ((IntKind.u64.wrap ((rd l0 x19_1))) * (IntKind.u64.wrap (rd l1 x28_2)))) + (IntKind.u64.wrap (rd x5_2 (ji15))))))) % 4294967296)) x19_1 (rd l0 x19_1) ((IntKind.u64.wrap (x8_2 + (IntKind.u64.wrap ((IntKind.u64.wrap ((IntKind.u64.wrap ((rd l0 x19_1))) * (IntKind.u64.wrap (rd l1 x28_2)))) + (IntKind.u64.wrap (rd x5_2 (ji15))))))) / 4294967296) l0 (l0.length : Int) x19_1 l1 (l1.length : Int) (wrap64 (x28_2 + 1))) else (none)) else (none)) = some r := by first | (rw [hji15] at H; exact H) | (simp only [hji15] at H ⊢; exact H)
                            have hji15w : (IntKind.i64.wrap (x19_1 + x28_2)) = ji15 := (i64_w _).trans hji15
                            by_cases c16 : 0 ≤ (ji15)
                            · rw [if_pos c16] at H
                              have c16b0 : decide (0 ≤ (ji15)) = true := decide_eq_true c16
                              clear c16
                              by_cases c17 : (ji15) < (x5_2.length : Int)
                              · rw [if_pos c17] at H
                                have c17b0 : decide ((ji15) < (x5_2.length : Int)) = true := decide_eq_true c17
                                clear c17
                                obtain ⟨y165, hy165⟩ : ∃ y_ : List Int, y_ = (x5_2.set ((ji15) : Int).toNat ((IntKind.u64.wrap (x8_2 + (IntKind.u64.wrap ((IntKind.u64.wrap ((IntKind.u64.wrap ((rd l0 x19_1))) * (IntKind.u64.wrap (rd l1 x28_2)))) + (IntKind.u64.wrap (rd x5_2 (ji15))))))) % 4294967296)) := ⟨_, rfl⟩
                                replace H : (nat_Mul.l1 k2 l1 y165 x19_1 (rd l0 x19_1) ((IntKind.u64.wrap (x8_2 + (IntKind.u64.wrap ((IntKind.u64.wrap ((IntKind.u64.wrap ((rd l0 x19_1))) * (IntKind.u64.wrap (rd l1 x28_2)))) + (IntKind.u64.wrap (rd x5_2 (ji15))))))) / 4294967296) l0 (l0.length : Int) x19_1 l1 (l1.length : Int) (wrap64 (x28_2 + 1))) = some r := by first | (rw [hy165]; with_reducible exact H) | (have H2_ := (Option.bind_some _ _).symm.trans H; rw [hy165]; with_reducible exact H2_) | (have H2_ := (Option.bind_some _ _).symm.trans H; with_reducible exact H2_) | with_reducible exact H | (rw [hy165]; exact H) | exact H
                                have Ny165 := Aside0.mk hy165
                                clear hy165
                                have H' := Aside0.mk H
                                clear H
                                have p163 : 0 ≤ (x28_2 : Int) := of_decide_eq_true (by first | (with_reducible assumption) | assumption)
                                have q163 : x28_2 < (l1.length : Int) := of_decide_eq_true (by first | (with_reducible assumption) | assumption)
                                obtain ⟨ad163, e163, hx163_0⟩ := Kd.at_int HR1.out x28_2 p163 q163
                                cases e163
                                replace hx163_0 := (HB.out.cell (World.block_lt_of_cell? w _ hx163_0)).trans hx163_0
                                replace p163 := eq_true p163
                                replace q163 := eq_true q163
                                obtain ⟨Ao19, co19, eo19⟩ := Kd.R_slice HO_5.out
                                subst eo19
                                have p164 : 0 ≤ ((ji15) : Int) := of_decide_eq_true (by first | (with_reducible assumption) | assumption)
                                have q164 : (ji15) < (x5_2.length : Int) := of_decide_eq_true (by first | (with_reducible assumption) | assumption)
                                obtain ⟨ad164, e164, hx164_0⟩ := Kd.at_int (Kd.R_reads' HO_5.out).2.2 (ji15) p164 q164
                                cases e164
                                replace p164 := eq_true p164
                                replace q164 := eq_true q164
                                have p18 : 0 ≤ ((ji15) : Int) := of_decide_eq_true (by first | (with_reducible assumption) | assumption)
                                have q18 : ((ji15) : Int) < ((x5_2.length : Int) : Int) := of_decide_eq_true (by first | (with_reducible assumption) | assumption)
                                obtain ⟨go18, co18, eo18, gb18, gl18, cl18, HG18⟩ := Kd.R_form HO_5.out (by omega)
                                (first | cases eo18 | (injection eo18 with ea_ en_ ec_; (first | subst ea_ | (injection ea_ with ea_; subst ea_)); subst ec_; clear en_))
                                have GB18 := Aside0.mk gb18
                                have GG18 := Aside0.mk HG18
                                clear gb18 gl18 HG18
                                (first | simp only [add_plain] at hx164_0 | skip)
                                obtain ⟨hx18_0, hf18_0⟩ := Kd.R_celln 0 HO_5.out ((ji15) : Int) p18 q18
                                replace p18 := eq_true p18
                                replace q18 := eq_true q18
                                have HP20 := Kd.R_putg HO_5.out ((ji15) : Int) ((IntKind.u64.wrap (x8_2 + (IntKind.u64.wrap ((IntKind.u64.wrap ((IntKind.u64.wrap ((rd l0 x19_1))) * (IntKind.u64.wrap (rd l1 x28_2)))) + (IntKind.u64.wrap (rd x5_2 (ji15))))))) % 4294967296)
                                go_wp2_with (first | ((with_reducible refine gate_store (t := 40) (p := 54) rfl ?_); refine store_event (t := 40) (p := 54) (v := ?vo_w21) (w1 := (wr.setCell ⟨go18, ((ji15) : Int).toNat, none⟩ (.int .u32 ((IntKind.u64.wrap (x8_2 + (IntKind.u64.wrap ((IntKind.u64.wrap ((IntKind.u64.wrap ((rd l0 x19_1))) * (IntKind.u64.wrap (rd l1 x28_2)))) + (IntKind.u64.wrap (rd x5_2 (ji15))))))) % 4294967296)))) ?hg ?ho ?hn ?hr ?_; (case ho => rfl); (case hg => rfl); (case hn => rfl); (case hr => first | (go_simp; done) | (go_simp; rfl) | (go_simp; simp only [x_u32u8, x_u8, x_u32, x_u64, x_mm]; first | done | rfl)); intro w21 hw; have hg : wr.grownBy w21 (some go18) := (by rw [hw]; exact HP20.2); have hp_ : Kd.R (Kd.int .u32) 40 w21 w.heap.size (fun _ => True) (.slice (some ⟨go18, 0, none⟩) x5_2.length co19) y165 := (by rw [hw, Ny165.out]; exact HP20.1); clear HP20; have n0_ := Aside0.mk (hp_); have n1_ := Aside0.mk ((by rw [hw]; exact below_set (HB.out) GB18.out : Below w.heap.size w w21)); clear HO_5; clear HB; have HO_5 := n0_; have HB := n1_; clear n0_ n1_; clear hg hw hp_))
                                go_roundg k2
                                case measure => have := HK1.out; have := HK2.out; omega
                                case rel => exact ⟨(y165), ((IntKind.u64.wrap (x8_2 + (IntKind.u64.wrap ((IntKind.u64.wrap ((IntKind.u64.wrap ((rd l0 x19_1))) * (IntKind.u64.wrap (rd l1 x28_2)))) + (IntKind.u64.wrap (rd x5_2 (ji15))))))) / 4294967296), (wrap64 (x28_2 + 1)), (by first | rfl | (simp; done) | (simp only [← hji15] <;> (first | rfl | simp)) | (simp [*]; done)), (by first | rfl | (simp; done) | (simp [*]; done)), (by first | exact H' | (simp only [hji3, hji15]; exact H')), ⟨by have := HK1.out; have := HK2.out; omega⟩, ⟨by (with_reducible repeat (first | apply Kd.R_alloc | apply Kd.R_drewN | apply Kd.R_drew)); exact HO_5.out⟩, ⟨by repeat (first | (with_reducible first | exact HB.out | apply below_alloc | apply pw_below_drewN | apply below_drew1) | exact HB.out)⟩⟩
                              · rw [if_neg c17] at H
                                exact absurd H (by simp)
                            · rw [if_neg c16] at H
                              exact absurd H (by simp)
                          · rw [if_neg c14] at H
                            exact absurd H (by simp)
                        · rw [if_neg c13] at H
                          exact absurd H (by simp)
                      · rw [if_neg c12] at H
                        have c12b0 : decide (x28_2 < (l1.length : Int)) = false := decide_eq_false c12
                        clear c12
                        obtain ⟨ji22, hji22⟩ : ∃ j_ : Int, (wrap64 (x19_1 + (l1.length : Int))) = j_ := ⟨_, rfl⟩
                        replace H : (if 0 ≤ (ji22) then (if (ji22) < (x5_2.length : Int) then (nat_Mul.l0 k2 l1 (x5_2.set ((ji22) : Int).toNat ((x8_2) % 4294967296)) l0 (l0.length : Int) (wrap64 (x19_1 + 1))) else (none)) else (none)) = some r := by first | (rw [hji22] at H; exact H) | (simp only [hji22] at H ⊢; exact H)
                        have hji22w : (IntKind.i64.wrap (x19_1 + (l1.length : Int))) = ji22 := (i64_w _).trans hji22
                        by_cases c23 : 0 ≤ (ji22)
                        · rw [if_pos c23] at H
                          have c23b0 : decide (0 ≤ (ji22)) = true := decide_eq_true c23
                          clear c23
                          by_cases c24 : (ji22) < (x5_2.length : Int)
                          · rw [if_pos c24] at H
                            have c24b0 : decide ((ji22) < (x5_2.length : Int)) = true := decide_eq_true c24
                            clear c24
                            obtain ⟨y166, hy166⟩ : ∃ y_ : List Int, y_ = (x5_2.set ((ji22) : Int).toNat ((x8_2) % 4294967296)) := ⟨_, rfl⟩
                            replace H : (nat_Mul.l0 k2 l1 y166 l0 (l0.length : Int) (wrap64 (x19_1 + 1))) = some r := by first | (rw [hy166]; with_reducible exact H) | (have H2_ := (Option.bind_some _ _).symm.trans H; rw [hy166]; with_reducible exact H2_) | (have H2_ := (Option.bind_some _ _).symm.trans H; with_reducible exact H2_) | with_reducible exact H | (rw [hy166]; exact H) | exact H
                            have Ny166 := Aside0.mk hy166
                            clear hy166
                            have H' := Aside0.mk H
                            clear H
                            have p25 : 0 ≤ ((ji22) : Int) := of_decide_eq_true (by first | (with_reducible assumption) | assumption)
                            have q25 : ((ji22) : Int) < ((x5_2.length : Int) : Int) := of_decide_eq_true (by first | (with_reducible assumption) | assumption)
                            obtain ⟨go25, co25, eo25, gb25, gl25, cl25, HG25⟩ := Kd.R_form HO_5.out (by omega)
                            (first | cases eo25 | (injection eo25 with ea_ en_ ec_; (first | subst ea_ | (injection ea_ with ea_; subst ea_)); subst ec_; clear en_))
                            have GB25 := Aside0.mk gb25
                            have GG25 := Aside0.mk HG25
                            clear gb25 gl25 HG25
                            obtain ⟨hx25_0, hf25_0⟩ := Kd.R_celln 0 HO_5.out ((ji22) : Int) p25 q25
                            replace p25 := eq_true p25
                            replace q25 := eq_true q25
                            have HP26 := Kd.R_putg HO_5.out ((ji22) : Int) ((x8_2) % 4294967296)
                            go_wp2_with (first | ((with_reducible refine gate_store (t := 40) (p := 65) rfl ?_); refine store_event (t := 40) (p := 65) (v := ?vo_w27) (w1 := (wr.setCell ⟨go25, ((ji22) : Int).toNat, none⟩ (.int .u32 ((x8_2) % 4294967296)))) ?hg ?ho ?hn ?hr ?_; (case ho => rfl); (case hg => rfl); (case hn => rfl); (case hr => first | (go_simp; done) | (go_simp; rfl) | (go_simp; simp only [x_u32u8, x_u8, x_u32, x_u64, x_mm]; first | done | rfl)); intro w27 hw; have hg : wr.grownBy w27 (some go25) := (by rw [hw]; exact HP26.2); have hp_ : Kd.R (Kd.int .u32) 40 w27 w.heap.size (fun _ => True) (.slice (some ⟨go25, 0, none⟩) x5_2.length co25) y166 := (by rw [hw, Ny166.out]; exact HP26.1); clear HP26; have n0_ := Aside0.mk (hp_); have n1_ := Aside0.mk ((by rw [hw]; exact below_set (HB.out) GB25.out : Below w.heap.size w w27)); clear HO_5; clear HB; have HO_5 := n0_; have HB := n1_; clear n0_ n1_; clear hg hw hp_))
                            go_roundg k2
                            case measure => have := HK1.out; have := HK2.out; omega
                            case rel => exact ⟨(y166), (wrap64 (x19_1 + 1)), (by first | rfl | (simp; done) | (simp [*]; done)), (by first | exact H' | (simp only [hji3, hji22]; exact H')), ⟨by have := HK1.out; have := HK2.out; omega⟩, ⟨by (with_reducible repeat (first | apply Kd.R_alloc | apply Kd.R_drewN | apply Kd.R_drew)); exact HO_5.out⟩, ⟨by repeat (first | (with_reducible first | exact HB.out | apply below_alloc | apply pw_below_drewN | apply below_drew1) | exact HB.out)⟩⟩
                          · rw [if_neg c24] at H
                            exact absurd H (by simp)
                        · rw [if_neg c23] at H
                          exact absurd H (by simp)
              · rw [if_neg c10] at H
                exact absurd H (by simp)
            · rw [if_neg c9] at H
              exact absurd H (by simp)
          · rw [if_neg c8] at H
            have c8b0 : decide (x19_1 < (l0.length : Int)) = false := decide_eq_false c8
            clear c8
            replace H := Option.bind_eq_some_iff.mp H
            obtain ⟨t159, A280, H⟩ := H
            replace H : (some t159) = some r := H
            have A28 := Aside0.mk A280
            clear A280
            obtain rfl := Option.some.inj H
            obtain ⟨Ao29, co29, eo29⟩ := Kd.R_slice HO_5.out
            subst eo29
            go_wp2_with (first | ((with_reducible refine gate_callee (f := 53) rfl ?_); refine goesL_ (some 68) rfl rfl Tryd.func53 (by kernel_rfl) rfl #[.slice Ao29 x5_1.length co29] rfl (by (try simp only [List.map_toArray, List.map_cons, List.map_nil]); first | done | rfl | (simp only [List.length_drop, List.length_take]; rfl)) ?_; (with_reducible refine (nat_Norm.calls _ _ x5_1 t159 _ ?side1 ?side2 A28.out).mono ?_); (case side1 => repeat (first | exact (Kd.R_reads' HO_5.out).2.2 | (with_reducible refine Kd.C_alloc ?_ _) | (with_reducible refine Kd.C_drewN ?_ _) | (with_reducible refine Kd.C_drew ?_))); (case side2 => exact (Kd.R_reads' HO_5.out).2.1); rintro e w30 ⟨v160, rfl, ho0, hb⟩; refine ⟨_, rfl, ?_⟩; have n0_ := Aside0.mk (Kd.R_elder' (by (with_reducible repeat (first | apply Kd.R_alloc | apply Kd.R_drewN | apply Kd.R_drew)); exact HO_5.out) (Kd.R_base ho0) hb); have n1_ := Aside0.mk (Kd.R_lower (Kd.R_new' ho0 (Kd.R_lt (by (with_reducible repeat (first | apply Kd.R_alloc | apply Kd.R_drewN | apply Kd.R_drew)); exact HO_5.out))) (below_size (by repeat (first | (with_reducible first | exact HB.out | apply below_alloc | apply pw_below_drewN | apply below_drew1) | exact HB.out)))); have n2_ := Aside0.mk (below_step (by repeat (first | (with_reducible first | exact HB.out | apply below_alloc | apply pw_below_drewN | apply below_drew1) | exact HB.out)) hb); clear HO_5; clear HB; have HO_5 := n0_; have HO161 := n1_; have HB := n2_; clear n0_ n1_ n2_; (try clear hb); (try clear hb2); (try clear hk); (try clear hi); (try clear ho0)))
            try rw [Exit.noGoto_ret]
            go_ret
            exact ⟨_, by first | rfl | (simp [errW_none, errW_some] <;> rfl) | (simp only [← hji3]; first | rfl | (simp [errW_none, errW_some] <;> rfl)) | (simp [*, errW_none, errW_some] <;> rfl), by (with_reducible repeat (first | apply Kd.R_alloc | apply Kd.R_drewN | apply Kd.R_drew)); exact Kd.R_mono HO161.out (fun _ hk => trivial), by repeat (first | (with_reducible first | exact HB.out | apply below_alloc | apply pw_below_drewN | apply below_drew1) | exact HB.out)⟩
    · rw [if_neg c5] at H
      exact absurd H (by simp)
  · rw [if_neg c4] at H
    exact absurd H (by simp)

end Go.Proofs.YtmkdcokdilllcaaDoor.X
-- A walk, written by a program of this session (xp.py).
namespace Go.Proofs.YtmkdcokdilllcaaDoor.X
open Go.RowKit Go.Proofs.YtmkdcokdilllcaaDoorW.PrintWords Go.Proofs.YtmkdcokdilllcaaDoorW.PrintLast Go.Proofs.YtmkdcokdilllcaaDoorW.PrintMore
attribute [local go_sem] max2_int min2_int max_two min_two max_three min_three max_four min_four
set_option linter.unusedVariables false
set_option linter.unusedSimpArgs false

/-! ### nat_Trim: function 38 -/
def nat_Trim.l0 : Nat → List Int → Int → Option (List Int × Int)
  | 0, _, _ => none
  | k + 1, x0, x4 => if (x0.length : Int) > 0 then ((nat_small.f k x0 10).bind fun bt112 => (if bt112.2 = 0 then (nat_Trim.l0 k bt112.1 (wrap64 (x4 + 1))) else (some (x0, x4)))) else (some (x0, x4))
def nat_Trim.f (k : Nat) (l0 : List Int) : Option (List Int × Int) := (nat_Norm.f l0).bind fun t109 => (nat_Trim.l0 k t109 0)
set_option maxHeartbeats 8000000 in
set_option maxRecDepth 100000 in
theorem nat_Trim.calls (k : Nat) (A0 : Option Addr) (c0 : Nat) (l0 : List Int) (r1 : List Int) (r2 : Int) (w : World) (hr0 : Kd.C (Kd.int .u32) w A0 l0.length l0) (hc0 : l0.length ≤ c0) (h : nat_Trim.f k l0 = some (r1, r2)) :
    Calls Tryd.prog 38 #[.slice A0 l0.length c0] w fun e w' => ∃ v0_ : Value, e = .returned (.tuple #[v0_, .int .i64 r2]) ∧ Kd.R (Kd.int .u32) 40 w' w.heap.size (fun _ => True) v0_ r1 ∧ Below w.heap.size w w' := by
  have HR0 := Aside0.mk hr0
  have HC0 := Aside0.mk hc0
  clear hr0 hc0
  have HB := Aside0.mk (Below.refl w.heap.size w)
  have H : ((nat_Norm.f l0).bind fun t109 => (nat_Trim.l0 k t109 0)) = some (r1, r2) := h
  clear h
  replace H := Option.bind_eq_some_iff.mp H
  obtain ⟨t109, A20, H⟩ := H
  replace H : (nat_Trim.l0 k t109 0) = some (r1, r2) := H
  have A2 := Aside0.mk A20
  clear A20
  have H' := Aside0.mk H
  clear H
  go_enter Tryd.func38, Tryd.ntmps38
  go_wp2
  refine wp_scope_straight ?_
  go_wp2_with (first | ((with_reducible refine gate_callee (f := 53) rfl ?_); refine goesL_ (some 8) rfl rfl Tryd.func53 (by kernel_rfl) rfl #[.slice A0 l0.length c0] rfl (by (try simp only [List.map_toArray, List.map_cons, List.map_nil]); first | done | rfl | (simp only [List.length_drop, List.length_take]; rfl)) ?_; (with_reducible refine (nat_Norm.calls _ _ l0 t109 _ ?side1 ?side2 A2.out).mono ?_); (case side1 => repeat (first | exact HR0.out | (with_reducible refine Kd.C_alloc ?_ _) | (with_reducible refine Kd.C_drewN ?_ _) | (with_reducible refine Kd.C_drew ?_))); (case side2 => exact HC0.out); rintro e w3 ⟨v110, rfl, ho0, hb⟩; refine ⟨_, rfl, ?_⟩; have n0_ := Aside0.mk (Kd.R_lower ho0 (below_size (by repeat (first | (with_reducible first | exact HB.out | apply below_alloc | apply pw_below_drewN | apply below_drew1) | exact HB.out)))); have n1_ := Aside0.mk (below_step (by repeat (first | (with_reducible first | exact HB.out | apply below_alloc | apply pw_below_drewN | apply below_drew1) | exact HB.out)) hb); clear HB; have HO111 := n0_; have HB := n1_; clear n0_ n1_; (try clear hb); (try clear hb2); (try clear hk); (try clear hi); (try clear ho0)))
  refine wp_label ?_
  go_wp2
  go_loopg [0, 4] k (fun kq v0 v4 w' => ∃ (x0_1 : List Int) (x4_1 : Int), v4 = .int .i64 x4_1 ∧ Aside0 (nat_Trim.l0 kq x0_1 x4_1 = some (r1, r2)) ∧ Aside0 (kq ≤ k) ∧ Aside0 (Kd.R (Kd.int .u32) 40 w' w.heap.size (fun _ => True) v0 x0_1) ∧ Aside0 (Below w.heap.size w w'))
  case atStart => exact ⟨(t109), (0), (by first | rfl | (simp; done) | (simp [*]; done)), H', ⟨Nat.le_refl _⟩, ⟨by (with_reducible repeat (first | apply Kd.R_alloc | apply Kd.R_drewN | apply Kd.R_drew)); exact HO111.out⟩, ⟨by repeat (first | (with_reducible first | exact HB.out | apply below_alloc | apply pw_below_drewN | apply below_drew1) | exact HB.out)⟩⟩
  case round =>
    clear H'
    try clear p2
    try clear c3
    obtain ⟨x0_1, x4_1, rfl, HA, HK1, HO_0, HB⟩ := hrel
    cases gk with
    | zero => exact absurd HA.out (by simp [nat_Trim.l0])
    | succ k1 =>
      have H := HA.out
      clear HA
      simp only [nat_Trim.l0] at H
      by_cases c4 : (x0_1.length : Int) > 0
      · rw [if_pos c4] at H
        have c4b0 : decide (0 < (x0_1.length : Int)) = true := decide_eq_true c4
        have c4b1 : decide (0 < x0_1.length) = true := decide_eq_true (by omega)
        clear c4
        replace H := Option.bind_eq_some_iff.mp H
        obtain ⟨⟨t112, t113⟩, A50, H⟩ := H
        replace H : (if t113 = 0 then (nat_Trim.l0 k1 t112 (wrap64 (x4_1 + 1))) else (some (x0_1, x4_1))) = some (r1, r2) := H
        have A5 := Aside0.mk A50
        clear A50
        by_cases c6 : t113 = 0
        · rw [if_pos c6] at H
          have c6b0 : (t113 == 0) = true := beq_iff_eq.mpr c6
          have c6b1 : (t113 != 0) = false := bne_eq_false_iff_eq.mpr c6
          clear c6
          have H' := Aside0.mk H
          clear H
          obtain ⟨Ao7, co7, eo7⟩ := Kd.R_slice HO_0.out
          subst eo7
          go_wp2_with (first | ((with_reducible refine gate_callee (f := 54) rfl ?_); refine goesL_ (some 14) rfl rfl Tryd.func54 (by kernel_rfl) rfl #[.slice Ao7 x0_1.length co7, .int .u32 10] rfl (by (try simp only [List.map_toArray, List.map_cons, List.map_nil]); first | done | rfl | (simp only [List.length_drop, List.length_take]; rfl)) ?_; (with_reducible refine (nat_small.calls k1 _ _ x0_1 10 t112 t113 _ ?side1 ?side2 A5.out).mono ?_); (case side1 => repeat (first | exact (Kd.R_reads' HO_0.out).2.2 | (with_reducible refine Kd.C_alloc ?_ _) | (with_reducible refine Kd.C_drewN ?_ _) | (with_reducible refine Kd.C_drew ?_))); (case side2 => exact (Kd.R_reads' HO_0.out).2.1); rintro e w8 ⟨v114, rfl, ho0, hb⟩; refine ⟨_, rfl, ?_⟩; have n0_ := Aside0.mk (Kd.R_elder' (by (with_reducible repeat (first | apply Kd.R_alloc | apply Kd.R_drewN | apply Kd.R_drew)); exact HO_0.out) (Kd.R_base ho0) hb); have n1_ := Aside0.mk (Kd.R_lower (Kd.R_new' ho0 (Kd.R_lt (by (with_reducible repeat (first | apply Kd.R_alloc | apply Kd.R_drewN | apply Kd.R_drew)); exact HO_0.out))) (below_size (by repeat (first | (with_reducible first | exact HB.out | apply below_alloc | apply pw_below_drewN | apply below_drew1) | exact HB.out)))); have n2_ := Aside0.mk (below_step (by repeat (first | (with_reducible first | exact HB.out | apply below_alloc | apply pw_below_drewN | apply below_drew1) | exact HB.out)) hb); clear HO_0; clear HB; have HO_0 := n0_; have HO115 := n1_; have HB := n2_; clear n0_ n1_ n2_; (try clear hb); (try clear hb2); (try clear hk); (try clear hi); (try clear ho0)))
          go_roundg k1
          case measure => have := HK1.out; omega
          case rel => exact ⟨(t112), (wrap64 (x4_1 + 1)), (by first | rfl | (simp; done) | (simp [*]; done)), H', ⟨by have := HK1.out; omega⟩, ⟨by (with_reducible repeat (first | apply Kd.R_alloc | apply Kd.R_drewN | apply Kd.R_drew)); exact Kd.R_mono HO115.out (fun _ hk => trivial)⟩, ⟨by repeat (first | (with_reducible first | exact HB.out | apply below_alloc | apply pw_below_drewN | apply below_drew1) | exact HB.out)⟩⟩
        · rw [if_neg c6] at H
          have c6b0 : (t113 == 0) = false := beq_eq_false_iff_ne.mpr c6
          have c6b1 : (t113 != 0) = true := bne_iff_ne.mpr c6
          simp only [Option.some.injEq, Prod.mk.injEq] at H
          obtain ⟨rfl, rfl⟩ := H
          obtain ⟨Ao9, co9, eo9⟩ := Kd.R_slice HO_0.out
          subst eo9
          go_wp2_with (first | ((with_reducible refine gate_callee (f := 54) rfl ?_); refine goesL_ (some 14) rfl rfl Tryd.func54 (by kernel_rfl) rfl #[.slice Ao9 x0_1.length co9, .int .u32 10] rfl (by (try simp only [List.map_toArray, List.map_cons, List.map_nil]); first | done | rfl | (simp only [List.length_drop, List.length_take]; rfl)) ?_; (with_reducible refine (nat_small.calls k1 _ _ x0_1 10 t112 t113 _ ?side1 ?side2 A5.out).mono ?_); (case side1 => repeat (first | exact (Kd.R_reads' HO_0.out).2.2 | (with_reducible refine Kd.C_alloc ?_ _) | (with_reducible refine Kd.C_drewN ?_ _) | (with_reducible refine Kd.C_drew ?_))); (case side2 => exact (Kd.R_reads' HO_0.out).2.1); rintro e w10 ⟨v114, rfl, ho0, hb⟩; refine ⟨_, rfl, ?_⟩; have n0_ := Aside0.mk (Kd.R_elder' (by (with_reducible repeat (first | apply Kd.R_alloc | apply Kd.R_drewN | apply Kd.R_drew)); exact HO_0.out) (Kd.R_base ho0) hb); have n1_ := Aside0.mk (Kd.R_lower (Kd.R_new' ho0 (Kd.R_lt (by (with_reducible repeat (first | apply Kd.R_alloc | apply Kd.R_drewN | apply Kd.R_drew)); exact HO_0.out))) (below_size (by repeat (first | (with_reducible first | exact HB.out | apply below_alloc | apply pw_below_drewN | apply below_drew1) | exact HB.out)))); have n2_ := Aside0.mk (below_step (by repeat (first | (with_reducible first | exact HB.out | apply below_alloc | apply pw_below_drewN | apply below_drew1) | exact HB.out)) hb); clear HO_0; clear HB; have HO_0 := n0_; have HO115 := n1_; have HB := n2_; clear n0_ n1_ n2_; (try clear hb); (try clear hb2); (try clear hk); (try clear hi); (try clear ho0)))
          try rw [Exit.noGoto_ret]
          go_ret2
          exact ⟨_, by first | rfl | (simp [errW_none, errW_some] <;> rfl) | (simp [*, errW_none, errW_some] <;> rfl), by (with_reducible repeat (first | apply Kd.R_alloc | apply Kd.R_drewN | apply Kd.R_drew)); exact Kd.R_mono HO_0.out (fun _ hk => trivial), by repeat (first | (with_reducible first | exact HB.out | apply below_alloc | apply pw_below_drewN | apply below_drew1) | exact HB.out)⟩
      · rw [if_neg c4] at H
        have c4b0 : decide (0 < (x0_1.length : Int)) = false := decide_eq_false c4
        have c4b1 : decide (0 < x0_1.length) = false := decide_eq_false (by omega)
        clear c4
        simp only [Option.some.injEq, Prod.mk.injEq] at H
        obtain ⟨rfl, rfl⟩ := H
        obtain ⟨Ao11, co11, eo11⟩ := Kd.R_slice HO_0.out
        subst eo11
        go_wp2
        try rw [Exit.noGoto_ret]
        go_ret2
        exact ⟨_, by first | rfl | (simp [errW_none, errW_some] <;> rfl) | (simp [*, errW_none, errW_some] <;> rfl), by (with_reducible repeat (first | apply Kd.R_alloc | apply Kd.R_drewN | apply Kd.R_drew)); exact HO_0.out, by repeat (first | (with_reducible first | exact HB.out | apply below_alloc | apply pw_below_drewN | apply below_drew1) | exact HB.out)⟩

end Go.Proofs.YtmkdcokdilllcaaDoor.X
/- What the code's naturals come to. -/
namespace Go.Proofs.YtmkdcokdilllcaaDoor.X
open Go.RowKit Go.Proofs.YtmkdcokdilllcaaDoorW.PrintWords Go.Proofs.YtmkdcokdilllcaaDoorW.PrintMore
set_option linter.unusedVariables false
set_option linter.unusedSimpArgs false
theorem wrap64_ok {n : Int} (h0 : -9223372036854775808 ≤ n) (h1 : n ≤ 9223372036854775807) : wrap64 n = n := by unfold wrap64; omega
theorem u64_ok {n : Int} (h0 : 0 ≤ n) (h1 : n < 18446744073709551616) : IntKind.u64.wrap n = n := by rw [x_u64]; omega
theorem nat_at_eq {l : List Int} (h : Ok l) {i : Int} (hi : 0 ≤ i) : nat_at.f l i = some (rd l i) := by
  unfold nat_at.f
  have := h.rd i
  split
  · (try rw [if_pos hi])
    rw [u64_ok (by omega) (by omega)]
  · rw [rd_ge (by omega)]
theorem val_drop' (l : List Int) (m : Nat) : val (l.drop m) = (rd l m).toNat + 4294967296 * val (l.drop (m + 1)) := by
  rcases Nat.lt_or_ge m l.length with h | h
  · exact val_drop h
  · rw [List.drop_eq_nil_of_le h, List.drop_eq_nil_of_le (by omega), rd_ge (by omega)]
    rfl
theorem mx_nat (a b : Nat) : mx (a : Int) (b : Int) = ((max a b : Nat) : Int) := by unfold mx; split <;> omega
theorem nat_Norm_eq {l : List Int} (h : Ok l) (hl : l.length < 35184372088832) : nat_Norm.f l = some (lim (val l)) := by
  unfold nat_Norm.f
  rw [if_pos hl, norm_lim h]
theorem val_snoc (l : List Int) (x : Int) : val (l ++ [x]) = val l + 4294967296 ^ l.length * x.toNat := by rw [val_append]; simp [val]
theorem add_arith (p u q r s t : Nat) : p * (u + (q + 4294967296 * s) + (r + 4294967296 * t)) = p * ((u + q + r) % 4294967296) + p * 4294967296 * ((u + q + r) / 4294967296 + s + t) := by
  have : u + (q + 4294967296 * s) + (r + 4294967296 * t) = (u + q + r) % 4294967296 + 4294967296 * ((u + q + r) / 4294967296 + s + t) := by omega
  rw [this, Nat.mul_add, Nat.mul_assoc]
theorem add_loop {a b : List Int} (ha : Ok a) (hb : Ok b) (la : a.length ≤ 1099511627776) (lb : b.length ≤ 1099511627776) (d : Nat) : ∀ (acc : List Int) (c : Int) (i : Nat), Ok acc → acc.length = i → 0 ≤ c → c ≤ 1 → i + d = max a.length b.length + 1 → (max a.length b.length < i → c = 0) →
    Ev (fun k => nat_Add.l0 k a b acc c ((max a.length b.length + 1 : Nat) : Int) (i : Int)) (lim (val acc + 4294967296 ^ i * (c.toNat + val (a.drop i) + val (b.drop i)))) := by
  induction d with
  | zero =>
    intro acc c i hacc hl h0 h1 hd hc
    have hc0 := hc (by omega)
    refine Ev.step (f := fun _ => some (lim (val acc))) (fun k => ?_) ?_
    · simp only [nat_Add.l0]
      rw [if_neg (by omega), nat_Norm_eq hacc (by omega)]
      rfl
    · rw [hc0, List.drop_eq_nil_of_le (by omega), List.drop_eq_nil_of_le (by omega)]
      simp [val]
      exact Ev.now _
  | succ d ih =>
    intro acc c i hacc hl h0 h1 hd hc
    have ra := ha.rd i
    have rb := hb.rd i
    have e1 : IntKind.u64.wrap (c + IntKind.u64.wrap (rd a i + rd b i)) = c + rd a i + rd b i := by rw [u64_ok (n := rd a i + rd b i) (by omega) (by omega), u64_ok (by omega) (by omega)]; omega
    have ih' := ih (acc ++ [(c + rd a i + rd b i) % 4294967296]) ((c + rd a i + rd b i) / 4294967296) (i + 1) (hacc.append (Ok.cons (by omega) (by omega) Ok.nil)) (by simp [hl]) (by omega) (by omega) (by omega) (by
      intro hm
      rw [rd_ge (l := a) (by omega), rd_ge (l := b) (by omega)]
      omega)
    refine Ev.step (f := fun k => nat_Add.l0 k a b (acc ++ [(c + rd a i + rd b i) % 4294967296]) ((c + rd a i + rd b i) / 4294967296) ((max a.length b.length + 1 : Nat) : Int) ((i + 1 : Nat) : Int)) (fun k => ?_) ?_
    · simp only [nat_Add.l0]
      rw [if_pos (by omega), nat_at_eq ha (by omega), nat_at_eq hb (by omega)]
      simp only [Option.bind_some]
      rw [if_pos (by omega), e1, wrap64_ok (by omega) (by omega)]
      rfl
    · have hv : val acc + 4294967296 ^ i * (c.toNat + val (a.drop i) + val (b.drop i)) = val (acc ++ [(c + rd a i + rd b i) % 4294967296]) + 4294967296 ^ (i + 1) * (((c + rd a i + rd b i) / 4294967296).toNat + val (a.drop (i + 1)) + val (b.drop (i + 1))) := by
        rw [val_snoc, hl, val_drop' a i, val_drop' b i, Nat.pow_succ, add_arith, show ((c + rd a i + rd b i) % 4294967296).toNat = (c.toNat + (rd a i).toNat + (rd b i).toNat) % 4294967296 by omega, show ((c + rd a i + rd b i) / 4294967296).toNat = (c.toNat + (rd a i).toNat + (rd b i).toNat) / 4294967296 by omega]
        exact (Nat.add_assoc _ _ _).symm
      rw [hv]
      exact ih'
theorem nat_add {a b : List Int} (ha : Ok a) (hb : Ok b) (la : a.length ≤ 1099511627776) (lb : b.length ≤ 1099511627776) : Ev (fun k => nat_Add.f k a b) (lim (val a + val b)) := by
  have h := add_loop ha hb la lb (max a.length b.length + 1) [] 0 0 Ok.nil rfl (by omega) (by omega) (by omega) (fun _ => rfl)
  simp [val] at h
  refine Ev.congr (fun k => ?_) h
  unfold nat_Add.f
  rw [mx_nat, wrap64_ok (by omega) (by omega)]
  first | done | rfl
/-! a small divisor -/
theorem or_join {r x : Int} (hr0 : 0 ≤ r) (hr : r < 4294967296) (hx0 : 0 ≤ x) (hx : x < 4294967296) : Go.bits .or .u64 (IntKind.u64.wrap (r * 4294967296)) (IntKind.u64.wrap x) = r * 4294967296 + x := by
  rw [u64_ok (n := r * 4294967296) (by omega) (by omega), u64_ok (n := x) (by omega) (by omega)]
  exact bits_join .u64 64 (by decide) (fun n h0 h1 => u64_ok h0 (by simpa using h1)) 32 (r * 4294967296) x (by omega) (by omega) (by omega) (by omega) (by omega) (by omega)
theorem small_arith (p d q r T : Nat) (hd : 0 < d) : (p * (d * q + r) + T) / d = p * q + (p * r + T) / d ∧ (p * (d * q + r) + T) % d = (p * r + T) % d := by
  have : p * (d * q + r) + T = (p * r + T) + d * (p * q) := by grind
  rw [this]
  constructor
  · rw [Nat.add_mul_div_left _ _ hd, Nat.add_comm]
  · rw [Nat.add_mul_mod_self_left]
theorem wrap64_pred (m : Nat) (h : m ≤ 1099511627776) : wrap64 ((m : Int) - 1) = (m : Int) - 1 := wrap64_ok (by omega) (by omega)
theorem small_loop {a : List Int} (ha : Ok a) (la : a.length ≤ 1099511627776) {d : Int} (d0 : 0 < d) (d1 : d < 4294967296) (m : Nat) : ∀ (out : List Int) (r : Int), m ≤ a.length → Ok out → out.length = a.length → 0 ≤ r → r < d → val (out.take m) = 0 →
    Ev (fun k => nat_small.l0 k a d out r ((m : Int) - 1)) (lim (4294967296 ^ m * val (out.drop m) + (4294967296 ^ m * r.toNat + val (a.take m)) / d.toNat), (((4294967296 ^ m * r.toNat + val (a.take m)) % d.toNat : Nat) : Int)) := by
  induction m with
  | zero =>
    intro out r hm ho hl h0 h1 hz
    refine Ev.step (f := fun _ => some (lim (val out), r)) (fun k => ?_) ?_
    · have e : r % 4294967296 = r := by omega
      have hc : ¬ (0 : Int) ≤ ((0 : Nat) : Int) - 1 := by omega
      simp only [nat_small.l0, ge_iff_le, hc, if_false, nat_Norm_eq ho (by omega), Option.bind_some, e]
    · have e1 : (r.toNat) / d.toNat = 0 := Nat.div_eq_of_lt (by omega)
      have e2 : (r.toNat) % d.toNat = r.toNat := Nat.mod_eq_of_lt (by omega)
      simp [val, e1, e2]
      rw [Int.max_eq_left h0]
      exact Ev.now _
  | succ m ih =>
    intro out r hm ho hl h0 h1 hz
    have hx := ha.rd m
    have hq0 : 0 ≤ (r * 4294967296 + rd a m) / d := Int.ediv_nonneg (by omega) (by omega)
    have hq1 : (r * 4294967296 + rd a m) / d < 4294967296 := Int.ediv_lt_of_lt_mul d0 (by
      have : (r + 1) * 4294967296 ≤ d * 4294967296 := Int.mul_le_mul_of_nonneg_right (by omega) (by omega)
      omega)
    have hr0 : 0 ≤ (r * 4294967296 + rd a m) % d := Int.emod_nonneg _ (by omega)
    have hr1 : (r * 4294967296 + rd a m) % d < d := Int.emod_lt_of_pos _ d0
    have ih' := ih (out.set m ((r * 4294967296 + rd a m) / d)) ((r * 4294967296 + rd a m) % d) (by omega) (ho.set m hq0 hq1) (by simp [hl]) hr0 hr1 (by
      have := val_take_succ (l := out) (m := m) (by omega)
      rw [List.take_set_of_le (Nat.le_refl m)]
      have hz' : val (out.take m) + 4294967296 ^ m * (rd out m).toNat = 0 := by rw [← this]; exact hz
      omega)
    refine Ev.step (f := fun k => nat_small.l0 k a d (out.set m ((r * 4294967296 + rd a m) / d)) ((r * 4294967296 + rd a m) % d) ((m : Int) - 1)) (fun k => ?_) ?_
    · have e0 : ((m + 1 : Nat) : Int) - 1 = m := by omega
      have c0 : (0 : Int) ≤ m := by omega
      have c1 : (m : Int) < (a.length : Int) := by omega
      have c2 : (m : Int) < (out.length : Int) := by omega
      have c3 : ¬ d = 0 := by omega
      have ed : IntKind.u64.wrap d = d := u64_ok (by omega) (by omega)
      have et : Int.tdiv (r * 4294967296 + rd a m) d = (r * 4294967296 + rd a m) / d := Int.tdiv_eq_ediv_of_nonneg (by omega)
      have em : Int.tmod (r * 4294967296 + rd a m) d = (r * 4294967296 + rd a m) % d := Int.tmod_eq_emod_of_nonneg (by omega)
      have ew : IntKind.u64.wrap ((r * 4294967296 + rd a m) / d) = (r * 4294967296 + rd a m) / d := u64_ok hq0 (by omega)
      have e4 : (r * 4294967296 + rd a m) / d % 4294967296 = (r * 4294967296 + rd a m) / d := Int.emod_eq_of_lt hq0 hq1
      simp only [nat_small.l0, ge_iff_le, e0, c0, c1, c2, c3, if_true, if_false, ed, or_join h0 (by omega : r < 4294967296) hx.1 hx.2, et, em, ew, e4, wrap64_pred m (by omega), Int.toNat_natCast]
    · have hv : val ((out.set m ((r * 4294967296 + rd a m) / d)).drop m) = ((r * 4294967296 + rd a m) / d).toNat + 4294967296 * val (out.drop (m + 1)) := by
        rw [val_drop', rd_set_same (by omega), List.drop_set_of_lt (by omega)]
      obtain ⟨q, hq⟩ := Int.eq_ofNat_of_zero_le hq0
      obtain ⟨s, hs⟩ := Int.eq_ofNat_of_zero_le hr0
      obtain ⟨x, hxx⟩ := Int.eq_ofNat_of_zero_le hx.1
      obtain ⟨e, rfl⟩ := Int.eq_ofNat_of_zero_le (by omega : 0 ≤ d)
      obtain ⟨rr, rfl⟩ := Int.eq_ofNat_of_zero_le h0
      have hdm : rr * 4294967296 + x = e * q + s := by
        have := Int.emod_add_mul_ediv ((rr : Int) * 4294967296 + rd a m) (e : Int)
        rw [hq, hs, hxx] at this
        have h2 : (((s + e * q : Nat)) : Int) = (((rr * 4294967296 + x : Nat)) : Int) := by simp only [Int.natCast_add, Int.natCast_mul, Int.cast_ofNat_Int]; exact this
        omega
      have key := small_arith (4294967296 ^ m) e q s (val (a.take m)) (by omega)
      have hN : 4294967296 ^ (m + 1) * rr + val (a.take (m + 1)) = 4294967296 ^ m * (e * q + s) + val (a.take m) := by
        rw [val_take_succ (by omega), hxx, ← hdm, Nat.pow_succ]
        simp only [Int.toNat_natCast]
        grind
      rw [hv, hq, hs] at ih'
      simp only [Int.toNat_natCast] at ih' ⊢
      rw [hN, key.1, key.2]
      have hA : 4294967296 ^ (m + 1) * val (out.drop (m + 1)) + (4294967296 ^ m * q + (4294967296 ^ m * s + val (a.take m)) / e) = 4294967296 ^ m * (q + 4294967296 * val (out.drop (m + 1))) + (4294967296 ^ m * s + val (a.take m)) / e := by
        rw [Nat.pow_succ]
        grind
      rw [hA]
      rw [hq, hs]
      exact ih'
theorem nat_small_eq {a : List Int} (ha : Ok a) (la : a.length ≤ 1099511627776) {d : Int} (d0 : 0 < d) (d1 : d < 4294967296) : Ev (fun k => nat_small.f k a d) (lim (val a / d.toNat), ((val a % d.toNat : Nat) : Int)) := by
  have h := small_loop ha la d0 d1 a.length (List.replicate a.length 0) 0 (Nat.le_refl _) (Ok.rep _) (by simp) (by omega) d0 (by rw [List.take_of_length_le (by simp), val_rep])
  rw [List.drop_eq_nil_of_le (by simp), List.take_of_length_le (Nat.le_refl _)] at h
  simp only [Int.toNat_zero, Nat.mul_zero, Nat.zero_add, val] at h
  refine Ev.congr (fun k => ?_) h
  have c0 : (0 : Int) ≤ (a.length : Int) := by omega
  have c1 : a.length ≤ 70368744177664 := by omega
  simp only [nat_small.f, c0, if_true, Int.toNat_natCast, c1, wrap64_pred a.length la]
end Go.Proofs.YtmkdcokdilllcaaDoor.X
/- What the code's products come to. -/
namespace Go.Proofs.YtmkdcokdilllcaaDoor.X
open Go.RowKit Go.Proofs.YtmkdcokdilllcaaDoorW.PrintWords Go.Proofs.YtmkdcokdilllcaaDoorW.PrintMore
set_option linter.unusedVariables false
set_option linter.unusedSimpArgs false
theorem val_set {l : List Int} {m : Nat} {x : Int} (h : m < l.length) : val (l.set m x) + 4294967296 ^ m * (rd l m).toNat = val l + 4294967296 ^ m * x.toNat := by
  have h1 := val_take_drop l m (by omega)
  have h2 := val_take_drop (l.set m x) m (by simp; omega)
  rw [List.take_set_of_le (Nat.le_refl m), val_drop', rd_set_same h, List.drop_set_of_lt (by omega)] at h2
  rw [val_drop'] at h1
  rw [h1, h2]
  grind
theorem wrap64_add {i j : Nat} (hi : i ≤ 1099511627776) (hj : j ≤ 1099511627776) : wrap64 ((i : Int) + (j : Int)) = ((i + j : Nat) : Int) := by rw [wrap64_ok (by omega) (by omega)]; omega
theorem step_bound {o x y r : Int} (ho0 : 0 ≤ o) (ho : o < 4294967296) (hx0 : 0 ≤ x) (hx : x < 4294967296) (hy0 : 0 ≤ y) (hy : y < 4294967296) (hr0 : 0 ≤ r) (hr : r < 4294967296) :
    0 ≤ x * y ∧ x * y ≤ 18446744065119617025 ∧ 0 ≤ (o + (x * y + r)) ∧ (o + (x * y + r)) < 18446744073709551616 ∧ 0 ≤ (o + (x * y + r)) / 4294967296 ∧ (o + (x * y + r)) / 4294967296 < 4294967296 := by
  have h1 : x * y ≤ 4294967295 * 4294967295 := Int.mul_le_mul (by omega) (by omega) hy0 (by omega)
  have h2 : 0 ≤ x * y := Int.mul_nonneg hx0 hy0
  omega
theorem step_wraps {o x y r : Int} (ho0 : 0 ≤ o) (ho : o < 4294967296) (hx0 : 0 ≤ x) (hx : x < 4294967296) (hy0 : 0 ≤ y) (hy : y < 4294967296) (hr0 : 0 ≤ r) (hr : r < 4294967296) :
    IntKind.u64.wrap x = x ∧ IntKind.u64.wrap y = y ∧ IntKind.u64.wrap r = r ∧ IntKind.u64.wrap (x * y) = x * y ∧ IntKind.u64.wrap (x * y + r) = x * y + r ∧ IntKind.u64.wrap (o + (x * y + r)) = o + (x * y + r) := by
  obtain ⟨b0, b1, b2, b3, b4, b5⟩ := step_bound ho0 ho hx0 hx hy0 hy hr0 hr
  exact ⟨u64_ok hx0 (by omega), u64_ok hy0 (by omega), u64_ok hr0 (by omega), u64_ok b0 (by omega), u64_ok (by omega) (by omega), u64_ok b2 b3⟩
theorem step_toNat {o x y r : Int} (ho0 : 0 ≤ o) (hx0 : 0 ≤ x) (hy0 : 0 ≤ y) (hr0 : 0 ≤ r) :
    ((o + (x * y + r)) % 4294967296).toNat + 4294967296 * ((o + (x * y + r)) / 4294967296).toNat = o.toNat + (x.toNat * y.toNat + r.toNat) := by
  obtain ⟨o, rfl⟩ := Int.eq_ofNat_of_zero_le ho0
  obtain ⟨x, rfl⟩ := Int.eq_ofNat_of_zero_le hx0
  obtain ⟨y, rfl⟩ := Int.eq_ofNat_of_zero_le hy0
  obtain ⟨r, rfl⟩ := Int.eq_ofNat_of_zero_le hr0
  have e : ((o : Int) + ((x : Int) * y + r)) = ((o + (x * y + r) : Nat) : Int) := by simp only [Int.natCast_add, Int.natCast_mul]
  rw [e]
  simp only [Int.toNat_natCast]
  omega
theorem inner_arith (V W P A S X Y O R Q T : Nat) (h1 : W + P * R = V + P * S) (h2 : S + 4294967296 * T = O + (X * Y + R)) (h3 : V + P * O = A) : W + P * 4294967296 * T = A + P * X * Y := by
  have : P * (S + 4294967296 * T) = P * (O + (X * Y + R)) := by rw [h2]
  grind
theorem mul_inner {a b : List Int} (ha : Ok a) (hb : Ok b) (la : a.length ≤ 1099511627776) (lb : b.length ≤ 1099511627776) {i : Nat} (hi : i < a.length) {x : Int} (hx0 : 0 ≤ x) (hx : x < 4294967296) (V : Nat) (R : List Int)
    (cont : ∀ out : List Int, Ok out → out.length = a.length + b.length → val out = V + 4294967296 ^ i * x.toNat * val b → (∀ j : Nat, i + 1 + b.length ≤ j → rd out j = 0) → Ev (fun k => nat_Mul.l0 k b out a (a.length : Int) ((i : Int) + 1)) R) (d : Nat) :
    ∀ (out : List Int) (o : Int) (j : Nat), j + d = b.length → Ok out → out.length = a.length + b.length → 0 ≤ o → o < 4294967296 → val out + 4294967296 ^ (i + j) * o.toNat = V + 4294967296 ^ i * x.toNat * val (b.take j) → (∀ j : Nat, i + b.length ≤ j → rd out j = 0) →
      Ev (fun k => nat_Mul.l1 k b out (i : Int) x o a (a.length : Int) (i : Int) b (b.length : Int) (j : Int)) R := by
  induction d with
  | zero =>
    intro out o j hj ho hl o0 o1 hv hz
    obtain rfl : j = b.length := by omega
    have hlt : i + b.length < out.length := by omega
    have hz0 := hz (i + b.length) (Nat.le_refl _)
    have HV := Aside0.mk hv
    have HV2 := Aside0.mk (show val (out.set (i + b.length) o) + 4294967296 ^ (i + b.length) * (0 : Int).toNat = _ from hz0 ▸ val_set (l := out) (m := i + b.length) (x := o) hlt)
    clear hv hz0
    refine Ev.step (f := fun k => nat_Mul.l0 k b (out.set (i + b.length) o) a (a.length : Int) ((i : Int) + 1)) (fun k => ?_) ?_
    · have c0 : ¬ (b.length : Int) < (b.length : Int) := by omega
      have e0 : wrap64 ((i : Int) + (b.length : Int)) = ((i + b.length : Nat) : Int) := by rw [wrap64_ok (by omega) (by omega)]; omega
      have c1 : (0 : Int) ≤ ((i + b.length : Nat) : Int) := by omega
      have c2 : ((i + b.length : Nat) : Int) < (out.length : Int) := by omega
      have e1 : wrap64 ((i : Int) + 1) = (i : Int) + 1 := wrap64_ok (by omega) (by omega)
      have e2 : o % 4294967296 = o := by omega
      simp only [nat_Mul.l1, c0, if_false, e0, c1, c2, if_true, e1, e2, Int.toNat_natCast]
    · refine cont _ (ho.set _ o0 o1) (by simp [hl]) ?_ ?_
      · have hv := HV.out
        have hv2 := HV2.out
        rw [List.take_of_length_le (Nat.le_refl _)] at hv
        simp only [Int.toNat_zero, Nat.mul_zero, Nat.add_zero] at hv2
        rw [hv2, hv]
      · intro j hj
        rw [rd_set_ne (by omega)]
        exact hz j (by omega)
  | succ d ih =>
    intro out o j hj ho hl o0 o1 hv hz
    have hlt : i + j < out.length := by omega
    have hy := hb.rd j
    have hr := ho.rd ((i + j : Nat) : Int)
    obtain ⟨b0, b1, b2, b3, b4, b5⟩ := step_bound o0 o1 hx0 hx hy.1 hy.2 hr.1 hr.2
    have hst := step_toNat o0 hx0 hy.1 hr.1
    obtain ⟨u1, u2, u3, u4, u5, u6⟩ := step_wraps o0 o1 hx0 hx hy.1 hy.2 hr.1 hr.2
    generalize hs : o + (x * rd b j + rd out ((i + j : Nat) : Int)) = s at *
    have hv2 := val_set (l := out) (m := i + j) (x := s % 4294967296) hlt
    have ih' := ih (out.set (i + j) (s % 4294967296)) (s / 4294967296) (j + 1) (by omega) (ho.set _ (by omega) (by omega)) (by simp [hl]) b4 b5 (by
      rw [val_take_succ (by omega), Nat.mul_add, ← Nat.add_assoc, Nat.pow_succ]
      have h4 := inner_arith _ _ _ _ _ _ _ _ _ 0 _ hv2 hst hv
      rw [show 4294967296 ^ i * x.toNat * (4294967296 ^ j * (rd b j).toNat) = 4294967296 ^ (i + j) * x.toNat * (rd b j).toNat by rw [Nat.pow_add, Nat.mul_mul_mul_comm, ← Nat.mul_assoc]]
      exact h4.trans (Nat.add_assoc _ _ _)) (by
      intro j' hj'
      rw [rd_set_ne (by omega)]
      exact hz j' hj')
    refine Ev.step (f := fun k => nat_Mul.l1 k b (out.set (i + j) (s % 4294967296)) (i : Int) x (s / 4294967296) a (a.length : Int) (i : Int) b (b.length : Int) ((j + 1 : Nat) : Int)) (fun k => ?_) ih'
    clear ih' hv hv2 hst ih cont hz
    clear b0 b1 b2 b3 b4 b5
    have c0 : (j : Int) < (b.length : Int) := by omega
    have c1 : (0 : Int) ≤ (j : Int) := Int.natCast_nonneg _
    have e0 : wrap64 ((i : Int) + (j : Int)) = ((i + j : Nat) : Int) := wrap64_add (by omega) (by omega)
    have c2 : (0 : Int) ≤ ((i + j : Nat) : Int) := Int.natCast_nonneg _
    have c3 : ((i + j : Nat) : Int) < (out.length : Int) := Int.ofNat_lt.2 hlt
    have e1 : wrap64 ((j : Int) + 1) = ((j + 1 : Nat) : Int) := wrap64_add (j := 1) (by omega) (by omega)
    simp only [nat_Mul.l1, c0, c1, if_true, e0, c2, c3, e1, u1, u2, u3, u4, u5, hs, u6, Int.toNat_natCast]
theorem mul_loop {a b : List Int} (ha : Ok a) (hb : Ok b) (la : a.length ≤ 1099511627776) (lb : b.length ≤ 1099511627776) (d : Nat) : ∀ (out : List Int) (i : Nat), i + d = a.length → Ok out → out.length = a.length + b.length → val out = val (a.take i) * val b → (∀ j : Nat, i + b.length ≤ j → rd out j = 0) →
    Ev (fun k => nat_Mul.l0 k b out a (a.length : Int) (i : Int)) (lim (val a * val b)) := by
  induction d with
  | zero =>
    intro out i hi ho hl hv hz
    obtain rfl : i = a.length := by omega
    rw [List.take_of_length_le (Nat.le_refl _)] at hv
    refine Ev.step (f := fun _ => some (lim (val out))) (fun k => ?_) (by rw [hv]; exact Ev.now _)
    have c0 : ¬ (a.length : Int) < (a.length : Int) := by omega
    simp only [nat_Mul.l0, c0, if_false, nat_Norm_eq ho (by omega), Option.bind_some]
  | succ d ih =>
    intro out i hi ho hl hv hz
    have hx := ha.rd i
    have c0 : (i : Int) < (a.length : Int) := by omega
    have c1 : (0 : Int) ≤ (i : Int) := by omega
    have e1 : wrap64 ((i : Int) + 1) = ((i + 1 : Nat) : Int) := by rw [wrap64_ok (by omega) (by omega)]; omega
    by_cases hz0 : rd a i = 0
    · refine Ev.step (f := fun k => nat_Mul.l0 k b out a (a.length : Int) ((i + 1 : Nat) : Int)) (fun k => ?_) (ih out (i + 1) (by omega) ho hl (by rw [hv, val_take_succ (by omega), hz0]; simp) (fun j hj => hz j (by omega)))
      simp only [nat_Mul.l0, c0, c1, if_true, hz0, e1]
    · refine Ev.step (f := fun k => nat_Mul.l1 k b out (i : Int) (rd a i) 0 a (a.length : Int) (i : Int) b (b.length : Int) ((0 : Nat) : Int)) (fun k => ?_) ?_
      · simp only [nat_Mul.l0, c0, c1, if_true, hz0, if_false]
        rfl
      · refine mul_inner ha hb la lb (by omega) hx.1 hx.2 (val (a.take i) * val b) _ ?_ b.length out 0 0 (by omega) ho hl (by omega) (by omega) (by simp [hv, val]) hz
        intro out' ho' hl' hv' hz'
        have := ih out' (i + 1) (by omega) ho' hl' (by rw [hv', val_take_succ (by omega)]; grind) hz'
        simpa using this
theorem rd_rep (n : Nat) (i : Int) : rd (List.replicate n 0) i = 0 := by
  unfold YtmkdcokdilllcaaDoorW.PrintWords.rd
  rw [List.getD_eq_getElem?_getD, List.getElem?_replicate]
  split <;> rfl
theorem nat_mul {a b : List Int} (ha : Ok a) (hb : Ok b) (la : a.length ≤ 1099511627776) (lb : b.length ≤ 1099511627776) : Ev (fun k => nat_Mul.f k a b) (lim (val a * val b)) := by
  have h := mul_loop ha hb la lb a.length (List.replicate (a.length + b.length) 0) 0 (by omega) (Ok.rep _) (by simp) (by simp [val_rep, val]) (fun j _ => rd_rep _ _)
  refine Ev.congr (fun k => ?_) h
  have e0 : wrap64 ((a.length : Int) + (b.length : Int)) = ((a.length + b.length : Nat) : Int) := by rw [wrap64_ok (by omega) (by omega)]; omega
  have c0 : (0 : Int) ≤ ((a.length + b.length : Nat) : Int) := by omega
  have c1 : a.length + b.length ≤ 70368744177664 := by omega
  simp only [nat_Mul.f, e0, c0, if_true, Int.toNat_natCast, c1]
  rfl
end Go.Proofs.YtmkdcokdilllcaaDoor.X
