import Derived.Test.YtfimffgfnhplkaaGreatDoorProg
import Derived.Shelf.Unicode.DecodeSlow
import Derived.WalkSmall
import Derived.Shelf.Small.Bits
import Derived.Shelf.Strconv.Itoa0
import Derived.Shelf.Unicode.DecodeAny
import Derived.Shelf.Slices.CompactS
import Derived.Shelf.Slices.In.SortNone
import Derived.Test.YtfimffgfnhplkaaGreatDoorCards
import Derived.Test.YtfimffgfnhplkaaGreatDoorTie
import Derived.WalkKit
import Derived.ProofKit
import Derived.OpenShut
import Derived.Deep.DeepHandedRow
import Derived.Lib.LaidTab
import Derived.Lib.LaidU8
import Derived.Shelf.Vars
import Derived.Orders
import Derived.Below
import Derived.Laws.AppendOwn
import Derived.Laws.OwnMore
import Derived.Laws.MakeOwn
import Derived.Laws.CopyRow
import Derived.Laws.Cells
import Derived.KernelRfl
import Derived.Laws.Cover3
import Derived.Maps.AppendAt
import Derived.Great.BuildSlice
set_option maxRecDepth 100000
set_option linter.unusedVariables false
set_option linter.unusedSimpArgs false
namespace Go.Proofs.YtfimffgfnhplkaaGreatDoor.X
open Go.RowKit
structure Laid (w : World) : Prop where
 utf8 : Lib.Utf8Tabs 1 2 w
theorem Laid.below {w w' : World} (h : Laid w) (hb : Below w.heap.size w w') : Laid w' := ⟨Utf8Tabs_below h.utf8 hb⟩
theorem Laid.drewN {w : World} (h : Laid w) (n : Nat) : Laid (w.drewN n) := h.below (Go.below_drewN (Below.refl _ _) n)
theorem Laid.drew {w : World} (h : Laid w) : Laid w.drew := h.drewN 1
end Go.Proofs.YtfimffgfnhplkaaGreatDoor.X
namespace Go.Proofs
open Go.Shelf
def Tryz.lays260_ren : Go.Shelf.Ren := ⟨fun | 260 => 183 | n => n, fun | 9 => 9 | 21 => 21 | 3 => 3 | 4 => 4 | 5 => 5 | 119 => 190 | 0 => 0 | 46 => 148 | 139 => 193 | 138 => 192 | n => n, fun | 3 => 1 | 4 => 2 | n => n⟩
theorem Tryz.lays260 : Go.Proofs.Lays.n260 Tryz.prog Tryz.lays260_ren := {
 mixed := by kernel_rfl
 f260 := Tryz.func183.trans (congrArg some (by kernel_rfl))
 t0 := Tryz.underlying0
 a0 := Tryz.isAgg0
 z0 := Tryz.sizeOf0
 v0 := Tryz.zeroValue0
 t3 := Tryz.underlying3
 a3 := Tryz.isAgg3
 z3 := Tryz.sizeOf3
 v3 := Tryz.zeroValue3
 t4 := Tryz.underlying4
 a4 := Tryz.isAgg4
 z4 := Tryz.sizeOf4
 v4 := Tryz.zeroValue4
 t5 := Tryz.underlying5
 a5 := Tryz.isAgg5
 z5 := Tryz.sizeOf5
 v5 := Tryz.zeroValue5
 t9 := Tryz.underlying9
 a9 := Tryz.isAgg9
 z9 := Tryz.sizeOf9
 v9 := Tryz.zeroValue9
 t21 := Tryz.underlying21
 a21 := Tryz.isAgg21
 z21 := Tryz.sizeOf21
 v21 := Tryz.zeroValue21
 t46 := Tryz.underlying148
 a46 := Tryz.isAgg148
 z46 := Tryz.sizeOf148
 v46 := Tryz.zeroValue148
 t119 := Tryz.underlying190
 a119 := Tryz.isAgg190
 z119 := Tryz.sizeOf190
 t138 := Tryz.underlying192
 a138 := Tryz.isAgg192
 z138 := Tryz.sizeOf192
 v138 := Tryz.zeroValue192
 t139 := Tryz.underlying193
 a139 := Tryz.isAgg193
 z139 := Tryz.sizeOf193
 v139 := Tryz.zeroValue193
 g3 := by kernel_rfl
 g4 := by kernel_rfl }
def Tryz.lays197_ren : Go.Shelf.Ren := ⟨fun | 197 => 171 | 260 => 183 | n => n, fun | 9 => 9 | 21 => 21 | 3 => 3 | 4 => 4 | 5 => 5 | 105 => 168 | 119 => 190 | 0 => 0 | 46 => 148 | 139 => 193 | 138 => 192 | n => n, fun | 3 => 1 | 4 => 2 | n => n⟩
theorem Tryz.lays197 : Go.Proofs.Lays.n197 Tryz.prog Tryz.lays197_ren := {
 mixed := by kernel_rfl
 f197 := Tryz.func171.trans (congrArg some (by kernel_rfl))
 f260 := Tryz.func183.trans (congrArg some (by kernel_rfl))
 t0 := Tryz.underlying0
 a0 := Tryz.isAgg0
 z0 := Tryz.sizeOf0
 v0 := Tryz.zeroValue0
 t3 := Tryz.underlying3
 a3 := Tryz.isAgg3
 z3 := Tryz.sizeOf3
 v3 := Tryz.zeroValue3
 t4 := Tryz.underlying4
 a4 := Tryz.isAgg4
 z4 := Tryz.sizeOf4
 v4 := Tryz.zeroValue4
 t5 := Tryz.underlying5
 a5 := Tryz.isAgg5
 z5 := Tryz.sizeOf5
 v5 := Tryz.zeroValue5
 t9 := Tryz.underlying9
 a9 := Tryz.isAgg9
 z9 := Tryz.sizeOf9
 v9 := Tryz.zeroValue9
 t21 := Tryz.underlying21
 a21 := Tryz.isAgg21
 z21 := Tryz.sizeOf21
 v21 := Tryz.zeroValue21
 t46 := Tryz.underlying148
 a46 := Tryz.isAgg148
 z46 := Tryz.sizeOf148
 v46 := Tryz.zeroValue148
 t105 := Tryz.underlying168
 a105 := Tryz.isAgg168
 z105 := Tryz.sizeOf168
 v105 := Tryz.zeroValue168
 t119 := Tryz.underlying190
 a119 := Tryz.isAgg190
 z119 := Tryz.sizeOf190
 t138 := Tryz.underlying192
 a138 := Tryz.isAgg192
 z138 := Tryz.sizeOf192
 v138 := Tryz.zeroValue192
 t139 := Tryz.underlying193
 a139 := Tryz.isAgg193
 z139 := Tryz.sizeOf193
 v139 := Tryz.zeroValue193
 g3 := by kernel_rfl
 g4 := by kernel_rfl }
open Go.RowKit Go.Lib in
theorem Tryz.utf8_DecodeRuneInString (s : ByteArray) (w : World) (hT : Lib.Utf8Tabs 1 2 w) :
  Calls Tryz.prog 171 #[.string s] w fun e w' => e = .returned (.tuple #[.int .i32 (Lib.decodeGo s).1, .int .i64 (Lib.decodeGo s).2]) ∧ Below w.heap.size w w' := Any.utf8_DecodeRuneInString Tryz.lays197 s w hT
end Go.Proofs
namespace Go.Proofs.YtfimffgfnhplkaaGreatDoor.X
open Go.ChangeShapes Go.WideShapes Go.ChangeAt Go.RowKit
theorem own : ownKnob Tryz.prog.godebug = none := by kernel_rfl
theorem first_data : Rows.laid_unicode_utf8_first = Lib.firstData := by kernel_rfl
theorem accept_data : (Rows.laid_unicode_utf8_acceptRanges : DataW Unit) = Lib.acceptData := by kernel_rfl
theorem laid_of {W : World} (h : laidMetH Tryz.prog Rows.diffMasksRow.laid W) (hS : W.ShapedOpen Tryz.prog) : Laid W := by
 have h' : laidMet Tryz.prog [("math/bits.deBruijn32tab", Rows.laid_math_bits_deBruijn32tab), ("math/bits.deBruijn64tab", Rows.laid_math_bits_deBruijn64tab), ("internal/strconv.uint64pow10", Rows.laid_internal_strconv_uint64pow10), ("unicode/utf8.acceptRanges", Rows.laid_unicode_utf8_acceptRanges), ("unicode/utf8.first", Rows.laid_unicode_utf8_first)] W := h
 have r1 := Lib.laidMet.reads h' (.tail _ (.tail _ (.tail _ (.tail _ (.head _)))))
 have r2 := Lib.laidMet.reads h' (.tail _ (.tail _ (.tail _ (.head _))))
 rw [first_data] at r1
 rw [accept_data] at r2
 exact ⟨utf8Tabs_of_reads Tryz.lays260 ⟨by kernel_rfl, by kernel_rfl, by kernel_rfl, by kernel_rfl, by kernel_rfl, by kernel_rfl, by kernel_rfl⟩ r1 r2⟩
def cellsD : DataW Unit → List Value
 | .agg xs => xs.flatMap fun
  | .lit (.int k z) => [.int k z]
  | .agg ys => ys.map fun
   | .lit (.int k z) => .int k z
   | _ => undef
  | _ => []
 | _ => []
def put (g : Nat) (cs : List Value) (heap : Array Obj) : Array Obj := heap.modify g fun
 | .cells _ t frozen => .cells cs.toArray t frozen
 | o => o
noncomputable def laidWorld (os : Os) : World :=
 let w0 := World.holding Tryz.prog os ⟨#[], #[], []⟩
 let h1 := put 2 (cellsD Rows.laid_unicode_utf8_acceptRanges) w0.heap
 let h2 := put 1 (cellsD Rows.laid_unicode_utf8_first) h1
 let h3 := put 3 (cellsD Rows.laid_math_bits_deBruijn32tab) h2
 let h4 := put 4 (cellsD Rows.laid_math_bits_deBruijn64tab) h3
 let h5 := put 0 (cellsD Rows.laid_internal_strconv_uint64pow10) h4
 { w0 with heap := h5 }
end Go.Proofs.YtfimffgfnhplkaaGreatDoor.X
namespace Go.Proofs.YtfimffgfnhplkaaGreatDoor.F
open Go Go.RowKit
structure Num where
 neg : Bool
 m : List Int
 e : Int
inductive Tree where
 | mk (kind : Int) (b : Bool) (n : Num) (s : ByteArray) (k : List ByteArray) (v : List Tree)
namespace Tree
def kind : Tree → Int | mk k _ _ _ _ _ => k
def b : Tree → Bool | mk _ b _ _ _ _ => b
def n : Tree → Num | mk _ _ n _ _ _ => n
def s : Tree → ByteArray | mk _ _ _ s _ _ => s
def k : Tree → List ByteArray | mk _ _ _ _ k _ => k
def v : Tree → List Tree | mk _ _ _ _ _ v => v
def zero : Tree := mk 0 false ⟨false, [], 0⟩ ⟨#[]⟩ [] []
end Tree
structure Opn where
 op : Int
 path : List ByteArray
 frm : List ByteArray
 value : Tree
structure Grd where
 kind : Int
 path : List ByteArray
inductive Ty where
 | int (k : IntKind) | bool | str | strs | trees | ints (k : IntKind) | num | tree | opn | grd
@[reducible] def El : Ty → Type
 | .int _ => Int
 | .bool => Bool
 | .str => ByteArray
 | .strs => List ByteArray
 | .trees => List Tree
 | .ints _ => List Int
 | .num => Num
 | .tree => Tree
 | .opn => Opn
 | .grd => Grd
def dflt : (τ : Ty) → El τ
 | .int _ => (0 : Int)
 | .bool => false
 | .str => (⟨#[]⟩ : ByteArray)
 | .strs => ([] : List ByteArray)
 | .trees => ([] : List Tree)
 | .ints _ => ([] : List Int)
 | .num => (⟨false, [], 0⟩ : Num)
 | .tree => Tree.zero
 | .opn => (⟨0, [], [], Tree.zero⟩ : Opn)
 | .grd => (⟨0, []⟩ : Grd)
inductive AV where
 | junk
 | lit (v : Value)
 | row (τ : Ty) (xs : List (El τ))
 | own (b : Nat)
 | ptr (b off : Nat)
 | ep (τ : Ty) (x : El τ) (off : Nat)
 | op (τ : Ty) (b i off : Nat)
 | rowc (τ : Ty) (xs : List (El τ)) (c : Nat)
 | ot (τ : Ty) (b lo : Nat)
 | rown (τ : Ty) (xs : List (El τ)) (b : Bool)
 | agg (l : List AV)
 | tup (l : List AV)
 | clo (fn : Fn) (l : List AV)
abbrev vi (n : Int) : AV := .lit (.int .i64 n)
abbrev vb (b : Bool) : AV := .lit (.bool b)
abbrev vs (s : ByteArray) : AV := .lit (.string s)
abbrev nilv : AV := .lit (.slice none 0 0)
@[reducible] def encTree (x : Tree) : List AV := [vi x.kind, vb x.b, vb x.n.neg, .row (.int .u32) x.n.m, vi x.n.e, vs x.s, .row .str x.k, .row .tree x.v]
@[reducible] def enc : (τ : Ty) → El τ → List AV
 | .int k, x => [.lit (.int k x)]
 | .bool, x => [.lit (.bool x)]
 | .str, x => [.lit (.string x)]
 | .strs, x => [.row .str x]
 | .trees, x => [.row .tree x]
 | .ints k, x => [.row (.int k) x]
 | .num, x => [vb x.neg, .row (.int .u32) x.m, vi x.e]
 | .tree, x => encTree x
 | .opn, x => [vi x.op, .row .str x.path, .row .str x.frm] ++ encTree x.value
 | .grd, x => [vi x.kind, .row .str x.path]
def sz : Ty → Nat
 | .num => 3 | .tree => 8 | .opn => 11 | .grd => 2 | _ => 1
theorem enc_len (τ : Ty) (x : El τ) : (enc τ x).length = sz τ := by cases τ <;> rfl
theorem sz_pos (τ : Ty) : 0 < sz τ := by cases τ <;> simp [sz]
inductive R (w : World) (fz : Nat → Prop) (η : Nat → Option Value) : Value → AV → Prop
 | junk (v) : R w fz η v .junk
 | lit (v) : R w fz η v (.lit v)
 | row (A : Option Addr) (c : Nat) (τ : Ty) (xs : List (El τ)) (u : Nat → Nat → Value) (hc : xs.length ≤ c) (hm : c ≤ maxLen)
   (h1 : ∀ i x, xs[i]? = some x → ∃ ad, A = some ad ∧ fz ad.block ∧ ad.block < w.heap.size ∧ ∀ j a, (enc τ x)[j]? = some a → w.cell? (ad.add (i * sz τ + j)) = some (u i j))
   (h2 : ∀ i x j a, xs[i]? = some x → (enc τ x)[j]? = some a → R w fz η (u i j) a) : R w fz η (.slice A xs.length c) (.row τ xs)
 | own (v b) (h : ∀ u, η b = some u → v = u) : R w fz η v (.own b)
 | ptr (v b off) (h : ∀ u, η b = some u → ∃ g, u = .pointer (some ⟨g, 0, none⟩) ∧ v = .pointer (some ⟨g, off, none⟩)) : R w fz η v (.ptr b off)
 | ep (ad : Addr) (τ : Ty) (x : El τ) (off : Nat) (u : Nat → Value) (hf : fz ad.block) (hlt : ad.block < w.heap.size)
   (h1 : ∀ j a, (enc τ x)[j]? = some a → w.cell? (ad.add j) = some (u j)) (h2 : ∀ j a, (enc τ x)[j]? = some a → R w fz η (u j) a) : R w fz η (.pointer (some (ad.add off))) (.ep τ x off)
 | op (v τ b i off) (h : ∀ u, η b = some u → ∃ g n c, u = .slice (some ⟨g, 0, none⟩) n c ∧ v = .pointer (some ⟨g, i * sz τ + off, none⟩)) : R w fz η v (.op τ b i off)
 | rowc (A : Option Addr) (c : Nat) (τ : Ty) (xs : List (El τ)) (h : R w fz η (.slice A xs.length c) (.row τ xs)) : R w fz η (.slice A xs.length c) (.rowc τ xs c)
 | rown (A : Option Addr) (c : Nat) (τ : Ty) (xs : List (El τ)) (h : R w fz η (.slice A xs.length c) (.row τ xs)) : R w fz η (.slice A xs.length c) (.rown τ xs A.isNone)
 | ot (v τ b lo) (h : ∀ u, η b = some u → ∃ g n c, u = .slice (some ⟨g, 0, none⟩) n c ∧ lo ≤ n ∧ v = .slice (some ⟨g, lo * sz τ, none⟩) (n - lo) (c - lo)) : R w fz η v (.ot τ b lo)
 | agg (vs : Array Value) (l : List AV) (hl : vs.size = l.length) (h : ∀ (j : Nat) v a, vs[j]? = some v → l[j]? = some a → R w fz η v a) : R w fz η (.agg vs) (.agg l)
 | tup (vs : Array Value) (l : List AV) (hl : vs.size = l.length) (h : ∀ (j : Nat) v a, vs[j]? = some v → l[j]? = some a → R w fz η v a) : R w fz η (.tuple vs) (.tup l)
 | clo (fn : Fn) (vs : Array Value) (l : List AV) (hl : vs.size = l.length) (h : ∀ (j : Nat) v a, vs[j]? = some v → l[j]? = some a → R w fz η v a) : R w fz η (.func fn #[] vs) (.clo fn l)
mutual
def ment (b : Nat) : AV → Bool
 | .own c => b == c
 | .ptr c _ => b == c
 | .op _ c _ _ => b == c
 | .ot _ c _ => b == c
 | .agg l => mentL b l
 | .tup l => mentL b l
 | .clo _ l => mentL b l
 | _ => false
def mentL (b : Nat) : List AV → Bool
 | [] => false
 | a :: l => ment b a || mentL b l
end
theorem mentL_of {b : Nat} : ∀ {l : List AV} {j : Nat} {a : AV}, l[j]? = some a → ment b a = true → mentL b l = true
 | [], _, _, h, _ => by simp at h
 | x :: l, 0, a, h, hm => by simp at h; subst h; simp [mentL, hm]
 | x :: l, j + 1, a, h, hm => by simp at h; simp [mentL, mentL_of h hm]
theorem enc_ment (b : Nat) (τ : Ty) (x : El τ) : mentL b (enc τ x) = false := by cases τ <;> simp [enc, mentL, ment, encTree]
theorem enc_ment' {b : Nat} {τ : Ty} {x : El τ} {j : Nat} {a : AV} (h : (enc τ x)[j]? = some a) : ment b a = false := by
 cases hm : ment b a with
 | false => rfl
 | true => have := mentL_of h hm; rw [enc_ment] at this; cases this
section
variable {w : World} {fz : Nat → Prop} {η : Nat → Option Value} {v : Value}
theorem R.lit_inv {u : Value} (h : R w fz η v (.lit u)) : v = u := by cases h; rfl
theorem R.own_inv {b : Nat} {u : Value} (h : R w fz η v (.own b)) (hu : η b = some u) : v = u := by cases h with | own _ _ h => exact h u hu
theorem R.ptr_inv {b off : Nat} {u : Value} (h : R w fz η v (.ptr b off)) (hu : η b = some u) : ∃ g, u = .pointer (some ⟨g, 0, none⟩) ∧ v = .pointer (some ⟨g, off, none⟩) := by cases h with | ptr _ _ _ h => exact h u hu
theorem R.op_inv {τ : Ty} {b i off : Nat} {u : Value} (h : R w fz η v (.op τ b i off)) (hu : η b = some u) : ∃ g n c, u = .slice (some ⟨g, 0, none⟩) n c ∧ v = .pointer (some ⟨g, i * sz τ + off, none⟩) := by cases h with | op _ _ _ _ _ h => exact h u hu
theorem R.ot_inv {τ : Ty} {b lo : Nat} {u : Value} (h : R w fz η v (.ot τ b lo)) (hu : η b = some u) : ∃ g n c, u = .slice (some ⟨g, 0, none⟩) n c ∧ lo ≤ n ∧ v = .slice (some ⟨g, lo * sz τ, none⟩) (n - lo) (c - lo) := by cases h with | ot _ _ _ _ h => exact h u hu
theorem R.rown_inv {τ : Ty} {xs : List (El τ)} {b : Bool} (h : R w fz η v (.rown τ xs b)) : ∃ A c, v = .slice A xs.length c ∧ b = A.isNone ∧ R w fz η v (.row τ xs) := by cases h with | rown A c τ xs h => exact ⟨A, c, rfl, rfl, h⟩
theorem R.rowc_inv {τ : Ty} {xs : List (El τ)} {c : Nat} (h : R w fz η v (.rowc τ xs c)) : ∃ A, v = .slice A xs.length c ∧ R w fz η v (.row τ xs) := by cases h with | rowc A c τ xs h => exact ⟨A, rfl, h⟩
theorem R.agg_inv {l : List AV} (h : R w fz η v (.agg l)) : ∃ vs : Array Value, v = .agg vs ∧ vs.size = l.length ∧ ∀ (j : Nat) u a, vs[j]? = some u → l[j]? = some a → R w fz η u a := by cases h with | agg vs _ hl h => exact ⟨vs, rfl, hl, h⟩
theorem R.tup_inv {l : List AV} (h : R w fz η v (.tup l)) : ∃ vs : Array Value, v = .tuple vs ∧ vs.size = l.length ∧ ∀ (j : Nat) u a, vs[j]? = some u → l[j]? = some a → R w fz η u a := by cases h with | tup vs _ hl h => exact ⟨vs, rfl, hl, h⟩
theorem R.clo_inv {fn : Fn} {l : List AV} (h : R w fz η v (.clo fn l)) : ∃ vs : Array Value, v = .func fn #[] vs ∧ vs.size = l.length ∧ ∀ (j : Nat) u a, vs[j]? = some u → l[j]? = some a → R w fz η u a := by cases h with | clo fn vs _ hl h => exact ⟨vs, rfl, hl, h⟩
theorem R.ep_inv {τ : Ty} {x : El τ} {off : Nat} (h : R w fz η v (.ep τ x off)) : ∃ ad : Addr, v = .pointer (some (ad.add off)) ∧ fz ad.block ∧ ad.block < w.heap.size ∧ ∀ (j : Nat) a, (enc τ x)[j]? = some a → ∃ u, w.cell? (ad.add j) = some u ∧ R w fz η u a := by
 cases h with | ep ad τ x off u hf hlt h1 h2 => exact ⟨ad, rfl, hf, hlt, fun j a ha => ⟨u j, h1 j a ha, h2 j a ha⟩⟩
theorem R.row_inv {τ : Ty} {xs : List (El τ)} (h : R w fz η v (.row τ xs)) : ∃ A c, v = .slice A xs.length c ∧ xs.length ≤ c ∧ c ≤ maxLen ∧
  ∀ i x, xs[i]? = some x → ∃ ad, A = some ad ∧ fz ad.block ∧ ad.block < w.heap.size ∧ ∀ (j : Nat) a, (enc τ x)[j]? = some a → ∃ u, w.cell? (ad.add (i * sz τ + j)) = some u ∧ R w fz η u a := by
 cases h with
 | row A c τ xs u hc hm h1 h2 =>
  refine ⟨A, c, rfl, hc, hm, fun i x hx => ?_⟩
  obtain ⟨ad, hA, hf, hlt, hcell⟩ := h1 i x hx
  exact ⟨ad, hA, hf, hlt, fun j a ha => ⟨u i j, hcell j a ha, h2 i x j a hx ha⟩⟩
theorem R.row_mk {A : Option Addr} {c : Nat} {τ : Ty} {xs : List (El τ)} (hc : xs.length ≤ c) (hm : c ≤ maxLen) (h : ∀ i x, xs[i]? = some x → ∃ ad, A = some ad ∧ fz ad.block ∧ ad.block < w.heap.size ∧ ∀ (j : Nat) a, (enc τ x)[j]? = some a → ∃ u, w.cell? (ad.add (i * sz τ + j)) = some u ∧ R w fz η u a) : R w fz η (.slice A xs.length c) (.row τ xs) := by
 refine .row A c τ xs (fun i j => match A with | some ad => (w.cell? (ad.add (i * sz τ + j))).getD undef | none => undef) hc hm (fun i x hx => ?_) (fun i x j a hx ha => ?_)
 obtain ⟨ad, rfl, hf, hlt, hh⟩ := h i x hx
 refine ⟨ad, rfl, hf, hlt, fun j a ha => ?_⟩
 obtain ⟨u, hu, _⟩ := hh j a ha
 simp [hu]
 obtain ⟨ad, rfl, hf, hlt, hh⟩ := h i x hx
 obtain ⟨u, hu, hr⟩ := hh j a ha
 simp [hu, hr]
theorem R.ep_mk {ad : Addr} {τ : Ty} {x : El τ} {off : Nat} (hf : fz ad.block) (hlt : ad.block < w.heap.size) (h : ∀ (j : Nat) a, (enc τ x)[j]? = some a → ∃ u, w.cell? (ad.add j) = some u ∧ R w fz η u a) : R w fz η (.pointer (some (ad.add off))) (.ep τ x off) := by
 refine .ep ad τ x off (fun j => (w.cell? (ad.add j)).getD undef) hf hlt (fun j a ha => ?_) (fun j a ha => ?_)
 obtain ⟨u, hu, _⟩ := h j a ha
 simp [hu]
 obtain ⟨u, hu, hr⟩ := h j a ha
 simp [hu, hr]
end
def lkp {α : Type} : List (Nat × α) → Nat → Option α
 | [], _ => none
 | (k, x) :: l, t => if t = k then some x else lkp l t
theorem lkp_mem {α : Type} : ∀ {l : List (Nat × α)} {t : Nat} {x : α}, lkp l t = some x → (t, x) ∈ l
 | [], _, _, h => by cases h
 | (k, y) :: l, t, x, h => by
  simp only [lkp] at h
  split at h
  rename_i e; simp only [Option.some.injEq] at h; subst h e; exact List.mem_cons_self ..
  exact List.mem_cons_of_mem _ (lkp_mem h)
theorem add_block (ad : Addr) (n : Nat) : (ad.add n).block = ad.block := by unfold Addr.add; split <;> rfl
section
variable {w w' : World} {fz fz' : Nat → Prop} {η η' : Nat → Option Value}
theorem R.step {v : Value} {a : AV} (h : R w fz η v a) (hz : w.heap.size ≤ w'.heap.size) (hw : ∀ k, fz k → k < w.heap.size → w'.heap[k]? = w.heap[k]?) (hf : ∀ k, fz k → k < w.heap.size → fz' k)
  (hη : ∀ b u, ment b a = true → η' b = some u → η b = some u) : R w' fz' η' v a := by
 induction h with
 | junk v => exact .junk v
 | lit v => exact .lit v
 | row A c τ xs u hc hm h1 h2 ih =>
  refine .row A c τ xs u hc hm (fun i x hx => ?_) (fun i x j a hx ha => ih i x j a hx ha (fun b u hb => by rw [enc_ment' ha] at hb; cases hb))
  obtain ⟨ad, hA, hfz, hlt, hcell⟩ := h1 i x hx
  refine ⟨ad, hA, hf _ hfz hlt, Nat.lt_of_lt_of_le hlt hz, fun j a ha => ?_⟩
  rw [← hcell j a ha]
  exact World.cell?_of_block (by rw [add_block]; exact hw _ hfz hlt)
 | own v b h => exact .own v b (fun u hu => h u (hη b u (by simp [ment]) hu))
 | ptr v b off h => exact .ptr v b off (fun u hu => h u (hη b u (by simp [ment]) hu))
 | ep ad τ x off u hfz hlt h1 h2 ih =>
  refine .ep ad τ x off u (hf _ hfz hlt) (Nat.lt_of_lt_of_le hlt hz) (fun j a ha => ?_) (fun j a ha => ih j a ha (fun b u hb => by rw [enc_ment' ha] at hb; cases hb))
  rw [← h1 j a ha]
  exact World.cell?_of_block (by rw [add_block]; exact hw _ hfz hlt)
 | op v τ b i off h => exact .op v τ b i off (fun u hu => h u (hη b u (by simp [ment]) hu))
 | rowc A c τ xs h ih => exact .rowc A c τ xs (ih (fun b u hb => by simp [ment] at hb))
 | rown A c τ xs h ih => exact .rown A c τ xs (ih (fun b u hb => by simp [ment] at hb))
 | ot v τ b lo h => exact .ot v τ b lo (fun u hu => h u (hη b u (by simp [ment]) hu))
 | agg vs l hl h ih => exact .agg vs l hl (fun j v a hv ha => ih j v a hv ha (fun b u hb => hη b u (by simp only [ment]; exact mentL_of ha hb)))
 | tup vs l hl h ih => exact .tup vs l hl (fun j v a hv ha => ih j v a hv ha (fun b u hb => hη b u (by simp only [ment]; exact mentL_of ha hb)))
 | clo fn vs l hl h ih => exact .clo fn vs l hl (fun j v a hv ha => ih j v a hv ha (fun b u hb => hη b u (by simp only [ment]; exact mentL_of ha hb)))
end
inductive Box where
 | var (l : List AV)
 | sl (e : TypeId) (τ : Ty) (xs : List (El τ))
 | full (e : TypeId) (τ : Ty) (xs : List (El τ))
 | any
def blk : Value → Option Nat
 | .pointer (some a) => some a.block
 | .slice (some a) _ _ => some a.block
 | _ => none
def BoxR (w : World) (fz : Nat → Prop) (η : Nat → Option Value) (u : Value) : Box → Prop
 | .var l => ∃ g C e, u = .pointer (some ⟨g, 0, none⟩) ∧ w.heap[g]? = some (.cells C e (0, 0)) ∧ C.size = l.length ∧ ∀ (j : Nat) v a, C[j]? = some v → l[j]? = some a → R w fz η v a
 | .sl e τ xs => ∃ cs, w.ownsRow 0 e (sz τ) u xs.length cs ∧ ∀ i x j a, xs[i]? = some x → (enc τ x)[j]? = some a → ∃ v, cs[i * sz τ + j]? = some v ∧ R w fz η v a
 | .full e τ xs => (∃ cs, w.ownsRow 0 e (sz τ) u xs.length cs ∧ ∀ i x j a, xs[i]? = some x → (enc τ x)[j]? = some a → ∃ v, cs[i * sz τ + j]? = some v ∧ R w fz η v a) ∧ ∀ A n c, u = .slice A n c → c = n
 | .any => u.oneCell' = true
def mentB (b : Nat) : Box → Bool
 | .var l => mentL b l
 | .sl _ _ _ => false
 | .full _ _ _ => false
 | .any => false
def Un (η : Nat → Option Value) (k : Nat) : Prop := ∀ b u, η b = some u → blk u ≠ some k
def Fz (A : Nat → Prop) (η : Nat → Option Value) (k : Nat) : Prop := A k ∧ Un η k
structure Own where
 o : Nat → Prop
 f : Nat → Prop
 pin : Nat → Option Value
 dfs : List Deferred
def Amb (w0 : World) (ow : Own) (k : Nat) : Prop := ow.f k ∨ ow.o k ∨ w0.heap.size ≤ k
structure Fr (ow : Own) (w w' : World) : Prop where
 os : w'.os = w.os
 tape : w'.tape = w.tape
 output : w'.output = w.output
 size : w.heap.size ≤ w'.heap.size
 block : ∀ k, k < w.heap.size → ¬ ow.o k → w'.heap[k]? = w.heap[k]?
theorem Fr.refl (ow : Own) (w : World) : Fr ow w w := ⟨rfl, rfl, rfl, Nat.le_refl _, fun _ _ _ => rfl⟩
theorem Fr.below {ow : Own} {w w' : World} (h : Fr ow w w') (hn : ∀ k, ¬ ow.o k) : Below w.heap.size w w' := ⟨h.os, h.tape, h.output, h.size, fun k hk => h.block k hk (hn k)⟩
structure Sim (N : Nat) (w0 : World) (ow : Own) (η : Nat → Option Value) (tm : Nat → Option AV) (bx : Nat → Option Box) (a : Act) (w : World) : Prop where
 size : a.tmps.size = N
 nod : a.defers = ow.dfs
 frame : Fr ow w0 w
 tmp : ∀ t av, tm t = some av → ∃ v, a.tmps[t]? = some v ∧ R w (Fz (Amb w0 ow) η) η v av
 dom : ∀ b B, bx b = some B → ∃ u, η b = some u ∧ BoxR w (Fz (Amb w0 ow) η) η u B
 new : ∀ b u k, η b = some u → blk u = some k → k < w.heap.size ∧ (w0.heap.size ≤ k ∨ ow.o k)
 apart : ∀ b b' u u' k, η b = some u → η b' = some u' → blk u = some k → blk u' = some k → b = b'
 pin : ∀ b u u', ow.pin b = some u → η b = some u' → u' = u
 pinlt : ∀ b u, ow.pin b = some u → b < 1000
structure Tr (η η' : Nat → Option Value) (c : Nat) (w w' : World) : Prop where
 os : w'.os = w.os
 tape : w'.tape = w.tape
 output : w'.output = w.output
 size : w.heap.size ≤ w'.heap.size
 fzk : ∀ k, k < w.heap.size → Un η k → w'.heap[k]? = w.heap[k]?
 old : ∀ b u, b ≠ c → η' b = some u → η b = some u
 keep : ∀ b u k, b ≠ c → η' b = some u → blk u = some k → w'.heap[k]? = w.heap[k]?
 blkc : ∀ u k, η' c = some u → blk u = some k → k < w'.heap.size ∧ (w.heap.size ≤ k ∨ ∃ b ub, η b = some ub ∧ blk ub = some k ∧ ∀ b' u', b' ≠ c → η' b' = some u' → blk u' ≠ some k)
section
variable {w w' w0 : World} {ow : Own} {A : Nat → Prop} {η η' : Nat → Option Value} {c N : Nat} {tm : Nat → Option AV} {bx bx' : Nat → Option Box} {a : Act}
theorem Tr.fz (h : Tr η η' c w w') {k : Nat} (hk : Un η k) (hlt : k < w.heap.size) : Un η' k := by
 intro b u hb hu
 by_cases hc : b = c
 subst hc
 rcases (h.blkc u k hb hu).2 with hle | ⟨b', ub, h1, h2, _⟩
 omega
 exact hk b' ub h1 h2
 exact hk b u (h.old b u hc hb) hu
theorem Tr.R (h : Tr η η' c w w') {v : Value} {av : AV} (hr : R w (Fz A η) η v av) (hm : ment c av = true → ∀ u, η' c = some u → η c = some u) : R w' (Fz A η') η' v av :=
 hr.step h.size (fun k hk hlt => h.fzk k hlt hk.2) (fun k hk hlt => ⟨hk.1, h.fz hk.2 hlt⟩) (fun b u hb hu => by
  by_cases hc : b = c
  ·subst hc; exact hm hb u hu
  ·exact h.old b u hc hu)
theorem ownsRow_block {w w' : World} {e size n : Nat} {v : Value} {xs : List Value} (h : w.ownsRow 0 e size v n xs) (hk : ∀ k, blk v = some k → w'.heap[k]? = w.heap[k]?) : w'.ownsRow 0 e size v n xs := by
 obtain ⟨hl, h⟩ := h
 refine ⟨hl, ?_⟩
 rcases h with h | ⟨g, cap, cur, rfl, h1, h2, h3⟩
 exact .inl h
 exact .inr ⟨g, cap, cur, rfl, h1, by rw [hk g rfl]; exact h2, h3⟩
theorem Tr.box (h : Tr η η' c w w') {b : Nat} {u : Value} {B : Box} (hb : b ≠ c) (hu : η' b = some u) (hr : BoxR w (Fz A η) η u B) (hm : mentB c B = true → ∀ u, η' c = some u → η c = some u) : BoxR w' (Fz A η') η' u B := by
 cases B with
 | var l =>
  obtain ⟨g, C, e, rfl, h1, h2, h4⟩ := hr
  exact ⟨g, C, e, rfl, by rw [h.keep b _ g hb hu rfl]; exact h1, h2, fun j v a hv ha => h.R (h4 j v a hv ha) (fun hx => hm (mentL_of ha hx))⟩
 | sl e τ xs =>
  obtain ⟨cs, h1, h3⟩ := hr
  refine ⟨cs, ownsRow_block h1 (fun k hk => h.keep b _ k hb hu hk), fun i x j a hx ha => ?_⟩
  obtain ⟨v, hv, hr⟩ := h3 i x j a hx ha
  exact ⟨v, hv, h.R hr (fun hh => by rw [enc_ment' ha] at hh; cases hh)⟩
 | full e τ xs =>
  obtain ⟨⟨cs, h1, h3⟩, hc⟩ := hr
  refine ⟨⟨cs, ownsRow_block h1 (fun k hk => h.keep b _ k hb hu hk), fun i x j a hx ha => ?_⟩, hc⟩
  obtain ⟨v, hv, hr⟩ := h3 i x j a hx ha
  exact ⟨v, hv, h.R hr (fun hh => by rw [enc_ment' ha] at hh; cases hh)⟩
 | any => exact hr
theorem Sim.tr (s : Sim N w0 ow η tm bx a w) (h : Tr η η' c w w')
  (hstay : (∀ u, η' c = some u → η c = some u) ∨ (1000 ≤ c ∧ (∀ t av, tm t = some av → ment c av = false) ∧ ∀ b B, b ≠ c → bx' b = some B → mentB c B = false))
  (hbx : ∀ b B, b ≠ c → bx' b = some B → bx b = some B ∧ η' b = η b)
  (hc : ∀ B, bx' c = some B → ∃ u, η' c = some u ∧ BoxR w' (Fz (Amb w0 ow) η') η' u B) : Sim N w0 ow η' tm bx' a w' := by
 have hbound : ∀ b u k, η' b = some u → blk u = some k → k < w'.heap.size ∧ (w0.heap.size ≤ k ∨ ow.o k) := by
  intro b u k hu hk
  by_cases hb : b = c
  ·subst hb
   obtain ⟨h1, h2⟩ := h.blkc u k hu hk
   refine ⟨h1, ?_⟩
   rcases h2 with h2 | ⟨b', ub, h3, h4, _⟩
   ·exact .inl (Nat.le_trans s.frame.size h2)
   ·exact (s.new b' ub k h3 h4).2
  ·have := s.new b u k (h.old b u hb hu) hk
   exact ⟨Nat.lt_of_lt_of_le this.1 h.size, this.2⟩
 refine ⟨s.size, s.nod, ⟨h.os.trans s.frame.os, h.tape.trans s.frame.tape, h.output.trans s.frame.output, Nat.le_trans s.frame.size h.size, fun k hk ho => ?_⟩, fun t av ht => ?_, fun b B hB => ?_, hbound, fun b b' u u' k hu hu' hk hk' => ?_, fun b u u' hp hu => ?_, s.pinlt⟩
 ·have hlt : k < w.heap.size := Nat.lt_of_lt_of_le hk s.frame.size
  rw [← s.frame.block k hk ho]
  refine h.fzk k hlt (fun b u hu hb => ?_)
  rcases (s.new b u k hu hb).2 with hh | hh
  ·omega
  ·exact ho hh
 ·obtain ⟨v, hv, hr⟩ := s.tmp t av ht
  refine ⟨v, hv, h.R hr (fun hm => ?_)⟩
  rcases hstay with hh | hh
  ·exact hh
  ·rw [hh.2.1 t av ht] at hm; cases hm
 ·by_cases hb : b = c
  ·subst hb; exact hc B hB
  ·obtain ⟨h1, h2⟩ := hbx b B hb hB
   obtain ⟨u, hu, hr⟩ := s.dom b B h1
   rw [← h2] at hu
   refine ⟨u, hu, h.box hb hu hr (fun hm => ?_)⟩
   rcases hstay with hh | hh
   ·exact hh
   ·rw [hh.2.2 b B hb hB] at hm; cases hm
 ·by_cases hb : b = c
  ·by_cases hb' : b' = c
   ·rw [hb, hb']
   ·subst hb
    rcases (h.blkc u k hu hk).2 with h2 | ⟨b2, ub, h3, h4, h5⟩
    ·have := (s.new b' u' k (h.old b' u' hb' hu') hk').1; omega
    ·exact absurd hk' (h5 b' u' hb' hu')
  ·by_cases hb' : b' = c
   ·subst hb'
    rcases (h.blkc u' k hu' hk').2 with h2 | ⟨b2, ub, h3, h4, h5⟩
    ·have := (s.new b u k (h.old b u hb hu) hk).1; omega
    ·exact absurd hk (h5 b u hb hu)
   ·exact s.apart b b' u u' k (h.old b u hb hu) (h.old b' u' hb' hu') hk hk'
 ·by_cases hb : b = c
  ·subst hb
   rcases hstay with hh | hh
   ·exact s.pin b u u' hp (hh u' hu)
   ·have := s.pinlt b u hp; omega
  ·exact s.pin b u u' hp (h.old b u' hb hu)
def upd (tm : Nat → Option AV) (d : Option Nat) (v : Option AV) : Nat → Option AV := fun t => if d = some t then v else tm t
theorem Sim.put (s : Sim N w0 ow η tm bx a w) {d : Option Nat} {v : Value} {av : Option AV} (hd : ∀ t, d = some t → t < N) (hr : ∀ x, av = some x → R w (Fz (Amb w0 ow) η) η v x) : Sim N w0 ow η (upd tm d av) bx (a.put d v) w := by
 cases d with
 | none =>
  have e : upd tm none av = tm := by funext t; simp [upd]
  rw [e]; exact s
 | some d =>
  refine ⟨by simp [Act.put, s.size], s.nod, s.frame, fun t x ht => ?_, s.dom, s.new, s.apart, s.pin, s.pinlt⟩
  simp only [upd, Option.some.injEq] at ht
  by_cases h : d = t
  subst h
  rw [if_pos rfl] at ht
  refine ⟨v, ?_, hr x ht⟩
  simp only [Act.put]
  rw [Array.getElem?_setIfInBounds_self_of_lt (by rw [s.size]; exact hd d rfl)]
  rw [if_neg h] at ht
  obtain ⟨v', hv, hr'⟩ := s.tmp t x ht
  refine ⟨v', ?_, hr'⟩
  simp only [Act.put]
  rw [Array.getElem?_setIfInBounds_ne h]; exact hv
end
end Go.Proofs.YtfimffgfnhplkaaGreatDoor.F
namespace Go.Proofs.YtfimffgfnhplkaaGreatDoor.F
open Go Go.RowKit
def pureRun {α : Type} (P : Program) : Sem α → Option α
 | .pure a => some a
 | .program k => pureRun P (k P)
 | _ => none
theorem pureRun_run {α : Type} {P : Program} {m : Sem α} {a : α} (h : pureRun P m = some a) (w : World) : m.run P w = .ok a w := by
 induction m with
 | pure b => simp only [pureRun, Option.some.injEq] at h; subst h; rfl
 | program k ih => simp only [pureRun] at h; simp only [Sem.run]; exact ih P h
 | _ => simp [pureRun] at h
def ofVal : Value → AV
 | .agg cs => .agg (cs.toList.map .lit)
 | .tuple cs => .tup (cs.toList.map .lit)
 | v => .lit v
def lits : List AV → Option (List Value)
 | [] => some []
 | .lit v :: l => (lits l).map (v :: ·)
 | _ => none
def litOf : AV → Option Value
 | .lit v => some v
 | .agg l => (lits l).map fun l => .agg l.toArray
 | _ => none
section
variable {w : World} {fz : Nat → Prop} {η : Nat → Option Value}
theorem R_lits {vs : Array Value} : ∀ {l : List AV}, vs.toList.map AV.lit = l → ∀ (j : Nat) v a, vs[j]? = some v → l[j]? = some a → R w fz η v a := by
 intro l hl j v a hv ha
 subst hl
 rw [List.getElem?_map, Array.getElem?_toList, hv] at ha
 simp at ha
 subst ha
 exact .lit v
theorem R_ofVal (v : Value) : R w fz η v (ofVal v) := by
 cases v <;> first | exact .lit _ | exact .agg _ _ (by simp) (R_lits rfl) | exact .tup _ _ (by simp) (R_lits rfl)
theorem R_lit_inv {v u : Value} (h : R w fz η v (.lit u)) : v = u := by cases h; rfl
theorem lits_inv : ∀ {l : List AV} {vs : List Value}, lits l = some vs → l = vs.map AV.lit
 | [], vs, h => by simp [lits] at h; subst h; rfl
 | a :: l, vs, h => by
  cases a <;> simp [lits] at h
  obtain ⟨us, h1, rfl⟩ := h
  rw [lits_inv h1]; rfl
theorem R_litOf {v u : Value} {a : AV} (h : R w fz η v a) (ha : litOf a = some u) : v = u := by
 cases h with
 | lit v => simpa [litOf] using ha
 | agg vs l hl hh =>
  simp only [litOf, Option.map_eq_some_iff] at ha
  obtain ⟨us, h1, rfl⟩ := ha
  have e := lits_inv h1
  subst e
  congr 1
  apply Array.ext_getElem?
  intro j
  simp only [List.getElem?_toArray]
  by_cases hj : j < vs.size
  have h2 := hh j vs[j] (.lit (us[j]'(by simp at hl; omega))) (Array.getElem?_eq_getElem hj) (by simp at hl; simp [List.getElem?_map, List.getElem?_eq_getElem (show j < us.length by omega)])
  rw [Array.getElem?_eq_getElem hj, List.getElem?_eq_getElem (show j < us.length by simp at hl; omega), R_lit_inv h2]
  rw [Array.getElem?_eq_none (by omega), List.getElem?_eq_none (by simp at hl; omega)]
 | _ => simp [litOf] at ha
end
def evalA (tm : Nat → Option AV) : Operand → Option AV
 | .tmp t => tm t
 | .const v => some (ofVal v)
 | .global g => some (.lit (.pointer (some ⟨g, 0, none⟩)))
 | .func f => some (.lit (.func (.func f) #[] #[]))
theorem Sim.ev {N : Nat} {w0 w : World} {ow : Own} {η : Nat → Option Value} {tm : Nat → Option AV} {bx : Nat → Option Box} {a : Act} (s : Sim N w0 ow η tm bx a w) {x : Operand} {av : AV} (h : evalA tm x = some av) : R w (Fz (Amb w0 ow) η) η (a.eval x) av := by
 cases x with
 | tmp t =>
  obtain ⟨v, hv, hr⟩ := s.tmp t av h
  simp only [Act.eval, Array.getD_eq_getD_getElem?, hv, Option.getD_some]
  exact hr
 | const v => simp only [evalA, Option.some.injEq] at h; subst h; exact R_ofVal v
 | global g => simp only [evalA, Option.some.injEq] at h; subst h; exact .lit _
 | func f => simp only [evalA, Option.some.injEq] at h; subst h; exact .lit _
def pureOp (P : Program) (o : Oper) (ρ : Operand → Option AV) : Option AV :=
 if o.op.operands.all (fun x => ((ρ x).bind litOf).isSome) then
  match o.op with
  | .select _ _ => none
  | _ => match pureRun P (execOp (fun x => ((ρ x).bind litOf).getD undef) o) with
   | some (.value v) => some (ofVal v)
   | _ => none
 else none
theorem pureOp_run {P : Program} {o : Oper} {ρ : Operand → Option AV} {av : AV} {ev : Operand → Value} {w : World} {fz : Nat → Prop} {η : Nat → Option Value} (h : pureOp P o ρ = some av) (hρ : ∀ x y, ρ x = some y → R w fz η (ev x) y) :
  ∃ v, (execOp ev o).run P w = .ok (.value v) w ∧ R w fz η v av := by
 unfold pureOp at h
 split at h
 ·rename_i hall
  have hcon : ∀ x ∈ o.op.operands, ev x = ((ρ x).bind litOf).getD undef := by
   intro x hx
   have h1 := Array.all_eq_true'.1 hall x hx
   cases hr : ρ x with
   | none => rw [hr] at h1; simp at h1
   | some y =>
    rw [hr] at h1
    cases hl : litOf y with
    | none => simp [hl] at h1
    | some u => simp [hl]; exact R_litOf (hρ x y hr) hl
  split at h
  ·cases h
  ·rename_i hsel
   split at h
   ·rename_i v hv
    simp only [Option.some.injEq] at h
    subst h
    refine ⟨v, ?_, R_ofVal v⟩
    rw [execOp_congr o (fun cs b e => hsel cs b e) hcon]
    exact pureRun_run hv w
   ·cases h
 ·cases h
theorem add_add (a : Addr) (m n : Nat) : (a.add m).add n = a.add (m + n) := by
 unfold Addr.add
 by_cases hm : m = 0
 subst hm; simp
 by_cases hn : n = 0
 subst hn; simp [hm]
 simp [hm, hn, Nat.add_assoc]
theorem lit_add (g n : Nat) : (⟨g, 0, none⟩ : Addr).add n = ⟨g, n, none⟩ := by
 unfold Addr.add
 split
 rename_i h; subst h; rfl
 simp
def typ (P : Program) (t : TypeId) : Option (TypeDesc × Nat) :=
 match P.underlying t, P.info? t with
 | some d, some i => some (d, i.size)
 | _, _ => none
theorem typ_und {P : Program} {t : TypeId} {d : TypeDesc} {n : Nat} (h : typ P t = some (d, n)) : P.underlying t = some d ∧ ∃ i, P.info? t = some i ∧ i.size = n := by
 unfold typ at h
 split at h
 rename_i d' i h1 h2
 simp only [Option.some.injEq, Prod.mk.injEq] at h
 obtain ⟨rfl, rfl⟩ := h
 exact ⟨h1, i, h2, rfl⟩
 cases h
def aggB : TypeDesc → Bool
 | .struct _ => true
 | .array _ _ => true
 | _ => false
def cut (P : Program) (t : TypeId) (l : List AV) (off : Nat) : Option AV :=
 match typ P t with
 | some (d, n) => if aggB d then (if off + n ≤ l.length then some (.agg ((l.drop off).take n)) else none) else l[off]?
 | none => none
section
variable {P : Program} {w : World} {fz : Nat → Prop} {η : Nat → Option Value}
theorem isAgg_run {t : TypeId} {d : TypeDesc} (h : P.underlying t = some d) : (isAgg t).run P w = .ok (aggB d) w := by
 simp [isAgg, run_underlying h]
 cases d <;> rfl
theorem sizeOf_run {t : TypeId} {i : TypeInfo} (h : P.info? t = some i) : (sizeOf t).run P w = .ok i.size w := by
 simp [sizeOf, typeInfo, h]
theorem part_cut {t : TypeId} {cs : Array Value} {l : List AV} {off : Nat} {av : AV} (hl : cs.size = l.length) (hR : ∀ (j : Nat) v a, cs[j]? = some v → l[j]? = some a → R w fz η v a) (h : cut P t l off = some av) :
  ∃ v, (part t cs off).run P w = .ok v w ∧ R w fz η v av := by
 unfold cut at h
 split at h
 ·rename_i d n ht
  obtain ⟨h1, i, h2, rfl⟩ := typ_und ht
  unfold part
  by_cases ha : aggB d = true
  ·rw [if_pos ha] at h
   split at h
   ·rename_i hle
    simp only [Option.some.injEq] at h
    subst h
    refine ⟨.agg (cs.extract off (off + i.size)), by simp [isAgg_run h1, ha, sizeOf_run h2], .agg _ _ ?_ ?_⟩
    ·simp; omega
    ·intro j v a hv hla
     have hj : j < i.size := by
      have := (List.getElem?_eq_some_iff.1 hla).1
      simp at this; omega
     rw [Array.getElem?_extract] at hv
     rw [List.getElem?_take, if_pos hj, List.getElem?_drop] at hla
     split at hv
     ·exact hR _ _ _ hv hla
     ·cases hv
   ·cases h
  ·rw [if_neg ha] at h
   have hoff := (List.getElem?_eq_some_iff.1 h).1
   have hc : cs[off]? = some (cs[off]'(by omega)) := Array.getElem?_eq_getElem (by omega)
   refine ⟨cs[off]'(by omega), ?_, hR off _ _ hc h⟩
   simp [isAgg_run h1, ha, hc]
 ·cases h
theorem loadVar_cut {t : TypeId} {ad : Addr} {l : List AV} {off : Nat} {av : AV} (hR : ∀ (j : Nat) a, l[j]? = some a → ∃ u, w.cell? (ad.add j) = some u ∧ R w fz η u a) (h : cut P t l off = some av) :
  ∃ v, (loadVar t (ad.add off)).run P w = .ok v w ∧ R w fz η v av := by
 unfold cut at h
 split at h
 ·rename_i d n ht
  obtain ⟨h1, i, h2, rfl⟩ := typ_und ht
  unfold loadVar
  by_cases ha : aggB d = true
  ·rw [if_pos ha] at h
   split at h
   ·rename_i hle
    simp only [Option.some.injEq] at h
    subst h
    have hcell : ∀ j, j < i.size → w.cell? ((ad.add off).add j) = some ((w.cell? (ad.add (off + j))).getD undef) := by
     intro j hj
     obtain ⟨u, hu, _⟩ := hR (off + j) l[off + j] (List.getElem?_eq_getElem (by omega))
     rw [add_add, hu]; rfl
    refine ⟨.agg ((List.range i.size).map fun j => (w.cell? (ad.add (off + j))).getD undef).toArray, ?_, .agg _ _ ?_ ?_⟩
    ·simp [isAgg_run h1, ha, sizeOf_run h2, run_loadCells w (ad.add off) i.size _ hcell]
    ·simp; omega
    ·intro j v a hv hla
     have hj : j < i.size := by
      have := (List.getElem?_eq_some_iff.1 hla).1
      simp at this; omega
     rw [List.getElem?_take, if_pos hj, List.getElem?_drop] at hla
     obtain ⟨u, hu, hr⟩ := hR _ _ hla
     simp [hj] at hv
     rw [hu] at hv
     simp at hv
     subst hv
     exact hr
   ·cases h
  ·rw [if_neg ha] at h
   obtain ⟨u, hu, hr⟩ := hR off _ h
   refine ⟨u, ?_, hr⟩
   simp [isAgg_run h1, ha, hu]
 ·cases h
end
def byteAt (s : ByteArray) (n : Int) : Int := ((s.data[n.toNat]?).getD 0).toNat
def optInt (ρ : Operand → Option AV) : Option Operand → Option (Option Int)
 | none => some none
 | some x => match ρ x with
  | some (.lit (.int _ n)) => some (some n)
  | _ => none
abbrev Bx := Nat → Option Box
abbrev Rd := Option (Prop × AV)
def Yields (P : Program) (w : World) (fz : Nat → Prop) (η : Nat → Option Value) (ev : Operand → Value) (o : Oper) (E : Prop × AV) : Prop :=
 E.1 → ∃ v, (execOp ev o).run P w = .ok (.value v) w ∧ R w fz η v E.2
structure Ctx (w : World) (fz : Nat → Prop) (η : Nat → Option Value) (ev : Operand → Value) (ρ : Operand → Option AV) (bx : Bx) : Prop where
 ev : ∀ x y, ρ x = some y → R w fz η (ev x) y
 box : ∀ b B, bx b = some B → ∃ u, η b = some u ∧ BoxR w fz η u B
section
variable {P : Program} {w : World} {fz : Nat → Prop} {η : Nat → Option Value} {ev : Operand → Value} {ρ : Operand → Option AV} {bx : Bx} {o : Oper} {E : Prop × AV}
def strsL : List AV → Option (List ByteArray)
 | [] => some []
 | .lit (.string s) :: l => (strsL l).map (s :: ·)
 | _ :: _ => none
theorem strsL_at : ∀ {l : List AV} {ss : List ByteArray} {off : Nat}, strsL l = some ss → off < ss.length → l[off]? = some (.lit (.string (ss.getD off ⟨#[]⟩)))
 | [], ss, off, h, ho => by simp only [strsL, Option.some.injEq] at h; subst h; simp at ho
 | a :: l, ss, off, h, ho => by
  unfold strsL at h
  split at h
  rename_i he; cases he
  rename_i s l' he
  injection he with h1 h2
  subst h1 h2
  simp only [Option.map_eq_some_iff] at h
  obtain ⟨ss', hs, rfl⟩ := h
  cases off with
  | zero => rfl
  | succ off => simp only [List.getElem?_cons_succ, List.getD_cons_succ]; exact strsL_at hs (by simpa using ho)
  cases h
def intsL : List AV → Option (List Int)
 | [] => some []
 | .lit (.int .i64 n) :: l => (intsL l).map (n :: ·)
 | _ :: _ => none
theorem intsL_at : ∀ {l : List AV} {ns : List Int} {off : Nat}, intsL l = some ns → off < ns.length → l[off]? = some (.lit (.int .i64 (ns.getD off 0)))
 | [], ns, off, h, ho => by simp only [intsL, Option.some.injEq] at h; subst h; simp at ho
 | a :: l, ns, off, h, ho => by
  unfold intsL at h
  split at h
  rename_i he; cases he
  rename_i n l' he
  injection he with h1 h2
  subst h1 h2
  simp only [Option.map_eq_some_iff] at h
  obtain ⟨ns', hs, rfl⟩ := h
  cases off with
  | zero => rfl
  | succ off => simp only [List.getElem?_cons_succ, List.getD_cons_succ]; exact intsL_at hs (by simpa using ho)
  cases h
def ldVar (P : Program) (t : TypeId) (l : List AV) (off : Nat) : Rd :=
 match strsL l, intsL l, typ P t with
 | some (s :: s' :: ss), _, some (.string, _) => some (off < (s :: s' :: ss).length, .lit (.string ((s :: s' :: ss).getD off ⟨#[]⟩)))
 | _, some (n :: n' :: ns), some (.int .i64, _) => some (off < (n :: n' :: ns).length, .lit (.int .i64 ((n :: n' :: ns).getD off 0)))
 | _, _, _ => (cut P t l off).map fun a => (True, a)
theorem ldVar_ok {P : Program} {t : TypeId} {l : List AV} {off : Nat} {E : Prop × AV} (h : ldVar P t l off = some E) (hE : E.1) : cut P t l off = some E.2 := by
 unfold ldVar at h
 split at h
 rename_i hs ht
 simp only [Option.some.injEq] at h
 subst h
 unfold cut
 rw [ht]
 simp only [aggB]
 exact strsL_at hs hE
 rename_i _ hs ht
 simp only [Option.some.injEq] at h
 subst h
 unfold cut
 rw [ht]
 simp only [aggB]
 exact intsL_at hs hE
 simp only [Option.map_eq_some_iff] at h
 obtain ⟨a, ha, rfl⟩ := h
 exact ha
def rdLoad (P : Program) (ρ : Operand → Option AV) (bx : Bx) (t : TypeId) (x : Operand) : Rd :=
 match ρ x with
 | some (.ptr b off) => match bx b with
  | some (.var l) => ldVar P t l off
  | _ => none
 | some (.ep τ x off) => (cut P t (enc τ x) off).map fun a => (True, a)
 | some (.op τ' b i off) => match bx b with
  | some (.sl _ τ xs) => if sz τ' = sz τ then (cut P t (enc τ (xs.getD i (dflt τ))) off).map fun a => (i < xs.length, a) else none
  | _ => none
 | _ => none
theorem own_cell {e : TypeId} {τ : Ty} {xs : List (El τ)} {g n c : Nat} {i : Nat} (hi : i < xs.length) (h : BoxR w fz η (.slice (some ⟨g, 0, none⟩) n c) (.sl e τ xs)) (j : Nat) (a : AV) (ha : (enc τ (xs.getD i (dflt τ)))[j]? = some a) :
  ∃ u, w.cell? ((⟨g, i * sz τ, none⟩ : Addr).add j) = some u ∧ R w fz η u a := by
 obtain ⟨cs, h1, h2⟩ := h
 have hx : xs[i]? = some (xs.getD i (dflt τ)) := by simp [List.getD, hi]
 obtain ⟨v, hv, hr⟩ := h2 i _ j a hx ha
 refine ⟨v, ?_, hr⟩
 have hc := h1.cells rfl (i * sz τ + j) v hv
 rw [lit_add] at hc
 rw [← lit_add, add_add, lit_add]
 exact hc
theorem rdLoad_ok (c : Ctx w fz η ev ρ bx) {t : TypeId} {x : Operand} (ho : o.op = .load t x) (h : rdLoad P ρ bx t x = some E) : Yields P w fz η ev o E := by
 unfold rdLoad at h
 have key : ∀ (ad : Addr) (l : List AV) (off : Nat) (av : AV), ev x = .pointer (some (ad.add off)) → (∀ (j : Nat) a, l[j]? = some a → ∃ u, w.cell? (ad.add j) = some u ∧ R w fz η u a) → cut P t l off = some av → ∃ v, (execOp ev o).run P w = .ok (.value v) w ∧ R w fz η v av := by
  intro ad l off av hx hl hc
  obtain ⟨v, hv, hr⟩ := loadVar_cut (P := P) hl hc
  exact ⟨v, by simp [execOp, ho, Instr.loadAt, Instr.sureAddr, hx, hv], hr⟩
 split at h
 rename_i b off hx
 split at h
 rename_i l hb
 intro hE
 have ha := ldVar_ok h hE
 generalize E.2 = a at ha
 obtain ⟨u, hu, g, C, e, rfl, h1, h2, h3⟩ := c.box b _ hb
 obtain ⟨g', hg, hv⟩ := (c.ev x _ hx).ptr_inv hu
 injection hg with hg; injection hg with hg; injection hg with hg
 subst hg
 refine key ⟨g, 0, none⟩ l off a (by rw [hv, lit_add]) (fun j a hj => ?_) ha
 have hlt : j < C.size := by have := (List.getElem?_eq_some_iff.1 hj).1; omega
 refine ⟨C[j], ?_, h3 j _ _ (Array.getElem?_eq_getElem hlt) hj⟩
 rw [lit_add]
 simp [World.cell?, h1, hlt]
 cases h
 rename_i τ y off hx
 simp only [Option.map_eq_some_iff] at h
 obtain ⟨a, ha, rfl⟩ := h
 intro _
 obtain ⟨ad, hv, _, _, hc⟩ := (c.ev x _ hx).ep_inv
 exact key ad _ off a hv hc ha
 rename_i τ' b i off hx
 split at h
 rename_i e τ xs hb
 split at h
 rename_i hs
 simp only [Option.map_eq_some_iff] at h
 obtain ⟨a, ha, rfl⟩ := h
 intro hi
 obtain ⟨u, hu, hbox⟩ := c.box b _ hb
 obtain ⟨g, n, cc, rfl, hv⟩ := (c.ev x _ hx).op_inv hu
 refine key ⟨g, i * sz τ, none⟩ _ off a ?_ (own_cell hi hbox) ha
 rw [hv, ← lit_add g (i * sz τ), add_add, lit_add, hs]
 cases h
 cases h
 cases h
def rdField (P : Program) (ρ : Operand → Option AV) (t : TypeId) (x : Operand) (f : Nat) : Rd :=
 match ρ x, P.underlying t with
 | some (.agg l), some (.struct fs) => match fs[f]? with
  | some fd => (cut P fd.type l fd.offset).map fun a => (True, a)
  | none => none
 | _, _ => none
theorem rdField_ok (c : Ctx w fz η ev ρ bx) {t : TypeId} {x : Operand} {f : Nat} (ho : o.op = .field t x f) (h : rdField P ρ t x f = some E) : Yields P w fz η ev o E := by
 unfold rdField at h
 split at h
 rename_i l fs hx ht
 split at h
 rename_i fd hf
 simp only [Option.map_eq_some_iff] at h
 obtain ⟨a, ha, rfl⟩ := h
 intro _
 obtain ⟨vs, hv, hl, hR⟩ := (c.ev x _ hx).agg_inv
 obtain ⟨v, hr, hR2⟩ := part_cut (P := P) hl hR ha
 exact ⟨v, by simp [execOp, ho, Instr.field, run_underlying ht, hf, hv, asAgg, hr], hR2⟩
 cases h
 cases h
def aggA : AV → AV
 | .lit (.agg ⟨[]⟩) => .agg []
 | a => a
theorem aggA_R {w : World} {fz : Nat → Prop} {η : Nat → Option Value} {v : Value} {a : AV} (h : R w fz η v a) : R w fz η v (aggA a) := by
 unfold aggA
 split
 rw [h.lit_inv]; exact .agg _ _ rfl (fun j v a hv => by simp at hv)
 exact h
def rdExtract (ρ : Operand → Option AV) (x : Operand) (i : Nat) : Rd :=
 match ρ x with
 | some (.tup l) => (l[i]?).map fun a => (True, aggA a)
 | _ => none
theorem rdExtract_ok (c : Ctx w fz η ev ρ bx) {x : Operand} {i : Nat} (ho : o.op = .extract x i) (h : rdExtract ρ x i = some E) : Yields P w fz η ev o E := by
 unfold rdExtract at h
 split at h
 rename_i l hx
 simp only [Option.map_eq_some_iff] at h
 obtain ⟨a, ha, rfl⟩ := h
 intro _
 obtain ⟨vs, hv, hl, hR⟩ := (c.ev x _ hx).tup_inv
 have hi := (List.getElem?_eq_some_iff.1 ha).1
 have hc : vs[i]? = some (vs[i]'(by omega)) := Array.getElem?_eq_getElem (by omega)
 exact ⟨vs[i]'(by omega), by simp [execOp, ho, Instr.extract, hv, hc], aggA_R (hR i _ _ hc ha)⟩
 cases h
def live (bx : Bx) (b : Nat) : Bool := (bx b).isSome
def rdFieldAddr (P : Program) (ρ : Operand → Option AV) (bx : Bx) (t : TypeId) (x : Operand) (f : Nat) : Rd :=
 match ρ x, P.underlying t with
 | some a, some (.struct fs) => match fs[f]? with
  | some fd => match P.info? fd.type with
   | some i => if i.size = 0 then none else match a with
    | .ptr b off => if live bx b then some (True, .ptr b (off + fd.offset)) else none
    | .ep τ y off => some (True, .ep τ y (off + fd.offset))
    | .op τ b j off => if live bx b then some (True, .op τ b j (off + fd.offset)) else none
    | _ => none
   | none => none
  | none => none
 | _, _ => none
theorem ptr_add (g a b : Nat) : (⟨g, a, none⟩ : Addr).add b = ⟨g, a + b, none⟩ := by rw [← lit_add g a, add_add, lit_add]
theorem rdFieldAddr_ok (c : Ctx w fz η ev ρ bx) {t : TypeId} {x : Operand} {f : Nat} (ho : o.op = .fieldAddr t x f) (h : rdFieldAddr P ρ bx t x f = some E) : Yields P w fz η ev o E := by
 unfold rdFieldAddr at h
 split at h
 rename_i a0 fs hx ht
 split at h
 rename_i fd hf
 split at h
 rename_i i hi
 by_cases hz : i.size = 0
 rw [if_pos hz] at h; cases h
 rw [if_neg hz] at h
 have hr := c.ev x _ hx
 have key : ∀ ad, ev x = .pointer (some ad) → (execOp ev o).run P w = .ok (.value (.pointer (some (ad.add fd.offset)))) w := by
  intro ad hv
  simp [execOp, ho, Instr.fieldAt, run_underlying ht, hf, hv, Instr.sureAddr, fieldPlace, sizeOf_run hi, hz]
 split at h
 rename_i b off
 split at h
 rename_i hb
 simp only [Option.some.injEq] at h
 subst h
 intro _
 obtain ⟨B, hB⟩ := Option.isSome_iff_exists.1 hb
 obtain ⟨u, hu, _⟩ := c.box b B hB
 obtain ⟨g, rfl, hv⟩ := hr.ptr_inv hu
 refine ⟨_, key _ hv, .ptr _ _ _ (fun u2 hu2 => ?_)⟩
 rw [hu] at hu2
 injection hu2 with hu2
 exact ⟨g, hu2.symm, by rw [ptr_add]⟩
 cases h
 rename_i τ y off
 simp only [Option.some.injEq] at h
 subst h
 intro _
 obtain ⟨ad, hv, h1, h2, h3⟩ := hr.ep_inv
 refine ⟨_, key _ hv, ?_⟩
 rw [add_add]
 exact .ep_mk h1 h2 h3
 rename_i τ b j off
 split at h
 rename_i hb
 simp only [Option.some.injEq] at h
 subst h
 intro _
 obtain ⟨B, hB⟩ := Option.isSome_iff_exists.1 hb
 obtain ⟨u, hu, _⟩ := c.box b B hB
 obtain ⟨g, n, cc, rfl, hv⟩ := hr.op_inv hu
 refine ⟨_, key _ hv, .op _ _ _ _ _ (fun u2 hu2 => ?_)⟩
 rw [hu] at hu2
 injection hu2 with hu2
 exact ⟨g, n, cc, hu2.symm, by rw [ptr_add, Nat.add_assoc]⟩
 cases h
 cases h
 cases h
 cases h
 cases h
def rdNilCheck (ρ : Operand → Option AV) (bx : Bx) (x : Operand) : Rd :=
 match ρ x with
 | some (.ptr b off) => if live bx b then some (True, .ptr b off) else none
 | some (.ep τ y off) => some (True, .ep τ y off)
 | some (.op τ b j off) => if live bx b then some (True, .op τ b j off) else none
 | _ => none
theorem rdNilCheck_ok (c : Ctx w fz η ev ρ bx) {x : Operand} (ho : o.op = .nilCheck x) (h : rdNilCheck ρ bx x = some E) : Yields P w fz η ev o E := by
 unfold rdNilCheck at h
 have key : ∀ ad, ev x = .pointer (some ad) → (execOp ev o).run P w = .ok (.value (ev x)) w := by
  intro ad hv
  simp [execOp, ho, hv]
 split at h
 rename_i b off hx
 split at h
 rename_i hb
 simp only [Option.some.injEq] at h
 subst h
 intro _
 obtain ⟨B, hB⟩ := Option.isSome_iff_exists.1 hb
 obtain ⟨u, hu, _⟩ := c.box b B hB
 obtain ⟨g, rfl, hv⟩ := (c.ev x _ hx).ptr_inv hu
 exact ⟨_, key _ hv, c.ev x _ hx⟩
 cases h
 rename_i τ y off hx
 simp only [Option.some.injEq] at h
 subst h
 intro _
 obtain ⟨ad, hv, _⟩ := (c.ev x _ hx).ep_inv
 exact ⟨_, key _ hv, c.ev x _ hx⟩
 rename_i τ b j off hx
 split at h
 rename_i hb
 simp only [Option.some.injEq] at h
 subst h
 intro _
 obtain ⟨B, hB⟩ := Option.isSome_iff_exists.1 hb
 obtain ⟨u, hu, _⟩ := c.box b B hB
 obtain ⟨g, n, cc, rfl, hv⟩ := (c.ev x _ hx).op_inv hu
 exact ⟨_, key _ hv, c.ev x _ hx⟩
 cases h
 cases h
def rdIndexAddr (P : Program) (ρ : Operand → Option AV) (bx : Bx) (t : TypeId) (x i : Operand) : Rd :=
 match typ P t, ρ x, ρ i with
 | some (.slice e, _), some (.row τ xs), some (.lit (.int _ n)) => match typ P e with
  | some (_, s) => if s = sz τ then some (0 ≤ n ∧ n < xs.length, .ep τ (xs.getD n.toNat (dflt τ)) 0) else none
  | none => none
 | some (.slice e, _), some (.own b), some (.lit (.int _ n)) => match typ P e, bx b with
  | some (_, s), some (.sl _ τ xs) => if s = sz τ then some (0 ≤ n ∧ n < xs.length, .op τ b n.toNat 0) else none
  | _, _ => none
 | some (.array len e, _), some (.ptr b off), some (.lit (.int _ n)) => match typ P e with
  | some (_, s) => if live bx b then some (0 ≤ n ∧ n < len, .ptr b (off + n.toNat * s)) else none
  | none => none
 | _, _, _ => none
theorem rdIndexAddr_ok (c : Ctx w fz η ev ρ bx) {t : TypeId} {x i : Operand} (ho : o.op = .indexAddr t x i) (h : rdIndexAddr P ρ bx t x i = some E) : Yields P w fz η ev o E := by
 unfold rdIndexAddr at h
 split at h
 rename_i e _ τ xs k n ht hx hi
 split at h
 rename_i d s hs
 obtain ⟨h1, inf, h2, rfl⟩ := typ_und hs
 obtain ⟨ht, _⟩ := typ_und ht
 split at h
 rename_i hsz
 simp only [Option.some.injEq] at h
 subst h
 rintro ⟨hn0, hn1⟩
 obtain ⟨A, cc, hv, hc, hm, hel⟩ := (c.ev x _ hx).row_inv
 have hlt : n.toNat < xs.length := by omega
 have hx1 : xs[n.toNat]? = some (xs.getD n.toNat (dflt τ)) := by simp [List.getD, hlt]
 obtain ⟨ad, rfl, hf, hb, hcell⟩ := hel _ _ hx1
 have hiv := (c.ev i _ hi).lit_inv
 refine ⟨.pointer (some (ad.add (n.toNat * sz τ))), ?_, ?_⟩
 simp [execOp, ho, Instr.indexAt, hiv, asIntOf, run_underlying ht, hv, hn0, hn1, sizeOf_run h2, hsz]
 have e0 : (ad.add (n.toNat * sz τ)) = (ad.add (n.toNat * sz τ)).add 0 := by rw [add_add, Nat.add_zero]
 rw [e0]
 refine .ep_mk (by rw [add_block]; exact hf) (by rw [add_block]; exact hb) (fun j a ha => ?_)
 rw [add_add]
 exact hcell j a ha
 cases h
 cases h
 rename_i e _ b k n ht hx hi
 split at h
 rename_i d s e2 τ xs hs hb
 obtain ⟨h1, inf, h2, rfl⟩ := typ_und hs
 obtain ⟨ht, _⟩ := typ_und ht
 split at h
 rename_i hsz
 simp only [Option.some.injEq] at h
 subst h
 rintro ⟨hn0, hn1⟩
 obtain ⟨u, hu, cs, ho2, _⟩ := c.box b _ hb
 have hv := (c.ev x _ hx).own_inv hu
 have hiv := (c.ev i _ hi).lit_inv
 rcases ho2.2 with ⟨_, h0⟩ | ⟨g, cap, cur, rfl, _⟩
 omega
 refine ⟨.pointer (some ⟨g, n.toNat * sz τ, none⟩), ?_, .op _ _ _ _ _ (fun u2 hu2 => ?_)⟩
 simp [execOp, ho, Instr.indexAt, hiv, asIntOf, run_underlying ht, hv, hn0, hn1, sizeOf_run h2, hsz, lit_add]
 rw [hu] at hu2
 injection hu2 with hu2
 exact ⟨g, _, cap, hu2.symm, by rw [Nat.add_zero]⟩
 cases h
 cases h
 rename_i len e _ b off k n ht hx hi
 split at h
 rename_i d s hs
 obtain ⟨h1, inf, h2, rfl⟩ := typ_und hs
 obtain ⟨ht, _⟩ := typ_und ht
 split at h
 rename_i hb
 simp only [Option.some.injEq] at h
 subst h
 rintro ⟨hn0, hn1⟩
 obtain ⟨B, hB⟩ := Option.isSome_iff_exists.1 hb
 obtain ⟨u, hu, _⟩ := c.box b B hB
 obtain ⟨g, rfl, hv⟩ := (c.ev x _ hx).ptr_inv hu
 have hiv := (c.ev i _ hi).lit_inv
 refine ⟨.pointer (some ⟨g, off + n.toNat * inf.size, none⟩), ?_, .ptr _ _ _ (fun u2 hu2 => ?_)⟩
 simp [execOp, ho, Instr.indexAt, hiv, asIntOf, run_underlying ht, hv, hn0, hn1, sizeOf_run h2, Instr.sureAddr, ptr_add]
 rw [hu] at hu2
 injection hu2 with hu2
 exact ⟨g, hu2.symm, rfl⟩
 cases h
 cases h
 cases h
end
section
variable {P : Program} {w : World} {fz : Nat → Prop} {η : Nat → Option Value} {ev : Operand → Value} {ρ : Operand → Option AV} {bx : Bx} {o : Oper} {E : Prop × AV}
def rdIndex (P : Program) (ρ : Operand → Option AV) (t : TypeId) (x i : Operand) : Rd :=
 match typ P t, ρ x, ρ i with
 | some (.string, _), some (.lit (.string s)), some (.lit (.int _ n)) => some (0 ≤ n ∧ n < s.size, .lit (.int .u8 (byteAt s n)))
 | some (.array len e, _), some (.agg l), some (.lit (.int _ n)) => match typ P e with
  | some (_, s) => (ldVar P e l (n.toNat * s)).map fun p => ((0 ≤ n ∧ n < len) ∧ p.1, p.2)
  | none => none
 | _, _, _ => none
theorem rdIndex_ok (c : Ctx w fz η ev ρ bx) {t : TypeId} {x i : Operand} (ho : o.op = .index t x i) (h : rdIndex P ρ t x i = some E) : Yields P w fz η ev o E := by
 unfold rdIndex at h
 split at h
 rename_i s k n ht hx hi
 obtain ⟨ht, _⟩ := typ_und ht
 simp only [Option.some.injEq] at h
 subst h
 rintro ⟨h0, h1⟩
 have hv := (c.ev x _ hx).lit_inv
 have hiv := (c.ev i _ hi).lit_inv
 have hlt : n.toNat < s.size := by omega
 refine ⟨.int .u8 (byteAt s n), ?_, .lit _⟩
 have hb : s[n.toNat]? = some (s[n.toNat]'hlt) := by simp [hlt]
 have hd : byteAt s n = ((s[n.toNat]'hlt).toNat : Int) := by
  unfold byteAt
  have : s.data[n.toNat]? = some (s[n.toNat]'hlt) := by
   rw [Array.getElem?_eq_getElem (show n.toNat < s.data.size from hlt)]
   rfl
  rw [this]; rfl
 simp [execOp, ho, Instr.index, hiv, asIntOf, run_underlying ht, hv, h0, hb, hd]
 rename_i len e _ l k n ht hx hi
 split at h
 rename_i d s hs
 obtain ⟨ht, _⟩ := typ_und ht
 obtain ⟨h1, inf, h2, rfl⟩ := typ_und hs
 simp only [Option.map_eq_some_iff] at h
 obtain ⟨p, hp, rfl⟩ := h
 rintro ⟨⟨h0, h3⟩, h4⟩
 have ha := ldVar_ok hp h4
 obtain ⟨vs, hv, hl, hR⟩ := (c.ev x _ hx).agg_inv
 obtain ⟨v, hr, hR2⟩ := part_cut (P := P) hl hR ha
 have hiv := (c.ev i _ hi).lit_inv
 exact ⟨v, by simp [execOp, ho, Instr.index, hiv, asIntOf, run_underlying ht, hv, h0, h3, sizeOf_run h2, hr], hR2⟩
 cases h
 cases h
theorem optInt_ok (c : Ctx w fz η ev ρ bx) {x : Option Operand} {r : Option Int} (h : optInt ρ x = some r) : (x = none ∧ r = none) ∨ ∃ y k n, x = some y ∧ r = some n ∧ ev y = .int k n := by
 cases x with
 | none => simp only [optInt, Option.some.injEq] at h; exact .inl ⟨rfl, h.symm⟩
 | some y =>
  simp only [optInt] at h
  split at h
  rename_i k n hy
  simp only [Option.some.injEq] at h
  exact .inr ⟨y, k, n, rfl, h.symm, (c.ev y _ hy).lit_inv⟩
  cases h
def takeO {α : Type} (h : Option Int) (xs : List α) : List α := match h with
 | none => xs
 | some n => xs.take n.toNat
theorem takeO_eq {α : Type} (h : Option Int) (xs : List α) : takeO h xs = xs.take (h.getD xs.length).toNat := by cases h <;> simp [takeO]
def rdSlice (P : Program) (ρ : Operand → Option AV) (t : TypeId) (x : Operand) (lo hi mx : Option Operand) : Rd :=
  match typ P t, ρ x, optInt ρ lo, optInt ρ hi, optInt ρ mx with
  | some (.string, _), some (.lit (.string s)), some l, some h, some none =>
    some (0 ≤ l.getD 0 ∧ l.getD 0 ≤ h.getD s.size ∧ h.getD s.size ≤ s.size, .lit (.string (s.extract (l.getD 0).toNat (h.getD s.size).toNat)))
  | some (.slice e, _), some (.row τ xs), some l, some h, some m => match typ P e with
    | some (_, s) => if s = sz τ ∧ (m = none ∨ h ≠ none) then
        some (0 ≤ l.getD 0 ∧ l.getD 0 ≤ h.getD xs.length ∧ h.getD xs.length ≤ m.getD xs.length ∧ m.getD xs.length ≤ xs.length, .row τ ((takeO h xs).drop (l.getD 0).toNat)) else none
    | none => none
  | _, _, _, _, _ => none
theorem sliceBound_run {k : IntKind} {n : Int} {y : Nat} {cd : BoundsCode} (h0 : 0 ≤ n) (h1 : n ≤ y) : (Instr.sliceBound (.int k n) y cd).run P w = .ok n.toNat w := by
 simp [Instr.sliceBound, asIntOf, h0, h1]
theorem sliceBounds_run {b : Bool} {len cap : Nat} {lo hi mx : Option Value} {l h m : Int} (hlo : (lo = none ∧ l = 0) ∨ ∃ k, lo = some (.int k l)) (hhi : (hi = none ∧ mx = none ∧ h = len) ∨ ∃ k, hi = some (.int k h))
  (hmx : (mx = none ∧ m = cap) ∨ ∃ k, mx = some (.int k m)) (h0 : 0 ≤ l) (h1 : l ≤ h) (h2 : h ≤ m) (h3 : m ≤ cap) : (Instr.sliceBounds b len cap lo hi mx).run P w = .ok (l.toNat, h.toNat, m.toNat) w := by
 have e : ((m.toNat : Nat) : Int) = m := by omega
 have e2 : ((h.toNat : Nat) : Int) = h := by omega
 rcases hmx with ⟨rfl, rfl⟩ | ⟨km, rfl⟩
 ·rcases hhi with ⟨rfl, _, rfl⟩ | ⟨kh, rfl⟩
  ·rcases hlo with ⟨rfl, rfl⟩ | ⟨kl, rfl⟩
   ·simp [Instr.sliceBounds]
   ·have := sliceBound_run (P := P) (w := w) (k := kl) (n := l) (y := len) (cd := .sliceB) h0 h1
    simp [Instr.sliceBounds, this]
  ·have := fun cd => sliceBound_run (P := P) (w := w) (k := kh) (n := h) (y := cap) (cd := cd) (by omega) h2
   rcases hlo with ⟨rfl, rfl⟩ | ⟨kl, rfl⟩
   ·simp [Instr.sliceBounds, this]
   ·have h4 := sliceBound_run (P := P) (w := w) (k := kl) (n := l) (y := h.toNat) (cd := .sliceB) h0 (by omega)
    simp [Instr.sliceBounds, this, h4]
 ·have hm := fun cd => sliceBound_run (P := P) (w := w) (k := km) (n := m) (y := cap) (cd := cd) (by omega) h3
  rcases hhi with ⟨_, hc, _⟩ | ⟨kh, rfl⟩
  ·cases hc
  ·have := fun cd => sliceBound_run (P := P) (w := w) (k := kh) (n := h) (y := m.toNat) (cd := cd) (by omega) (by omega)
   rcases hlo with ⟨rfl, rfl⟩ | ⟨kl, rfl⟩
   ·simp [Instr.sliceBounds, hm, this]
   ·have h4 := fun cd => sliceBound_run (P := P) (w := w) (k := kl) (n := l) (y := h.toNat) (cd := cd) h0 (by omega)
    simp [Instr.sliceBounds, hm, this, h4]
theorem opt_lo (c : Ctx w fz η ev ρ bx) {lo : Option Operand} {l : Option Int} (hl : optInt ρ lo = some l) (z : Int) : (lo.map ev = none ∧ l.getD z = z) ∨ ∃ k, lo.map ev = some (.int k (l.getD z)) := by
 rcases optInt_ok c hl with ⟨rfl, rfl⟩ | ⟨y, k, n, rfl, rfl, e⟩
 exact .inl ⟨rfl, rfl⟩
 exact .inr ⟨k, by simp [e]⟩
theorem opt_hi (c : Ctx w fz η ev ρ bx) {lo : Option Operand} {l : Option Int} (hl : optInt ρ lo = some l) (z : Int) : (lo.map ev = none ∧ (none : Option Value) = none ∧ l.getD z = z) ∨ ∃ k, lo.map ev = some (.int k (l.getD z)) := by
 rcases opt_lo c hl z with ⟨h1, h2⟩ | h
 exact .inl ⟨h1, rfl, h2⟩
 exact .inr h
theorem rdSlice_ok (c : Ctx w fz η ev ρ bx) {t : TypeId} {x : Operand} {lo hi mx : Option Operand} (ho : o.op = .slice t x lo hi mx) (hh : rdSlice P ρ t x lo hi mx = some E) : Yields P w fz η ev o E := by
 unfold rdSlice at hh
 split at hh
 ·rename_i s l h ht hx hl hhi hm
  obtain ⟨ht, _⟩ := typ_und ht
  simp only [Option.some.injEq] at hh
  subst hh
  rintro ⟨h0, h1, h2⟩
  have hv := (c.ev x _ hx).lit_inv
  have hmx : mx = none := by
   rcases optInt_ok c hm with ⟨h, _⟩ | ⟨_, _, _, _, hc, _⟩
   ·exact h
   ·cases hc
  subst hmx
  refine ⟨.string (s.extract (l.getD 0).toNat (h.getD s.size).toNat), ?_, .lit _⟩
  have hb := sliceBounds_run (P := P) (w := w) (b := false) (len := s.size) (cap := s.size) (lo := lo.map ev) (hi := hi.map ev) (mx := none) (l := l.getD 0) (h := h.getD s.size) (m := s.size)
   (opt_lo c hl 0) (opt_hi c hhi _)
   (.inl ⟨rfl, rfl⟩) h0 h1 h2 (by omega)
  simp [execOp, ho, Instr.sliceAt, Instr.slice, run_underlying ht, hv, hb]
 ·rename_i e _ τ xs l h m ht hx hl hhi hm
  split at hh
  ·rename_i d s hs
   obtain ⟨ht, _⟩ := typ_und ht
   obtain ⟨h1, inf, h2, rfl⟩ := typ_und hs
   split at hh
   ·rename_i hsz
    obtain ⟨hsz, hmh⟩ := hsz
    simp only [Option.some.injEq] at hh
    subst hh
    rw [takeO_eq]
    rintro ⟨h0, h3, h4, h5⟩
    obtain ⟨A, cc, hv, hc, hmax, hel⟩ := (c.ev x _ hx).row_inv
    have hbd : ∃ m' : Int, (Instr.sliceBounds true xs.length cc (lo.map ev) (hi.map ev) (mx.map ev)).run P w = .ok ((l.getD 0).toNat, (h.getD xs.length).toNat, m'.toNat) w ∧ h.getD xs.length ≤ m' ∧ m' ≤ cc := by
     have hlo := opt_lo c hl 0
     rcases optInt_ok c hm with ⟨rfl, rfl⟩ | ⟨y, km, nm, rfl, rfl, em⟩
     ·refine ⟨cc, sliceBounds_run hlo ?_ (.inl ⟨rfl, rfl⟩) h0 h3 ?_ (Int.le_refl _), ?_, Int.le_refl _⟩
      ·exact opt_hi c hhi _
      ·simp only [Option.getD_none] at h4; omega
      ·simp only [Option.getD_none] at h4; omega
     ·refine ⟨nm, sliceBounds_run hlo ?_ (.inr ⟨km, by simp [em]⟩) h0 h3 h4 ?_, h4, ?_⟩
      ·rcases optInt_ok c hhi with ⟨rfl, rfl⟩ | ⟨y, k, n, rfl, rfl, e⟩
       ·rcases hmh with hc1 | hc1
        ·cases hc1
        ·exact absurd rfl hc1
       ·exact .inr ⟨k, by simp [e]⟩
      ·simp only [Option.getD_some] at h5; omega
      ·simp only [Option.getD_some] at h5; omega
    obtain ⟨m', hrun, hm1, hm2⟩ := hbd
    generalize hL : l.getD 0 = L at *
    generalize hH : h.getD xs.length = H at *
    refine ⟨.slice (if m'.toNat = L.toNat then A else A.map (·.add (L.toNat * sz τ))) (H.toNat - L.toNat) (m'.toNat - L.toNat), ?_, ?_⟩
    ·simp [execOp, ho, Instr.sliceAt, Instr.slice, run_underlying ht, hv, hrun, sizeOf_run h2, hsz]
    ·have hlen : ((xs.take H.toNat).drop L.toNat).length = H.toNat - L.toNat := by rw [List.length_drop, List.length_take]; omega
     rw [← hlen]
     refine .row_mk (by rw [hlen]; omega) (by omega) (fun i x hx => ?_)
     rw [List.getElem?_drop] at hx
     have hlt : L.toNat + i < H.toNat := by
      have := (List.getElem?_eq_some_iff.1 hx).1
      rw [List.length_take] at this; omega
     rw [List.getElem?_take, if_pos hlt] at hx
     obtain ⟨ad, rfl, hf, hb, hcell⟩ := hel _ _ hx
     rw [if_neg (by omega)]
     refine ⟨_, rfl, by rw [add_block]; exact hf, by rw [add_block]; exact hb, fun j a ha => ?_⟩
     rw [add_add, ← Nat.add_assoc, ← Nat.add_mul]
     exact hcell j a ha
   ·cases hh
  ·cases hh
 ·cases hh
def rdLen (P : Program) (ρ : Operand → Option AV) (bx : Bx) (t : TypeId) (x : Operand) : Rd :=
 match P.underlying t, ρ x with
 | some (.slice _), some (.row _ xs) => some (True, .lit (.int .i64 xs.length))
 | some (.slice _), some (.own b) => match bx b with
  | some (.sl _ _ xs) => some (True, .lit (.int .i64 xs.length))
  | _ => none
 | some .string, some (.lit (.string s)) => some (True, .lit (.int .i64 s.size))
 | some (.slice _), some (.lit (.slice _ n _)) => some (True, .lit (.int .i64 n))
 | _, _ => none
theorem rdLen_ok (c : Ctx w fz η ev ρ bx) {t : TypeId} {x : Operand} (ho : o.op = .call { callee := .builtin .len, args := #[x], argTypes := #[t] }) (h : rdLen P ρ bx t x = some E) : Yields P w fz η ev o E := by
 unfold rdLen at h
 split at h
 rename_i e τ xs ht hx
 simp only [Option.some.injEq] at h
 subst h
 intro _
 obtain ⟨A, cc, hv, _⟩ := (c.ev x _ hx).row_inv
 exact ⟨_, by simp [execOp, ho, resolve, invoke, builtin, Builtin.len_, run_underlying ht, hv, goInt], .lit _⟩
 rename_i e b ht hx
 split at h
 rename_i e2 τ xs hb
 simp only [Option.some.injEq] at h
 subst h
 intro _
 obtain ⟨u, hu, cs, ho2, _⟩ := c.box b _ hb
 have hv := (c.ev x _ hx).own_inv hu
 rcases ho2.2 with ⟨rfl, h0⟩ | ⟨g, cap, cur, rfl, _⟩
 exact ⟨.int .i64 xs.length, by rw [h0]; simp [execOp, ho, resolve, invoke, builtin, Builtin.len_, run_underlying ht, hv, goInt], .lit _⟩
 exact ⟨_, by simp [execOp, ho, resolve, invoke, builtin, Builtin.len_, run_underlying ht, hv, goInt], .lit _⟩
 cases h
 rename_i s ht hx
 simp only [Option.some.injEq] at h
 subst h
 intro _
 have hv := (c.ev x _ hx).lit_inv
 exact ⟨_, by simp [execOp, ho, resolve, invoke, builtin, Builtin.len_, run_underlying ht, hv, goInt], .lit _⟩
 rename_i e A n cc ht hx
 simp only [Option.some.injEq] at h
 subst h
 intro _
 have hv := (c.ev x _ hx).lit_inv
 exact ⟨_, by simp [execOp, ho, resolve, invoke, builtin, Builtin.len_, run_underlying ht, hv, goInt], .lit _⟩
 cases h
def rdCap (P : Program) (ρ : Operand → Option AV) (t : TypeId) (x : Operand) : Rd :=
 match P.underlying t, ρ x with
 | some (.slice _), some (.lit (.slice _ _ n)) => some (True, .lit (.int .i64 n))
 | _, _ => none
theorem rdCap_ok (c : Ctx w fz η ev ρ bx) {t : TypeId} {x : Operand} (ho : o.op = .call { callee := .builtin .cap, args := #[x], argTypes := #[t] }) (h : rdCap P ρ t x = some E) : Yields P w fz η ev o E := by
 unfold rdCap at h
 split at h
 rename_i e A n cc ht hx
 simp only [Option.some.injEq] at h
 subst h
 intro _
 have hv := (c.ev x _ hx).lit_inv
 exact ⟨_, by simp [execOp, ho, resolve, invoke, builtin, Builtin.cap_, run_underlying ht, hv, goInt], .lit _⟩
 cases h
def cellsA : AV → List AV
 | .agg l => l
 | a => [a]
def atomOk (bx : Bx) : AV → Bool
 | .lit v => v.oneCell'
 | .row _ _ => true
 | .ep _ _ _ => true
 | .clo _ _ => true
 | .own b => live bx b
 | .ptr b _ => live bx b
 | .op _ b _ _ => live bx b
 | .rowc _ _ _ => true
 | .rown _ _ _ => true
 | .ot _ b _ => live bx b
 | _ => false
def partsOk (bx : Bx) : AV → Bool
 | .agg l => l.all (atomOk bx)
 | a => atomOk bx a
theorem cells_one {v : Value} (h : v.oneCell' = true) : v.cells = #[v] := by cases v <;> first | rfl | (simp [Value.oneCell'] at h)
theorem atom_one (c : Ctx w fz η ev ρ bx) {v : Value} {a : AV} (ha : atomOk bx a = true) (h : R w fz η v a) : v.oneCell' = true := by
 have lv : ∀ b, live bx b = true → ∃ B u, bx b = some B ∧ η b = some u ∧ BoxR w fz η u B := fun b hb => by
  obtain ⟨B, hB⟩ := Option.isSome_iff_exists.1 hb
  obtain ⟨u, hu, hr⟩ := c.box b B hB
  exact ⟨B, u, hB, hu, hr⟩
 cases a with
 | lit u => have e := h.lit_inv; subst e; exact ha
 | row τ xs => obtain ⟨A, c, rfl, _⟩ := h.row_inv; rfl
 | ep τ x off => obtain ⟨ad, rfl, _⟩ := h.ep_inv; rfl
 | clo f l => obtain ⟨vs, rfl, _⟩ := h.clo_inv; rfl
 | own b =>
  obtain ⟨B, u, _, hu, hr⟩ := lv b ha
  have e := h.own_inv hu
  subst e
  cases B with
  | var l => obtain ⟨g, C, e, rfl, _⟩ := hr; rfl
  | any => exact hr
  | full e τ xs => obtain ⟨⟨cs, ho, _⟩, _⟩ := hr; rcases ho.2 with ⟨rfl, _⟩ | ⟨g, cap, cur, rfl, _⟩ <;> rfl
  | sl e τ xs => obtain ⟨cs, ho, _⟩ := hr; rcases ho.2 with ⟨rfl, _⟩ | ⟨g, cap, cur, rfl, _⟩ <;> rfl
 | ptr b off => obtain ⟨B, u, _, hu, _⟩ := lv b ha; obtain ⟨g, _, rfl⟩ := h.ptr_inv hu; rfl
 | op τ b i off => obtain ⟨B, u, _, hu, _⟩ := lv b ha; obtain ⟨g, n, cc, _, rfl⟩ := h.op_inv hu; rfl
 | rowc τ xs c => obtain ⟨A, rfl, _⟩ := h.rowc_inv; rfl
 | rown τ xs b => obtain ⟨A, c, rfl, _⟩ := h.rown_inv; rfl
 | ot τ b lo => obtain ⟨B, u, _, hu, _⟩ := lv b ha; obtain ⟨g, n, cc, _, _, rfl⟩ := h.ot_inv hu; rfl
 | _ => simp [atomOk] at ha
theorem cells_R (c : Ctx w fz η ev ρ bx) {v : Value} {a : AV} (ha : partsOk bx a = true) (h : R w fz η v a) :
  v.cells.size = (cellsA a).length ∧ (∀ (j : Nat) u x, v.cells[j]? = some u → (cellsA a)[j]? = some x → R w fz η u x) ∧ ∀ (j : Nat) u, v.cells[j]? = some u → u.oneCell' = true := by
 have fin : atomOk bx a = true → cellsA a = [a] → v.cells.size = (cellsA a).length ∧ (∀ (j : Nat) u x, v.cells[j]? = some u → (cellsA a)[j]? = some x → R w fz η u x) ∧ ∀ (j : Nat) u, v.cells[j]? = some u → u.oneCell' = true := by
  intro h1 h2
  have ho := atom_one c h1 h
  rw [cells_one ho, h2]
  refine ⟨rfl, fun j u x hu hx => ?_, fun j u hu => ?_⟩
  ·match j with
   | 0 => simp at hu hx; subst hu hx; exact h
   | j + 1 => simp at hx
  ·match j with
   | 0 => simp at hu; subst hu; exact ho
   | j + 1 => simp at hu
 cases a with
 | agg l =>
  obtain ⟨vs, rfl, hl, hR⟩ := h.agg_inv
  refine ⟨hl, hR, fun j u hu => ?_⟩
  have hj := (Array.getElem?_eq_some_iff.1 hu).1
  have hj2 : j < l.length := by have : (Value.agg vs).cells.size = vs.size := rfl; omega
  exact atom_one c (List.all_eq_true.1 ha _ (List.getElem_mem hj2)) (hR j u l[j] hu (List.getElem?_eq_getElem hj2))
 | _ => exact fin ha rfl
end
theorem put_fold (off : Nat) : ∀ (vs : List Value) (s : Nat) (cs : Array Value), off + s + vs.length ≤ cs.size →
  ((vs.zipIdx s).foldl (fun cs (p : Value × Nat) => cs.setIfInBounds (off + p.2) p.1) cs).size = cs.size ∧
  ∀ k, ((vs.zipIdx s).foldl (fun cs (p : Value × Nat) => cs.setIfInBounds (off + p.2) p.1) cs)[k]? = if off + s ≤ k ∧ k < off + s + vs.length then vs[k - (off + s)]? else cs[k]?
 | [], s, cs, _ => by
  refine ⟨rfl, fun k => ?_⟩
  rw [if_neg (by simp only [List.length_nil]; omega)]; rfl
 | v :: vs, s, cs, h => by
  simp only [List.length_cons] at h
  obtain ⟨h1, h2⟩ := put_fold off vs (s + 1) (cs.setIfInBounds (off + s) v) (by simp; omega)
  simp only [List.zipIdx_cons, List.foldl_cons]
  refine ⟨by rw [h1]; simp, fun k => ?_⟩
  rw [h2 k]
  simp only [List.length_cons]
  by_cases hk : k = off + s
  ·subst hk
   rw [if_neg (by omega), if_pos (by omega), Array.getElem?_setIfInBounds_self_of_lt (by omega)]
   simp
  ·rw [Array.getElem?_setIfInBounds_ne (Ne.symm hk)]
   by_cases h3 : off + s ≤ k ∧ k < off + s + (vs.length + 1)
   ·rw [if_pos (by omega), if_pos h3]
    obtain ⟨m, hm⟩ : ∃ m, k - (off + s) = m + 1 := ⟨k - (off + s) - 1, by omega⟩
    rw [hm, List.getElem?_cons_succ, show k - (off + (s + 1)) = m by omega]
   ·rw [if_neg (by omega), if_neg h3]
def fillA (bx : Bx) (place : Nat → Option (Nat × Nat)) : List AV → List (Nat × AV) → Option (List AV)
 | l, [] => some l
 | l, (i, a) :: rest => match place i with
  | none => none
  | some (off, n) => if partsOk bx a = true ∧ (cellsA a).length = n ∧ off + n ≤ l.length then fillA bx place (l.take off ++ cellsA a ++ l.drop (off + n)) rest else none
section
variable {P : Program} {w : World} {fz : Nat → Prop} {η : Nat → Option Value} {ev : Operand → Value} {ρ : Operand → Option AV} {bx : Bx} {o : Oper} {E : Prop × AV}
abbrev RL (w : World) (fz : Nat → Prop) (η : Nat → Option Value) (C : Array Value) (l : List AV) : Prop := C.size = l.length ∧ ∀ (j : Nat) u x, C[j]? = some u → l[j]? = some x → R w fz η u x
theorem RL_put {C : Array Value} {l : List AV} {v : Value} {a : AV} {off n : Nat} (h : RL w fz η C l) (hv : v.cells.size = (cellsA a).length) (hR : ∀ (j : Nat) u x, v.cells[j]? = some u → (cellsA a)[j]? = some x → R w fz η u x) (hn : (cellsA a).length = n) (hle : off + n ≤ l.length) :
  RL w fz η (v.cells.zipIdx.foldl (fun cs (p : Value × Nat) => cs.setIfInBounds (off + p.2) p.1) C) (l.take off ++ cellsA a ++ l.drop (off + n)) := by
 obtain ⟨h1, h2⟩ := h
 rw [← Array.foldl_toList, Array.toList_zipIdx]
 obtain ⟨h3, h4⟩ := put_fold off v.cells.toList 0 C (by simp; omega)
 refine ⟨by rw [h3]; simp; omega, fun j u x hu hx => ?_⟩
 rw [h4 j] at hu
 simp only [Nat.add_zero, Array.length_toList, Array.getElem?_toList] at hu
 rw [List.append_assoc] at hx
 by_cases hj : j < off
 ·rw [if_neg (by omega)] at hu
  rw [List.getElem?_append_left (by simp; omega), List.getElem?_take, if_pos hj] at hx
  exact h2 j u x hu hx
 ·rw [List.getElem?_append_right (by simp; omega)] at hx
  have e : (l.take off).length = off := by simp; omega
  rw [e] at hx
  by_cases hj2 : j < off + n
  ·rw [if_pos (by omega)] at hu
   rw [List.getElem?_append_left (by omega)] at hx
   exact hR _ u x hu hx
  ·rw [if_neg (by omega)] at hu
   rw [List.getElem?_append_right (by omega), List.getElem?_drop, hn, show off + n + (j - off - n) = j by omega] at hx
   exact h2 j u x hu hx
theorem fill_ok (c : Ctx w fz η ev ρ bx) {place : Nat → Option (Nat × Nat)} : ∀ (ps : List (Nat × Operand)) (pa : List (Nat × AV)) (C : Array Value) (l : List AV) (l' : List AV), ps.mapM (fun p => (ρ p.2).map fun a => (p.1, a)) = some pa → RL w fz η C l → fillA bx place l pa = some l' →
  ∃ C', Instr.fill place C (ps.map fun p => (p.1, ev p.2)) = some C' ∧ RL w fz η C' l'
 | [], pa, C, l, l', hp, hl, hf => by
  simp at hp; subst hp
  simp only [fillA, Option.some.injEq] at hf; subst hf
  exact ⟨C, rfl, hl⟩
 | (i, x) :: ps, pa, C, l, l', hp, hl, hf => by
  simp only [List.mapM_cons] at hp
  cases hx : ρ x with
  | none => simp [hx] at hp
  | some a =>
   cases hps : ps.mapM (fun p => (ρ p.2).map fun a => (p.1, a)) with
   | none => simp [hx, hps] at hp
   | some pa' =>
    simp [hx, hps] at hp
    subst hp
    simp only [fillA] at hf
    split at hf
    ·cases hf
    ·rename_i off n hpl
     split at hf
     ·rename_i hc
      obtain ⟨h1, h2, h3⟩ := hc
      obtain ⟨g1, g2, g3⟩ := cells_R c h1 (c.ev x a hx)
      have hput := RL_put hl g1 g2 h2 h3
      obtain ⟨C', e1, e2⟩ := fill_ok c ps pa' _ _ l' hps hput hf
      refine ⟨C', ?_, e2⟩
      simp only [List.map_cons, Instr.fill, hpl]
      rw [if_neg (by have := hl.1; simp; omega)]
      exact e1
     ·cases hf
def zeroA (P : Program) (t : TypeId) : Option (List AV) := match P.info? t with
 | some i => match i.zero with
  | some z => some (z.cells.toList.map .lit)
  | none => none
 | none => none
theorem zero_run {t : TypeId} {l : List AV} (h : zeroA P t = some l) : ∃ z, (zeroValue t).run P w = .ok z w ∧ l = z.cells.toList.map .lit := by
 unfold zeroA at h
 split at h
 rename_i i hi
 split at h
 rename_i z hz
 simp only [Option.some.injEq] at h
 exact ⟨z, by simp [zeroValue, typeInfo, hi, hz], h.symm⟩
 cases h
 cases h
theorem RL_lits (C : Array Value) : RL w fz η C (C.toList.map .lit) := ⟨by simp, fun j u x hu hx => R_lits (vs := C) rfl j u x hu hx⟩
def rdBuild (P : Program) (ρ : Operand → Option AV) (bx : Bx) (t : TypeId) (ps : Array (Nat × Operand)) : Rd :=
 match zeroA P t, P.underlying t, ps.toList.mapM (fun p => (ρ p.2).map fun a => (p.1, a)) with
 | some z, some (.struct fs), some pa => match pureRun P (fs.mapM fun f => do pure (f.offset, ← sizeOf f.type)) with
  | some pl => (fillA bx (pl[·]?) z pa).map fun l => (True, .agg l)
  | none => none
 | some z, some (.array _ e), some pa => match P.info? e with
  | some i => (fillA bx (fun j => some (j * i.size, i.size)) z pa).map fun l => (True, .agg l)
  | none => none
 | _, _, _ => none
theorem rdBuild_ok (c : Ctx w fz η ev ρ bx) {t : TypeId} {ps : Array (Nat × Operand)} (ho : o.op = .build t ps) (h : rdBuild P ρ bx t ps = some E) : Yields P w fz η ev o E := by
 unfold rdBuild at h
 have hmap : (ps.map fun (p : Nat × Operand) => (p.1, ev p.2)).toList = ps.toList.map fun p => (p.1, ev p.2) := by simp
 split at h
 rename_i z fs pa hz ht hp
 split at h
 rename_i pl hpl
 simp only [Option.map_eq_some_iff] at h
 obtain ⟨l, hl, rfl⟩ := h
 intro _
 obtain ⟨zv, hrun, rfl⟩ := zero_run (P := P) (w := w) hz
 obtain ⟨C', e1, e2⟩ := fill_ok c ps.toList pa zv.cells _ l hp (RL_lits _) hl
 refine ⟨.agg C', ?_, .agg _ _ e2.1 e2.2⟩
 have hpr := pureRun_run hpl w
 simp only [execOp, ho, Instr.build, Sem.run_bind, hrun, run_underlying ht, Result.andThen_ok, hpr]
 simp only [Array.toList_map] at hmap
 simp [e1]
 cases h
 rename_i z n e pa hz ht hp
 split at h
 rename_i i hi
 simp only [Option.map_eq_some_iff] at h
 obtain ⟨l, hl, rfl⟩ := h
 intro _
 obtain ⟨zv, hrun, rfl⟩ := zero_run (P := P) (w := w) hz
 obtain ⟨C', e1, e2⟩ := fill_ok c ps.toList pa zv.cells _ l hp (RL_lits _) hl
 refine ⟨.agg C', ?_, .agg _ _ e2.1 e2.2⟩
 simp only [execOp, ho, Instr.build, Sem.run_bind, hrun, run_underlying ht, Result.andThen_ok, sizeOf_run hi]
 simp [e1]
 cases h
 cases h
def rdMakeFunc (ρ : Operand → Option AV) (fn : Fn) (first caps : Array Operand) : Rd :=
 match first.toList, caps.toList.mapM ρ with
 | [], some l => some (True, .clo fn l)
 | _, _ => none
theorem rdMakeFunc_ok (c : Ctx w fz η ev ρ bx) {fn : Fn} {first caps : Array Operand} (ho : o.op = .makeFunc fn first caps) (h : rdMakeFunc ρ fn first caps = some E) : Yields P w fz η ev o E := by
 unfold rdMakeFunc at h
 split at h
 ·rename_i l h1 h2
  simp only [Option.some.injEq] at h
  subst h
  intro _
  have e : first = #[] := by cases first; simp at h1; subst h1; rfl
  subst e
  refine ⟨.func fn #[] (caps.map ev), by simp [execOp, ho, Instr.makeFunc], ?_⟩
  have key : ∀ (cs : List Operand) (l : List AV), cs.mapM ρ = some l → (cs.map ev).length = l.length ∧ ∀ (j : Nat) u x, (cs.map ev)[j]? = some u → l[j]? = some x → R w fz η u x := by
   intro cs
   induction cs with
   | nil => intro l hl; simp at hl; subst hl; exact ⟨rfl, fun j u x hu => by simp at hu⟩
   | cons y cs ih =>
    intro l hl
    simp only [List.mapM_cons] at hl
    cases hy : ρ y with
    | none => simp [hy] at hl
    | some a =>
     cases hcs : cs.mapM ρ with
     | none => simp [hy, hcs] at hl
     | some l' =>
      simp [hy, hcs] at hl
      subst hl
      obtain ⟨i1, i2⟩ := ih l' hcs
      refine ⟨by simp at i1; simp [i1], fun j u x hu hx => ?_⟩
      match j with
      | 0 => simp at hu hx; subst hu hx; exact c.ev y a hy
      | j + 1 => simp only [List.map_cons, List.getElem?_cons_succ] at hu hx; exact i2 j u x hu hx
  obtain ⟨k1, k2⟩ := key caps.toList l h2
  refine .clo _ _ _ (by simpa using k1) (fun j u x hu hx => k2 j u x ?_ hx)
  rw [← Array.toList_map, Array.getElem?_toList]; exact hu
 ·cases h
def InR (k : IntKind) (n : Int) : Prop := k.wrap n = n
def rdBin (P : Program) (o : Oper) (ρ : Operand → Option AV) (op : BinOp) (t : TypeId) (x y : Operand) : Rd :=
 match op, ρ x, ρ y with
 | .add, some (.lit (.int .i64 a)), some (.lit (.int .i64 b)) => some (InR .i64 (a + b), .lit (.int .i64 (a + b)))
 | .sub, some (.lit (.int .i64 a)), some (.lit (.int .i64 b)) => some (InR .i64 (a - b), .lit (.int .i64 (a - b)))
 | .mul, some (.lit (.int .i64 a)), some (.lit (.int .i64 b)) => some (InR .i64 (a * b), .lit (.int .i64 (a * b)))
 | .quo, some (.lit (.int .i64 a)), some (.lit (.int .i64 b)) => some (b ≠ 0 ∧ InR .i64 (a.tdiv b), .lit (.int .i64 (a.tdiv b)))
 | .rem, some (.lit (.int .i64 a)), some (.lit (.int .i64 b)) => some (b ≠ 0, .lit (.int .i64 (a.tmod b)))
 | .add, some (.lit (.string a)), some (.lit (.string b)) => some (((a.size + b.size : Nat) : Int) ≤ IntKind.i64.max, .lit (.string (a ++ b)))
 | _, _, _ => (pureOp P o ρ).map fun a => (True, a)
theorem rdBin_ok (c : Ctx w fz η ev ρ bx) {op : BinOp} {t t' : TypeId} {x y : Operand} (ho : o.op = .binOp op t x y t') (h : rdBin P o ρ op t x y = some E) : Yields P w fz η ev o E := by
 unfold rdBin at h
 have guard : ∀ a b : Value, op ≠ .eql → op ≠ .neq → (eqGuard op t x y a b).run P w = .ok () w := fun a b h1 h2 => by
  unfold eqGuard
  cases op <;> first | (exact absurd rfl h1) | (exact absurd rfl h2) | simp
 split at h
 rename_i a b hx hy
 simp only [Option.some.injEq] at h
 subst h
 intro hc
 have h1 := (c.ev x _ hx).lit_inv
 have h2 := (c.ev y _ hy).lit_inv
 have hg := guard (ev x) (ev y) (by decide) (by decide)
 refine ⟨.int .i64 (a + b), ?_, .lit _⟩
 rw [h1, h2] at hg
 simp [execOp, ho, h1, h2, hg, Go.binOp, Op.intArith, show IntKind.wrap .i64 (a + b) = a + b from hc]
 rename_i a b hx hy
 simp only [Option.some.injEq] at h
 subst h
 intro hc
 have h1 := (c.ev x _ hx).lit_inv
 have h2 := (c.ev y _ hy).lit_inv
 have hg := guard (ev x) (ev y) (by decide) (by decide)
 refine ⟨.int .i64 (a - b), ?_, .lit _⟩
 rw [h1, h2] at hg
 simp [execOp, ho, h1, h2, hg, Go.binOp, Op.intArith, show IntKind.wrap .i64 (a - b) = a - b from hc]
 rename_i a b hx hy
 simp only [Option.some.injEq] at h
 subst h
 intro hc
 have h1 := (c.ev x _ hx).lit_inv
 have h2 := (c.ev y _ hy).lit_inv
 have hg := guard (ev x) (ev y) (by decide) (by decide)
 refine ⟨.int .i64 (a * b), ?_, .lit _⟩
 rw [h1, h2] at hg
 simp [execOp, ho, h1, h2, hg, Go.binOp, Op.intArith, show IntKind.wrap .i64 (a * b) = a * b from hc]
 rename_i a b hx hy
 simp only [Option.some.injEq] at h
 subst h
 intro hc
 have h1 := (c.ev x _ hx).lit_inv
 have h2 := (c.ev y _ hy).lit_inv
 have hg := guard (ev x) (ev y) (by decide) (by decide)
 refine ⟨.int .i64 (a.tdiv b), ?_, .lit _⟩
 rw [h1, h2] at hg
 simp [execOp, ho, h1, h2, hg, Go.binOp, Op.intDiv, hc.1, show IntKind.wrap .i64 (a.tdiv b) = a.tdiv b from hc.2]
 rename_i a b hx hy
 simp only [Option.some.injEq] at h
 subst h
 intro hc
 have h1 := (c.ev x _ hx).lit_inv
 have h2 := (c.ev y _ hy).lit_inv
 have hg := guard (ev x) (ev y) (by decide) (by decide)
 have hc' : b ≠ 0 := hc
 refine ⟨.int .i64 (a.tmod b), ?_, .lit _⟩
 rw [h1, h2] at hg
 simp [execOp, ho, h1, h2, hg, Go.binOp, Op.intDiv, hc']
 rename_i a b hx hy
 simp only [Option.some.injEq] at h
 subst h
 intro hc
 have h1 := (c.ev x _ hx).lit_inv
 have h2 := (c.ev y _ hy).lit_inv
 have hg := guard (ev x) (ev y) (by decide) (by decide)
 refine ⟨.string (a ++ b), ?_, .lit _⟩
 rw [h1, h2] at hg
 have hc2 : ¬ ((a.size + b.size : Nat) : Int) > IntKind.i64.max := by simp only at hc; omega
 simp only [execOp, ho, Sem.run_bind, h1, h2, hg, Result.andThen_ok, Go.binOp, Op.stringOp]
 rw [if_neg hc2]
 rfl
 simp only [Option.map_eq_some_iff] at h
 obtain ⟨a, ha, rfl⟩ := h
 exact fun _ => pureOp_run ha c.ev
def rdMinMax (P : Program) (o : Oper) (ρ : Operand → Option AV) (isMax : Bool) (x y : Operand) : Rd :=
 match ρ x, ρ y with
 | some (.lit (.int .i64 a)), some (.lit (.int .i64 b)) => some (True, .lit (.int .i64 (if isMax then max a b else min a b)))
 | _, _ => (pureOp P o ρ).map fun a => (True, a)
theorem rdMin_ok (c : Ctx w fz η ev ρ bx) {x y : Operand} {ts : Array TypeId} (ho : o.op = .call { callee := .builtin .min, args := #[x, y], argTypes := ts }) (h : rdMinMax P o ρ false x y = some E) : Yields P w fz η ev o E := by
 unfold rdMinMax at h
 split at h
 rename_i a b hx hy
 simp only [Option.some.injEq] at h
 subst h
 intro _
 have h1 := (c.ev x _ hx).lit_inv
 have h2 := (c.ev y _ hy).lit_inv
 have e : (if b < a then b else a) = min a b := by rw [Int.min_def]; split <;> split <;> omega
 refine ⟨.int .i64 (min a b), ?_, .lit _⟩
 simp [execOp, ho, resolve, invoke, builtin, Builtin.min_, h1, h2, Builtin.min2, e]
 simp only [Option.map_eq_some_iff] at h
 obtain ⟨a, ha, rfl⟩ := h
 exact fun _ => pureOp_run ha c.ev
theorem rdMax_ok (c : Ctx w fz η ev ρ bx) {x y : Operand} {ts : Array TypeId} (ho : o.op = .call { callee := .builtin .max, args := #[x, y], argTypes := ts }) (h : rdMinMax P o ρ true x y = some E) : Yields P w fz η ev o E := by
 unfold rdMinMax at h
 split at h
 rename_i a b hx hy
 simp only [Option.some.injEq] at h
 subst h
 intro _
 have h1 := (c.ev x _ hx).lit_inv
 have h2 := (c.ev y _ hy).lit_inv
 have e : (if a < b then b else a) = max a b := by rw [Int.max_def]; split <;> split <;> omega
 refine ⟨.int .i64 (max a b), ?_, .lit _⟩
 simp [execOp, ho, resolve, invoke, builtin, Builtin.max_, h1, h2, Builtin.max2, e]
 simp only [Option.map_eq_some_iff] at h
 obtain ⟨a, ha, rfl⟩ := h
 exact fun _ => pureOp_run ha c.ev
def rdConv (P : Program) (o : Oper) (ρ : Operand → Option AV) (dst : TypeId) (x : Operand) : Rd :=
 match P.underlying dst, ρ x with
 | some (.int .i64), some (.lit (.int _ n)) => some (InR .i64 n, .lit (.int .i64 n))
 | _, _ => (pureOp P o ρ).map fun a => (True, a)
theorem rdConv_ok (c : Ctx w fz η ev ρ bx) {src dst : TypeId} {x : Operand} (ho : o.op = .convert src dst x) (hs : ∃ d, P.underlying src = some d) (h : rdConv P o ρ dst x = some E) : Yields P w fz η ev o E := by
 unfold rdConv at h
 split at h
 rename_i k n ht hx
 simp only [Option.some.injEq] at h
 subst h
 intro hc
 obtain ⟨d, hd⟩ := hs
 have h1 := (c.ev x _ hx).lit_inv
 refine ⟨.int .i64 n, ?_, .lit _⟩
 have hw : IntKind.wrap .i64 n = n := hc
 simp only [execOp, ho, Go.convert, Sem.run_bind, run_underlying hd, run_underlying ht, Result.andThen_ok, h1]
 cases d <;> simp [Conv.intToInt, hw]
 simp only [Option.map_eq_some_iff] at h
 obtain ⟨a, ha, rfl⟩ := h
 exact fun _ => pureOp_run ha c.ev
def rdNil (P : Program) (ρ : Operand → Option AV) (op : BinOp) (t : TypeId) (x y : Operand) : Rd :=
 match op, typ P t, ρ x, ρ y with
 | .eql, some (.slice _, _), some (.row τ xs), some (.lit (.slice none 0 0)) => some (0 < xs.length, .lit (.bool false))
 | .neq, some (.slice _, _), some (.row τ xs), some (.lit (.slice none 0 0)) => some (0 < xs.length, .lit (.bool true))
 | _, _, _, _ => none
theorem rdNil_ok (c : Ctx w fz η ev ρ bx) {op : BinOp} {t t' : TypeId} {x y : Operand} (ho : o.op = .binOp op t x y t') (h : rdNil P ρ op t x y = some E) : Yields P w fz η ev o E := by
 unfold rdNil at h
 split at h
 rename_i e k τ xs ht hx hy
 simp only [Option.some.injEq] at h
 subst h
 intro hc
 obtain ⟨ht, _⟩ := typ_und ht
 have h2 := (c.ev y _ hy).lit_inv
 obtain ⟨A, cc, h1, _, _, hr⟩ := (c.ev x _ hx).row_inv
 obtain ⟨ad, rfl, _⟩ := hr 0 (xs[0]'hc) (List.getElem?_eq_getElem hc)
 refine ⟨.bool false, ?_, .lit _⟩
 have hq := run_equal_slice_nil (P := P) w t e (some ad) xs.length cc ht
 simp [execOp, ho, h1, h2, eqGuard, Go.binOp, hq]
 rename_i e k τ xs ht hx hy
 simp only [Option.some.injEq] at h
 subst h
 intro hc
 obtain ⟨ht, _⟩ := typ_und ht
 have h2 := (c.ev y _ hy).lit_inv
 obtain ⟨A, cc, h1, _, _, hr⟩ := (c.ev x _ hx).row_inv
 obtain ⟨ad, rfl, _⟩ := hr 0 (xs[0]'hc) (List.getElem?_eq_getElem hc)
 refine ⟨.bool true, ?_, .lit _⟩
 have hq := run_equal_slice_nil (P := P) w t e (some ad) xs.length cc ht
 simp [execOp, ho, h1, h2, eqGuard, Go.binOp, hq]
 cases h
def rdMove (ρ : Operand → Option AV) (x : Operand) : Rd := (ρ x).map fun a => (True, a)
def rdOp (P : Program) (o : Oper) (ρ : Operand → Option AV) (bx : Bx) : Rd :=
 match o.op with
 | .move x => rdMove ρ x
 | .assign x => rdMove ρ x
 | .load t x => rdLoad P ρ bx t x
 | .field t x f => rdField P ρ t x f
 | .extract x i => rdExtract ρ x i
 | .fieldAddr t x f => rdFieldAddr P ρ bx t x f
 | .nilCheck x => rdNilCheck ρ bx x
 | .indexAddr t x i => rdIndexAddr P ρ bx t x i
 | .index t x i => rdIndex P ρ t x i
 | .slice t x lo hi mx => match rdSlice P ρ t x lo hi mx with
  | some r => some r
  | none => (pureOp P o ρ).map fun a => (True, a)
 | .binOp op t x y _ => match rdNil P ρ op t x y with
  | some r => some r
  | none => rdBin P o ρ op t x y
 | .convert src dst x => match P.underlying src with
  | some _ => rdConv P o ρ dst x
  | none => none
 | .build t ps => rdBuild P ρ bx t ps
 | .makeFunc fn first caps => rdMakeFunc ρ fn first caps
 | .call ⟨.builtin .len, ⟨[x]⟩, ⟨[t]⟩⟩ => rdLen P ρ bx t x
 | .call ⟨.builtin .cap, ⟨[x]⟩, ⟨[t]⟩⟩ => rdCap P ρ t x
 | .call ⟨.builtin .min, ⟨[x, y]⟩, _⟩ => rdMinMax P o ρ false x y
 | .call ⟨.builtin .max, ⟨[x, y]⟩, _⟩ => rdMinMax P o ρ true x y
 | _ => (pureOp P o ρ).map fun a => (True, a)
theorem rdOp_ok (c : Ctx w fz η ev ρ bx) (h : rdOp P o ρ bx = some E) : Yields P w fz η ev o E := by
 unfold rdOp at h
 split at h
 rename_i x ho
 simp only [rdMove, Option.map_eq_some_iff] at h
 obtain ⟨a, ha, rfl⟩ := h
 exact fun _ => ⟨ev x, by simp [execOp, ho], c.ev x a ha⟩
 rename_i x ho
 simp only [rdMove, Option.map_eq_some_iff] at h
 obtain ⟨a, ha, rfl⟩ := h
 exact fun _ => ⟨ev x, by simp [execOp, ho], c.ev x a ha⟩
 rename_i ho; exact rdLoad_ok c ho h
 rename_i ho; exact rdField_ok c ho h
 rename_i ho; exact rdExtract_ok c ho h
 rename_i ho; exact rdFieldAddr_ok c ho h
 rename_i ho; exact rdNilCheck_ok c ho h
 rename_i ho; exact rdIndexAddr_ok c ho h
 rename_i ho; exact rdIndex_ok c ho h
 rename_i ho
 split at h
 rename_i r hr
 simp only [Option.some.injEq] at h
 subst h
 exact rdSlice_ok c ho hr
 simp only [Option.map_eq_some_iff] at h
 obtain ⟨a, ha, rfl⟩ := h
 exact fun _ => pureOp_run ha c.ev
 rename_i ho
 split at h
 rename_i r hr
 simp only [Option.some.injEq] at h
 subst h
 exact rdNil_ok c ho hr
 exact rdBin_ok c ho h
 rename_i ho
 split at h
 rename_i d hd; exact rdConv_ok c ho ⟨d, hd⟩ h
 cases h
 rename_i ho; exact rdBuild_ok c ho h
 rename_i ho; exact rdMakeFunc_ok c ho h
 rename_i ho; exact rdLen_ok c ho h
 rename_i ho; exact rdCap_ok c ho h
 rename_i ho; exact rdMin_ok c ho h
 rename_i ho; exact rdMax_ok c ho h
 simp only [Option.map_eq_some_iff] at h
 obtain ⟨a, ha, rfl⟩ := h
 exact fun _ => pureOp_run ha c.ev
end
structure Wr where
 cond : Prop
 val : Option AV
 del : List Nat
 ins : List (Nat × Box)
 fresh : Bool
def updB (bx : Bx) (del : List Nat) (ins : List (Nat × Box)) : Bx := fun k =>
 match lkp ins k with
 | some B => some B
 | none => if del.contains k then none else bx k
theorem updB_none (bx : Bx) (del : List Nat) (k : Nat) : updB bx del [] k = if del.contains k then none else bx k := rfl
theorem updB_ne1 {bx : Bx} {del : List Nat} {c k : Nat} {B : Box} (h : k ≠ c) : updB bx del [(c, B)] k = if del.contains k then none else bx k := by simp [updB, lkp, h]
theorem updB_eq1 {bx : Bx} {del : List Nat} {c : Nat} {B : Box} : updB bx del [(c, B)] c = some B := by simp [updB, lkp]
def setη (η : Nat → Option Value) (c : Nat) (u : Value) : Nat → Option Value := fun b => if b = c then some u else η b
def dropη (η : Nat → Option Value) (l : List Nat) : Nat → Option Value := fun b => if l.contains b then none else η b
def Fresh (key : Nat) (tm : Nat → Option AV) (bx : Bx) : Prop := (∀ t av, tm t = some av → ment key av = false) ∧ (∀ b B, bx b = some B → mentB key B = false) ∧ 1000 ≤ key
theorem ofVal_ment (b : Nat) (v : Value) : ment b (ofVal v) = false := by
 have h : ∀ l : List Value, mentL b (l.map .lit) = false := by
  intro l; induction l with
  | nil => rfl
  | cons v l ih => simp [mentL, ment, ih]
 cases v <;> first | rfl | (simp only [ofVal, ment]; exact h _)
theorem Fresh.ev {key : Nat} {tm : Nat → Option AV} {bx : Bx} (h : Fresh key tm bx) {x : Operand} {y : AV} (hy : evalA tm x = some y) : ment key y = false := by
 cases x with
 | tmp t => exact h.1 t y hy
 | const v => simp only [evalA, Option.some.injEq] at hy; subst hy; exact ofVal_ment _ _
 | global g => simp only [evalA, Option.some.injEq] at hy; subst hy; rfl
 | func f => simp only [evalA, Option.some.injEq] at hy; subst hy; rfl
section
variable {P : Program} {w w' w0 : World} {ow : Own} {η η' : Nat → Option Value} {c N key : Nat} {tm tmr : Nat → Option AV} {bx bx' bxr : Bx} {a : Act}
theorem Sim.ctx (s : Sim N w0 ow η tm bx a w) : Ctx w (Fz (Amb w0 ow) η) η a.eval (evalA tm) bx := ⟨fun x y h => s.ev h, s.dom⟩
theorem drop_some {l : List Nat} {b : Nat} {u : Value} (h : dropη η l b = some u) : η b = some u ∧ l.contains b = false := by
 unfold dropη at h
 split at h
 cases h
 rename_i hc; exact ⟨h, by simpa using hc⟩
theorem Fz_drop {A : Nat → Prop} {l : List Nat} {k : Nat} (h : Fz A η k) : Fz A (dropη η l) k := ⟨h.1, fun b u hb => h.2 b u (drop_some hb).1⟩
theorem R_drop {v : Value} {av : AV} (h : R w (Fz (Amb w0 ow) η) η v av) (l : List Nat) : R w (Fz (Amb w0 ow) (dropη η l)) (dropη η l) v av :=
 h.step (Nat.le_refl _) (fun _ _ _ => rfl) (fun k hk _ => Fz_drop hk) (fun b u _ hu => (drop_some hu).1)
theorem BoxR_drop {u : Value} {B : Box} (h : BoxR w (Fz (Amb w0 ow) η) η u B) (l : List Nat) : BoxR w (Fz (Amb w0 ow) (dropη η l)) (dropη η l) u B := by
 cases B with
 | any => exact h
 | var cs => obtain ⟨g, C, e, rfl, h1, h2, h3⟩ := h; exact ⟨g, C, e, rfl, h1, h2, fun j v x hv hx => R_drop (h3 j v x hv hx) l⟩
 | full e τ xs => obtain ⟨⟨cs, h1, h2⟩, hc⟩ := h; exact ⟨⟨cs, h1, fun i x j y hx hy => by obtain ⟨v, hv, hr⟩ := h2 i x j y hx hy; exact ⟨v, hv, R_drop hr l⟩⟩, hc⟩
 | sl e τ xs => obtain ⟨cs, h1, h2⟩ := h; exact ⟨cs, h1, fun i x j y hx hy => by obtain ⟨v, hv, hr⟩ := h2 i x j y hx hy; exact ⟨v, hv, R_drop hr l⟩⟩
theorem Sim.drop (s : Sim N w0 ow η tm bx a w) (l : List Nat) : Sim N w0 ow (dropη η l) tm (updB bx l []) a w := by
 refine ⟨s.size, s.nod, s.frame, fun t av ht => ?_, fun b B hB => ?_, fun b u k hu hk => s.new b u k (drop_some hu).1 hk, fun b b' u u' k hu hu' => s.apart b b' u u' k (drop_some hu).1 (drop_some hu').1, fun b u u' hp hu => s.pin b u u' hp (drop_some hu).1, s.pinlt⟩
 obtain ⟨v, hv, hr⟩ := s.tmp t av ht
 exact ⟨v, hv, R_drop hr l⟩
 rw [updB_none] at hB
 split at hB
 cases hB
 rename_i hc
 obtain ⟨u, hu, hr⟩ := s.dom b B hB
 exact ⟨u, by simp only [dropη]; rw [if_neg hc]; exact hu, BoxR_drop hr l⟩
theorem alloc_size (w : World) (o : Obj) : (w.alloc o).heap.size = w.heap.size + 1 := Array.size_push _
theorem alloc_tr (hbd : ∀ b u k, η b = some u → blk u = some k → k < w.heap.size) (o : Obj) {u : Value} (hu : ∀ k, blk u = some k → k = w.heap.size) : Tr η (setη η c u) c w (w.alloc o) := by
 refine ⟨rfl, rfl, rfl, by rw [alloc_size]; omega, fun k hk _ => Below.heap_alloc w o k hk, fun b u' hb h => ?_, fun b u' k hb h hk => ?_, fun u' k h hk => ?_⟩
 simp only [setη] at h; rw [if_neg hb] at h; exact h
 simp only [setη] at h; rw [if_neg hb] at h; exact Below.heap_alloc w o k (hbd b u' k h hk)
 simp only [setη, if_true, Option.some.injEq] at h
 subst h
 have := hu k hk
 subst this
 exact ⟨by rw [alloc_size]; omega, .inl (Nat.le_refl _)⟩
theorem Sim.bound (s : Sim N w0 ow η tm bx a w) : ∀ b u k, η b = some u → blk u = some k → k < w.heap.size := fun b u k h1 h2 => (s.new b u k h1 h2).1
theorem Sim.mkBox (s : Sim N w0 ow η tm bx a w) (hf : Fresh key tm bx) (o : Obj) {u : Value} (hu : ∀ k, blk u = some k → k = w.heap.size) {B : Box} (hB : BoxR (w.alloc o) (Fz (Amb w0 ow) (setη η key u)) (setη η key u) u B) :
  Sim N w0 ow (setη η key u) tm (updB bx [] [(key, B)]) a (w.alloc o) := by
 refine s.tr (c := key) (alloc_tr s.bound o hu) (.inr ⟨hf.2.2, hf.1, fun b B' hb hB' => ?_⟩) (fun b B' hb hB' => ?_) (fun B' hB' => ?_)
 ·rw [updB_ne1 hb] at hB'; simp at hB'; exact hf.2.1 b B' hB'
 ·rw [updB_ne1 hb] at hB'; simp at hB'; exact ⟨hB', by simp [setη, hb]⟩
 ·rw [updB_eq1, Option.some.injEq] at hB'
  subst hB'
  exact ⟨u, by simp [setη], hB⟩
theorem mentL_false {b : Nat} {l : List AV} {j : Nat} {x : AV} (h : mentL b l = false) (hx : l[j]? = some x) : ment b x = false := by
 cases hm : ment b x with
 | false => rfl
 | true => have := mentL_of hx hm; rw [h] at this; cases this
theorem Sim.mkVar (s : Sim N w0 ow η tm bx a w) (hf : Fresh key tm bx) {C : Array Value} {l : List AV} (e : TypeId) (hC : RL w (Fz (Amb w0 ow) η) η C l) (hm : mentL key l = false) :
  R (w.alloc (.cells C e)) (Fz (Amb w0 ow) (setη η key (.pointer (some ⟨w.heap.size, 0, none⟩)))) (setη η key (.pointer (some ⟨w.heap.size, 0, none⟩))) (.pointer (some ⟨w.heap.size, 0, none⟩)) (.ptr key 0) ∧
  Sim N w0 ow (setη η key (.pointer (some ⟨w.heap.size, 0, none⟩))) tm (updB bx [] [(key, .var l)]) a (w.alloc (.cells C e)) := by
 have hu : ∀ k, blk (.pointer (some ⟨w.heap.size, 0, none⟩)) = some k → k = w.heap.size := fun k hk => by simp [blk] at hk; exact hk.symm
 have tr := alloc_tr (c := key) s.bound (.cells C e) hu
 refine ⟨.ptr _ _ _ (fun u h => ⟨w.heap.size, by simp [setη] at h; exact h.symm, rfl⟩), s.mkBox hf _ hu ⟨w.heap.size, C, e, rfl, heap_alloc_new w _, hC.1, fun j v x hv hx => ?_⟩⟩
 exact tr.R (hC.2 j v x hv hx) (fun h => by rw [mentL_false hm hx] at h; cases h)
def wrAlloc (P : Program) (key : Nat) (t : TypeId) : Option Wr :=
 (zeroA P t).map fun l => ⟨True, some (.ptr key 0), [], [(key, .var l)], true⟩
def wrBox (key : Nat) (ρ : Operand → Option AV) (bx : Bx) (x : Operand) : Option Wr :=
 match ρ x with
 | some y => if partsOk bx y then some ⟨True, some (.ptr key 0), [], [(key, .var (cellsA y))], true⟩ else none
 | none => none
def Does (P : Program) (N : Nat) (w0 : World) (ow : Own) (tm : Nat → Option AV) (bx : Bx) (a : Act) (w : World) (o : Oper) (E : Wr) : Prop :=
 E.cond → ∃ n v w' η', (execOp a.eval o).run P w = .ok n w' ∧ (n = .value v ∨ (n = .skip ∧ v = undef)) ∧ (∀ x, E.val = some x → R w' (Fz (Amb w0 ow) η') η' v x) ∧ Sim N w0 ow η' tm (updB bx E.del E.ins) a w'
theorem mentL_lits {b : Nat} (l : List Value) : mentL b (l.map .lit) = false := by
 induction l with
 | nil => rfl
 | cons v l ih => simp [mentL, ment, ih]
theorem wrAlloc_ok (s : Sim N w0 ow η tm bx a w) (hf : Fresh key tm bx) {o : Oper} {t : TypeId} {E : Wr} (ho : o.op = .alloc t) (h : wrAlloc P key t = some E) : Does P N w0 ow tm bx a w o E := by
 simp only [wrAlloc, Option.map_eq_some_iff] at h
 obtain ⟨l, hl, rfl⟩ := h
 intro _
 obtain ⟨z, hz, rfl⟩ := zero_run (P := P) (w := w) hl
 obtain ⟨h1, h2⟩ := s.mkVar hf t (RL_lits z.cells) (mentL_lits _)
 refine ⟨.value (.pointer (some ⟨w.heap.size, 0, none⟩)), .pointer (some ⟨w.heap.size, 0, none⟩), _, _, ?_, .inl rfl, fun x hx => ?_, h2⟩
 simp [execOp, ho, Instr.alloc, hz, newVar, newRow]
 simp at hx; subst hx; exact h1
theorem ment_cells {b : Nat} {y : AV} (h : ment b y = false) : mentL b (cellsA y) = false := by
 cases y <;> first | (simp only [cellsA, ment] at *; exact h) | (simp only [cellsA, mentL, h]; rfl)
theorem wrBox_ok (s : Sim N w0 ow η tm bx a w) (sr : Sim N w0 ow η tmr bxr a w) (hm0 : ∀ x y, evalA tmr x = some y → ment key y = false) (hf : Fresh key tm bx) {o : Oper} {t : TypeId} {x : Operand} {E : Wr} (ho : o.op = .box t x) (h : wrBox key (evalA tmr) bxr x = some E) : Does P N w0 ow tm bx a w o E := by
 unfold wrBox at h
 split at h
 rename_i y hy
 split at h
 rename_i hp
 simp only [Option.some.injEq] at h
 subst h
 intro _
 obtain ⟨g1, g2, g3⟩ := cells_R sr.ctx hp (sr.ev hy)
 obtain ⟨h1, h2⟩ := s.mkVar hf t ⟨g1, g2⟩ (ment_cells (hm0 _ _ hy))
 refine ⟨.value (.pointer (some ⟨w.heap.size, 0, none⟩)), .pointer (some ⟨w.heap.size, 0, none⟩), _, _, ?_, .inl rfl, fun x hx => ?_, h2⟩
 simp [execOp, ho, Instr.box, newVar, newRow]
 simp at hx; subst hx; exact h1
 cases h
 cases h
end
def asStr : AV → Option (List ByteArray)
 | .row .str xs => some xs
 | .lit (.slice none 0 0) => some []
 | _ => none
def asInts (k : IntKind) : AV → Option (List Int)
 | .row (.int j) xs => if j = k then some xs else none
 | .lit (.slice none 0 0) => some []
 | _ => none
def asTrees : AV → Option (List Tree)
 | .row .tree xs => some xs
 | .lit (.slice none 0 0) => some []
 | _ => none
def decTree : List AV → Option Tree
 | [.lit (.int .i64 k), .lit (.bool b), .lit (.bool ng), m, .lit (.int .i64 e), .lit (.string s), ks, vs] =>
  match asInts .u32 m, asStr ks, asTrees vs with
  | some m, some ks, some vs => some (.mk k b ⟨ng, m, e⟩ s ks vs)
  | _, _, _ => none
 | _ => none
def dec : (τ : Ty) → List AV → Option (El τ)
 | .int k, [.lit (.int j n)] => if j = k then some n else none
 | .bool, [.lit (.bool b)] => some b
 | .str, [.lit (.string s)] => some s
 | .strs, [a] => asStr a
 | .trees, [a] => asTrees a
 | .ints k, [a] => asInts k a
 | .num, [.lit (.bool ng), m, .lit (.int .i64 e)] => (asInts .u32 m).map fun m => ⟨ng, m, e⟩
 | .tree, l => decTree l
 | .opn, .lit (.int .i64 k) :: p :: f :: l => match asStr p, asStr f, decTree l with
  | some p, some f, some t => some ⟨k, p, f, t⟩
  | _, _, _ => none
 | .grd, [.lit (.int .i64 k), p] => (asStr p).map fun p => ⟨k, p⟩
 | _, _ => none
section
variable {w : World} {fz : Nat → Prop} {η : Nat → Option Value} {v : Value} {a : AV}
theorem R.nil (τ : Ty) : R w fz η (.slice none 0 0) (.row τ []) := .row_mk (A := none) (c := 0) (xs := []) (Nat.le_refl _) (Nat.zero_le _) (fun i x hx => by simp at hx)
theorem asStr_ok {xs : List ByteArray} (h : asStr a = some xs) (hr : R w fz η v a) : R w fz η v (.row .str xs) := by
 unfold asStr at h
 split at h
 simp only [Option.some.injEq] at h; subst h; exact hr
 simp only [Option.some.injEq] at h; subst h; have e := hr.lit_inv; subst e; exact .nil _
 cases h
theorem asTrees_ok {xs : List Tree} (h : asTrees a = some xs) (hr : R w fz η v a) : R w fz η v (.row .tree xs) := by
 unfold asTrees at h
 split at h
 simp only [Option.some.injEq] at h; subst h; exact hr
 simp only [Option.some.injEq] at h; subst h; have e := hr.lit_inv; subst e; exact .nil _
 cases h
theorem asInts_ok {k : IntKind} {xs : List Int} (h : asInts k a = some xs) (hr : R w fz η v a) : R w fz η v (.row (.int k) xs) := by
 unfold asInts at h
 split at h
 split at h
 rename_i hk; subst hk; simp only [Option.some.injEq] at h; subst h; exact hr
 cases h
 simp only [Option.some.injEq] at h; subst h; have e := hr.lit_inv; subst e; exact .nil _
 cases h
abbrev RLl (w : World) (fz : Nat → Prop) (η : Nat → Option Value) (C : List Value) (l : List AV) : Prop := C.length = l.length ∧ ∀ (j : Nat) u x, C[j]? = some u → l[j]? = some x → R w fz η u x
theorem RLl_cons {v : Value} {C : List Value} {a : AV} {l : List AV} : RLl w fz η (v :: C) (a :: l) ↔ R w fz η v a ∧ RLl w fz η C l := by
 constructor
 ·rintro ⟨h1, h2⟩
  exact ⟨h2 0 v a rfl rfl, by simpa using h1, fun j u x hu hx => h2 (j + 1) u x (by simpa using hu) (by simpa using hx)⟩
 ·rintro ⟨h1, h2, h3⟩
  refine ⟨by simpa using h2, fun j u x hu hx => ?_⟩
  match j with
  | 0 => simp at hu hx; subst hu hx; exact h1
  | j + 1 => simp only [List.getElem?_cons_succ] at hu hx; exact h3 j u x hu hx
theorem RLl_form {C : List Value} {a : AV} {l : List AV} (h : RLl w fz η C (a :: l)) : ∃ v C', C = v :: C' ∧ R w fz η v a ∧ RLl w fz η C' l := by
 cases C with
 | nil => have := h.1; simp at this
 | cons v C => exact ⟨v, C, rfl, RLl_cons.1 h⟩
theorem RLl_nil : RLl w fz η [] [] := ⟨rfl, fun j u x hu => by simp at hu⟩
theorem decTree_ok {C : List Value} {l : List AV} {t : Tree} (h : decTree l = some t) (hr : RLl w fz η C l) : RLl w fz η C (encTree t) := by
 unfold decTree at h
 split at h
 rename_i k b ng m e s ks vs
 split at h
 rename_i m' ks' vs' h1 h2 h3
 simp only [Option.some.injEq] at h
 subst h
 obtain ⟨v0, C, rfl, r0, hr⟩ := RLl_form hr
 obtain ⟨v1, C, rfl, r1, hr⟩ := RLl_form hr
 obtain ⟨v2, C, rfl, r2, hr⟩ := RLl_form hr
 obtain ⟨v3, C, rfl, r3, hr⟩ := RLl_form hr
 obtain ⟨v4, C, rfl, r4, hr⟩ := RLl_form hr
 obtain ⟨v5, C, rfl, r5, hr⟩ := RLl_form hr
 obtain ⟨v6, C, rfl, r6, hr⟩ := RLl_form hr
 obtain ⟨v7, C, rfl, r7, hr⟩ := RLl_form hr
 exact RLl_cons.2 ⟨r0, RLl_cons.2 ⟨r1, RLl_cons.2 ⟨r2, RLl_cons.2 ⟨asInts_ok h1 r3, RLl_cons.2 ⟨r4, RLl_cons.2 ⟨r5, RLl_cons.2 ⟨asStr_ok h2 r6, RLl_cons.2 ⟨asTrees_ok h3 r7, hr⟩⟩⟩⟩⟩⟩⟩⟩
 cases h
 cases h
theorem dec_ok {τ : Ty} {C : List Value} {l : List AV} {x : El τ} (h : dec τ l = some x) (hr : RLl w fz η C l) : RLl w fz η C (enc τ x) := by
 unfold dec at h
 split at h
 split at h
 rename_i hk; subst hk; simp only [Option.some.injEq] at h; subst h; exact hr
 cases h
 simp only [Option.some.injEq] at h; subst h; exact hr
 simp only [Option.some.injEq] at h; subst h; exact hr
 obtain ⟨v0, C, rfl, r0, hr⟩ := RLl_form hr
 exact RLl_cons.2 ⟨asStr_ok h r0, hr⟩
 obtain ⟨v0, C, rfl, r0, hr⟩ := RLl_form hr
 exact RLl_cons.2 ⟨asTrees_ok h r0, hr⟩
 obtain ⟨v0, C, rfl, r0, hr⟩ := RLl_form hr
 exact RLl_cons.2 ⟨asInts_ok h r0, hr⟩
 simp only [Option.map_eq_some_iff] at h
 obtain ⟨m', h1, rfl⟩ := h
 obtain ⟨v0, C, rfl, r0, hr⟩ := RLl_form hr
 obtain ⟨v1, C, rfl, r1, hr⟩ := RLl_form hr
 exact RLl_cons.2 ⟨r0, RLl_cons.2 ⟨asInts_ok h1 r1, hr⟩⟩
 exact decTree_ok h hr
 split at h
 rename_i h1 h2 h3
 simp only [Option.some.injEq] at h
 subst h
 obtain ⟨v0, C, rfl, r0, hr⟩ := RLl_form hr
 obtain ⟨v1, C, rfl, r1, hr⟩ := RLl_form hr
 obtain ⟨v2, C, rfl, r2, hr⟩ := RLl_form hr
 exact RLl_cons.2 ⟨r0, RLl_cons.2 ⟨asStr_ok h1 r1, RLl_cons.2 ⟨asStr_ok h2 r2, decTree_ok h3 hr⟩⟩⟩
 cases h
 simp only [Option.map_eq_some_iff] at h
 obtain ⟨p', h1, rfl⟩ := h
 obtain ⟨v0, C, rfl, r0, hr⟩ := RLl_form hr
 obtain ⟨v1, C, rfl, r1, hr⟩ := RLl_form hr
 exact RLl_cons.2 ⟨r0, RLl_cons.2 ⟨asStr_ok h1 r1, hr⟩⟩
 cases h
theorem enc_one {τ : Ty} {x : El τ} {j : Nat} {y : AV} (h : (enc τ x)[j]? = some y) (hr : R w fz η v y) : v.oneCell' = true := by
 have h0 : ∀ y ∈ enc τ x, (∃ u, y = .lit u ∧ u.oneCell' = true) ∨ ∃ τ' xs, y = .row τ' xs := by
  cases τ <;> simp [enc, encTree, Value.oneCell']
 rcases h0 y (List.mem_of_getElem? h) with ⟨u, rfl, hu⟩ | ⟨τ', xs, rfl⟩
 have e := hr.lit_inv; subst e; exact hu
 obtain ⟨A, c, rfl, _⟩ := hr.row_inv; rfl
end
section
variable {P : Program} {w w' w0 : World} {ow : Own} {η η' : Nat → Option Value} {N key b g : Nat} {tm tmr : Nat → Option AV} {bx bxr : Bx} {a : Act} {u : Value} {B B' : Box}
theorem same_tr (s : Sim N w0 ow η tm bx a w) (hu : η b = some u) (hg : blk u = some g) (cs : Array Value) : Tr η η b w (w.setRow g cs) := by
 refine ⟨rfl, rfl, rfl, by simp, fun k hk hf => setRow_other w g k cs (fun e => hf b u hu (by rw [e]; exact hg)), fun _ _ _ h => h, fun b' u' k hb h hk => setRow_other w g k cs (fun e => hb (s.apart b' b u' u g h hu (e ▸ hk) hg)), fun u' k h hk => ?_⟩
 have := s.new b u' k h hk
 refine ⟨by simp; exact this.1, .inr ⟨b, u', h, hk, fun b' u2 hb h2 hk2 => hb (s.apart b' b u2 u' k h2 h hk2 hk)⟩⟩
theorem Sim.inplace (s : Sim N w0 ow η tm bx a w) (hu : η b = some u) (hg : blk u = some g) (cs : Array Value) (hB : BoxR (w.setRow g cs) (Fz (Amb w0 ow) η) η u B') :
  Sim N w0 ow η tm (updB bx [] [(b, B')]) a (w.setRow g cs) := by
 refine s.tr (c := b) (same_tr s hu hg cs) (.inl fun _ h => h) (fun b' B2 hb hB2 => ?_) (fun B2 hB2 => ?_)
 ·rw [updB_ne1 hb] at hB2; simp at hB2; exact ⟨hB2, rfl⟩
 ·rw [updB_eq1, Option.some.injEq] at hB2; subst hB2; exact ⟨u, hu, hB⟩
def wrStore (P : Program) (ρ : Operand → Option AV) (bx : Bx) (t : TypeId) (x y : Operand) : Option Wr :=
 match ρ x, ρ y, P.info? t with
 | some (.ptr b off), some v, some i => match bx b with
  | some (.var l) => if partsOk bx v = true ∧ (cellsA v).length = i.size ∧ off + i.size ≤ l.length then some ⟨True, none, [], [(b, .var (l.take off ++ cellsA v ++ l.drop (off + i.size)))], false⟩ else none
  | _ => none
 | some (.op τ' b j off), some v, some i => match bx b with
  | some (.sl e τ xs) => if partsOk bx v = true ∧ (cellsA v).length = i.size ∧ off = 0 ∧ i.size = sz τ ∧ sz τ' = sz τ then (dec τ (cellsA v)).map fun x => ⟨j < xs.length, none, [], [(b, .sl e τ (xs.set j x))], false⟩ else none
  | _ => none
 | _, _, _ => none
theorem RL_toList {C : Array Value} {l : List AV} {fz : Nat → Prop} (h : RL w fz η C l) : RLl w fz η C.toList l := ⟨by simpa using h.1, fun j u x hu hx => h.2 j u x (by rw [← Array.getElem?_toList]; exact hu) hx⟩
theorem store_run {t : TypeId} {i : TypeInfo} {g off : Nat} {cur : Array Value} {e : TypeId} {v : Value} (hi : P.info? t = some i) (hg : w.heap[g]? = some (.cells cur e (0, 0))) (hs : v.cells.size = i.size) (hle : off + i.size ≤ cur.size) (h1 : ∀ (j : Nat) u, v.cells[j]? = some u → u.oneCell' = true) :
  (storeVar t ⟨g, off, none⟩ v).run P w = .ok () (w.setRow g (cur.toList.take off ++ v.cells.toList ++ cur.toList.drop (off + v.cells.size)).toArray) := by
 have hr := run_storeCells_at P g off e v.cells.toList 0 cur w hg (by simp; omega) (fun u hu => by
  obtain ⟨j, hj⟩ := List.getElem?_of_mem hu
  rw [Array.getElem?_toList] at hj
  exact h1 j u hj)
 simp only [Nat.add_zero, Array.length_toList] at hr
 simp [storeVar, sizeOf_run hi, hs, hr]
theorem splice_R {C D : List Value} {l m : List AV} {off n : Nat} {fz : Nat → Prop} (h1 : RLl w fz η C l) (h2 : RLl w fz η D m) (hn : D.length = n) (hle : off + n ≤ l.length) : RLl w fz η (C.take off ++ D ++ C.drop (off + n)) (l.take off ++ m ++ l.drop (off + n)) := by
 have e1 := h1.1
 have e2 := h2.1
 refine ⟨by simp; omega, fun j u x hu hx => ?_⟩
 rw [List.append_assoc] at hu hx
 by_cases hj : j < off
 rw [List.getElem?_append_left (by simp; omega), List.getElem?_take, if_pos hj] at hu hx
 exact h1.2 j u x hu hx
 rw [List.getElem?_append_right (by simp; omega)] at hu hx
 have f1 : (l.take off).length = off := by simp; omega
 have f2 : (C.take off).length = off := by simp; omega
 rw [f1] at hx; rw [f2] at hu
 by_cases hj2 : j < off + n
 rw [List.getElem?_append_left (by omega)] at hu hx
 exact h2.2 _ u x hu hx
 rw [List.getElem?_append_right (by omega), List.getElem?_drop] at hu hx
 rw [hn, show off + n + (j - off - n) = j by omega] at hu
 rw [← e2, hn, show off + n + (j - off - n) = j by omega] at hx
 exact h1.2 j u x hu hx
theorem take_splice {α : Type} (C D : List α) (o n m : Nat) (hD : D.length = n) (h : o + n ≤ m) (hm : m ≤ C.length) : (C.take o ++ D ++ C.drop (o + n)).take m = (C.take m).take o ++ D ++ (C.take m).drop (o + n) := by
 have h1 : (C.take o).length = o := by simp; omega
 rw [List.append_assoc, List.take_append, List.take_append, h1, hD, List.take_take, List.take_take, List.drop_take, List.append_assoc, Nat.min_eq_right (by omega), Nat.min_eq_left (by omega), List.take_of_length_le (l := D) (by omega), show m - o - n = m - (o + n) by omega]
theorem wrStore_ok (s : Sim N w0 ow η tm bx a w) (sr : Sim N w0 ow η tmr bxr a w) {o : Oper} {t : TypeId} {x y : Operand} {E : Wr} (ho : o.op = .store t x y) (h : wrStore P (evalA tmr) bxr t x y = some E) : Does P N w0 ow tm bx a w o E := by
 unfold wrStore at h
 split at h
 rename_i b off v i hx hy hi
 split at h
 rename_i l hb
 split at h
 rename_i hc
 obtain ⟨hp, hlen, hle⟩ := hc
 simp only [Option.some.injEq] at h
 subst h
 intro _
 obtain ⟨g1, g2, g3⟩ := cells_R sr.ctx hp (sr.ev hy)
 obtain ⟨u, hu, g, C, e, rfl, q1, q2, q3⟩ := sr.dom b _ hb
 obtain ⟨g', hg, hv⟩ := (sr.ev hx).ptr_inv hu
 injection hg with hg; injection hg with hg; injection hg with hg
 subst hg
 have hrun := store_run (P := P) (w := w) (v := a.eval y) (off := off) hi q1 (by omega) (by omega) g3
 have e9 : (a.eval y).cells.size = i.size := by omega
 rw [e9] at hrun
 have tr := same_tr s hu rfl (C.toList.take off ++ (a.eval y).cells.toList ++ C.toList.drop (off + i.size)).toArray
 refine ⟨.skip, undef, w.setRow g (C.toList.take off ++ (a.eval y).cells.toList ++ C.toList.drop (off + i.size)).toArray, η, ?_, .inr ⟨rfl, rfl⟩, fun x hx => by simp at hx, s.inplace hu rfl (C.toList.take off ++ (a.eval y).cells.toList ++ C.toList.drop (off + i.size)).toArray ⟨g, (C.toList.take off ++ (a.eval y).cells.toList ++ C.toList.drop (off + i.size)).toArray, e, rfl, setRow_heap w g C _ e (0, 0) q1, ?_⟩⟩
 simp [execOp, ho, Instr.storeAt, Instr.sureAddr, hv, hrun]
 have hspl := splice_R (off := off) (RL_toList ⟨q2, q3⟩) (RL_toList ⟨g1, g2⟩) (n := i.size) (by simp; omega) hle
 refine ⟨by simpa using hspl.1, fun j v x hv hx => tr.R ?_ (fun _ _ h => h)⟩
 exact hspl.2 j v x (by simpa using hv) hx
 cases h
 cases h
 rename_i τ' b j off v i hx hy hi
 split at h
 rename_i e τ xs hb
 split at h
 rename_i hc
 obtain ⟨hp, hlen, rfl, hsz, hsz'⟩ := hc
 simp only [Option.map_eq_some_iff] at h
 obtain ⟨x1, hx1, rfl⟩ := h
 intro hj
 obtain ⟨g1, g2, g3⟩ := cells_R sr.ctx hp (sr.ev hy)
 obtain ⟨u, hu, cs, ho2, hel⟩ := sr.dom b _ hb
 obtain ⟨g, n, cc, rfl, hv⟩ := (sr.ev hx).op_inv hu
 rw [hsz'] at hv
 rcases ho2.2 with ⟨hc1, _⟩ | ⟨g', cap, cur, hc1, _, q1, q2, q3, q4, q5⟩
 cases hc1
 injection hc1 with hc1 hc2 hc3; injection hc1 with hc1; injection hc1 with hc1
 subst hc1 hc2 hc3
 have hjb : j * sz τ + sz τ ≤ cur.size := by
  rw [q4]
  have : (j + 1) * sz τ ≤ cc * sz τ := Nat.mul_le_mul_right _ (by simp only at hj; omega)
  rw [Nat.add_mul] at this; omega
 have hrun := store_run (P := P) (w := w) (v := a.eval y) (off := j * sz τ) hi q1 (by omega) (by omega) g3
 have e9 : (a.eval y).cells.size = sz τ := by omega
 rw [e9] at hrun
 have tr := same_tr s hu rfl (cur.toList.take (j * sz τ) ++ (a.eval y).cells.toList ++ cur.toList.drop (j * sz τ + sz τ)).toArray
 have hnew : RLl w (Fz (Amb w0 ow) η) η (a.eval y).cells.toList (enc τ x1) := dec_ok hx1 (RL_toList ⟨g1, g2⟩)
 have hjn : j * sz τ + sz τ ≤ xs.length * sz τ := by
  have : (j + 1) * sz τ ≤ xs.length * sz τ := Nat.mul_le_mul_right _ hj
  rw [Nat.add_mul] at this; omega
 refine ⟨.skip, undef, w.setRow g (cur.toList.take (j * sz τ) ++ (a.eval y).cells.toList ++ cur.toList.drop (j * sz τ + sz τ)).toArray, η, ?_, .inr ⟨rfl, rfl⟩, fun x hx => by simp at hx, s.inplace hu rfl (cur.toList.take (j * sz τ) ++ (a.eval y).cells.toList ++ cur.toList.drop (j * sz τ + sz τ)).toArray ⟨cs.take (j * sz τ) ++ (a.eval y).cells.toList ++ cs.drop (j * sz τ + sz τ), ⟨?_, .inr ⟨g, cc, (cur.toList.take (j * sz τ) ++ (a.eval y).cells.toList ++ cur.toList.drop (j * sz τ + sz τ)).toArray, ?_, Nat.zero_le _, setRow_heap w g cur _ e (0, 0) q1, ?_, q3, ?_, ?_⟩⟩, ?_⟩⟩
 simp [execOp, ho, Instr.storeAt, Instr.sureAddr, hv, hrun]
 have := ho2.1; simp; omega
 simp
 simpa using q2
 simp; omega
 rw [← q5]
 simp only [List.length_set]
 have h9 : xs.length * sz τ ≤ cc * sz τ := Nat.mul_le_mul_right _ q2
 rw [← q4] at h9
 exact take_splice _ _ _ _ _ (by simp; omega) hjn (by rw [Array.length_toList]; exact h9)
 intro i2 x2 j2 y2 hx2 hy2
 have hj2 : j2 < sz τ := by have := (List.getElem?_eq_some_iff.1 hy2).1; rwa [enc_len] at this
 by_cases hij : i2 = j
 subst hij
 rw [List.getElem?_set_self (by simpa using hj)] at hx2
 simp only [Option.some.injEq] at hx2
 subst hx2
 have hlt : j2 < (a.eval y).cells.toList.length := by simp; omega
 refine ⟨(a.eval y).cells.toList[j2], ?_, tr.R (hnew.2 j2 _ _ (List.getElem?_eq_getElem hlt) hy2) (fun _ _ h => h)⟩
 have hc2 : (cs.take (i2 * sz τ)).length = i2 * sz τ := by have := ho2.1; simp; omega
 rw [List.append_assoc, List.getElem?_append_right (by omega), hc2, List.getElem?_append_left (by omega), show i2 * sz τ + j2 - i2 * sz τ = j2 by omega]
 exact List.getElem?_eq_getElem hlt
 rw [List.getElem?_set_ne (Ne.symm hij)] at hx2
 obtain ⟨vv, hvv, hrr⟩ := hel i2 x2 j2 y2 hx2 hy2
 refine ⟨vv, ?_, tr.R hrr (fun _ _ h => h)⟩
 have hc2 : (cs.take (j * sz τ)).length = j * sz τ := by have := ho2.1; simp; omega
 rw [List.append_assoc]
 rcases Nat.lt_or_gt_of_ne hij with hlt | hgt
 have : (i2 + 1) * sz τ ≤ j * sz τ := Nat.mul_le_mul_right _ hlt
 rw [Nat.add_mul] at this
 rw [List.getElem?_append_left (by omega), List.getElem?_take, if_pos (by omega)]; exact hvv
 have : (j + 1) * sz τ ≤ i2 * sz τ := Nat.mul_le_mul_right _ hgt
 rw [Nat.add_mul] at this
 rw [List.getElem?_append_right (by omega), hc2, List.getElem?_append_right (by simp; omega), List.getElem?_drop]
 simp only [Array.length_toList, e9]
 rw [show j * sz τ + sz τ + (i2 * sz τ + j2 - j * sz τ - sz τ) = i2 * sz τ + j2 by omega]; exact hvv
 cases h
 cases h
 cases h
end
def frz1 (bx : Bx) (del : List Nat) : AV → AV
 | .own b => if del.contains b then (match bx b with | some (.sl _ τ xs) => .row τ xs | some (.full _ τ xs) => .rowc τ xs xs.length | _ => .junk) else .own b
 | a => a
def frz (bx : Bx) (del : List Nat) : AV → AV
 | .agg l => .agg (l.map (frz1 bx del))
 | .tup l => .tup (l.map (frz1 bx del))
 | a => frz1 bx del a
def owns1 : AV → List Nat
 | .own b => [b]
 | _ => []
def owns : AV → List Nat
 | .agg l => l.flatMap owns1
 | .tup l => l.flatMap owns1
 | a => owns1 a
section
variable {P : Program} {w w' w0 : World} {ow : Own} {η η' : Nat → Option Value} {N key b g : Nat} {tm : Nat → Option AV} {bx : Bx} {a : Act} {u v : Value} {B : Box} {x : AV}
theorem own_row (s : Sim N w0 ow η tm bx a w) {b : Nat} {u : Value} {e : TypeId} {τ : Ty} {xs : List (El τ)} (hu : η b = some u) (hr : BoxR w (Fz (Amb w0 ow) η) η u (.sl e τ xs)) {η' : Nat → Option Value} (hsub : ∀ b' u', η' b' = some u' → η b' = some u' ∧ b' ≠ b) :
  R w (Fz (Amb w0 ow) η') η' u (.row τ xs) := by
 obtain ⟨cs, ho, hel⟩ := hr
 rcases ho.2 with ⟨rfl, h0⟩ | ⟨g, cap, cur, rfl, _, q1, q2, q3, q4, q5⟩
 ·have : xs = [] := by cases xs; rfl; simp at h0
  subst this
  exact .nil τ
 ·have hlt : g < w.heap.size := (s.new b _ g hu rfl).1
  have hamb : Amb w0 ow g := by
   rcases (s.new b _ g hu rfl).2 with h | h
   ·exact .inr (.inr h)
   ·exact .inr (.inl h)
  refine .row_mk q2 q3 (fun i x hx => ⟨⟨g, 0, none⟩, rfl, ⟨hamb, fun b' u' hb' hk => ?_⟩, hlt, fun j y hy => ?_⟩)
  ·obtain ⟨h1, h2⟩ := hsub b' u' hb'
   exact h2 (s.apart b' b u' _ g h1 hu hk rfl)
  ·obtain ⟨vv, hv, hrr⟩ := hel i x j y hx hy
   refine ⟨vv, ho.cells rfl _ _ hv, hrr.step (Nat.le_refl _) (fun _ _ _ => rfl) (fun k hk _ => ⟨hk.1, fun b' u' hb' => hk.2 b' u' (hsub b' u' hb').1⟩) (fun b' u' _ hu' => (hsub b' u' hu').1)⟩
theorem R_frz1 (s : Sim N w0 ow η tm bx a w) (h : R w (Fz (Amb w0 ow) η) η v x) (del : List Nat) : R w (Fz (Amb w0 ow) (dropη η del)) (dropη η del) v (frz1 bx del x) := by
 unfold frz1
 split
 ·rename_i b
  by_cases hb : del.contains b = true
  ·rw [if_pos hb]
   split
   ·rename_i e τ xs hB
    obtain ⟨u, hu, hr⟩ := s.dom b _ hB
    rw [h.own_inv hu]
    refine own_row s hu hr (fun b' u' hb' => ⟨(drop_some hb').1, fun e => ?_⟩)
    have := (drop_some hb').2
    rw [e, hb] at this; cases this
   ·rename_i e τ xs hB
    obtain ⟨u, hu, hr, hc⟩ := s.dom b _ hB
    rw [h.own_inv hu]
    have h0 := own_row s hu hr (η' := dropη η del) (fun b' u' hb' => ⟨(drop_some hb').1, fun e => by
     have := (drop_some hb').2
     rw [e, hb] at this; cases this⟩)
    obtain ⟨A, c, rfl, _⟩ := h0.row_inv
    obtain rfl := hc A _ c rfl
    exact .rowc _ _ _ _ h0
   ·exact .junk _
  ·rw [if_neg hb]; exact R_drop h del
 ·exact R_drop h del
theorem R_frz (s : Sim N w0 ow η tm bx a w) (h : R w (Fz (Amb w0 ow) η) η v x) (del : List Nat) : R w (Fz (Amb w0 ow) (dropη η del)) (dropη η del) v (frz bx del x) := by
 unfold frz
 split
 obtain ⟨vs, rfl, hl, hR⟩ := h.agg_inv
 refine .agg _ _ (by simpa using hl) (fun j u y hu hy => ?_)
 rw [List.getElem?_map, Option.map_eq_some_iff] at hy
 obtain ⟨y0, hy0, rfl⟩ := hy
 exact R_frz1 s (hR j u y0 hu hy0) del
 obtain ⟨vs, rfl, hl, hR⟩ := h.tup_inv
 refine .tup _ _ (by simpa using hl) (fun j u y hu hy => ?_)
 rw [List.getElem?_map, Option.map_eq_some_iff] at hy
 obtain ⟨y0, hy0, rfl⟩ := hy
 exact R_frz1 s (hR j u y0 hu hy0) del
 exact R_frz1 s h del
def evF (tm : Nat → Option AV) (bx : Bx) (del : List Nat) (x : Operand) : Option AV := (evalA tm x).map (frz bx del)
theorem Sim.ctxF (s : Sim N w0 ow η tm bx a w) (del : List Nat) : Ctx w (Fz (Amb w0 ow) (dropη η del)) (dropη η del) a.eval (evF tm bx del) (updB bx del []) := by
 refine ⟨fun x y h => ?_, (s.drop del).dom⟩
 simp only [evF, Option.map_eq_some_iff] at h
 obtain ⟨y0, h0, rfl⟩ := h
 exact R_frz s (s.ev h0) del
theorem Sim.grow (s : Sim N w0 ow η tm bx a w) (hf : Fresh key tm bx) {row : Option Nat} {del : List Nat} (hg : w.grownBy w' row) (hrow : row = none ∨ ∃ b u, del.contains b = true ∧ η b = some u ∧ blk u = row)
  (hv : ∀ k, blk v = some k → k < w'.heap.size ∧ (w.heap.size ≤ k ∨ row = some k)) :
  Tr η (setη (dropη η del) key v) key w w' ∧ ((BoxR w' (Fz (Amb w0 ow) (setη (dropη η del) key v)) (setη (dropη η del) key v) v B) → Sim N w0 ow (setη (dropη η del) key v) tm (updB bx del [(key, B)]) a w') := by
 have hsub : ∀ b' u', b' ≠ key → setη (dropη η del) key v b' = some u' → η b' = some u' ∧ del.contains b' = false := fun b' u' hb h => by
  simp only [setη] at h; rw [if_neg hb] at h; exact drop_some h
 have hne : ∀ b' u' k, b' ≠ key → setη (dropη η del) key v b' = some u' → blk u' = some k → row ≠ some k := by
  intro b' u' k hb h hk
  obtain ⟨h1, h2⟩ := hsub b' u' hb h
  rcases hrow with rfl | ⟨b, u, hd, hu, hr⟩
  ·exact fun h => by cases h
  ·intro he
   have := s.apart b' b u' u k h1 hu hk (hr.trans he)
   rw [this, hd] at h2; cases h2
 have tr : Tr η (setη (dropη η del) key v) key w w' := by
  refine ⟨hg.os, hg.tape, hg.output, hg.size, fun k hk hf2 => hg.block k hk (fun he => ?_), fun b' u' hb h => (hsub b' u' hb h).1, fun b' u' k hb h hk => hg.block k (s.bound b' u' k (hsub b' u' hb h).1 hk) (fun he => hne b' u' k hb h hk he.symm), fun u' k h hk => ?_⟩
  ·rcases hrow with rfl | ⟨b, u, _, hu, hr⟩
   ·cases he
   ·exact hf2 b u hu (hr.trans he.symm)
  ·simp only [setη, if_true, Option.some.injEq] at h
   subst h
   obtain ⟨h1, h2⟩ := hv k hk
   refine ⟨h1, ?_⟩
   rcases h2 with h2 | h2
   ·exact .inl h2
   ·rcases hrow with rfl | ⟨b, u, hd, hu, hr⟩
    ·cases h2
    ·exact .inr ⟨b, u, hu, hr.trans h2, fun b' u' hb h hk2 => hne b' u' k hb h hk2 h2⟩
 refine ⟨tr, fun hB => s.tr tr (.inr ⟨hf.2.2, hf.1, fun b' B' hb hB' => ?_⟩) (fun b' B' hb hB' => ?_) (fun B' hB' => ?_)⟩
 ·rw [updB_ne1 hb] at hB'
  split at hB'
  ·cases hB'
  ·exact hf.2.1 b' B' hB'
 ·rw [updB_ne1 hb] at hB'
  split at hB'
  ·cases hB'
  ·rename_i hc; exact ⟨hB', by simp only [setη, dropη]; rw [if_neg hb, if_neg hc]⟩
 ·rw [updB_eq1, Option.some.injEq] at hB'
  subst hB'
  exact ⟨v, by simp [setη], hB⟩
def decN (τ : Ty) : Nat → List AV → Option (List (El τ))
 | 0, l => match l with
  | [] => some []
  | _ => none
 | n + 1, l => match dec τ (l.take (sz τ)), decN τ n (l.drop (sz τ)) with
  | some x, some xs => some (x :: xs)
  | _, _ => none
theorem decN_ok {τ : Ty} {fz : Nat → Prop} {η : Nat → Option Value} : ∀ (n : Nat) (l : List AV) (C : List Value) (xs : List (El τ)), decN τ n l = some xs → RLl w fz η C l → xs.length = n ∧ C.length = n * sz τ ∧ ∀ i x (j : Nat) y, xs[i]? = some x → (enc τ x)[j]? = some y → ∃ v, C[i * sz τ + j]? = some v ∧ R w fz η v y
 | 0, l, C, xs, h, hr => by
  simp only [decN] at h
  split at h
  ·simp only [Option.some.injEq] at h
   subst h
   exact ⟨rfl, by simpa using hr.1, fun i x j y hx => by simp at hx⟩
  ·cases h
 | n + 1, l, C, xs, h, hr => by
  simp only [decN] at h
  split at h
  ·rename_i x xs' h1 h2
   simp only [Option.some.injEq] at h
   subst h
   have hlen := hr.1
   have hd : RLl w fz η (C.drop (sz τ)) (l.drop (sz τ)) := ⟨by simp; omega, fun j u y hu hy => hr.2 _ u y (by rw [List.getElem?_drop] at hu; exact hu) (by rw [List.getElem?_drop] at hy; exact hy)⟩
   have ht : RLl w fz η (C.take (sz τ)) (l.take (sz τ)) := ⟨by simp; omega, fun j u y hu hy => by
    rw [List.getElem?_take] at hu hy
    split at hu
    ·rename_i hj; rw [if_pos hj] at hy; exact hr.2 _ u y hu hy
    ·cases hu⟩
   obtain ⟨i1, i2, i3⟩ := decN_ok n _ _ _ h2 hd
   have hx := dec_ok h1 ht
   have hsz : (C.take (sz τ)).length = sz τ := by rw [hx.1, enc_len]
   refine ⟨by simp [i1], ?_, fun i x0 j y hx0 hy => ?_⟩
   ·simp at hsz i2; rw [Nat.add_mul]; omega
   ·have hj : j < sz τ := by have := (List.getElem?_eq_some_iff.1 hy).1; rwa [enc_len] at this
    match i with
    | 0 =>
     simp only [List.getElem?_cons_zero, Option.some.injEq] at hx0
     subst hx0
     have hjl : j < (C.take (sz τ)).length := by omega
     refine ⟨(C.take (sz τ))[j], ?_, hx.2 j _ y (List.getElem?_eq_getElem hjl) hy⟩
     rw [Nat.zero_mul, Nat.zero_add]
     have := List.getElem?_eq_getElem hjl
     rw [List.getElem?_take, if_pos hj] at this
     exact this
    | i + 1 =>
     simp only [List.getElem?_cons_succ] at hx0
     obtain ⟨vv, hv, hrr⟩ := i3 i x0 j y hx0 hy
     refine ⟨vv, ?_, hrr⟩
     rw [List.getElem?_drop] at hv
     rw [Nat.add_mul, Nat.one_mul, show i * sz τ + sz τ + j = sz τ + (i * sz τ + j) by omega]; exact hv
  ·cases h
end
end Go.Proofs.YtfimffgfnhplkaaGreatDoor.F
