import Derived.Test.YtondpnipoogoiaaGreatDoorE10
import Derived.Test.YtondpnipoogoiaaGreatDoorE7
import Derived.Test.YtondpnipoogoiaaGreatDoorE9
import Derived.Test.YtondpnipoogoiaaGreatDoorE4
import Derived.Lib.SplitLaws
import Derived.Recover
set_option maxRecDepth 100000
set_option linter.unusedVariables false
set_option linter.unusedSimpArgs false
namespace Go.Proofs.YtondpnipoogoiaaGreatDoor.F
open Go Go.RowKit Go.Proofs.Tryz
abbrev sL (l : List Int) (i : Nat) : List Int := (l.take ((i : Int) + 4).toNat).drop ((i : Int) + 1).toNat
abbrev gL (l : List Int) (i : Nat) (c : Int) : Int := l.getD ((i : Int) + c).toNat (dflt (.int .i64))
abbrev kE (l : List Int) (i : Nat) : Int := 1 + (vW l i).tmod 6
def pathE (t : Tree) (l : List Int) (i : Nat) : List ByteArray := wayF t ((l.take ((i : Int) + 4).toNat).drop ((i : Int) + 1).toNat)
def frmE (t : Tree) (l : List Int) (i : Nat) : List ByteArray := if (kE l i == 4) = true then wayF t [l.getD ((i : Int) + 4).toNat (dflt (.int .i64)), l.getD ((i : Int) + 3).toNat (dflt (.int .i64))] else if (kE l i == 5) = true then wayF t [l.getD ((i : Int) + 4).toNat (dflt (.int .i64)), l.getD ((i : Int) + 3).toNat (dflt (.int .i64))] else []
def keepE (t : Tree) (l : List Int) (i : Nat) : Bool := (getR (pathE t l i) t).2 && (decide ((vW l i).tmod 7 > 0) && decide ((nodes (getR (pathE t l i) t).1 : Int) ≤ 20))
def valE (t : Tree) (l : List Int) (i : Nat) : Tree := if (kE l i == 1) = true then (madeF 2 [l.getD ((i : Int) + 4).toNat (dflt (.int .i64)), l.getD ((i : Int) + 3).toNat (dflt (.int .i64)), l.getD ((i : Int) + 2).toNat (dflt (.int .i64))]).1 else if (kE l i == 3) = true then (madeF 2 [l.getD ((i : Int) + 4).toNat (dflt (.int .i64)), l.getD ((i : Int) + 3).toNat (dflt (.int .i64)), l.getD ((i : Int) + 2).toNat (dflt (.int .i64))]).1
 else if (kE l i == 6) = true then (if keepE t l i = true then (getR (pathE t l i) t).1 else (madeF 1 [l.getD ((i : Int) + 4).toNat (dflt (.int .i64))]).1) else Tree.zero
def eOp (t : Tree) (l : List Int) (i : Nat) : Opn := ⟨kE l i, pathE t l i, frmE t l i, valE t l i⟩
abbrev eOne (t : Tree) (l : List Int) (i : Nat) : Tree × Bool := oneR t (eOp t l i).op (eOp t l i).path (eOp t l i).frm (eOp t l i).value
def skipE (t : Tree) (l : List Int) (i : Nat) : Bool := if (eOne t l i).2 = true then decide ((nodes (eOne t l i).1 : Int) > 200) || decide ((depth (eOne t l i).1 : Int) > 20) else decide ((vW l i).tmod 11 > 0)
def nextE (t : Tree) (l : List Int) (i : Nat) : Tree := if (eOne t l i).2 = true then (eOne t l i).1 else t
def edG : Nat → Nat → Tree → List Int → List Opn
 | 0, _, _, _ => []
 | n + 1, i, t, l => if i + 4 < l.length ∧ i < 60 then (if skipE t l i = true then edG n (i + 5) t l else eOp t l i :: edG n (i + 5) (nextE t l i) l) else []
def editsF (t : Tree) (l : List Int) : List Opn := edG 13 0 t l
theorem frm_none {t : Tree} {l : List Int} {i : Nat} (h4 : 1 + (vW l i).tmod 6 ≠ 4) (h5 : 1 + (vW l i).tmod 6 ≠ 5) : frmE t l i = [] := by
 unfold frmE
 rw [if_neg (by simpa using h4), if_neg (by simpa using h5)]
theorem frm_some {t : Tree} {l : List Int} {i : Nat} (h : 1 + (vW l i).tmod 6 = 4 ∨ 1 + (vW l i).tmod 6 = 5) : frmE t l i = wayF t [l.getD ((i : Int) + 4).toNat (dflt (.int .i64)), l.getD ((i : Int) + 3).toNat (dflt (.int .i64))] := by
 unfold frmE
 split
 rfl
 rename_i h4
 rw [if_pos (by rcases h with h | h; exact absurd (show (kE l i == 4) = true by simpa using h) h4; simpa using h)]
theorem val_made {t : Tree} {l : List Int} {i : Nat} (h : 1 + (vW l i).tmod 6 = 1 ∨ 1 + (vW l i).tmod 6 = 3) : valE t l i = (madeF 2 [l.getD ((i : Int) + 4).toNat (dflt (.int .i64)), l.getD ((i : Int) + 3).toNat (dflt (.int .i64)), l.getD ((i : Int) + 2).toNat (dflt (.int .i64))]).1 := by
 unfold valE
 split
 rfl
 rename_i h4
 rw [if_pos (by rcases h with h | h; exact absurd (show (kE l i == 1) = true by simpa using h) h4; simpa using h)]
theorem val_six {t : Tree} {l : List Int} {i : Nat} (h : 1 + (vW l i).tmod 6 = 6) : valE t l i = if keepE t l i = true then (getR (pathE t l i) t).1 else (madeF 1 [l.getD ((i : Int) + 4).toNat (dflt (.int .i64))]).1 := by
 have h' : kE l i = 6 := h
 unfold valE
 rw [if_neg (by rw [h']; decide), if_neg (by rw [h']; decide), if_pos (by rw [h']; rfl)]
theorem val_keep {t : Tree} {l : List Int} {i : Nat} (h : 1 + (vW l i).tmod 6 = 6) (hk : keepE t l i = true) : valE t l i = (getR (pathE t l i) t).1 := by rw [val_six h, if_pos hk]
theorem val_test {t : Tree} {l : List Int} {i : Nat} (h : 1 + (vW l i).tmod 6 = 6) (hk : keepE t l i = false) : valE t l i = (madeF 1 [l.getD ((i : Int) + 4).toNat (dflt (.int .i64))]).1 := by rw [val_six h, if_neg (by rw [hk]; decide)]
theorem val_none {t : Tree} {l : List Int} {i : Nat} (h1 : 1 + (vW l i).tmod 6 ≠ 1) (h3 : 1 + (vW l i).tmod 6 ≠ 3) (h6 : 1 + (vW l i).tmod 6 ≠ 6) : valE t l i = Tree.zero := by
 unfold valE
 rw [if_neg (by simpa using h1), if_neg (by simpa using h3), if_neg (by simpa using h6)]
theorem keepE_yes {t : Tree} {l : List Int} {i : Nat} (h1 : (getR (pathE t l i) t).2 = true) (h2 : decide ((vW l i).tmod 7 > 0) = true) (h3 : decide ((nodes (getR (pathE t l i) t).1 : Int) ≤ 20) = true) : keepE t l i = true := by
 unfold keepE; rw [h1, h2, h3]; rfl
theorem keepE_no1 {t : Tree} {l : List Int} {i : Nat} (h1 : (getR (pathE t l i) t).2 = false) : keepE t l i = false := by unfold keepE; rw [h1]; rfl
theorem keepE_no2 {t : Tree} {l : List Int} {i : Nat} (h2 : decide ((vW l i).tmod 7 > 0) = false) : keepE t l i = false := by unfold keepE; rw [h2]; simp
theorem keepE_no3 {t : Tree} {l : List Int} {i : Nat} (h3 : decide ((nodes (getR (pathE t l i) t).1 : Int) ≤ 20) = false) : keepE t l i = false := by unfold keepE; rw [h3]; simp
structure GoodE (t : Tree) : Prop where
 good : GoodN 200 20 t
 few : nodes t ≤ 200
theorem GoodE.fine {t : Tree} (h : GoodE t) : fineT t := goodN_fine (by decide) h.good
theorem GoodE.chk {t : Tree} (h : GoodE t) : ∃ d n, (chk t d n).1 = true := ⟨1, 2000, (chk_goodN h.good (by decide) (by have := h.few; omega)).1⟩
theorem path_good {t : Tree} (h : GoodE t) (l : List Int) : ∀ x ∈ wayF t l, textOk x = true := way_text 4 l h.good
theorem pathE_good {t : Tree} (h : GoodE t) (l : List Int) (i : Nat) : ∀ x ∈ pathE t l i, textOk x = true := path_good h _
theorem frm_good {t : Tree} (h : GoodE t) (l : List Int) (i : Nat) : ∀ x ∈ frmE t l i, textOk x = true := by
 unfold frmE
 split
 exact path_good h _
 split
 exact path_good h _
 intro x hx; simp at hx
theorem frm_len (t : Tree) (l : List Int) (i : Nat) : (frmE t l i).length ≤ 4 := by
 unfold frmE
 split
 exact way_len 4 _ t
 split
 exact way_len 4 _ t
 simp
theorem val_good {t : Tree} (h : GoodE t) (l : List Int) (i : Nat) : valE t l i = Tree.zero ∨ GoodN 200 20 (valE t l i) := by
 unfold valE
 split
 exact .inr (goodN_mono (by decide) (by decide) (goodN_T (good_made 2 _)))
 split
 exact .inr (goodN_mono (by decide) (by decide) (goodN_T (good_made 2 _)))
 split
 split
 rename_i hk
 unfold keepE at hk
 rw [Bool.and_eq_true] at hk
 exact .inr (good_getR _ h.good hk.1)
 exact .inr (goodN_mono (by decide) (by decide) (goodN_T (good_made 1 _)))
 exact .inl rfl
theorem val_fine {t : Tree} (h : GoodE t) (l : List Int) (i : Nat) : fineT (valE t l i) := by
 rcases val_good h l i with e | e
 rw [e]; exact fine_zero
 exact goodN_fine (by decide) e
theorem next_good {t : Tree} (h : GoodE t) {l : List Int} {i : Nat} (hs : skipE t l i = false) : GoodE (nextE t l i) := by
 unfold nextE
 split
 ·rename_i hb
  unfold skipE at hs
  rw [if_pos hb, Bool.or_eq_false_iff, decide_eq_false_iff_not, decide_eq_false_iff_not] at hs
  obtain ⟨D', hg⟩ := good_oneR (n := 200) (E := 20) (p := (eOp t l i).path) (f := (eOp t l i).frm) (k := (eOp t l i).op) (v := (eOp t l i).value) (by decide) (pathE_good h l i) (frm_good h l i) h.good (fun hk => by
   rcases val_good h l i with e | e
   ·exfalso
    have hk' : kE l i = 1 ∨ kE l i = 3 := hk
    have h3 : GoodN 3 3 (valE t l i) := by
     unfold valE
     rcases hk' with hk | hk
     ·rw [if_pos (by rw [hk]; rfl)]; exact goodN_T (good_made 2 _)
     ·split
      ·exact goodN_T (good_made 2 _)
      ·rw [if_pos (by rw [hk]; rfl)]; exact goodN_T (good_made 2 _)
    rw [e] at h3
    have h4 := h3.1.own
    exact absurd h4 (by decide +kernel)
   ·exact e) hb
  exact ⟨goodN_depth (goodN_len hg (by omega)) (by omega), by omega⟩
 ·exact h
theorem add_nodes (t : Tree) (p : List ByteArray) (v : Tree) : nodes (addR t p v).1 ≤ 2 * nodes t + nodes v := by
 have hz := zero_nodes
 have hp := nodes_pos t
 have hx := getR_nodes (upF p) t
 have items : ∀ i, nodes (itemsT (insV (getR (upF p) t).1.v i v)) ≤ nodes t + nodes v := fun i => by
  rw [items_nodes, ins_nodes]
  have := nodes_eq (getR (upF p) t).1; omega
 unfold addR
 split
 show nodes v ≤ _; omega
 split
 split
 have h1 := putR_nodes (upF p) t (setT (getR (upF p) t).1 (lastF p) v)
 have h2 := set_nodes (getR (upF p) t).1 (lastF p) v
 omega
 split
 split
 exact Nat.le_trans (putR_nodes ..) (by have := items (getR (upF p) t).1.v.length; omega)
 split
 exact Nat.le_trans (putR_nodes ..) (by have := items (indexF (lastF p) ((getR (upF p) t).1.v.length : Int)).1.toNat; omega)
 show nodes Tree.zero ≤ _; omega
 show nodes Tree.zero ≤ _; omega
 show nodes Tree.zero ≤ _; omega
theorem one_nodes (t : Tree) (k : Int) (p f : List ByteArray) (v : Tree) : nodes (oneR t k p f v).1 ≤ 5 * nodes t + nodes v := by
 have hz := zero_nodes
 have hp := nodes_pos t
 unfold oneR
 split
 have := add_nodes t p v; omega
 split
 have := remove_nodes t p; omega
 split
 have := putR_nodes p t v; omega
 split
 unfold moveR
 split
 split
 show nodes Tree.zero ≤ _; omega
 split
 show nodes t ≤ _; omega
 split
 have h1 := add_nodes (removeR t f).1 p (getR f t).1
 have h2 := remove_nodes t f
 have h3 := getR_nodes f t
 omega
 show nodes Tree.zero ≤ _; omega
 show nodes Tree.zero ≤ _; omega
 split
 split
 have h1 := add_nodes t p (getR f t).1
 have h3 := getR_nodes f t
 omega
 show nodes Tree.zero ≤ _; omega
 split
 show nodes t ≤ _; omega
 show nodes Tree.zero ≤ _; omega
theorem val_nodes {t : Tree} (h : GoodE t) (l : List Int) (i : Nat) : nodes (valE t l i) ≤ 40 := by
 have m2 : ∀ l, nodes (madeF 2 l).1 ≤ 40 := fun l => Nat.le_trans (good_nodes (good_made 2 l)) (by decide)
 have m1 : ∀ l, nodes (madeF 1 l).1 ≤ 40 := fun l => Nat.le_trans (good_nodes (good_made 1 l)) (by decide)
 unfold valE
 split
 exact m2 _
 split
 exact m2 _
 split
 split
 rename_i hk
 unfold keepE at hk
 simp only [Bool.and_eq_true, decide_eq_true_eq] at hk
 omega
 exact m1 _
 rw [zero_nodes]; decide
theorem one_few {t : Tree} (h : GoodE t) (l : List Int) (i : Nat) : nodes (eOne t l i).1 ≤ 2000 := by
 have h1 := one_nodes t (eOp t l i).op (eOp t l i).path (eOp t l i).frm (eOp t l i).value
 have h2 : nodes (eOp t l i).value ≤ 40 := val_nodes h l i
 have := h.few
 show nodes (oneR t (eOp t l i).op (eOp t l i).path (eOp t l i).frm (eOp t l i).value).1 ≤ 2000
 omega
theorem eOp_eq {t : Tree} {l : List Int} {i : Nat} {F : List ByteArray} {X : Tree} (hF : frmE t l i = F) (hX : valE t l i = X) : eOp t l i = ⟨kE l i, pathE t l i, F, X⟩ := by unfold eOp; rw [hF, hX]
theorem nextE_yes {t : Tree} {l : List Int} {i : Nat} (h : (eOne t l i).2 = true) : nextE t l i = (eOne t l i).1 := if_pos h
theorem nextE_no {t : Tree} {l : List Int} {i : Nat} (h : (eOne t l i).2 = false) : nextE t l i = t := if_neg (by rw [h]; decide)
structure EdJ (t0 : Tree) (l : List Int) (i : Nat) (t : Tree) (m : List Opn) : Prop where
 ex : ∃ j n, i = 5 * j ∧ j + n = 13 ∧ m ++ edG n i t l = editsF t0 l ∧ m.length ≤ j
 good : GoodE t
theorem EdJ.start {t : Tree} (l : List Int) (h : GoodE t) : EdJ t l 0 t [] := ⟨⟨0, 13, rfl, rfl, rfl, Nat.le_refl _⟩, h⟩
theorem EdJ.le {t0 t : Tree} {l : List Int} {i : Nat} {m : List Opn} (h : EdJ t0 l i t m) : i ≤ 65 ∧ m.length ≤ 13 := by
 obtain ⟨j, n, h1, h2, _, h3⟩ := h.ex; omega
theorem EdJ.pass {t0 t : Tree} {l : List Int} {i : Nat} {m : List Opn} (h : EdJ t0 l i t m) (h1 : i + 4 < l.length) (h2 : i < 60) (hs : skipE t l i = true) : EdJ t0 l (i + 5) t m := by
 obtain ⟨j, n, e1, e2, e3, e4⟩ := h.ex
 obtain ⟨n, rfl⟩ : ∃ n', n = n' + 1 := ⟨n - 1, by omega⟩
 rw [edG, if_pos ⟨h1, h2⟩, if_pos hs] at e3
 exact ⟨⟨j + 1, n, by omega, by omega, e3, by omega⟩, h.good⟩
theorem EdJ.take {t0 t : Tree} {l : List Int} {i : Nat} {m : List Opn} (h : EdJ t0 l i t m) (h1 : i + 4 < l.length) (h2 : i < 60) (hs : skipE t l i = false) : EdJ t0 l (i + 5) (nextE t l i) (m ++ [eOp t l i]) := by
 obtain ⟨j, n, e1, e2, e3, e4⟩ := h.ex
 obtain ⟨n, rfl⟩ : ∃ n', n = n' + 1 := ⟨n - 1, by omega⟩
 rw [edG, if_pos ⟨h1, h2⟩, if_neg (by rw [hs]; decide)] at e3
 exact ⟨⟨j + 1, n, by omega, by omega, by rw [List.append_assoc]; exact e3, by simp; omega⟩, next_good h.good hs⟩
theorem EdJ.fin {t0 t : Tree} {l : List Int} {i : Nat} {m : List Opn} (h : EdJ t0 l i t m) (h1 : ¬ (i + 4 < l.length ∧ i < 60)) : m = editsF t0 l := by
 obtain ⟨j, n, e1, e2, e3, e4⟩ := h.ex
 have : edG n i t l = [] := by
  cases n with
  | zero => rfl
  | succ n => rw [edG, if_neg h1]
 rw [this, List.append_nil] at e3
 exact e3
theorem con13d (d : Nat) (hd : d < 1000) (l : List Int) : Con Tryz.prog I0 13 [.row (.int .i64) l, vi (d : Int)] (.val (.agg (encTree ((madeF d l).1)))) := by
 refine con_of Tryz.func13 rfl (Nat.le_of_ble_eq_true rfl) stab (fun w0 fz a hI hs => ?_)
 refine wL hs hI [(1, rc [(2, ciV 54 [.row (.int .i64) l, vi (d : Int)] (.tup [aTr (((madeF d l).1)), .row (.int .i64) ((madeF d l).2)]))])] [] 1982661884020 [] .ret [(4, .ptr 1000 0)] [(1000, bTr (((madeF d l).1)))] ⟨con54 d hd _, tv⟩ fun a w hs => ?_
 exact rK (.val (aTr (((madeF d l).1)))) [] hs rfl
theorem con19 (t0 : Tree) (l : List Int) (hg : GoodE t0) (hl : l.length < 4611686018427387904) : Con Tryz.prog I0 19 [.agg (encTree t0), .row (.int .i64) l] (.own 80 .opn (editsF t0 l)) := by
 refine con_of Tryz.func19 rfl (Nat.le_of_ble_eq_true rfl) stab (fun w0 fz a hI hs => ?_)
 refine wNs hs hI [] 8 [] [(1, .row (.int .i64) l), (2, .ptr 1000 0)] [(1000, bTr (t0))] fun a w hs => ?_
 refine wNs hs hI [] 11 [] [(1, .row (.int .i64) l), (2, .ptr 1000 0), (5, nilv)] [(1000, bTr (t0))] fun a w hs => ?_
 refine wp_seq ?_
 refine wNs hs hI [] 11 [] [(1, .row (.int .i64) l), (2, .ptr 1000 0), (5, nilv), (6, vi 0)] [(1000, bTr (t0))] fun a w hs => ?_
 refine wp_block ?_
 refine loop_L (N := Tryz.f19.ntmps) (w0 := w0) (ow := noO fz) (α := Nat × Tree × List Opn) (fun p => [(1, .row (.int .i64) l), (2, .ptr 90000001 0), (5, .own 90000002), (6, vi ((p.1 : Nat) : Int))]) (fun p => [(90000001, bTr (p.2.1)), (90000002, .sl 80 .opn p.2.2)]) (fun p => EdJ t0 l p.1 p.2.1 p.2.2) (fun p => 65 - p.1) (0, t0, []) ?_ ?_ ?_
 exact EdJ.start l hg
 (have hs := (hs.nil 10000005 5 80 .opn (by kernel_rfl) (by decide) (by kernel_rfl) (by kernel_rfl)).rmT [(1, .row (.int .i64) l), (2, .ptr 1000 0), (5, .own 10000005), (6, vi 0)] [(1000, bTr (t0)), (10000005, .sl 80 .opn ([]))] [(1000, 1000), (10000005, 10000005)] (by kernel_rfl); exact (hs.cst [(1, .row (.int .i64) l), (2, .ptr 1000 0), (5, .own 10000005), (6, vi ((0 : Nat) : Int))] [(1000, bTr (t0)), (10000005, .sl 80 .opn ([]))] rfl).rk [(90000001, 1000), (90000002, 10000005)])
 rintro ⟨i, t, m⟩ hJ a w hs
 try dsimp only at hJ
 have hle := hJ.le
 have hv := vW_in l i
 have h6 := tm_w (n := 6) hv.1 (by decide)
 have h7 := tm_w (n := 7) hv.1 (by decide)
 have h11 := tm_w (n := 11) hv.1 (by decide)
 refine wp_seq ?_
 rcases bd (((i : Int) + 4) < (l.length : Int)) with ⟨b1, n1⟩ | ⟨b1, n1⟩
 rcases bd ((i : Int) < 60) with ⟨b2, n2⟩ | ⟨b2, n2⟩
 refine wL hs hI [(3, rg [] [6, 7, 1008] [])] (bz 1 1) 72966777871 [q3 ((i : Int) + 4), q1 b1, q1 b1, q1 b1, q1 b2] .norm [(1, .row (.int .i64) l), (2, .ptr 90000001 0), (5, .own 90000002), (6, vi (i : Int))] [(90000001, bTr (t)), (90000002, .sl 80 .opn m)] tv fun a w hs => ?_
 refine then_norm ?_
 refine wp_seq ?_
 refine wp_block ?_
 refine wLs hs hI [(5, rc [(4, ciV 17 [vi (l.getD i (dflt (.int .i64))), vi 1048576] (vi (vW l i)))])] [] 11470 [q4 (i : Int) l.length] [(1, .row (.int .i64) l), (2, .ptr 90000001 0), (5, .own 90000002), (6, vi (i : Int)), (7, vi (vW l i))] [(90000001, bTr (t)), (90000002, .sl 80 .opn m)] ⟨con17 _ _ (by decide) (by decide), tv⟩ fun a w hs => ?_
 refine wLs hs hI [(6, rc [(10, ciV 62 [aTr (t), .row (.int .i64) (sL l i)] (rwS (wayF t (sL l i))))])] [] 1843370731 [q6 6, q3 (1 + ((vW l i).tmod 6)), q3 ((i : Int) + 1), q3 ((i : Int) + 4), ⟨0 ≤ ((i : Int) + 1) ∧ ((i : Int) + 1) ≤ ((i : Int) + 4) ∧ ((i : Int) + 4) ≤ (l.length : Int) ∧ (l.length : Int) ≤ (l.length : Int), (by (repeat' apply And.intro) <;> (try split) <;> omega)⟩] [(1, .row (.int .i64) l), (2, .ptr 90000001 0), (5, .own 90000002), (6, vi (i : Int)), (7, vi (vW l i)), (8, .ptr 7012 0)] [(7012, .var [vi (1 + ((vW l i).tmod 6)), rwS (wayF t (sL l i)), nilv, vi 0, vb false, vb false, nilv, vi 0, vs (ba []), nilv, nilv]), (90000001, bTr (t)), (90000002, .sl 80 .opn m)] ⟨(con62 _ _ hJ.good.chk hJ.good.fine (by first | (simp; done) | (simp; omega))).frz, tv⟩ fun a w hs => ?_
 refine wLs hs hI [(7, rc [(3, ciV 63 [aTr (t), rwS (wayF t (sL l i))] (.tup [aTr (((getR (wayF t (sL l i)) t).1)), vb ((getR (wayF t (sL l i)) t).2)]))])] [] 18848 [] [(1, .row (.int .i64) l), (2, .ptr 90000001 0), (5, .own 90000002), (6, vi (i : Int)), (7, vi (vW l i)), (8, .ptr 7012 0), (9, .ptr 8007 0), (10, vb ((getR (wayF t (sL l i)) t).2))] [(7012, .var [vi (1 + ((vW l i).tmod 6)), rwS (wayF t (sL l i)), nilv, vi 0, vb false, vb false, nilv, vi 0, vs (ba []), nilv, nilv]), (8007, bTr (((getR (wayF t (sL l i)) t).1))), (90000001, bTr (t)), (90000002, .sl 80 .opn m)] ⟨con63 _ _ (Nat.lt_of_le_of_lt hJ.good.few (by decide)) (Nat.lt_of_le_of_lt (way_len 4 _ _) (by decide)), tv⟩ fun a w hs => ?_
 refine wp_cut (N := Tryz.f19.ntmps) (w0 := w0) (ow := noO fz) (T := [(1, .row (.int .i64) l), (2, .ptr 90000001 0), (5, .own 90000002), (6, vi (i : Int)), (7, vi (vW l i)), (8, .ptr 7012 0)]) (B := [(7012, .var (enc .opn ((eOp t l i)))), (90000001, bTr (t)), (90000002, .sl 80 .opn m)]) (True) ?_ ?_
 rcases bq (1 + ((vW l i).tmod 6)) (1) with ⟨b3, n3⟩ | ⟨b3, n3⟩
 refine wL hs hI [(11, rc [(16, ciA 13 [.row (.int .i64) ([(gL l i 4), (gL l i 3), (gL l i 2)]), vi 2] [] [12015] (.val (aTr (((madeF 2 ([(gL l i 4), (gL l i 3), (gL l i 2)])).1)))))])] (bz 2 3) 8417307307317979898 [q1 b3, q1 b3, q3 ((i : Int) + 4), q4 ((i : Int) + 4) l.length, q3 ((i : Int) + 3), q4 ((i : Int) + 3) l.length, q3 ((i : Int) + 2), q4 ((i : Int) + 2) l.length] .norm [(1, .row (.int .i64) l), (2, .ptr 90000001 0), (5, .own 90000002), (6, vi (i : Int)), (7, vi (vW l i)), (8, .ptr 7012 0)] [(7012, .var (e8 [vi (1 + ((vW l i).tmod 6)), rwS (wayF t (sL l i)), nilv] (((madeF 2 ([(gL l i 4), (gL l i 3), (gL l i 2)])).1)) [])), (90000001, bTr (t)), (90000002, .sl 80 .opn m)] ⟨con13d 2 (by decide) _, tv⟩ fun a w hs => ?_
 refine then_norm ⟨trivial, ?_⟩
 (have hs := (hs.rowB 7012 2 .str (e8 [vi (1 + ((vW l i).tmod 6)), rwS (wayF t (sL l i)), nilv] (((madeF 2 ([(gL l i 4), (gL l i 3), (gL l i 2)])).1)) []) (by kernel_rfl) (by kernel_rfl)).rmT [(1, .row (.int .i64) l), (2, .ptr 90000001 0), (5, .own 90000002), (6, vi (i : Int)), (7, vi (vW l i)), (8, .ptr 7012 0)] [(7012, .var (e8 [vi (1 + ((vW l i).tmod 6)), rwS (wayF t (sL l i)), rwS ([])] (((madeF 2 ([(gL l i 4), (gL l i 3), (gL l i 2)])).1)) [])), (90000001, bTr (t)), (90000002, .sl 80 .opn m)] [(7012, 7012), (90000001, 90000001), (90000002, 90000002)] (by kernel_rfl); exact (hs.cst [(1, .row (.int .i64) l), (2, .ptr 90000001 0), (5, .own 90000002), (6, vi (i : Int)), (7, vi (vW l i)), (8, .ptr 7012 0)] [(7012, .var (enc .opn ((eOp t l i)))), (90000001, bTr (t)), (90000002, .sl 80 .opn m)] (by rw [eOp_eq (frm_none (by omega) (by omega)) (val_made (by omega))] <;> rfl)).rk [(7012, 7012), (90000001, 90000001), (90000002, 90000002)])
 rcases bq (1 + ((vW l i).tmod 6)) (3) with ⟨b4, n4⟩ | ⟨b4, n4⟩
 refine wL hs hI [(11, rc [(16, ciA 13 [.row (.int .i64) ([(gL l i 4), (gL l i 3), (gL l i 2)]), vi 2] [] [12015] (.val (aTr (((madeF 2 ([(gL l i 4), (gL l i 3), (gL l i 2)])).1)))))])] (bz 2 2) 84173073073176079898 [q1 b3, q1 b4, q3 ((i : Int) + 4), q4 ((i : Int) + 4) l.length, q3 ((i : Int) + 3), q4 ((i : Int) + 3) l.length, q3 ((i : Int) + 2), q4 ((i : Int) + 2) l.length] .norm [(1, .row (.int .i64) l), (2, .ptr 90000001 0), (5, .own 90000002), (6, vi (i : Int)), (7, vi (vW l i)), (8, .ptr 7012 0)] [(7012, .var (e8 [vi (1 + ((vW l i).tmod 6)), rwS (wayF t (sL l i)), nilv] (((madeF 2 ([(gL l i 4), (gL l i 3), (gL l i 2)])).1)) [])), (90000001, bTr (t)), (90000002, .sl 80 .opn m)] ⟨con13d 2 (by decide) _, tv⟩ fun a w hs => ?_
 refine then_norm ⟨trivial, ?_⟩
 (have hs := (hs.rowB 7012 2 .str (e8 [vi (1 + ((vW l i).tmod 6)), rwS (wayF t (sL l i)), nilv] (((madeF 2 ([(gL l i 4), (gL l i 3), (gL l i 2)])).1)) []) (by kernel_rfl) (by kernel_rfl)).rmT [(1, .row (.int .i64) l), (2, .ptr 90000001 0), (5, .own 90000002), (6, vi (i : Int)), (7, vi (vW l i)), (8, .ptr 7012 0)] [(7012, .var (e8 [vi (1 + ((vW l i).tmod 6)), rwS (wayF t (sL l i)), rwS ([])] (((madeF 2 ([(gL l i 4), (gL l i 3), (gL l i 2)])).1)) [])), (90000001, bTr (t)), (90000002, .sl 80 .opn m)] [(7012, 7012), (90000001, 90000001), (90000002, 90000002)] (by kernel_rfl); exact (hs.cst [(1, .row (.int .i64) l), (2, .ptr 90000001 0), (5, .own 90000002), (6, vi (i : Int)), (7, vi (vW l i)), (8, .ptr 7012 0)] [(7012, .var (enc .opn ((eOp t l i)))), (90000001, bTr (t)), (90000002, .sl 80 .opn m)] (by rw [eOp_eq (frm_none (by omega) (by omega)) (val_made (by omega))] <;> rfl)).rk [(7012, 7012), (90000001, 90000001), (90000002, 90000002)])
 rcases bq (1 + ((vW l i).tmod 6)) (6) with ⟨b5, n5⟩ | ⟨b5, n5⟩
 rcases bt ((getR (wayF t (sL l i)) t).2) with b6 | b6
 rcases bd (((vW l i).tmod 7) > 0) with ⟨b7, n7⟩ | ⟨b7, n7⟩
 rcases bd (((nodes ((getR (wayF t (sL l i)) t).1) : Nat) : Int) ≤ 20) with ⟨b8, n8⟩ | ⟨b8, n8⟩
 refine wL hs hI [(13, rc [(6, ciA 13 [.row (.int .i64) ([(gL l i 4)]), vi 1] [] [14005] (.val (aTr (((madeF 1 ([(gL l i 4)])).1)))))]), (14, rg [(8, ciV 64 [aTr (((getR (wayF t (sL l i)) t).1))] (vi ((nodes ((getR (wayF t (sL l i)) t).1) : Nat) : Int)))] [2, 3, 4, 1005, 7, 8, 9, 1010] [])] (bz 4 12) 87266667743777337026684173179076079898 [q1 b3, q1 b4, q1 b5, q3 ((i : Int) + 4), q4 ((i : Int) + 4) l.length, q1 b6, q1 b6, q6 7, q1 b6, q1 b6, q1 b7, q1 b7, q1 b7, q1 b7, q1 b8] .norm [(1, .row (.int .i64) l), (2, .ptr 90000001 0), (5, .own 90000002), (6, vi (i : Int)), (7, vi (vW l i)), (8, .ptr 7012 0)] [(7012, .var (e8 [vi (1 + ((vW l i).tmod 6)), rwS (wayF t (sL l i)), nilv] (((getR (wayF t (sL l i)) t).1)) [])), (90000001, bTr (t)), (90000002, .sl 80 .opn m)] ⟨con13d 1 (by decide) _, con64 _ (Nat.lt_of_le_of_lt (Nat.le_trans (getR_nodes _ _) hJ.good.few) (by decide)), tv⟩ fun a w hs => ?_
 refine then_norm ⟨trivial, ?_⟩
 (have hs := (hs.rowB 7012 2 .str (e8 [vi (1 + ((vW l i).tmod 6)), rwS (wayF t (sL l i)), nilv] (((getR (wayF t (sL l i)) t).1)) []) (by kernel_rfl) (by kernel_rfl)).rmT [(1, .row (.int .i64) l), (2, .ptr 90000001 0), (5, .own 90000002), (6, vi (i : Int)), (7, vi (vW l i)), (8, .ptr 7012 0)] [(7012, .var (e8 [vi (1 + ((vW l i).tmod 6)), rwS (wayF t (sL l i)), rwS ([])] (((getR (wayF t (sL l i)) t).1)) [])), (90000001, bTr (t)), (90000002, .sl 80 .opn m)] [(7012, 7012), (90000001, 90000001), (90000002, 90000002)] (by kernel_rfl); exact (hs.cst [(1, .row (.int .i64) l), (2, .ptr 90000001 0), (5, .own 90000002), (6, vi (i : Int)), (7, vi (vW l i)), (8, .ptr 7012 0)] [(7012, .var (enc .opn ((eOp t l i)))), (90000001, bTr (t)), (90000002, .sl 80 .opn m)] (by rw [eOp_eq (frm_none (by omega) (by omega)) (val_keep (by omega) (keepE_yes b6 b7 b8))] <;> rfl)).rk [(7012, 7012), (90000001, 90000001), (90000002, 90000002)])
 refine wL hs hI [(13, rc [(6, ciA 13 [.row (.int .i64) ([(gL l i 4)]), vi 1] [] [14005] (.val (aTr (((madeF 1 ([(gL l i 4)])).1)))))]), (14, rg [(8, ciV 64 [aTr (((getR (wayF t (sL l i)) t).1))] (vi ((nodes ((getR (wayF t (sL l i)) t).1) : Nat) : Int)))] [2, 3, 4, 1005, 7, 8, 9, 1010] [])] (bz 4 4) 7266667743777337026684173179076079898 [q1 b3, q1 b4, q1 b5, q3 ((i : Int) + 4), q4 ((i : Int) + 4) l.length, q1 b6, q1 b6, q6 7, q1 b6, q1 b6, q1 b7, q1 b7, q1 b7, q1 b7, q1 b8] .norm [(1, .row (.int .i64) l), (2, .ptr 90000001 0), (5, .own 90000002), (6, vi (i : Int)), (7, vi (vW l i)), (8, .ptr 7012 0)] [(7012, .var (e8 [vi (1 + ((vW l i).tmod 6)), rwS (wayF t (sL l i)), nilv] (((madeF 1 ([(gL l i 4)])).1)) [])), (90000001, bTr (t)), (90000002, .sl 80 .opn m)] ⟨con13d 1 (by decide) _, con64 _ (Nat.lt_of_le_of_lt (Nat.le_trans (getR_nodes _ _) hJ.good.few) (by decide)), tv⟩ fun a w hs => ?_
 refine then_norm ⟨trivial, ?_⟩
 (have hs := (hs.rowB 7012 2 .str (e8 [vi (1 + ((vW l i).tmod 6)), rwS (wayF t (sL l i)), nilv] (((madeF 1 ([(gL l i 4)])).1)) []) (by kernel_rfl) (by kernel_rfl)).rmT [(1, .row (.int .i64) l), (2, .ptr 90000001 0), (5, .own 90000002), (6, vi (i : Int)), (7, vi (vW l i)), (8, .ptr 7012 0)] [(7012, .var (e8 [vi (1 + ((vW l i).tmod 6)), rwS (wayF t (sL l i)), rwS ([])] (((madeF 1 ([(gL l i 4)])).1)) [])), (90000001, bTr (t)), (90000002, .sl 80 .opn m)] [(7012, 7012), (90000001, 90000001), (90000002, 90000002)] (by kernel_rfl); exact (hs.cst [(1, .row (.int .i64) l), (2, .ptr 90000001 0), (5, .own 90000002), (6, vi (i : Int)), (7, vi (vW l i)), (8, .ptr 7012 0)] [(7012, .var (enc .opn ((eOp t l i)))), (90000001, bTr (t)), (90000002, .sl 80 .opn m)] (by rw [eOp_eq (frm_none (by omega) (by omega)) (val_test (by omega) (keepE_no3 b8))] <;> rfl)).rk [(7012, 7012), (90000001, 90000001), (90000002, 90000002)])
 refine wL hs hI [(13, rc [(6, ciA 13 [.row (.int .i64) ([(gL l i 4)]), vi 1] [] [14005] (.val (aTr (((madeF 1 ([(gL l i 4)])).1)))))]), (14, rg [] [2, 3, 4, 1005] [7, 8, 9, 1010])] (bz 4 4) 79666733377337026684173179076079898 [q1 b3, q1 b4, q1 b5, q3 ((i : Int) + 4), q4 ((i : Int) + 4) l.length, q1 b6, q1 b6, q6 7, q1 b6, q1 b6, q1 b7, q1 b7, q1 b7, q1 b7, q0 false] .norm [(1, .row (.int .i64) l), (2, .ptr 90000001 0), (5, .own 90000002), (6, vi (i : Int)), (7, vi (vW l i)), (8, .ptr 7012 0)] [(7012, .var (e8 [vi (1 + ((vW l i).tmod 6)), rwS (wayF t (sL l i)), nilv] (((madeF 1 ([(gL l i 4)])).1)) [])), (90000001, bTr (t)), (90000002, .sl 80 .opn m)] ⟨con13d 1 (by decide) _, tv⟩ fun a w hs => ?_
 refine then_norm ⟨trivial, ?_⟩
 (have hs := (hs.rowB 7012 2 .str (e8 [vi (1 + ((vW l i).tmod 6)), rwS (wayF t (sL l i)), nilv] (((madeF 1 ([(gL l i 4)])).1)) []) (by kernel_rfl) (by kernel_rfl)).rmT [(1, .row (.int .i64) l), (2, .ptr 90000001 0), (5, .own 90000002), (6, vi (i : Int)), (7, vi (vW l i)), (8, .ptr 7012 0)] [(7012, .var (e8 [vi (1 + ((vW l i).tmod 6)), rwS (wayF t (sL l i)), rwS ([])] (((madeF 1 ([(gL l i 4)])).1)) [])), (90000001, bTr (t)), (90000002, .sl 80 .opn m)] [(7012, 7012), (90000001, 90000001), (90000002, 90000002)] (by kernel_rfl); exact (hs.cst [(1, .row (.int .i64) l), (2, .ptr 90000001 0), (5, .own 90000002), (6, vi (i : Int)), (7, vi (vW l i)), (8, .ptr 7012 0)] [(7012, .var (enc .opn ((eOp t l i)))), (90000001, bTr (t)), (90000002, .sl 80 .opn m)] (by rw [eOp_eq (frm_none (by omega) (by omega)) (val_test (by omega) (keepE_no2 b7))] <;> rfl)).rk [(7012, 7012), (90000001, 90000001), (90000002, 90000002)])
 refine wL hs hI [(13, rc [(6, ciA 13 [.row (.int .i64) ([(gL l i 4)]), vi 1] [] [14005] (.val (aTr (((madeF 1 ([(gL l i 4)])).1)))))]), (14, rg [] [] [2, 3, 4, 1005, 7, 8, 9, 1010])] (bz 4 4) 7296673337333026684173179076079898 [q1 b3, q1 b4, q1 b5, q3 ((i : Int) + 4), q4 ((i : Int) + 4) l.length, q1 b6, q1 b6, q1 b6, q1 b6, q0 false, q0 false, q0 false, q0 false, q0 false] .norm [(1, .row (.int .i64) l), (2, .ptr 90000001 0), (5, .own 90000002), (6, vi (i : Int)), (7, vi (vW l i)), (8, .ptr 7012 0)] [(7012, .var (e8 [vi (1 + ((vW l i).tmod 6)), rwS (wayF t (sL l i)), nilv] (((madeF 1 ([(gL l i 4)])).1)) [])), (90000001, bTr (t)), (90000002, .sl 80 .opn m)] ⟨con13d 1 (by decide) _, tv⟩ fun a w hs => ?_
 refine then_norm ⟨trivial, ?_⟩
 (have hs := (hs.rowB 7012 2 .str (e8 [vi (1 + ((vW l i).tmod 6)), rwS (wayF t (sL l i)), nilv] (((madeF 1 ([(gL l i 4)])).1)) []) (by kernel_rfl) (by kernel_rfl)).rmT [(1, .row (.int .i64) l), (2, .ptr 90000001 0), (5, .own 90000002), (6, vi (i : Int)), (7, vi (vW l i)), (8, .ptr 7012 0)] [(7012, .var (e8 [vi (1 + ((vW l i).tmod 6)), rwS (wayF t (sL l i)), rwS ([])] (((madeF 1 ([(gL l i 4)])).1)) [])), (90000001, bTr (t)), (90000002, .sl 80 .opn m)] [(7012, 7012), (90000001, 90000001), (90000002, 90000002)] (by kernel_rfl); exact (hs.cst [(1, .row (.int .i64) l), (2, .ptr 90000001 0), (5, .own 90000002), (6, vi (i : Int)), (7, vi (vW l i)), (8, .ptr 7012 0)] [(7012, .var (enc .opn ((eOp t l i)))), (90000001, bTr (t)), (90000002, .sl 80 .opn m)] (by rw [eOp_eq (frm_none (by omega) (by omega)) (val_test (by omega) (keepE_no1 b6))] <;> rfl)).rk [(7012, 7012), (90000001, 90000001), (90000002, 90000002)])
 rcases bq (1 + ((vW l i).tmod 6)) (4) with ⟨b9, n9⟩ | ⟨b9, n9⟩
 refine wL hs hI [(18, rc [(12, ciA 62 [aTr (t), .row (.int .i64) ([(gL l i 4), (gL l i 3)])] [] [19011] (.val (rwS (wayF t ([(gL l i 4), (gL l i 3)])))))])] (bz 5 24) 8417307307979079076079898 [q1 b3, q1 b4, q1 b5, q1 b9, q1 b9, q3 ((i : Int) + 4), q4 ((i : Int) + 4) l.length, q3 ((i : Int) + 3), q4 ((i : Int) + 3) l.length] .norm [(1, .row (.int .i64) l), (2, .ptr 90000001 0), (5, .own 90000002), (6, vi (i : Int)), (7, vi (vW l i)), (8, .ptr 7012 0)] [(7012, .var [vi (1 + ((vW l i).tmod 6)), rwS (wayF t (sL l i)), rwS (wayF t ([(gL l i 4), (gL l i 3)])), vi 0, vb false, vb false, nilv, vi 0, vs (ba []), nilv, nilv]), (90000001, bTr (t)), (90000002, .sl 80 .opn m)] ⟨(con62 _ _ hJ.good.chk hJ.good.fine (by first | (simp; done) | (simp; omega))).frz, tv⟩ fun a w hs => ?_
 refine then_norm ⟨trivial, ?_⟩
 (have hs := (((hs.rowB 7012 6 (.int .u32) [vi (1 + ((vW l i).tmod 6)), rwS (wayF t (sL l i)), rwS (wayF t ([(gL l i 4), (gL l i 3)])), vi 0, vb false, vb false, nilv, vi 0, vs (ba []), nilv, nilv] (by kernel_rfl) (by kernel_rfl)).rowB 7012 9 .str [vi (1 + ((vW l i).tmod 6)), rwS (wayF t (sL l i)), rwS (wayF t ([(gL l i 4), (gL l i 3)])), vi 0, vb false, vb false, rwU ([]), vi 0, vs (ba []), nilv, nilv] (by kernel_rfl) (by kernel_rfl)).rowB 7012 10 .tree [vi (1 + ((vW l i).tmod 6)), rwS (wayF t (sL l i)), rwS (wayF t ([(gL l i 4), (gL l i 3)])), vi 0, vb false, vb false, rwU ([]), vi 0, vs (ba []), rwS ([]), nilv] (by kernel_rfl) (by kernel_rfl)).rmT [(1, .row (.int .i64) l), (2, .ptr 90000001 0), (5, .own 90000002), (6, vi (i : Int)), (7, vi (vW l i)), (8, .ptr 7012 0)] [(7012, .var [vi (1 + ((vW l i).tmod 6)), rwS (wayF t (sL l i)), rwS (wayF t ([(gL l i 4), (gL l i 3)])), vi 0, vb false, vb false, rwU ([]), vi 0, vs (ba []), rwS ([]), rwT ([])]), (90000001, bTr (t)), (90000002, .sl 80 .opn m)] [(7012, 7012), (90000001, 90000001), (90000002, 90000002)] (by kernel_rfl); exact (hs.cst [(1, .row (.int .i64) l), (2, .ptr 90000001 0), (5, .own 90000002), (6, vi (i : Int)), (7, vi (vW l i)), (8, .ptr 7012 0)] [(7012, .var (enc .opn ((eOp t l i)))), (90000001, bTr (t)), (90000002, .sl 80 .opn m)] (by rw [eOp_eq (frm_some (by omega)) (val_none (by omega) (by omega) (by omega))] <;> rfl)).rk [(7012, 7012), (90000001, 90000001), (90000002, 90000002)])
 rcases bq (1 + ((vW l i).tmod 6)) (5) with ⟨b10, n10⟩ | ⟨b10, n10⟩
 refine wL hs hI [(18, rc [(12, ciA 62 [aTr (t), .row (.int .i64) ([(gL l i 4), (gL l i 3)])] [] [19011] (.val (rwS (wayF t ([(gL l i 4), (gL l i 3)])))))])] (bz 5 16) 84173073076079079076079898 [q1 b3, q1 b4, q1 b5, q1 b9, q1 b10, q3 ((i : Int) + 4), q4 ((i : Int) + 4) l.length, q3 ((i : Int) + 3), q4 ((i : Int) + 3) l.length] .norm [(1, .row (.int .i64) l), (2, .ptr 90000001 0), (5, .own 90000002), (6, vi (i : Int)), (7, vi (vW l i)), (8, .ptr 7012 0)] [(7012, .var [vi (1 + ((vW l i).tmod 6)), rwS (wayF t (sL l i)), rwS (wayF t ([(gL l i 4), (gL l i 3)])), vi 0, vb false, vb false, nilv, vi 0, vs (ba []), nilv, nilv]), (90000001, bTr (t)), (90000002, .sl 80 .opn m)] ⟨(con62 _ _ hJ.good.chk hJ.good.fine (by first | (simp; done) | (simp; omega))).frz, tv⟩ fun a w hs => ?_
 refine then_norm ⟨trivial, ?_⟩
 (have hs := (((hs.rowB 7012 6 (.int .u32) [vi (1 + ((vW l i).tmod 6)), rwS (wayF t (sL l i)), rwS (wayF t ([(gL l i 4), (gL l i 3)])), vi 0, vb false, vb false, nilv, vi 0, vs (ba []), nilv, nilv] (by kernel_rfl) (by kernel_rfl)).rowB 7012 9 .str [vi (1 + ((vW l i).tmod 6)), rwS (wayF t (sL l i)), rwS (wayF t ([(gL l i 4), (gL l i 3)])), vi 0, vb false, vb false, rwU ([]), vi 0, vs (ba []), nilv, nilv] (by kernel_rfl) (by kernel_rfl)).rowB 7012 10 .tree [vi (1 + ((vW l i).tmod 6)), rwS (wayF t (sL l i)), rwS (wayF t ([(gL l i 4), (gL l i 3)])), vi 0, vb false, vb false, rwU ([]), vi 0, vs (ba []), rwS ([]), nilv] (by kernel_rfl) (by kernel_rfl)).rmT [(1, .row (.int .i64) l), (2, .ptr 90000001 0), (5, .own 90000002), (6, vi (i : Int)), (7, vi (vW l i)), (8, .ptr 7012 0)] [(7012, .var [vi (1 + ((vW l i).tmod 6)), rwS (wayF t (sL l i)), rwS (wayF t ([(gL l i 4), (gL l i 3)])), vi 0, vb false, vb false, rwU ([]), vi 0, vs (ba []), rwS ([]), rwT ([])]), (90000001, bTr (t)), (90000002, .sl 80 .opn m)] [(7012, 7012), (90000001, 90000001), (90000002, 90000002)] (by kernel_rfl); exact (hs.cst [(1, .row (.int .i64) l), (2, .ptr 90000001 0), (5, .own 90000002), (6, vi (i : Int)), (7, vi (vW l i)), (8, .ptr 7012 0)] [(7012, .var (enc .opn ((eOp t l i)))), (90000001, bTr (t)), (90000002, .sl 80 .opn m)] (by rw [eOp_eq (frm_some (by omega)) (val_none (by omega) (by omega) (by omega))] <;> rfl)).rk [(7012, 7012), (90000001, 90000001), (90000002, 90000002)])
 refine wN hs hI (bz 5 0) 76079079076079898 [q1 b3, q1 b4, q1 b5, q1 b9, q1 b10] .norm [(1, .row (.int .i64) l), (2, .ptr 90000001 0), (5, .own 90000002), (6, vi (i : Int)), (7, vi (vW l i)), (8, .ptr 7012 0)] [(7012, .var [vi (1 + ((vW l i).tmod 6)), rwS (wayF t (sL l i)), nilv, vi 0, vb false, vb false, nilv, vi 0, vs (ba []), nilv, nilv]), (90000001, bTr (t)), (90000002, .sl 80 .opn m)] fun a w hs => ?_
 refine then_norm ⟨trivial, ?_⟩
 (have hs := ((((hs.rowB 7012 2 .str [vi (1 + ((vW l i).tmod 6)), rwS (wayF t (sL l i)), nilv, vi 0, vb false, vb false, nilv, vi 0, vs (ba []), nilv, nilv] (by kernel_rfl) (by kernel_rfl)).rowB 7012 6 (.int .u32) [vi (1 + ((vW l i).tmod 6)), rwS (wayF t (sL l i)), rwS ([]), vi 0, vb false, vb false, nilv, vi 0, vs (ba []), nilv, nilv] (by kernel_rfl) (by kernel_rfl)).rowB 7012 9 .str [vi (1 + ((vW l i).tmod 6)), rwS (wayF t (sL l i)), rwS ([]), vi 0, vb false, vb false, rwU ([]), vi 0, vs (ba []), nilv, nilv] (by kernel_rfl) (by kernel_rfl)).rowB 7012 10 .tree [vi (1 + ((vW l i).tmod 6)), rwS (wayF t (sL l i)), rwS ([]), vi 0, vb false, vb false, rwU ([]), vi 0, vs (ba []), rwS ([]), nilv] (by kernel_rfl) (by kernel_rfl)).rmT [(1, .row (.int .i64) l), (2, .ptr 90000001 0), (5, .own 90000002), (6, vi (i : Int)), (7, vi (vW l i)), (8, .ptr 7012 0)] [(7012, .var [vi (1 + ((vW l i).tmod 6)), rwS (wayF t (sL l i)), rwS ([]), vi 0, vb false, vb false, rwU ([]), vi 0, vs (ba []), rwS ([]), rwT ([])]), (90000001, bTr (t)), (90000002, .sl 80 .opn m)] [(7012, 7012), (90000001, 90000001), (90000002, 90000002)] (by kernel_rfl); exact (hs.cst [(1, .row (.int .i64) l), (2, .ptr 90000001 0), (5, .own 90000002), (6, vi (i : Int)), (7, vi (vW l i)), (8, .ptr 7012 0)] [(7012, .var (enc .opn ((eOp t l i)))), (90000001, bTr (t)), (90000002, .sl 80 .opn m)] (by rw [eOp_eq (frm_none (by omega) (by omega)) (val_none (by omega) (by omega) (by omega))] <;> rfl)).rk [(7012, 7012), (90000001, 90000001), (90000002, 90000002)])
 intro hF a w hs
 refine wLs hs hI [(19, rc [(2, ciV 65 [aTr (t), .agg (enc .opn (eOp t l i))] (.tup [aTr (((eOne t l i).1)), vb ((eOne t l i).2)]))])] [] 18840 [] [(1, .row (.int .i64) l), (2, .ptr 90000001 0), (5, .own 90000002), (6, vi (i : Int)), (7, vi (vW l i)), (8, .ptr 7012 0), (11, .ptr 20006 0), (12, vb ((eOne t l i).2))] [(7012, .var (enc .opn ((eOp t l i)))), (20006, bTr (((eOne t l i).1))), (90000001, bTr (t)), (90000002, .sl 80 .opn m)] ⟨con65 _ _ (Nat.lt_of_le_of_lt hJ.good.few (by decide)) (Nat.lt_of_le_of_lt (way_len 4 _ _) (by decide)) (Nat.lt_of_le_of_lt (frm_len t l i) (by decide)) hJ.good.fine (val_fine hJ.good l i), tv⟩ fun a w hs => ?_
 rcases bt ((eOne t l i).2) with b11 | b11
 rcases bd (((nodes ((eOne t l i).1) : Nat) : Int) > 200) with ⟨b12, n12⟩ | ⟨b12, n12⟩
 refine wL hs hI [(20, rg [(3, ciV 64 [aTr (((eOne t l i).1))] (vi ((nodes ((eOne t l i).1) : Nat) : Int)))] [2, 3, 4, 5, 9, 1009, 1010, 1019] [6, 7, 8, 12, 13, 14, 18])] (bz 1 1) 72666666730733733333774370 [q1 b11, q1 b11, q1 b11, q1 b11, q1 b12, q1 b12, q1 b12, q1 b11, q1 b12, q1 b11, q0 true, q0 true, q0 true, q0 true, q0 true, q0 true] (.exit 1) [(1, .row (.int .i64) l), (2, .ptr 90000001 0), (5, .own 90000002), (6, vi (i : Int))] [(90000001, bTr (t)), (90000002, .sl 80 .opn m)] ⟨con64 _ (Nat.lt_of_le_of_lt (one_few hJ.good l i) (by decide)), tv⟩ fun a w hs => ?_
 refine inb_hit ?_
 refine then_norm ?_
 refine wN hs hI [] 171 [q3 ((i : Int) + 5)] .norm [(1, .row (.int .i64) l), (2, .ptr 90000001 0), (5, .own 90000002), (6, vi ((i : Int) + 5))] [(90000001, bTr (t)), (90000002, .sl 80 .opn m)] fun a w hs => ?_
 refine then_norm ⟨(i + 5, t, m), hJ.pass (by omega) (by omega) (by simp only [skipE, b11, b12]; first | done | rfl | (simp; done)), by omega, ?_⟩
 exact hs.rk [(90000001, 90000001), (90000002, 90000002)]
 rcases bd (((depth ((eOne t l i).1) : Nat) : Int) > 20) with ⟨b13, n13⟩ | ⟨b13, n13⟩
 refine wL hs hI [(20, rg [(3, ciV 64 [aTr (((eOne t l i).1))] (vi ((nodes ((eOne t l i).1) : Nat) : Int))), (7, ciV 66 [aTr (((eOne t l i).1))] (vi ((depth ((eOne t l i).1) : Nat) : Int)))] [2, 3, 4, 5, 6, 7, 8, 9, 1010, 1019] [1009, 12, 13, 14, 18])] (bz 1 1) 766666667307337337437774370 [q1 b11, q1 b11, q1 b11, q1 b11, q1 b12, q1 b12, q1 b12, q1 b11, q1 b12, q1 b11, q1 b13, q1 b13, q1 b13, q1 b13, q1 b13, q0 true] (.exit 1) [(1, .row (.int .i64) l), (2, .ptr 90000001 0), (5, .own 90000002), (6, vi (i : Int))] [(90000001, bTr (t)), (90000002, .sl 80 .opn m)] ⟨con64 _ (Nat.lt_of_le_of_lt (one_few hJ.good l i) (by decide)), con66 _ (Nat.lt_of_le_of_lt (one_few hJ.good l i) (by decide)), tv⟩ fun a w hs => ?_
 refine inb_hit ?_
 refine then_norm ?_
 refine wN hs hI [] 171 [q3 ((i : Int) + 5)] .norm [(1, .row (.int .i64) l), (2, .ptr 90000001 0), (5, .own 90000002), (6, vi ((i : Int) + 5))] [(90000001, bTr (t)), (90000002, .sl 80 .opn m)] fun a w hs => ?_
 refine then_norm ⟨(i + 5, t, m), hJ.pass (by omega) (by omega) (by simp only [skipE, b11, b12, b13]; first | done | rfl | (simp; done)), by omega, ?_⟩
 exact hs.rk [(90000001, 90000001), (90000002, 90000002)]
 refine wL hs hI [(20, rg [(3, ciV 64 [aTr (((eOne t l i).1))] (vi ((nodes ((eOne t l i).1) : Nat) : Int))), (7, ciV 66 [aTr (((eOne t l i).1))] (vi ((depth ((eOne t l i).1) : Nat) : Int)))] [2, 3, 4, 5, 6, 7, 8, 9, 1010, 12, 13, 14, 18] [1009, 15, 16, 17, 1018, 1019])] (bz 2 2) 1786072097666666667333337777337437774370 [q1 b11, q1 b11, q1 b11, q1 b11, q1 b12, q1 b12, q1 b12, q1 b11, q1 b12, q1 b11, q1 b13, q1 b13, q1 b13, q1 (ng1 b11), q1 (ng1 b11), q1 (ng1 b11), q1 b13, q1 (ng1 b11), q1 b13, q0 false, q1 b11, q7 m.length 1 176] .norm [(1, .row (.int .i64) l), (2, .ptr 90000001 0), (5, .own 24003), (6, vi (i : Int))] [(24003, .sl 80 .opn (m ++ ([(⟨(eOp t l i).op, (eOp t l i).path, (eOp t l i).frm, (Tree.et ((eOp t l i).value))⟩ : Opn)]))), (90000001, bTr (((eOne t l i).1)))] ⟨con64 _ (Nat.lt_of_le_of_lt (one_few hJ.good l i) (by decide)), con66 _ (Nat.lt_of_le_of_lt (one_few hJ.good l i) (by decide)), tv⟩ fun a w hs => ?_
 refine inb_norm ?_
 refine then_norm ?_
 refine wN hs hI [] 171 [q3 ((i : Int) + 5)] .norm [(1, .row (.int .i64) l), (2, .ptr 90000001 0), (5, .own 24003), (6, vi ((i : Int) + 5))] [(24003, .sl 80 .opn (m ++ ([(⟨(eOp t l i).op, (eOp t l i).path, (eOp t l i).frm, (Tree.et ((eOp t l i).value))⟩ : Opn)]))), (90000001, bTr (((eOne t l i).1)))] fun a w hs => ?_
 refine then_norm ⟨(i + 5, nextE t l i, m ++ [eOp t l i]), hJ.take (by omega) (by omega) (by simp only [skipE, b11, b12, b13]; first | done | rfl | (simp; done)), by omega, ?_⟩
 (have e0_ : ((i : Int) + 5) = ((((i + 5) : Nat) : Int)) := (by first | rfl | (omega)); have e1_ : (m ++ ([(⟨(eOp t l i).op, (eOp t l i).path, (eOp t l i).frm, (Tree.et ((eOp t l i).value))⟩ : Opn)])) = ((m ++ [eOp t l i])) := (by (simp only [Tree.eta']) <;> rfl); have e2_ : (((eOne t l i).1)) = ((nextE t l i)) := (by exact (nextE_yes b11).symm); exact (hs.cst [(1, .row (.int .i64) l), (2, .ptr 90000001 0), (5, .own 24003), (6, vi (((i + 5) : Nat) : Int))] [(24003, .sl 80 .opn (m ++ [eOp t l i])), (90000001, bTr ((nextE t l i)))] (by first | (rw [e0_, e1_, e2_]; done) | (simp only [e0_, e1_, e2_]; done) | rfl | (simp only [e0_, e1_, e2_]; rfl))).rk [(90000001, 90000001), (90000002, 24003)])
 rcases bd (((vW l i).tmod 11) > 0) with ⟨b14, n14⟩ | ⟨b14, n14⟩
 refine wL hs hI [(20, rg [] [12, 13, 14, 15, 16, 17, 18, 1018] [2, 3, 4, 5, 9, 1010, 1019])] (bz 1 1) 729666666733733777773073330 [q1 b11, q1 b11, q1 b11, q1 b11, q1 b11, q1 b11, q0 false, q0 false, q0 false, q1 (ng0 b11), q1 (ng0 b11), q6 11, q1 (ng0 b11), q0 false, q1 (ng0 b11), q0 false, q1 b14] (.exit 1) [(1, .row (.int .i64) l), (2, .ptr 90000001 0), (5, .own 90000002), (6, vi (i : Int))] [(90000001, bTr (t)), (90000002, .sl 80 .opn m)] tv fun a w hs => ?_
 refine inb_hit ?_
 refine then_norm ?_
 refine wN hs hI [] 171 [q3 ((i : Int) + 5)] .norm [(1, .row (.int .i64) l), (2, .ptr 90000001 0), (5, .own 90000002), (6, vi ((i : Int) + 5))] [(90000001, bTr (t)), (90000002, .sl 80 .opn m)] fun a w hs => ?_
 refine then_norm ⟨(i + 5, t, m), hJ.pass (by omega) (by omega) (by simp only [skipE, b11, b14]; first | done | rfl | (simp; done)), by omega, ?_⟩
 exact hs.rk [(90000001, 90000001), (90000002, 90000002)]
 refine wL hs hI [(20, rg [] [12, 13, 14, 15, 16, 17, 18, 1018] [2, 3, 4, 5, 9, 1010, 1019])] (bz 2 0) 17897209729666666733733777773073330 [q1 b11, q1 b11, q1 b11, q1 b11, q1 b11, q1 b11, q0 false, q0 false, q0 false, q1 (ng0 b11), q1 (ng0 b11), q6 11, q1 (ng0 b11), q0 false, q1 (ng0 b11), q0 false, q1 b14, q1 b11, q7 m.length 1 176] .norm [(1, .row (.int .i64) l), (2, .ptr 90000001 0), (5, .own 24003), (6, vi (i : Int))] [(24003, .sl 80 .opn (m ++ ([(⟨(eOp t l i).op, (eOp t l i).path, (eOp t l i).frm, (Tree.et ((eOp t l i).value))⟩ : Opn)]))), (90000001, bTr (t))] tv fun a w hs => ?_
 refine inb_norm ?_
 refine then_norm ?_
 refine wN hs hI [] 171 [q3 ((i : Int) + 5)] .norm [(1, .row (.int .i64) l), (2, .ptr 90000001 0), (5, .own 24003), (6, vi ((i : Int) + 5))] [(24003, .sl 80 .opn (m ++ ([(⟨(eOp t l i).op, (eOp t l i).path, (eOp t l i).frm, (Tree.et ((eOp t l i).value))⟩ : Opn)]))), (90000001, bTr (t))] fun a w hs => ?_
 refine then_norm ⟨(i + 5, nextE t l i, m ++ [eOp t l i]), hJ.take (by omega) (by omega) (by simp only [skipE, b11, b14]; first | done | rfl | (simp; done)), by omega, ?_⟩
 exact (hs.cst [(1, .row (.int .i64) l), (2, .ptr 90000001 0), (5, .own 24003), (6, vi (((i + 5) : Nat) : Int))] [(24003, .sl 80 .opn (m ++ [eOp t l i])), (90000001, bTr ((nextE t l i)))] (by rw [nextE_no b11]; first | rfl | ((simp only [Tree.eta']) <;> rfl))).rk [(90000001, 90000001), (90000002, 24003)]
 refine wL hs hI [(3, rg [] [6, 7, 1008] [])] (bz 1 0) 72966777871 [q3 ((i : Int) + 4), q1 b1, q1 b1, q1 b1, q1 b2] (.exit 0) [(5, .own 90000002)] [(90000002, .sl 80 .opn m)] tv fun a w hs => ?_
 refine then_exit ?_
 refine then_exit ?_
 refine inb_hit ?_
 refine then_norm ?_
 refine wN hs hI [] 198 [] .ret [(4, .own 90000002)] [(90000002, .sl 80 .opn m)] fun a w hs => ?_
 exact FnQ_cast (out := .own 80 .opn m) (by rw [hJ.fin (by omega)]) (ret_ok [] hs (.inl ⟨90000002, by kernel_rfl, rfl⟩))
 refine wL hs hI [(3, rg [] [] [6, 7, 1008])] (bz 1 0) 7266733871 [q3 ((i : Int) + 4), q1 b1, q1 b1, q1 b1, q0 false] (.exit 0) [(5, .own 90000002)] [(90000002, .sl 80 .opn m)] tv fun a w hs => ?_
 refine then_exit ?_
 refine then_exit ?_
 refine inb_hit ?_
 refine then_norm ?_
 refine wN hs hI [] 198 [] .ret [(4, .own 90000002)] [(90000002, .sl 80 .opn m)] fun a w hs => ?_
 exact FnQ_cast (out := .own 80 .opn m) (by rw [hJ.fin (by omega)]) (ret_ok [] hs (.inl ⟨90000002, by kernel_rfl, rfl⟩))
def kS (x : ByteArray) : Bool := decide (x.size ≤ 3) && x.data.toList.all (fun c => decide (c.toNat < 128))
mutual
def keyT : Tree → Prop
 | .mk _ _ _ _ k v => (∀ x ∈ k, kS x = true) ∧ keyL v
def keyL : List Tree → Prop
 | [] => True
 | t :: l => keyT t ∧ keyL l
end
theorem key_eq (t : Tree) : keyT t ↔ (∀ x ∈ t.k, kS x = true) ∧ keyL t.v := by cases t; exact Iff.rfl
theorem keyL_mem : ∀ {l : List Tree} {u : Tree}, keyL l → u ∈ l → keyT u
 | [], _, _, h => by simp at h
 | x :: l, u, h, hu => by
  rcases List.mem_cons.1 hu with rfl | hu
  exact h.1
  exact keyL_mem h.2 hu
theorem keyL_of : ∀ {l : List Tree}, (∀ u ∈ l, keyT u) → keyL l
 | [], _ => trivial
 | x :: l, h => ⟨h x (List.mem_cons_self ..), keyL_of fun u hu => h u (List.mem_cons_of_mem _ hu)⟩
theorem key_at {t u : Tree} (h : keyT t) (hu : u ∈ t.v) : keyT u := keyL_mem ((key_eq t).1 h).2 hu
theorem key_leaf {k : Int} {b : Bool} {n : Num} {s : ByteArray} : keyT (.mk k b n s [] []) := ⟨fun x hx => by simp at hx, trivial⟩
theorem key_zero : keyT Tree.zero := key_leaf
theorem key_getD {l : List Tree} (h : ∀ u ∈ l, keyT u) (i : Nat) : keyT (l.getD i (dflt .tree)) := by
 by_cases hi : i < l.length
 exact h _ (getD_mem hi _)
 rw [List.getD_eq_getElem?_getD, List.getElem?_eq_none (by omega)]; exact key_zero
theorem key_memV {t : Tree} (h : keyT t) (x : ByteArray) : keyT (memV t x) := by
 cases hb : memB t x with
 | true => exact key_at h (mem_cutV hb)
 | false => rw [memV_zero hb]; exact key_zero
theorem key_mems {t : Tree} (h : keyT t) {p : ByteArray × Tree} (hp : p ∈ mems t) : kS p.1 = true ∧ keyT p.2 := by
 refine ⟨?_, key_at h (mems_in hp)⟩
 have h1 : p.1 ∈ cutK t := by rw [← mems_k]; exact List.mem_map.2 ⟨p, hp, rfl⟩
 refine ((key_eq t).1 h).1 _ ?_
 unfold cutK at h1
 split at h1
 exact List.mem_of_mem_take h1
 simp at h1
theorem key_objM {L : Mem} (h : ∀ p ∈ L, kS p.1 = true ∧ keyT p.2) : keyT (objM L) :=
 ⟨fun x hx => by obtain ⟨p, hp, rfl⟩ := List.mem_map.1 hx; exact (h p hp).1, keyL_of fun u hu => by obtain ⟨p, hp, rfl⟩ := List.mem_map.1 hu; exact (h p hp).2⟩
theorem key_setT {t u : Tree} {x : ByteArray} (ht : keyT t) (hx : kS x = true) (hu : keyT u) : keyT (setT t x u) :=
 key_objM fun p hp => by
  rcases ins_mem hp with rfl | hp
  ·exact ⟨hx, hu⟩
  ·exact key_mems ht hp
theorem key_unsetT {t : Tree} (x : ByteArray) (ht : keyT t) : keyT (unsetT t x) := by
 unfold unsetT
 split
 exact key_objM fun p hp => key_mems ht ((del_sub x (mems t)).subset hp)
 exact ht
theorem key_child {t : Tree} (x : ByteArray) (h : keyT t) : keyT (childF t x).1 := by
 unfold childF
 split
 split
 exact key_getD (fun u hu => key_at h hu) _
 exact key_memV h x
 exact key_memV h x
theorem key_getR : ∀ (p : List ByteArray) {t : Tree}, keyT t → keyT (getR p t).1
 | [], t, h => h
 | x :: p, t, h => by
  rw [getR]
  split
  exact key_getR p (key_child x h)
  exact key_zero
theorem key_items {l : List Tree} (h : ∀ u ∈ l, keyT u) : keyT (itemsT l) := ⟨fun x hx => by simp at hx, keyL_of h⟩
theorem key_putR {v : Tree} (hv : keyT v) : ∀ (p : List ByteArray) {t : Tree}, (∀ x ∈ p, kS x = true) → keyT t → keyT (putR p t v).1
 | [], t, _, _ => hv
 | x :: p, t, hx, h => by
  have ih := key_putR hv p (fun y hy => hx y (List.mem_cons_of_mem _ hy)) (key_child x h)
  rw [putR]
  split
  split
  split
  exact key_setT h (hx x (List.mem_cons_self ..)) ih
  refine (key_eq _).2 ⟨((key_eq t).1 h).1, keyL_of fun u hu => ?_⟩
  rcases List.mem_or_eq_of_mem_set (show u ∈ t.v.set _ _ from hu) with hu | rfl
  exact key_at h hu
  exact ih
  exact key_zero
  exact key_zero
theorem key_last {p : List ByteArray} (h : ∀ x ∈ p, kS x = true) (h0 : ¬ ((p.length : Int) == 0) = true) : kS (lastF p) = true := h _ (last_mem h0)
theorem key_addR {t v : Tree} {p : List ByteArray} (hp : ∀ x ∈ p, kS x = true) (ht : keyT t) (hv : keyT v) : keyT (addR t p v).1 := by
 have hx := key_getR (upF p) ht
 have ins : ∀ i, keyT (itemsT (insV (getR (upF p) t).1.v i v)) := fun i => key_items fun u hu => by
  unfold insV at hu
  rcases List.mem_append.1 hu with hu | hu
  rcases List.mem_append.1 hu with hu | hu
  exact key_at hx (List.mem_of_mem_take hu)
  rw [List.mem_singleton.1 hu]; exact hv
  exact key_at hx (List.mem_of_mem_drop hu)
 have put : ∀ {u : Tree}, keyT u → keyT (putR (upF p) t u).1 := fun hu => key_putR hu (upF p) (fun x hx => hp x (up_mem hx)) ht
 unfold addR
 split
 exact hv
 rename_i h0
 split
 split
 exact put (key_setT hx (key_last hp h0) hv)
 split
 split
 exact put (ins _)
 split
 exact put (ins _)
 exact key_zero
 exact key_zero
 exact key_zero
theorem key_removeR {t : Tree} {p : List ByteArray} (hp : ∀ x ∈ p, kS x = true) (ht : keyT t) : keyT (removeR t p).1 := by
 have hx := key_getR (upF p) ht
 have put : ∀ {u : Tree}, keyT u → keyT (putR (upF p) t u).1 := fun hu => key_putR hu (upF p) (fun x hx => hp x (up_mem hx)) ht
 unfold removeR
 split
 exact key_zero
 split
 split
 exact put (key_unsetT _ hx)
 refine put (key_items fun u hu => ?_)
 unfold delV at hu
 rcases List.mem_append.1 hu with hu | hu
 exact key_at hx (List.mem_of_mem_take hu)
 exact key_at hx (List.mem_of_mem_drop hu)
 exact key_zero
theorem key_moveR {t : Tree} {a b : List ByteArray} (ha : ∀ x ∈ a, kS x = true) (hb : ∀ x ∈ b, kS x = true) (ht : keyT t) : keyT (moveR t a b).1 := by
 unfold moveR
 split
 split
 exact key_zero
 split
 exact ht
 split
 exact key_addR hb (key_removeR ha ht) (key_getR a ht)
 exact key_zero
 exact key_zero
theorem key_oneR {t v : Tree} {k : Int} {p f : List ByteArray} (hp : ∀ x ∈ p, kS x = true) (hf : ∀ x ∈ f, kS x = true) (ht : keyT t) (hv : keyT v) : keyT (oneR t k p f v).1 := by
 unfold oneR
 split
 exact key_addR hp ht hv
 split
 exact key_removeR hp ht
 split
 exact key_putR hv p hp ht
 split
 exact key_moveR hf hp ht
 split
 split
 exact key_addR hp ht (key_getR f ht)
 exact key_zero
 split
 exact ht
 exact key_zero
theorem nmM_key (v : Int) (i : Nat) : kS (nmM v i) = true := by
 unfold nmM
 generalize (((v.tdiv 48) + 3 * (i : Int)).tmod 8).toNat = j
 rcases j with _ | _ | _ | _ | _ | _ | _ | _ | j
 kernel_rfl
 kernel_rfl
 kernel_rfl
 kernel_rfl
 kernel_rfl
 kernel_rfl
 kernel_rfl
 kernel_rfl
 rw [List.getD_eq_getElem?_getD, List.getElem?_eq_none (by simp [names8])]; kernel_rfl
theorem key_itA {f : List Int → Tree × List Int} (hf : ∀ l, keyT (f l).1) : ∀ (n : Nat) (l : List Int), ∀ u ∈ (itA f n l).1, keyT u
 | 0, l, u, h => by simp [itA] at h
 | n + 1, l, u, h => by
  simp only [itA, List.mem_append, List.mem_singleton] at h
  rcases h with h | rfl
  exact key_itA hf n l u h
  exact hf _
theorem key_itO {f : List Int → Tree × List Int} (v : Int) (hf : ∀ l, keyT (f l).1) : ∀ (n : Nat) (l : List Int), keyT (itO f v n l).1
 | 0, l => key_leaf
 | n + 1, l => key_setT (key_itO v hf n l) (nmM_key v n) (hf _)
theorem key_madeG {f : List Int → Tree × List Int} {d : Int} (hf : ∀ l, keyT (f l).1) (l : List Int) : keyT (madeG f d l).1 := by
 unfold madeG
 split
 exact key_leaf
 unfold madeV
 split
 exact key_leaf
 split
 exact key_leaf
 split
 exact key_leaf
 split
 exact key_leaf
 split
 exact key_leaf
 split
 exact ⟨fun x hx => by simp at hx, keyL_of (key_itA hf _ _)⟩
 exact key_itO _ hf _ _
theorem key_made : ∀ (d : Nat) (l : List Int), keyT (madeF d l).1
 | 0, l => key_madeG (fun _ => key_leaf) l
 | d + 1, l => key_madeG (key_made d) l
theorem tokW_key (v : Int) : kS (tokW v) = true := by
 unfold tokW
 generalize ((v.tdiv 15).tmod 5).toNat * 1 = i
 rcases i with _ | _ | _ | _ | _ | i
 kernel_rfl
 kernel_rfl
 kernel_rfl
 kernel_rfl
 kernel_rfl
 rw [List.getD_eq_getElem?_getD, List.getElem?_eq_none (by simp)]; kernel_rfl
theorem digW_key (k : Int) : kS (digW k) = true := by
 unfold digW
 generalize (k.tmod 10).toNat * 1 = i
 rcases i with _ | _ | _ | _ | _ | _ | _ | _ | _ | _ | i
 kernel_rfl
 kernel_rfl
 kernel_rfl
 kernel_rfl
 kernel_rfl
 kernel_rfl
 kernel_rfl
 kernel_rfl
 kernel_rfl
 kernel_rfl
 rw [List.getD_eq_getElem?_getD, List.getElem?_eq_none (by simp)]; kernel_rfl
theorem nameW_key {t : Tree} (h : keyT t) (v : Int) : kS (nameW t v) = true := by
 unfold nameW
 split
 by_cases hi : (kW t v).toNat < t.k.length
 exact ((key_eq t).1 h).1 _ (getD_mem hi _)
 rw [List.getD_eq_getElem?_getD, List.getElem?_eq_none (by omega)]; kernel_rfl
 exact digW_key _
theorem way_key : ∀ (f : Nat) (l : List Int) {t : Tree}, keyT t → ∀ x ∈ wayG f t l, kS x = true
 | 0, _, _, _, x, hx => by simp [wayG] at hx
 | f + 1, [], _, _, x, hx => by simp [wayG] at hx
 | f + 1, y :: l, t, h, x, hx => by
  rw [wayG] at hx
  split at hx
  split at hx
  simp only [List.mem_singleton] at hx; subst hx; exact tokW_key _
  simp at hx
  rcases List.mem_cons.1 hx with rfl | hx
  exact nameW_key h _
  exact way_key f l (key_getD (fun u hu => key_at h hu) _) x hx
structure OpE (o : Opn) : Prop where
 op : 1 ≤ o.op ∧ o.op ≤ 6
 path : o.path.length ≤ 4 ∧ ∀ x ∈ o.path, kS x = true
 frm : o.frm.length ≤ 4 ∧ ∀ x ∈ o.frm, kS x = true
 nofrm : o.op ≠ 4 → o.op ≠ 5 → o.frm = []
 val : o.op = 1 ∨ o.op = 3 ∨ o.op = 6 → GoodN 200 20 o.value ∧ nodes o.value ≤ 40
 noval : o.op ≠ 1 → o.op ≠ 3 → o.op ≠ 6 → o.value = Tree.zero
theorem frm_key {t : Tree} (h : keyT t) (l : List Int) (i : Nat) : ∀ x ∈ frmE t l i, kS x = true := by
 unfold frmE
 split
 exact way_key 4 _ h
 split
 exact way_key 4 _ h
 intro x hx; simp at hx
theorem val_key {t : Tree} (h : keyT t) (l : List Int) (i : Nat) : keyT (valE t l i) := by
 unfold valE
 split
 exact key_made 2 _
 split
 exact key_made 2 _
 split
 split
 exact key_getR _ h
 exact key_made 1 _
 exact key_zero
theorem next_key {t : Tree} (h : keyT t) (l : List Int) (i : Nat) : keyT (nextE t l i) := by
 unfold nextE
 split
 exact key_oneR (way_key 4 _ h) (frm_key h l i) h (val_key h l i)
 exact h
theorem eOp_E {t : Tree} (hg : GoodE t) (hk : keyT t) (l : List Int) (i : Nat) : OpE (eOp t l i) := by
 have h6 := tm_w (n := 6) (vW_in l i).1 (by decide)
 have hop : 1 ≤ kE l i ∧ kE l i ≤ 6 := by show 1 ≤ 1 + (vW l i).tmod 6 ∧ 1 + (vW l i).tmod 6 ≤ 6; omega
 refine ⟨hop, ⟨way_len 4 _ t, way_key 4 _ hk⟩, ⟨frm_len t l i, frm_key hk l i⟩, fun h4 h5 => frm_none h4 h5, fun h => ?_, fun h1 h3 h6 => val_none h1 h3 h6⟩
 refine ⟨?_, val_nodes hg l i⟩
 have h' : kE l i = 1 ∨ kE l i = 3 ∨ kE l i = 6 := h
 show GoodN 200 20 (valE t l i)
 have m2 : ∀ l, GoodN 200 20 (madeF 2 l).1 := fun l => goodN_mono (by decide) (by decide) (goodN_T (good_made 2 l))
 have m1 : ∀ l, GoodN 200 20 (madeF 1 l).1 := fun l => goodN_mono (by decide) (by decide) (goodN_T (good_made 1 l))
 rcases h' with h' | h' | h'
 rw [val_made (.inl h')]; exact m2 _
 rw [val_made (.inr h')]; exact m2 _
 cases hq : keepE t l i with
 | true =>
  rw [val_keep h' hq]
  unfold keepE at hq
  rw [Bool.and_eq_true] at hq
  exact good_getR _ hg.good hq.1
 | false => rw [val_test h' hq]; exact m1 _
theorem edG_E : ∀ (n i : Nat) {t : Tree} (l : List Int), GoodE t → keyT t → ∀ o ∈ edG n i t l, OpE o
 | 0, _, _, _, _, _, o, h => by simp [edG] at h
 | n + 1, i, t, l, hg, hk, o, h => by
  rw [edG] at h
  split at h
  split at h
  exact edG_E n (i + 5) l hg hk o h
  rename_i hs
  rcases List.mem_cons.1 h with rfl | h
  exact eOp_E hg hk l i
  exact edG_E n (i + 5) l (next_good hg (by simpa using hs)) (next_key hk l i) o h
  simp at h
theorem edG_len : ∀ (n i : Nat) (t : Tree) (l : List Int), (edG n i t l).length ≤ n
 | 0, _, _, _ => by simp [edG]
 | n + 1, i, t, l => by
  rw [edG]
  split
  split
  exact Nat.le_succ_of_le (edG_len n (i + 5) t l)
  have := edG_len n (i + 5) (nextE t l i) l
  simp only [List.length_cons]; omega
  simp
theorem made_E (l : List Int) : GoodE (madeF 4 l).1 ∧ keyT (madeF 4 l).1 :=
 ⟨⟨goodN_mono (by decide) (by decide) (goodN_T (good_made 4 l)), Nat.le_trans (good_nodes (good_made 4 l)) (by decide)⟩, key_made 4 l⟩
theorem edits_E (l k : List Int) : ∀ o ∈ editsF (madeF 4 l).1 k, OpE o := edG_E 13 0 k (made_E l).1 (made_E l).2
theorem edits_len (t : Tree) (k : List Int) : (editsF t k).length ≤ 13 := edG_len 13 0 t k
def checkP (p : Pat) : Bool :=
 if (p.lang == 1) = true then opsF p.ops && (zeroF p.value && (p.mask.length : Int) == 0)
 else if (p.lang == 2) = true then (p.ops.length : Int) == 0 && (validT p.value && (p.mask.length : Int) == 0)
 else if (p.lang == 3) = true then (p.ops.length : Int) == 0 && (validT p.value && checkF p.mask) else false
theorem con88S (n : Num) (hl : n.m.length < 4294967296) : Con Tryz.prog I0 88 [.agg (enc .num n), .agg (enc .num n)] (.val (vb true)) := by
 have h := con88 n n hl
 rw [show eqN n n = true by simp [eqN]] at h
 exact h
theorem con35S' (p : List (List ByteArray)) (hl : p.length < 4294967296) (hp : ∀ x ∈ p, x.length < 4294967296) : Con Tryz.prog I0 35 [.row .strs p, .row .strs p] (.val (vb true)) := by
 have h := con35 p p hl hp
 rw [sameP_self] at h
 exact h
theorem con60S (p : List ByteArray) (hl : p.length < 4294967296) : Con Tryz.prog I0 60 [.row .str p, .row .str p] (.val (vb true)) := by
 have h := con60 p p hl
 rw [sameS_self] at h
 exact h
def fineP (p : Pat) : Prop := fineT p.value ∧ p.mask.length < 1000000000 ∧ (∀ x ∈ p.mask, x.length < 1000000000) ∧ (∀ x ∈ p.ops, fineO x) ∧ p.ops.length < 1000000000
theorem set_last {α : Type} (xs : List α) (z v : α) : (xs ++ [z]).set xs.length v = xs ++ [v] := by
 induction xs with
 | nil => rfl
 | cons x xs ih => simp [ih]
theorem con36S_ : ∀ (n : Nat) (t : Tree), nodes t < n → fineT t → Con Tryz.prog I0 36 [.agg (encTree t), .agg (encTree t)] (.val (vb true)) := by
 intro n
 induction n
 case zero => intro t hn; omega
 rename_i n ih
 intro t hn hft
 obtain ⟨⟨hf1, hf2, hf3, hf4⟩, hf5⟩ := (fine_eq t).1 hft
 refine con_of Tryz.func36 rfl (Nat.le_of_ble_eq_true rfl) stab (fun w0 fz a hI hs => ?_)
 refine wNs hs hI [] 18 [] [(2, .ptr 1000 0), (3, .ptr 1001 0)] [(1000, bTr (t)), (1001, bTr (t))] fun a w hs => ?_
 refine wp_seq ?_
 have b1 : (t.kind != t.kind) = false := by simp
 have b2 : (t.b == t.b) = true := by simp
 have b3 : (t.s.toList == t.s.toList) = true := by simp
 have b4 : ((t.v.length : Int) != (t.v.length : Int)) = false := by simp
 refine wL hs hI [(1, rg [(17, ciV 88 [.agg [vb t.n.neg, rwU t.n.m, vi t.n.e], .agg [vb t.n.neg, rwU t.n.m, vi t.n.e]] (vb true)), (32, ciV 60 [rwS t.k, rwS t.k] (vb true))] [6, 7, 8, 9, 10, 13, 14, 15, 16, 17, 18, 21, 22, 23, 24, 25, 28, 29, 30, 31, 32, 33, 36, 37, 38, 39, 40, 41, 42] [1011, 1019, 1026, 1034, 1043])] (bz 1 0) 7266666666666666666677777777774377777777777743777777777788 [q1 b1, q1 b1, q1 b1, q1 b1, q1 b1, q1 b1, q1 (ng1 b2), q1 (ng1 b2), q1 (ng1 b2), q1 (ng1 b2), q1 (ng1 b2), q1 (ng1 b2), q1 (ng1 b2), q0 false, q0 false, q0 false, q0 false, q0 false, q0 false, q1 (ng1 b3), q1 (ng1 b3), q1 (ng1 b3), q1 (ng1 b3), q1 (ng1 b3), q1 (ng1 b3), q1 (ng1 b3), q0 false, q0 false, q0 false, q0 false, q0 false, q0 false, q0 false, q0 false, q1 b4] .norm [(2, .ptr 1000 0), (3, .ptr 1001 0)] [(1000, bTr (t)), (1001, bTr (t))] ⟨con88S t.n (by omega), con60S _ (by omega), tv⟩ fun a w hs => ?_
 refine then_norm ?_
 refine wp_seq ?_
 refine wNs hs hI [] 11 [] [(2, .ptr 1000 0), (3, .ptr 1001 0), (5, vi 0)] [(1000, bTr (t)), (1001, bTr (t))] fun a w hs => ?_
 refine wp_block ?_
 refine loop_L (N := Tryz.f36.ntmps) (w0 := w0) (ow := noO fz) (α := Nat) (fun p => [(2, .ptr 1000 0), (3, .ptr 1001 0), (5, vi (p : Int))]) (fun p => [(1000, bTr (t)), (1001, bTr (t))]) (fun p => p ≤ t.v.length) (fun p => t.v.length - p) 0 ?_ ?_ ?_
 exact Nat.zero_le _
 exact (hs.cst [(2, .ptr 1000 0), (3, .ptr 1001 0), (5, vi ((0 : Nat) : Int))] [(1000, bTr (t)), (1001, bTr (t))] rfl).rk [(1000, 1000), (1001, 1001)]
 rintro i hJ a w hs
 rcases bd ((i : Int) < (t.v.length : Int)) with ⟨b5, n5⟩ | ⟨b5, n5⟩
 refine wL hs hI [(6, rc [(10, ciV 36 [aTr ((t.v.getD i (dflt .tree))), aTr ((t.v.getD i (dflt .tree)))] (vb true))])] (bz 2 1) 17197666047878972688 [q1 b5, q4 (i : Int) t.v.length, q4 (i : Int) t.v.length, q0 false, q3 ((i : Int) + 1)] .norm [(2, .ptr 1000 0), (3, .ptr 1001 0), (5, vi ((i : Int) + 1))] [(1000, bTr (t)), (1001, bTr (t))] ⟨ih _ (by have h1 := nodes_eq t; have h2 := nodes_at (l := t.v) (i := i) (by omega); omega) (fine_at hft (by omega) _), tv⟩ fun a w hs => ?_
 refine then_norm ⟨i + 1, by omega, by omega, ?_⟩
 exact hs.rk [(1000, 1000), (1001, 1001)]
 refine wN hs hI (bz 1 0) 72688 [q1 b5] (.exit 0) [] [] fun a w hs => ?_
 refine then_exit ?_
 refine inb_hit ?_
 refine then_norm ?_
 refine wN hs hI [] 120 [] .ret [(4, vb true)] [] fun a w hs => ?_
 exact rK (.val (vb true)) [] hs rfl
theorem con36S' (t : Tree) (h : fineT t) : Con Tryz.prog I0 36 [.agg (encTree t), .agg (encTree t)] (.val (vb true)) := con36S_ (nodes t + 1) t (Nat.lt_succ_self _) h
theorem con16S (pq : Pat) (h : fineP pq) : Con Tryz.prog I0 16 [.agg [vi pq.lang, .row .opn pq.ops, vi pq.value.kind, vb pq.value.b, vb pq.value.n.neg, .row (.int .u32) pq.value.n.m, vi pq.value.n.e, vs pq.value.s, .row .str pq.value.k, .row .tree pq.value.v, .row .strs pq.mask], .agg [vi pq.lang, .row .opn pq.ops, vi pq.value.kind, vb pq.value.b, vb pq.value.n.neg, .row (.int .u32) pq.value.n.m, vi pq.value.n.e, vs pq.value.s, .row .str pq.value.k, .row .tree pq.value.v, .row .strs pq.mask]] (.val (vb true)) := by
 obtain ⟨hv, hml, hms, hops, hol⟩ := h
 refine con_of Tryz.func16 rfl (Nat.le_of_ble_eq_true rfl) stab (fun w0 fz a hI hs => ?_)
 refine wNs hs hI [] 18 [] [(2, .ptr 1000 0), (3, .ptr 1001 0)] [(1000, .var (encP pq)), (1001, .var (encP pq))] fun a w hs => ?_
 refine wp_seq ?_
 have b1 : (pq.lang != pq.lang) = false := by simp
 have b2 : ((pq.ops.length : Int) != (pq.ops.length : Int)) = false := by simp
 refine wL hs hI [(1, rg [(10, ciV 36 [aTr (pq.value), aTr (pq.value)] (vb true)), (18, ciV 35 [.row .strs pq.mask, .row .strs pq.mask] (vb true))] [6, 7, 8, 9, 10, 11, 14, 15, 16, 17, 18, 19, 22, 23, 24, 25, 26, 27, 28] [1012, 1020, 1029])] (bz 1 0) 7266666666666677777777774377777743777788 [q1 b1, q1 b1, q1 b1, q1 b1, q1 b1, q1 b1, q1 b1, q0 false, q0 false, q0 false, q0 false, q0 false, q0 false, q0 false, q0 false, q0 false, q0 false, q0 false, q0 false, q0 false, q0 false, q0 false, q1 b2] .norm [(2, .ptr 1000 0), (3, .ptr 1001 0)] [(1000, .var (encP pq)), (1001, .var (encP pq))] ⟨con36S' _ (hv), con35S' _ (by omega) (fun x hx => by have := hms x hx; omega), tv⟩ fun a w hs => ?_
 refine then_norm ?_
 refine wp_seq ?_
 refine wNs hs hI [] 11 [] [(2, .ptr 1000 0), (3, .ptr 1001 0), (5, vi 0)] [(1000, .var (encP pq)), (1001, .var (encP pq))] fun a w hs => ?_
 refine wp_block ?_
 refine loop_L (N := Tryz.f16.ntmps) (w0 := w0) (ow := noO fz) (α := Nat) (fun p => [(2, .ptr 1000 0), (3, .ptr 1001 0), (5, vi (p : Int))]) (fun p => [(1000, .var (encP pq)), (1001, .var (encP pq))]) (fun p => p ≤ pq.ops.length) (fun p => pq.ops.length - p) 0 ?_ ?_ ?_
 exact Nat.zero_le _
 exact (hs.cst [(2, .ptr 1000 0), (3, .ptr 1001 0), (5, vi ((0 : Nat) : Int))] [(1000, .var (encP pq)), (1001, .var (encP pq))] rfl).rk [(1000, 1000), (1001, 1001)]
 rintro i hJ a w hs
 rcases bd ((i : Int) < (pq.ops.length : Int)) with ⟨b3, n3⟩ | ⟨b3, n3⟩
 have b4 : (((pq.ops.getD i (dflt .opn)).op) != ((pq.ops.getD i (dflt .opn)).op)) = false := by simp
 refine wL hs hI [(7, rg [(10, ciV 60 [rwS ((pq.ops.getD i (dflt .opn)).path), rwS ((pq.ops.getD i (dflt .opn)).path)] (vb true)), (18, ciV 60 [rwS ((pq.ops.getD i (dflt .opn)).frm), rwS ((pq.ops.getD i (dflt .opn)).frm)] (vb true)), (26, ciV 36 [aTr (((pq.ops.getD i (dflt .opn)).value)), aTr (((pq.ops.getD i (dflt .opn)).value))] (vb true))] [6, 7, 8, 9, 10, 11, 14, 15, 16, 17, 18, 19, 22, 23, 24, 25, 26, 27] [1012, 1020, 1028])] (bz 2 1) 1712972966666666666774377777743777777437777889666087878972688 [q1 b3, q4 (i : Int) pq.ops.length, q4 (i : Int) pq.ops.length, q1 b4, q1 b4, q1 b4, q1 b4, q1 b4, q1 b4, q1 b4, q0 false, q0 false, q0 false, q0 false, q0 false, q0 false, q0 false, q0 false, q0 false, q0 false, q0 false, q0 false, q0 false, q0 false, q0 false, q3 ((i : Int) + 1)] .norm [(2, .ptr 1000 0), (3, .ptr 1001 0), (5, vi ((i : Int) + 1))] [(1000, .var (encP pq)), (1001, .var (encP pq))] ⟨con60S _ (by have := hops _ (getD_mem (l := pq.ops) (i := i) (by omega) (dflt .opn)); have h1 := this.1; have h2 := this.2.1; omega), con60S _ (by have := hops _ (getD_mem (l := pq.ops) (i := i) (by omega) (dflt .opn)); have h1 := this.1; have h2 := this.2.1; omega), con36S' _ ((hops _ (getD_mem (by omega) _)).2.2), tv⟩ fun a w hs => ?_
 refine then_norm ⟨i + 1, by omega, by omega, ?_⟩
 exact hs.rk [(1000, 1000), (1001, 1001)]
 refine wN hs hI (bz 1 0) 72688 [q1 b3] (.exit 0) [] [] fun a w hs => ?_
 refine then_exit ?_
 refine inb_hit ?_
 refine then_norm ?_
 refine wN hs hI [] 120 [] .ret [(4, vb true)] [] fun a w hs => ?_
 exact rK (.val (vb true)) [] hs rfl
theorem check_in {pq : Pat} (h : checkP pq = true) : (pq.lang = 1 → opsF pq.ops = true ∧ zeroF pq.value = true ∧ ((pq.mask.length : Int) == 0) = true) ∧ (pq.lang = 2 → ((pq.ops.length : Int) == 0) = true ∧ validT pq.value = true ∧ ((pq.mask.length : Int) == 0) = true) ∧ (pq.lang = 3 → ((pq.ops.length : Int) == 0) = true ∧ validT pq.value = true ∧ checkF pq.mask = true) ∧ (pq.lang = 1 ∨ pq.lang = 2 ∨ pq.lang = 3) := by
 unfold checkP at h
 split at h
 rename_i h1
 simp only [Bool.and_eq_true] at h
 have e := eq_of_beq h1
 exact ⟨fun _ => h, fun _ => by omega, fun _ => by omega, .inl e⟩
 rename_i h1
 rw [beq_iff_eq] at h1
 split at h
 rename_i h2
 simp only [Bool.and_eq_true] at h
 have e := eq_of_beq h2
 exact ⟨fun _ => by omega, fun _ => h, fun _ => by omega, .inr (.inl e)⟩
 rename_i h2
 rw [beq_iff_eq] at h2
 split at h
 rename_i h3
 simp only [Bool.and_eq_true] at h
 have e := eq_of_beq h3
 exact ⟨fun _ => by omega, fun _ => by omega, fun _ => h, .inr (.inr e)⟩
 cases h
theorem con51 (pq : Pat) (hv : fineT pq.value) (hms : ∀ x ∈ pq.mask, smalls x) (hml : pq.mask.length < 1000000000) (hops : ∀ x ∈ pq.ops, fineO x) (hol : pq.ops.length < 1000000000) (hc : checkP pq = true) : Con Tryz.prog I0 51 [.agg [vi pq.lang, .row .opn pq.ops, vi pq.value.kind, vb pq.value.b, vb pq.value.n.neg, .row (.int .u32) pq.value.n.m, vi pq.value.n.e, vs pq.value.s, .row .str pq.value.k, .row .tree pq.value.v, .row .strs pq.mask]] (.val (vb true)) := by
 obtain ⟨hc1, hc2, hc3, hc4⟩ := check_in hc
 refine con_of Tryz.func51 rfl (Nat.le_of_ble_eq_true rfl) stab (fun w0 fz a hI hs => ?_)
 rcases bq (pq.lang) (1) with ⟨b1, n1⟩ | ⟨b1, n1⟩
 have b2 : (zeroF pq.value) = true := by exact (hc1 (by omega)).2.1
 refine wL hs hI [(1, rc [(6, ciV 106 [aTr (pq.value)] (vb (zeroF pq.value)))]), (5, rc [(2, ciV 107 [.row .opn pq.ops] (vb true))]), (10, rg [] [2, 1003, 5, 1006] [])] (bz 1 1) 196617777029604179898966608848898 [q1 b1, q0 true, q0 true, q1 b2, q1 b2] .ret [(2, vb ((pq.mask.length : Int) == 0))] [] ⟨con106 _, con107 _ hops (hc1 (by omega)).1 (by omega), tv⟩ fun a w hs => ?_
 exact rK (.val (vb ((pq.mask.length : Int) == 0))) [] hs (by first | rfl | simp_all)
 rcases bq (pq.lang) (2) with ⟨b3, n3⟩ | ⟨b3, n3⟩
 have b4 : ((pq.ops.length : Int) == 0) = true := by exact (hc2 (by omega)).1
 have b5 : (validT pq.value) = true := by exact (hc2 (by omega)).2.1
 refine wL hs hI [(1, rc [(6, ciV 106 [aTr (pq.value)] (vb (zeroF pq.value)))]), (7, rc [(2, ciV 57 [aTr (pq.value)] (vb (validT pq.value)))]), (10, rg [] [2, 1003, 5, 1006] [])] (bz 2 2) 196617777026604179079898966608848898 [q1 b1, q1 b3, q1 b4, q1 b4, q1 b5, q1 b5] .ret [(2, vb ((pq.mask.length : Int) == 0))] [] ⟨con106 _, con57 _ hv, tv⟩ fun a w hs => ?_
 exact rK (.val (vb ((pq.mask.length : Int) == 0))) [] hs (by first | rfl | simp_all)
 have b6 : (pq.lang == 3) = true := by simp only [beq_iff_eq]; omega
 have b7 : ((pq.ops.length : Int) == 0) = true := by exact (hc3 (by omega)).1
 have b8 : (validT pq.value) = true := by exact (hc3 (by omega)).2.1
 refine wL hs hI [(1, rc [(6, ciV 106 [aTr (pq.value)] (vb (zeroF pq.value)))]), (9, rc [(2, ciV 57 [aTr (pq.value)] (vb (validT pq.value))), (5, ciV 39 [.row .strs pq.mask] (vb (checkF pq.mask)))]), (10, rg [] [2, 1003, 5, 1006] [])] (bz 3 4) 1966177770296668404179079079898966608848898 [q1 b1, q1 b3, q1 b6, q1 b7, q1 b7, q1 b8, q1 b8] .ret [(2, vb (checkF pq.mask))] [] ⟨con106 _, con57 _ hv, con39 _ hms (by omega), tv⟩ fun a w hs => ?_
 exact rK (.val (vb (checkF pq.mask))) [] hs (by first | rfl | simp_all)
theorem con112 (ks : List ByteArray) (us : List Tree) (x : ByteArray) (v : Tree) (hk : ks.length < 1000000000) (hv : us.length < 1000000000) : ConB Tryz.prog I0 112 [vs x, .agg (encTree v), .ptr 0 0] [(0, .var [vi 7, vb false, vb false, nilv, vi 0, vs (ba []), .own 1, .own 2]), (1, .sl 9 .str ks), (2, .sl 29 .tree us)] (.val (.tup [])) [(0, .var [vi 7, vb false, vb false, nilv, vi 0, vs (ba []), .own 2004, .own 3005]), (2004, .sl 9 .str (ks ++ [x])), (3005, .sl 29 .tree (us ++ [v]))] := by
 refine con_ofB Tryz.func112 rfl (Nat.le_of_ble_eq_true rfl) (by kernel_rfl) (fun w0 fz η a hI hs => ?_)
 refine wN hs hI [] 1173308296071820 [q7 ks.length 1 16, q7 us.length 1 120, ⟨0 ≤ (us.length : Int) ∧ (us.length : Int) < (us ++ ([(Tree.mk 0 false ⟨false, [], 0⟩ (ba []) ([]) ([]))])).length, (by first | omega | (simp; done) | (simp; omega))⟩, ⟨us.length < (us ++ ([(Tree.mk 0 false ⟨false, [], 0⟩ (ba []) ([]) ([]))])).length, (by first | omega | (simp; done) | (simp; omega))⟩] .norm [] [(0, .var [vi 7, vb false, vb false, nilv, vi 0, vs (ba []), .own 2004, .own 3005]), (2004, .sl 9 .str (ks ++ ([x]))), (3005, .sl 29 .tree ((us ++ ([(Tree.mk 0 false ⟨false, [], 0⟩ (ba []) ([]) ([]))])).set us.length (Tree.et v)))] fun a w hs => ?_
 exact FnQB_cast (out := .val (.tup [])) (bo := [(0, .var [vi 7, vb false, vb false, nilv, vi 0, vs (ba []), .own 2004, .own 3005]), (2004, .sl 9 .str (ks ++ ([x]))), (3005, .sl 29 .tree ((us ++ ([(Tree.mk 0 false ⟨false, [], 0⟩ (ba []) ([]) ([]))])).set us.length (Tree.et v)))]) (rfl) (by simp only [Tree.eta', set_last]) (norm_okB _ hs (by kernel_rfl) (by kernel_rfl))
end Go.Proofs.YtondpnipoogoiaaGreatDoor.F
namespace Go.Proofs.YtondpnipoogoiaaGreatDoor.X
open Go Go.RowKit Go.Shelf
def escR (t : ByteArray) : ByteArray := ⟨(Lib.replaceAll (⟨(Lib.replaceAll t.data.toList [126] [126, 48]).toArray⟩ : ByteArray).data.toList [47] [126, 49]).toArray⟩
def textB (l : List ByteArray) : List UInt8 := l.flatMap fun t => 47 :: (escR t).data.toList
theorem textB_succ {l : List ByteArray} {i : Nat} {x : ByteArray} (h : l[i]? = some x) : textB (l.take (i + 1)) = textB (l.take i) ++ [47] ++ (escR x).data.toList := by
 unfold textB
 rw [List.take_add_one, h]
 simp
theorem WriteString (B b : Nat) (bs : List Value) (s : ByteArray) (w : World) (h : Lib.IsBuilder 142 5 B b bs w) (hlen : bs.length + s.size ≤ 140737488355328) (hBw : B ≤ w.heap.size) :
  Calls Tryz.prog 148 #[.pointer (some ⟨b, 0, none⟩), .string s] w fun e w' => e = .returned (.tuple #[.int .i64 s.size, .nilIface]) ∧ (Lib.BuilderAt 142 5 B b (.pointer (some ⟨b, 0, none⟩)) (bs ++ Lib.strCells s) w' ∧ Below B w w') := Any.Builder_WriteString { Tryz.lays155 with } Tryz.Builder_Extra_155 B b bs s w h hlen hBw
theorem builder_below {T e : TypeId} {B b : Nat} {p : Value} {bs : List Value} {w w' : World} (h : Lib.BuilderAt T e B b p bs w) (hb : Below w.heap.size w w') : Lib.BuilderAt T e B b p bs w' := by
 obtain ⟨hB, v, hc, hown, hne⟩ := h
 have lt : ∀ k o, w.heap[k]? = some o → w'.heap[k]? = some o := fun k o hk => by rw [hb.block k (Array.getElem?_eq_some_iff.1 hk).1]; exact hk
 refine ⟨hB, v, lt _ _ hc, ?_, hne⟩
 obtain ⟨hl, h⟩ := hown
 refine ⟨hl, ?_⟩
 rcases h with h | ⟨g, cap, cur, rfl, h1, h2, h3⟩
 exact .inl h
 exact .inr ⟨g, cap, cur, rfl, h1, lt _ _ h2, h3⟩
theorem add_blk (ad : Addr) (n : Nat) : (ad.add n).block = ad.block := by unfold Addr.add; split <;> rfl
def TxtRel (l : List ByteArray) (w w' : World) (i : Nat) : Prop :=
 Lib.IsBuilder 142 5 w.heap.size w.heap.size (Lib.byteCells (textB (l.take i))) w' ∧ Below w.heap.size w w'
theorem byteCells_app (a b : List UInt8) : Lib.byteCells (a ++ b) = Lib.byteCells a ++ Lib.byteCells b := by simp [Lib.byteCells]
theorem countB_one (s : ByteArray) (c : UInt8) : Lib.countB s ⟨#[c]⟩ ≤ s.size := Lib.countB_le _ (Nat.le_refl _) s.size s (Nat.le_refl _)
set_option maxHeartbeats 8000000 in
theorem pointer_text.calls (A : Option Addr) (c : Nat) (l : List ByteArray) (w : World) (hL : Laid w) (hrow : ∀ i x, l[i]? = some x → ∃ ad, A = some ad ∧ ad.block < w.heap.size ∧ w.cell? (ad.add i) = some (.string x)) (hc : l.length ≤ c) (hl : l.length ≤ 1000) (hs : ∀ x ∈ l, x.size ≤ 2000)
  (he : ∀ x ∈ l, (⟨(Lib.replaceAll x.data.toList [126] [126, 48]).toArray⟩ : ByteArray).size ≤ 4000 ∧ (escR x).size ≤ 8000) :
  Calls Tryz.prog 114 #[.slice A l.length c] w fun e w' => e = .returned (.string ⟨(textB l).toArray⟩) ∧ Below w.heap.size w w' := by
 have hlen : ∀ i, i ≤ l.length → (textB (l.take i)).length ≤ i * 8001 := by
  intro i
  induction i with
  | zero => intro _; simp [textB]
  | succ i ih =>
   intro hi
   have h1 : l[i]? = some l[i] := List.getElem?_eq_getElem (by omega)
   rw [textB_succ h1]
   have h2 := (he l[i] (List.getElem_mem _)).2
   have h3 := ih (by omega)
   have h4 : (escR l[i]).data.toList.length = (escR l[i]).size := by rw [Lib.size_eq]
   simp only [List.length_append, List.length_cons, List.length_nil]
   omega
 have HM := Hide0.mk hL
 have HR' := Hide0.mk hrow
 have HL := Hide0.mk hlen
 have HS := Hide0.mk hs
 have HE := Hide0.mk he
 clear hL hrow hlen hs he
 go_enter Tryz.func114, Tryz.ntmps114
 go_wp2
 have HF : Hide0 (TxtRel l w (w.alloc (.cells #[.pointer none, .slice none 0 0] 142)) 0) := ⟨by simp only [List.take_zero]; exact Lib.fresh_isBuilder 142 5 w, (Below.refl _ _).alloc (Nat.le_refl _) _⟩
 go_loopw [8] (fun n w' => ∃ i : Nat, i ≤ l.length ∧ n = .int .i64 i ∧ Hide0 (TxtRel l w w' i)) (fun n _ => l.length - (intOf n).toNat)
 case atStart => exact ⟨0, Nat.zero_le _, rfl, HF⟩
 case round =>
  clear HF
  obtain ⟨i, hi, rfl, HR⟩ := hrel
  obtain ⟨hI, hB⟩ := HR.out
  have HI := Hide0.mk hI
  have HB := Hide0.mk hB
  clear hI hB HR
  by_cases hlt : i < l.length
  ·obtain ⟨x, hx⟩ : ∃ x, l[i]? = some x := ⟨_, List.getElem?_eq_getElem hlt⟩
   have HX := Hide0.mk hx
   obtain ⟨ad, rfl, hadlt, hcell⟩ := HR'.out i x hx
   have hcell2 : wr.cell? (ad.add i) = some (.string x) := (World.cell?_of_block (by rw [add_blk]; exact HB.out.block _ hadlt)).trans hcell
   clear hcell hadlt
   have hl1 : (Lib.byteCells (textB (l.take i))).length + 1 ≤ 140737488355328 := by
    have := HL.out i hi
    simp only [Lib.byteCells, List.length_map]; omega
   go_wp2_with fail
   refine (B1.WriteByte _ _ _ _ _ HI.out hl1 HB.out.size).mono ?_
   rintro e w2 ⟨rfl, hB2, hb2⟩
   have hxm : x ∈ l := List.mem_of_getElem? hx
   have HC2 := Hide0.mk (HB.out.trans hb2)
   have HB2 := Hide0.mk hB2
   clear hB2 hb2 hcell2 hl1
   go_wp2_with fail
   obtain ⟨m2, hm2⟩ := Laid.long (HM.out.below HC2.out)
   refine (Tryz.strings_ReplaceAll x ⟨#[126]⟩ ⟨#[126, 48]⟩ m2 _ (by have := HS.out x hxm; omega) hm2 (Nat.le_refl _) (by
    have h1 := HS.out x hxm
    have h2 := countB_one x 126
    have h3 : (⟨#[126, 48]⟩ : ByteArray).size = 2 := rfl
    rw [h3]; omega)).mono ?_
   rintro e w3 ⟨rfl, hb3⟩
   have HB3 := Hide0.mk (builder_below HB2.out hb3)
   have HC3 := Hide0.mk (HC2.out.trans (hb3.mono HC2.out.size))
   clear hm2 hb3
   go_wp2_with fail
   obtain ⟨m3, hm3⟩ := Laid.long (HM.out.below HC3.out)
   refine (Tryz.strings_ReplaceAll _ ⟨#[47]⟩ ⟨#[126, 49]⟩ m3 _ (by have := (HE.out x hxm).1; exact Nat.lt_of_le_of_lt this (by decide)) hm3 (Nat.le_refl _) (by
    have h1 := (HE.out x hxm).1
    have h2 := countB_one (⟨(Lib.replaceAll x.data.toList [126] [126, 48]).toArray⟩ : ByteArray) 47
    have h3 : (⟨#[126, 49]⟩ : ByteArray).size = 2 := rfl
    rw [h3]
    exact Nat.le_trans (Nat.add_le_add h1 (Nat.mul_le_mul_right 2 (Nat.le_trans h2 h1))) (by decide))).mono ?_
   rintro e w4 ⟨rfl, hb4⟩
   have HB4 := Hide0.mk (builder_below HB3.out hb4)
   have HC4 := Hide0.mk (HC3.out.trans (hb4.mono HC3.out.size))
   clear hm3 hb4
   go_wp2_with fail
   have hl4 : (Lib.byteCells (textB (l.take i)) ++ [Value.int .u8 47]).length + (escR x).size ≤ 140737488355328 := by
    have h1 := HL.out i hi
    have h2 := (HE.out x hxm).2
    simp only [Lib.byteCells, List.length_append, List.length_map, List.length_cons, List.length_nil]; omega
   refine (WriteString _ _ _ (escR x) _ (.inr HB4.out) hl4 HC4.out.size).mono ?_
   rintro e w5 ⟨rfl, hB5, hb5⟩
   have HR5 := Hide0.mk (show TxtRel l w w5 (i + 1) from ⟨.inr (by
    rw [textB_succ HX.out, byteCells_app, byteCells_app]; exact hB5), HC4.out.trans hb5⟩)
   clear hB5 hb5 hl4
   go_wp2
   go_round
   case rel => exact ⟨i + 1, by omega, by go_num, HR5⟩
   case measure => simp [intOf]; omega
  ·obtain rfl : i = l.length := by omega
   go_wp2_with fail
   refine (Tryz.Builder_String_any _ _ (textB (l.take l.length)) _ HI.out HB.out.size).mono ?_
   rintro e w3 ⟨rfl, hb3⟩
   have HW3 := Hide0.mk (HB.out.trans hb3)
   clear hb3
   go_wp2
   go_ret
   exact ⟨rfl, HW3.out⟩
end Go.Proofs.YtondpnipoogoiaaGreatDoor.X
namespace Go.Proofs.YtondpnipoogoiaaGreatDoor.F
open Go Go.RowKit
def putL (c : UInt8) (new : List UInt8) (x : UInt8) : List UInt8 := if x = c then new else [x]
theorem put_none {c : UInt8} {new : List UInt8} : ∀ {s : List UInt8}, c ∉ s → s.flatMap (putL c new) = s
 | [], _ => rfl
 | x :: s, h => by
  have h1 : x ≠ c := fun e => h (by rw [e]; exact List.mem_cons_self ..)
  rw [List.flatMap_cons, put_none (fun hm => h (List.mem_cons_of_mem _ hm)), putL, if_neg h1]; rfl
theorem replaceK_one (c : UInt8) (new : List UInt8) : ∀ (k : Nat) (s : List UInt8), s.count c ≤ k → Lib.replaceK [c] new k s = s.flatMap (putL c new)
 | 0, s, h => by
  rw [put_none (fun hm => by have := List.count_pos_iff.2 hm; omega)]; rfl
 | k + 1, s, h => by
  rw [Lib.replaceK, Lib.index_one]
  have hge := Lib.indexByte_ge s c
  by_cases hm : Lib.indexByte s c = -1
  ·rw [hm, if_pos (by decide), put_none]
   intro hmem
   obtain ⟨i, hi⟩ := List.getElem?_of_mem hmem
   exact Lib.indexByte_none hm i hi
  ·rw [if_neg (by simpa using hm)]
   obtain ⟨i, hi⟩ : ∃ i : Nat, Lib.indexByte s c = i := ⟨(Lib.indexByte s c).toNat, by omega⟩
   obtain ⟨h1, h2⟩ := Lib.indexByte_some hi
   have e : (Lib.indexByte s c).toNat = i := by omega
   have hl : i < s.length := (List.getElem?_eq_some_iff.1 h1).1
   have hs : s = s.take i ++ c :: s.drop (i + 1) := by
    rw [← (List.getElem?_eq_some_iff.1 h1).2, ← List.drop_eq_getElem_cons hl, List.take_append_drop]
   have hn : c ∉ s.take i := fun hmem => by
    obtain ⟨j, hj⟩ := List.getElem?_of_mem hmem
    have hji : j < i := by have := (List.getElem?_eq_some_iff.1 hj).1; rw [List.length_take] at this; omega
    rw [List.getElem?_take, if_pos hji] at hj
    exact h2 j hji hj
   have hc : (s.drop (i + 1)).count c ≤ k := by
    have : s.count c = (s.take i).count c + (1 + (s.drop (i + 1)).count c) := by
     conv => lhs; rw [hs, List.count_append, List.count_cons_self]
     omega
    omega
   rw [e, show ([c] : List UInt8).length = 1 from rfl, replaceK_one c new k _ hc]
   conv => rhs; rw [hs, List.flatMap_append, List.flatMap_cons, put_none hn]
   simp [putL]
theorem replaceAll_one (s : List UInt8) (c : UInt8) (new : List UInt8) (hne : ([c] == new) = false) : Lib.replaceAll s [c] new = s.flatMap (putL c new) := by
 unfold Lib.replaceAll Lib.replace
 rw [if_neg (by rw [hne]; decide)]
 refine replaceK_one c new _ s ?_
 unfold Lib.replaceNum
 rw [if_pos (.inl (by decide)), Lib.count_one]
 exact Nat.le_refl _
def escC (c : UInt8) : List UInt8 := if c = 126 then [126, 48] else if c = 47 then [126, 49] else [c]
def escL (s : List UInt8) : List UInt8 := s.flatMap escC
theorem esc_eq (s : List UInt8) : Lib.replaceAll (Lib.replaceAll s [126] [126, 48]) [47] [126, 49] = escL s := by
 rw [replaceAll_one _ 126 _ (by decide), replaceAll_one _ 47 _ (by decide)]
 unfold escL
 rw [List.flatMap_assoc]
 congr 1
 funext c
 unfold putL escC
 by_cases h : c = 126
 rw [if_pos h, if_pos h]; rfl
 rw [if_neg h, if_neg h]
 simp only [List.flatMap_cons, List.flatMap_nil, List.append_nil]
theorem escC_len (c : UInt8) : (escC c).length ≤ 2 := by unfold escC; split; exact Nat.le_refl _; split <;> simp
theorem escL_len (s : List UInt8) : (escL s).length ≤ 2 * s.length := by
 unfold escL
 induction s with
 | nil => simp
 | cons c s ih => have := escC_len c; simp only [List.flatMap_cons, List.length_append, List.length_cons]; omega
theorem putL_len (c d e : UInt8) (s : List UInt8) : (s.flatMap (putL c [d, e])).length ≤ 2 * s.length := by
 induction s with
 | nil => simp
 | cons x s ih =>
  have : (putL c [d, e] x).length ≤ 2 := by unfold putL; split <;> simp
  simp only [List.flatMap_cons, List.length_append, List.length_cons]; omega
def ptxt (p : List ByteArray) : ByteArray := ⟨(p.flatMap fun t => 47 :: escL t.data.toList).toArray⟩
theorem escR_eq (t : ByteArray) : X.escR t = ⟨(escL t.data.toList).toArray⟩ := by
 unfold X.escR
 rw [show (⟨(Lib.replaceAll t.data.toList [126] [126, 48]).toArray⟩ : ByteArray).data.toList = Lib.replaceAll t.data.toList [126] [126, 48] from rfl, esc_eq]
theorem con114 (p : List ByteArray) (hl : p.length ≤ 1000) (hs : ∀ x ∈ p, x.size ≤ 2000) : Con Tryz.prog I0 114 [.row .str p] (.val (vs (ptxt p))) := by
 intro w fz us hI hfz hR
 have hsz : us.size = 1 := hR.1
 have hu : us = #[us[0]] := by
  refine Array.ext (by simpa using hsz) (fun i h1 h2 => ?_)
  have h3 : i = 0 := by simpa using h2
  subst h3; rfl
 have h0 := hR.2 0 us[0] (.row .str p) (Array.getElem?_eq_getElem (by omega)) rfl
 obtain ⟨A, c, hv, hc, hm, hel⟩ := h0.row_inv
 rw [hu, hv]
 have e : X.textB p = p.flatMap fun t => 47 :: escL t.data.toList := by
  unfold X.textB
  congr 1
  funext t
  rw [escR_eq]
 refine (X.pointer_text.calls A c p w hI (fun i x hx => ?_) hc hl hs (fun x hx => ?_)).mono fun e2 w' hh => ⟨⟨_, hh.1, by rw [e]; exact .lit _⟩, hh.2⟩
 obtain ⟨ad, hA, _, hlt, hcell⟩ := hel i x hx
 obtain ⟨u, hu2, hr⟩ := hcell 0 (.lit (.string x)) rfl
 rw [hr.lit_inv] at hu2
 exact ⟨ad, hA, hlt, by simpa [sz] using hu2⟩
 have h1 := hs x hx
 have h2 : x.data.toList.length = x.size := by rw [Lib.size_eq]
 refine ⟨?_, ?_⟩
 rw [replaceAll_one _ 126 _ (by decide)]
 have := putL_len 126 126 48 x.data.toList
 rw [Lib.size_eq]
 show (List.flatMap (putL 126 [126, 48]) x.data.toList).length ≤ 4000
 omega
 rw [escR_eq, Lib.size_eq]
 have := escL_len x.data.toList
 show (escL x.data.toList).length ≤ 8000
 omega
open Go.Proofs.Tryz
def wordF (k : Int) : ByteArray := wordsL.getD (k - 1).toNat (dflt .str)
def objK (x : Opn) : List ByteArray := (((if fromF x.op = true then [nFrom] else []) ++ [nOp]) ++ [nPath]) ++ (if valueF x.op = true then [nValue] else [])
def objV (x : Opn) : List Tree := (((if fromF x.op = true then [textT (ptxt x.frm)] else []) ++ [textT (wordF x.op)]) ++ [textT (ptxt x.path)]) ++ (if valueF x.op = true then [x.value] else [])
def objT (x : Opn) : Tree := .mk 7 false ⟨false, [], 0⟩ (ba []) (objK x) (objV x)
def arrT (l : List Tree) : Tree := .mk 6 false ⟨false, [], 0⟩ (ba []) [] l
def pairT (s : ByteArray) (v : Tree) : Tree := .mk 7 false ⟨false, [], 0⟩ (ba []) [nMask, nValue] [textT s, v]
theorem con112n (x : ByteArray) (v : Tree) : ConB Tryz.prog I0 112 [vs x, .agg (encTree v), .ptr 0 0] [(0, .var [vi 7, vb false, vb false, nilv, vi 0, vs (ba []), nilv, nilv])] (.val (.tup [])) [(0, .var [vi 7, vb false, vb false, nilv, vi 0, vs (ba []), .own 2004, .own 3005]), (2004, .sl 9 .str ([x])), (3005, .sl 29 .tree ([v]))] := by
 refine con_ofB Tryz.func112 rfl (Nat.le_of_ble_eq_true rfl) (by kernel_rfl) (fun w0 fz η a hI hs => ?_)
 refine wN hs hI [] 1173308296071820 [⟨(1 * 16 : Nat) ≤ 140737488355328 ∧ 1 ≤ 140737488355328, (by decide)⟩, ⟨(1 * 120 : Nat) ≤ 140737488355328 ∧ 1 ≤ 140737488355328, (by decide)⟩, ⟨(0 : Int) ≤ 0 ∧ (0 : Int) < ((1 : Nat) : Int), (by decide)⟩, ⟨0 < 1, (by decide)⟩] .norm [] [(0, .var [vi 7, vb false, vb false, nilv, vi 0, vs (ba []), .own 2004, .own 3005]), (2004, .sl 9 .str ([x])), (3005, .sl 29 .tree ([(Tree.et v)]))] fun a w hs => ?_
 exact FnQB_cast (out := .val (.tup [])) (bo := [(0, .var [vi 7, vb false, vb false, nilv, vi 0, vs (ba []), .own 2004, .own 3005]), (2004, .sl 9 .str ([x])), (3005, .sl 29 .tree ([(Tree.et v)]))]) (rfl) (by simp only [Tree.eta']) (norm_okB _ hs (by kernel_rfl) (by kernel_rfl))
theorem con55 (x : Opn) (ho : 1 ≤ x.op ∧ x.op ≤ 6) (hp1 : x.path.length ≤ 1000) (hp2 : x.frm.length ≤ 1000) (hs1 : ∀ t ∈ x.path, t.size ≤ 2000) (hs2 : ∀ t ∈ x.frm, t.size ≤ 2000) : Con Tryz.prog I0 55 [.agg (enc .opn x)] (.val (.agg (encTree (objT x)))) := by
 refine con_of Tryz.func55 rfl (Nat.le_of_ble_eq_true rfl) stab (fun w0 fz a hI hs => ?_)
 rcases bt (fromF x.op) with b1 | b1
 rcases bt (valueF x.op) with b2 | b2
 refine wL hs hI [(3, rc [(2, ciV 113 [vi x.op] (vb (fromF x.op)))]), (4, rc [(3, ciV 114 [rwS x.frm] (vs (ptxt x.frm))), (4, ciV 56 [vs (ptxt x.frm)] (aTr ((textT (ptxt x.frm))))), (5, ciB 112 [vs (ba [102, 114, 111, 109]), aTr ((textT (ptxt x.frm))), .ptr 0 0] [] (.val (.tup [])) [(0, .var [vi 7, vb false, vb false, nilv, vi 0, vs (ba []), nilv, nilv])] [(0, .var [vi 7, vb false, vb false, nilv, vi 0, vs (ba []), .own 2004, .own 3005]), (2004, .sl 9 .str ([(ba [102, 114, 111, 109])])), (3005, .sl 29 .tree ([(textT (ptxt x.frm))]))] [(0, 2001), (2004, 5005), (3005, 1005005)])]), (5, rc [(1, ciV 115 [] (rwS wordsL)), (7, ciV 56 [vs (wordsL.getD ((x.op - 1).toNat) (dflt .str))] (aTr ((textT (wordsL.getD ((x.op - 1).toNat) (dflt .str)))))), (8, ciB 112 [vs (ba [111, 112]), aTr ((textT (wordsL.getD ((x.op - 1).toNat) (dflt .str)))), .ptr 0 0] [] (.val (.tup [])) [(0, .var [vi 7, vb false, vb false, nilv, vi 0, vs (ba []), .own 1, .own 2]), (1, .sl 9 .str ([(ba [102, 114, 111, 109])])), (2, .sl 29 .tree ([(textT (ptxt x.frm))]))] [(0, .var [vi 7, vb false, vb false, nilv, vi 0, vs (ba []), .own 2004, .own 3005]), (2004, .sl 9 .str (([(ba [102, 114, 111, 109])]) ++ [(ba [111, 112])])), (3005, .sl 29 .tree (([(textT (ptxt x.frm))]) ++ [(textT (wordsL.getD ((x.op - 1).toNat) (dflt .str)))]))] [(0, 2001), (1, 5005), (2, 1005005), (2004, 6008), (3005, 1006008)])]), (6, rc [(3, ciV 114 [rwS x.path] (vs (ptxt x.path))), (4, ciV 56 [vs (ptxt x.path)] (aTr ((textT (ptxt x.path))))), (5, ciB 112 [vs (ba [112, 97, 116, 104]), aTr ((textT (ptxt x.path))), .ptr 0 0] [] (.val (.tup [])) [(0, .var [vi 7, vb false, vb false, nilv, vi 0, vs (ba []), .own 1, .own 2]), (1, .sl 9 .str (([(ba [102, 114, 111, 109])]) ++ [(ba [111, 112])])), (2, .sl 29 .tree (([(textT (ptxt x.frm))]) ++ [(textT (wordsL.getD ((x.op - 1).toNat) (dflt .str)))]))] [(0, .var [vi 7, vb false, vb false, nilv, vi 0, vs (ba []), .own 2004, .own 3005]), (2004, .sl 9 .str ((([(ba [102, 114, 111, 109])]) ++ [(ba [111, 112])]) ++ [(ba [112, 97, 116, 104])])), (3005, .sl 29 .tree ((([(textT (ptxt x.frm))]) ++ [(textT (wordsL.getD ((x.op - 1).toNat) (dflt .str)))]) ++ [(textT (ptxt x.path))]))] [(0, 2001), (1, 6008), (2, 1006008), (2004, 7005), (3005, 1007005)])]), (7, rc [(2, ciV 116 [vi x.op] (vb (valueF x.op)))]), (8, rc [(3, ciB 112 [vs (ba [118, 97, 108, 117, 101]), aTr (x.value), .ptr 0 0] [] (.val (.tup [])) [(0, .var [vi 7, vb false, vb false, nilv, vi 0, vs (ba []), .own 1, .own 2]), (1, .sl 9 .str ((([(ba [102, 114, 111, 109])]) ++ [(ba [111, 112])]) ++ [(ba [112, 97, 116, 104])])), (2, .sl 29 .tree ((([(textT (ptxt x.frm))]) ++ [(textT (wordsL.getD ((x.op - 1).toNat) (dflt .str)))]) ++ [(textT (ptxt x.path))]))] [(0, .var [vi 7, vb false, vb false, nilv, vi 0, vs (ba []), .own 2004, .own 3005]), (2004, .sl 9 .str (((([(ba [102, 114, 111, 109])]) ++ [(ba [111, 112])]) ++ [(ba [112, 97, 116, 104])]) ++ [(ba [118, 97, 108, 117, 101])])), (3005, .sl 29 .tree (((([(textT (ptxt x.frm))]) ++ [(textT (wordsL.getD ((x.op - 1).toNat) (dflt .str)))]) ++ [(textT (ptxt x.path))]) ++ [x.value]))] [(0, 2001), (1, 7005), (2, 1007005), (2004, 9003), (3005, 1009003)])])] (bz 2 3) 19896140729140961444826614473041661444072914098291898 [q1 b1, q3 (x.op - 1), ⟨0 ≤ (x.op - 1) ∧ (x.op - 1) < wordsL.length, (by simp only [wordsL, List.length_cons, List.length_nil]; omega)⟩, q1 b2] .ret [(2, .ptr 1001 0)] [(1001, .var [vi 7, vb false, vb false, nilv, vi 0, vs (ba []), .own 9003, .own 1009003]), (9003, .sl 9 .str (((([(ba [102, 114, 111, 109])]) ++ [(ba [111, 112])]) ++ [(ba [112, 97, 116, 104])]) ++ [(ba [118, 97, 108, 117, 101])])), (1009003, .sl 29 .tree (((([(textT (ptxt x.frm))]) ++ [(textT (wordsL.getD ((x.op - 1).toNat) (dflt .str)))]) ++ [(textT (ptxt x.path))]) ++ [x.value]))] ⟨con113 _, con114 _ (by omega) hs2, con56 _, con112n _ _, con115, con56 _, con112 _ _ _ _ (by first | (simp; done) | (simp; omega)) (by first | (simp; done) | (simp; omega)), con114 _ (by omega) hs1, con56 _, con112 _ _ _ _ (by first | (simp; done) | (simp; omega)) (by first | (simp; done) | (simp; omega)), con116 _, con112 _ _ _ _ (by first | (simp; done) | (simp; omega)) (by first | (simp; done) | (simp; omega)), tv⟩ fun a w hs => ?_
 exact rK (.val (.agg [vi 7, vb false, vb false, rwU ([]), vi 0, vs (ba []), rwS (((([(ba [102, 114, 111, 109])]) ++ [(ba [111, 112])]) ++ [(ba [112, 97, 116, 104])]) ++ [(ba [118, 97, 108, 117, 101])]), rwT (((([(textT (ptxt x.frm))]) ++ [(textT (wordsL.getD ((x.op - 1).toNat) (dflt .str)))]) ++ [(textT (ptxt x.path))]) ++ [x.value])])) [9003, 1009003] hs (by simp only [objT, objK, objV, b1, b2]; rfl)
 refine wL hs hI [(3, rc [(2, ciV 113 [vi x.op] (vb (fromF x.op)))]), (4, rc [(3, ciV 114 [rwS x.frm] (vs (ptxt x.frm))), (4, ciV 56 [vs (ptxt x.frm)] (aTr ((textT (ptxt x.frm))))), (5, ciB 112 [vs (ba [102, 114, 111, 109]), aTr ((textT (ptxt x.frm))), .ptr 0 0] [] (.val (.tup [])) [(0, .var [vi 7, vb false, vb false, nilv, vi 0, vs (ba []), nilv, nilv])] [(0, .var [vi 7, vb false, vb false, nilv, vi 0, vs (ba []), .own 2004, .own 3005]), (2004, .sl 9 .str ([(ba [102, 114, 111, 109])])), (3005, .sl 29 .tree ([(textT (ptxt x.frm))]))] [(0, 2001), (2004, 5005), (3005, 1005005)])]), (5, rc [(1, ciV 115 [] (rwS wordsL)), (7, ciV 56 [vs (wordsL.getD ((x.op - 1).toNat) (dflt .str))] (aTr ((textT (wordsL.getD ((x.op - 1).toNat) (dflt .str)))))), (8, ciB 112 [vs (ba [111, 112]), aTr ((textT (wordsL.getD ((x.op - 1).toNat) (dflt .str)))), .ptr 0 0] [] (.val (.tup [])) [(0, .var [vi 7, vb false, vb false, nilv, vi 0, vs (ba []), .own 1, .own 2]), (1, .sl 9 .str ([(ba [102, 114, 111, 109])])), (2, .sl 29 .tree ([(textT (ptxt x.frm))]))] [(0, .var [vi 7, vb false, vb false, nilv, vi 0, vs (ba []), .own 2004, .own 3005]), (2004, .sl 9 .str (([(ba [102, 114, 111, 109])]) ++ [(ba [111, 112])])), (3005, .sl 29 .tree (([(textT (ptxt x.frm))]) ++ [(textT (wordsL.getD ((x.op - 1).toNat) (dflt .str)))]))] [(0, 2001), (1, 5005), (2, 1005005), (2004, 6008), (3005, 1006008)])]), (6, rc [(3, ciV 114 [rwS x.path] (vs (ptxt x.path))), (4, ciV 56 [vs (ptxt x.path)] (aTr ((textT (ptxt x.path))))), (5, ciB 112 [vs (ba [112, 97, 116, 104]), aTr ((textT (ptxt x.path))), .ptr 0 0] [] (.val (.tup [])) [(0, .var [vi 7, vb false, vb false, nilv, vi 0, vs (ba []), .own 1, .own 2]), (1, .sl 9 .str (([(ba [102, 114, 111, 109])]) ++ [(ba [111, 112])])), (2, .sl 29 .tree (([(textT (ptxt x.frm))]) ++ [(textT (wordsL.getD ((x.op - 1).toNat) (dflt .str)))]))] [(0, .var [vi 7, vb false, vb false, nilv, vi 0, vs (ba []), .own 2004, .own 3005]), (2004, .sl 9 .str ((([(ba [102, 114, 111, 109])]) ++ [(ba [111, 112])]) ++ [(ba [112, 97, 116, 104])])), (3005, .sl 29 .tree ((([(textT (ptxt x.frm))]) ++ [(textT (wordsL.getD ((x.op - 1).toNat) (dflt .str)))]) ++ [(textT (ptxt x.path))]))] [(0, 2001), (1, 6008), (2, 1006008), (2004, 7005), (3005, 1007005)])]), (7, rc [(2, ciV 116 [vi x.op] (vb (valueF x.op)))])] (bz 2 1) 1989729140961444826614473041661444072914098291898 [q1 b1, q3 (x.op - 1), ⟨0 ≤ (x.op - 1) ∧ (x.op - 1) < wordsL.length, (by simp only [wordsL, List.length_cons, List.length_nil]; omega)⟩, q1 b2] .ret [(2, .ptr 1001 0)] [(1001, .var [vi 7, vb false, vb false, nilv, vi 0, vs (ba []), .own 7005, .own 1007005]), (7005, .sl 9 .str ((([(ba [102, 114, 111, 109])]) ++ [(ba [111, 112])]) ++ [(ba [112, 97, 116, 104])])), (1007005, .sl 29 .tree ((([(textT (ptxt x.frm))]) ++ [(textT (wordsL.getD ((x.op - 1).toNat) (dflt .str)))]) ++ [(textT (ptxt x.path))]))] ⟨con113 _, con114 _ (by omega) hs2, con56 _, con112n _ _, con115, con56 _, con112 _ _ _ _ (by first | (simp; done) | (simp; omega)) (by first | (simp; done) | (simp; omega)), con114 _ (by omega) hs1, con56 _, con112 _ _ _ _ (by first | (simp; done) | (simp; omega)) (by first | (simp; done) | (simp; omega)), con116 _, tv⟩ fun a w hs => ?_
 exact rK (.val (.agg [vi 7, vb false, vb false, rwU ([]), vi 0, vs (ba []), rwS ((([(ba [102, 114, 111, 109])]) ++ [(ba [111, 112])]) ++ [(ba [112, 97, 116, 104])]), rwT ((([(textT (ptxt x.frm))]) ++ [(textT (wordsL.getD ((x.op - 1).toNat) (dflt .str)))]) ++ [(textT (ptxt x.path))])])) [7005, 1007005] hs (by simp only [objT, objK, objV, b1, b2]; rfl)
 rcases bt (valueF x.op) with b3 | b3
 refine wL hs hI [(3, rc [(2, ciV 113 [vi x.op] (vb (fromF x.op)))]), (5, rc [(1, ciV 115 [] (rwS wordsL)), (7, ciV 56 [vs (wordsL.getD ((x.op - 1).toNat) (dflt .str))] (aTr ((textT (wordsL.getD ((x.op - 1).toNat) (dflt .str)))))), (8, ciB 112 [vs (ba [111, 112]), aTr ((textT (wordsL.getD ((x.op - 1).toNat) (dflt .str)))), .ptr 0 0] [] (.val (.tup [])) [(0, .var [vi 7, vb false, vb false, nilv, vi 0, vs (ba []), nilv, nilv])] [(0, .var [vi 7, vb false, vb false, nilv, vi 0, vs (ba []), .own 2004, .own 3005]), (2004, .sl 9 .str ([(ba [111, 112])])), (3005, .sl 29 .tree ([(textT (wordsL.getD ((x.op - 1).toNat) (dflt .str)))]))] [(0, 2001), (2004, 6008), (3005, 1006008)])]), (6, rc [(3, ciV 114 [rwS x.path] (vs (ptxt x.path))), (4, ciV 56 [vs (ptxt x.path)] (aTr ((textT (ptxt x.path))))), (5, ciB 112 [vs (ba [112, 97, 116, 104]), aTr ((textT (ptxt x.path))), .ptr 0 0] [] (.val (.tup [])) [(0, .var [vi 7, vb false, vb false, nilv, vi 0, vs (ba []), .own 1, .own 2]), (1, .sl 9 .str ([(ba [111, 112])])), (2, .sl 29 .tree ([(textT (wordsL.getD ((x.op - 1).toNat) (dflt .str)))]))] [(0, .var [vi 7, vb false, vb false, nilv, vi 0, vs (ba []), .own 2004, .own 3005]), (2004, .sl 9 .str (([(ba [111, 112])]) ++ [(ba [112, 97, 116, 104])])), (3005, .sl 29 .tree (([(textT (wordsL.getD ((x.op - 1).toNat) (dflt .str)))]) ++ [(textT (ptxt x.path))]))] [(0, 2001), (1, 6008), (2, 1006008), (2004, 7005), (3005, 1007005)])]), (7, rc [(2, ciV 116 [vi x.op] (vb (valueF x.op)))]), (8, rc [(3, ciB 112 [vs (ba [118, 97, 108, 117, 101]), aTr (x.value), .ptr 0 0] [] (.val (.tup [])) [(0, .var [vi 7, vb false, vb false, nilv, vi 0, vs (ba []), .own 1, .own 2]), (1, .sl 9 .str (([(ba [111, 112])]) ++ [(ba [112, 97, 116, 104])])), (2, .sl 29 .tree (([(textT (wordsL.getD ((x.op - 1).toNat) (dflt .str)))]) ++ [(textT (ptxt x.path))]))] [(0, .var [vi 7, vb false, vb false, nilv, vi 0, vs (ba []), .own 2004, .own 3005]), (2004, .sl 9 .str ((([(ba [111, 112])]) ++ [(ba [112, 97, 116, 104])]) ++ [(ba [118, 97, 108, 117, 101])])), (3005, .sl 29 .tree ((([(textT (wordsL.getD ((x.op - 1).toNat) (dflt .str)))]) ++ [(textT (ptxt x.path))]) ++ [x.value]))] [(0, 2001), (1, 7005), (2, 1007005), (2004, 9003), (3005, 1009003)])])] (bz 2 2) 19896140729140961444826614473041972914098291898 [q1 b1, q3 (x.op - 1), ⟨0 ≤ (x.op - 1) ∧ (x.op - 1) < wordsL.length, (by simp only [wordsL, List.length_cons, List.length_nil]; omega)⟩, q1 b3] .ret [(2, .ptr 1001 0)] [(1001, .var [vi 7, vb false, vb false, nilv, vi 0, vs (ba []), .own 9003, .own 1009003]), (9003, .sl 9 .str ((([(ba [111, 112])]) ++ [(ba [112, 97, 116, 104])]) ++ [(ba [118, 97, 108, 117, 101])])), (1009003, .sl 29 .tree ((([(textT (wordsL.getD ((x.op - 1).toNat) (dflt .str)))]) ++ [(textT (ptxt x.path))]) ++ [x.value]))] ⟨con113 _, con115, con56 _, con112n _ _, con114 _ (by omega) hs1, con56 _, con112 _ _ _ _ (by first | (simp; done) | (simp; omega)) (by first | (simp; done) | (simp; omega)), con116 _, con112 _ _ _ _ (by first | (simp; done) | (simp; omega)) (by first | (simp; done) | (simp; omega)), tv⟩ fun a w hs => ?_
 exact rK (.val (.agg [vi 7, vb false, vb false, rwU ([]), vi 0, vs (ba []), rwS ((([(ba [111, 112])]) ++ [(ba [112, 97, 116, 104])]) ++ [(ba [118, 97, 108, 117, 101])]), rwT ((([(textT (wordsL.getD ((x.op - 1).toNat) (dflt .str)))]) ++ [(textT (ptxt x.path))]) ++ [x.value])])) [9003, 1009003] hs (by simp only [objT, objK, objV, b1, b3]; rfl)
 refine wL hs hI [(3, rc [(2, ciV 113 [vi x.op] (vb (fromF x.op)))]), (5, rc [(1, ciV 115 [] (rwS wordsL)), (7, ciV 56 [vs (wordsL.getD ((x.op - 1).toNat) (dflt .str))] (aTr ((textT (wordsL.getD ((x.op - 1).toNat) (dflt .str)))))), (8, ciB 112 [vs (ba [111, 112]), aTr ((textT (wordsL.getD ((x.op - 1).toNat) (dflt .str)))), .ptr 0 0] [] (.val (.tup [])) [(0, .var [vi 7, vb false, vb false, nilv, vi 0, vs (ba []), nilv, nilv])] [(0, .var [vi 7, vb false, vb false, nilv, vi 0, vs (ba []), .own 2004, .own 3005]), (2004, .sl 9 .str ([(ba [111, 112])])), (3005, .sl 29 .tree ([(textT (wordsL.getD ((x.op - 1).toNat) (dflt .str)))]))] [(0, 2001), (2004, 6008), (3005, 1006008)])]), (6, rc [(3, ciV 114 [rwS x.path] (vs (ptxt x.path))), (4, ciV 56 [vs (ptxt x.path)] (aTr ((textT (ptxt x.path))))), (5, ciB 112 [vs (ba [112, 97, 116, 104]), aTr ((textT (ptxt x.path))), .ptr 0 0] [] (.val (.tup [])) [(0, .var [vi 7, vb false, vb false, nilv, vi 0, vs (ba []), .own 1, .own 2]), (1, .sl 9 .str ([(ba [111, 112])])), (2, .sl 29 .tree ([(textT (wordsL.getD ((x.op - 1).toNat) (dflt .str)))]))] [(0, .var [vi 7, vb false, vb false, nilv, vi 0, vs (ba []), .own 2004, .own 3005]), (2004, .sl 9 .str (([(ba [111, 112])]) ++ [(ba [112, 97, 116, 104])])), (3005, .sl 29 .tree (([(textT (wordsL.getD ((x.op - 1).toNat) (dflt .str)))]) ++ [(textT (ptxt x.path))]))] [(0, 2001), (1, 6008), (2, 1006008), (2004, 7005), (3005, 1007005)])]), (7, rc [(2, ciV 116 [vi x.op] (vb (valueF x.op)))])] (bz 2 0) 1989729140961444826614473041972914098291898 [q1 b1, q3 (x.op - 1), ⟨0 ≤ (x.op - 1) ∧ (x.op - 1) < wordsL.length, (by simp only [wordsL, List.length_cons, List.length_nil]; omega)⟩, q1 b3] .ret [(2, .ptr 1001 0)] [(1001, .var [vi 7, vb false, vb false, nilv, vi 0, vs (ba []), .own 7005, .own 1007005]), (7005, .sl 9 .str (([(ba [111, 112])]) ++ [(ba [112, 97, 116, 104])])), (1007005, .sl 29 .tree (([(textT (wordsL.getD ((x.op - 1).toNat) (dflt .str)))]) ++ [(textT (ptxt x.path))]))] ⟨con113 _, con115, con56 _, con112n _ _, con114 _ (by omega) hs1, con56 _, con112 _ _ _ _ (by first | (simp; done) | (simp; omega)) (by first | (simp; done) | (simp; omega)), con116 _, tv⟩ fun a w hs => ?_
 exact rK (.val (.agg [vi 7, vb false, vb false, rwU ([]), vi 0, vs (ba []), rwS (([(ba [111, 112])]) ++ [(ba [112, 97, 116, 104])]), rwT (([(textT (wordsL.getD ((x.op - 1).toNat) (dflt .str)))]) ++ [(textT (ptxt x.path))])])) [7005, 1007005] hs (by simp only [objT, objK, objV, b1, b3]; rfl)
def wT (p : Pat) : Tree := if (p.lang == 1) = true then arrT (p.ops.map objT) else if (p.lang == 3) = true then pairT (textF p.mask) p.value else p.value
def WriteR (p : Pat) : Tree × Int := if checkP p = true then (if validT (wT p) = true then (wT p, 0) else (Tree.zero, 4)) else (Tree.zero, 1)
theorem WriteR_in {p : Pat} (h : (WriteR p).2 = 0) : checkP p = true ∧ validT (wT p) = true ∧ (WriteR p).1 = wT p := by
 unfold WriteR at h ⊢
 split at h
 rename_i h1
 rw [if_pos h1]
 split at h
 rename_i h2
 rw [if_pos h2]
 exact ⟨h1, h2, rfl⟩
 exact absurd h (by decide)
 exact absurd h (by decide)
theorem fine_text (s : ByteArray) : fineT (textT s) := (fine_eq _).2 ⟨⟨Ok.nil, by show (0:Nat) < _; decide, by show (0:Nat) < _; decide, by show (0:Nat) < _; decide⟩, trivial⟩
theorem fine_obj {x : Opn} (h : fineO x) : fineT (objT x) := by
 have hk : (objK x).length ≤ 4 := by unfold objK; split <;> split <;> simp
 have hv : (objV x).length ≤ 4 := by unfold objV; split <;> split <;> simp
 refine (fine_eq _).2 ⟨⟨Ok.nil, by show (0:Nat) < _; decide, by show (objK x).length < _; omega, by show (objV x).length < _; omega⟩, fineL_of (fun u hu => ?_)⟩
 have hu : u ∈ objV x := hu
 unfold objV at hu
 simp only [List.mem_append, List.mem_singleton] at hu
 rcases hu with ((hu | rfl) | rfl) | hu
 split at hu
 simp only [List.mem_singleton] at hu; subst hu; exact fine_text _
 simp at hu
 exact fine_text _
 exact fine_text _
 split at hu
 simp only [List.mem_singleton] at hu; subst hu; exact h.2.2
 simp at hu
theorem fine_arr {l : List Opn} (hl : l.length < 1000000000) (h : ∀ x ∈ l, fineO x) : fineT (arrT (l.map objT)) := by
 refine (fine_eq _).2 ⟨⟨Ok.nil, by show (0:Nat) < _; decide, by show (0:Nat) < _; decide, by show (l.map objT).length < _; rw [List.length_map]; exact hl⟩, fineL_of (fun u hu => ?_)⟩
 obtain ⟨x, hx, rfl⟩ := List.mem_map.1 (show u ∈ l.map objT from hu)
 exact fine_obj (h x hx)
theorem fine_pair {s : ByteArray} {v : Tree} (h : fineT v) : fineT (pairT s v) := (fine_eq _).2 ⟨⟨Ok.nil, by show (0:Nat) < _; decide, by show (2:Nat) < _; decide, by show (2:Nat) < _; decide⟩, fineL_of (fun u hu => by
 rcases List.mem_cons.1 (show u ∈ [textT s, v] from hu) with rfl | hu
 ·exact fine_text _
 ·simp only [List.mem_singleton] at hu; subst hu; exact h)⟩
theorem con14_ (pq : Pat) (hv : fineT pq.value) (hms : ∀ x ∈ pq.mask, smalls x) (hml : pq.mask.length < 1000000000) (hops : ∀ x ∈ pq.ops, fineO x) (hol : pq.ops.length < 1000000000) (hck : checkP pq = true) (hvw : validT (wT pq) = true) : Con Tryz.prog I0 14 [.agg [vi pq.lang, .row .opn pq.ops, vi pq.value.kind, vb pq.value.b, vb pq.value.n.neg, .row (.int .u32) pq.value.n.m, vi pq.value.n.e, vs pq.value.s, .row .str pq.value.k, .row .tree pq.value.v, .row .strs pq.mask]] (.val (.tup [.agg (encTree (wT pq)), vi 0])) := by
 refine con_of Tryz.func14 rfl (Nat.le_of_ble_eq_true rfl) stab (fun w0 fz a hI hs => ?_)
 refine wNs hs hI [] 18 [] [(1, .ptr 1000 0), (2, .ptr 1001 0)] [(1000, .var (encP pq)), (1001, .var zTr)] fun a w hs => ?_
 refine wLs hs hI [(1, rc [(1, ciV 51 [.agg (encP pq)] (vb true))])] (bz 1 0) 729041 [q0 false] [(1, .ptr 1000 0), (2, .ptr 1001 0)] [(1000, .var (encP pq)), (1001, .var zTr)] ⟨con51 _ hv hms hml hops hol hck, tv⟩ fun a w hs => ?_
 refine wNs hs hI [] 118 [] [(1, .ptr 1000 0), (2, .ptr 1001 0), (4, .ptr 4002 0)] [(1000, .var (encP pq)), (1001, .var zTr), (4002, bTr (pq.value))] fun a w hs => ?_
 refine wp_seq ?_
 refine wNs hs hI [] 8 [] [(1, .ptr 1000 0), (2, .ptr 1001 0), (4, .ptr 4002 0), (14, vi pq.lang)] [(1000, .var (encP pq)), (1001, .var zTr), (4002, bTr (pq.value))] fun a w hs => ?_
 refine wp_block ?_
 refine wNs hs hI [] 8 [] [(1, .ptr 1000 0), (2, .ptr 1001 0), (4, .ptr 4002 0), (14, vi pq.lang), (15, vb (pq.lang == 1))] [(1000, .var (encP pq)), (1001, .var zTr), (4002, bTr (pq.value))] fun a w hs => ?_
 refine cond_L (c := 15) hs (b := pq.lang == 1) rfl (fun hb => ?_) (fun hb => ?_)
 have b1 := hb
 clear hb
 have n1 := eq_of_beq b1
 have hone : ∀ i, i < pq.ops.length → _ := fun i hi => oneF_in ((opsF_in ((check_in hck).1 (by omega)).1).2 _ (getD_mem hi (dflt .opn)))
 refine wNs hs hI [] 8 [] [(1, .ptr 1000 0), (2, .ptr 1001 0), (4, .ptr 4002 0)] [(1000, .var (encP pq)), (1001, .var zTr), (4002, .var [vi 6, vb false, vb false, nilv, vi 0, vs (ba []), nilv, nilv])] fun a w hs => ?_
 refine wNs hs hI [] 118 [] [(2, .ptr 1001 0), (4, .ptr 4002 0), (19, .row .opn pq.ops), (20, vi (pq.ops.length : Int)), (21, vi 0)] [(1001, .var zTr), (4002, .var [vi 6, vb false, vb false, nilv, vi 0, vs (ba []), nilv, nilv])] fun a w hs => ?_
 refine wp_block ?_
 refine loop_L (N := Tryz.f14.ntmps) (w0 := w0) (ow := noO fz) (α := Nat) (fun p => [(2, .ptr 1001 0), (4, .ptr 90000001 0), (19, .row .opn pq.ops), (20, vi (pq.ops.length : Int)), (21, vi (p : Int))]) (fun p => [(1001, .var zTr), (90000001, .var [vi 6, vb false, vb false, nilv, vi 0, vs (ba []), nilv, .own 90000002]), (90000002, .sl 29 .tree ((pq.ops.take p).map objT))]) (fun p => p ≤ pq.ops.length) (fun p => pq.ops.length - p) 0 ?_ ?_ ?_
 exact Nat.zero_le _
 (have hs := (hs.nilB 10000005 4002 7 29 .tree [vi 6, vb false, vb false, nilv, vi 0, vs (ba []), nilv, nilv] (by kernel_rfl) (by kernel_rfl) (by decide) (by decide) (by kernel_rfl) (by kernel_rfl)).rmT [(2, .ptr 1001 0), (4, .ptr 4002 0), (19, .row .opn pq.ops), (20, vi (pq.ops.length : Int)), (21, vi 0)] [(1001, .var zTr), (4002, .var [vi 6, vb false, vb false, nilv, vi 0, vs (ba []), nilv, .own 10000005]), (10000005, .sl 29 .tree ([]))] [(1001, 1001), (4002, 4002), (10000005, 10000005)] (by kernel_rfl); exact (hs.cst [(2, .ptr 1001 0), (4, .ptr 4002 0), (19, .row .opn pq.ops), (20, vi (pq.ops.length : Int)), (21, vi ((0 : Nat) : Int))] [(1001, .var zTr), (4002, .var [vi 6, vb false, vb false, nilv, vi 0, vs (ba []), nilv, .own 10000005]), (10000005, .sl 29 .tree ((pq.ops.take 0).map objT))] rfl).rk [(1001, 1001), (90000001, 4002), (90000002, 10000005)])
 rintro i hJ a w hs
 have hi := hJ
 have htk := take_map_len (f := objT) hi
 rcases bd ((i : Int) < (pq.ops.length : Int)) with ⟨b2, n2⟩ | ⟨b2, n2⟩
 refine wL hs hI [(10, rc [(3, ciV 55 [.agg (enc .opn (pq.ops.getD i (dflt .opn)))] (aTr ((objT (pq.ops.getD i (dflt .opn))))))])] (bz 1 1) 17266071486872720 [q1 b2, q4 (i : Int) pq.ops.length, q7 (((pq.ops.take i).map objT).length) 1 120, q3 ((i : Int) + 1)] .norm [(2, .ptr 1001 0), (4, .ptr 90000001 0), (19, .row .opn pq.ops), (20, vi (pq.ops.length : Int)), (21, vi ((i : Int) + 1))] [(1001, .var zTr), (11005, .sl 29 .tree (((pq.ops.take i).map objT) ++ ([(Tree.et (objT (pq.ops.getD i (dflt .opn))))]))), (90000001, .var [vi 6, vb false, vb false, nilv, vi 0, vs (ba []), nilv, .own 11005])] ⟨con55 _ (hone i (by omega)).1 (by have := (hone i (by omega)).2.1.1; omega) (by have := (hone i (by omega)).2.2.1; omega) (hone i (by omega)).2.1.2 (hone i (by omega)).2.2.2, tv⟩ fun a w hs => ?_
 refine then_norm ⟨i + 1, by omega, by omega, ?_⟩
 (have e0_ : ((i : Int) + 1) = ((((i + 1) : Nat) : Int)) := (by first | rfl | (omega)); have e1_ : (((pq.ops.take i).map objT) ++ ([(Tree.et (objT (pq.ops.getD i (dflt .opn))))])) = (((pq.ops.take (i + 1)).map objT)) := (by first | exact take_map_succ (f := objT) (by omega) (dflt .opn) | (rw [Tree.eta']; exact take_map_succ (f := objT) (by omega) (dflt .opn))); exact (hs.cst [(2, .ptr 1001 0), (4, .ptr 90000001 0), (19, .row .opn pq.ops), (20, vi (pq.ops.length : Int)), (21, vi (((i + 1) : Nat) : Int))] [(1001, .var zTr), (11005, .sl 29 .tree ((pq.ops.take (i + 1)).map objT)), (90000001, .var [vi 6, vb false, vb false, nilv, vi 0, vs (ba []), nilv, .own 11005])] (by first | (rw [e0_, e1_]; done) | (simp only [e0_, e1_]; done) | rfl | (simp only [e0_, e1_]; rfl))).rk [(1001, 1001), (90000001, 90000001), (90000002, 11005)])
 refine wN hs hI (bz 1 0) 720 [q1 b2] (.exit 1) [(2, .ptr 1001 0), (4, .ptr 90000001 0)] [(1001, .var zTr), (90000001, .var [vi 6, vb false, vb false, nilv, vi 0, vs (ba []), nilv, .own 90000002]), (90000002, .sl 29 .tree ((pq.ops.take i).map objT))] fun a w hs => ?_
 refine then_exit ?_
 refine inb_hit ?_
 refine inb_norm ?_
 refine then_norm ?_
 have b3 : (validT (Tree.mk 6 false ⟨false, [], 0⟩ (ba []) ([]) ((pq.ops.take i).map objT))) = true := by obtain rfl : i = pq.ops.length := (by omega); rw [List.take_length]; have h9 := hvw; rw [wT, if_pos (show (pq.lang == 1) = true from b1)] at h9; first | exact h9 | ((try simp only [Tree.eta']); exact h9)
 refine wL hs hI [(14, rc [(1, ciA 57 [aTr ((Tree.mk 6 false ⟨false, [], 0⟩ (ba []) ([]) ((pq.ops.take i).map objT)))] [90000002] [] (.val (vb (validT (Tree.mk 6 false ⟨false, [], 0⟩ (ba []) ([]) ((pq.ops.take i).map objT))))))])] (bz 1 0) 129189729041 [q1 (ng1 b3)] .ret [(2, .ptr 1001 0), (3, vi 0)] [(1001, .var [vi 6, vb false, vb false, nilv, vi 0, vs (ba []), nilv, .own 90000002]), (90000002, .sl 29 .tree ((pq.ops.take i).map objT))] ⟨con57 _ (by first | exact hv | ((try simp only [Tree.eta']); exact fine_pair hv) | (exact fine_arr (l := pq.ops.take i) (by rw [List.length_take]; omega) (fun x hx => hops x (List.mem_of_mem_take hx)))), tv⟩ fun a w hs => ?_
 exact rK (.val (.tup [.agg [vi 6, vb false, vb false, rwU ([]), vi 0, vs (ba []), rwS ([]), rwT ((pq.ops.take i).map objT)], vi 0])) [90000002] hs (by obtain rfl : i = pq.ops.length := (by omega); rw [List.take_length] at *; rw [wT, if_pos (show (pq.lang == 1) = true from b1)] <;> first | rfl | (simp only [Tree.eta']; rfl))
 have b4 := hb
 clear hb
 have n4 := nB b4
 rcases bq (pq.lang) (3) with ⟨b5, n5⟩ | ⟨b5, n5⟩
 refine wL hs hI [(13, rc [(3, ciV 41 [.row .strs pq.mask] (vs (textF pq.mask))), (4, ciV 56 [vs (textF pq.mask)] (aTr ((textT (textF pq.mask)))))])] (bz 1 1) 88440798 [q1 b5] .norm [(2, .ptr 1001 0), (4, .ptr 4002 0)] [(1001, .var zTr), (4002, .var [vi 7, vb false, vb false, nilv, vi 0, vs (ba []), .own 14000, .own 14007]), (14000, .sl 9 .str ([(ba [109, 97, 115, 107]), (ba [118, 97, 108, 117, 101])])), (14007, .sl 29 .tree ([(Tree.et (textT (textF pq.mask))), (Tree.et pq.value)]))] ⟨con41 _ hms (by omega), con56 _, tv⟩ fun a w hs => ?_
 refine inb_norm ?_
 refine then_norm ?_
 have b6 : (validT (Tree.mk 7 false ⟨false, [], 0⟩ (ba []) ([(ba [109, 97, 115, 107]), (ba [118, 97, 108, 117, 101])]) ([(Tree.et (textT (textF pq.mask))), (Tree.et pq.value)]))) = true := by have h9 := hvw; rw [wT, if_neg (show ¬ (pq.lang == 1) = true by rw [b4]; decide), if_pos (show (pq.lang == 3) = true from b5)] at h9; first | exact h9 | ((try simp only [Tree.eta']); exact h9)
 refine wL hs hI [(14, rc [(1, ciA 57 [aTr ((Tree.mk 7 false ⟨false, [], 0⟩ (ba []) ([(ba [109, 97, 115, 107]), (ba [118, 97, 108, 117, 101])]) ([(Tree.et (textT (textF pq.mask))), (Tree.et pq.value)])))] [14000, 14007] [] (.val (vb (validT (Tree.mk 7 false ⟨false, [], 0⟩ (ba []) ([(ba [109, 97, 115, 107]), (ba [118, 97, 108, 117, 101])]) ([(Tree.et (textT (textF pq.mask))), (Tree.et pq.value)]))))))])] (bz 1 0) 129189729041 [q1 (ng1 b6)] .ret [(2, .ptr 1001 0), (3, vi 0)] [(1001, .var [vi 7, vb false, vb false, nilv, vi 0, vs (ba []), .own 14000, .own 14007]), (14000, .sl 9 .str ([(ba [109, 97, 115, 107]), (ba [118, 97, 108, 117, 101])])), (14007, .sl 29 .tree ([(Tree.et (textT (textF pq.mask))), (Tree.et pq.value)]))] ⟨con57 _ (by first | exact hv | ((try simp only [Tree.eta']); exact fine_pair hv) | (exact fine_arr (l := pq.ops.take i) (by rw [List.length_take]; omega) (fun x hx => hops x (List.mem_of_mem_take hx)))), tv⟩ fun a w hs => ?_
 exact rK (.val (.tup [.agg [vi 7, vb false, vb false, rwU ([]), vi 0, vs (ba []), rwS ([(ba [109, 97, 115, 107]), (ba [118, 97, 108, 117, 101])]), rwT ([(Tree.et (textT (textF pq.mask))), (Tree.et pq.value)])], vi 0])) [14000, 14007] hs (by rw [wT, if_neg (show ¬ (pq.lang == 1) = true by rw [b4]; decide), if_pos (show (pq.lang == 3) = true from b5)] <;> first | rfl | (simp only [Tree.eta']; rfl))
 refine wN hs hI (bz 1 0) 798 [q1 b5] .norm [(2, .ptr 1001 0), (4, .ptr 4002 0)] [(1001, .var zTr), (4002, bTr (pq.value))] fun a w hs => ?_
 refine inb_norm ?_
 refine then_norm ?_
 have b7 : (validT pq.value) = true := by have h9 := hvw; rw [wT, if_neg (show ¬ (pq.lang == 1) = true by rw [b4]; decide), if_neg (show ¬ (pq.lang == 3) = true by rw [b5]; decide)] at h9; first | exact h9 | ((try simp only [Tree.eta']); exact h9)
 refine wL hs hI [(14, rc [(1, ciV 57 [aTr (pq.value)] (vb (validT pq.value)))])] (bz 1 0) 129189729041 [q1 (ng1 b7)] .ret [(2, .ptr 1001 0), (3, vi 0)] [(1001, bTr (pq.value))] ⟨con57 _ (by first | exact hv | ((try simp only [Tree.eta']); exact fine_pair hv) | (exact fine_arr (l := pq.ops.take i) (by rw [List.length_take]; omega) (fun x hx => hops x (List.mem_of_mem_take hx)))), tv⟩ fun a w hs => ?_
 exact rK (.val (.tup [aTr (pq.value), vi 0])) [] hs (by rw [wT, if_neg (show ¬ (pq.lang == 1) = true by rw [b4]; decide), if_neg (show ¬ (pq.lang == 3) = true by rw [b5]; decide)] <;> first | rfl | (simp only [Tree.eta']; rfl))
theorem con14 (pq : Pat) (hv : fineT pq.value) (hms : ∀ x ∈ pq.mask, smalls x) (hml : pq.mask.length < 1000000000) (hops : ∀ x ∈ pq.ops, fineO x) (hol : pq.ops.length < 1000000000) (h : (WriteR pq).2 = 0) : Con Tryz.prog I0 14 [.agg (encP pq)] (.val (.tup [.agg (encTree (WriteR pq).1), vi 0])) := by
 obtain ⟨h1, h2, h3⟩ := WriteR_in h
 rw [h3]
 exact con14_ pq hv hms hml hops hol h1 h2
abbrev thrown (v : Value) : PanicEntry := { v, recovered := false }
abbrev caught (v : Value) : PanicEntry := { v, recovered := true }
def CloD (P : Program) (I : World → Prop) (f : FuncId) (args : List AV) (v : Value) (bi bo : BL) : Prop :=
 ∀ (w : World) (fz : Nat → Prop) (η : Nat → Option Value) (vs : Array Value), (∀ w', Fr (ownB fz η) w w' → I w') → (∀ k, fz k → k < w.heap.size) → (∀ b u, η b = some u → (lkp bi b).isSome = true) → (∀ b B, lkp bi b = some B → ∃ u, η b = some u ∧ BoxR w fz η u B) →
  (∀ b u k, η b = some u → blk u = some k → k < w.heap.size ∧ ¬ fz k) → (∀ b b' u u' k, η b = some u → η b' = some u' → blk u = some k → blk u' = some k → b = b') → RL w fz η vs args →
  CallsD P f vs (.panicking [thrown v]) w fun e u' w' => u' = .panicking [caught v] ∧ PostB w fz η bi w' e (.val (.tup [])) bo
def CloI (P : Program) (I : World → Prop) (f : FuncId) (n : Nat) : Prop :=
 ∀ (w : World) (vs : Array Value), (∀ w', Below w.heap.size w w' → I w') → vs.size = n → CallsD P f vs .returning w fun e u' w' => (∃ v, e = .returned v) ∧ u' = .returning ∧ Below w.heap.size w w'
def dO (fz : Nat → Prop) (us : List Value) (d : Deferred) : Own := ⟨fun _ => False, fz, fun b => if 900 ≤ b ∧ b < 1000 then us[b - 900]? else none, [d]⟩
def FnD (P : Program) (fn : Func) (w0 : World) (fz : Nat → Prop) (out : COut) : Exit → Act → World → Prop := bodyPostD P fn (fun e w' => Post w0 fz w' e out ∧ Below w0.heap.size w0 w')
def DefOk (P : Program) (f : FuncId) (us : List Value) (d : Deferred) : Prop := (∃ fv cap, d.target = .fn fv cap) ∧ ∀ w, (invoke d.target d.args).run P w = .ok (.enter f us.toArray) w
section
variable {P : Program} {I : World → Prop} {w w' w0 : World} {fz : Nat → Prop} {N : Nat} {T : TL} {B : BL} {a : Act}
theorem rec_region {Q : Exit → Act → List Frame → World → Prop} {id : Nat} {o1 o2 : Oper} {t5 t2 : Nat} {cs cs' : List Frame} {v : Value} (h1 : o1.op = .call { callee := .builtin .recover, args := #[], argTypes := #[] }) (d1 : o1.dst = some t5) (g1 : o1.guard = none)
  (h2 : o2.op = .assign (.tmp t5)) (d2 : o2.dst = some t2) (g2 : o2.guard = none) (hl : t5 < a.tmps.size) (hr : (match recoverD cs with | some p => p | none => (Value.nilIface, cs)) = (v, cs')) (hk : Q .normal ((a.put (some t5) v).put (some t2) v) cs' w) : (Code.region id #[o1, o2] false).wpS P Q a cs w := by
 refine wpS_region ?_
 show wpOpsS P #[o1, o2] Q [0, 1] a cs w
 have e1 : (execOp a.eval o1).run P w = .ok .recover w := by simp [execOp, h1, resolve, invoke, builtin]
 have e2 : (execOp (a.put (some t5) v).eval o2).run P w = .ok (.value v) w := by
  have hv : (a.put (some t5) v).eval (.tmp t5) = v := by simp [Act.eval, Act.put, hl]
  simp [execOp, h2, hv]
 have two : ∀ cs2, Q .normal ((a.put (some t5) v).put (some t2) v) cs2 w → wpOpsS P #[o1, o2] Q [1] (a.put (some t5) v) cs2 w := by
  intro cs2 hq
  rw [wpOpsS]
  rw [show (#[o1, o2] : Array Oper)[1]? = some o2 from rfl]
  simp only
  rw [if_pos (by simp [Region.wanted, g2]), e2]
  simp only [Oper.upon, d2]
  exact hq
 rw [wpOpsS]
 rw [show (#[o1, o2] : Array Oper)[0]? = some o1 from rfl]
 simp only
 rw [if_pos (by simp [Region.wanted, g1]), e1]
 simp only [d1]
 split
 ·rename_i v1 cs1 hrec
  rw [hrec] at hr
  simp only [Prod.mk.injEq] at hr
  obtain ⟨rfl, rfl⟩ := hr
  exact two cs1 hk
 ·rename_i hrec
  rw [hrec] at hr
  simp only [Prod.mk.injEq] at hr
  obtain ⟨rfl, rfl⟩ := hr
  exact two _ hk
theorem lkp_upd2 {T : TL} {t5 t2 : Nat} {v : Value} : upd (upd (lkp T) (some t5) (some (.lit v))) (some t2) (some (.lit v)) = lkp ((t2, .lit v) :: (t5, .lit v) :: T) := by
 funext t
 simp only [upd, lkp, Option.some.injEq]
 by_cases h2 : t = t2
 simp [h2]
 rw [if_neg (fun h => h2 h.symm), if_neg h2]
 by_cases h5 : t = t5
 simp [h5]
 rw [if_neg (fun h => h5 h.symm), if_neg h5]
theorem cloD_of {f : FuncId} {fn : Func} {c : Code} {id : Nat} {o1 o2 : Oper} {t5 t2 : Nat} {args : List AV} {v : Value} {bi bo : BL} (hf : P.funcs[f]? = some fn) (hb : fn.body = some (.seq (.region id #[o1, o2] false) c)) (h1 : o1.op = .call { callee := .builtin .recover, args := #[], argTypes := #[] }) (d1 : o1.dst = some t5) (g1 : o1.guard = none)
  (h2 : o2.op = .assign (.tmp t5)) (d2 : o2.dst = some t2) (g2 : o2.guard = none) (hN : args.length ≤ fn.ntmps) (h5 : t5 < fn.ntmps) (h2n : t2 < fn.ntmps) (hk : (bi.map (·.1)).all (· < 1000) = true)
  (h : ∀ (w0 : World) (fz : Nat → Prop) (η : Nat → Option Value) (a : Act), (∀ w', Fr (ownB fz η) w0 w' → I w') → SimL fn.ntmps w0 (ownB fz η) ((t2, .lit v) :: (t5, .lit v) :: num 0 args) bi a w0 → c.wp P (FnQB P fn w0 fz η bi (.val (.tup [])) bo) a w0) : CloD P I f args v bi bo := by
 intro w fz η vs hI hfz hd hbx hnew hap hR
 have hun : ∀ k, fz k → k < w.heap.size → Fz (Amb w (ownB fz η)) η k := fun k h1 _ => ⟨.inl h1, fun b u hb hk => (hnew b u k hb hk).2 h1⟩
 have s0 : Sim fn.ntmps w (ownB fz η) η (lkp (num 0 args)) (lkp bi) { tmps := vs ++ Array.replicate (fn.ntmps - vs.size) undef, defers := [] } w := by
  refine ⟨?_, rfl, Fr.refl _ _, fun t av ht => ?_, fun b B h => ?_, fun b u k h1 h2 => ⟨(hnew b u k h1 h2).1, .inr ⟨b, u, h1, h2⟩⟩, hap, fun b u u' h1 h2 => ?_, fun b u h => ?_⟩
  ·have := hR.1; simp; omega
  ·obtain ⟨_, h1⟩ := num_at ht
   rw [Nat.sub_zero] at h1
   have hlt : t < vs.size := by have := (List.getElem?_eq_some_iff.1 h1).1; have := hR.1; omega
   refine ⟨vs[t], ?_, ?_⟩
   ·show (vs ++ Array.replicate (fn.ntmps - vs.size) undef)[t]? = some vs[t]
    rw [Array.getElem?_append_left hlt]; exact Array.getElem?_eq_getElem hlt
   ·exact (hR.2 t _ av (Array.getElem?_eq_getElem hlt) h1).step (Nat.le_refl _) (fun _ _ _ => rfl) hun (fun b u _ h => h)
  ·obtain ⟨u, hu, hr⟩ := hbx b B h
   exact ⟨u, hu, BoxR_up hun (fun _ _ _ h => h) hr⟩
  ·have h1' : η b = some u := h1
   rw [h2] at h1'; injection h1'
  ·obtain ⟨X, hX⟩ := Option.isSome_iff_exists.1 (hd b u h)
   have := List.all_eq_true.1 hk b (List.mem_map.2 ⟨(b, X), lkp_mem hX, rfl⟩)
   simpa using this
 have s1 := (s0.put (d := some t5) (v := v) (av := some (.lit v)) (fun t ht => by injection ht with ht; omega) (fun x hx => by injection hx with hx; subst hx; exact .lit _)).put (d := some t2) (v := v) (av := some (.lit v)) (fun t ht => by injection ht with ht; omega) (fun x hx => by injection hx with hx; subst hx; exact .lit _)
 rw [lkp_upd2] at s1
 have hw := h w fz η _ hI ⟨η, s1⟩
 refine callsD_of_wpS hf hb fun c₀ cs hu => ?_
 refine wpS_seq (rec_region h1 d1 g1 h2 d2 g2 (by rw [s0.size]; exact h5) (v := v) (cs' := { c₀ with mode := .panicking [caught v] } :: cs) (by simp only [recoverD, hu]) ?_)
 refine wpS_of_wp (wp_mono hw (fun e a w' he => ?_))
 cases e with
 | normal => exact ⟨he.1, _, rfl, he.2.elim fun x hx => ⟨x, hx.1, rfl, hx.2⟩⟩
 | ret => exact ⟨he.1, _, rfl, he.2.elim fun x hx => ⟨x, hx.1, rfl, hx.2⟩⟩
 | panic ch => exact ⟨he.1, _, rfl, rfl, he.2⟩
 | outgrown => exact ⟨_, rfl, he⟩
 | exit id => exact he
 | goto l => exact he
theorem cloI_of {f : FuncId} {fn : Func} {c : Code} {id n : Nat} {o1 o2 : Oper} {t5 t2 : Nat} (hf : P.funcs[f]? = some fn) (hb : fn.body = some (.seq (.region id #[o1, o2] false) c)) (h1 : o1.op = .call { callee := .builtin .recover, args := #[], argTypes := #[] }) (d1 : o1.dst = some t5) (g1 : o1.guard = none)
  (h2 : o2.op = .assign (.tmp t5)) (d2 : o2.dst = some t2) (g2 : o2.guard = none) (hN : n ≤ fn.ntmps) (h5 : t5 < fn.ntmps) (h2n : t2 < fn.ntmps)
  (h : ∀ (w0 : World) (fz : Nat → Prop) (a : Act), (∀ w', Fr (noO fz) w0 w' → I w') → SimL fn.ntmps w0 (noO fz) [(t2, .lit .nilIface), (t5, .lit .nilIface)] [] a w0 → c.wp P (FnQ P fn w0 (noO fz) (.val (.tup []))) a w0) : CloI P I f n := by
 intro w vs hI hn
 have s0 : Sim fn.ntmps w (noO fun _ => False) noη (lkp []) (lkp []) { tmps := vs ++ Array.replicate (fn.ntmps - vs.size) undef, defers := [] } w :=
  ⟨by simp; omega, rfl, Fr.refl _ _, (fun t av ht => by cases ht), (fun b B h => by cases h), (fun b u k h => by cases h), (fun b b' u u' k h => by cases h), (fun b u u' h => by cases h), (fun b u h => by cases h)⟩
 have s1 := (s0.put (d := some t5) (v := .nilIface) (av := some (.lit .nilIface)) (fun t ht => by injection ht with ht; omega) (fun x hx => by injection hx with hx; subst hx; exact .lit _)).put (d := some t2) (v := .nilIface) (av := some (.lit .nilIface)) (fun t ht => by injection ht with ht; omega) (fun x hx => by injection hx with hx; subst hx; exact .lit _)
 rw [lkp_upd2] at s1
 have hw := h w (fun _ => False) _ (fun w' hfr => hI w' (hfr.below (fun _ h => h))) ⟨noη, s1⟩
 refine callsD_of_wpS hf hb fun c₀ cs hu => ?_
 refine wpS_seq (rec_region h1 d1 g1 h2 d2 g2 (by rw [s0.size]; exact h5) (v := .nilIface) (cs' := c₀ :: cs) (by simp only [recoverD, hu]) ?_)
 have hc : ({ c₀ with mode := .returning } : Frame) = c₀ := by cases c₀; simp only at hu; subst hu; rfl
 refine wpS_of_wp (wp_mono hw (fun e a w' he => ?_))
 cases e with
 | normal => exact ⟨he.1, .returning, by rw [hc], he.2.elim fun x hx => ⟨x, hx.1, ⟨x, rfl⟩, rfl, hx.2.2⟩⟩
 | ret => exact ⟨he.1, .returning, by rw [hc], he.2.elim fun x hx => ⟨x, hx.1, ⟨x, rfl⟩, rfl, hx.2.2⟩⟩
 | panic ch => obtain ⟨_, ⟨x, hx, _⟩, _⟩ := he; cases hx
 | outgrown => obtain ⟨⟨x, hx, _⟩, _⟩ := he; cases hx
 | exit id => exact he
 | goto l => exact he
theorem con_ofD {f : FuncId} {fn : Func} {c : Code} {args : List AV} {out : COut} (hf : P.funcs[f]? = some fn) (hb : fn.body = some c) (hN : args.length ≤ fn.ntmps) (hI0 : ∀ w w', I w → Below w.heap.size w w' → I w')
  (h : ∀ (w0 : World) (fz : Nat → Prop) (a : Act), (∀ w', Fr (noO fz) w0 w' → I w') → SimL fn.ntmps w0 (noO fz) (num 0 args) [] a w0 → c.wp P (FnD P fn w0 fz out) a w0) : Con P I f args out := by
 intro w fz vs hI hfz hR
 refine calls_of_wp_defers hf hb (h w fz _ (fun w' hfr => hI0 w w' hI (hfr.below (fun _ h => h))) ⟨noη, ?_⟩)
 refine ⟨?_, rfl, Fr.refl _ _, fun t av ht => ?_, (fun b B h => by cases h), (fun b u k h => by cases h), (fun b b' u u' k h => by cases h), (fun b u u' h => by cases h), (fun b u h => by cases h)⟩
 ·have := hR.1; simp; omega
 ·obtain ⟨_, h1⟩ := num_at ht
  rw [Nat.sub_zero] at h1
  have hlt : t < vs.size := by have := (List.getElem?_eq_some_iff.1 h1).1; have := hR.1; omega
  refine ⟨vs[t], ?_, ?_⟩
  ·show (vs ++ Array.replicate (fn.ntmps - vs.size) undef)[t]? = some vs[t]
   rw [Array.getElem?_append_left hlt]; exact Array.getElem?_eq_getElem hlt
  ·exact (hR.2 t _ av (Array.getElem?_eq_getElem hlt) h1).step (Nat.le_refl _) (fun _ _ _ => rfl) (fun k hk _ => ⟨.inl hk, fun b u h => by cases h⟩) (fun b u _ h => h)
end
end Go.Proofs.YtondpnipoogoiaaGreatDoor.F
