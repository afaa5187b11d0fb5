import Derived.Test.YtmkdcokdilllcaaDoorMr3
import Derived.Test.YtmkdcokdilllcaaDoorMr2
import Derived.Defers
import Derived.Recover
import Derived.Lib.ItoaNum
import Derived.Lib.Repeat
/- num's number: a text is read. -/
namespace Go.Proofs.YtmkdcokdilllcaaDoor.X
open Go.RowKit Go.Proofs.YtmkdcokdilllcaaDoorW.PrintWords Go.Proofs.YtmkdcokdilllcaaDoorW.PrintLast Go.Proofs.YtmkdcokdilllcaaDoorW.PrintMore
set_option linter.unusedVariables false
set_option linter.unusedSimpArgs false
/-- The reader stands at g3, number's result at g2, all else is as it was. -/
structure St (w : World) (g2 g3 : Nat) (x : ByteArray) (W : World) : Prop where
  rdr : Rdr g3 x W
  res : W.heap[g2]? = some (.cells #[.bool false, .slice none 0 0, .int .i64 0] 25 (0, 0))
  lt : g2 < g3
  le : w.heap.size ≤ g2
  below : Below w.heap.size w W
theorem St.step {w W w' : World} {g2 g3 : Nat} {x y : ByteArray} (h : St w g2 g3 x W) (hr : Rdr g3 y w') (hb : Below g3 W w') : St w g2 g3 y w' :=
  ⟨hr, by rw [hb.block g2 h.lt]; exact h.res, h.lt, h.le, h.below.trans (hb.mono (Nat.le_of_lt (Nat.lt_of_le_of_lt h.le h.lt)))⟩
theorem St.fin {w W w' : World} {g2 g3 : Nat} {x : ByteArray} (h : St w g2 g3 x W) (hb : Below g3 W w') : Below w.heap.size w w' := h.below.trans (hb.mono (Nat.le_of_lt (Nat.lt_of_le_of_lt h.le h.lt)))
theorem St.old {w W w' : World} {g2 g3 : Nat} {x : ByteArray} (h : St w g2 g3 x W) (hb : Below W.heap.size W w') : St w g2 g3 x w' := h.step (h.rdr.below hb) (hb.mono (Nat.le_of_lt h.rdr.lt))
theorem has_st {w W : World} {g2 g3 : Nat} {x : ByteArray} (h : St w g2 g3 x W) (t : ByteArray) :
    Calls Tryd.prog 46 #[.pointer (some ⟨g3, 0, none⟩), .string t] W fun e w' => e = .returned (.bool (hasF t x)) ∧ St w g2 g3 (hasR t x) w' :=
  (has_any g3 t W x h.rdr).mono fun e w' ⟨h1, h2, h3⟩ => ⟨h1, h.step h2 h3⟩
theorem digits_st {w W : World} {g2 g3 : Nat} {x : ByteArray} (h : St w g2 g3 x W) (hm : x.size ≤ 2000) :
    Calls Tryd.prog 47 #[.pointer (some ⟨g3, 0, none⟩)] W fun e w' =>
      (nDig x.data.toList = 0 ∧ e = .panicked (thrown 2) ∧ Below w.heap.size w w') ∨ (nDig x.data.toList ≠ 0 ∧ e = .returned (.string (digF x)) ∧ St w g2 g3 (digR x) w') :=
  (digits_calls g3 W x h.rdr (by omega)).mono fun e w' hh => hh.elim (fun ⟨h1, h2, h3⟩ => .inl ⟨h1, h2, h.fin h3⟩) (fun ⟨h1, h2, h3, h4⟩ => .inr ⟨h1, h2, h.step h3 h4⟩)
theorem exponent_st {w W : World} {g2 g3 : Nat} {x : ByteArray} (h : St w g2 g3 x W) (hm : x.size ≤ 2000) :
    Calls Tryd.prog 48 #[.pointer (some ⟨g3, 0, none⟩)] W fun e w' =>
      (expF x = none ∧ e = .panicked (thrown 2) ∧ Below w.heap.size w w') ∨ (∃ v y, expF x = some (v, y) ∧ e = .returned (.int .i64 v) ∧ St w g2 g3 y w') :=
  (exponent_calls g3 W x h.rdr hm).mono fun e w' hh => hh.elim (fun ⟨h1, h2, h3⟩ => .inl ⟨h1, h2, h.fin h3⟩) (fun ⟨v, y, h1, h2, h3, h4⟩ => .inr ⟨v, y, h1, h2, h.step h3 h4⟩)
/-- The end of a text: an exponent, and nothing more. -/
def numE (neg : Bool) (m : ByteArray) (n : Int) (x : ByteArray) : Option (Bool × ByteArray × Int × Int) :=
  match expF x with
  | none => none
  | some (p, y) => if y.size = 0 then some (neg, m, n, p) else none
/-- Is a nought ahead of other digits? -/
def lead (x : ByteArray) : Bool := decide (x.size > 1) && (x.data.toList.headD 0 == 48)
/-- What a text says: its sign, its digits, how many of them stand behind the point, its exponent. -/
def numP (s : ByteArray) : Option (Bool × ByteArray × Int × Int) :=
  if nDig (hasR ⟨#[45]⟩ s).data.toList = 0 then none
  else if lead (digF (hasR ⟨#[45]⟩ s)) = true then none
  else if hasF ⟨#[46]⟩ (digR (hasR ⟨#[45]⟩ s)) = true then
    (if nDig (hasR ⟨#[46]⟩ (digR (hasR ⟨#[45]⟩ s))).data.toList = 0 then none
     else numE (hasF ⟨#[45]⟩ s) (digF (hasR ⟨#[45]⟩ s) ++ digF (hasR ⟨#[46]⟩ (digR (hasR ⟨#[45]⟩ s)))) ((digF (hasR ⟨#[46]⟩ (digR (hasR ⟨#[45]⟩ s)))).size : Int) (digR (hasR ⟨#[46]⟩ (digR (hasR ⟨#[45]⟩ s)))))
  else numE (hasF ⟨#[45]⟩ s) (digF (hasR ⟨#[45]⟩ s) ++ ⟨#[]⟩) 0 (hasR ⟨#[46]⟩ (digR (hasR ⟨#[45]⟩ s)))
def numK (k : Nat) (neg : Bool) (m : ByteArray) (n p : Int) : Option (Bool × List Int × Int × Int) :=
  (nat_Parse.f k m).bind fun r => (num_Make.f k neg r.1 (wrap64 (p - n))).bind fun q =>
    if q.2.2.2 = false ∨ (0 < q.2.1.length ∧ (p = 1048576 ∨ p = -1048576)) then some (false, [], 0, 4) else some (q.1, q.2.1, q.2.2.1, 0)
def numG (k : Nat) (s : ByteArray) : Option (Bool × List Int × Int × Int) :=
  if s.size > 2000 then some (false, [], 0, 4) else
  match numP s with
  | none => some (false, [], 0, 2)
  | some (neg, m, n, p) => numK k neg m n p
theorem digF_size (x : ByteArray) : (digF x).size ≤ x.size := by
  unfold digF
  rw [ByteArray.size_extract]; omega
theorem size_pos {x : ByteArray} (h : nDig x.data.toList ≠ 0) : 0 < (digF x).size := by
  unfold digF
  have h1 := nDig_le x.data.toList
  rw [data_length] at h1
  rw [ByteArray.size_extract]
  omega
theorem head_at {x : ByteArray} (h : 0 < x.size) : x.data.toList.headD 0 = x[0]'h := by
  have h1 := at_data h
  rw [List.headD_eq_head?_getD, List.head?_eq_getElem?, h1]
  rfl
theorem lead_yes {x : ByteArray} (h : 0 < x.size) (hl : lead x = true) : decide ((1 : Int) < (x.size : Int)) = true ∧ ((((x[0]'h).toNat : Int) == 48) = true) := by
  simp only [lead, Bool.and_eq_true, decide_eq_true_eq] at hl
  rw [head_at h] at hl
  refine ⟨decide_eq_true (by omega), ?_⟩
  rw [eq_of_beq hl.2]
  rfl
theorem lead_no {x : ByteArray} (h : 0 < x.size) (hl : lead x = false) : decide ((1 : Int) < (x.size : Int)) = false ∨ (decide ((1 : Int) < (x.size : Int)) = true ∧ ((((x[0]'h).toNat : Int) == 48) = false)) := by
  by_cases h1 : (1 : Int) < (x.size : Int)
  · refine .inr ⟨decide_eq_true h1, ?_⟩
    rw [lead, decide_eq_true (by omega), Bool.true_and, head_at h] at hl
    rw [beq_eq_false_iff_ne] at hl ⊢
    intro h2
    refine hl (UInt8.toNat_inj.1 ?_)
    have : (48 : UInt8).toNat = 48 := rfl
    omega
  · exact .inl (decide_eq_false h1)
set_option maxRecDepth 100000 in
set_option maxHeartbeats 8000000 in
theorem number_calls (k : Nat) (s : ByteArray) (r1 : Bool) (r2 : List Int) (r3 r4 : Int) (w : World) (h : numG k s = some (r1, r2, r3, r4)) :
    Calls Tryd.prog 26 #[.string s] w fun e w' =>
      (r1 = false ∧ r2 = [] ∧ r3 = 0 ∧ (r4 = 2 ∨ r4 = 4) ∧ e = .panicked (thrown r4) ∧ Below w.heap.size w w') ∨
      (r4 = 0 ∧ ∃ v1_, e = .returned (.agg #[.bool r1, v1_, .int .i64 r3]) ∧ Kd.R (Kd.int .u32) 40 w' w.heap.size (fun _ => True) v1_ r2 ∧ Below w.heap.size w w') := by
  have HB := Aside0.mk (Below.refl w.heap.size w)
  by_cases hbig : s.size > 2000
  · unfold numG at h
    rw [if_pos hbig] at h
    simp only [Option.some.injEq, Prod.mk.injEq] at h
    obtain ⟨rfl, rfl, rfl, rfl⟩ := h
    have hd : decide ((2000 : Int) < (s.size : Int)) = true := decide_eq_true (by omega)
    go_enter Tryd.func26, Tryd.ntmps26
    go_wp2
    exact ⟨rfl, .inl ⟨trivial, trivial, trivial, .inr trivial, rfl, below_alloc (Below.refl _ _) _⟩⟩
  · unfold numG at h
    rw [if_neg hbig] at h
    have HH := Aside0.mk h
    clear h
    have hd : decide ((2000 : Int) < (s.size : Int)) = false := decide_eq_false (by omega)
    go_enter Tryd.func26, Tryd.ntmps26
    go_wp2_with (first
      | ((with_reducible refine gate_dst (N := 2) rfl ?_); refine box_event ?hg (N := 2) ?hd (cs := #[.bool false, .slice none 0 0, .int .i64 0]) (t := 25) ?hr ?_; (case hd => rfl); (case hg => rfl); (case hr => first | (go_simp; done) | (go_simp; rfl)); intro g2 hg2 w2 hbox2 hb2; have B2 := Aside0.mk hbox2; have HB2 := Aside0.mk hb2; have G2 := Aside0.mk hg2; clear hbox2 hb2 hg2)
      | ((with_reducible refine gate_dst (N := 18) rfl ?_); refine box_event ?hg (N := 18) ?hd (cs := #[.string s]) (t := 72) ?hr ?_; (case hd => rfl); (case hg => rfl); (case hr => first | (go_simp; done) | (go_simp; rfl)); intro g3 hg3 w3 hbox3 hb3; have B3 := Aside0.mk hbox3; have HB3 := Aside0.mk hb3; have G3 := Aside0.mk hg3; clear hbox3 hb3 hg3)
      | fail)
    have hlt : g2 < w2.heap.size := blk_lt B2.out
    have hle : w.heap.size ≤ w2.heap.size := HB2.out.size
    have S : St w g2 g3 s w3 := ⟨B3.out, by rw [HB3.out.block g2 hlt]; exact B2.out, by have := G3.out; omega, by have := G2.out; omega, HB2.out.trans (HB3.out.mono hle)⟩
    clear B3 B2 HB2 HB3 G2 G3 hlt hle
    refine (has_st S _).mono ?_
    rintro e w4 ⟨rfl, S4⟩
    go_wp2_with fail
    refine (digits_st S4 (by have := hasR_size ⟨#[45]⟩ s; omega)).mono ?_
    rintro e w5 (⟨hz, rfl, b5⟩ | ⟨hz, rfl, S5⟩)
    · go_wp2_with fail
      have h0 : numP s = none := by unfold numP; rw [if_pos hz]
      have H := HH.out
      rw [h0] at H
      simp only [Option.some.injEq, Prod.mk.injEq] at H
      obtain ⟨rfl, rfl, rfl, rfl⟩ := H
      exact ⟨rfl, .inl ⟨rfl, rfl, rfl, .inl rfl, rfl, b5⟩⟩
    have hpos := size_pos hz
    by_cases hld : lead (digF (hasR ⟨#[45]⟩ s)) = true
    · obtain ⟨ha, hb⟩ := lead_yes hpos hld
      have h0 : numP s = none := by unfold numP; rw [if_neg hz, if_pos hld]
      have H := HH.out
      rw [h0] at H
      simp only [Option.some.injEq, Prod.mk.injEq] at H
      obtain ⟨rfl, rfl, rfl, rfl⟩ := H
      clear HH
      go_wp2_with fail
      exact ⟨rfl, rfl, S5.below⟩
    rw [Bool.not_eq_true] at hld
    have hP : numP s = if hasF ⟨#[46]⟩ (digR (hasR ⟨#[45]⟩ s)) = true then
    (if nDig (hasR ⟨#[46]⟩ (digR (hasR ⟨#[45]⟩ s))).data.toList = 0 then none
     else numE (hasF ⟨#[45]⟩ s) (digF (hasR ⟨#[45]⟩ s) ++ digF (hasR ⟨#[46]⟩ (digR (hasR ⟨#[45]⟩ s)))) ((digF (hasR ⟨#[46]⟩ (digR (hasR ⟨#[45]⟩ s)))).size : Int) (digR (hasR ⟨#[46]⟩ (digR (hasR ⟨#[45]⟩ s)))))
  else numE (hasF ⟨#[45]⟩ s) (digF (hasR ⟨#[45]⟩ s) ++ ⟨#[]⟩) 0 (hasR ⟨#[46]⟩ (digR (hasR ⟨#[45]⟩ s))) := by
      unfold numP; rw [if_neg hz, if_neg (by rw [hld]; decide)]
    have hs1 : (digR (hasR ⟨#[45]⟩ s)).size ≤ 2000 := by
      have := hasR_size ⟨#[45]⟩ s
      have := digR_size (hasR ⟨#[45]⟩ s)
      omega
    have hno := lead_no hpos hld
    have hdm : (digF (hasR ⟨#[45]⟩ s)).size ≤ 2000 := Nat.le_trans (digF_size _) (by have := hasR_size ⟨#[45]⟩ s; omega)
    generalize numP s = P at *
    generalize hasF ⟨#[45]⟩ s = neg at *
    generalize digR (hasR ⟨#[45]⟩ s) = x1 at *
    generalize digF (hasR ⟨#[45]⟩ s) = d at *
    clear hld hz
    have hu25 := Tryd.underlying25
    have HP := Aside0.mk hP
    clear hP
    rcases hno with ha | ⟨ha, hb⟩
    · go_wp2_with fail
      refine (has_st S5 _).mono ?_
      rintro e w6 ⟨rfl, S6⟩
      by_cases hpt : hasF ⟨#[46]⟩ x1 = true
      · rw [hpt]
        go_wp2_with fail
        refine (digits_st S6 (by have := hasR_size ⟨#[46]⟩ x1; omega)).mono ?_
        rintro e w7 (⟨hz, rfl, b7⟩ | ⟨hz, rfl, S7⟩)
        · go_wp2_with fail
          have H := HH.out
          rw [HP.out, if_pos hpt, if_pos hz] at H
          simp only [Option.some.injEq, Prod.mk.injEq] at H
          obtain ⟨rfl, rfl, rfl, rfl⟩ := H
          exact ⟨rfl, .inl ⟨rfl, rfl, rfl, .inl rfl, rfl, b7⟩⟩
        have HQ := HH.out
        rw [HP.out, if_pos hpt, if_neg hz] at HQ
        have HH := Aside0.mk HQ
        clear HQ HP hpt hz
        have hfm : (digF (hasR ⟨#[46]⟩ x1)).size ≤ 2000 := Nat.le_trans (digF_size _) (by have := hasR_size ⟨#[46]⟩ x1; omega)
        have hs2 : (digR (hasR ⟨#[46]⟩ x1)).size ≤ 2000 := Nat.le_trans (digR_size _) (by have := hasR_size ⟨#[46]⟩ x1; omega)
        generalize digF (hasR ⟨#[46]⟩ x1) = frac at *
        generalize digR (hasR ⟨#[46]⟩ x1) = x2 at *
        go_wp2_with fail
        refine (exponent_st S7 (by omega)).mono ?_
        rintro e w8 (⟨hx, rfl, b8⟩ | ⟨p, y, hx, rfl, S8⟩)
        · go_wp2_with fail
          have H := HH.out
          have hE : numE neg (d ++ frac) (frac.size : Int) x2 = none := by unfold numE; rw [hx]
          rw [hE] at H
          simp only [Option.some.injEq, Prod.mk.injEq] at H
          obtain ⟨rfl, rfl, rfl, rfl⟩ := H
          exact ⟨rfl, .inl ⟨rfl, rfl, rfl, .inl rfl, rfl, b8⟩⟩
        have hc8 := S8.rdr.cell
        by_cases hy : y.size = 0
        · have hE : numE neg (d ++ frac) (frac.size : Int) x2 = some (neg, (d ++ frac), (frac.size : Int), p) := by unfold numE; rw [hx]; exact if_pos hy
          have H := HH.out
          rw [hE] at H
          replace H : numK k neg (d ++ frac) (frac.size : Int) p = some (r1, r2, r3, r4) := H
          clear HH hE
          unfold numK at H
          obtain ⟨⟨m1, ok1⟩, A1, H⟩ := Option.bind_eq_some_iff.mp H
          obtain ⟨⟨q1, q2, q3, q4⟩, A2, H⟩ := Option.bind_eq_some_iff.mp H
          replace A2 : num_Make.f k neg m1 (wrap64 (p - (frac.size : Int))) = some (q1, q2, q3, q4) := A2
          try rw [Int.sub_zero] at A2
          replace H : (if q4 = false ∨ (0 < q2.length ∧ (p = 1048576 ∨ p = -1048576)) then some (false, [], 0, 4) else some (q1, q2, q3, 0)) = some (r1, r2, r3, r4) := H
          have HA1 := Aside0.mk A1
          have HA2 := Aside0.mk A2
          have HH := Aside0.mk H
          clear A1 A2 H hx
          obtain rfl : y = ⟨#[]⟩ := by
            apply ByteArray.ext
            exact Array.eq_empty_of_size_eq_zero hy
          clear hy
          go_wp2_with fail
          refine (nat_Parse.calls k _ m1 ok1 _ HA1.out).mono ?_
          rintro e w9 ⟨v, rfl, ho, hb⟩
          obtain ⟨Ao, co, rfl⟩ := Kd.R_slice ho
          have HO := Aside0.mk ho
          have S9 := S8.old hb
          clear ho hb hc8
          go_wp2_with fail
          refine (num_Make.calls k neg Ao co m1 _ q1 q2 q3 q4 _ (Kd.R_reads' HO.out).2.2 (Kd.R_reads' HO.out).2.1 HA2.out).mono ?_
          rintro e w10 ⟨v, rfl, ho, hb⟩
          obtain ⟨Aq, cq, rfl⟩ := Kd.R_slice ho
          have HO2 := Aside0.mk ho
          have S10 := S9.old hb
          clear ho hb HO HA2 HA1
          have H := HH.out
          by_cases hbad : q4 = false ∨ (0 < q2.length ∧ (p = 1048576 ∨ p = -1048576))
          · rw [if_pos hbad] at H
            simp only [Option.some.injEq, Prod.mk.injEq] at H
            obtain ⟨rfl, rfl, rfl, rfl⟩ := H
            clear HH
            have HBB : ∀ W : World, Below w.heap.size w W → ∀ g : Nat, w.heap.size ≤ g → ∀ (n : Nat) (v : Value), Below w.heap.size w (W.setCell ⟨g, n, none⟩ v) := fun W h g hg n v => h.setCell hg v
            rcases hbad with rfl | ⟨hq, rfl | rfl⟩
            · go_wp2_with (first | ((with_reducible refine gate_dst (N := 10) rfl ?_); refine box_event ?hg (N := 10) ?hd (cs := #[.bool false, .slice none 0 0, .int .i64 0]) (t := 25) ?hr ?_; (case hd => rfl); (case hg => rfl); (case hr => first | (go_simp; done) | (go_simp; rfl)); intro g10 hg10 w11 hbox hb11; have S11 := S10.old hb11; have HO3 := Aside0.mk (Kd.R_below HO2.out hb11); have hne1 : g2 ≠ g10 := (by rw [hg10]; exact Nat.ne_of_lt (blk_lt S10.res)); have hne2 : g10 ≠ g2 := hne1.symm; have hc0 : w11.cell? ⟨g10, 0, none⟩ = some (.bool false) := (blk_cell hbox 0).trans rfl; have hc1 : w11.cell? ⟨g10, 1, none⟩ = some (.slice none 0 0) := (blk_cell hbox 1).trans rfl; have hc2 : w11.cell? ⟨g10, 2, none⟩ = some (.int .i64 0) := (blk_cell hbox 2).trans rfl; have hf0 := blk_frozen hbox 0; have hf1 := blk_frozen hbox 1; have hf2 := blk_frozen hbox 2; have hd0 : w11.cell? ⟨g2, 0, none⟩ = some (.bool false) := (blk_cell S11.res 0).trans rfl; have hd1 : w11.cell? ⟨g2, 1, none⟩ = some (.slice none 0 0) := (blk_cell S11.res 1).trans rfl; have hd2 : w11.cell? ⟨g2, 2, none⟩ = some (.int .i64 0) := (blk_cell S11.res 2).trans rfl; have he0 := blk_frozen S11.res 0; have he1 := blk_frozen S11.res 1; have he2 := blk_frozen S11.res 2; have G10 := Aside0.mk (show w.heap.size ≤ g10 by have := S10.below.size; omega); have BK10 := Aside0.mk hbox; clear hbox hb11 hg10) | fail)
              all_goals exact ⟨rfl, rfl, HBB _ (HBB _ (HBB _ S11.below _ G10.out _ _) _ G10.out _ _) _ G10.out _ _⟩
            · go_wp2_with (first | ((with_reducible refine gate_dst (N := 10) rfl ?_); refine box_event ?hg (N := 10) ?hd (cs := #[.bool false, .slice none 0 0, .int .i64 0]) (t := 25) ?hr ?_; (case hd => rfl); (case hg => rfl); (case hr => first | (go_simp; done) | (go_simp; rfl)); intro g10 hg10 w11 hbox hb11; have S11 := S10.old hb11; have HO3 := Aside0.mk (Kd.R_below HO2.out hb11); have hne1 : g2 ≠ g10 := (by rw [hg10]; exact Nat.ne_of_lt (blk_lt S10.res)); have hne2 : g10 ≠ g2 := hne1.symm; have hc0 : w11.cell? ⟨g10, 0, none⟩ = some (.bool false) := (blk_cell hbox 0).trans rfl; have hc1 : w11.cell? ⟨g10, 1, none⟩ = some (.slice none 0 0) := (blk_cell hbox 1).trans rfl; have hc2 : w11.cell? ⟨g10, 2, none⟩ = some (.int .i64 0) := (blk_cell hbox 2).trans rfl; have hf0 := blk_frozen hbox 0; have hf1 := blk_frozen hbox 1; have hf2 := blk_frozen hbox 2; have hd0 : w11.cell? ⟨g2, 0, none⟩ = some (.bool false) := (blk_cell S11.res 0).trans rfl; have hd1 : w11.cell? ⟨g2, 1, none⟩ = some (.slice none 0 0) := (blk_cell S11.res 1).trans rfl; have hd2 : w11.cell? ⟨g2, 2, none⟩ = some (.int .i64 0) := (blk_cell S11.res 2).trans rfl; have he0 := blk_frozen S11.res 0; have he1 := blk_frozen S11.res 1; have he2 := blk_frozen S11.res 2; have G10 := Aside0.mk (show w.heap.size ≤ g10 by have := S10.below.size; omega); have BK10 := Aside0.mk hbox; clear hbox hb11 hg10) | fail)
              all_goals exact ⟨rfl, rfl, HBB _ (HBB _ (HBB _ S11.below _ G10.out _ _) _ G10.out _ _) _ G10.out _ _⟩
            · go_wp2_with (first | ((with_reducible refine gate_dst (N := 10) rfl ?_); refine box_event ?hg (N := 10) ?hd (cs := #[.bool false, .slice none 0 0, .int .i64 0]) (t := 25) ?hr ?_; (case hd => rfl); (case hg => rfl); (case hr => first | (go_simp; done) | (go_simp; rfl)); intro g10 hg10 w11 hbox hb11; have S11 := S10.old hb11; have HO3 := Aside0.mk (Kd.R_below HO2.out hb11); have hne1 : g2 ≠ g10 := (by rw [hg10]; exact Nat.ne_of_lt (blk_lt S10.res)); have hne2 : g10 ≠ g2 := hne1.symm; have hc0 : w11.cell? ⟨g10, 0, none⟩ = some (.bool false) := (blk_cell hbox 0).trans rfl; have hc1 : w11.cell? ⟨g10, 1, none⟩ = some (.slice none 0 0) := (blk_cell hbox 1).trans rfl; have hc2 : w11.cell? ⟨g10, 2, none⟩ = some (.int .i64 0) := (blk_cell hbox 2).trans rfl; have hf0 := blk_frozen hbox 0; have hf1 := blk_frozen hbox 1; have hf2 := blk_frozen hbox 2; have hd0 : w11.cell? ⟨g2, 0, none⟩ = some (.bool false) := (blk_cell S11.res 0).trans rfl; have hd1 : w11.cell? ⟨g2, 1, none⟩ = some (.slice none 0 0) := (blk_cell S11.res 1).trans rfl; have hd2 : w11.cell? ⟨g2, 2, none⟩ = some (.int .i64 0) := (blk_cell S11.res 2).trans rfl; have he0 := blk_frozen S11.res 0; have he1 := blk_frozen S11.res 1; have he2 := blk_frozen S11.res 2; have G10 := Aside0.mk (show w.heap.size ≤ g10 by have := S10.below.size; omega); have BK10 := Aside0.mk hbox; clear hbox hb11 hg10) | fail)
              all_goals exact ⟨rfl, rfl, HBB _ (HBB _ (HBB _ S11.below _ G10.out _ _) _ G10.out _ _) _ G10.out _ _⟩
          · rw [if_neg hbad] at H
            simp only [Option.some.injEq, Prod.mk.injEq] at H
            obtain ⟨rfl, rfl, rfl, rfl⟩ := H
            clear HH
            have HBB : ∀ W : World, Below w.heap.size w W → ∀ g : Nat, w.heap.size ≤ g → ∀ (n : Nat) (v : Value), Below w.heap.size w (W.setCell ⟨g, n, none⟩ v) := fun W h g hg n v => h.setCell hg v
            have hq4 : q4 = true := by
              cases q4 with
              | false => exact absurd (Or.inl rfl) hbad
              | true => rfl
            subst hq4
            by_cases hq : 0 < q2.length
            · have hp1 : (p == 1048576) = false := beq_eq_false_iff_ne.2 fun h => hbad (.inr ⟨hq, .inl h⟩)
              have hp2 : (p == -1048576) = false := beq_eq_false_iff_ne.2 fun h => hbad (.inr ⟨hq, .inr h⟩)
              clear hbad
              go_wp2_with (first | ((with_reducible refine gate_dst (N := 10) rfl ?_); refine box_event ?hg (N := 10) ?hd (cs := #[.bool false, .slice none 0 0, .int .i64 0]) (t := 25) ?hr ?_; (case hd => rfl); (case hg => rfl); (case hr => first | (go_simp; done) | (go_simp; rfl)); intro g10 hg10 w11 hbox hb11; have S11 := S10.old hb11; have HO3 := Aside0.mk (Kd.R_below HO2.out hb11); have hne1 : g2 ≠ g10 := (by rw [hg10]; exact Nat.ne_of_lt (blk_lt S10.res)); have hne2 : g10 ≠ g2 := hne1.symm; have hc0 : w11.cell? ⟨g10, 0, none⟩ = some (.bool false) := (blk_cell hbox 0).trans rfl; have hc1 : w11.cell? ⟨g10, 1, none⟩ = some (.slice none 0 0) := (blk_cell hbox 1).trans rfl; have hc2 : w11.cell? ⟨g10, 2, none⟩ = some (.int .i64 0) := (blk_cell hbox 2).trans rfl; have hf0 := blk_frozen hbox 0; have hf1 := blk_frozen hbox 1; have hf2 := blk_frozen hbox 2; have hd0 : w11.cell? ⟨g2, 0, none⟩ = some (.bool false) := (blk_cell S11.res 0).trans rfl; have hd1 : w11.cell? ⟨g2, 1, none⟩ = some (.slice none 0 0) := (blk_cell S11.res 1).trans rfl; have hd2 : w11.cell? ⟨g2, 2, none⟩ = some (.int .i64 0) := (blk_cell S11.res 2).trans rfl; have he0 := blk_frozen S11.res 0; have he1 := blk_frozen S11.res 1; have he2 := blk_frozen S11.res 2; have G10 := Aside0.mk (show w.heap.size ≤ g10 by have := S10.below.size; omega); have BK10 := Aside0.mk hbox; clear hbox hb11 hg10) | fail)
              refine bodyPost_ret (results_cell_row rfl _ _ g2 25 #[.bool q1, .slice Aq q2.length cq, .int .i64 q3] (0, 0) _ rfl (by refine blk_put (cs := #[.bool q1, .slice Aq q2.length cq, .int .i64 0]) ?_ 2 _ rfl; refine blk_put (cs := #[.bool q1, .slice none 0 0, .int .i64 0]) ?_ 1 _ rfl; refine blk_put (cs := #[.bool false, .slice none 0 0, .int .i64 0]) ?_ 0 _ rfl; rw [Below.heap_setCell _ _ _ _ hne1, Below.heap_setCell _ _ _ _ hne1, Below.heap_setCell _ _ _ _ hne1]; exact S11.res) hu25 rfl (by kernel_rfl)) rfl ?_
              have HR := Kd.R_types (Kd.R_types HO3.out BK10.out (by decide)) S11.res (by decide)
              first | refine .inr ⟨rfl, _, rfl, ?_, HBB _ (HBB _ (HBB _ (HBB _ (HBB _ (HBB _ S11.below _ G10.out _ _) _ G10.out _ _) _ G10.out _ _) _ S11.le _ _) _ S11.le _ _) _ S11.le _ _⟩ | refine ⟨_, rfl, ?_, HBB _ (HBB _ (HBB _ (HBB _ (HBB _ (HBB _ S11.below _ G10.out _ _) _ G10.out _ _) _ G10.out _ _) _ S11.le _ _) _ S11.le _ _) _ S11.le _ _⟩
              exact Kd.R_lower (Kd.R_mono (Kd.R_far (p := ⟨g2, 2, none⟩) (Kd.R_far (p := ⟨g2, 1, none⟩) (Kd.R_far (p := ⟨g2, 0, none⟩) (Kd.R_far (p := ⟨g10, 2, none⟩) (Kd.R_far (p := ⟨g10, 1, none⟩) (Kd.R_far (p := ⟨g10, 0, none⟩) HR (fun _ hk => hk.1.2) _) (fun _ hk => hk.1.2) _) (fun _ hk => hk.1.2) _) (fun _ hk => hk.2) _) (fun _ hk => hk.2) _) (fun _ hk => hk.2) _) (fun _ hk => trivial)) S9.below.size
            · clear hbad
              go_wp2_with (first | ((with_reducible refine gate_dst (N := 10) rfl ?_); refine box_event ?hg (N := 10) ?hd (cs := #[.bool false, .slice none 0 0, .int .i64 0]) (t := 25) ?hr ?_; (case hd => rfl); (case hg => rfl); (case hr => first | (go_simp; done) | (go_simp; rfl)); intro g10 hg10 w11 hbox hb11; have S11 := S10.old hb11; have HO3 := Aside0.mk (Kd.R_below HO2.out hb11); have hne1 : g2 ≠ g10 := (by rw [hg10]; exact Nat.ne_of_lt (blk_lt S10.res)); have hne2 : g10 ≠ g2 := hne1.symm; have hc0 : w11.cell? ⟨g10, 0, none⟩ = some (.bool false) := (blk_cell hbox 0).trans rfl; have hc1 : w11.cell? ⟨g10, 1, none⟩ = some (.slice none 0 0) := (blk_cell hbox 1).trans rfl; have hc2 : w11.cell? ⟨g10, 2, none⟩ = some (.int .i64 0) := (blk_cell hbox 2).trans rfl; have hf0 := blk_frozen hbox 0; have hf1 := blk_frozen hbox 1; have hf2 := blk_frozen hbox 2; have hd0 : w11.cell? ⟨g2, 0, none⟩ = some (.bool false) := (blk_cell S11.res 0).trans rfl; have hd1 : w11.cell? ⟨g2, 1, none⟩ = some (.slice none 0 0) := (blk_cell S11.res 1).trans rfl; have hd2 : w11.cell? ⟨g2, 2, none⟩ = some (.int .i64 0) := (blk_cell S11.res 2).trans rfl; have he0 := blk_frozen S11.res 0; have he1 := blk_frozen S11.res 1; have he2 := blk_frozen S11.res 2; have G10 := Aside0.mk (show w.heap.size ≤ g10 by have := S10.below.size; omega); have BK10 := Aside0.mk hbox; clear hbox hb11 hg10) | fail)
              refine bodyPost_ret (results_cell_row rfl _ _ g2 25 #[.bool q1, .slice Aq q2.length cq, .int .i64 q3] (0, 0) _ rfl (by refine blk_put (cs := #[.bool q1, .slice Aq q2.length cq, .int .i64 0]) ?_ 2 _ rfl; refine blk_put (cs := #[.bool q1, .slice none 0 0, .int .i64 0]) ?_ 1 _ rfl; refine blk_put (cs := #[.bool false, .slice none 0 0, .int .i64 0]) ?_ 0 _ rfl; rw [Below.heap_setCell _ _ _ _ hne1, Below.heap_setCell _ _ _ _ hne1, Below.heap_setCell _ _ _ _ hne1]; exact S11.res) hu25 rfl (by kernel_rfl)) rfl ?_
              have HR := Kd.R_types (Kd.R_types HO3.out BK10.out (by decide)) S11.res (by decide)
              first | refine .inr ⟨rfl, _, rfl, ?_, HBB _ (HBB _ (HBB _ (HBB _ (HBB _ (HBB _ S11.below _ G10.out _ _) _ G10.out _ _) _ G10.out _ _) _ S11.le _ _) _ S11.le _ _) _ S11.le _ _⟩ | refine ⟨_, rfl, ?_, HBB _ (HBB _ (HBB _ (HBB _ (HBB _ (HBB _ S11.below _ G10.out _ _) _ G10.out _ _) _ G10.out _ _) _ S11.le _ _) _ S11.le _ _) _ S11.le _ _⟩
              exact Kd.R_lower (Kd.R_mono (Kd.R_far (p := ⟨g2, 2, none⟩) (Kd.R_far (p := ⟨g2, 1, none⟩) (Kd.R_far (p := ⟨g2, 0, none⟩) (Kd.R_far (p := ⟨g10, 2, none⟩) (Kd.R_far (p := ⟨g10, 1, none⟩) (Kd.R_far (p := ⟨g10, 0, none⟩) HR (fun _ hk => hk.1.2) _) (fun _ hk => hk.1.2) _) (fun _ hk => hk.1.2) _) (fun _ hk => hk.2) _) (fun _ hk => hk.2) _) (fun _ hk => hk.2) _) (fun _ hk => trivial)) S9.below.size
        · have hE : numE neg (d ++ frac) (frac.size : Int) x2 = none := by unfold numE; rw [hx]; exact if_neg hy
          have H := HH.out
          rw [hE] at H
          simp only [Option.some.injEq, Prod.mk.injEq] at H
          obtain ⟨rfl, rfl, rfl, rfl⟩ := H
          clear HH hE hx
          have hy2 : y.toList ≠ [] := by
            intro h
            rw [Lib.toList_data] at h
            have := data_length y
            rw [h] at this
            exact hy this.symm
          have hy3 : y.toList.isEmpty = false := by rw [List.isEmpty_eq_false_iff]; exact hy2
          clear hy
          go_wp2_with fail
          first
            | exact ⟨rfl, rfl, S8.below⟩
            | exact ⟨rfl, .inl ⟨rfl, rfl, rfl, .inl rfl, rfl, S8.below⟩⟩
      · rw [Bool.not_eq_true] at hpt
        rw [hpt]
        have HQ := HH.out
        rw [HP.out, if_neg (by rw [hpt]; decide)] at HQ
        have HH := Aside0.mk HQ
        clear HQ HP hpt
        have hs2 := hasR_size ⟨#[46]⟩ x1
        generalize hasR ⟨#[46]⟩ x1 = x2 at *
        go_wp2_with fail
        refine (exponent_st S6 (by omega)).mono ?_
        rintro e w8 (⟨hx, rfl, b8⟩ | ⟨p, y, hx, rfl, S8⟩)
        · go_wp2_with fail
          have H := HH.out
          have hE : numE neg (d ++ ⟨#[]⟩) 0 x2 = none := by unfold numE; rw [hx]
          rw [hE] at H
          simp only [Option.some.injEq, Prod.mk.injEq] at H
          obtain ⟨rfl, rfl, rfl, rfl⟩ := H
          exact ⟨rfl, .inl ⟨rfl, rfl, rfl, .inl rfl, rfl, b8⟩⟩
        have hc8 := S8.rdr.cell
        by_cases hy : y.size = 0
        · have hE : numE neg (d ++ ⟨#[]⟩) 0 x2 = some (neg, (d ++ ⟨#[]⟩), 0, p) := by unfold numE; rw [hx]; exact if_pos hy
          have H := HH.out
          rw [hE] at H
          replace H : numK k neg (d ++ ⟨#[]⟩) 0 p = some (r1, r2, r3, r4) := H
          clear HH hE
          unfold numK at H
          obtain ⟨⟨m1, ok1⟩, A1, H⟩ := Option.bind_eq_some_iff.mp H
          obtain ⟨⟨q1, q2, q3, q4⟩, A2, H⟩ := Option.bind_eq_some_iff.mp H
          replace A2 : num_Make.f k neg m1 (wrap64 (p - 0)) = some (q1, q2, q3, q4) := A2
          try rw [Int.sub_zero] at A2
          replace H : (if q4 = false ∨ (0 < q2.length ∧ (p = 1048576 ∨ p = -1048576)) then some (false, [], 0, 4) else some (q1, q2, q3, 0)) = some (r1, r2, r3, r4) := H
          have HA1 := Aside0.mk A1
          have HA2 := Aside0.mk A2
          have HH := Aside0.mk H
          clear A1 A2 H hx
          obtain rfl : y = ⟨#[]⟩ := by
            apply ByteArray.ext
            exact Array.eq_empty_of_size_eq_zero hy
          clear hy
          go_wp2_with fail
          refine (nat_Parse.calls k _ m1 ok1 _ HA1.out).mono ?_
          rintro e w9 ⟨v, rfl, ho, hb⟩
          obtain ⟨Ao, co, rfl⟩ := Kd.R_slice ho
          have HO := Aside0.mk ho
          have S9 := S8.old hb
          clear ho hb hc8
          go_wp2_with fail
          refine (num_Make.calls k neg Ao co m1 _ q1 q2 q3 q4 _ (Kd.R_reads' HO.out).2.2 (Kd.R_reads' HO.out).2.1 HA2.out).mono ?_
          rintro e w10 ⟨v, rfl, ho, hb⟩
          obtain ⟨Aq, cq, rfl⟩ := Kd.R_slice ho
          have HO2 := Aside0.mk ho
          have S10 := S9.old hb
          clear ho hb HO HA2 HA1
          have H := HH.out
          by_cases hbad : q4 = false ∨ (0 < q2.length ∧ (p = 1048576 ∨ p = -1048576))
          · rw [if_pos hbad] at H
            simp only [Option.some.injEq, Prod.mk.injEq] at H
            obtain ⟨rfl, rfl, rfl, rfl⟩ := H
            clear HH
            have HBB : ∀ W : World, Below w.heap.size w W → ∀ g : Nat, w.heap.size ≤ g → ∀ (n : Nat) (v : Value), Below w.heap.size w (W.setCell ⟨g, n, none⟩ v) := fun W h g hg n v => h.setCell hg v
            rcases hbad with rfl | ⟨hq, rfl | rfl⟩
            · go_wp2_with (first | ((with_reducible refine gate_dst (N := 10) rfl ?_); refine box_event ?hg (N := 10) ?hd (cs := #[.bool false, .slice none 0 0, .int .i64 0]) (t := 25) ?hr ?_; (case hd => rfl); (case hg => rfl); (case hr => first | (go_simp; done) | (go_simp; rfl)); intro g10 hg10 w11 hbox hb11; have S11 := S10.old hb11; have HO3 := Aside0.mk (Kd.R_below HO2.out hb11); have hne1 : g2 ≠ g10 := (by rw [hg10]; exact Nat.ne_of_lt (blk_lt S10.res)); have hne2 : g10 ≠ g2 := hne1.symm; have hc0 : w11.cell? ⟨g10, 0, none⟩ = some (.bool false) := (blk_cell hbox 0).trans rfl; have hc1 : w11.cell? ⟨g10, 1, none⟩ = some (.slice none 0 0) := (blk_cell hbox 1).trans rfl; have hc2 : w11.cell? ⟨g10, 2, none⟩ = some (.int .i64 0) := (blk_cell hbox 2).trans rfl; have hf0 := blk_frozen hbox 0; have hf1 := blk_frozen hbox 1; have hf2 := blk_frozen hbox 2; have hd0 : w11.cell? ⟨g2, 0, none⟩ = some (.bool false) := (blk_cell S11.res 0).trans rfl; have hd1 : w11.cell? ⟨g2, 1, none⟩ = some (.slice none 0 0) := (blk_cell S11.res 1).trans rfl; have hd2 : w11.cell? ⟨g2, 2, none⟩ = some (.int .i64 0) := (blk_cell S11.res 2).trans rfl; have he0 := blk_frozen S11.res 0; have he1 := blk_frozen S11.res 1; have he2 := blk_frozen S11.res 2; have G10 := Aside0.mk (show w.heap.size ≤ g10 by have := S10.below.size; omega); have BK10 := Aside0.mk hbox; clear hbox hb11 hg10) | fail)
              all_goals exact ⟨rfl, rfl, HBB _ (HBB _ (HBB _ S11.below _ G10.out _ _) _ G10.out _ _) _ G10.out _ _⟩
            · go_wp2_with (first | ((with_reducible refine gate_dst (N := 10) rfl ?_); refine box_event ?hg (N := 10) ?hd (cs := #[.bool false, .slice none 0 0, .int .i64 0]) (t := 25) ?hr ?_; (case hd => rfl); (case hg => rfl); (case hr => first | (go_simp; done) | (go_simp; rfl)); intro g10 hg10 w11 hbox hb11; have S11 := S10.old hb11; have HO3 := Aside0.mk (Kd.R_below HO2.out hb11); have hne1 : g2 ≠ g10 := (by rw [hg10]; exact Nat.ne_of_lt (blk_lt S10.res)); have hne2 : g10 ≠ g2 := hne1.symm; have hc0 : w11.cell? ⟨g10, 0, none⟩ = some (.bool false) := (blk_cell hbox 0).trans rfl; have hc1 : w11.cell? ⟨g10, 1, none⟩ = some (.slice none 0 0) := (blk_cell hbox 1).trans rfl; have hc2 : w11.cell? ⟨g10, 2, none⟩ = some (.int .i64 0) := (blk_cell hbox 2).trans rfl; have hf0 := blk_frozen hbox 0; have hf1 := blk_frozen hbox 1; have hf2 := blk_frozen hbox 2; have hd0 : w11.cell? ⟨g2, 0, none⟩ = some (.bool false) := (blk_cell S11.res 0).trans rfl; have hd1 : w11.cell? ⟨g2, 1, none⟩ = some (.slice none 0 0) := (blk_cell S11.res 1).trans rfl; have hd2 : w11.cell? ⟨g2, 2, none⟩ = some (.int .i64 0) := (blk_cell S11.res 2).trans rfl; have he0 := blk_frozen S11.res 0; have he1 := blk_frozen S11.res 1; have he2 := blk_frozen S11.res 2; have G10 := Aside0.mk (show w.heap.size ≤ g10 by have := S10.below.size; omega); have BK10 := Aside0.mk hbox; clear hbox hb11 hg10) | fail)
              all_goals exact ⟨rfl, rfl, HBB _ (HBB _ (HBB _ S11.below _ G10.out _ _) _ G10.out _ _) _ G10.out _ _⟩
            · go_wp2_with (first | ((with_reducible refine gate_dst (N := 10) rfl ?_); refine box_event ?hg (N := 10) ?hd (cs := #[.bool false, .slice none 0 0, .int .i64 0]) (t := 25) ?hr ?_; (case hd => rfl); (case hg => rfl); (case hr => first | (go_simp; done) | (go_simp; rfl)); intro g10 hg10 w11 hbox hb11; have S11 := S10.old hb11; have HO3 := Aside0.mk (Kd.R_below HO2.out hb11); have hne1 : g2 ≠ g10 := (by rw [hg10]; exact Nat.ne_of_lt (blk_lt S10.res)); have hne2 : g10 ≠ g2 := hne1.symm; have hc0 : w11.cell? ⟨g10, 0, none⟩ = some (.bool false) := (blk_cell hbox 0).trans rfl; have hc1 : w11.cell? ⟨g10, 1, none⟩ = some (.slice none 0 0) := (blk_cell hbox 1).trans rfl; have hc2 : w11.cell? ⟨g10, 2, none⟩ = some (.int .i64 0) := (blk_cell hbox 2).trans rfl; have hf0 := blk_frozen hbox 0; have hf1 := blk_frozen hbox 1; have hf2 := blk_frozen hbox 2; have hd0 : w11.cell? ⟨g2, 0, none⟩ = some (.bool false) := (blk_cell S11.res 0).trans rfl; have hd1 : w11.cell? ⟨g2, 1, none⟩ = some (.slice none 0 0) := (blk_cell S11.res 1).trans rfl; have hd2 : w11.cell? ⟨g2, 2, none⟩ = some (.int .i64 0) := (blk_cell S11.res 2).trans rfl; have he0 := blk_frozen S11.res 0; have he1 := blk_frozen S11.res 1; have he2 := blk_frozen S11.res 2; have G10 := Aside0.mk (show w.heap.size ≤ g10 by have := S10.below.size; omega); have BK10 := Aside0.mk hbox; clear hbox hb11 hg10) | fail)
              all_goals exact ⟨rfl, rfl, HBB _ (HBB _ (HBB _ S11.below _ G10.out _ _) _ G10.out _ _) _ G10.out _ _⟩
          · rw [if_neg hbad] at H
            simp only [Option.some.injEq, Prod.mk.injEq] at H
            obtain ⟨rfl, rfl, rfl, rfl⟩ := H
            clear HH
            have HBB : ∀ W : World, Below w.heap.size w W → ∀ g : Nat, w.heap.size ≤ g → ∀ (n : Nat) (v : Value), Below w.heap.size w (W.setCell ⟨g, n, none⟩ v) := fun W h g hg n v => h.setCell hg v
            have hq4 : q4 = true := by
              cases q4 with
              | false => exact absurd (Or.inl rfl) hbad
              | true => rfl
            subst hq4
            by_cases hq : 0 < q2.length
            · have hp1 : (p == 1048576) = false := beq_eq_false_iff_ne.2 fun h => hbad (.inr ⟨hq, .inl h⟩)
              have hp2 : (p == -1048576) = false := beq_eq_false_iff_ne.2 fun h => hbad (.inr ⟨hq, .inr h⟩)
              clear hbad
              go_wp2_with (first | ((with_reducible refine gate_dst (N := 10) rfl ?_); refine box_event ?hg (N := 10) ?hd (cs := #[.bool false, .slice none 0 0, .int .i64 0]) (t := 25) ?hr ?_; (case hd => rfl); (case hg => rfl); (case hr => first | (go_simp; done) | (go_simp; rfl)); intro g10 hg10 w11 hbox hb11; have S11 := S10.old hb11; have HO3 := Aside0.mk (Kd.R_below HO2.out hb11); have hne1 : g2 ≠ g10 := (by rw [hg10]; exact Nat.ne_of_lt (blk_lt S10.res)); have hne2 : g10 ≠ g2 := hne1.symm; have hc0 : w11.cell? ⟨g10, 0, none⟩ = some (.bool false) := (blk_cell hbox 0).trans rfl; have hc1 : w11.cell? ⟨g10, 1, none⟩ = some (.slice none 0 0) := (blk_cell hbox 1).trans rfl; have hc2 : w11.cell? ⟨g10, 2, none⟩ = some (.int .i64 0) := (blk_cell hbox 2).trans rfl; have hf0 := blk_frozen hbox 0; have hf1 := blk_frozen hbox 1; have hf2 := blk_frozen hbox 2; have hd0 : w11.cell? ⟨g2, 0, none⟩ = some (.bool false) := (blk_cell S11.res 0).trans rfl; have hd1 : w11.cell? ⟨g2, 1, none⟩ = some (.slice none 0 0) := (blk_cell S11.res 1).trans rfl; have hd2 : w11.cell? ⟨g2, 2, none⟩ = some (.int .i64 0) := (blk_cell S11.res 2).trans rfl; have he0 := blk_frozen S11.res 0; have he1 := blk_frozen S11.res 1; have he2 := blk_frozen S11.res 2; have G10 := Aside0.mk (show w.heap.size ≤ g10 by have := S10.below.size; omega); have BK10 := Aside0.mk hbox; clear hbox hb11 hg10) | fail)
              refine bodyPost_ret (results_cell_row rfl _ _ g2 25 #[.bool q1, .slice Aq q2.length cq, .int .i64 q3] (0, 0) _ rfl (by refine blk_put (cs := #[.bool q1, .slice Aq q2.length cq, .int .i64 0]) ?_ 2 _ rfl; refine blk_put (cs := #[.bool q1, .slice none 0 0, .int .i64 0]) ?_ 1 _ rfl; refine blk_put (cs := #[.bool false, .slice none 0 0, .int .i64 0]) ?_ 0 _ rfl; rw [Below.heap_setCell _ _ _ _ hne1, Below.heap_setCell _ _ _ _ hne1, Below.heap_setCell _ _ _ _ hne1]; exact S11.res) hu25 rfl (by kernel_rfl)) rfl ?_
              have HR := Kd.R_types (Kd.R_types HO3.out BK10.out (by decide)) S11.res (by decide)
              first | refine .inr ⟨rfl, _, rfl, ?_, HBB _ (HBB _ (HBB _ (HBB _ (HBB _ (HBB _ S11.below _ G10.out _ _) _ G10.out _ _) _ G10.out _ _) _ S11.le _ _) _ S11.le _ _) _ S11.le _ _⟩ | refine ⟨_, rfl, ?_, HBB _ (HBB _ (HBB _ (HBB _ (HBB _ (HBB _ S11.below _ G10.out _ _) _ G10.out _ _) _ G10.out _ _) _ S11.le _ _) _ S11.le _ _) _ S11.le _ _⟩
              exact Kd.R_lower (Kd.R_mono (Kd.R_far (p := ⟨g2, 2, none⟩) (Kd.R_far (p := ⟨g2, 1, none⟩) (Kd.R_far (p := ⟨g2, 0, none⟩) (Kd.R_far (p := ⟨g10, 2, none⟩) (Kd.R_far (p := ⟨g10, 1, none⟩) (Kd.R_far (p := ⟨g10, 0, none⟩) HR (fun _ hk => hk.1.2) _) (fun _ hk => hk.1.2) _) (fun _ hk => hk.1.2) _) (fun _ hk => hk.2) _) (fun _ hk => hk.2) _) (fun _ hk => hk.2) _) (fun _ hk => trivial)) S9.below.size
            · clear hbad
              go_wp2_with (first | ((with_reducible refine gate_dst (N := 10) rfl ?_); refine box_event ?hg (N := 10) ?hd (cs := #[.bool false, .slice none 0 0, .int .i64 0]) (t := 25) ?hr ?_; (case hd => rfl); (case hg => rfl); (case hr => first | (go_simp; done) | (go_simp; rfl)); intro g10 hg10 w11 hbox hb11; have S11 := S10.old hb11; have HO3 := Aside0.mk (Kd.R_below HO2.out hb11); have hne1 : g2 ≠ g10 := (by rw [hg10]; exact Nat.ne_of_lt (blk_lt S10.res)); have hne2 : g10 ≠ g2 := hne1.symm; have hc0 : w11.cell? ⟨g10, 0, none⟩ = some (.bool false) := (blk_cell hbox 0).trans rfl; have hc1 : w11.cell? ⟨g10, 1, none⟩ = some (.slice none 0 0) := (blk_cell hbox 1).trans rfl; have hc2 : w11.cell? ⟨g10, 2, none⟩ = some (.int .i64 0) := (blk_cell hbox 2).trans rfl; have hf0 := blk_frozen hbox 0; have hf1 := blk_frozen hbox 1; have hf2 := blk_frozen hbox 2; have hd0 : w11.cell? ⟨g2, 0, none⟩ = some (.bool false) := (blk_cell S11.res 0).trans rfl; have hd1 : w11.cell? ⟨g2, 1, none⟩ = some (.slice none 0 0) := (blk_cell S11.res 1).trans rfl; have hd2 : w11.cell? ⟨g2, 2, none⟩ = some (.int .i64 0) := (blk_cell S11.res 2).trans rfl; have he0 := blk_frozen S11.res 0; have he1 := blk_frozen S11.res 1; have he2 := blk_frozen S11.res 2; have G10 := Aside0.mk (show w.heap.size ≤ g10 by have := S10.below.size; omega); have BK10 := Aside0.mk hbox; clear hbox hb11 hg10) | fail)
              refine bodyPost_ret (results_cell_row rfl _ _ g2 25 #[.bool q1, .slice Aq q2.length cq, .int .i64 q3] (0, 0) _ rfl (by refine blk_put (cs := #[.bool q1, .slice Aq q2.length cq, .int .i64 0]) ?_ 2 _ rfl; refine blk_put (cs := #[.bool q1, .slice none 0 0, .int .i64 0]) ?_ 1 _ rfl; refine blk_put (cs := #[.bool false, .slice none 0 0, .int .i64 0]) ?_ 0 _ rfl; rw [Below.heap_setCell _ _ _ _ hne1, Below.heap_setCell _ _ _ _ hne1, Below.heap_setCell _ _ _ _ hne1]; exact S11.res) hu25 rfl (by kernel_rfl)) rfl ?_
              have HR := Kd.R_types (Kd.R_types HO3.out BK10.out (by decide)) S11.res (by decide)
              first | refine .inr ⟨rfl, _, rfl, ?_, HBB _ (HBB _ (HBB _ (HBB _ (HBB _ (HBB _ S11.below _ G10.out _ _) _ G10.out _ _) _ G10.out _ _) _ S11.le _ _) _ S11.le _ _) _ S11.le _ _⟩ | refine ⟨_, rfl, ?_, HBB _ (HBB _ (HBB _ (HBB _ (HBB _ (HBB _ S11.below _ G10.out _ _) _ G10.out _ _) _ G10.out _ _) _ S11.le _ _) _ S11.le _ _) _ S11.le _ _⟩
              exact Kd.R_lower (Kd.R_mono (Kd.R_far (p := ⟨g2, 2, none⟩) (Kd.R_far (p := ⟨g2, 1, none⟩) (Kd.R_far (p := ⟨g2, 0, none⟩) (Kd.R_far (p := ⟨g10, 2, none⟩) (Kd.R_far (p := ⟨g10, 1, none⟩) (Kd.R_far (p := ⟨g10, 0, none⟩) HR (fun _ hk => hk.1.2) _) (fun _ hk => hk.1.2) _) (fun _ hk => hk.1.2) _) (fun _ hk => hk.2) _) (fun _ hk => hk.2) _) (fun _ hk => hk.2) _) (fun _ hk => trivial)) S9.below.size
        · have hE : numE neg (d ++ ⟨#[]⟩) 0 x2 = none := by unfold numE; rw [hx]; exact if_neg hy
          have H := HH.out
          rw [hE] at H
          simp only [Option.some.injEq, Prod.mk.injEq] at H
          obtain ⟨rfl, rfl, rfl, rfl⟩ := H
          clear HH hE hx
          have hy2 : y.toList ≠ [] := by
            intro h
            rw [Lib.toList_data] at h
            have := data_length y
            rw [h] at this
            exact hy this.symm
          have hy3 : y.toList.isEmpty = false := by rw [List.isEmpty_eq_false_iff]; exact hy2
          clear hy
          go_wp2_with fail
          first
            | exact ⟨rfl, rfl, S8.below⟩
            | exact ⟨rfl, .inl ⟨rfl, rfl, rfl, .inl rfl, rfl, S8.below⟩⟩
    · go_wp2_with fail
      refine (has_st S5 _).mono ?_
      rintro e w6 ⟨rfl, S6⟩
      by_cases hpt : hasF ⟨#[46]⟩ x1 = true
      · rw [hpt]
        go_wp2_with fail
        refine (digits_st S6 (by have := hasR_size ⟨#[46]⟩ x1; omega)).mono ?_
        rintro e w7 (⟨hz, rfl, b7⟩ | ⟨hz, rfl, S7⟩)
        · go_wp2_with fail
          have H := HH.out
          rw [HP.out, if_pos hpt, if_pos hz] at H
          simp only [Option.some.injEq, Prod.mk.injEq] at H
          obtain ⟨rfl, rfl, rfl, rfl⟩ := H
          exact ⟨rfl, .inl ⟨rfl, rfl, rfl, .inl rfl, rfl, b7⟩⟩
        have HQ := HH.out
        rw [HP.out, if_pos hpt, if_neg hz] at HQ
        have HH := Aside0.mk HQ
        clear HQ HP hpt hz
        have hfm : (digF (hasR ⟨#[46]⟩ x1)).size ≤ 2000 := Nat.le_trans (digF_size _) (by have := hasR_size ⟨#[46]⟩ x1; omega)
        have hs2 : (digR (hasR ⟨#[46]⟩ x1)).size ≤ 2000 := Nat.le_trans (digR_size _) (by have := hasR_size ⟨#[46]⟩ x1; omega)
        generalize digF (hasR ⟨#[46]⟩ x1) = frac at *
        generalize digR (hasR ⟨#[46]⟩ x1) = x2 at *
        go_wp2_with fail
        refine (exponent_st S7 (by omega)).mono ?_
        rintro e w8 (⟨hx, rfl, b8⟩ | ⟨p, y, hx, rfl, S8⟩)
        · go_wp2_with fail
          have H := HH.out
          have hE : numE neg (d ++ frac) (frac.size : Int) x2 = none := by unfold numE; rw [hx]
          rw [hE] at H
          simp only [Option.some.injEq, Prod.mk.injEq] at H
          obtain ⟨rfl, rfl, rfl, rfl⟩ := H
          exact ⟨rfl, .inl ⟨rfl, rfl, rfl, .inl rfl, rfl, b8⟩⟩
        have hc8 := S8.rdr.cell
        by_cases hy : y.size = 0
        · have hE : numE neg (d ++ frac) (frac.size : Int) x2 = some (neg, (d ++ frac), (frac.size : Int), p) := by unfold numE; rw [hx]; exact if_pos hy
          have H := HH.out
          rw [hE] at H
          replace H : numK k neg (d ++ frac) (frac.size : Int) p = some (r1, r2, r3, r4) := H
          clear HH hE
          unfold numK at H
          obtain ⟨⟨m1, ok1⟩, A1, H⟩ := Option.bind_eq_some_iff.mp H
          obtain ⟨⟨q1, q2, q3, q4⟩, A2, H⟩ := Option.bind_eq_some_iff.mp H
          replace A2 : num_Make.f k neg m1 (wrap64 (p - (frac.size : Int))) = some (q1, q2, q3, q4) := A2
          try rw [Int.sub_zero] at A2
          replace H : (if q4 = false ∨ (0 < q2.length ∧ (p = 1048576 ∨ p = -1048576)) then some (false, [], 0, 4) else some (q1, q2, q3, 0)) = some (r1, r2, r3, r4) := H
          have HA1 := Aside0.mk A1
          have HA2 := Aside0.mk A2
          have HH := Aside0.mk H
          clear A1 A2 H hx
          obtain rfl : y = ⟨#[]⟩ := by
            apply ByteArray.ext
            exact Array.eq_empty_of_size_eq_zero hy
          clear hy
          go_wp2_with fail
          refine (nat_Parse.calls k _ m1 ok1 _ HA1.out).mono ?_
          rintro e w9 ⟨v, rfl, ho, hb⟩
          obtain ⟨Ao, co, rfl⟩ := Kd.R_slice ho
          have HO := Aside0.mk ho
          have S9 := S8.old hb
          clear ho hb hc8
          go_wp2_with fail
          refine (num_Make.calls k neg Ao co m1 _ q1 q2 q3 q4 _ (Kd.R_reads' HO.out).2.2 (Kd.R_reads' HO.out).2.1 HA2.out).mono ?_
          rintro e w10 ⟨v, rfl, ho, hb⟩
          obtain ⟨Aq, cq, rfl⟩ := Kd.R_slice ho
          have HO2 := Aside0.mk ho
          have S10 := S9.old hb
          clear ho hb HO HA2 HA1
          have H := HH.out
          by_cases hbad : q4 = false ∨ (0 < q2.length ∧ (p = 1048576 ∨ p = -1048576))
          · rw [if_pos hbad] at H
            simp only [Option.some.injEq, Prod.mk.injEq] at H
            obtain ⟨rfl, rfl, rfl, rfl⟩ := H
            clear HH
            have HBB : ∀ W : World, Below w.heap.size w W → ∀ g : Nat, w.heap.size ≤ g → ∀ (n : Nat) (v : Value), Below w.heap.size w (W.setCell ⟨g, n, none⟩ v) := fun W h g hg n v => h.setCell hg v
            rcases hbad with rfl | ⟨hq, rfl | rfl⟩
            · go_wp2_with (first | ((with_reducible refine gate_dst (N := 10) rfl ?_); refine box_event ?hg (N := 10) ?hd (cs := #[.bool false, .slice none 0 0, .int .i64 0]) (t := 25) ?hr ?_; (case hd => rfl); (case hg => rfl); (case hr => first | (go_simp; done) | (go_simp; rfl)); intro g10 hg10 w11 hbox hb11; have S11 := S10.old hb11; have HO3 := Aside0.mk (Kd.R_below HO2.out hb11); have hne1 : g2 ≠ g10 := (by rw [hg10]; exact Nat.ne_of_lt (blk_lt S10.res)); have hne2 : g10 ≠ g2 := hne1.symm; have hc0 : w11.cell? ⟨g10, 0, none⟩ = some (.bool false) := (blk_cell hbox 0).trans rfl; have hc1 : w11.cell? ⟨g10, 1, none⟩ = some (.slice none 0 0) := (blk_cell hbox 1).trans rfl; have hc2 : w11.cell? ⟨g10, 2, none⟩ = some (.int .i64 0) := (blk_cell hbox 2).trans rfl; have hf0 := blk_frozen hbox 0; have hf1 := blk_frozen hbox 1; have hf2 := blk_frozen hbox 2; have hd0 : w11.cell? ⟨g2, 0, none⟩ = some (.bool false) := (blk_cell S11.res 0).trans rfl; have hd1 : w11.cell? ⟨g2, 1, none⟩ = some (.slice none 0 0) := (blk_cell S11.res 1).trans rfl; have hd2 : w11.cell? ⟨g2, 2, none⟩ = some (.int .i64 0) := (blk_cell S11.res 2).trans rfl; have he0 := blk_frozen S11.res 0; have he1 := blk_frozen S11.res 1; have he2 := blk_frozen S11.res 2; have G10 := Aside0.mk (show w.heap.size ≤ g10 by have := S10.below.size; omega); have BK10 := Aside0.mk hbox; clear hbox hb11 hg10) | fail)
              all_goals exact ⟨rfl, rfl, HBB _ (HBB _ (HBB _ S11.below _ G10.out _ _) _ G10.out _ _) _ G10.out _ _⟩
            · go_wp2_with (first | ((with_reducible refine gate_dst (N := 10) rfl ?_); refine box_event ?hg (N := 10) ?hd (cs := #[.bool false, .slice none 0 0, .int .i64 0]) (t := 25) ?hr ?_; (case hd => rfl); (case hg => rfl); (case hr => first | (go_simp; done) | (go_simp; rfl)); intro g10 hg10 w11 hbox hb11; have S11 := S10.old hb11; have HO3 := Aside0.mk (Kd.R_below HO2.out hb11); have hne1 : g2 ≠ g10 := (by rw [hg10]; exact Nat.ne_of_lt (blk_lt S10.res)); have hne2 : g10 ≠ g2 := hne1.symm; have hc0 : w11.cell? ⟨g10, 0, none⟩ = some (.bool false) := (blk_cell hbox 0).trans rfl; have hc1 : w11.cell? ⟨g10, 1, none⟩ = some (.slice none 0 0) := (blk_cell hbox 1).trans rfl; have hc2 : w11.cell? ⟨g10, 2, none⟩ = some (.int .i64 0) := (blk_cell hbox 2).trans rfl; have hf0 := blk_frozen hbox 0; have hf1 := blk_frozen hbox 1; have hf2 := blk_frozen hbox 2; have hd0 : w11.cell? ⟨g2, 0, none⟩ = some (.bool false) := (blk_cell S11.res 0).trans rfl; have hd1 : w11.cell? ⟨g2, 1, none⟩ = some (.slice none 0 0) := (blk_cell S11.res 1).trans rfl; have hd2 : w11.cell? ⟨g2, 2, none⟩ = some (.int .i64 0) := (blk_cell S11.res 2).trans rfl; have he0 := blk_frozen S11.res 0; have he1 := blk_frozen S11.res 1; have he2 := blk_frozen S11.res 2; have G10 := Aside0.mk (show w.heap.size ≤ g10 by have := S10.below.size; omega); have BK10 := Aside0.mk hbox; clear hbox hb11 hg10) | fail)
              all_goals exact ⟨rfl, rfl, HBB _ (HBB _ (HBB _ S11.below _ G10.out _ _) _ G10.out _ _) _ G10.out _ _⟩
            · go_wp2_with (first | ((with_reducible refine gate_dst (N := 10) rfl ?_); refine box_event ?hg (N := 10) ?hd (cs := #[.bool false, .slice none 0 0, .int .i64 0]) (t := 25) ?hr ?_; (case hd => rfl); (case hg => rfl); (case hr => first | (go_simp; done) | (go_simp; rfl)); intro g10 hg10 w11 hbox hb11; have S11 := S10.old hb11; have HO3 := Aside0.mk (Kd.R_below HO2.out hb11); have hne1 : g2 ≠ g10 := (by rw [hg10]; exact Nat.ne_of_lt (blk_lt S10.res)); have hne2 : g10 ≠ g2 := hne1.symm; have hc0 : w11.cell? ⟨g10, 0, none⟩ = some (.bool false) := (blk_cell hbox 0).trans rfl; have hc1 : w11.cell? ⟨g10, 1, none⟩ = some (.slice none 0 0) := (blk_cell hbox 1).trans rfl; have hc2 : w11.cell? ⟨g10, 2, none⟩ = some (.int .i64 0) := (blk_cell hbox 2).trans rfl; have hf0 := blk_frozen hbox 0; have hf1 := blk_frozen hbox 1; have hf2 := blk_frozen hbox 2; have hd0 : w11.cell? ⟨g2, 0, none⟩ = some (.bool false) := (blk_cell S11.res 0).trans rfl; have hd1 : w11.cell? ⟨g2, 1, none⟩ = some (.slice none 0 0) := (blk_cell S11.res 1).trans rfl; have hd2 : w11.cell? ⟨g2, 2, none⟩ = some (.int .i64 0) := (blk_cell S11.res 2).trans rfl; have he0 := blk_frozen S11.res 0; have he1 := blk_frozen S11.res 1; have he2 := blk_frozen S11.res 2; have G10 := Aside0.mk (show w.heap.size ≤ g10 by have := S10.below.size; omega); have BK10 := Aside0.mk hbox; clear hbox hb11 hg10) | fail)
              all_goals exact ⟨rfl, rfl, HBB _ (HBB _ (HBB _ S11.below _ G10.out _ _) _ G10.out _ _) _ G10.out _ _⟩
          · rw [if_neg hbad] at H
            simp only [Option.some.injEq, Prod.mk.injEq] at H
            obtain ⟨rfl, rfl, rfl, rfl⟩ := H
            clear HH
            have HBB : ∀ W : World, Below w.heap.size w W → ∀ g : Nat, w.heap.size ≤ g → ∀ (n : Nat) (v : Value), Below w.heap.size w (W.setCell ⟨g, n, none⟩ v) := fun W h g hg n v => h.setCell hg v
            have hq4 : q4 = true := by
              cases q4 with
              | false => exact absurd (Or.inl rfl) hbad
              | true => rfl
            subst hq4
            by_cases hq : 0 < q2.length
            · have hp1 : (p == 1048576) = false := beq_eq_false_iff_ne.2 fun h => hbad (.inr ⟨hq, .inl h⟩)
              have hp2 : (p == -1048576) = false := beq_eq_false_iff_ne.2 fun h => hbad (.inr ⟨hq, .inr h⟩)
              clear hbad
              go_wp2_with (first | ((with_reducible refine gate_dst (N := 10) rfl ?_); refine box_event ?hg (N := 10) ?hd (cs := #[.bool false, .slice none 0 0, .int .i64 0]) (t := 25) ?hr ?_; (case hd => rfl); (case hg => rfl); (case hr => first | (go_simp; done) | (go_simp; rfl)); intro g10 hg10 w11 hbox hb11; have S11 := S10.old hb11; have HO3 := Aside0.mk (Kd.R_below HO2.out hb11); have hne1 : g2 ≠ g10 := (by rw [hg10]; exact Nat.ne_of_lt (blk_lt S10.res)); have hne2 : g10 ≠ g2 := hne1.symm; have hc0 : w11.cell? ⟨g10, 0, none⟩ = some (.bool false) := (blk_cell hbox 0).trans rfl; have hc1 : w11.cell? ⟨g10, 1, none⟩ = some (.slice none 0 0) := (blk_cell hbox 1).trans rfl; have hc2 : w11.cell? ⟨g10, 2, none⟩ = some (.int .i64 0) := (blk_cell hbox 2).trans rfl; have hf0 := blk_frozen hbox 0; have hf1 := blk_frozen hbox 1; have hf2 := blk_frozen hbox 2; have hd0 : w11.cell? ⟨g2, 0, none⟩ = some (.bool false) := (blk_cell S11.res 0).trans rfl; have hd1 : w11.cell? ⟨g2, 1, none⟩ = some (.slice none 0 0) := (blk_cell S11.res 1).trans rfl; have hd2 : w11.cell? ⟨g2, 2, none⟩ = some (.int .i64 0) := (blk_cell S11.res 2).trans rfl; have he0 := blk_frozen S11.res 0; have he1 := blk_frozen S11.res 1; have he2 := blk_frozen S11.res 2; have G10 := Aside0.mk (show w.heap.size ≤ g10 by have := S10.below.size; omega); have BK10 := Aside0.mk hbox; clear hbox hb11 hg10) | fail)
              refine bodyPost_ret (results_cell_row rfl _ _ g2 25 #[.bool q1, .slice Aq q2.length cq, .int .i64 q3] (0, 0) _ rfl (by refine blk_put (cs := #[.bool q1, .slice Aq q2.length cq, .int .i64 0]) ?_ 2 _ rfl; refine blk_put (cs := #[.bool q1, .slice none 0 0, .int .i64 0]) ?_ 1 _ rfl; refine blk_put (cs := #[.bool false, .slice none 0 0, .int .i64 0]) ?_ 0 _ rfl; rw [Below.heap_setCell _ _ _ _ hne1, Below.heap_setCell _ _ _ _ hne1, Below.heap_setCell _ _ _ _ hne1]; exact S11.res) hu25 rfl (by kernel_rfl)) rfl ?_
              have HR := Kd.R_types (Kd.R_types HO3.out BK10.out (by decide)) S11.res (by decide)
              first | refine .inr ⟨rfl, _, rfl, ?_, HBB _ (HBB _ (HBB _ (HBB _ (HBB _ (HBB _ S11.below _ G10.out _ _) _ G10.out _ _) _ G10.out _ _) _ S11.le _ _) _ S11.le _ _) _ S11.le _ _⟩ | refine ⟨_, rfl, ?_, HBB _ (HBB _ (HBB _ (HBB _ (HBB _ (HBB _ S11.below _ G10.out _ _) _ G10.out _ _) _ G10.out _ _) _ S11.le _ _) _ S11.le _ _) _ S11.le _ _⟩
              exact Kd.R_lower (Kd.R_mono (Kd.R_far (p := ⟨g2, 2, none⟩) (Kd.R_far (p := ⟨g2, 1, none⟩) (Kd.R_far (p := ⟨g2, 0, none⟩) (Kd.R_far (p := ⟨g10, 2, none⟩) (Kd.R_far (p := ⟨g10, 1, none⟩) (Kd.R_far (p := ⟨g10, 0, none⟩) HR (fun _ hk => hk.1.2) _) (fun _ hk => hk.1.2) _) (fun _ hk => hk.1.2) _) (fun _ hk => hk.2) _) (fun _ hk => hk.2) _) (fun _ hk => hk.2) _) (fun _ hk => trivial)) S9.below.size
            · clear hbad
              go_wp2_with (first | ((with_reducible refine gate_dst (N := 10) rfl ?_); refine box_event ?hg (N := 10) ?hd (cs := #[.bool false, .slice none 0 0, .int .i64 0]) (t := 25) ?hr ?_; (case hd => rfl); (case hg => rfl); (case hr => first | (go_simp; done) | (go_simp; rfl)); intro g10 hg10 w11 hbox hb11; have S11 := S10.old hb11; have HO3 := Aside0.mk (Kd.R_below HO2.out hb11); have hne1 : g2 ≠ g10 := (by rw [hg10]; exact Nat.ne_of_lt (blk_lt S10.res)); have hne2 : g10 ≠ g2 := hne1.symm; have hc0 : w11.cell? ⟨g10, 0, none⟩ = some (.bool false) := (blk_cell hbox 0).trans rfl; have hc1 : w11.cell? ⟨g10, 1, none⟩ = some (.slice none 0 0) := (blk_cell hbox 1).trans rfl; have hc2 : w11.cell? ⟨g10, 2, none⟩ = some (.int .i64 0) := (blk_cell hbox 2).trans rfl; have hf0 := blk_frozen hbox 0; have hf1 := blk_frozen hbox 1; have hf2 := blk_frozen hbox 2; have hd0 : w11.cell? ⟨g2, 0, none⟩ = some (.bool false) := (blk_cell S11.res 0).trans rfl; have hd1 : w11.cell? ⟨g2, 1, none⟩ = some (.slice none 0 0) := (blk_cell S11.res 1).trans rfl; have hd2 : w11.cell? ⟨g2, 2, none⟩ = some (.int .i64 0) := (blk_cell S11.res 2).trans rfl; have he0 := blk_frozen S11.res 0; have he1 := blk_frozen S11.res 1; have he2 := blk_frozen S11.res 2; have G10 := Aside0.mk (show w.heap.size ≤ g10 by have := S10.below.size; omega); have BK10 := Aside0.mk hbox; clear hbox hb11 hg10) | fail)
              refine bodyPost_ret (results_cell_row rfl _ _ g2 25 #[.bool q1, .slice Aq q2.length cq, .int .i64 q3] (0, 0) _ rfl (by refine blk_put (cs := #[.bool q1, .slice Aq q2.length cq, .int .i64 0]) ?_ 2 _ rfl; refine blk_put (cs := #[.bool q1, .slice none 0 0, .int .i64 0]) ?_ 1 _ rfl; refine blk_put (cs := #[.bool false, .slice none 0 0, .int .i64 0]) ?_ 0 _ rfl; rw [Below.heap_setCell _ _ _ _ hne1, Below.heap_setCell _ _ _ _ hne1, Below.heap_setCell _ _ _ _ hne1]; exact S11.res) hu25 rfl (by kernel_rfl)) rfl ?_
              have HR := Kd.R_types (Kd.R_types HO3.out BK10.out (by decide)) S11.res (by decide)
              first | refine .inr ⟨rfl, _, rfl, ?_, HBB _ (HBB _ (HBB _ (HBB _ (HBB _ (HBB _ S11.below _ G10.out _ _) _ G10.out _ _) _ G10.out _ _) _ S11.le _ _) _ S11.le _ _) _ S11.le _ _⟩ | refine ⟨_, rfl, ?_, HBB _ (HBB _ (HBB _ (HBB _ (HBB _ (HBB _ S11.below _ G10.out _ _) _ G10.out _ _) _ G10.out _ _) _ S11.le _ _) _ S11.le _ _) _ S11.le _ _⟩
              exact Kd.R_lower (Kd.R_mono (Kd.R_far (p := ⟨g2, 2, none⟩) (Kd.R_far (p := ⟨g2, 1, none⟩) (Kd.R_far (p := ⟨g2, 0, none⟩) (Kd.R_far (p := ⟨g10, 2, none⟩) (Kd.R_far (p := ⟨g10, 1, none⟩) (Kd.R_far (p := ⟨g10, 0, none⟩) HR (fun _ hk => hk.1.2) _) (fun _ hk => hk.1.2) _) (fun _ hk => hk.1.2) _) (fun _ hk => hk.2) _) (fun _ hk => hk.2) _) (fun _ hk => hk.2) _) (fun _ hk => trivial)) S9.below.size
        · have hE : numE neg (d ++ frac) (frac.size : Int) x2 = none := by unfold numE; rw [hx]; exact if_neg hy
          have H := HH.out
          rw [hE] at H
          simp only [Option.some.injEq, Prod.mk.injEq] at H
          obtain ⟨rfl, rfl, rfl, rfl⟩ := H
          clear HH hE hx
          have hy2 : y.toList ≠ [] := by
            intro h
            rw [Lib.toList_data] at h
            have := data_length y
            rw [h] at this
            exact hy this.symm
          have hy3 : y.toList.isEmpty = false := by rw [List.isEmpty_eq_false_iff]; exact hy2
          clear hy
          go_wp2_with fail
          first
            | exact ⟨rfl, rfl, S8.below⟩
            | exact ⟨rfl, .inl ⟨rfl, rfl, rfl, .inl rfl, rfl, S8.below⟩⟩
      · rw [Bool.not_eq_true] at hpt
        rw [hpt]
        have HQ := HH.out
        rw [HP.out, if_neg (by rw [hpt]; decide)] at HQ
        have HH := Aside0.mk HQ
        clear HQ HP hpt
        have hs2 := hasR_size ⟨#[46]⟩ x1
        generalize hasR ⟨#[46]⟩ x1 = x2 at *
        go_wp2_with fail
        refine (exponent_st S6 (by omega)).mono ?_
        rintro e w8 (⟨hx, rfl, b8⟩ | ⟨p, y, hx, rfl, S8⟩)
        · go_wp2_with fail
          have H := HH.out
          have hE : numE neg (d ++ ⟨#[]⟩) 0 x2 = none := by unfold numE; rw [hx]
          rw [hE] at H
          simp only [Option.some.injEq, Prod.mk.injEq] at H
          obtain ⟨rfl, rfl, rfl, rfl⟩ := H
          exact ⟨rfl, .inl ⟨rfl, rfl, rfl, .inl rfl, rfl, b8⟩⟩
        have hc8 := S8.rdr.cell
        by_cases hy : y.size = 0
        · have hE : numE neg (d ++ ⟨#[]⟩) 0 x2 = some (neg, (d ++ ⟨#[]⟩), 0, p) := by unfold numE; rw [hx]; exact if_pos hy
          have H := HH.out
          rw [hE] at H
          replace H : numK k neg (d ++ ⟨#[]⟩) 0 p = some (r1, r2, r3, r4) := H
          clear HH hE
          unfold numK at H
          obtain ⟨⟨m1, ok1⟩, A1, H⟩ := Option.bind_eq_some_iff.mp H
          obtain ⟨⟨q1, q2, q3, q4⟩, A2, H⟩ := Option.bind_eq_some_iff.mp H
          replace A2 : num_Make.f k neg m1 (wrap64 (p - 0)) = some (q1, q2, q3, q4) := A2
          try rw [Int.sub_zero] at A2
          replace H : (if q4 = false ∨ (0 < q2.length ∧ (p = 1048576 ∨ p = -1048576)) then some (false, [], 0, 4) else some (q1, q2, q3, 0)) = some (r1, r2, r3, r4) := H
          have HA1 := Aside0.mk A1
          have HA2 := Aside0.mk A2
          have HH := Aside0.mk H
          clear A1 A2 H hx
          obtain rfl : y = ⟨#[]⟩ := by
            apply ByteArray.ext
            exact Array.eq_empty_of_size_eq_zero hy
          clear hy
          go_wp2_with fail
          refine (nat_Parse.calls k _ m1 ok1 _ HA1.out).mono ?_
          rintro e w9 ⟨v, rfl, ho, hb⟩
          obtain ⟨Ao, co, rfl⟩ := Kd.R_slice ho
          have HO := Aside0.mk ho
          have S9 := S8.old hb
          clear ho hb hc8
          go_wp2_with fail
          refine (num_Make.calls k neg Ao co m1 _ q1 q2 q3 q4 _ (Kd.R_reads' HO.out).2.2 (Kd.R_reads' HO.out).2.1 HA2.out).mono ?_
          rintro e w10 ⟨v, rfl, ho, hb⟩
          obtain ⟨Aq, cq, rfl⟩ := Kd.R_slice ho
          have HO2 := Aside0.mk ho
          have S10 := S9.old hb
          clear ho hb HO HA2 HA1
          have H := HH.out
          by_cases hbad : q4 = false ∨ (0 < q2.length ∧ (p = 1048576 ∨ p = -1048576))
          · rw [if_pos hbad] at H
            simp only [Option.some.injEq, Prod.mk.injEq] at H
            obtain ⟨rfl, rfl, rfl, rfl⟩ := H
            clear HH
            have HBB : ∀ W : World, Below w.heap.size w W → ∀ g : Nat, w.heap.size ≤ g → ∀ (n : Nat) (v : Value), Below w.heap.size w (W.setCell ⟨g, n, none⟩ v) := fun W h g hg n v => h.setCell hg v
            rcases hbad with rfl | ⟨hq, rfl | rfl⟩
            · go_wp2_with (first | ((with_reducible refine gate_dst (N := 10) rfl ?_); refine box_event ?hg (N := 10) ?hd (cs := #[.bool false, .slice none 0 0, .int .i64 0]) (t := 25) ?hr ?_; (case hd => rfl); (case hg => rfl); (case hr => first | (go_simp; done) | (go_simp; rfl)); intro g10 hg10 w11 hbox hb11; have S11 := S10.old hb11; have HO3 := Aside0.mk (Kd.R_below HO2.out hb11); have hne1 : g2 ≠ g10 := (by rw [hg10]; exact Nat.ne_of_lt (blk_lt S10.res)); have hne2 : g10 ≠ g2 := hne1.symm; have hc0 : w11.cell? ⟨g10, 0, none⟩ = some (.bool false) := (blk_cell hbox 0).trans rfl; have hc1 : w11.cell? ⟨g10, 1, none⟩ = some (.slice none 0 0) := (blk_cell hbox 1).trans rfl; have hc2 : w11.cell? ⟨g10, 2, none⟩ = some (.int .i64 0) := (blk_cell hbox 2).trans rfl; have hf0 := blk_frozen hbox 0; have hf1 := blk_frozen hbox 1; have hf2 := blk_frozen hbox 2; have hd0 : w11.cell? ⟨g2, 0, none⟩ = some (.bool false) := (blk_cell S11.res 0).trans rfl; have hd1 : w11.cell? ⟨g2, 1, none⟩ = some (.slice none 0 0) := (blk_cell S11.res 1).trans rfl; have hd2 : w11.cell? ⟨g2, 2, none⟩ = some (.int .i64 0) := (blk_cell S11.res 2).trans rfl; have he0 := blk_frozen S11.res 0; have he1 := blk_frozen S11.res 1; have he2 := blk_frozen S11.res 2; have G10 := Aside0.mk (show w.heap.size ≤ g10 by have := S10.below.size; omega); have BK10 := Aside0.mk hbox; clear hbox hb11 hg10) | fail)
              all_goals exact ⟨rfl, rfl, HBB _ (HBB _ (HBB _ S11.below _ G10.out _ _) _ G10.out _ _) _ G10.out _ _⟩
            · go_wp2_with (first | ((with_reducible refine gate_dst (N := 10) rfl ?_); refine box_event ?hg (N := 10) ?hd (cs := #[.bool false, .slice none 0 0, .int .i64 0]) (t := 25) ?hr ?_; (case hd => rfl); (case hg => rfl); (case hr => first | (go_simp; done) | (go_simp; rfl)); intro g10 hg10 w11 hbox hb11; have S11 := S10.old hb11; have HO3 := Aside0.mk (Kd.R_below HO2.out hb11); have hne1 : g2 ≠ g10 := (by rw [hg10]; exact Nat.ne_of_lt (blk_lt S10.res)); have hne2 : g10 ≠ g2 := hne1.symm; have hc0 : w11.cell? ⟨g10, 0, none⟩ = some (.bool false) := (blk_cell hbox 0).trans rfl; have hc1 : w11.cell? ⟨g10, 1, none⟩ = some (.slice none 0 0) := (blk_cell hbox 1).trans rfl; have hc2 : w11.cell? ⟨g10, 2, none⟩ = some (.int .i64 0) := (blk_cell hbox 2).trans rfl; have hf0 := blk_frozen hbox 0; have hf1 := blk_frozen hbox 1; have hf2 := blk_frozen hbox 2; have hd0 : w11.cell? ⟨g2, 0, none⟩ = some (.bool false) := (blk_cell S11.res 0).trans rfl; have hd1 : w11.cell? ⟨g2, 1, none⟩ = some (.slice none 0 0) := (blk_cell S11.res 1).trans rfl; have hd2 : w11.cell? ⟨g2, 2, none⟩ = some (.int .i64 0) := (blk_cell S11.res 2).trans rfl; have he0 := blk_frozen S11.res 0; have he1 := blk_frozen S11.res 1; have he2 := blk_frozen S11.res 2; have G10 := Aside0.mk (show w.heap.size ≤ g10 by have := S10.below.size; omega); have BK10 := Aside0.mk hbox; clear hbox hb11 hg10) | fail)
              all_goals exact ⟨rfl, rfl, HBB _ (HBB _ (HBB _ S11.below _ G10.out _ _) _ G10.out _ _) _ G10.out _ _⟩
            · go_wp2_with (first | ((with_reducible refine gate_dst (N := 10) rfl ?_); refine box_event ?hg (N := 10) ?hd (cs := #[.bool false, .slice none 0 0, .int .i64 0]) (t := 25) ?hr ?_; (case hd => rfl); (case hg => rfl); (case hr => first | (go_simp; done) | (go_simp; rfl)); intro g10 hg10 w11 hbox hb11; have S11 := S10.old hb11; have HO3 := Aside0.mk (Kd.R_below HO2.out hb11); have hne1 : g2 ≠ g10 := (by rw [hg10]; exact Nat.ne_of_lt (blk_lt S10.res)); have hne2 : g10 ≠ g2 := hne1.symm; have hc0 : w11.cell? ⟨g10, 0, none⟩ = some (.bool false) := (blk_cell hbox 0).trans rfl; have hc1 : w11.cell? ⟨g10, 1, none⟩ = some (.slice none 0 0) := (blk_cell hbox 1).trans rfl; have hc2 : w11.cell? ⟨g10, 2, none⟩ = some (.int .i64 0) := (blk_cell hbox 2).trans rfl; have hf0 := blk_frozen hbox 0; have hf1 := blk_frozen hbox 1; have hf2 := blk_frozen hbox 2; have hd0 : w11.cell? ⟨g2, 0, none⟩ = some (.bool false) := (blk_cell S11.res 0).trans rfl; have hd1 : w11.cell? ⟨g2, 1, none⟩ = some (.slice none 0 0) := (blk_cell S11.res 1).trans rfl; have hd2 : w11.cell? ⟨g2, 2, none⟩ = some (.int .i64 0) := (blk_cell S11.res 2).trans rfl; have he0 := blk_frozen S11.res 0; have he1 := blk_frozen S11.res 1; have he2 := blk_frozen S11.res 2; have G10 := Aside0.mk (show w.heap.size ≤ g10 by have := S10.below.size; omega); have BK10 := Aside0.mk hbox; clear hbox hb11 hg10) | fail)
              all_goals exact ⟨rfl, rfl, HBB _ (HBB _ (HBB _ S11.below _ G10.out _ _) _ G10.out _ _) _ G10.out _ _⟩
          · rw [if_neg hbad] at H
            simp only [Option.some.injEq, Prod.mk.injEq] at H
            obtain ⟨rfl, rfl, rfl, rfl⟩ := H
            clear HH
            have HBB : ∀ W : World, Below w.heap.size w W → ∀ g : Nat, w.heap.size ≤ g → ∀ (n : Nat) (v : Value), Below w.heap.size w (W.setCell ⟨g, n, none⟩ v) := fun W h g hg n v => h.setCell hg v
            have hq4 : q4 = true := by
              cases q4 with
              | false => exact absurd (Or.inl rfl) hbad
              | true => rfl
            subst hq4
            by_cases hq : 0 < q2.length
            · have hp1 : (p == 1048576) = false := beq_eq_false_iff_ne.2 fun h => hbad (.inr ⟨hq, .inl h⟩)
              have hp2 : (p == -1048576) = false := beq_eq_false_iff_ne.2 fun h => hbad (.inr ⟨hq, .inr h⟩)
              clear hbad
              go_wp2_with (first | ((with_reducible refine gate_dst (N := 10) rfl ?_); refine box_event ?hg (N := 10) ?hd (cs := #[.bool false, .slice none 0 0, .int .i64 0]) (t := 25) ?hr ?_; (case hd => rfl); (case hg => rfl); (case hr => first | (go_simp; done) | (go_simp; rfl)); intro g10 hg10 w11 hbox hb11; have S11 := S10.old hb11; have HO3 := Aside0.mk (Kd.R_below HO2.out hb11); have hne1 : g2 ≠ g10 := (by rw [hg10]; exact Nat.ne_of_lt (blk_lt S10.res)); have hne2 : g10 ≠ g2 := hne1.symm; have hc0 : w11.cell? ⟨g10, 0, none⟩ = some (.bool false) := (blk_cell hbox 0).trans rfl; have hc1 : w11.cell? ⟨g10, 1, none⟩ = some (.slice none 0 0) := (blk_cell hbox 1).trans rfl; have hc2 : w11.cell? ⟨g10, 2, none⟩ = some (.int .i64 0) := (blk_cell hbox 2).trans rfl; have hf0 := blk_frozen hbox 0; have hf1 := blk_frozen hbox 1; have hf2 := blk_frozen hbox 2; have hd0 : w11.cell? ⟨g2, 0, none⟩ = some (.bool false) := (blk_cell S11.res 0).trans rfl; have hd1 : w11.cell? ⟨g2, 1, none⟩ = some (.slice none 0 0) := (blk_cell S11.res 1).trans rfl; have hd2 : w11.cell? ⟨g2, 2, none⟩ = some (.int .i64 0) := (blk_cell S11.res 2).trans rfl; have he0 := blk_frozen S11.res 0; have he1 := blk_frozen S11.res 1; have he2 := blk_frozen S11.res 2; have G10 := Aside0.mk (show w.heap.size ≤ g10 by have := S10.below.size; omega); have BK10 := Aside0.mk hbox; clear hbox hb11 hg10) | fail)
              refine bodyPost_ret (results_cell_row rfl _ _ g2 25 #[.bool q1, .slice Aq q2.length cq, .int .i64 q3] (0, 0) _ rfl (by refine blk_put (cs := #[.bool q1, .slice Aq q2.length cq, .int .i64 0]) ?_ 2 _ rfl; refine blk_put (cs := #[.bool q1, .slice none 0 0, .int .i64 0]) ?_ 1 _ rfl; refine blk_put (cs := #[.bool false, .slice none 0 0, .int .i64 0]) ?_ 0 _ rfl; rw [Below.heap_setCell _ _ _ _ hne1, Below.heap_setCell _ _ _ _ hne1, Below.heap_setCell _ _ _ _ hne1]; exact S11.res) hu25 rfl (by kernel_rfl)) rfl ?_
              have HR := Kd.R_types (Kd.R_types HO3.out BK10.out (by decide)) S11.res (by decide)
              first | refine .inr ⟨rfl, _, rfl, ?_, HBB _ (HBB _ (HBB _ (HBB _ (HBB _ (HBB _ S11.below _ G10.out _ _) _ G10.out _ _) _ G10.out _ _) _ S11.le _ _) _ S11.le _ _) _ S11.le _ _⟩ | refine ⟨_, rfl, ?_, HBB _ (HBB _ (HBB _ (HBB _ (HBB _ (HBB _ S11.below _ G10.out _ _) _ G10.out _ _) _ G10.out _ _) _ S11.le _ _) _ S11.le _ _) _ S11.le _ _⟩
              exact Kd.R_lower (Kd.R_mono (Kd.R_far (p := ⟨g2, 2, none⟩) (Kd.R_far (p := ⟨g2, 1, none⟩) (Kd.R_far (p := ⟨g2, 0, none⟩) (Kd.R_far (p := ⟨g10, 2, none⟩) (Kd.R_far (p := ⟨g10, 1, none⟩) (Kd.R_far (p := ⟨g10, 0, none⟩) HR (fun _ hk => hk.1.2) _) (fun _ hk => hk.1.2) _) (fun _ hk => hk.1.2) _) (fun _ hk => hk.2) _) (fun _ hk => hk.2) _) (fun _ hk => hk.2) _) (fun _ hk => trivial)) S9.below.size
            · clear hbad
              go_wp2_with (first | ((with_reducible refine gate_dst (N := 10) rfl ?_); refine box_event ?hg (N := 10) ?hd (cs := #[.bool false, .slice none 0 0, .int .i64 0]) (t := 25) ?hr ?_; (case hd => rfl); (case hg => rfl); (case hr => first | (go_simp; done) | (go_simp; rfl)); intro g10 hg10 w11 hbox hb11; have S11 := S10.old hb11; have HO3 := Aside0.mk (Kd.R_below HO2.out hb11); have hne1 : g2 ≠ g10 := (by rw [hg10]; exact Nat.ne_of_lt (blk_lt S10.res)); have hne2 : g10 ≠ g2 := hne1.symm; have hc0 : w11.cell? ⟨g10, 0, none⟩ = some (.bool false) := (blk_cell hbox 0).trans rfl; have hc1 : w11.cell? ⟨g10, 1, none⟩ = some (.slice none 0 0) := (blk_cell hbox 1).trans rfl; have hc2 : w11.cell? ⟨g10, 2, none⟩ = some (.int .i64 0) := (blk_cell hbox 2).trans rfl; have hf0 := blk_frozen hbox 0; have hf1 := blk_frozen hbox 1; have hf2 := blk_frozen hbox 2; have hd0 : w11.cell? ⟨g2, 0, none⟩ = some (.bool false) := (blk_cell S11.res 0).trans rfl; have hd1 : w11.cell? ⟨g2, 1, none⟩ = some (.slice none 0 0) := (blk_cell S11.res 1).trans rfl; have hd2 : w11.cell? ⟨g2, 2, none⟩ = some (.int .i64 0) := (blk_cell S11.res 2).trans rfl; have he0 := blk_frozen S11.res 0; have he1 := blk_frozen S11.res 1; have he2 := blk_frozen S11.res 2; have G10 := Aside0.mk (show w.heap.size ≤ g10 by have := S10.below.size; omega); have BK10 := Aside0.mk hbox; clear hbox hb11 hg10) | fail)
              refine bodyPost_ret (results_cell_row rfl _ _ g2 25 #[.bool q1, .slice Aq q2.length cq, .int .i64 q3] (0, 0) _ rfl (by refine blk_put (cs := #[.bool q1, .slice Aq q2.length cq, .int .i64 0]) ?_ 2 _ rfl; refine blk_put (cs := #[.bool q1, .slice none 0 0, .int .i64 0]) ?_ 1 _ rfl; refine blk_put (cs := #[.bool false, .slice none 0 0, .int .i64 0]) ?_ 0 _ rfl; rw [Below.heap_setCell _ _ _ _ hne1, Below.heap_setCell _ _ _ _ hne1, Below.heap_setCell _ _ _ _ hne1]; exact S11.res) hu25 rfl (by kernel_rfl)) rfl ?_
              have HR := Kd.R_types (Kd.R_types HO3.out BK10.out (by decide)) S11.res (by decide)
              first | refine .inr ⟨rfl, _, rfl, ?_, HBB _ (HBB _ (HBB _ (HBB _ (HBB _ (HBB _ S11.below _ G10.out _ _) _ G10.out _ _) _ G10.out _ _) _ S11.le _ _) _ S11.le _ _) _ S11.le _ _⟩ | refine ⟨_, rfl, ?_, HBB _ (HBB _ (HBB _ (HBB _ (HBB _ (HBB _ S11.below _ G10.out _ _) _ G10.out _ _) _ G10.out _ _) _ S11.le _ _) _ S11.le _ _) _ S11.le _ _⟩
              exact Kd.R_lower (Kd.R_mono (Kd.R_far (p := ⟨g2, 2, none⟩) (Kd.R_far (p := ⟨g2, 1, none⟩) (Kd.R_far (p := ⟨g2, 0, none⟩) (Kd.R_far (p := ⟨g10, 2, none⟩) (Kd.R_far (p := ⟨g10, 1, none⟩) (Kd.R_far (p := ⟨g10, 0, none⟩) HR (fun _ hk => hk.1.2) _) (fun _ hk => hk.1.2) _) (fun _ hk => hk.1.2) _) (fun _ hk => hk.2) _) (fun _ hk => hk.2) _) (fun _ hk => hk.2) _) (fun _ hk => trivial)) S9.below.size
        · have hE : numE neg (d ++ ⟨#[]⟩) 0 x2 = none := by unfold numE; rw [hx]; exact if_neg hy
          have H := HH.out
          rw [hE] at H
          simp only [Option.some.injEq, Prod.mk.injEq] at H
          obtain ⟨rfl, rfl, rfl, rfl⟩ := H
          clear HH hE hx
          have hy2 : y.toList ≠ [] := by
            intro h
            rw [Lib.toList_data] at h
            have := data_length y
            rw [h] at this
            exact hy this.symm
          have hy3 : y.toList.isEmpty = false := by rw [List.isEmpty_eq_false_iff]; exact hy2
          clear hy
          go_wp2_with fail
          first
            | exact ⟨rfl, rfl, S8.below⟩
            | exact ⟨rfl, .inl ⟨rfl, rfl, rfl, .inl rfl, rfl, S8.below⟩⟩
end Go.Proofs.YtmkdcokdilllcaaDoor.X
/- num.Parse: what a thrown error becomes. -/
namespace Go.Proofs.YtmkdcokdilllcaaDoor.X
open Go.RowKit Go.Proofs.YtmkdcokdilllcaaDoorW.PrintWords Go.Proofs.YtmkdcokdilllcaaDoorW.PrintLast Go.Proofs.YtmkdcokdilllcaaDoorW.PrintMore
set_option linter.unusedVariables false
set_option linter.unusedSimpArgs false
/-- The world with number 0 at p and the error c at q. -/
def caught (p q : Nat) (c : Int) (w : World) : World := (((w.setCell ⟨p, 0, none⟩ (.bool false)).setCell ⟨p, 1, none⟩ (.slice none 0 0)).setCell ⟨p, 2, none⟩ (.int .i64 0)).setCell ⟨q, 0, none⟩ (.int .i64 c)
theorem assert_errno (c : Int) (xT : TypeId) (w : World) : (Instr.typeAssert (.iface 26 (.int .i64 c)) xT 26 true).run Tryd.prog w = .ok (.tuple #[.int .i64 c, .bool true]) w := by
  simp [Instr.typeAssert, run_underlying Tryd.underlying26, go_sem, Result.andThen]
set_option maxRecDepth 100000 in
set_option maxHeartbeats 4000000 in
theorem catch_panicking (p q : Nat) (hne : p ≠ q) (x1 : Bool) (x2 : Value) (x3 c0 : Int) (c : Int) (older : List PanicEntry) (w : World)
    (hp : w.heap[p]? = some (.cells #[.bool x1, x2, .int .i64 x3] 25 (0, 0))) (hq : w.heap[q]? = some (.cells #[.int .i64 c0] 26 (0, 0))) :
    CallsD Tryd.prog 25 #[.pointer (some ⟨p, 0, none⟩), .pointer (some ⟨q, 0, none⟩)] (.panicking ({ v := .iface 26 (.int .i64 c), recovered := false } :: older)) w fun e u' w' =>
      e = .returned (.tuple #[]) ∧ u' = .panicking ({ v := .iface 26 (.int .i64 c), recovered := true } :: older) ∧ w' = caught p q c w := by
  have hu25 := Tryd.underlying25
  have hc0 : w.cell? ⟨p, 0, none⟩ = some (.bool x1) := (blk_cell hp 0).trans rfl
  have hc1 : w.cell? ⟨p, 1, none⟩ = some x2 := (blk_cell hp 1).trans rfl
  have hc2 : w.cell? ⟨p, 2, none⟩ = some (.int .i64 x3) := (blk_cell hp 2).trans rfl
  have hf0 := blk_frozen hp 0
  have hf1 := blk_frozen hp 1
  have hf2 := blk_frozen hp 2
  have hd0 : w.cell? ⟨q, 0, none⟩ = some (.int .i64 c0) := (blk_cell hq 0).trans rfl
  have he0 := blk_frozen hq 0
  have hne2 := hne.symm
  clear hp hq
  refine callsD_of_wpS Tryd.func25 rfl fun c₀ cs hu => ?_
  apply wpS_seq
  apply wpS_region
  simp [wpOpsS, go_sem, recoverD, hu, Tryd.ntmps25, Exit.thenS]
  refine wpS_of_wp ?_
  have ht : (#[Value.pointer (some ⟨p, 0, none⟩), Value.pointer (some ⟨q, 0, none⟩)] ++ ((Array.replicate 16 undef).setIfInBounds 3 (Value.iface 26 (Value.int IntKind.i64 c))).setIfInBounds 0 (Value.iface 26 (Value.int IntKind.i64 c)) : Array Value) = #[Value.pointer (some ⟨p, 0, none⟩), Value.pointer (some ⟨q, 0, none⟩), Value.iface 26 (Value.int IntKind.i64 c), undef, undef, Value.iface 26 (Value.int IntKind.i64 c), undef, undef, undef, undef, undef, undef, undef, undef, undef, undef, undef, undef] := rfl
  rw [ht]
  clear ht
  have hta := fun xT w => assert_errno c xT w
  have HU := Aside0.mk hu
  clear hu
  go_wp2_with fail
  simp [bodyPostS, results, Tryd.results25, caught]
theorem catch_idle (p q : Nat) (w : World) :
    CallsD Tryd.prog 25 #[.pointer (some ⟨p, 0, none⟩), .pointer (some ⟨q, 0, none⟩)] .returning w fun e u' w' => e = .returned (.tuple #[]) ∧ u' = .returning ∧ w' = w := by
  refine callsD_of_wpS Tryd.func25 rfl fun c₀ cs hu => ?_
  apply wpS_seq
  apply wpS_region
  simp [wpOpsS, go_sem, recoverD, hu, Tryd.ntmps25, Exit.thenS]
  refine wpS_of_wp ?_
  have ht : (#[Value.pointer (some ⟨p, 0, none⟩), Value.pointer (some ⟨q, 0, none⟩)] ++ ((Array.replicate 16 undef).setIfInBounds 3 Value.nilIface).setIfInBounds 0 Value.nilIface : Array Value) = #[Value.pointer (some ⟨p, 0, none⟩), Value.pointer (some ⟨q, 0, none⟩), Value.nilIface, undef, undef, Value.nilIface, undef, undef, undef, undef, undef, undef, undef, undef, undef, undef, undef, undef] := rfl
  rw [ht]
  clear ht
  have HU := Aside0.mk hu
  clear hu
  go_wp2_with fail
  cases c₀
  have hu := HU.out
  simp_all [bodyPostS, results, Tryd.results25]
theorem results_parse (tmps : Array Value) (g2 g3 : Nat) (v0 v1 v2 : Value) (c : Int) (W : World) (hp : tmps.getD 2 undef = .pointer (some ⟨g2, 0, none⟩)) (hq : tmps.getD 3 undef = .pointer (some ⟨g3, 0, none⟩))
    (h2 : W.heap[g2]? = some (.cells #[v0, v1, v2] 25 (0, 0))) (h3 : W.heap[g3]? = some (.cells #[.int .i64 c] 26 (0, 0))) :
    (results Tryd.f10 tmps).run Tryd.prog W = .ok (.tuple #[.agg #[v0, v1, v2], .int .i64 c]) W := by
  have hp' : tmps[2]?.getD undef = .pointer (some ⟨g2, 0, none⟩) := by simpa using hp
  have hq' : tmps[3]?.getD undef = .pointer (some ⟨g3, 0, none⟩) := by simpa using hq
  have hc : W.cell? ⟨g3, 0, none⟩ = some (.int .i64 c) := (blk_cell h3 0).trans rfl
  have hc0 : W.cell? ⟨g2, 0, none⟩ = some v0 := (blk_cell h2 0).trans rfl
  have hc1 : W.cell? ⟨g2, 1, none⟩ = some v1 := (blk_cell h2 1).trans rfl
  have hc2 : W.cell? ⟨g2, 2, none⟩ = some v2 := (blk_cell h2 2).trans rfl
  have hr : Tryd.f10.results = #[.cell 2 25, .cell 3 26] := rfl
  simp [results, hr, hp', hq', asAddr, go_sem, hc, hc0, hc1, hc2, Result.andThen]
set_option maxRecDepth 100000 in
set_option maxHeartbeats 4000000 in
theorem parse_thrown (k : Nat) (s : ByteArray) (c : Int) (w : World) (hc : c = 2 ∨ c = 4) (h : numG k s = some (false, [], 0, c)) :
    Calls Tryd.prog 10 #[.string s] w fun e w' => e = .returned (.tuple #[.agg #[.bool false, .slice none 0 0, .int .i64 0], .int .i64 c]) ∧ Below w.heap.size w w' := by
  have HB := Aside0.mk (Below.refl w.heap.size w)
  have hmf : ∀ (fn : Fn) (first cap : Array Value) (w : World), (Instr.makeFunc fn first cap).run Tryd.prog w = .ok (.func fn first cap) w := fun _ _ _ _ => rfl
  have hu25 := Tryd.underlying25
  go_enter_defers Tryd.func10, Tryd.ntmps10
  go_wp2_with (first
      | ((with_reducible refine gate_dst (N := 2) rfl ?_); refine box_event ?hg (N := 2) ?hd (cs := #[.bool false, .slice none 0 0, .int .i64 0]) (t := 25) ?hr ?_; (case hd => rfl); (case hg => rfl); (case hr => first | (go_simp; done) | (go_simp; rfl)); intro g2 hg2 w2 hbox2 hb2; have B2 := Aside0.mk hbox2; have HB2 := Aside0.mk hb2; have G2 := Aside0.mk hg2; clear hbox2 hb2 hg2)
      | ((with_reducible refine gate_dst (N := 3) rfl ?_); refine box_event ?hg (N := 3) ?hd (cs := #[.int .i64 0]) (t := 26) ?hr ?_; (case hd => rfl); (case hg => rfl); (case hr => first | (go_simp; done) | (go_simp; rfl)); intro g3 hg3 w3 hbox3 hb3; have B3 := Aside0.mk hbox3; have HB3 := Aside0.mk hb3; have G3 := Aside0.mk hg3; clear hbox3 hb3 hg3)
      | fail)
  have hlt2 : g2 < w2.heap.size := blk_lt B2.out
  have hne : g2 ≠ g3 := by have := G3.out; omega
  have B2' : w3.heap[g2]? = _ := (HB3.out.block g2 hlt2).trans B2.out
  have hlt3 := blk_lt B2'
  have hlt4 := blk_lt B3.out
  have hbw : Below w.heap.size w w3 := HB2.out.trans (HB3.out.mono HB2.out.size)
  have hg2 : w.heap.size ≤ g2 := by have := G2.out; omega
  have hg3 : w.heap.size ≤ g3 := by have := G3.out; have := HB2.out.size; omega
  refine (number_calls k s false [] 0 c w3 h).mono ?_
  rintro e w4 (⟨_, _, _, _, rfl, b4⟩ | ⟨h0, _⟩)
  · have C2 : w4.heap[g2]? = _ := (b4.block g2 hlt3).trans B2'
    have C3 : w4.heap[g3]? = _ := (b4.block g3 hlt4).trans B3.out
    have hbw4 := hbw.trans (b4.mono hbw.size)
    clear B2 B3 HB2 HB3 G2 G3 B2'
    go_wp2_with fail
    refine leaves_cons (f := 25) (args := #[.pointer (some ⟨g2, 0, none⟩), .pointer (some ⟨g3, 0, none⟩)]) (by simp) (by simp [go_sem]) ?_
    refine (catch_panicking g2 g3 hne false (.slice none 0 0) 0 0 c [] _ C2 C3).mono ?_
    rintro e u' w5 ⟨rfl, rfl, rfl⟩
    have D2 : (caught g2 g3 c w4).heap[g2]? = some (.cells #[.bool false, .slice none 0 0, .int .i64 0] 25 (0, 0)) := by
      unfold caught
      rw [Below.heap_setCell _ _ _ _ hne]
      exact blk_put (cs := #[.bool false, .slice none 0 0, .int .i64 0]) (blk_put (cs := #[.bool false, .slice none 0 0, .int .i64 0]) (blk_put (cs := #[.bool false, .slice none 0 0, .int .i64 0]) C2 0 (.bool false) rfl) 1 (.slice none 0 0) rfl) 2 (.int .i64 0) rfl
    have D3 : (caught g2 g3 c w4).heap[g3]? = some (.cells #[.int .i64 c] 26 (0, 0)) := by
      unfold caught
      refine blk_put (cs := #[.int .i64 0]) ?_ 0 (.int .i64 c) rfl
      rw [Below.heap_setCell _ _ _ _ hne.symm, Below.heap_setCell _ _ _ _ hne.symm, Below.heap_setCell _ _ _ _ hne.symm]
      exact C3
    have D4 : Below w.heap.size w (caught g2 g3 c w4) := by
      unfold caught
      exact (((hbw4.setCell (p := ⟨g2, 0, none⟩) hg2 _).setCell (p := ⟨g2, 1, none⟩) hg2 _).setCell (p := ⟨g2, 2, none⟩) hg2 _).setCell (p := ⟨g3, 0, none⟩) hg3 _
    simp only [Leaves, settle]
    exact ⟨_, results_parse _ g2 g3 _ _ _ c _ rfl rfl D2 D3, rfl, D4⟩
  · omega
set_option maxRecDepth 100000 in
set_option maxHeartbeats 4000000 in
theorem parse_fine (k : Nat) (s : ByteArray) (r1 : Bool) (r2 : List Int) (r3 : Int) (w : World) (h : numG k s = some (r1, r2, r3, 0)) :
    Calls Tryd.prog 10 #[.string s] w fun e w' => ∃ v1_, e = .returned (.tuple #[.agg #[.bool r1, v1_, .int .i64 r3], .int .i64 0]) ∧ Kd.R (Kd.int .u32) 40 w' w.heap.size (fun _ => True) v1_ r2 ∧ Below w.heap.size w w' := by
  have HB := Aside0.mk (Below.refl w.heap.size w)
  have hmf : ∀ (fn : Fn) (first cap : Array Value) (w : World), (Instr.makeFunc fn first cap).run Tryd.prog w = .ok (.func fn first cap) w := fun _ _ _ _ => rfl
  have hu25 := Tryd.underlying25
  go_enter_defers Tryd.func10, Tryd.ntmps10
  go_wp2_with (first
      | ((with_reducible refine gate_dst (N := 2) rfl ?_); refine box_event ?hg (N := 2) ?hd (cs := #[.bool false, .slice none 0 0, .int .i64 0]) (t := 25) ?hr ?_; (case hd => rfl); (case hg => rfl); (case hr => first | (go_simp; done) | (go_simp; rfl)); intro g2 hg2 w2 hbox2 hb2; have B2 := Aside0.mk hbox2; have HB2 := Aside0.mk hb2; have G2 := Aside0.mk hg2; clear hbox2 hb2 hg2)
      | ((with_reducible refine gate_dst (N := 3) rfl ?_); refine box_event ?hg (N := 3) ?hd (cs := #[.int .i64 0]) (t := 26) ?hr ?_; (case hd => rfl); (case hg => rfl); (case hr => first | (go_simp; done) | (go_simp; rfl)); intro g3 hg3 w3 hbox3 hb3; have B3 := Aside0.mk hbox3; have HB3 := Aside0.mk hb3; have G3 := Aside0.mk hg3; clear hbox3 hb3 hg3)
      | fail)
  have hlt2 : g2 < w2.heap.size := blk_lt B2.out
  have hne : g2 ≠ g3 := by have := G3.out; omega
  have B2' : w3.heap[g2]? = _ := (HB3.out.block g2 hlt2).trans B2.out
  have hlt3 := blk_lt B2'
  have hlt4 := blk_lt B3.out
  have hbw : Below w.heap.size w w3 := HB2.out.trans (HB3.out.mono HB2.out.size)
  have hg2 : w.heap.size ≤ g2 := by have := G2.out; omega
  have hg3 : w.heap.size ≤ g3 := by have := G3.out; have := HB2.out.size; omega
  refine (number_calls k s r1 r2 r3 0 w3 h).mono ?_
  rintro e w4 (⟨_, _, _, h0, _, _⟩ | ⟨_, v, rfl, ho, b4⟩)
  · omega
  · have C2 : w4.heap[g2]? = _ := (b4.block g2 hlt3).trans B2'
    have C3 : w4.heap[g3]? = _ := (b4.block g3 hlt4).trans B3.out
    have hbw4 := hbw.trans (b4.mono hbw.size)
    obtain ⟨Aq, cq, rfl⟩ := Kd.R_slice ho
    have HO := Aside0.mk ho
    clear B2 B3 HB2 HB3 G2 G3 B2' ho
    have hc0 : w4.cell? ⟨g2, 0, none⟩ = some (.bool false) := (blk_cell C2 0).trans rfl
    have hc1 : w4.cell? ⟨g2, 1, none⟩ = some (.slice none 0 0) := (blk_cell C2 1).trans rfl
    have hc2 : w4.cell? ⟨g2, 2, none⟩ = some (.int .i64 0) := (blk_cell C2 2).trans rfl
    have hf0 := blk_frozen C2 0
    have hf1 := blk_frozen C2 1
    have hf2 := blk_frozen C2 2
    have hd0 : w4.cell? ⟨g3, 0, none⟩ = some (.int .i64 0) := (blk_cell C3 0).trans rfl
    have he0 := blk_frozen C3 0
    have hne2 := hne.symm
    have K2 := Aside0.mk C2
    have K3 := Aside0.mk C3
    clear C2 C3
    go_wp2_with fail
    refine leaves_cons (f := 25) (args := #[.pointer (some ⟨g2, 0, none⟩), .pointer (some ⟨g3, 0, none⟩)]) (by simp) (by simp [go_sem]) ?_
    refine (catch_idle g2 g3 _).mono ?_
    rintro e u' w5 ⟨rfl, rfl, rfl⟩
    simp only [Leaves, settle]
    have D2 : ((((w4.setCell ⟨g2, 0, none⟩ (.bool r1)).setCell ⟨g2, 1, none⟩ (.slice Aq r2.length cq)).setCell ⟨g2, 2, none⟩ (.int .i64 r3)).setCell ⟨g3, 0, none⟩ (.int .i64 0)).heap[g2]? = some (.cells #[.bool r1, .slice Aq r2.length cq, .int .i64 r3] 25 (0, 0)) := by
      rw [Below.heap_setCell _ _ _ _ hne]
      exact blk_put (cs := #[.bool r1, .slice Aq r2.length cq, .int .i64 0]) (blk_put (cs := #[.bool r1, .slice none 0 0, .int .i64 0]) (blk_put (cs := #[.bool false, .slice none 0 0, .int .i64 0]) K2.out 0 (.bool r1) rfl) 1 (.slice Aq r2.length cq) rfl) 2 (.int .i64 r3) rfl
    have D3 : ((((w4.setCell ⟨g2, 0, none⟩ (.bool r1)).setCell ⟨g2, 1, none⟩ (.slice Aq r2.length cq)).setCell ⟨g2, 2, none⟩ (.int .i64 r3)).setCell ⟨g3, 0, none⟩ (.int .i64 0)).heap[g3]? = some (.cells #[.int .i64 0] 26 (0, 0)) := by
      refine blk_put (cs := #[.int .i64 0]) ?_ 0 (.int .i64 0) rfl
      rw [Below.heap_setCell _ _ _ _ hne2, Below.heap_setCell _ _ _ _ hne2, Below.heap_setCell _ _ _ _ hne2]
      exact K3.out
    have D4 := (((hbw4.setCell (p := ⟨g2, 0, none⟩) hg2 (.bool r1)).setCell (p := ⟨g2, 1, none⟩) hg2 (.slice Aq r2.length cq)).setCell (p := ⟨g2, 2, none⟩) hg2 (.int .i64 r3)).setCell (p := ⟨g3, 0, none⟩) hg3 (.int .i64 0)
    have HR := Kd.R_types (Kd.R_types HO.out K2.out (by decide)) K3.out (by decide)
    refine ⟨_, results_parse _ g2 g3 _ _ _ 0 _ rfl rfl D2 D3, _, rfl, ?_, D4⟩
    exact Kd.R_lower (Kd.R_mono (Kd.R_far (p := ⟨g3, 0, none⟩) (Kd.R_far (p := ⟨g2, 2, none⟩) (Kd.R_far (p := ⟨g2, 1, none⟩) (Kd.R_far (p := ⟨g2, 0, none⟩) HR (fun _ hk => hk.1.2) _) (fun _ hk => hk.1.2) _) (fun _ hk => hk.1.2) _) (fun _ hk => hk.2) _) (fun _ hk => trivial)) hbw.size
/-- num.Parse. -/
def num_Parse.f (k : Nat) (a0 : ByteArray) : Option (Bool × List Int × Int × Int) := numG k a0
theorem numG_cases {k : Nat} {s : ByteArray} {r1 : Bool} {r2 : List Int} {r3 r4 : Int} (h : numG k s = some (r1, r2, r3, r4)) : r4 = 0 ∨ (r1 = false ∧ r2 = [] ∧ r3 = 0 ∧ (r4 = 2 ∨ r4 = 4)) := by
  unfold numG at h
  split at h
  · simp only [Option.some.injEq, Prod.mk.injEq] at h
    obtain ⟨rfl, rfl, rfl, rfl⟩ := h
    exact .inr ⟨rfl, rfl, rfl, .inr rfl⟩
  · split at h
    · simp only [Option.some.injEq, Prod.mk.injEq] at h
      obtain ⟨rfl, rfl, rfl, rfl⟩ := h
      exact .inr ⟨rfl, rfl, rfl, .inl rfl⟩
    · unfold numK at h
      obtain ⟨r, A1, h⟩ := Option.bind_eq_some_iff.mp h
      obtain ⟨q, A2, h⟩ := Option.bind_eq_some_iff.mp h
      split at h
      · simp only [Option.some.injEq, Prod.mk.injEq] at h
        obtain ⟨rfl, rfl, rfl, rfl⟩ := h
        exact .inr ⟨rfl, rfl, rfl, .inr rfl⟩
      · simp only [Option.some.injEq, Prod.mk.injEq] at h
        exact .inl h.2.2.2.symm
theorem num_Parse.calls (k : Nat) (a0 : ByteArray) (r1 : Bool) (r2 : List Int) (r3 r4 : Int) (w : World) (hL : Laid w) (h : num_Parse.f k a0 = some (r1, r2, r3, r4)) :
    Calls Tryd.prog 10 #[.string a0] w fun e w' => ∃ v1_ : Value, e = .returned (.tuple #[.agg #[.bool r1, v1_, .int .i64 r3], .int .i64 r4]) ∧ Kd.R (Kd.int .u32) 40 w' w.heap.size (fun _ => True) v1_ r2 ∧ Below w.heap.size w w' := by
  rcases numG_cases h with rfl | ⟨rfl, rfl, rfl, hc⟩
  · exact parse_fine k a0 r1 r2 r3 w h
  · refine (parse_thrown k a0 r4 w hc h).mono ?_
    rintro e w' ⟨rfl, hb⟩
    exact ⟨_, rfl, Kd.R_nil _ _ _ _ _, hb⟩
end Go.Proofs.YtmkdcokdilllcaaDoor.X
/- What a text of a number says: the code's reading of it. -/
namespace Go.Proofs.YtmkdcokdilllcaaDoor.X
open Go.RowKit Go.Proofs.YtmkdcokdilllcaaDoorW.PrintWords Go.Proofs.YtmkdcokdilllcaaDoorW.PrintMore
set_option linter.unusedVariables false
set_option linter.unusedSimpArgs false
def pHas (t : List UInt8) : List UInt8 → Bool
  | [] => false
  | c :: _ => decide (c ∈ t)
def pSkip (t l : List UInt8) : List UInt8 := if pHas t l = true then l.tail else l
def dg (l : List UInt8) : List UInt8 := l.takeWhile isDig
def dr (l : List UInt8) : List UInt8 := l.drop (nDig l)
theorem dg_length (l : List UInt8) : (dg l).length = nDig l := rfl
/-- The end of a text. -/
def tailL (neg : Bool) (m : List UInt8) (n : Nat) (l : List UInt8) : Option (Bool × List UInt8 × Nat × Option (Bool × List UInt8)) :=
  if pHas [101, 69] l = true then
    if dg (if pHas [45] l.tail = true then l.tail.tail else pSkip [43] l.tail) = [] then none
    else if dr (if pHas [45] l.tail = true then l.tail.tail else pSkip [43] l.tail) = [] then some (neg, m, n, some (pHas [45] l.tail, dg (if pHas [45] l.tail = true then l.tail.tail else pSkip [43] l.tail)))
    else none
  else if l = [] then some (neg, m, n, none) else none
def leadL (l : List UInt8) : Bool := decide (l.length > 1) && (l.headD 0 == 48)
/-- What a text says. -/
def specL (l : List UInt8) : Option (Bool × List UInt8 × Nat × Option (Bool × List UInt8)) :=
  if dg (pSkip [45] l) = [] then none
  else if leadL (dg (pSkip [45] l)) = true then none
  else if pHas [46] (dr (pSkip [45] l)) = true then
    (if dg (dr (pSkip [45] l)).tail = [] then none
     else tailL (pHas [45] l) (dg (pSkip [45] l) ++ dg (dr (pSkip [45] l)).tail) (dg (dr (pSkip [45] l)).tail).length (dr (dr (pSkip [45] l)).tail))
  else tailL (pHas [45] l) (dg (pSkip [45] l)) 0 (dr (pSkip [45] l))
def dec (l : List UInt8) : Nat := (Lib.decFrom 0 l).getD 0
def expN (d : List UInt8) : Int := if (Lib.trimLeftB d 48).length ≤ 6 then ((dec (Lib.trimLeftB d 48) : Nat) : Int) else 1048576
def expL : Option (Bool × List UInt8) → Int
  | none => 0
  | some (less, d) => if less = true then -expN d else expN d
/-- What a text comes to. -/
def resS : Option (Bool × List UInt8 × Nat × Option (Bool × List UInt8)) → Bool × List Int × Int × Int
  | none => (false, [], 0, 2)
  | some (neg, m, n, ex) =>
    if (makeS neg (dec m) (expL ex - n)).2.2.2 = false ∨ (0 < (makeS neg (dec m) (expL ex - n)).2.1.length ∧ (expL ex = 1048576 ∨ expL ex = -1048576)) then (false, [], 0, 4)
    else ((makeS neg (dec m) (expL ex - n)).1, (makeS neg (dec m) (expL ex - n)).2.1, (makeS neg (dec m) (expL ex - n)).2.2.1, 0)
theorem b45 : (ByteArray.mk #[45]).data.toList = [45] := rfl
theorem b46 : (ByteArray.mk #[46]).data.toList = [46] := rfl
theorem bEe : (ByteArray.mk #[101, 69]).data.toList = [101, 69] := rfl
theorem hasF_list (t x : ByteArray) : hasF t x = pHas t.data.toList x.data.toList := by
  unfold hasF pHas
  rcases x.data.toList with _ | ⟨c, l⟩ <;> rfl
theorem extract_list (x : ByteArray) (i j : Nat) : (x.extract i j).data.toList = (x.data.toList.drop i).take (j - i) := by
  rw [ByteArray.data_extract, Array.toList_extract, List.extract]
theorem hasR_list (t x : ByteArray) : (hasR t x).data.toList = pSkip t.data.toList x.data.toList := by
  unfold hasR pSkip
  rw [hasF_list]
  split
  · rw [extract_list, List.take_of_length_le (by rw [List.length_drop, dlen]; exact Nat.le_refl _), List.drop_one]
  · rfl
theorem digF_list (x : ByteArray) : (digF x).data.toList = dg x.data.toList := digF_data x
theorem digR_list (x : ByteArray) : (digR x).data.toList = dr x.data.toList := by
  unfold digR dr
  rw [extract_list, List.take_of_length_le (by rw [List.length_drop, dlen]; exact Nat.le_refl _)]
theorem nDig_zero (l : List UInt8) : nDig l = 0 ↔ dg l = [] := by
  rw [← dg_length, List.length_eq_zero_iff]
theorem lead_list (x : ByteArray) : lead x = leadL x.data.toList := by
  unfold lead leadL
  rw [dlen]
theorem append_list (x y : ByteArray) : (x ++ y).data.toList = x.data.toList ++ y.data.toList := by
  rw [ByteArray.data_append, Array.toList_append]
theorem size_list (x : ByteArray) : x.size = 0 ↔ x.data.toList = [] := by
  rw [← dlen, List.length_eq_zero_iff]
/-- What the code reads, as lists. -/
def same (a : Option (Bool × ByteArray × Int × Int)) (b : Option (Bool × List UInt8 × Nat × Option (Bool × List UInt8))) : Prop :=
  match a, b with
  | none, none => True
  | some (neg, m, n, p), some (neg', m', n', ex) => neg = neg' ∧ m.data.toList = m' ∧ n = (n' : Int) ∧ p = expL ex
  | _, _ => False
theorem expS_list (x : ByteArray) (h : pHas [101, 69] x.data.toList = true) : (expS x).data.toList = if pHas [45] x.data.toList.tail = true then x.data.toList.tail.tail else pSkip [43] x.data.toList.tail := by
  have h1 : (hasR ⟨#[101, 69]⟩ x).data.toList = x.data.toList.tail := by
    rw [hasR_list, pSkip, if_pos h]
  unfold expS
  rw [hasF_list, h1]
  by_cases h2 : pHas [45] x.data.toList.tail = true
  · rw [if_pos h2, if_pos h2, hasR_list, h1, pSkip, if_pos h2]
  · rw [if_neg h2, if_neg h2, hasR_list, hasR_list, h1]
    rw [show pSkip [45] x.data.toList.tail = x.data.toList.tail from by rw [pSkip, if_neg h2]]
theorem expV_list (x : ByteArray) : expV x = expN (dg x.data.toList) := by
  unfold expV expN expD dec
  rw [digF_list]
theorem numE_same (neg : Bool) (m : ByteArray) (n : Nat) (x : ByteArray) : same (numE neg m (n : Int) x) (tailL neg m.data.toList n x.data.toList) := by
  unfold numE tailL expF
  rw [hasF_list]
  by_cases h : pHas [101, 69] x.data.toList = true
  · have hS := expS_list x h
    have h1 : (hasR ⟨#[101, 69]⟩ x).data.toList = x.data.toList.tail := by rw [hasR_list, pSkip, if_pos h]
    rw [hasF_list, h1, bEe, b45, ← hS]
    rw [if_pos h, if_pos h]
    have hR := digR_list (expS x)
    have hV := expV_list (expS x)
    generalize (expS x).data.toList = l at *
    generalize digR (expS x) = y at *
    generalize expV (expS x) = v at *
    clear hS
    by_cases hd : dg l = []
    · rw [if_pos ((nDig_zero _).2 hd), if_pos hd]
      trivial
    · rw [if_neg (fun h => hd ((nDig_zero _).1 h)), if_neg hd]
      simp only
      by_cases hy : y.size = 0
      · rw [if_pos hy, if_pos (show dr l = [] by rw [← hR]; exact (size_list _).1 hy)]
        refine ⟨rfl, rfl, rfl, ?_⟩
        rw [hV]
        rfl
      · rw [if_neg hy, if_neg (show ¬ dr l = [] by rw [← hR]; exact fun h => hy ((size_list _).2 h))]
        trivial
  · rw [if_neg h, if_neg h]
    simp only
    by_cases hy : x.size = 0
    · rw [if_pos hy, if_pos ((size_list _).1 hy)]
      exact ⟨rfl, rfl, rfl, rfl⟩
    · rw [if_neg hy, if_neg (fun h => hy ((size_list _).2 h))]
      trivial
theorem numP_same (s : ByteArray) : same (numP s) (specL s.data.toList) := by
  have h1 : (hasR ⟨#[45]⟩ s).data.toList = pSkip [45] s.data.toList := hasR_list _ _
  have h2 := digR_list (hasR ⟨#[45]⟩ s)
  have h3 := hasR_list ⟨#[46]⟩ (digR (hasR ⟨#[45]⟩ s))
  have hF := hasF_list ⟨#[45]⟩ s
  have hG := hasF_list ⟨#[46]⟩ (digR (hasR ⟨#[45]⟩ s))
  have hL := lead_list (digF (hasR ⟨#[45]⟩ s))
  have hD := digF_list (hasR ⟨#[45]⟩ s)
  unfold numP specL
  rw [hD] at hL
  rw [b46, h2] at h3 hG
  rw [b45] at hF
  rw [h1] at h2 h3 hG hL hD
  rw [hL, hF, hG, h1]
  generalize pSkip [45] s.data.toList = l at *
  generalize pHas [45] s.data.toList = neg at *
  generalize digF (hasR ⟨#[45]⟩ s) = w at *
  generalize digR (hasR ⟨#[45]⟩ s) = x at *
  generalize hasR ⟨#[46]⟩ x = y at *
  clear h1 hF hG hL
  by_cases c1 : dg l = []
  · rw [if_pos ((nDig_zero _).2 c1), if_pos c1]
    trivial
  · rw [if_neg (fun h => c1 ((nDig_zero _).1 h)), if_neg c1]
    by_cases c2 : leadL (dg l) = true
    · rw [if_pos c2, if_pos c2]
      trivial
    · rw [if_neg c2, if_neg c2]
      by_cases c3 : pHas [46] (dr l) = true
      · rw [if_pos c3, if_pos c3]
        rw [pSkip, if_pos c3] at h3
        have h4 := digF_list y
        have h5 := digR_list y
        have hE := numE_same neg (w ++ digF y) (digF y).size (digR y)
        rw [append_list, hD, h5] at hE
        rw [h4] at hE
        rw [h3] at hE ⊢
        rw [show (digF y).size = (dg (dr l).tail).length from by rw [← dlen, h4, h3]] at hE ⊢
        by_cases c4 : dg (dr l).tail = []
        · rw [if_pos ((nDig_zero _).2 c4), if_pos c4]
          trivial
        · rw [if_neg (fun h => c4 ((nDig_zero _).1 h)), if_neg c4]
          exact hE
      · rw [if_neg c3, if_neg c3]
        rw [pSkip, if_neg c3] at h3
        have hE := numE_same neg (w ++ ⟨#[]⟩) 0 y
        rw [append_list, hD, h3] at hE
        rw [show (ByteArray.mk #[]).data.toList = [] from rfl, List.append_nil] at hE
        exact hE
end Go.Proofs.YtmkdcokdilllcaaDoor.X
/- What the code says of a text. -/
namespace Go.Proofs.YtmkdcokdilllcaaDoor.X
open Go.RowKit Go.Proofs.YtmkdcokdilllcaaDoorW.PrintWords Go.Proofs.YtmkdcokdilllcaaDoorW.PrintMore
set_option linter.unusedVariables false
set_option linter.unusedSimpArgs false
theorem dg_mem {l : List UInt8} {c : UInt8} (h : c ∈ dg l) : isDig c = true := mem_takeWhile h
theorem dg_le (l : List UInt8) : (dg l).length ≤ l.length := nDig_le l
theorem dr_le (l : List UInt8) : (dg l).length + (dr l).length = l.length := by
  have := nDig_le l
  rw [dg_length, dr, List.length_drop]
  omega
theorem pSkip_le (t l : List UInt8) : (pSkip t l).length ≤ l.length := by
  unfold pSkip
  split
  · rw [List.length_tail]; omega
  · exact Nat.le_refl _
/-- What a reading holds. -/
def good (L : Nat) : Option (Bool × List UInt8 × Nat × Option (Bool × List UInt8)) → Prop
  | none => True
  | some (_, m, n, _) => m ≠ [] ∧ (∀ c ∈ m, isDig c = true) ∧ m.length ≤ L ∧ n ≤ L
theorem tailL_good (L : Nat) (neg : Bool) (m : List UInt8) (n : Nat) (l : List UInt8) (h1 : m ≠ []) (h2 : ∀ c ∈ m, isDig c = true) (h3 : m.length ≤ L) (h4 : n ≤ L) : good L (tailL neg m n l) := by
  unfold tailL
  generalize (if pHas [45] l.tail = true then l.tail.tail else pSkip [43] l.tail) = y
  split
  · split
    · trivial
    · split
      · exact ⟨h1, h2, h3, h4⟩
      · trivial
  · split
    · exact ⟨h1, h2, h3, h4⟩
    · trivial
theorem specL_good (l : List UInt8) : good l.length (specL l) := by
  unfold specL
  have h0 := pSkip_le [45] l
  generalize pSkip [45] l = x at *
  generalize pHas [45] l = neg at *
  have h1 := dr_le x
  by_cases c1 : dg x = []
  · rw [if_pos c1]; trivial
  · rw [if_neg c1]
    by_cases c2 : leadL (dg x) = true
    · rw [if_pos c2]; trivial
    · rw [if_neg c2]
      by_cases c3 : pHas [46] (dr x) = true
      · rw [if_pos c3]
        have h2 := dg_le (dr x).tail
        rw [List.length_tail] at h2
        by_cases c4 : dg (dr x).tail = []
        · rw [if_pos c4]; trivial
        · rw [if_neg c4]
          refine tailL_good _ _ _ _ _ ?_ ?_ ?_ ?_
          · intro h
            exact c1 (List.append_eq_nil_iff.1 h).1
          · intro c hc
            rcases List.mem_append.1 hc with h | h
            · exact dg_mem h
            · exact dg_mem h
          · rw [List.length_append]; omega
          · omega
      · rw [if_neg c3]
        exact tailL_good _ _ _ _ _ c1 (fun c hc => dg_mem hc) (by omega) (by omega)
theorem expN_bound (d : List UInt8) : 0 ≤ expN d ∧ expN d ≤ 1048576 := by
  unfold expN
  split
  · rename_i h
    refine ⟨Int.natCast_nonneg _, ?_⟩
    unfold dec
    rcases hn : Lib.decFrom 0 (Lib.trimLeftB d 48) with _ | n
    · simp
    · have h1 := decFrom_bound _ _ _ hn
      have h2 : 10 ^ (Lib.trimLeftB d 48).length ≤ 10 ^ 6 := Nat.pow_le_pow_right (by decide) h
      rw [Option.getD_some]
      omega
  · omega
theorem expL_bound (ex : Option (Bool × List UInt8)) : -1048576 ≤ expL ex ∧ expL ex ≤ 1048576 := by
  unfold expL
  rcases ex with _ | ⟨less, d⟩
  · simp
  · have := expN_bound d
    simp only
    split <;> omega
theorem dec_lt {m : List UInt8} (h : ∀ c ∈ m, isDig c = true) : Lib.decFrom 0 m = some (dec m) ∧ dec m < 10 ^ m.length := by
  obtain ⟨n, hn⟩ := decFrom_some m h 0
  have h1 := decFrom_bound _ _ _ hn
  rw [Nat.zero_add, Nat.one_mul] at h1
  unfold dec
  rw [hn]
  exact ⟨rfl, h1⟩
theorem dec_limbs {m : List UInt8} (h : ∀ c ∈ m, isDig c = true) : (lim (dec m)).length ≤ m.length :=
  lim_len_le (Nat.lt_of_lt_of_le (dec_lt h).2 (Nat.pow_le_pow_left (by decide) _))
theorem num_text (s : ByteArray) (hs : s.size ≤ 2000) : Ev (fun k => num_Parse.f k s) (resS (specL s.data.toList)) := by
  have hsame := numP_same s
  have hgood := specL_good s.data.toList
  rw [dlen] at hgood
  have hP : ∀ k, num_Parse.f k s = match numP s with
    | none => some (false, [], 0, 2)
    | some (neg, m, n, p) => numK k neg m n p := fun k => by
    unfold num_Parse.f numG
    rw [if_neg (by omega)]
    all_goals (rcases numP s with _ | ⟨neg, m, n, p⟩ <;> rfl)
  refine Ev.congr hP ?_
  generalize numP s = a at *
  generalize specL s.data.toList = b at *
  clear hP
  rcases a with _ | ⟨neg, m, n, p⟩
  · rcases b with _ | b
    · exact Ev.now _
    · exact hsame.elim
  · rcases b with _ | ⟨neg', m', n', ex⟩
    · exact hsame.elim
    · obtain ⟨rfl, rfl, rfl, rfl⟩ := hsame
      obtain ⟨g1, g2, g3, g4⟩ := hgood
      have hd := dec_lt g2
      have hl := dec_limbs g2
      have hx := expL_bound ex
      have hm := nat_parse m (by rw [dlen] at g3; omega) (fun h => g1 ((size_list m).1 h)) _ hd.1
      have hk := num_make (lim_ok (dec m.data.toList)) (by omega) neg (expL ex - n') (by omega) (by omega)
      rw [val_lim] at hk
      have hw : wrap64 (expL ex - (n' : Int)) = expL ex - n' := wrap64_ok (by omega) (by omega)
      refine Ev.congr (f := fun k => (nat_Parse.f k m).bind fun r => (num_Make.f k neg r.1 (expL ex - n')).bind fun q => if q.2.2.2 = false ∨ (0 < q.2.1.length ∧ (expL ex = 1048576 ∨ expL ex = -1048576)) then some (false, [], 0, 4) else some (q.1, q.2.1, q.2.2.1, 0)) (fun k => ?_) ?_
      · simp only [numK, hw]
      · refine Ev.bind hm (Ev.bind hk ?_)
        simp only [resS]
        exact Ev.congr (fun k => (apply_ite some _ _ _).symm) (Ev.now _)
end Go.Proofs.YtmkdcokdilllcaaDoor.X
/- Decimal digits as lists; what a text put together of digits says. -/
namespace Go.Proofs.YtmkdcokdilllcaaDoor.X
open Go.RowKit Go.Proofs.YtmkdcokdilllcaaDoorW.PrintWords Go.Proofs.YtmkdcokdilllcaaDoorW.PrintMore
set_option linter.unusedVariables false
set_option linter.unusedSimpArgs false
theorem decFrom_append (l m : List UInt8) (a : Nat) : Lib.decFrom a (l ++ m) = (Lib.decFrom a l).bind fun n => Lib.decFrom n m := by
  induction l generalizing a with
  | nil => rfl
  | cons b r ih =>
    simp only [List.cons_append, Lib.decFrom]
    rcases Lib.digitVal b with _ | d
    · rfl
    · exact ih _
theorem digitVal_ok {v : Nat} (h : v < 10) : Lib.digitVal (UInt8.ofNat (48 + v)) = some v := by
  have h1 : (UInt8.ofNat (48 + v)).toNat = 48 + v := by rw [UInt8.toNat_ofNat']; omega
  unfold Lib.digitVal
  rw [h1, if_pos (by omega)]
  congr 1
  omega
theorem isDig_ok {v : Nat} (h : v < 10) : isDig (UInt8.ofNat (48 + v)) = true := by
  have h1 : (UInt8.ofNat (48 + v)).toNat = 48 + v := by rw [UInt8.toNat_ofNat']; omega
  unfold isDig
  rw [h1]
  simp
  omega
theorem decFrom_digits (n : Nat) : ∀ a, Lib.decFrom a (Lib.decDigits n) = some (a * 10 ^ Lib.nDigits n + n) := by
  induction n using Nat.strongRecOn with
  | _ n ih =>
    intro a
    by_cases h : n < 10
    · rw [Lib.decDigits, dif_pos h, Lib.nDigits_small h]
      simp only [Lib.decFrom, digitVal_ok h, Nat.pow_one]
    · rw [Lib.decDigits, dif_neg h, decFrom_append, ih (n / 10) (by omega), Lib.nDigits_big h]
      simp only [Option.bind_some, Lib.decFrom, digitVal_ok (show n % 10 < 10 by omega), Nat.pow_succ, Nat.add_mul, Nat.mul_assoc]
      congr 1
      omega
theorem dec_digits (n : Nat) : dec (Lib.decDigits n) = n := by
  unfold dec
  rw [decFrom_digits]
  simp
theorem dig_digits (n : Nat) : ∀ c ∈ Lib.decDigits n, isDig c = true := by
  induction n using Nat.strongRecOn with
  | _ n ih =>
    intro c hc
    by_cases h : n < 10
    · rw [Lib.decDigits, dif_pos h] at hc
      rw [List.mem_singleton.1 hc]
      exact isDig_ok h
    · rw [Lib.decDigits, dif_neg h] at hc
      rcases List.mem_append.1 hc with hc | hc
      · exact ih (n / 10) (by omega) c hc
      · rw [List.mem_singleton.1 hc]
        exact isDig_ok (by omega)
theorem digits_ne (n : Nat) : Lib.decDigits n ≠ [] := by
  intro h
  have := Lib.decDigits_length n
  have := Lib.nDigits_pos n
  rw [h] at *
  simp at *
  omega
theorem digits_head (n : Nat) (h0 : n ≠ 0) : (Lib.decDigits n).headD 0 ≠ 48 := by
  induction n using Nat.strongRecOn with
  | _ n ih =>
    by_cases h : n < 10
    · rw [Lib.decDigits, dif_pos h]
      intro hc
      have h1 : (UInt8.ofNat (48 + n)).toNat = 48 + n := by rw [UInt8.toNat_ofNat']; omega
      simp only [List.headD_cons] at hc
      rw [hc] at h1
      have : (48 : UInt8).toNat = 48 := rfl
      omega
    · rw [Lib.decDigits, dif_neg h]
      have := ih (n / 10) (by omega) (by omega)
      have hn := digits_ne (n / 10)
      generalize Lib.decDigits (n / 10) = l at *
      rcases l with _ | ⟨a, l⟩
      · exact (hn rfl).elim
      · exact this
theorem digits_len_le {n k : Nat} (hk : 0 < k) (h : n < 10 ^ k) : (Lib.decDigits n).length ≤ k := by
  rw [Lib.decDigits_length]
  induction k generalizing n with
  | zero => omega
  | succ k ih =>
    by_cases hn : n < 10
    · rw [Lib.nDigits_small hn]; omega
    · rw [Lib.nDigits_big hn]
      rw [Nat.pow_succ] at h
      have : k ≠ 0 := by rintro rfl; simp at h; omega
      have := @ih (n / 10) (by omega) (by omega)
      omega
theorem digits_lim {l : List Int} (h : Ok l) (hl : 0 < l.length) : (Lib.decDigits (val l)).length ≤ 10 * l.length := by
  refine digits_len_le (by omega) (Nat.lt_of_lt_of_le (val_lt h) ?_)
  rw [Nat.pow_mul]
  exact Nat.pow_le_pow_left (by decide) _
theorem decFrom_zeros (k a : Nat) : Lib.decFrom a (List.replicate k 48) = some (a * 10 ^ k) := by
  induction k generalizing a with
  | zero => simp [Lib.decFrom]
  | succ k ih =>
    rw [List.replicate_succ, Lib.decFrom, show Lib.digitVal 48 = some 0 from rfl]
    simp only
    rw [ih, Nat.pow_succ, Nat.add_zero, Nat.mul_assoc, Nat.mul_comm (10 ^ k) 10]
theorem rep_zeros (k : Nat) : Lib.repeatL [48] k = List.replicate k 48 := by
  induction k with
  | zero => rfl
  | succ k ih => rw [Lib.repeatL, ih, List.replicate_succ]; rfl
theorem dig_zeros (k : Nat) : ∀ c ∈ List.replicate k (48 : UInt8), isDig c = true := fun c hc => by
  rw [(List.mem_replicate.1 hc).2]; rfl
/-- No digit ahead. -/
def stopD : List UInt8 → Prop
  | [] => True
  | c :: _ => isDig c = false
theorem dg_app {w r : List UInt8} (hw : ∀ c ∈ w, isDig c = true) (hr : stopD r) : dg (w ++ r) = w := by
  unfold dg
  rw [List.takeWhile_append_of_pos hw]
  rcases r with _ | ⟨c, r⟩
  · simp
  · rw [List.takeWhile_cons, if_neg (by rw [show isDig c = false from hr]; decide), List.append_nil]
theorem dr_app {w r : List UInt8} (hw : ∀ c ∈ w, isDig c = true) (hr : stopD r) : dr (w ++ r) = r := by
  unfold dr
  rw [← dg_length, dg_app hw hr, List.drop_left]
def sgn (neg : Bool) : List UInt8 := if neg = true then [45] else []
def frac : Option (List UInt8) → List UInt8
  | none => []
  | some f => 46 :: f
/-- An exponent: its letter, whether below 0, whether a plus stands ahead, its digits. -/
def expo : Option (UInt8 × Bool × Bool × List UInt8) → List UInt8
  | none => []
  | some (c, less, plus, d) => c :: ((if less = true then [45] else if plus = true then [43] else []) ++ d)
def expOk : Option (UInt8 × Bool × Bool × List UInt8) → Prop
  | none => True
  | some (c, _, _, d) => (c = 101 ∨ c = 69) ∧ d ≠ [] ∧ ∀ x ∈ d, isDig x = true
def expP : Option (UInt8 × Bool × Bool × List UInt8) → Option (Bool × List UInt8)
  | none => none
  | some (_, less, _, d) => some (less, d)
theorem pHas_dig {t w r : List UInt8} (hw : ∀ c ∈ w, isDig c = true) (h0 : w ≠ []) (ht : ∀ c ∈ t, isDig c = false) : pHas t (w ++ r) = false := by
  rcases w with _ | ⟨c, w⟩
  · exact (h0 rfl).elim
  · simp only [List.cons_append, pHas, decide_eq_false_iff_not]
    intro hc
    have h1 := hw c (by simp)
    rw [ht c hc] at h1
    cases h1
theorem d45 : ∀ c ∈ ([45] : List UInt8), isDig c = false := by decide
theorem d43 : ∀ c ∈ ([43] : List UInt8), isDig c = false := by decide
theorem tail_some (neg : Bool) (m : List UInt8) (n : Nat) (c : UInt8) (less plus : Bool) (d r : List UInt8) (hx : expOk (some (c, less, plus, d))) (hr : stopD r) :
    tailL neg m n (expo (some (c, less, plus, d)) ++ r) = if r = [] then some (neg, m, n, some (less, d)) else none := by
  obtain ⟨hc, h0, hd⟩ := hx
  have h1 : pHas [101, 69] (expo (some (c, less, plus, d)) ++ r) = true := by
    simp only [expo, List.cons_append, pHas]
    rcases hc with rfl | rfl <;> decide
  unfold tailL
  rw [if_pos h1]
  have ht : (expo (some (c, less, plus, d)) ++ r).tail = (if less = true then [45] else if plus = true then [43] else []) ++ (d ++ r) := by
    simp only [expo, List.cons_append, List.tail_cons, List.append_assoc]
  rw [ht]
  have h2 : pHas [45] ((if less = true then [45] else if plus = true then [43] else []) ++ (d ++ r)) = less := by
    cases less
    · cases plus
      · exact pHas_dig (w := d) (r := r) hd h0 d45
      · rfl
    · rfl
  rw [h2]
  have h3 : (if less = true then ((if less = true then [45] else if plus = true then [43] else []) ++ (d ++ r)).tail else pSkip [43] ((if less = true then [45] else if plus = true then [43] else []) ++ (d ++ r))) = d ++ r := by
    cases less
    · cases plus
      · simp only [Bool.false_eq_true, if_false, List.nil_append]
        unfold pSkip
        rw [pHas_dig hd h0 d43]
        rfl
      · rfl
    · rfl
  rw [h3, dg_app hd hr, dr_app hd hr, if_neg h0]
theorem stop_expo {x : Option (UInt8 × Bool × Bool × List UInt8)} {r : List UInt8} (hx : expOk x) (hr : stopD r) : stopD (expo x ++ r) := by
  rcases x with _ | ⟨c, less, plus, d⟩
  · exact hr
  · obtain ⟨hc, _⟩ := hx
    show isDig c = false
    rcases hc with rfl | rfl <;> rfl
/-- The beginning of a text of a number. -/
theorem spec_sign (neg : Bool) (w r : List UInt8) (hw : ∀ c ∈ w, isDig c = true) (h0 : w ≠ []) : pSkip [45] (sgn neg ++ (w ++ r)) = w ++ r ∧ pHas [45] (sgn neg ++ (w ++ r)) = neg := by
  cases neg
  · have := pHas_dig (r := r) hw h0 d45
    simp only [sgn, Bool.false_eq_true, if_false, List.nil_append, pSkip, this]
    exact ⟨trivial, trivial⟩
  · exact ⟨rfl, rfl⟩
theorem spec_whole (neg : Bool) (w r : List UInt8) (hw : ∀ c ∈ w, isDig c = true) (h0 : w ≠ []) (hl : leadL w = false) (hr : stopD r) (hp : pHas [46] r = false) :
    specL (sgn neg ++ (w ++ r)) = tailL neg w 0 r := by
  obtain ⟨h1, h2⟩ := spec_sign neg w r hw h0
  unfold specL
  rw [h1, h2, dg_app hw hr, dr_app hw hr, if_neg h0, hl, hp]
  rfl
theorem spec_frac (neg : Bool) (w f r : List UInt8) (hw : ∀ c ∈ w, isDig c = true) (h0 : w ≠ []) (hl : leadL w = false) (hf : ∀ c ∈ f, isDig c = true) (hr : stopD r) :
    specL (sgn neg ++ (w ++ (46 :: (f ++ r)))) = if f = [] then none else tailL neg (w ++ f) f.length r := by
  have hs : stopD (46 :: (f ++ r)) := rfl
  obtain ⟨h1, h2⟩ := spec_sign neg w (46 :: (f ++ r)) hw h0
  unfold specL
  rw [h1, h2, dg_app hw hs, dr_app hw hs, if_neg h0, hl]
  rw [if_neg (by decide), if_pos (show pHas [46] (46 :: (f ++ r)) = true from rfl), List.tail_cons, dg_app hf hr, dr_app hf hr]
end Go.Proofs.YtmkdcokdilllcaaDoor.X
/- The text of a number, as a list; what is read of it. -/
namespace Go.Proofs.YtmkdcokdilllcaaDoor.X
open Go.RowKit Go.Proofs.YtmkdcokdilllcaaDoorW.PrintWords Go.Proofs.YtmkdcokdilllcaaDoorW.PrintMore
set_option linter.unusedVariables false
set_option linter.unusedSimpArgs false
/-- A number that may be: sign, natural, power of ten. -/
structure GoodNum (neg : Bool) (n : Nat) (E : Int) : Prop where
  zero : n = 0 → neg = false ∧ E = 0
  ten : n ≠ 0 → n % 10 ≠ 0
  limbs : (lim n).length ≤ 90
  lo : -1200 ≤ E
  hi : E ≤ 1200
theorem tz_shift {n : Nat} (h : n % 10 ≠ 0) (j : Nat) : tz (n * 10 ^ j) = (n, j) := by
  induction j with
  | zero => rw [Nat.pow_zero, Nat.mul_one, tz_self h]
  | succ j ih =>
    have hp : 0 < 10 ^ j := Nat.pow_pos (by decide)
    have h0 : n * 10 ^ j ≠ 0 := Nat.mul_ne_zero (by omega) (by omega)
    have e : n * 10 ^ (j + 1) = n * 10 ^ j * 10 := by rw [Nat.pow_succ, Nat.mul_assoc]
    rw [e, tz_ten (by omega) (by omega), show n * 10 ^ j * 10 / 10 = n * 10 ^ j by omega, ih]
theorem make_good {neg : Bool} {n : Nat} {E : Int} (h : GoodNum neg n E) (h0 : n ≠ 0) (j : Nat) : makeS neg (n * 10 ^ j) (E - j) = (neg, lim n, E, true) := by
  have h1 := h.limbs
  have h2 := h.lo
  have h3 := h.hi
  unfold makeS
  rw [tz_shift (h.ten h0)]
  simp only
  rw [if_neg h0, if_neg (by omega), if_neg (by omega), if_neg (by omega), show E - (j : Int) + (j : Int) = E by omega]
theorem make_zero (neg : Bool) (e : Int) : makeS neg 0 e = (false, [], 0, true) := by
  unfold makeS
  rw [tz_zero, if_pos rfl]
theorem res_good {neg : Bool} {n : Nat} {E : Int} (h : GoodNum neg n E) (m : List UInt8) (k : Nat) (ex : Option (Bool × List UInt8)) (j : Nat) (hm : dec m = n * 10 ^ j)
    (he : n ≠ 0 → expL ex - k = E - j) (hx : -1048576 < expL ex ∧ expL ex < 1048576) : resS (some (neg, m, k, ex)) = (neg, lim n, E, 0) := by
  simp only [resS]
  by_cases h0 : n = 0
  · obtain ⟨rfl, rfl⟩ := h.zero h0
    subst h0
    rw [hm, Nat.zero_mul, make_zero, lim_zero]
    rfl
  · rw [hm, he h0, make_good h h0]
    rw [if_neg]
    rintro (h | ⟨_, h⟩)
    · cases h
    · omega
theorem expN_digits {k : Nat} (hk : k < 1000000) : expN (Lib.decDigits k) = k := by
  unfold expN
  by_cases h0 : k = 0
  · subst h0
    decide +kernel
  · have h1 := digits_head k h0
    have h2 := dec_digits k
    have h3 := digits_len_le (k := 6) (by decide) (show k < 10 ^ 6 from hk)
    have h4 : Lib.trimLeftB (Lib.decDigits k) 48 = Lib.decDigits k := by
      generalize Lib.decDigits k = l at *
      rcases l with _ | ⟨c, l⟩
      · rfl
      · unfold Lib.trimLeftB
        rw [List.dropWhile_cons, if_neg]
        intro hc
        exact h1 (by simpa using hc)
    rw [h4, if_pos h3, h2]
/-- The parts of a text of a number. -/
structure Parts (neg : Bool) (n : Nat) (E : Int) (w : List UInt8) (f : Option (List UInt8)) (x : Option (UInt8 × Bool × Bool × List UInt8)) : Prop where
  dig : ∀ c ∈ w, isDig c = true
  ne : w ≠ []
  lead : leadL w = false
  fdig : ∀ c ∈ f.getD [], isDig c = true
  fne : f ≠ some []
  xok : expOk x
  val : ∃ j : Nat, dec (w ++ f.getD []) = n * 10 ^ j ∧ (n ≠ 0 → expL (expP x) - (f.getD []).length = E - j)
  ex : -1048576 < expL (expP x) ∧ expL (expP x) < 1048576
def partsL (neg : Bool) (w : List UInt8) (f : Option (List UInt8)) (x : Option (UInt8 × Bool × Bool × List UInt8)) (r : List UInt8) : List UInt8 := sgn neg ++ (w ++ (frac f ++ (expo x ++ r)))
theorem no46 {x : Option (UInt8 × Bool × Bool × List UInt8)} (hx : expOk x) {r : List UInt8} (hr : pHas [46] r = false) : pHas [46] (expo x ++ r) = false := by
  rcases x with _ | ⟨c, less, plus, d⟩
  · exact hr
  · obtain ⟨hc, _⟩ := hx
    rcases hc with rfl | rfl <;> rfl
theorem parts_spec {neg : Bool} {n : Nat} {E : Int} {w : List UInt8} {f : Option (List UInt8)} {x : Option (UInt8 × Bool × Bool × List UInt8)} (h : Parts neg n E w f x) :
    specL (partsL neg w f x []) = some (neg, w ++ f.getD [], (f.getD []).length, expP x) := by
  have hs := stop_expo (r := []) h.xok trivial
  have ht : ∀ (m : List UInt8) (k : Nat), tailL neg m k (expo x ++ []) = some (neg, m, k, expP x) := by
    intro m k
    rcases x with _ | ⟨c, less, plus, d⟩
    · rfl
    · rw [tail_some _ _ _ _ _ _ _ [] h.xok trivial, if_pos rfl]; rfl
  unfold partsL
  rcases f with _ | f
  · rw [show frac none ++ (expo x ++ []) = expo x ++ [] from rfl, spec_whole neg w _ h.dig h.ne h.lead hs (no46 h.xok rfl), ht]
    simp
  · rw [show frac (some f) ++ (expo x ++ []) = 46 :: (f ++ (expo x ++ [])) from rfl, spec_frac neg w f _ h.dig h.ne h.lead h.fdig hs, if_neg (fun e => h.fne (by rw [e])), ht]
    rfl
theorem parts_res {neg : Bool} {n : Nat} {E : Int} {w : List UInt8} {f : Option (List UInt8)} {x : Option (UInt8 × Bool × Bool × List UInt8)} (hg : GoodNum neg n E) (h : Parts neg n E w f x) :
    resS (specL (partsL neg w f x [])) = (neg, lim n, E, 0) := by
  obtain ⟨j, h1, h2⟩ := h.val
  rw [parts_spec h]
  exact res_good hg _ _ _ j h1 h2 h.ex
/-- The digits behind the first p. -/
theorem lead_take {l : List UInt8} (h : l.headD 0 ≠ 48) (k : Nat) : leadL (l.take k) = false := by
  unfold leadL
  rcases l with _ | ⟨c, l⟩
  · simp
  · rcases k with _ | k
    · rfl
    · have hc : (c == 48) = false := by simpa using h
      simp only [List.take_succ_cons, List.headD_cons, hc, Bool.and_false]
theorem lead_app {l m : List UInt8} (h : l.headD 0 ≠ 48) (h0 : l ≠ []) : leadL (l ++ m) = false := by
  unfold leadL
  rcases l with _ | ⟨c, l⟩
  · exact (h0 rfl).elim
  · have hc : (c == 48) = false := by simpa using h
    simp only [List.cons_append, List.headD_cons, hc, Bool.and_false]
theorem dec_shift (l : List UInt8) (n : Nat) (h : Lib.decFrom 0 l = some n) (k : Nat) : dec (l ++ List.replicate k 48) = n * 10 ^ k := by
  unfold dec
  rw [decFrom_append, h, Option.bind_some, decFrom_zeros]
  rfl
theorem dec_behind (l : List UInt8) (k : Nat) : dec (List.replicate k 48 ++ l) = dec l := by
  unfold dec
  rw [decFrom_append, decFrom_zeros, Option.bind_some, Nat.zero_mul]
/-- A number's text. -/
def textS (neg : Bool) (n : Nat) (E : Int) : List UInt8 :=
  if 0 ≤ E ∧ ((Lib.decDigits n).length : Int) + E ≤ 21 then partsL neg (Lib.decDigits n ++ List.replicate E.toNat 48) none none []
  else if E < 0 ∧ 1 ≤ ((Lib.decDigits n).length : Int) + E ∧ ((Lib.decDigits n).length : Int) + E ≤ 21 then
    partsL neg ((Lib.decDigits n).take (((Lib.decDigits n).length : Int) + E).toNat) (some ((Lib.decDigits n).drop (((Lib.decDigits n).length : Int) + E).toNat)) none []
  else if -5 ≤ ((Lib.decDigits n).length : Int) + E ∧ ((Lib.decDigits n).length : Int) + E ≤ 0 then
    partsL neg [48] (some (List.replicate (-(((Lib.decDigits n).length : Int) + E)).toNat 48 ++ Lib.decDigits n)) none []
  else partsL neg ((Lib.decDigits n).take 1) (if 1 < (Lib.decDigits n).length then some ((Lib.decDigits n).drop 1) else none)
    (some (101, decide (((Lib.decDigits n).length : Int) + E ≤ 0), true, Lib.decDigits (if 0 < ((Lib.decDigits n).length : Int) + E then (((Lib.decDigits n).length : Int) + E - 1).toNat else (1 - (((Lib.decDigits n).length : Int) + E)).toNat))) []
theorem text_parts {neg : Bool} {n : Nat} {E : Int} (hg : GoodNum neg n E) (hd : (Lib.decDigits n).length ≤ 900) :
    ∃ w f x, Parts neg n E w f x ∧ textS neg n E = partsL neg w f x [] := by
  have h0 := digits_ne n
  have h1 := dig_digits n
  have h2 := decFrom_digits n 0
  rw [Nat.zero_mul, Nat.zero_add] at h2
  have h3 : n ≠ 0 → (Lib.decDigits n).headD 0 ≠ 48 := digits_head n
  have hz : n = 0 → Lib.decDigits n = [48] := by rintro rfl; decide +kernel
  have h4 := dec_digits n
  have h5 : 0 < (Lib.decDigits n).length := List.length_pos_iff.2 h0
  have h6 := hg.lo
  have h7 := hg.hi
  unfold textS
  generalize Lib.decDigits n = d at *
  have htd : ∀ k, d.take k ++ d.drop k = d := fun k => List.take_append_drop k d
  split
  · rename_i hc
    refine ⟨_, _, _, ?_, rfl⟩
    refine ⟨fun c hc => ?_, ?_, ?_, fun c hc => by simp at hc, by simp, trivial, ⟨E.toNat, ?_, fun hn => ?_⟩, by decide⟩
    · rcases List.mem_append.1 hc with hc | hc
      · exact h1 c hc
      · exact dig_zeros _ c hc
    · intro h
      exact h0 (List.append_eq_nil_iff.1 h).1
    · by_cases hn : n = 0
      · rw [hz hn, (hg.zero hn).2]
        rfl
      · exact lead_app (h3 hn) h0
    · rw [Option.getD_none, List.append_nil]
      exact dec_shift d n h2 _
    · simp only [expP, expL, Option.getD_none, List.length_nil]
      omega
  · rename_i hc
    have hn : n ≠ 0 := by
      intro hn
      refine hc ⟨by rw [(hg.zero hn).2]; decide, ?_⟩
      rw [(hg.zero hn).2, hz hn]
      decide
    have hh := h3 hn
    split
    · rename_i hc2
      refine ⟨_, _, _, ?_, rfl⟩
      refine ⟨fun c hc => h1 c (List.mem_of_mem_take hc), ?_, lead_take hh _, fun c hc => h1 c (List.mem_of_mem_drop hc), ?_, trivial, ⟨0, ?_, fun _ => ?_⟩, by decide⟩
      · intro h
        have := congrArg List.length h
        rw [List.length_take, List.length_nil] at this
        omega
      · intro h
        have := congrArg List.length (Option.some.inj h)
        rw [List.length_drop, List.length_nil] at this
        omega
      · rw [Option.getD_some, htd, h4]
        simp
      · simp only [expP, expL, Option.getD_some, List.length_drop]
        omega
    · split
      · refine ⟨_, _, _, ?_, rfl⟩
        refine ⟨by decide, by decide, by decide, fun c hc => ?_, ?_, trivial, ⟨0, ?_, fun _ => ?_⟩, by decide⟩
        · rcases List.mem_append.1 hc with hc | hc
          · exact dig_zeros _ c hc
          · exact h1 c hc
        · intro h
          exact h0 (List.append_eq_nil_iff.1 (Option.some.inj h)).2
        · rw [Option.getD_some, ← List.append_assoc, show ([48] : List UInt8) = List.replicate 1 48 from rfl, List.replicate_append_replicate, dec_behind, h4]
          simp
        · simp only [expP, expL, Option.getD_some, List.length_append, List.length_replicate]
          omega
      · rename_i hc3
        have hk : (if 0 < (d.length : Int) + E then ((d.length : Int) + E - 1).toNat else (1 - ((d.length : Int) + E)).toNat) < 1000000 := by split <;> omega
        have hxe : expL (expP (some (101, decide ((d.length : Int) + E ≤ 0), true, Lib.decDigits (if 0 < (d.length : Int) + E then ((d.length : Int) + E - 1).toNat else (1 - ((d.length : Int) + E)).toNat)))) = (d.length : Int) + E - 1 := by
          simp only [expP, expL, decide_eq_true_eq]
          rw [expN_digits hk]
          split <;> split <;> omega
        refine ⟨_, _, _, ?_, rfl⟩
        refine ⟨fun c hc => h1 c (List.mem_of_mem_take hc), ?_, lead_take hh _, fun c hc => ?_, ?_, ⟨Or.inl rfl, digits_ne _, dig_digits _⟩, ⟨0, ?_, fun _ => ?_⟩, ?_⟩
        · intro h
          have := congrArg List.length h
          rw [List.length_take, List.length_nil] at this
          omega
        · split at hc
          · exact h1 c (List.mem_of_mem_drop hc)
          · simp at hc
        · split
          · intro h
            have := congrArg List.length (Option.some.inj h)
            rw [List.length_drop, List.length_nil] at this
            omega
          · simp
        · split
          · rw [Option.getD_some, htd, h4]
            simp
          · rw [Option.getD_none, List.append_nil, List.take_of_length_le (by omega), h4]
            simp
        · rw [hxe]
          split
          · rw [Option.getD_some, List.length_drop]
            omega
          · rw [Option.getD_none, List.length_nil]
            omega
        · rw [hxe]
          omega
theorem partsL_len (neg : Bool) (w : List UInt8) (f : Option (List UInt8)) (x : Option (UInt8 × Bool × Bool × List UInt8)) (r : List UInt8) :
    (partsL neg w f x r).length ≤ w.length + (f.getD []).length + (match x with | none => 0 | some (_, _, _, d) => d.length) + r.length + 4 := by
  have h1 : (sgn neg).length ≤ 1 := by cases neg <;> decide
  have h2 : (frac f).length ≤ (f.getD []).length + 1 := by cases f <;> simp [frac]
  unfold partsL
  rcases x with _ | ⟨c, less, plus, d⟩
  · simp only [List.length_append, expo, List.length_nil]
    omega
  · have h3 : (if less = true then [45] else if plus = true then [43] else [] : List UInt8).length ≤ 1 := by cases less <;> cases plus <;> decide
    simp only [List.length_append, expo, List.length_cons]
    omega
theorem text_len {neg : Bool} {n : Nat} {E : Int} (hg : GoodNum neg n E) (hd : (Lib.decDigits n).length ≤ 900) : (textS neg n E).length ≤ 940 := by
  have h6 := hg.lo
  have h7 := hg.hi
  have hk : ∀ k : Nat, k < 1000000 → (Lib.decDigits k).length ≤ 6 := fun k h => digits_len_le (by decide) h
  unfold textS
  generalize hl : Lib.decDigits n = d at *
  clear hl
  split
  · have := partsL_len neg (d ++ List.replicate E.toNat 48) none none []
    simp only [List.length_append, List.length_replicate, Option.getD_none, List.length_nil] at this
    omega
  · split
    · have := partsL_len neg (d.take ((d.length : Int) + E).toNat) (some (d.drop ((d.length : Int) + E).toNat)) none []
      simp only [List.length_take, List.length_drop, Option.getD_some, List.length_nil] at this
      omega
    · split
      · have := partsL_len neg [48] (some (List.replicate (-((d.length : Int) + E)).toNat 48 ++ d)) none []
        simp only [List.length_append, List.length_replicate, Option.getD_some, List.length_nil, List.length_cons] at this
        omega
      · refine Nat.le_trans (partsL_len _ _ _ _ _) ?_
        have h1 := hk (if 0 < (d.length : Int) + E then ((d.length : Int) + E - 1).toNat else (1 - ((d.length : Int) + E)).toNat) (by split <;> omega)
        have h2 : ((if 1 < d.length then some (d.drop 1) else none).getD []).length ≤ 899 := by
          split
          · rw [Option.getD_some, List.length_drop]; omega
          · simp
        simp only [List.length_take, List.length_nil]
        omega
/-- THE TEXT OF A NUMBER IS READ AS IT. -/
theorem text_back {neg : Bool} {n : Nat} {E : Int} (hg : GoodNum neg n E) (hd : (Lib.decDigits n).length ≤ 900) : resS (specL (textS neg n E)) = (neg, lim n, E, 0) := by
  obtain ⟨w, f, x, hp, he⟩ := text_parts hg hd
  rw [he]
  exact parts_res hg hp
end Go.Proofs.YtmkdcokdilllcaaDoor.X
-- A walk, written by a program of this session (xp.py).
namespace Go.Proofs.YtmkdcokdilllcaaDoor.X
open Go.RowKit Go.Proofs.YtmkdcokdilllcaaDoorW.PrintWords Go.Proofs.YtmkdcokdilllcaaDoorW.PrintLast Go.Proofs.YtmkdcokdilllcaaDoorW.PrintMore
attribute [local go_sem] max2_int min2_int max_two min_two max_three min_three max_four min_four
set_option linter.unusedVariables false
set_option linter.unusedSimpArgs false

/-! ### num_Check: function 19 -/
def num_Check.f (k : Nat) (a0_0 : Bool) (l0_1 : List Int) (a0_2 : Int) : Option (Bool) := if (l0_1.length : Int) = 0 then (if a0_0 = true then (some false) else (some (a0_2 == 0))) else (if (l0_1.length : Int) > 90 then (some false) else (if 0 ≤ (wrap64 ((l0_1.length : Int) - 1)) then (if (wrap64 ((l0_1.length : Int) - 1)) < (l0_1.length : Int) then (if (rd l0_1 (wrap64 ((l0_1.length : Int) - 1))) = 0 then (some false) else (if a0_2 < (-1200) then (some false) else (if a0_2 > 1200 then (some false) else ((nat_Trim.f k l0_1).bind fun bt191 => (some (bt191.2 == 0)))))) else (none)) else (none)))
set_option maxHeartbeats 8000000 in
set_option maxRecDepth 100000 in
theorem num_Check.calls (k : Nat) (a0_0 : Bool) (A0_1 : Option Addr) (c0_1 : Nat) (l0_1 : List Int) (a0_2 : Int) (r : Bool) (w : World) (hr0_1 : Kd.C (Kd.int .u32) w A0_1 l0_1.length l0_1) (hc0_1 : l0_1.length ≤ c0_1) (h : num_Check.f k a0_0 l0_1 a0_2 = some r) :
    Calls Tryd.prog 19 #[.agg #[.bool a0_0, .slice A0_1 l0_1.length c0_1, .int .i64 a0_2]] w fun e w' => e = .returned (.bool r) ∧ Below w.heap.size w w' := by
  have hu25 := Tryd.underlying25
  have HR0_1 := Aside0.mk hr0_1
  have HC0_1 := Aside0.mk hc0_1
  clear hr0_1 hc0_1
  have HB := Aside0.mk (Below.refl w.heap.size w)
  have H : (if (l0_1.length : Int) = 0 then (if a0_0 = true then (some false) else (some (a0_2 == 0))) else (if (l0_1.length : Int) > 90 then (some false) else (if 0 ≤ (wrap64 ((l0_1.length : Int) - 1)) then (if (wrap64 ((l0_1.length : Int) - 1)) < (l0_1.length : Int) then (if (rd l0_1 (wrap64 ((l0_1.length : Int) - 1))) = 0 then (some false) else (if a0_2 < (-1200) then (some false) else (if a0_2 > 1200 then (some false) else ((nat_Trim.f k l0_1).bind fun bt191 => (some (bt191.2 == 0)))))) else (none)) else (none)))) = some r := h
  clear h
  by_cases c2 : (l0_1.length : Int) = 0
  · rw [if_pos c2] at H
    have c2b0 : ((l0_1.length : Int) == 0) = true := beq_iff_eq.mpr c2
    have c2b1 : ((l0_1.length : Int) != 0) = false := bne_eq_false_iff_eq.mpr c2
    clear c2
    by_cases c3 : a0_0 = true
    · subst c3
      have H1 : (some false) = some r := by rw [if_pos rfl] at H; exact H
      clear H
      have H := H1
      clear H1
      obtain rfl := Option.some.inj H
      go_enter Tryd.func19, Tryd.ntmps19
      go_wp2_with (first | ((with_reducible refine gate_dst (N := 1) rfl ?_); refine box_event ?hg (N := 1) ?hd (cs := #[.bool true, .slice A0_1 l0_1.length c0_1, .int .i64 a0_2]) (t := 25) ?hr ?_; (case hd => rfl); (case hg => rfl); (case hr => first | (go_simp; done) | (go_simp; rfl) | (go_simp; simp only [x_u32u8, x_u8, x_u32, x_u64, x_mm]; first | done | rfl)); intro gb189 hg w4 hbox hb; have n0_ := Aside0.mk (below_step (by repeat (first | (with_reducible first | exact HB.out | apply below_alloc | apply pw_below_drewN | apply below_drew1) | exact HB.out)) hb); have n1_ := Aside0.mk (hbox); have n2_ := Aside0.mk ((by rw [hg]; exact (below_size (by repeat (first | (with_reducible first | exact HB.out | apply below_alloc | apply pw_below_drewN | apply below_drew1) | exact HB.out))) : w.heap.size ≤ gb189)); have n3_ := Aside0.mk ((by rw [hg]; exact (below_size (by repeat (first | (with_reducible first | exact HB.out | apply below_alloc | apply pw_below_drewN | apply below_drew1) | exact HB.out))) : w.heap.size ≤ gb189)); clear HB; have HB := n0_; have BK189 := n1_; have GW189 := n2_; have GE189 := n3_; clear n0_ n1_ n2_ n3_; clear hb hbox hg; have hcz5_0 : w4.cell? ⟨gb189, 0, none⟩ = some (.bool true) := (blk_cell BK189.out 0).trans rfl; have hcz5_1 : w4.cell? ⟨gb189, 1, none⟩ = some (.slice A0_1 l0_1.length c0_1) := (blk_cell BK189.out 1).trans rfl; have hcz5_2 : w4.cell? ⟨gb189, 2, none⟩ = some (.int .i64 a0_2) := (blk_cell BK189.out 2).trans rfl; have hfz5_0 := blk_frozen BK189.out 0; have hfz5_1 := blk_frozen BK189.out 1; have hfz5_2 := blk_frozen BK189.out 2))
      go_ret
      exact ⟨by first | rfl | (simp [errW_none, errW_some] <;> rfl) | (simp [*, errW_none, errW_some] <;> rfl), by repeat (first | (with_reducible first | exact HB.out | apply below_alloc | apply pw_below_drewN | apply below_drew1 | refine below_set ?_ GE189.out) | exact HB.out)⟩
    · replace c3 := Bool.eq_false_iff.mpr c3
      subst c3
      have H1 : (some (a0_2 == 0)) = some r := by rw [if_neg (show ¬ (false = true) by decide)] at H; exact H
      clear H
      have H := H1
      clear H1
      obtain rfl := Option.some.inj H
      go_enter Tryd.func19, Tryd.ntmps19
      go_wp2_with (first | ((with_reducible refine gate_dst (N := 1) rfl ?_); refine box_event ?hg (N := 1) ?hd (cs := #[.bool false, .slice A0_1 l0_1.length c0_1, .int .i64 a0_2]) (t := 25) ?hr ?_; (case hd => rfl); (case hg => rfl); (case hr => first | (go_simp; done) | (go_simp; rfl) | (go_simp; simp only [x_u32u8, x_u8, x_u32, x_u64, x_mm]; first | done | rfl)); intro gb189 hg w6 hbox hb; have n0_ := Aside0.mk (below_step (by repeat (first | (with_reducible first | exact HB.out | apply below_alloc | apply pw_below_drewN | apply below_drew1) | exact HB.out)) hb); have n1_ := Aside0.mk (hbox); have n2_ := Aside0.mk ((by rw [hg]; exact (below_size (by repeat (first | (with_reducible first | exact HB.out | apply below_alloc | apply pw_below_drewN | apply below_drew1) | exact HB.out))) : w.heap.size ≤ gb189)); have n3_ := Aside0.mk ((by rw [hg]; exact (below_size (by repeat (first | (with_reducible first | exact HB.out | apply below_alloc | apply pw_below_drewN | apply below_drew1) | exact HB.out))) : w.heap.size ≤ gb189)); clear HB; have HB := n0_; have BK189 := n1_; have GW189 := n2_; have GE189 := n3_; clear n0_ n1_ n2_ n3_; clear hb hbox hg; have hcz7_0 : w6.cell? ⟨gb189, 0, none⟩ = some (.bool false) := (blk_cell BK189.out 0).trans rfl; have hcz7_1 : w6.cell? ⟨gb189, 1, none⟩ = some (.slice A0_1 l0_1.length c0_1) := (blk_cell BK189.out 1).trans rfl; have hcz7_2 : w6.cell? ⟨gb189, 2, none⟩ = some (.int .i64 a0_2) := (blk_cell BK189.out 2).trans rfl; have hfz7_0 := blk_frozen BK189.out 0; have hfz7_1 := blk_frozen BK189.out 1; have hfz7_2 := blk_frozen BK189.out 2))
      go_ret
      exact ⟨by first | rfl | (simp [errW_none, errW_some] <;> rfl) | (simp [*, errW_none, errW_some] <;> rfl), by repeat (first | (with_reducible first | exact HB.out | apply below_alloc | apply pw_below_drewN | apply below_drew1 | refine below_set ?_ GE189.out) | exact HB.out)⟩
  · rw [if_neg c2] at H
    have c2b0 : ((l0_1.length : Int) == 0) = false := beq_eq_false_iff_ne.mpr c2
    have c2b1 : ((l0_1.length : Int) != 0) = true := bne_iff_ne.mpr c2
    have c2b2 : ¬ (l0_1 = []) := fun h_ => c2 (by rw [h_]; rfl)
    by_cases c8 : (l0_1.length : Int) > 90
    · rw [if_pos c8] at H
      have c8b0 : decide (90 < (l0_1.length : Int)) = true := decide_eq_true c8
      have c8b1 : decide (90 < l0_1.length) = true := decide_eq_true (by omega)
      clear c8
      obtain rfl := Option.some.inj H
      go_enter Tryd.func19, Tryd.ntmps19
      go_wp2_with (first | ((with_reducible refine gate_dst (N := 1) rfl ?_); refine box_event ?hg (N := 1) ?hd (cs := #[.bool a0_0, .slice A0_1 l0_1.length c0_1, .int .i64 a0_2]) (t := 25) ?hr ?_; (case hd => rfl); (case hg => rfl); (case hr => first | (go_simp; done) | (go_simp; rfl) | (go_simp; simp only [x_u32u8, x_u8, x_u32, x_u64, x_mm]; first | done | rfl)); intro gb189 hg w9 hbox hb; have n0_ := Aside0.mk (below_step (by repeat (first | (with_reducible first | exact HB.out | apply below_alloc | apply pw_below_drewN | apply below_drew1) | exact HB.out)) hb); have n1_ := Aside0.mk (hbox); have n2_ := Aside0.mk ((by rw [hg]; exact (below_size (by repeat (first | (with_reducible first | exact HB.out | apply below_alloc | apply pw_below_drewN | apply below_drew1) | exact HB.out))) : w.heap.size ≤ gb189)); have n3_ := Aside0.mk ((by rw [hg]; exact (below_size (by repeat (first | (with_reducible first | exact HB.out | apply below_alloc | apply pw_below_drewN | apply below_drew1) | exact HB.out))) : w.heap.size ≤ gb189)); clear HB; have HB := n0_; have BK189 := n1_; have GW189 := n2_; have GE189 := n3_; clear n0_ n1_ n2_ n3_; clear hb hbox hg; have hcz10_0 : w9.cell? ⟨gb189, 0, none⟩ = some (.bool a0_0) := (blk_cell BK189.out 0).trans rfl; have hcz10_1 : w9.cell? ⟨gb189, 1, none⟩ = some (.slice A0_1 l0_1.length c0_1) := (blk_cell BK189.out 1).trans rfl; have hcz10_2 : w9.cell? ⟨gb189, 2, none⟩ = some (.int .i64 a0_2) := (blk_cell BK189.out 2).trans rfl; have hfz10_0 := blk_frozen BK189.out 0; have hfz10_1 := blk_frozen BK189.out 1; have hfz10_2 := blk_frozen BK189.out 2))
      go_ret
      exact ⟨by first | rfl | (simp [errW_none, errW_some] <;> rfl) | (simp [*, errW_none, errW_some] <;> rfl), by repeat (first | (with_reducible first | exact HB.out | apply below_alloc | apply pw_below_drewN | apply below_drew1 | refine below_set ?_ GE189.out) | exact HB.out)⟩
    · rw [if_neg c8] at H
      have c8b0 : decide (90 < (l0_1.length : Int)) = false := decide_eq_false c8
      have c8b1 : decide (90 < l0_1.length) = false := decide_eq_false (by omega)
      clear c8
      obtain ⟨ji11, hji11⟩ : ∃ j_ : Int, (wrap64 ((l0_1.length : Int) - 1)) = j_ := ⟨_, rfl⟩
      replace H : (if 0 ≤ (ji11) then (if (ji11) < (l0_1.length : Int) then (if (rd l0_1 (ji11)) = 0 then (some false) else (if a0_2 < (-1200) then (some false) else (if a0_2 > 1200 then (some false) else ((nat_Trim.f k l0_1).bind fun bt191 => (some (bt191.2 == 0)))))) else (none)) else (none)) = some r := by first | (rw [hji11] at H; exact H) | (simp only [hji11] at H ⊢; exact H)
      have hji11w : (IntKind.i64.wrap ((l0_1.length : Int) - 1)) = ji11 := (i64_w _).trans hji11
      by_cases c12 : 0 ≤ (ji11)
      · rw [if_pos c12] at H
        have c12b0 : decide (0 ≤ (ji11)) = true := decide_eq_true c12
        clear c12
        by_cases c13 : (ji11) < (l0_1.length : Int)
        · rw [if_pos c13] at H
          have c13b0 : decide ((ji11) < (l0_1.length : Int)) = true := decide_eq_true c13
          clear c13
          by_cases c14 : (rd l0_1 (ji11)) = 0
          · rw [if_pos c14] at H
            have c14b0 : ((rd l0_1 (ji11)) == 0) = true := beq_iff_eq.mpr c14
            have c14b1 : ((rd l0_1 (ji11)) != 0) = false := bne_eq_false_iff_eq.mpr c14
            clear c14
            obtain rfl := Option.some.inj H
            go_enter Tryd.func19, Tryd.ntmps19
            go_wp2_with (first | ((with_reducible refine gate_dst (N := 1) rfl ?_); refine box_event ?hg (N := 1) ?hd (cs := #[.bool a0_0, .slice A0_1 l0_1.length c0_1, .int .i64 a0_2]) (t := 25) ?hr ?_; (case hd => rfl); (case hg => rfl); (case hr => first | (go_simp; done) | (go_simp; rfl) | (go_simp; simp only [x_u32u8, x_u8, x_u32, x_u64, x_mm]; first | done | rfl)); intro gb189 hg w15 hbox hb; have n0_ := Aside0.mk (below_step (by repeat (first | (with_reducible first | exact HB.out | apply below_alloc | apply pw_below_drewN | apply below_drew1) | exact HB.out)) hb); have n1_ := Aside0.mk (hbox); have n2_ := Aside0.mk ((by rw [hg]; exact (below_size (by repeat (first | (with_reducible first | exact HB.out | apply below_alloc | apply pw_below_drewN | apply below_drew1) | exact HB.out))) : w.heap.size ≤ gb189)); have n3_ := Aside0.mk ((by rw [hg]; exact (below_size (by repeat (first | (with_reducible first | exact HB.out | apply below_alloc | apply pw_below_drewN | apply below_drew1) | exact HB.out))) : w.heap.size ≤ gb189)); clear HB; have HB := n0_; have BK189 := n1_; have GW189 := n2_; have GE189 := n3_; clear n0_ n1_ n2_ n3_; clear hb hbox hg; have hcz16_0 : w15.cell? ⟨gb189, 0, none⟩ = some (.bool a0_0) := (blk_cell BK189.out 0).trans rfl; have hcz16_1 : w15.cell? ⟨gb189, 1, none⟩ = some (.slice A0_1 l0_1.length c0_1) := (blk_cell BK189.out 1).trans rfl; have hcz16_2 : w15.cell? ⟨gb189, 2, none⟩ = some (.int .i64 a0_2) := (blk_cell BK189.out 2).trans rfl; have hfz16_0 := blk_frozen BK189.out 0; have hfz16_1 := blk_frozen BK189.out 1; have hfz16_2 := blk_frozen BK189.out 2; have p190 : 0 ≤ ((ji11) : Int) := of_decide_eq_true (by first | (with_reducible assumption) | assumption); have q190 : (ji11) < (l0_1.length : Int) := of_decide_eq_true (by first | (with_reducible assumption) | assumption); obtain ⟨ad190, e190, hx190_0⟩ := Kd.at_int HR0_1.out (ji11) p190 q190; cases e190; replace hx190_0 := (HB.out.cell (World.block_lt_of_cell? w _ hx190_0)).trans hx190_0; replace p190 := eq_true p190; replace q190 := eq_true q190))
            go_ret
            exact ⟨by first | rfl | (simp [errW_none, errW_some] <;> rfl) | (simp only [← hji11]; first | rfl | (simp [errW_none, errW_some] <;> rfl)) | (simp [*, errW_none, errW_some] <;> rfl), by repeat (first | (with_reducible first | exact HB.out | apply below_alloc | apply pw_below_drewN | apply below_drew1 | refine below_set ?_ GE189.out) | exact HB.out)⟩
          · rw [if_neg c14] at H
            have c14b0 : ((rd l0_1 (ji11)) == 0) = false := beq_eq_false_iff_ne.mpr c14
            have c14b1 : ((rd l0_1 (ji11)) != 0) = true := bne_iff_ne.mpr c14
            by_cases c17 : a0_2 < (-1200)
            · rw [if_pos c17] at H
              have c17b0 : decide (a0_2 < (-1200)) = true := decide_eq_true c17
              clear c17
              obtain rfl := Option.some.inj H
              go_enter Tryd.func19, Tryd.ntmps19
              go_wp2_with (first | ((with_reducible refine gate_dst (N := 1) rfl ?_); refine box_event ?hg (N := 1) ?hd (cs := #[.bool a0_0, .slice A0_1 l0_1.length c0_1, .int .i64 a0_2]) (t := 25) ?hr ?_; (case hd => rfl); (case hg => rfl); (case hr => first | (go_simp; done) | (go_simp; rfl) | (go_simp; simp only [x_u32u8, x_u8, x_u32, x_u64, x_mm]; first | done | rfl)); intro gb189 hg w18 hbox hb; have n0_ := Aside0.mk (below_step (by repeat (first | (with_reducible first | exact HB.out | apply below_alloc | apply pw_below_drewN | apply below_drew1) | exact HB.out)) hb); have n1_ := Aside0.mk (hbox); have n2_ := Aside0.mk ((by rw [hg]; exact (below_size (by repeat (first | (with_reducible first | exact HB.out | apply below_alloc | apply pw_below_drewN | apply below_drew1) | exact HB.out))) : w.heap.size ≤ gb189)); have n3_ := Aside0.mk ((by rw [hg]; exact (below_size (by repeat (first | (with_reducible first | exact HB.out | apply below_alloc | apply pw_below_drewN | apply below_drew1) | exact HB.out))) : w.heap.size ≤ gb189)); clear HB; have HB := n0_; have BK189 := n1_; have GW189 := n2_; have GE189 := n3_; clear n0_ n1_ n2_ n3_; clear hb hbox hg; have hcz19_0 : w18.cell? ⟨gb189, 0, none⟩ = some (.bool a0_0) := (blk_cell BK189.out 0).trans rfl; have hcz19_1 : w18.cell? ⟨gb189, 1, none⟩ = some (.slice A0_1 l0_1.length c0_1) := (blk_cell BK189.out 1).trans rfl; have hcz19_2 : w18.cell? ⟨gb189, 2, none⟩ = some (.int .i64 a0_2) := (blk_cell BK189.out 2).trans rfl; have hfz19_0 := blk_frozen BK189.out 0; have hfz19_1 := blk_frozen BK189.out 1; have hfz19_2 := blk_frozen BK189.out 2; have p190 : 0 ≤ ((ji11) : Int) := of_decide_eq_true (by first | (with_reducible assumption) | assumption); have q190 : (ji11) < (l0_1.length : Int) := of_decide_eq_true (by first | (with_reducible assumption) | assumption); obtain ⟨ad190, e190, hx190_0⟩ := Kd.at_int HR0_1.out (ji11) p190 q190; cases e190; replace hx190_0 := (HB.out.cell (World.block_lt_of_cell? w _ hx190_0)).trans hx190_0; replace p190 := eq_true p190; replace q190 := eq_true q190))
              go_ret
              exact ⟨by first | rfl | (simp [errW_none, errW_some] <;> rfl) | (simp only [← hji11]; first | rfl | (simp [errW_none, errW_some] <;> rfl)) | (simp [*, errW_none, errW_some] <;> rfl), by repeat (first | (with_reducible first | exact HB.out | apply below_alloc | apply pw_below_drewN | apply below_drew1 | refine below_set ?_ GE189.out) | exact HB.out)⟩
            · rw [if_neg c17] at H
              have c17b0 : decide (a0_2 < (-1200)) = false := decide_eq_false c17
              clear c17
              by_cases c20 : a0_2 > 1200
              · rw [if_pos c20] at H
                have c20b0 : decide (1200 < a0_2) = true := decide_eq_true c20
                clear c20
                obtain rfl := Option.some.inj H
                go_enter Tryd.func19, Tryd.ntmps19
                go_wp2_with (first | ((with_reducible refine gate_dst (N := 1) rfl ?_); refine box_event ?hg (N := 1) ?hd (cs := #[.bool a0_0, .slice A0_1 l0_1.length c0_1, .int .i64 a0_2]) (t := 25) ?hr ?_; (case hd => rfl); (case hg => rfl); (case hr => first | (go_simp; done) | (go_simp; rfl) | (go_simp; simp only [x_u32u8, x_u8, x_u32, x_u64, x_mm]; first | done | rfl)); intro gb189 hg w21 hbox hb; have n0_ := Aside0.mk (below_step (by repeat (first | (with_reducible first | exact HB.out | apply below_alloc | apply pw_below_drewN | apply below_drew1) | exact HB.out)) hb); have n1_ := Aside0.mk (hbox); have n2_ := Aside0.mk ((by rw [hg]; exact (below_size (by repeat (first | (with_reducible first | exact HB.out | apply below_alloc | apply pw_below_drewN | apply below_drew1) | exact HB.out))) : w.heap.size ≤ gb189)); have n3_ := Aside0.mk ((by rw [hg]; exact (below_size (by repeat (first | (with_reducible first | exact HB.out | apply below_alloc | apply pw_below_drewN | apply below_drew1) | exact HB.out))) : w.heap.size ≤ gb189)); clear HB; have HB := n0_; have BK189 := n1_; have GW189 := n2_; have GE189 := n3_; clear n0_ n1_ n2_ n3_; clear hb hbox hg; have hcz22_0 : w21.cell? ⟨gb189, 0, none⟩ = some (.bool a0_0) := (blk_cell BK189.out 0).trans rfl; have hcz22_1 : w21.cell? ⟨gb189, 1, none⟩ = some (.slice A0_1 l0_1.length c0_1) := (blk_cell BK189.out 1).trans rfl; have hcz22_2 : w21.cell? ⟨gb189, 2, none⟩ = some (.int .i64 a0_2) := (blk_cell BK189.out 2).trans rfl; have hfz22_0 := blk_frozen BK189.out 0; have hfz22_1 := blk_frozen BK189.out 1; have hfz22_2 := blk_frozen BK189.out 2; have p190 : 0 ≤ ((ji11) : Int) := of_decide_eq_true (by first | (with_reducible assumption) | assumption); have q190 : (ji11) < (l0_1.length : Int) := of_decide_eq_true (by first | (with_reducible assumption) | assumption); obtain ⟨ad190, e190, hx190_0⟩ := Kd.at_int HR0_1.out (ji11) p190 q190; cases e190; replace hx190_0 := (HB.out.cell (World.block_lt_of_cell? w _ hx190_0)).trans hx190_0; replace p190 := eq_true p190; replace q190 := eq_true q190))
                go_ret
                exact ⟨by first | rfl | (simp [errW_none, errW_some] <;> rfl) | (simp only [← hji11]; first | rfl | (simp [errW_none, errW_some] <;> rfl)) | (simp [*, errW_none, errW_some] <;> rfl), by repeat (first | (with_reducible first | exact HB.out | apply below_alloc | apply pw_below_drewN | apply below_drew1 | refine below_set ?_ GE189.out) | exact HB.out)⟩
              · rw [if_neg c20] at H
                have c20b0 : decide (1200 < a0_2) = false := decide_eq_false c20
                clear c20
                replace H := Option.bind_eq_some_iff.mp H
                obtain ⟨⟨t191, t192⟩, A230, H⟩ := H
                replace H : (some (t192 == 0)) = some r := H
                have A23 := Aside0.mk A230
                clear A230
                obtain rfl := Option.some.inj H
                go_enter Tryd.func19, Tryd.ntmps19
                go_wp2_with (first | ((with_reducible refine gate_dst (N := 1) rfl ?_); refine box_event ?hg (N := 1) ?hd (cs := #[.bool a0_0, .slice A0_1 l0_1.length c0_1, .int .i64 a0_2]) (t := 25) ?hr ?_; (case hd => rfl); (case hg => rfl); (case hr => first | (go_simp; done) | (go_simp; rfl) | (go_simp; simp only [x_u32u8, x_u8, x_u32, x_u64, x_mm]; first | done | rfl)); intro gb189 hg w24 hbox hb; have n0_ := Aside0.mk (below_step (by repeat (first | (with_reducible first | exact HB.out | apply below_alloc | apply pw_below_drewN | apply below_drew1) | exact HB.out)) hb); have n1_ := Aside0.mk (hbox); have n2_ := Aside0.mk ((by rw [hg]; exact (below_size (by repeat (first | (with_reducible first | exact HB.out | apply below_alloc | apply pw_below_drewN | apply below_drew1) | exact HB.out))) : w.heap.size ≤ gb189)); have n3_ := Aside0.mk ((by rw [hg]; exact (below_size (by repeat (first | (with_reducible first | exact HB.out | apply below_alloc | apply pw_below_drewN | apply below_drew1) | exact HB.out))) : w.heap.size ≤ gb189)); clear HB; have HB := n0_; have BK189 := n1_; have GW189 := n2_; have GE189 := n3_; clear n0_ n1_ n2_ n3_; clear hb hbox hg; have hcz25_0 : w24.cell? ⟨gb189, 0, none⟩ = some (.bool a0_0) := (blk_cell BK189.out 0).trans rfl; have hcz25_1 : w24.cell? ⟨gb189, 1, none⟩ = some (.slice A0_1 l0_1.length c0_1) := (blk_cell BK189.out 1).trans rfl; have hcz25_2 : w24.cell? ⟨gb189, 2, none⟩ = some (.int .i64 a0_2) := (blk_cell BK189.out 2).trans rfl; have hfz25_0 := blk_frozen BK189.out 0; have hfz25_1 := blk_frozen BK189.out 1; have hfz25_2 := blk_frozen BK189.out 2; have p190 : 0 ≤ ((ji11) : Int) := of_decide_eq_true (by first | (with_reducible assumption) | assumption); have q190 : (ji11) < (l0_1.length : Int) := of_decide_eq_true (by first | (with_reducible assumption) | assumption); obtain ⟨ad190, e190, hx190_0⟩ := Kd.at_int HR0_1.out (ji11) p190 q190; cases e190; replace hx190_0 := (HB.out.cell (World.block_lt_of_cell? w _ hx190_0)).trans hx190_0; replace p190 := eq_true p190; replace q190 := eq_true q190) | ((with_reducible refine gate_callee (f := 38) rfl ?_); refine goesL_ (some 43) rfl rfl Tryd.func38 (by kernel_rfl) rfl #[.slice (some ad190) l0_1.length c0_1] rfl (by (try simp only [List.map_toArray, List.map_cons, List.map_nil]); first | done | rfl | (simp only [List.length_drop, List.length_take]; rfl)) ?_; (with_reducible refine (nat_Trim.calls k _ _ l0_1 t191 t192 _ ?side1 ?side2 A23.out).mono ?_); (case side1 => repeat (first | exact (Kd.C_below HR0_1.out HB.out) | (with_reducible refine Kd.C_alloc ?_ _) | (with_reducible refine Kd.C_drewN ?_ _) | (with_reducible refine Kd.C_drew ?_))); (case side2 => exact HC0_1.out); rintro e w26 ⟨v193, rfl, ho0, hb⟩; refine ⟨_, rfl, ?_⟩; have n0_ := Aside0.mk (Kd.R_lower ho0 (below_size (by repeat (first | (with_reducible first | exact HB.out | apply below_alloc | apply pw_below_drewN | apply below_drew1 | refine below_set ?_ GE189.out) | exact HB.out)))); have n1_ := Aside0.mk (blk_below (g := gb189) (o := .cells #[.bool a0_0, .slice (some ad190) l0_1.length c0_1, .int .i64 a0_2] 25 (0, 0)) (by (with_reducible repeat (first | refine blk_drewN ?_ _ | refine blk_drew ?_ | refine blk_alloc ?_ _)); exact BK189.out) hb); have n2_ := Aside0.mk (below_step (by repeat (first | (with_reducible first | exact HB.out | apply below_alloc | apply pw_below_drewN | apply below_drew1 | refine below_set ?_ GE189.out) | exact HB.out)) hb); clear BK189; clear HB; have HO194 := n0_; have BK189 := n1_; have HB := n2_; clear n0_ n1_ n2_; (try clear hb); (try clear hb2); (try clear hk); (try clear hi); (try clear ho0)))
                go_ret
                exact ⟨by first | rfl | (simp [errW_none, errW_some] <;> rfl) | (simp only [← hji11]; first | rfl | (simp [errW_none, errW_some] <;> rfl)) | (simp [*, errW_none, errW_some] <;> rfl), by repeat (first | (with_reducible first | exact HB.out | apply below_alloc | apply pw_below_drewN | apply below_drew1 | refine below_set ?_ GE189.out) | exact HB.out)⟩
        · rw [if_neg c13] at H
          exact absurd H (by simp)
      · rw [if_neg c12] at H
        exact absurd H (by simp)

end Go.Proofs.YtmkdcokdilllcaaDoor.X
