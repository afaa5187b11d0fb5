import Derived.Test.YtmkdcokdilllcaaDoorMw4
import Derived.Test.YtmkdcokdilllcaaDoorMw2
import Derived.Shelf.Strings.Builder1
import Derived.Test.YtmkdcokdilllcaaDoorProg
import Derived.Lib.ItoaNum
import Derived.Lib.AppendIntMem
import Derived.Test.YtmkdcokdilllcaaDoorMw3
/- The text of a number, as a list; what is read of it. -/
namespace Go.Proofs.YtmkdcokdilllcaaDoor.X
open Go.RowKit Go.Proofs.YtmkdcokdilllcaaDoorW.PrintWords Go.Proofs.YtmkdcokdilllcaaDoorW.PrintMore
set_option linter.unusedVariables false
set_option linter.unusedSimpArgs false
/-- A number that may be: sign, natural, power of ten. -/
structure GoodNum (neg : Bool) (n : Nat) (E : Int) : Prop where
  zero : n = 0 → neg = false ∧ E = 0
  ten : n ≠ 0 → n % 10 ≠ 0
  limbs : (lim n).length ≤ 90
  lo : -1200 ≤ E
  hi : E ≤ 1200
theorem expN_digits {k : Nat} (hk : k < 1000000) : expN (Lib.decDigits k) = k := by
  unfold expN
  by_cases h0 : k = 0
  · subst h0
    decide +kernel
  · have h1 := digits_head k h0
    have h2 := dec_digits k
    have h3 := digits_len_le (k := 6) (by decide) (show k < 10 ^ 6 from hk)
    have h4 : Lib.trimLeftB (Lib.decDigits k) 48 = Lib.decDigits k := by
      generalize Lib.decDigits k = l at *
      rcases l with _ | ⟨c, l⟩
      · rfl
      · unfold Lib.trimLeftB
        rw [List.dropWhile_cons, if_neg]
        intro hc
        exact h1 (by simpa using hc)
    rw [h4, if_pos h3, h2]
/-- The parts of a text of a number. -/
structure Parts (neg : Bool) (n : Nat) (E : Int) (w : List UInt8) (f : Option (List UInt8)) (x : Option (UInt8 × Bool × Bool × List UInt8)) : Prop where
  dig : ∀ c ∈ w, isDig c = true
  ne : w ≠ []
  lead : leadL w = false
  fdig : ∀ c ∈ f.getD [], isDig c = true
  fne : f ≠ some []
  xok : expOk x
  val : ∃ j : Nat, dec (w ++ f.getD []) = n * 10 ^ j ∧ (n ≠ 0 → expL (expP x) - (f.getD []).length = E - j)
  ex : -1048576 < expL (expP x) ∧ expL (expP x) < 1048576
def partsL (neg : Bool) (w : List UInt8) (f : Option (List UInt8)) (x : Option (UInt8 × Bool × Bool × List UInt8)) (r : List UInt8) : List UInt8 := sgn neg ++ (w ++ (frac f ++ (expo x ++ r)))
theorem parts_bad {neg : Bool} {n : Nat} {E : Int} {w : List UInt8} {f : Option (List UInt8)} {x : Option (UInt8 × Bool × Bool × List UInt8)} (h : Parts neg n E w f x) (r : List UInt8)
    (hr : r = [101] ∨ r = [101, 43] ∨ r = [120] ∨ r = [46]) : specL (partsL neg w f x r) = none := by
  have hs0 : stopD r := by rcases hr with rfl | rfl | rfl | rfl <;> rfl
  have hr0 : r ≠ [] := by rcases hr with rfl | rfl | rfl | rfl <;> simp
  have hs := stop_expo (r := r) h.xok hs0
  have ht : (x = none → r ≠ [46]) → ∀ (m : List UInt8) (k : Nat), tailL neg m k (expo x ++ r) = none := by
    intro _ m k
    rcases x with _ | ⟨c, less, plus, d⟩
    · rcases hr with rfl | rfl | rfl | rfl <;> rfl
    · rw [tail_some _ _ _ _ _ _ _ _ h.xok hs0, if_neg hr0]
  have ht' : ∀ (m : List UInt8) (k : Nat), tailL neg m k (expo x ++ r) = none := by
    intro m k
    rcases x with _ | ⟨c, less, plus, d⟩
    · rcases hr with rfl | rfl | rfl | rfl <;> rfl
    · rw [tail_some _ _ _ _ _ _ _ _ h.xok hs0, if_neg hr0]
  unfold partsL
  rcases f with _ | f
  · by_cases hp : pHas [46] (expo x ++ r) = true
    · rcases x with _ | ⟨c, less, plus, d⟩
      · have : r = [46] := by rcases hr with rfl | rfl | rfl | rfl <;> first | rfl | cases hp
        subst this
        have := spec_frac neg w [] [] h.dig h.ne h.lead (fun c hc => by simp at hc) trivial
        rw [if_pos rfl] at this
        exact this
      · obtain ⟨hc, _⟩ := h.xok
        rcases hc with rfl | rfl <;> cases hp
    · rw [show frac none ++ (expo x ++ r) = expo x ++ r from rfl, spec_whole neg w _ h.dig h.ne h.lead hs (by simpa using hp), ht']
  · rw [show frac (some f) ++ (expo x ++ r) = 46 :: (f ++ (expo x ++ r)) from rfl, spec_frac neg w f _ h.dig h.ne h.lead h.fdig hs, if_neg (fun e => h.fne (by rw [e])), ht']
/-- The digits behind the first p. -/
theorem lead_take {l : List UInt8} (h : l.headD 0 ≠ 48) (k : Nat) : leadL (l.take k) = false := by
  unfold leadL
  rcases l with _ | ⟨c, l⟩
  · simp
  · rcases k with _ | k
    · rfl
    · have hc : (c == 48) = false := by simpa using h
      simp only [List.take_succ_cons, List.headD_cons, hc, Bool.and_false]
theorem lead_app {l m : List UInt8} (h : l.headD 0 ≠ 48) (h0 : l ≠ []) : leadL (l ++ m) = false := by
  unfold leadL
  rcases l with _ | ⟨c, l⟩
  · exact (h0 rfl).elim
  · have hc : (c == 48) = false := by simpa using h
    simp only [List.cons_append, List.headD_cons, hc, Bool.and_false]
theorem dec_shift (l : List UInt8) (n : Nat) (h : Lib.decFrom 0 l = some n) (k : Nat) : dec (l ++ List.replicate k 48) = n * 10 ^ k := by
  unfold dec
  rw [decFrom_append, h, Option.bind_some, decFrom_zeros]
  rfl
theorem dec_behind (l : List UInt8) (k : Nat) : dec (List.replicate k 48 ++ l) = dec l := by
  unfold dec
  rw [decFrom_append, decFrom_zeros, Option.bind_some, Nat.zero_mul]
/-- A number's text. -/
def textS (neg : Bool) (n : Nat) (E : Int) : List UInt8 :=
  if 0 ≤ E ∧ ((Lib.decDigits n).length : Int) + E ≤ 21 then partsL neg (Lib.decDigits n ++ List.replicate E.toNat 48) none none []
  else if E < 0 ∧ 1 ≤ ((Lib.decDigits n).length : Int) + E ∧ ((Lib.decDigits n).length : Int) + E ≤ 21 then
    partsL neg ((Lib.decDigits n).take (((Lib.decDigits n).length : Int) + E).toNat) (some ((Lib.decDigits n).drop (((Lib.decDigits n).length : Int) + E).toNat)) none []
  else if -5 ≤ ((Lib.decDigits n).length : Int) + E ∧ ((Lib.decDigits n).length : Int) + E ≤ 0 then
    partsL neg [48] (some (List.replicate (-(((Lib.decDigits n).length : Int) + E)).toNat 48 ++ Lib.decDigits n)) none []
  else partsL neg ((Lib.decDigits n).take 1) (if 1 < (Lib.decDigits n).length then some ((Lib.decDigits n).drop 1) else none)
    (some (101, decide (((Lib.decDigits n).length : Int) + E ≤ 0), true, Lib.decDigits (if 0 < ((Lib.decDigits n).length : Int) + E then (((Lib.decDigits n).length : Int) + E - 1).toNat else (1 - (((Lib.decDigits n).length : Int) + E)).toNat))) []
theorem text_parts {neg : Bool} {n : Nat} {E : Int} (hg : GoodNum neg n E) (hd : (Lib.decDigits n).length ≤ 900) :
    ∃ w f x, Parts neg n E w f x ∧ textS neg n E = partsL neg w f x [] := by
  have h0 := digits_ne n
  have h1 := dig_digits n
  have h2 := decFrom_digits n 0
  rw [Nat.zero_mul, Nat.zero_add] at h2
  have h3 : n ≠ 0 → (Lib.decDigits n).headD 0 ≠ 48 := digits_head n
  have hz : n = 0 → Lib.decDigits n = [48] := by rintro rfl; decide +kernel
  have h4 := dec_digits n
  have h5 : 0 < (Lib.decDigits n).length := List.length_pos_iff.2 h0
  have h6 := hg.lo
  have h7 := hg.hi
  unfold textS
  generalize Lib.decDigits n = d at *
  have htd : ∀ k, d.take k ++ d.drop k = d := fun k => List.take_append_drop k d
  split
  · rename_i hc
    refine ⟨_, _, _, ?_, rfl⟩
    refine ⟨fun c hc => ?_, ?_, ?_, fun c hc => by simp at hc, by simp, trivial, ⟨E.toNat, ?_, fun hn => ?_⟩, by decide⟩
    · rcases List.mem_append.1 hc with hc | hc
      · exact h1 c hc
      · exact dig_zeros _ c hc
    · intro h
      exact h0 (List.append_eq_nil_iff.1 h).1
    · by_cases hn : n = 0
      · rw [hz hn, (hg.zero hn).2]
        rfl
      · exact lead_app (h3 hn) h0
    · rw [Option.getD_none, List.append_nil]
      exact dec_shift d n h2 _
    · simp only [expP, expL, Option.getD_none, List.length_nil]
      omega
  · rename_i hc
    have hn : n ≠ 0 := by
      intro hn
      refine hc ⟨by rw [(hg.zero hn).2]; decide, ?_⟩
      rw [(hg.zero hn).2, hz hn]
      decide
    have hh := h3 hn
    split
    · rename_i hc2
      refine ⟨_, _, _, ?_, rfl⟩
      refine ⟨fun c hc => h1 c (List.mem_of_mem_take hc), ?_, lead_take hh _, fun c hc => h1 c (List.mem_of_mem_drop hc), ?_, trivial, ⟨0, ?_, fun _ => ?_⟩, by decide⟩
      · intro h
        have := congrArg List.length h
        rw [List.length_take, List.length_nil] at this
        omega
      · intro h
        have := congrArg List.length (Option.some.inj h)
        rw [List.length_drop, List.length_nil] at this
        omega
      · rw [Option.getD_some, htd, h4]
        simp
      · simp only [expP, expL, Option.getD_some, List.length_drop]
        omega
    · split
      · refine ⟨_, _, _, ?_, rfl⟩
        refine ⟨by decide, by decide, by decide, fun c hc => ?_, ?_, trivial, ⟨0, ?_, fun _ => ?_⟩, by decide⟩
        · rcases List.mem_append.1 hc with hc | hc
          · exact dig_zeros _ c hc
          · exact h1 c hc
        · intro h
          exact h0 (List.append_eq_nil_iff.1 (Option.some.inj h)).2
        · rw [Option.getD_some, ← List.append_assoc, show ([48] : List UInt8) = List.replicate 1 48 from rfl, List.replicate_append_replicate, dec_behind, h4]
          simp
        · simp only [expP, expL, Option.getD_some, List.length_append, List.length_replicate]
          omega
      · rename_i hc3
        have hk : (if 0 < (d.length : Int) + E then ((d.length : Int) + E - 1).toNat else (1 - ((d.length : Int) + E)).toNat) < 1000000 := by split <;> omega
        have hxe : expL (expP (some (101, decide ((d.length : Int) + E ≤ 0), true, Lib.decDigits (if 0 < (d.length : Int) + E then ((d.length : Int) + E - 1).toNat else (1 - ((d.length : Int) + E)).toNat)))) = (d.length : Int) + E - 1 := by
          simp only [expP, expL, decide_eq_true_eq]
          rw [expN_digits hk]
          split <;> split <;> omega
        refine ⟨_, _, _, ?_, rfl⟩
        refine ⟨fun c hc => h1 c (List.mem_of_mem_take hc), ?_, lead_take hh _, fun c hc => ?_, ?_, ⟨Or.inl rfl, digits_ne _, dig_digits _⟩, ⟨0, ?_, fun _ => ?_⟩, ?_⟩
        · intro h
          have := congrArg List.length h
          rw [List.length_take, List.length_nil] at this
          omega
        · split at hc
          · exact h1 c (List.mem_of_mem_drop hc)
          · simp at hc
        · split
          · intro h
            have := congrArg List.length (Option.some.inj h)
            rw [List.length_drop, List.length_nil] at this
            omega
          · simp
        · split
          · rw [Option.getD_some, htd, h4]
            simp
          · rw [Option.getD_none, List.append_nil, List.take_of_length_le (by omega), h4]
            simp
        · rw [hxe]
          split
          · rw [Option.getD_some, List.length_drop]
            omega
          · rw [Option.getD_none, List.length_nil]
            omega
        · rw [hxe]
          omega
theorem partsL_len (neg : Bool) (w : List UInt8) (f : Option (List UInt8)) (x : Option (UInt8 × Bool × Bool × List UInt8)) (r : List UInt8) :
    (partsL neg w f x r).length ≤ w.length + (f.getD []).length + (match x with | none => 0 | some (_, _, _, d) => d.length) + r.length + 4 := by
  have h1 : (sgn neg).length ≤ 1 := by cases neg <;> decide
  have h2 : (frac f).length ≤ (f.getD []).length + 1 := by cases f <;> simp [frac]
  unfold partsL
  rcases x with _ | ⟨c, less, plus, d⟩
  · simp only [List.length_append, expo, List.length_nil]
    omega
  · have h3 : (if less = true then [45] else if plus = true then [43] else [] : List UInt8).length ≤ 1 := by cases less <;> cases plus <;> decide
    simp only [List.length_append, expo, List.length_cons]
    omega
theorem text_len {neg : Bool} {n : Nat} {E : Int} (hg : GoodNum neg n E) (hd : (Lib.decDigits n).length ≤ 900) : (textS neg n E).length ≤ 940 := by
  have h6 := hg.lo
  have h7 := hg.hi
  have hk : ∀ k : Nat, k < 1000000 → (Lib.decDigits k).length ≤ 6 := fun k h => digits_len_le (by decide) h
  unfold textS
  generalize hl : Lib.decDigits n = d at *
  clear hl
  split
  · have := partsL_len neg (d ++ List.replicate E.toNat 48) none none []
    simp only [List.length_append, List.length_replicate, Option.getD_none, List.length_nil] at this
    omega
  · split
    · have := partsL_len neg (d.take ((d.length : Int) + E).toNat) (some (d.drop ((d.length : Int) + E).toNat)) none []
      simp only [List.length_take, List.length_drop, Option.getD_some, List.length_nil] at this
      omega
    · split
      · have := partsL_len neg [48] (some (List.replicate (-((d.length : Int) + E)).toNat 48 ++ d)) none []
        simp only [List.length_append, List.length_replicate, Option.getD_some, List.length_nil, List.length_cons] at this
        omega
      · refine Nat.le_trans (partsL_len _ _ _ _ _) ?_
        have h1 := hk (if 0 < (d.length : Int) + E then ((d.length : Int) + E - 1).toNat else (1 - ((d.length : Int) + E)).toNat) (by split <;> omega)
        have h2 : ((if 1 < d.length then some (d.drop 1) else none).getD []).length ≤ 899 := by
          split
          · rw [Option.getD_some, List.length_drop]; omega
          · simp
        simp only [List.length_take, List.length_nil]
        omega
end Go.Proofs.YtmkdcokdilllcaaDoor.X
-- A walk, written by a program of this session (xp.py).
namespace Go.Proofs.YtmkdcokdilllcaaDoor.X
open Go.RowKit Go.Proofs.YtmkdcokdilllcaaDoorW.PrintWords Go.Proofs.YtmkdcokdilllcaaDoorW.PrintLast Go.Proofs.YtmkdcokdilllcaaDoorW.PrintMore
attribute [local go_sem] max2_int min2_int max_two min_two max_three min_three max_four min_four
set_option linter.unusedVariables false
set_option linter.unusedSimpArgs false

/-! ### num_Check: function 19 -/
def num_Check.f (k : Nat) (a0_0 : Bool) (l0_1 : List Int) (a0_2 : Int) : Option (Bool) := if (l0_1.length : Int) = 0 then (if a0_0 = true then (some false) else (some (a0_2 == 0))) else (if (l0_1.length : Int) > 90 then (some false) else (if 0 ≤ (wrap64 ((l0_1.length : Int) - 1)) then (if (wrap64 ((l0_1.length : Int) - 1)) < (l0_1.length : Int) then (if (rd l0_1 (wrap64 ((l0_1.length : Int) - 1))) = 0 then (some false) else (if a0_2 < (-1200) then (some false) else (if a0_2 > 1200 then (some false) else ((nat_Trim.f k l0_1).bind fun bt191 => (some (bt191.2 == 0)))))) else (none)) else (none)))
set_option maxHeartbeats 8000000 in
set_option maxRecDepth 100000 in
theorem num_Check.calls (k : Nat) (a0_0 : Bool) (A0_1 : Option Addr) (c0_1 : Nat) (l0_1 : List Int) (a0_2 : Int) (r : Bool) (w : World) (hr0_1 : Kd.C (Kd.int .u32) w A0_1 l0_1.length l0_1) (hc0_1 : l0_1.length ≤ c0_1) (h : num_Check.f k a0_0 l0_1 a0_2 = some r) :
    Calls Tryd.prog 19 #[.agg #[.bool a0_0, .slice A0_1 l0_1.length c0_1, .int .i64 a0_2]] w fun e w' => e = .returned (.bool r) ∧ Below w.heap.size w w' := by
  have hu25 := Tryd.underlying25
  have HR0_1 := Aside0.mk hr0_1
  have HC0_1 := Aside0.mk hc0_1
  clear hr0_1 hc0_1
  have HB := Aside0.mk (Below.refl w.heap.size w)
  have H : (if (l0_1.length : Int) = 0 then (if a0_0 = true then (some false) else (some (a0_2 == 0))) else (if (l0_1.length : Int) > 90 then (some false) else (if 0 ≤ (wrap64 ((l0_1.length : Int) - 1)) then (if (wrap64 ((l0_1.length : Int) - 1)) < (l0_1.length : Int) then (if (rd l0_1 (wrap64 ((l0_1.length : Int) - 1))) = 0 then (some false) else (if a0_2 < (-1200) then (some false) else (if a0_2 > 1200 then (some false) else ((nat_Trim.f k l0_1).bind fun bt191 => (some (bt191.2 == 0)))))) else (none)) else (none)))) = some r := h
  clear h
  by_cases c2 : (l0_1.length : Int) = 0
  · rw [if_pos c2] at H
    have c2b0 : ((l0_1.length : Int) == 0) = true := beq_iff_eq.mpr c2
    have c2b1 : ((l0_1.length : Int) != 0) = false := bne_eq_false_iff_eq.mpr c2
    clear c2
    by_cases c3 : a0_0 = true
    · subst c3
      have H1 : (some false) = some r := by rw [if_pos rfl] at H; exact H
      clear H
      have H := H1
      clear H1
      obtain rfl := Option.some.inj H
      go_enter Tryd.func19, Tryd.ntmps19
      go_wp2_with (first | ((with_reducible refine gate_dst (N := 1) rfl ?_); refine box_event ?hg (N := 1) ?hd (cs := #[.bool true, .slice A0_1 l0_1.length c0_1, .int .i64 a0_2]) (t := 25) ?hr ?_; (case hd => rfl); (case hg => rfl); (case hr => first | (go_simp; done) | (go_simp; rfl) | (go_simp; simp only [x_u32u8, x_u8, x_u32, x_u64, x_mm]; first | done | rfl)); intro gb189 hg w4 hbox hb; have n0_ := Aside0.mk (below_step (by repeat (first | (with_reducible first | exact HB.out | apply below_alloc | apply pw_below_drewN | apply below_drew1) | exact HB.out)) hb); have n1_ := Aside0.mk (hbox); have n2_ := Aside0.mk ((by rw [hg]; exact (below_size (by repeat (first | (with_reducible first | exact HB.out | apply below_alloc | apply pw_below_drewN | apply below_drew1) | exact HB.out))) : w.heap.size ≤ gb189)); have n3_ := Aside0.mk ((by rw [hg]; exact (below_size (by repeat (first | (with_reducible first | exact HB.out | apply below_alloc | apply pw_below_drewN | apply below_drew1) | exact HB.out))) : w.heap.size ≤ gb189)); clear HB; have HB := n0_; have BK189 := n1_; have GW189 := n2_; have GE189 := n3_; clear n0_ n1_ n2_ n3_; clear hb hbox hg; have hcz5_0 : w4.cell? ⟨gb189, 0, none⟩ = some (.bool true) := (blk_cell BK189.out 0).trans rfl; have hcz5_1 : w4.cell? ⟨gb189, 1, none⟩ = some (.slice A0_1 l0_1.length c0_1) := (blk_cell BK189.out 1).trans rfl; have hcz5_2 : w4.cell? ⟨gb189, 2, none⟩ = some (.int .i64 a0_2) := (blk_cell BK189.out 2).trans rfl; have hfz5_0 := blk_frozen BK189.out 0; have hfz5_1 := blk_frozen BK189.out 1; have hfz5_2 := blk_frozen BK189.out 2))
      go_ret
      exact ⟨by first | rfl | (simp [errW_none, errW_some] <;> rfl) | (simp [*, errW_none, errW_some] <;> rfl), by repeat (first | (with_reducible first | exact HB.out | apply below_alloc | apply pw_below_drewN | apply below_drew1 | refine below_set ?_ GE189.out) | exact HB.out)⟩
    · replace c3 := Bool.eq_false_iff.mpr c3
      subst c3
      have H1 : (some (a0_2 == 0)) = some r := by rw [if_neg (show ¬ (false = true) by decide)] at H; exact H
      clear H
      have H := H1
      clear H1
      obtain rfl := Option.some.inj H
      go_enter Tryd.func19, Tryd.ntmps19
      go_wp2_with (first | ((with_reducible refine gate_dst (N := 1) rfl ?_); refine box_event ?hg (N := 1) ?hd (cs := #[.bool false, .slice A0_1 l0_1.length c0_1, .int .i64 a0_2]) (t := 25) ?hr ?_; (case hd => rfl); (case hg => rfl); (case hr => first | (go_simp; done) | (go_simp; rfl) | (go_simp; simp only [x_u32u8, x_u8, x_u32, x_u64, x_mm]; first | done | rfl)); intro gb189 hg w6 hbox hb; have n0_ := Aside0.mk (below_step (by repeat (first | (with_reducible first | exact HB.out | apply below_alloc | apply pw_below_drewN | apply below_drew1) | exact HB.out)) hb); have n1_ := Aside0.mk (hbox); have n2_ := Aside0.mk ((by rw [hg]; exact (below_size (by repeat (first | (with_reducible first | exact HB.out | apply below_alloc | apply pw_below_drewN | apply below_drew1) | exact HB.out))) : w.heap.size ≤ gb189)); have n3_ := Aside0.mk ((by rw [hg]; exact (below_size (by repeat (first | (with_reducible first | exact HB.out | apply below_alloc | apply pw_below_drewN | apply below_drew1) | exact HB.out))) : w.heap.size ≤ gb189)); clear HB; have HB := n0_; have BK189 := n1_; have GW189 := n2_; have GE189 := n3_; clear n0_ n1_ n2_ n3_; clear hb hbox hg; have hcz7_0 : w6.cell? ⟨gb189, 0, none⟩ = some (.bool false) := (blk_cell BK189.out 0).trans rfl; have hcz7_1 : w6.cell? ⟨gb189, 1, none⟩ = some (.slice A0_1 l0_1.length c0_1) := (blk_cell BK189.out 1).trans rfl; have hcz7_2 : w6.cell? ⟨gb189, 2, none⟩ = some (.int .i64 a0_2) := (blk_cell BK189.out 2).trans rfl; have hfz7_0 := blk_frozen BK189.out 0; have hfz7_1 := blk_frozen BK189.out 1; have hfz7_2 := blk_frozen BK189.out 2))
      go_ret
      exact ⟨by first | rfl | (simp [errW_none, errW_some] <;> rfl) | (simp [*, errW_none, errW_some] <;> rfl), by repeat (first | (with_reducible first | exact HB.out | apply below_alloc | apply pw_below_drewN | apply below_drew1 | refine below_set ?_ GE189.out) | exact HB.out)⟩
  · rw [if_neg c2] at H
    have c2b0 : ((l0_1.length : Int) == 0) = false := beq_eq_false_iff_ne.mpr c2
    have c2b1 : ((l0_1.length : Int) != 0) = true := bne_iff_ne.mpr c2
    have c2b2 : ¬ (l0_1 = []) := fun h_ => c2 (by rw [h_]; rfl)
    by_cases c8 : (l0_1.length : Int) > 90
    · rw [if_pos c8] at H
      have c8b0 : decide (90 < (l0_1.length : Int)) = true := decide_eq_true c8
      have c8b1 : decide (90 < l0_1.length) = true := decide_eq_true (by omega)
      clear c8
      obtain rfl := Option.some.inj H
      go_enter Tryd.func19, Tryd.ntmps19
      go_wp2_with (first | ((with_reducible refine gate_dst (N := 1) rfl ?_); refine box_event ?hg (N := 1) ?hd (cs := #[.bool a0_0, .slice A0_1 l0_1.length c0_1, .int .i64 a0_2]) (t := 25) ?hr ?_; (case hd => rfl); (case hg => rfl); (case hr => first | (go_simp; done) | (go_simp; rfl) | (go_simp; simp only [x_u32u8, x_u8, x_u32, x_u64, x_mm]; first | done | rfl)); intro gb189 hg w9 hbox hb; have n0_ := Aside0.mk (below_step (by repeat (first | (with_reducible first | exact HB.out | apply below_alloc | apply pw_below_drewN | apply below_drew1) | exact HB.out)) hb); have n1_ := Aside0.mk (hbox); have n2_ := Aside0.mk ((by rw [hg]; exact (below_size (by repeat (first | (with_reducible first | exact HB.out | apply below_alloc | apply pw_below_drewN | apply below_drew1) | exact HB.out))) : w.heap.size ≤ gb189)); have n3_ := Aside0.mk ((by rw [hg]; exact (below_size (by repeat (first | (with_reducible first | exact HB.out | apply below_alloc | apply pw_below_drewN | apply below_drew1) | exact HB.out))) : w.heap.size ≤ gb189)); clear HB; have HB := n0_; have BK189 := n1_; have GW189 := n2_; have GE189 := n3_; clear n0_ n1_ n2_ n3_; clear hb hbox hg; have hcz10_0 : w9.cell? ⟨gb189, 0, none⟩ = some (.bool a0_0) := (blk_cell BK189.out 0).trans rfl; have hcz10_1 : w9.cell? ⟨gb189, 1, none⟩ = some (.slice A0_1 l0_1.length c0_1) := (blk_cell BK189.out 1).trans rfl; have hcz10_2 : w9.cell? ⟨gb189, 2, none⟩ = some (.int .i64 a0_2) := (blk_cell BK189.out 2).trans rfl; have hfz10_0 := blk_frozen BK189.out 0; have hfz10_1 := blk_frozen BK189.out 1; have hfz10_2 := blk_frozen BK189.out 2))
      go_ret
      exact ⟨by first | rfl | (simp [errW_none, errW_some] <;> rfl) | (simp [*, errW_none, errW_some] <;> rfl), by repeat (first | (with_reducible first | exact HB.out | apply below_alloc | apply pw_below_drewN | apply below_drew1 | refine below_set ?_ GE189.out) | exact HB.out)⟩
    · rw [if_neg c8] at H
      have c8b0 : decide (90 < (l0_1.length : Int)) = false := decide_eq_false c8
      have c8b1 : decide (90 < l0_1.length) = false := decide_eq_false (by omega)
      clear c8
      obtain ⟨ji11, hji11⟩ : ∃ j_ : Int, (wrap64 ((l0_1.length : Int) - 1)) = j_ := ⟨_, rfl⟩
      replace H : (if 0 ≤ (ji11) then (if (ji11) < (l0_1.length : Int) then (if (rd l0_1 (ji11)) = 0 then (some false) else (if a0_2 < (-1200) then (some false) else (if a0_2 > 1200 then (some false) else ((nat_Trim.f k l0_1).bind fun bt191 => (some (bt191.2 == 0)))))) else (none)) else (none)) = some r := by first | (rw [hji11] at H; exact H) | (simp only [hji11] at H ⊢; exact H)
      have hji11w : (IntKind.i64.wrap ((l0_1.length : Int) - 1)) = ji11 := (i64_w _).trans hji11
      by_cases c12 : 0 ≤ (ji11)
      · rw [if_pos c12] at H
        have c12b0 : decide (0 ≤ (ji11)) = true := decide_eq_true c12
        clear c12
        by_cases c13 : (ji11) < (l0_1.length : Int)
        · rw [if_pos c13] at H
          have c13b0 : decide ((ji11) < (l0_1.length : Int)) = true := decide_eq_true c13
          clear c13
          by_cases c14 : (rd l0_1 (ji11)) = 0
          · rw [if_pos c14] at H
            have c14b0 : ((rd l0_1 (ji11)) == 0) = true := beq_iff_eq.mpr c14
            have c14b1 : ((rd l0_1 (ji11)) != 0) = false := bne_eq_false_iff_eq.mpr c14
            clear c14
            obtain rfl := Option.some.inj H
            go_enter Tryd.func19, Tryd.ntmps19
            go_wp2_with (first | ((with_reducible refine gate_dst (N := 1) rfl ?_); refine box_event ?hg (N := 1) ?hd (cs := #[.bool a0_0, .slice A0_1 l0_1.length c0_1, .int .i64 a0_2]) (t := 25) ?hr ?_; (case hd => rfl); (case hg => rfl); (case hr => first | (go_simp; done) | (go_simp; rfl) | (go_simp; simp only [x_u32u8, x_u8, x_u32, x_u64, x_mm]; first | done | rfl)); intro gb189 hg w15 hbox hb; have n0_ := Aside0.mk (below_step (by repeat (first | (with_reducible first | exact HB.out | apply below_alloc | apply pw_below_drewN | apply below_drew1) | exact HB.out)) hb); have n1_ := Aside0.mk (hbox); have n2_ := Aside0.mk ((by rw [hg]; exact (below_size (by repeat (first | (with_reducible first | exact HB.out | apply below_alloc | apply pw_below_drewN | apply below_drew1) | exact HB.out))) : w.heap.size ≤ gb189)); have n3_ := Aside0.mk ((by rw [hg]; exact (below_size (by repeat (first | (with_reducible first | exact HB.out | apply below_alloc | apply pw_below_drewN | apply below_drew1) | exact HB.out))) : w.heap.size ≤ gb189)); clear HB; have HB := n0_; have BK189 := n1_; have GW189 := n2_; have GE189 := n3_; clear n0_ n1_ n2_ n3_; clear hb hbox hg; have hcz16_0 : w15.cell? ⟨gb189, 0, none⟩ = some (.bool a0_0) := (blk_cell BK189.out 0).trans rfl; have hcz16_1 : w15.cell? ⟨gb189, 1, none⟩ = some (.slice A0_1 l0_1.length c0_1) := (blk_cell BK189.out 1).trans rfl; have hcz16_2 : w15.cell? ⟨gb189, 2, none⟩ = some (.int .i64 a0_2) := (blk_cell BK189.out 2).trans rfl; have hfz16_0 := blk_frozen BK189.out 0; have hfz16_1 := blk_frozen BK189.out 1; have hfz16_2 := blk_frozen BK189.out 2; have p190 : 0 ≤ ((ji11) : Int) := of_decide_eq_true (by first | (with_reducible assumption) | assumption); have q190 : (ji11) < (l0_1.length : Int) := of_decide_eq_true (by first | (with_reducible assumption) | assumption); obtain ⟨ad190, e190, hx190_0⟩ := Kd.at_int HR0_1.out (ji11) p190 q190; cases e190; replace hx190_0 := (HB.out.cell (World.block_lt_of_cell? w _ hx190_0)).trans hx190_0; replace p190 := eq_true p190; replace q190 := eq_true q190))
            go_ret
            exact ⟨by first | rfl | (simp [errW_none, errW_some] <;> rfl) | (simp only [← hji11]; first | rfl | (simp [errW_none, errW_some] <;> rfl)) | (simp [*, errW_none, errW_some] <;> rfl), by repeat (first | (with_reducible first | exact HB.out | apply below_alloc | apply pw_below_drewN | apply below_drew1 | refine below_set ?_ GE189.out) | exact HB.out)⟩
          · rw [if_neg c14] at H
            have c14b0 : ((rd l0_1 (ji11)) == 0) = false := beq_eq_false_iff_ne.mpr c14
            have c14b1 : ((rd l0_1 (ji11)) != 0) = true := bne_iff_ne.mpr c14
            by_cases c17 : a0_2 < (-1200)
            · rw [if_pos c17] at H
              have c17b0 : decide (a0_2 < (-1200)) = true := decide_eq_true c17
              clear c17
              obtain rfl := Option.some.inj H
              go_enter Tryd.func19, Tryd.ntmps19
              go_wp2_with (first | ((with_reducible refine gate_dst (N := 1) rfl ?_); refine box_event ?hg (N := 1) ?hd (cs := #[.bool a0_0, .slice A0_1 l0_1.length c0_1, .int .i64 a0_2]) (t := 25) ?hr ?_; (case hd => rfl); (case hg => rfl); (case hr => first | (go_simp; done) | (go_simp; rfl) | (go_simp; simp only [x_u32u8, x_u8, x_u32, x_u64, x_mm]; first | done | rfl)); intro gb189 hg w18 hbox hb; have n0_ := Aside0.mk (below_step (by repeat (first | (with_reducible first | exact HB.out | apply below_alloc | apply pw_below_drewN | apply below_drew1) | exact HB.out)) hb); have n1_ := Aside0.mk (hbox); have n2_ := Aside0.mk ((by rw [hg]; exact (below_size (by repeat (first | (with_reducible first | exact HB.out | apply below_alloc | apply pw_below_drewN | apply below_drew1) | exact HB.out))) : w.heap.size ≤ gb189)); have n3_ := Aside0.mk ((by rw [hg]; exact (below_size (by repeat (first | (with_reducible first | exact HB.out | apply below_alloc | apply pw_below_drewN | apply below_drew1) | exact HB.out))) : w.heap.size ≤ gb189)); clear HB; have HB := n0_; have BK189 := n1_; have GW189 := n2_; have GE189 := n3_; clear n0_ n1_ n2_ n3_; clear hb hbox hg; have hcz19_0 : w18.cell? ⟨gb189, 0, none⟩ = some (.bool a0_0) := (blk_cell BK189.out 0).trans rfl; have hcz19_1 : w18.cell? ⟨gb189, 1, none⟩ = some (.slice A0_1 l0_1.length c0_1) := (blk_cell BK189.out 1).trans rfl; have hcz19_2 : w18.cell? ⟨gb189, 2, none⟩ = some (.int .i64 a0_2) := (blk_cell BK189.out 2).trans rfl; have hfz19_0 := blk_frozen BK189.out 0; have hfz19_1 := blk_frozen BK189.out 1; have hfz19_2 := blk_frozen BK189.out 2; have p190 : 0 ≤ ((ji11) : Int) := of_decide_eq_true (by first | (with_reducible assumption) | assumption); have q190 : (ji11) < (l0_1.length : Int) := of_decide_eq_true (by first | (with_reducible assumption) | assumption); obtain ⟨ad190, e190, hx190_0⟩ := Kd.at_int HR0_1.out (ji11) p190 q190; cases e190; replace hx190_0 := (HB.out.cell (World.block_lt_of_cell? w _ hx190_0)).trans hx190_0; replace p190 := eq_true p190; replace q190 := eq_true q190))
              go_ret
              exact ⟨by first | rfl | (simp [errW_none, errW_some] <;> rfl) | (simp only [← hji11]; first | rfl | (simp [errW_none, errW_some] <;> rfl)) | (simp [*, errW_none, errW_some] <;> rfl), by repeat (first | (with_reducible first | exact HB.out | apply below_alloc | apply pw_below_drewN | apply below_drew1 | refine below_set ?_ GE189.out) | exact HB.out)⟩
            · rw [if_neg c17] at H
              have c17b0 : decide (a0_2 < (-1200)) = false := decide_eq_false c17
              clear c17
              by_cases c20 : a0_2 > 1200
              · rw [if_pos c20] at H
                have c20b0 : decide (1200 < a0_2) = true := decide_eq_true c20
                clear c20
                obtain rfl := Option.some.inj H
                go_enter Tryd.func19, Tryd.ntmps19
                go_wp2_with (first | ((with_reducible refine gate_dst (N := 1) rfl ?_); refine box_event ?hg (N := 1) ?hd (cs := #[.bool a0_0, .slice A0_1 l0_1.length c0_1, .int .i64 a0_2]) (t := 25) ?hr ?_; (case hd => rfl); (case hg => rfl); (case hr => first | (go_simp; done) | (go_simp; rfl) | (go_simp; simp only [x_u32u8, x_u8, x_u32, x_u64, x_mm]; first | done | rfl)); intro gb189 hg w21 hbox hb; have n0_ := Aside0.mk (below_step (by repeat (first | (with_reducible first | exact HB.out | apply below_alloc | apply pw_below_drewN | apply below_drew1) | exact HB.out)) hb); have n1_ := Aside0.mk (hbox); have n2_ := Aside0.mk ((by rw [hg]; exact (below_size (by repeat (first | (with_reducible first | exact HB.out | apply below_alloc | apply pw_below_drewN | apply below_drew1) | exact HB.out))) : w.heap.size ≤ gb189)); have n3_ := Aside0.mk ((by rw [hg]; exact (below_size (by repeat (first | (with_reducible first | exact HB.out | apply below_alloc | apply pw_below_drewN | apply below_drew1) | exact HB.out))) : w.heap.size ≤ gb189)); clear HB; have HB := n0_; have BK189 := n1_; have GW189 := n2_; have GE189 := n3_; clear n0_ n1_ n2_ n3_; clear hb hbox hg; have hcz22_0 : w21.cell? ⟨gb189, 0, none⟩ = some (.bool a0_0) := (blk_cell BK189.out 0).trans rfl; have hcz22_1 : w21.cell? ⟨gb189, 1, none⟩ = some (.slice A0_1 l0_1.length c0_1) := (blk_cell BK189.out 1).trans rfl; have hcz22_2 : w21.cell? ⟨gb189, 2, none⟩ = some (.int .i64 a0_2) := (blk_cell BK189.out 2).trans rfl; have hfz22_0 := blk_frozen BK189.out 0; have hfz22_1 := blk_frozen BK189.out 1; have hfz22_2 := blk_frozen BK189.out 2; have p190 : 0 ≤ ((ji11) : Int) := of_decide_eq_true (by first | (with_reducible assumption) | assumption); have q190 : (ji11) < (l0_1.length : Int) := of_decide_eq_true (by first | (with_reducible assumption) | assumption); obtain ⟨ad190, e190, hx190_0⟩ := Kd.at_int HR0_1.out (ji11) p190 q190; cases e190; replace hx190_0 := (HB.out.cell (World.block_lt_of_cell? w _ hx190_0)).trans hx190_0; replace p190 := eq_true p190; replace q190 := eq_true q190))
                go_ret
                exact ⟨by first | rfl | (simp [errW_none, errW_some] <;> rfl) | (simp only [← hji11]; first | rfl | (simp [errW_none, errW_some] <;> rfl)) | (simp [*, errW_none, errW_some] <;> rfl), by repeat (first | (with_reducible first | exact HB.out | apply below_alloc | apply pw_below_drewN | apply below_drew1 | refine below_set ?_ GE189.out) | exact HB.out)⟩
              · rw [if_neg c20] at H
                have c20b0 : decide (1200 < a0_2) = false := decide_eq_false c20
                clear c20
                replace H := Option.bind_eq_some_iff.mp H
                obtain ⟨⟨t191, t192⟩, A230, H⟩ := H
                replace H : (some (t192 == 0)) = some r := H
                have A23 := Aside0.mk A230
                clear A230
                obtain rfl := Option.some.inj H
                go_enter Tryd.func19, Tryd.ntmps19
                go_wp2_with (first | ((with_reducible refine gate_dst (N := 1) rfl ?_); refine box_event ?hg (N := 1) ?hd (cs := #[.bool a0_0, .slice A0_1 l0_1.length c0_1, .int .i64 a0_2]) (t := 25) ?hr ?_; (case hd => rfl); (case hg => rfl); (case hr => first | (go_simp; done) | (go_simp; rfl) | (go_simp; simp only [x_u32u8, x_u8, x_u32, x_u64, x_mm]; first | done | rfl)); intro gb189 hg w24 hbox hb; have n0_ := Aside0.mk (below_step (by repeat (first | (with_reducible first | exact HB.out | apply below_alloc | apply pw_below_drewN | apply below_drew1) | exact HB.out)) hb); have n1_ := Aside0.mk (hbox); have n2_ := Aside0.mk ((by rw [hg]; exact (below_size (by repeat (first | (with_reducible first | exact HB.out | apply below_alloc | apply pw_below_drewN | apply below_drew1) | exact HB.out))) : w.heap.size ≤ gb189)); have n3_ := Aside0.mk ((by rw [hg]; exact (below_size (by repeat (first | (with_reducible first | exact HB.out | apply below_alloc | apply pw_below_drewN | apply below_drew1) | exact HB.out))) : w.heap.size ≤ gb189)); clear HB; have HB := n0_; have BK189 := n1_; have GW189 := n2_; have GE189 := n3_; clear n0_ n1_ n2_ n3_; clear hb hbox hg; have hcz25_0 : w24.cell? ⟨gb189, 0, none⟩ = some (.bool a0_0) := (blk_cell BK189.out 0).trans rfl; have hcz25_1 : w24.cell? ⟨gb189, 1, none⟩ = some (.slice A0_1 l0_1.length c0_1) := (blk_cell BK189.out 1).trans rfl; have hcz25_2 : w24.cell? ⟨gb189, 2, none⟩ = some (.int .i64 a0_2) := (blk_cell BK189.out 2).trans rfl; have hfz25_0 := blk_frozen BK189.out 0; have hfz25_1 := blk_frozen BK189.out 1; have hfz25_2 := blk_frozen BK189.out 2; have p190 : 0 ≤ ((ji11) : Int) := of_decide_eq_true (by first | (with_reducible assumption) | assumption); have q190 : (ji11) < (l0_1.length : Int) := of_decide_eq_true (by first | (with_reducible assumption) | assumption); obtain ⟨ad190, e190, hx190_0⟩ := Kd.at_int HR0_1.out (ji11) p190 q190; cases e190; replace hx190_0 := (HB.out.cell (World.block_lt_of_cell? w _ hx190_0)).trans hx190_0; replace p190 := eq_true p190; replace q190 := eq_true q190) | ((with_reducible refine gate_callee (f := 38) rfl ?_); refine goesL_ (some 43) rfl rfl Tryd.func38 (by kernel_rfl) rfl #[.slice (some ad190) l0_1.length c0_1] rfl (by (try simp only [List.map_toArray, List.map_cons, List.map_nil]); first | done | rfl | (simp only [List.length_drop, List.length_take]; rfl)) ?_; (with_reducible refine (nat_Trim.calls k _ _ l0_1 t191 t192 _ ?side1 ?side2 A23.out).mono ?_); (case side1 => repeat (first | exact (Kd.C_below HR0_1.out HB.out) | (with_reducible refine Kd.C_alloc ?_ _) | (with_reducible refine Kd.C_drewN ?_ _) | (with_reducible refine Kd.C_drew ?_))); (case side2 => exact HC0_1.out); rintro e w26 ⟨v193, rfl, ho0, hb⟩; refine ⟨_, rfl, ?_⟩; have n0_ := Aside0.mk (Kd.R_lower ho0 (below_size (by repeat (first | (with_reducible first | exact HB.out | apply below_alloc | apply pw_below_drewN | apply below_drew1 | refine below_set ?_ GE189.out) | exact HB.out)))); have n1_ := Aside0.mk (blk_below (g := gb189) (o := .cells #[.bool a0_0, .slice (some ad190) l0_1.length c0_1, .int .i64 a0_2] 25 (0, 0)) (by (with_reducible repeat (first | refine blk_drewN ?_ _ | refine blk_drew ?_ | refine blk_alloc ?_ _)); exact BK189.out) hb); have n2_ := Aside0.mk (below_step (by repeat (first | (with_reducible first | exact HB.out | apply below_alloc | apply pw_below_drewN | apply below_drew1 | refine below_set ?_ GE189.out) | exact HB.out)) hb); clear BK189; clear HB; have HO194 := n0_; have BK189 := n1_; have HB := n2_; clear n0_ n1_ n2_; (try clear hb); (try clear hb2); (try clear hk); (try clear hi); (try clear ho0)))
                go_ret
                exact ⟨by first | rfl | (simp [errW_none, errW_some] <;> rfl) | (simp only [← hji11]; first | rfl | (simp [errW_none, errW_some] <;> rfl)) | (simp [*, errW_none, errW_some] <;> rfl), by repeat (first | (with_reducible first | exact HB.out | apply below_alloc | apply pw_below_drewN | apply below_drew1 | refine below_set ?_ GE189.out) | exact HB.out)⟩
        · rw [if_neg c13] at H
          exact absurd H (by simp)
      · rw [if_neg c12] at H
        exact absurd H (by simp)

end Go.Proofs.YtmkdcokdilllcaaDoor.X
-- A walk, written by a program of this session (xp.py).
namespace Go.Proofs.YtmkdcokdilllcaaDoor.X
open Go.RowKit Go.Proofs.YtmkdcokdilllcaaDoorW.PrintWords Go.Proofs.YtmkdcokdilllcaaDoorW.PrintLast Go.Proofs.YtmkdcokdilllcaaDoorW.PrintMore
attribute [local go_sem] max2_int min2_int max_two min_two max_three min_three max_four min_four
set_option linter.unusedVariables false
set_option linter.unusedSimpArgs false

/-! ### num_of: function 33 -/
def num_of.f (k : Nat) (a0_0 : Bool) (l0_1 : List Int) (a0_2 : Int) : Option (Bool × List Int × Int) := (num_Check.f k a0_0 l0_1 a0_2).bind fun t197 => (if t197 = true then (some (a0_0, l0_1, a0_2)) else (some (false, ([] : List Int), 0)))
set_option maxHeartbeats 8000000 in
set_option maxRecDepth 100000 in
theorem num_of.calls (k : Nat) (a0_0 : Bool) (P0_1_ : Nat → Prop) (A0_1 : Option Addr) (c0_1 : Nat) (l0_1 : List Int) (a0_2 : Int) (r1 : Bool) (r2 : List Int) (r3 : Int) (w : World) (hs0_1 : Kd.V (Kd.int .u32) 40 w w.heap.size (fun k_ => P0_1_ k_) (.slice A0_1 l0_1.length c0_1) l0_1) (h : num_of.f k a0_0 l0_1 a0_2 = some (r1, r2, r3)) :
    Calls Tryd.prog 33 #[.agg #[.bool a0_0, .slice A0_1 l0_1.length c0_1, .int .i64 a0_2]] w fun e w' => ∃ v1_ : Value, e = .returned (.agg #[.bool r1, v1_, .int .i64 r3]) ∧ Kd.V (Kd.int .u32) 40 w' w.heap.size (fun k_ => (P0_1_ k_ ∨ w.heap.size ≤ k_)) v1_ r2 ∧ Below w.heap.size w w' := by
  have hu25 := Tryd.underlying25
  have HO0_1 := Aside0.mk (show Kd.V (Kd.int .u32) 40 w w.heap.size (fun k_ => (P0_1_ k_ ∨ w.heap.size ≤ k_)) (.slice A0_1 l0_1.length c0_1) l0_1 from Kd.V_mono hs0_1 (fun k_ hk => .inl hk))
  have HB := Aside0.mk (Below.refl w.heap.size w)
  have H : ((num_Check.f k a0_0 l0_1 a0_2).bind fun t197 => (if t197 = true then (some (a0_0, l0_1, a0_2)) else (some (false, ([] : List Int), 0)))) = some (r1, r2, r3) := h
  clear h
  replace H := Option.bind_eq_some_iff.mp H
  obtain ⟨t197, A20, H⟩ := H
  replace H : (if t197 = true then (some (a0_0, l0_1, a0_2)) else (some (false, ([] : List Int), 0))) = some (r1, r2, r3) := H
  have A2 := Aside0.mk A20
  clear A20
  by_cases c3 : t197 = true
  · subst c3
    have H1 : (some (a0_0, l0_1, a0_2)) = some (r1, r2, r3) := by rw [if_pos rfl] at H; exact H
    clear H
    have H := H1
    clear H1
    simp only [Option.some.injEq, Prod.mk.injEq] at H
    obtain ⟨rfl, rfl, rfl⟩ := H
    go_enter Tryd.func33, Tryd.ntmps33
    go_wp2_with (first | ((with_reducible refine gate_dst (N := 1) rfl ?_); refine box_event ?hg (N := 1) ?hd (cs := #[.bool a0_0, .slice A0_1 l0_1.length c0_1, .int .i64 a0_2]) (t := 25) ?hr ?_; (case hd => rfl); (case hg => rfl); (case hr => first | (go_simp; done) | (go_simp; rfl) | (go_simp; simp only [x_u32u8, x_u8, x_u32, x_u64, x_mm]; first | done | rfl)); intro gb195 hg w4 hbox hb; have n0_ := Aside0.mk (Kd.V_below (Kd.V_elderB (by (with_reducible repeat (first | apply Kd.V_alloc | apply Kd.V_drewN | apply Kd.V_drew)); exact HO0_1.out) gb195 (Nat.le_of_eq hg.symm)) hb); have n1_ := Aside0.mk (below_step (by repeat (first | (with_reducible first | exact HB.out | apply below_alloc | apply pw_below_drewN | apply below_drew1) | exact HB.out)) hb); have n2_ := Aside0.mk (hbox); have n3_ := Aside0.mk ((by rw [hg]; exact (below_size (by repeat (first | (with_reducible first | exact HB.out | apply below_alloc | apply pw_below_drewN | apply below_drew1) | exact HB.out))) : w.heap.size ≤ gb195)); have n4_ := Aside0.mk ((by rw [hg]; exact (below_size (by repeat (first | (with_reducible first | exact HB.out | apply below_alloc | apply pw_below_drewN | apply below_drew1) | exact HB.out))) : w.heap.size ≤ gb195)); clear HO0_1; clear HB; have HO0_1 := n0_; have HB := n1_; have BK195 := n2_; have GW195 := n3_; have GE195 := n4_; clear n0_ n1_ n2_ n3_ n4_; clear hb hbox hg) | ((with_reducible refine gate_dst (N := 2) rfl ?_); refine box_event ?hg (N := 2) ?hd (cs := #[.bool false, .slice none 0 0, .int .i64 0]) (t := 25) ?hr ?_; (case hd => rfl); (case hg => rfl); (case hr => first | (go_simp; done) | (go_simp; rfl) | (go_simp; simp only [x_u32u8, x_u8, x_u32, x_u64, x_mm]; first | done | rfl)); intro gb196 hg w5 hbox hb; have n0_ := Aside0.mk (Kd.V_below (Kd.V_elderB (by (with_reducible repeat (first | apply Kd.V_alloc | apply Kd.V_drewN | apply Kd.V_drew)); exact HO0_1.out) gb196 (Nat.le_of_eq hg.symm)) hb); have n1_ := Aside0.mk (blk_below (g := gb195) (o := .cells #[.bool a0_0, .slice A0_1 l0_1.length c0_1, .int .i64 a0_2] 25 (0, 0)) (by (with_reducible repeat (first | refine blk_drewN ?_ _ | refine blk_drew ?_ | refine blk_alloc ?_ _)); exact BK195.out) hb); have n2_ := Aside0.mk (below_step (by repeat (first | (with_reducible first | exact HB.out | apply below_alloc | apply pw_below_drewN | apply below_drew1 | refine below_set ?_ GE195.out) | exact HB.out)) hb); have n3_ := Aside0.mk (hbox); have n4_ := Aside0.mk ((by rw [hg]; exact (below_size (by repeat (first | (with_reducible first | exact HB.out | apply below_alloc | apply pw_below_drewN | apply below_drew1 | refine below_set ?_ GE195.out) | exact HB.out))) : w.heap.size ≤ gb196)); have n5_ := Aside0.mk ((by rw [hg]; exact (below_size (by repeat (first | (with_reducible first | exact HB.out | apply below_alloc | apply pw_below_drewN | apply below_drew1 | refine below_set ?_ GE195.out) | exact HB.out))) : w.heap.size ≤ gb196)); have n6_ := Aside0.mk ((by rw [hg]; exact Nat.ne_of_lt (blk_lt (g := gb195) (o := .cells #[.bool a0_0, .slice A0_1 l0_1.length c0_1, .int .i64 a0_2] 25 (0, 0)) (by (with_reducible repeat (first | refine blk_drewN ?_ _ | refine blk_drew ?_ | refine blk_alloc ?_ _)); exact BK195.out)) : gb195 ≠ gb196)); have n7_ := Aside0.mk ((by rw [hg]; exact Nat.ne_of_gt (blk_lt (g := gb195) (o := .cells #[.bool a0_0, .slice A0_1 l0_1.length c0_1, .int .i64 a0_2] 25 (0, 0)) (by (with_reducible repeat (first | refine blk_drewN ?_ _ | refine blk_drew ?_ | refine blk_alloc ?_ _)); exact BK195.out)) : gb196 ≠ gb195)); clear HO0_1; clear BK195; clear HB; have HO0_1 := n0_; have BK195 := n1_; have HB := n2_; have BK196 := n3_; have GW196 := n4_; have GE196 := n5_; have NB195_196 := n6_; have NB196_195 := n7_; clear n0_ n1_ n2_ n3_ n4_ n5_ n6_ n7_; clear hb hbox hg; have hnb6 := NB195_196.out; have hnc6 := NB196_195.out; have hcz7_0 : w5.cell? ⟨gb195, 0, none⟩ = some (.bool a0_0) := (blk_cell BK195.out 0).trans rfl; have hcz7_1 : w5.cell? ⟨gb195, 1, none⟩ = some (.slice A0_1 l0_1.length c0_1) := (blk_cell BK195.out 1).trans rfl; have hcz7_2 : w5.cell? ⟨gb195, 2, none⟩ = some (.int .i64 a0_2) := (blk_cell BK195.out 2).trans rfl; have hfz7_0 := blk_frozen BK195.out 0; have hfz7_1 := blk_frozen BK195.out 1; have hfz7_2 := blk_frozen BK195.out 2) | ((with_reducible refine gate_callee (f := 19) rfl ?_); refine goesL_ (some 4) rfl rfl Tryd.func19 (by kernel_rfl) rfl #[.agg #[.bool a0_0, .slice A0_1 l0_1.length c0_1, .int .i64 a0_2]] rfl (by (try simp only [List.map_toArray, List.map_cons, List.map_nil]); first | done | rfl | (simp only [List.length_drop, List.length_take]; rfl)) ?_; (with_reducible refine (num_Check.calls k a0_0 _ _ l0_1 a0_2 true _ ?side1 ?side2 A2.out).mono ?_); (case side1 => repeat (first | exact (Kd.V_reads' HO0_1.out).2.2 | (with_reducible refine Kd.C_alloc ?_ _) | (with_reducible refine Kd.C_drewN ?_ _) | (with_reducible refine Kd.C_drew ?_))); (case side2 => exact (Kd.V_reads' HO0_1.out).2.1); rintro e w8 ⟨rfl, hb⟩; refine ⟨_, rfl, ?_⟩; have n0_ := Aside0.mk (Kd.V_below (by (with_reducible repeat (first | apply Kd.V_alloc | apply Kd.V_drewN | apply Kd.V_drew)); exact HO0_1.out) hb); have n1_ := Aside0.mk (blk_below (g := gb195) (o := .cells #[.bool a0_0, .slice A0_1 l0_1.length c0_1, .int .i64 a0_2] 25 (0, 0)) (by (with_reducible repeat (first | refine blk_drewN ?_ _ | refine blk_drew ?_ | refine blk_alloc ?_ _)); exact BK195.out) hb); have n2_ := Aside0.mk (blk_below (g := gb196) (o := .cells #[.bool false, .slice none 0 0, .int .i64 0] 25 (0, 0)) (by (with_reducible repeat (first | refine blk_drewN ?_ _ | refine blk_drew ?_ | refine blk_alloc ?_ _)); exact BK196.out) hb); have n3_ := Aside0.mk (below_step (by repeat (first | (with_reducible first | exact HB.out | apply below_alloc | apply pw_below_drewN | apply below_drew1 | refine below_set ?_ GE195.out | refine below_set ?_ GE196.out) | exact HB.out)) hb); clear HO0_1; clear BK195; clear BK196; clear HB; have HO0_1 := n0_; have BK195 := n1_; have BK196 := n2_; have HB := n3_; clear n0_ n1_ n2_ n3_; (try clear hb); (try clear hb2); (try clear hk); (try clear hi); have hcz9_0 : w8.cell? ⟨gb195, 0, none⟩ = some (.bool a0_0) := (blk_cell BK195.out 0).trans rfl; have hcz9_1 : w8.cell? ⟨gb195, 1, none⟩ = some (.slice A0_1 l0_1.length c0_1) := (blk_cell BK195.out 1).trans rfl; have hcz9_2 : w8.cell? ⟨gb195, 2, none⟩ = some (.int .i64 a0_2) := (blk_cell BK195.out 2).trans rfl; have hfz9_0 := blk_frozen BK195.out 0; have hfz9_1 := blk_frozen BK195.out 1; have hfz9_2 := blk_frozen BK195.out 2; have hcz10_0 : w8.cell? ⟨gb196, 0, none⟩ = some (.bool false) := (blk_cell BK196.out 0).trans rfl; have hcz10_1 : w8.cell? ⟨gb196, 1, none⟩ = some (.slice none 0 0) := (blk_cell BK196.out 1).trans rfl; have hcz10_2 : w8.cell? ⟨gb196, 2, none⟩ = some (.int .i64 0) := (blk_cell BK196.out 2).trans rfl; have hfz10_0 := blk_frozen BK196.out 0; have hfz10_1 := blk_frozen BK196.out 1; have hfz10_2 := blk_frozen BK196.out 2))
    refine bodyPost_ret (results_cell_row rfl _ _ gb196 25 #[.bool a0_0, .slice A0_1 l0_1.length c0_1, .int .i64 a0_2] (0, 0) _ rfl (by (with_reducible repeat (first | refine blk_drewN ?_ _ | refine blk_drew ?_ | refine blk_alloc ?_ _)); refine blk_put (cs := #[.bool a0_0, .slice A0_1 l0_1.length c0_1, .int .i64 0]) ?_ 2 _ rfl; (with_reducible repeat (first | refine blk_drewN ?_ _ | refine blk_drew ?_ | refine blk_alloc ?_ _)); refine blk_put (cs := #[.bool a0_0, .slice none 0 0, .int .i64 0]) ?_ 1 _ rfl; (with_reducible repeat (first | refine blk_drewN ?_ _ | refine blk_drew ?_ | refine blk_alloc ?_ _)); refine blk_put (cs := #[.bool false, .slice none 0 0, .int .i64 0]) ?_ 0 _ rfl; (with_reducible repeat (first | refine blk_drewN ?_ _ | refine blk_drew ?_ | refine blk_alloc ?_ _)); exact BK196.out) Tryd.underlying25 rfl (by kernel_rfl)) rfl ?_
    exact ⟨_, by first | rfl | (simp [errW_none, errW_some] <;> rfl) | (simp [*, errW_none, errW_some] <;> rfl), by (with_reducible repeat (first | apply Kd.V_alloc | apply Kd.V_drewN | apply Kd.V_drew)); exact Kd.V_mono (Kd.V_far (p := ⟨gb196, 2, none⟩) (Kd.V_far (p := ⟨gb196, 1, none⟩) (Kd.V_far (p := ⟨gb196, 0, none⟩) (Kd.V_mono HO0_1.out (fun k_ hk => (⟨hk, hk.2⟩ : _ ∧ k_ ≠ gb196))) (fun _ hk => hk.2) (.bool a0_0)) (fun _ hk => hk.2) (.slice A0_1 l0_1.length c0_1)) (fun _ hk => hk.2) (.int .i64 a0_2)) (fun _ hk => hk.1.1.1), by repeat (first | (with_reducible first | exact HB.out | apply below_alloc | apply pw_below_drewN | apply below_drew1 | refine below_set ?_ GE195.out | refine below_set ?_ GE196.out) | exact HB.out)⟩
  · replace c3 := Bool.eq_false_iff.mpr c3
    subst c3
    have H1 : (some (false, ([] : List Int), 0)) = some (r1, r2, r3) := by rw [if_neg (show ¬ (false = true) by decide)] at H; exact H
    clear H
    have H := H1
    clear H1
    simp only [Option.some.injEq, Prod.mk.injEq] at H
    obtain ⟨rfl, rfl, rfl⟩ := H
    go_enter Tryd.func33, Tryd.ntmps33
    go_wp2_with (first | ((with_reducible refine gate_dst (N := 1) rfl ?_); refine box_event ?hg (N := 1) ?hd (cs := #[.bool a0_0, .slice A0_1 l0_1.length c0_1, .int .i64 a0_2]) (t := 25) ?hr ?_; (case hd => rfl); (case hg => rfl); (case hr => first | (go_simp; done) | (go_simp; rfl) | (go_simp; simp only [x_u32u8, x_u8, x_u32, x_u64, x_mm]; first | done | rfl)); intro gb195 hg w11 hbox hb; have n0_ := Aside0.mk (Kd.V_below (Kd.V_elderB (by (with_reducible repeat (first | apply Kd.V_alloc | apply Kd.V_drewN | apply Kd.V_drew)); exact HO0_1.out) gb195 (Nat.le_of_eq hg.symm)) hb); have n1_ := Aside0.mk (below_step (by repeat (first | (with_reducible first | exact HB.out | apply below_alloc | apply pw_below_drewN | apply below_drew1) | exact HB.out)) hb); have n2_ := Aside0.mk (hbox); have n3_ := Aside0.mk ((by rw [hg]; exact (below_size (by repeat (first | (with_reducible first | exact HB.out | apply below_alloc | apply pw_below_drewN | apply below_drew1) | exact HB.out))) : w.heap.size ≤ gb195)); have n4_ := Aside0.mk ((by rw [hg]; exact (below_size (by repeat (first | (with_reducible first | exact HB.out | apply below_alloc | apply pw_below_drewN | apply below_drew1) | exact HB.out))) : w.heap.size ≤ gb195)); clear HO0_1; clear HB; have HO0_1 := n0_; have HB := n1_; have BK195 := n2_; have GW195 := n3_; have GE195 := n4_; clear n0_ n1_ n2_ n3_ n4_; clear hb hbox hg) | ((with_reducible refine gate_dst (N := 2) rfl ?_); refine box_event ?hg (N := 2) ?hd (cs := #[.bool false, .slice none 0 0, .int .i64 0]) (t := 25) ?hr ?_; (case hd => rfl); (case hg => rfl); (case hr => first | (go_simp; done) | (go_simp; rfl) | (go_simp; simp only [x_u32u8, x_u8, x_u32, x_u64, x_mm]; first | done | rfl)); intro gb196 hg w12 hbox hb; have n0_ := Aside0.mk (Kd.V_below (Kd.V_elderB (by (with_reducible repeat (first | apply Kd.V_alloc | apply Kd.V_drewN | apply Kd.V_drew)); exact HO0_1.out) gb196 (Nat.le_of_eq hg.symm)) hb); have n1_ := Aside0.mk (blk_below (g := gb195) (o := .cells #[.bool a0_0, .slice A0_1 l0_1.length c0_1, .int .i64 a0_2] 25 (0, 0)) (by (with_reducible repeat (first | refine blk_drewN ?_ _ | refine blk_drew ?_ | refine blk_alloc ?_ _)); exact BK195.out) hb); have n2_ := Aside0.mk (below_step (by repeat (first | (with_reducible first | exact HB.out | apply below_alloc | apply pw_below_drewN | apply below_drew1 | refine below_set ?_ GE195.out) | exact HB.out)) hb); have n3_ := Aside0.mk (hbox); have n4_ := Aside0.mk ((by rw [hg]; exact (below_size (by repeat (first | (with_reducible first | exact HB.out | apply below_alloc | apply pw_below_drewN | apply below_drew1 | refine below_set ?_ GE195.out) | exact HB.out))) : w.heap.size ≤ gb196)); have n5_ := Aside0.mk ((by rw [hg]; exact (below_size (by repeat (first | (with_reducible first | exact HB.out | apply below_alloc | apply pw_below_drewN | apply below_drew1 | refine below_set ?_ GE195.out) | exact HB.out))) : w.heap.size ≤ gb196)); have n6_ := Aside0.mk ((by rw [hg]; exact Nat.ne_of_lt (blk_lt (g := gb195) (o := .cells #[.bool a0_0, .slice A0_1 l0_1.length c0_1, .int .i64 a0_2] 25 (0, 0)) (by (with_reducible repeat (first | refine blk_drewN ?_ _ | refine blk_drew ?_ | refine blk_alloc ?_ _)); exact BK195.out)) : gb195 ≠ gb196)); have n7_ := Aside0.mk ((by rw [hg]; exact Nat.ne_of_gt (blk_lt (g := gb195) (o := .cells #[.bool a0_0, .slice A0_1 l0_1.length c0_1, .int .i64 a0_2] 25 (0, 0)) (by (with_reducible repeat (first | refine blk_drewN ?_ _ | refine blk_drew ?_ | refine blk_alloc ?_ _)); exact BK195.out)) : gb196 ≠ gb195)); clear HO0_1; clear BK195; clear HB; have HO0_1 := n0_; have BK195 := n1_; have HB := n2_; have BK196 := n3_; have GW196 := n4_; have GE196 := n5_; have NB195_196 := n6_; have NB196_195 := n7_; clear n0_ n1_ n2_ n3_ n4_ n5_ n6_ n7_; clear hb hbox hg; have hnb13 := NB195_196.out; have hnc13 := NB196_195.out; have hcz14_0 : w12.cell? ⟨gb195, 0, none⟩ = some (.bool a0_0) := (blk_cell BK195.out 0).trans rfl; have hcz14_1 : w12.cell? ⟨gb195, 1, none⟩ = some (.slice A0_1 l0_1.length c0_1) := (blk_cell BK195.out 1).trans rfl; have hcz14_2 : w12.cell? ⟨gb195, 2, none⟩ = some (.int .i64 a0_2) := (blk_cell BK195.out 2).trans rfl; have hfz14_0 := blk_frozen BK195.out 0; have hfz14_1 := blk_frozen BK195.out 1; have hfz14_2 := blk_frozen BK195.out 2) | ((with_reducible refine gate_callee (f := 19) rfl ?_); refine goesL_ (some 4) rfl rfl Tryd.func19 (by kernel_rfl) rfl #[.agg #[.bool a0_0, .slice A0_1 l0_1.length c0_1, .int .i64 a0_2]] rfl (by (try simp only [List.map_toArray, List.map_cons, List.map_nil]); first | done | rfl | (simp only [List.length_drop, List.length_take]; rfl)) ?_; (with_reducible refine (num_Check.calls k a0_0 _ _ l0_1 a0_2 false _ ?side1 ?side2 A2.out).mono ?_); (case side1 => repeat (first | exact (Kd.V_reads' HO0_1.out).2.2 | (with_reducible refine Kd.C_alloc ?_ _) | (with_reducible refine Kd.C_drewN ?_ _) | (with_reducible refine Kd.C_drew ?_))); (case side2 => exact (Kd.V_reads' HO0_1.out).2.1); rintro e w15 ⟨rfl, hb⟩; refine ⟨_, rfl, ?_⟩; have n0_ := Aside0.mk (Kd.V_below (by (with_reducible repeat (first | apply Kd.V_alloc | apply Kd.V_drewN | apply Kd.V_drew)); exact HO0_1.out) hb); have n1_ := Aside0.mk (blk_below (g := gb195) (o := .cells #[.bool a0_0, .slice A0_1 l0_1.length c0_1, .int .i64 a0_2] 25 (0, 0)) (by (with_reducible repeat (first | refine blk_drewN ?_ _ | refine blk_drew ?_ | refine blk_alloc ?_ _)); exact BK195.out) hb); have n2_ := Aside0.mk (blk_below (g := gb196) (o := .cells #[.bool false, .slice none 0 0, .int .i64 0] 25 (0, 0)) (by (with_reducible repeat (first | refine blk_drewN ?_ _ | refine blk_drew ?_ | refine blk_alloc ?_ _)); exact BK196.out) hb); have n3_ := Aside0.mk (below_step (by repeat (first | (with_reducible first | exact HB.out | apply below_alloc | apply pw_below_drewN | apply below_drew1 | refine below_set ?_ GE195.out | refine below_set ?_ GE196.out) | exact HB.out)) hb); clear HO0_1; clear BK195; clear BK196; clear HB; have HO0_1 := n0_; have BK195 := n1_; have BK196 := n2_; have HB := n3_; clear n0_ n1_ n2_ n3_; (try clear hb); (try clear hb2); (try clear hk); (try clear hi); have hcz16_0 : w15.cell? ⟨gb196, 0, none⟩ = some (.bool false) := (blk_cell BK196.out 0).trans rfl; have hcz16_1 : w15.cell? ⟨gb196, 1, none⟩ = some (.slice none 0 0) := (blk_cell BK196.out 1).trans rfl; have hcz16_2 : w15.cell? ⟨gb196, 2, none⟩ = some (.int .i64 0) := (blk_cell BK196.out 2).trans rfl; have hfz16_0 := blk_frozen BK196.out 0; have hfz16_1 := blk_frozen BK196.out 1; have hfz16_2 := blk_frozen BK196.out 2))
    refine bodyPost_ret (results_cell_row rfl _ _ gb196 25 #[.bool false, .slice none 0 0, .int .i64 0] (0, 0) _ rfl (by (with_reducible repeat (first | refine blk_drewN ?_ _ | refine blk_drew ?_ | refine blk_alloc ?_ _)); refine blk_put (cs := #[.bool false, .slice none 0 0, .int .i64 0]) ?_ 2 _ rfl; (with_reducible repeat (first | refine blk_drewN ?_ _ | refine blk_drew ?_ | refine blk_alloc ?_ _)); refine blk_put (cs := #[.bool false, .slice none 0 0, .int .i64 0]) ?_ 1 _ rfl; (with_reducible repeat (first | refine blk_drewN ?_ _ | refine blk_drew ?_ | refine blk_alloc ?_ _)); refine blk_put (cs := #[.bool false, .slice none 0 0, .int .i64 0]) ?_ 0 _ rfl; (with_reducible repeat (first | refine blk_drewN ?_ _ | refine blk_drew ?_ | refine blk_alloc ?_ _)); exact BK196.out) Tryd.underlying25 rfl (by kernel_rfl)) rfl ?_
    exact ⟨_, by first | rfl | (simp [errW_none, errW_some] <;> rfl) | (simp [*, errW_none, errW_some] <;> rfl), (Kd.V_nil _ _ _ _ _), by repeat (first | (with_reducible first | exact HB.out | apply below_alloc | apply pw_below_drewN | apply below_drew1 | refine below_set ?_ GE195.out | refine below_set ?_ GE196.out) | exact HB.out)⟩

end Go.Proofs.YtmkdcokdilllcaaDoor.X
/- The contracts of the Builder's WriteString and String, laid by hand over this translation. -/
namespace Go.Proofs.YtmkdcokdilllcaaDoor.B
open Go.Shelf
def ren : Go.Shelf.Ren := ⟨fun | 166 => 55 | 240 => 70 | 276 => 85 | 169 => 57 | n => n, fun | 0 => 0 | 3 => 3 | 4 => 4 | 5 => 5 | 9 => 9 | 20 => 20 | 37 => 77 | 70 => 78 | 72 => 80 | 75 => 82 | 80 => 73 | 164 => 108 | 127 => 102 | n => n, fun | n => n⟩
theorem lays166 : Go.Proofs.Lays.n166 Tryd.prog ren := {
  mixed := by kernel_rfl
  f166 := Tryd.func55.trans (congrArg some (by kernel_rfl))
  f240 := Tryd.func70.trans (congrArg some (by kernel_rfl))
  f276 := Tryd.func85.trans (congrArg some (by kernel_rfl))
  t0 := Tryd.underlying0
  a0 := Tryd.isAgg0
  z0 := Tryd.sizeOf0
  v0 := Tryd.zeroValue0
  t3 := Tryd.underlying3
  a3 := Tryd.isAgg3
  z3 := Tryd.sizeOf3
  v3 := Tryd.zeroValue3
  t4 := Tryd.underlying4
  a4 := Tryd.isAgg4
  z4 := Tryd.sizeOf4
  v4 := Tryd.zeroValue4
  t9 := Tryd.underlying9
  a9 := Tryd.isAgg9
  z9 := Tryd.sizeOf9
  v9 := Tryd.zeroValue9
  t20 := Tryd.underlying20
  a20 := Tryd.isAgg20
  z20 := Tryd.sizeOf20
  v20 := Tryd.zeroValue20
  t37 := Tryd.underlying77
  a37 := Tryd.isAgg77
  z37 := Tryd.sizeOf77
  v37 := Tryd.zeroValue77
  t70 := Tryd.underlying78
  a70 := Tryd.isAgg78
  z70 := Tryd.sizeOf78
  v70 := Tryd.zeroValue78
  t72 := Tryd.underlying80
  a72 := Tryd.isAgg80
  z72 := Tryd.sizeOf80
  v72 := Tryd.zeroValue80
  t75 := Tryd.underlying82
  a75 := Tryd.isAgg82
  z75 := Tryd.sizeOf82
  v75 := Tryd.zeroValue82
  t164 := Tryd.underlying108
  a164 := Tryd.isAgg108
  z164 := Tryd.sizeOf108
  v164 := Tryd.zeroValue108 }
theorem extra : Builder.Extra Tryd.prog ren := {
  sizeBuilder := by kernel_rfl
  liesBuilder := by kernel_rfl
  t5 := Tryd.underlying5
  a5 := Tryd.isAgg5
  z5 := Tryd.sizeOf5
  v5 := Tryd.zeroValue5
  infoByte := by kernel_rfl
  cellsByte := by kernel_rfl
  sizeByte := by kernel_rfl
  neB5 := by decide }
open Go.RowKit in
theorem WriteString (B b : Nat) (bs : List Value) (s : ByteArray) (w : World) (h : Lib.IsBuilder 80 5 B b bs w) (hlen : bs.length + s.size ≤ 140737488355328) (hBw : B ≤ w.heap.size) :
    Calls Tryd.prog 55 #[.pointer (some ⟨b, 0, none⟩), .string s] w fun e w' => e = .returned (.tuple #[.int .i64 s.size, .nilIface]) ∧ (Lib.BuilderAt 80 5 B b (.pointer (some ⟨b, 0, none⟩)) (bs ++ Lib.strCells s) w' ∧ Below B w w') := Any.Builder_WriteString lays166 extra B b bs s w h hlen hBw
end Go.Proofs.YtmkdcokdilllcaaDoor.B
/- nat.Digits comes to the decimal digits of the natural. -/
namespace Go.Proofs.YtmkdcokdilllcaaDoor.X
open Go.RowKit Go.Proofs.YtmkdcokdilllcaaDoorW.PrintWords Go.Proofs.YtmkdcokdilllcaaDoorW.PrintLast Go.Proofs.YtmkdcokdilllcaaDoorW.PrintMore
set_option linter.unusedVariables false
set_option linter.unusedSimpArgs false
/-! the digits -/
/-- k decimal digits, noughts ahead. -/
def digs : Nat → Nat → List UInt8
  | 0, _ => []
  | k + 1, v => UInt8.ofNat (48 + v / 10 ^ k % 10) :: digs k v
theorem digs_length (k v : Nat) : (digs k v).length = k := by
  induction k with
  | zero => rfl
  | succ k ih => simp [digs, ih]
theorem digs_add (a b v : Nat) : digs (a + b) v = digs a (v / 10 ^ b) ++ digs b v := by
  induction a with
  | zero => simp [digs]
  | succ a ih =>
    rw [Nat.succ_add]
    simp only [digs, List.cons_append, ih]
    rw [Nat.div_div_eq_div_mul, ← Nat.pow_add, Nat.add_comm b a]
theorem digs_mod (k v : Nat) : digs k (v % 10 ^ k) = digs k v := by
  have key : ∀ k m, k ≤ m → digs k (v % 10 ^ m) = digs k v := by
    intro k
    induction k with
    | zero => intro m _; rfl
    | succ k ih =>
      intro m hm
      simp only [digs]
      rw [ih m (by omega)]
      congr 3
      obtain ⟨j, rfl⟩ : ∃ j, m = k + 1 + j := ⟨m - (k + 1), by omega⟩
      rw [Nat.pow_add, Nat.pow_succ, Nat.mul_assoc, Nat.mod_mul_right_div_self, Nat.mod_mul_right_mod]
  exact key k k (Nat.le_refl _)
theorem digs_snoc (k v : Nat) : digs (k + 1) v = digs k (v / 10) ++ [UInt8.ofNat (48 + v % 10)] := by
  rw [digs_add k 1 v]
  simp [digs]
theorem trim_digs (k : Nat) : ∀ n, n < 10 ^ k → Lib.trimLeftB (digs k n) 48 = if n = 0 then [] else Lib.decDigits n := by
  induction k with
  | zero => intro n hn; have : n = 0 := by omega
            subst this; rfl
  | succ k ih =>
    intro n hn
    rw [digs_snoc]
    have h10 := ih (n / 10) (by rw [Nat.pow_succ] at hn; omega)
    unfold Lib.trimLeftB at h10 ⊢
    rw [List.dropWhile_append, h10]
    by_cases h0 : n / 10 = 0
    · simp only [h0, if_true, List.isEmpty_nil]
      by_cases hz : n = 0
      · subst hz
        decide
      · rw [if_neg hz]
        unfold Lib.decDigits
        rw [dif_pos (by omega)]
        have hlt : n < 10 := by omega
        have hne : (UInt8.ofNat (48 + n % 10) == 48) = false := by
          rw [Nat.mod_eq_of_lt hlt]
          have : ∀ m : Fin 10, m.val ≠ 0 → (UInt8.ofNat (48 + m.val) == 48) = false := by decide
          exact this ⟨n, hlt⟩ hz
        rw [List.dropWhile_cons, hne, Nat.mod_eq_of_lt hlt]
        rfl
    · have hz : n ≠ 0 := by omega
      simp only [h0, if_false, hz]
      have hne : (Lib.decDigits (n / 10)).isEmpty = false := by
        unfold Lib.decDigits
        split <;> simp
      rw [hne]
      conv => rhs; unfold Lib.decDigits
      rw [dif_neg (by omega)]
      rfl
/-- The pieces from the last one on, one behind the other. -/
def cat : List ByteArray → List UInt8
  | [] => []
  | p :: ps => cat ps ++ p.data.toList
theorem cat_snoc (ps : List ByteArray) (p : ByteArray) : cat (ps ++ [p]) = p.data.toList ++ cat ps := by
  induction ps with
  | nil => simp [cat]
  | cons q ps ih => simp [cat, ih]
def nat_Digits.f (l0 : List Int) : Option ByteArray := if (∀ x ∈ l0, 0 ≤ x ∧ x < 4294967296) ∧ l0.length ≤ 1048576 then some ⟨(Lib.decDigits (val l0)).toArray⟩ else none
/-- What the first loop keeps. -/
def DigRel (w w' : World) (n0 n : Nat) (v0 v3 : Value) : Prop :=
  ∃ ps : List ByteArray, Kd.R (Kd.int .u32) 40 w' w.heap.size (fun _ => True) v0 (lim n) ∧ Kd.R Kd.string 9 w' w.heap.size (fun _ => True) v3 ps ∧
    n = n0 / 10 ^ (9 * ps.length) ∧ cat ps = digs (9 * ps.length) n0 ∧ (0 < ps.length → 10 ^ (9 * ps.length - 9) ≤ n0) ∧ Below w.heap.size w w'
/-- What the inner loop keeps: the last i cells hold digits. -/
def cellsAt (i v : Nat) : List Int := List.replicate (9 - i) 0 ++ (digs i v).map fun b => (b.toNat : Int)
theorem cellsAt_step (i v : Nat) (h : i < 9) : (cellsAt i v).set (8 - i) (((48 + v / 10 ^ i % 10) % 256 : Nat) : Int) = cellsAt (i + 1) v := by
  unfold cellsAt
  have h1 : 8 - i < (List.replicate (9 - i) (0 : Int)).length := by simp; omega
  rw [List.set_append_left _ _ h1, show 9 - i = (8 - i) + 1 by omega, List.replicate_succ', List.set_append_right _ _ (by simp), List.length_replicate, Nat.sub_self, show 9 - (i + 1) = 8 - i by omega, List.append_assoc]
  congr 1
theorem nums_set (k : IntKind) (xs : List Int) (i : Nat) (x : Int) : (nums k xs).set i (.int k x) = nums k (xs.set i x) := by simp [nums, List.map_set]
theorem str_cells (v : Nat) : (strOfNums (cellsAt 9 v)).data.toList = digs 9 v := by
  have : cellsAt 9 v = (digs 9 v).map fun b => (b.toNat : Int) := by simp [cellsAt]
  rw [this]
  have e : ((fun n : Int => UInt8.ofNat n.toNat) ∘ fun b : UInt8 => (b.toNat : Int)) = id := by funext b; simp
  simp [strOfNums, e]
theorem lim_len_small {l : List Int} (h : Ok l) (n : Nat) (hn : n ≤ val l) : (lim n).length ≤ l.length := lim_len_le (Nat.lt_of_le_of_lt hn (val_lt h))
theorem pow_two_le (k : Nat) : 2 ^ k ≤ 10 ^ k := Nat.pow_le_pow_left (by omega) k
theorem pieces_le {n0 m j : Nat} (hn : n0 < 4294967296 ^ m) (h : 0 < j → 10 ^ (9 * j - 9) ≤ n0) : 9 * j ≤ 32 * m + 9 := by
  rcases Nat.lt_or_ge (32 * m + 9) (9 * j) with hlt | hge
  · exfalso
    have h1 := h (by omega)
    have h2 : 2 ^ (32 * m) ≤ 10 ^ (9 * j - 9) := Nat.le_trans (pow_two_le _) (Nat.pow_le_pow_right (by omega) (by omega))
    rw [Nat.pow_mul] at h2
    have : (2 : Nat) ^ 32 = 4294967296 := by decide
    rw [this] at h2
    omega
  · exact hge
theorem cat_drop {ps : List ByteArray} {i : Nat} (h : i < ps.length) : cat (ps.drop (ps.length - (i + 1))) = cat (ps.drop (ps.length - i)) ++ (rdOf ByteArray.empty ps ((ps.length : Int) - 1 - i)).data.toList := by
  have h1 : ps.length - (i + 1) < ps.length := by omega
  rw [List.drop_eq_getElem_cons h1, cat, show ps.length - (i + 1) + 1 = ps.length - i by omega]
  congr 2
  unfold rdOf
  rw [show ((ps.length : Int) - 1 - i).toNat = ps.length - (i + 1) by omega, List.getD_eq_getElem?_getD, List.getElem?_eq_getElem h1]
  rfl
theorem cat_le {ps : List ByteArray} (i : Nat) : (cat (ps.drop i)).length ≤ (cat ps).length := by
  induction ps generalizing i with
  | nil => simp
  | cons p ps ih =>
    rcases i with _ | i
    · simp
    · have := ih i
      simp [cat] at this ⊢
      omega
set_option maxHeartbeats 8000000 in
set_option maxRecDepth 100000 in
theorem nat_Digits.calls (A0 : Option Addr) (c0 : Nat) (l0 : List Int) (r : ByteArray) (w : World) (hr0 : Kd.C (Kd.int .u32) w A0 l0.length l0) (hc0 : l0.length ≤ c0) (h : nat_Digits.f l0 = some r) :
    Calls Tryd.prog 34 #[.slice A0 l0.length c0] w fun e w' => e = .returned (.string r) ∧ Below w.heap.size w w' := by
  unfold nat_Digits.f at h
  by_cases hl : (∀ x ∈ l0, 0 ≤ x ∧ x < 4294967296) ∧ l0.length ≤ 1048576
  case neg => rw [if_neg hl] at h; exact absurd h (by simp)
  rw [if_pos hl] at h
  obtain rfl := Option.some.inj h
  clear h
  obtain ⟨hok, hlen⟩ := hl
  have HOK := Aside0.mk hok
  have HR := Aside0.mk hr0
  have HN := Aside0.mk (nat_Norm_eq (l := l0) hok (by omega))
  clear hr0 hok
  go_enter Tryd.func34, Tryd.ntmps34
  go_wp2_with fail
  refine (nat_Norm.calls _ _ _ _ _ HR.out hc0 HN.out).mono ?_
  rintro e w1 ⟨v0, rfl, ho, hb⟩
  have HS : Aside0 (DigRel w w1 (val l0) (val l0) v0 (.slice none 0 0)) := ⟨[], ho, Kd.R_nil _ _ _ _ _, by simp, by simp [cat, digs], by simp, hb⟩
  clear ho hb
  go_wp2
  go_loopg [0, 3] (val l0) (fun n v0 v3 w' => Aside0 (DigRel w w' (val l0) n v0 v3))
  case atStart => exact HS
  case round =>
    clear HS
    obtain ⟨W0, rfl⟩ : ∃ W0, W0 = wr := ⟨_, rfl⟩
    obtain ⟨ps, hA, hP, hn, hcat, hlo, hb⟩ := hrel.out
    clear hrel
    have HA := Aside0.mk hA
    have HP := Aside0.mk hP
    have HB := Aside0.mk hb
    have HN2 := Aside0.mk hn
    have HC := Aside0.mk hcat
    have HLO := Aside0.mk hlo
    clear hA hP hb hn hcat hlo
    obtain ⟨Ao, co, e0⟩ := Kd.R_slice HA.out
    subst e0
    by_cases h0 : gk = 0
    · subst h0
      have hz : (lim 0).length = 0 := by rw [lim_zero]; rfl
      have hb0 : decide (0 < (lim 0).length) = false := by rw [hz]; rfl
      clear hz
      obtain ⟨Ap, cp, e1⟩ := Kd.R_slice HP.out
      subst e1
      have HLE := Aside0.mk (pieces_le (val_lt HOK.out) HLO.out)
      have HCL := Aside0.mk (show (cat ps).length = 9 * ps.length from by rw [HC.out, digs_length])
      have hpl : ps.length ≤ 33554441 := by have := HLE.out; omega
      go_wp2
      have hfz := Lib.fresh_isBuilder 80 5 W0
      have HF := Aside0.mk (show Lib.IsBuilder 80 5 W0.heap.size W0.heap.size (Lib.byteCells (cat (ps.drop (ps.length - 0)))) (W0.alloc (.cells #[.pointer none, .slice none 0 0] 80)) from by
        rw [Nat.sub_zero, List.drop_length]
        exact hfz)
      clear hfz
      have HPR := Aside0.mk (Kd.R_reads' HP.out).2.2
      go_loopw [42] (fun v42 w' => ∃ i : Nat, i ≤ ps.length ∧ v42 = .int .i64 i ∧ Aside0 (Lib.IsBuilder 80 5 W0.heap.size W0.heap.size (Lib.byteCells (cat (ps.drop (ps.length - i)))) w') ∧ Aside0 (Below W0.heap.size W0 w')) (fun v42 _ => ps.length - (intOf v42).toNat)
      case atStart => exact ⟨0, Nat.zero_le _, rfl, HF, ⟨below_alloc (Below.refl _ _) _⟩⟩
      case round =>
        clear HF
        obtain ⟨i, hi, rfl, HI, HW⟩ := hrel
        by_cases hlt : i < ps.length
        · obtain ⟨ad, e, hx⟩ := Kd.at_string HPR.out ((ps.length : Int) - 1 - i) (by omega) (by omega)
          cases e
          have hx2 := (HW.out.cell (World.block_lt_of_cell? _ _ hx)).trans hx
          clear hx
          have hx3 : wr.cell? (ad.add (ps.length - 1 - i)) = some (.string (rdOf ByteArray.empty ps ((ps.length : Int) - 1 - i))) := by
            rw [← show ((ps.length : Int) - 1 - i).toNat = ps.length - 1 - i by omega]
            exact hx2
          have HX := Aside0.mk (cat_drop hlt)
          have HLN := Aside0.mk (cat_le (ps := ps) (ps.length - (i + 1)))
          generalize hss : rdOf ByteArray.empty ps ((ps.length : Int) - 1 - i) = s at *
          clear hss
          go_wp2_with fail
          refine (B.WriteString _ _ _ s _ HI.out (by
            have h1 := HLN.out
            have h2 := HX.out
            have h3 := HCL.out
            rw [h2, List.length_append, data_length, h3] at h1
            have h5 : (Lib.byteCells (cat (ps.drop (ps.length - i)))).length = (cat (ps.drop (ps.length - i))).length := by simp [Lib.byteCells]
            omega) HW.out.size).mono ?_
          rintro e w2 ⟨rfl, hB2, hb2⟩
          have HI2 := Aside0.mk (show Lib.IsBuilder 80 5 W0.heap.size W0.heap.size (Lib.byteCells (cat (ps.drop (ps.length - (i + 1))))) w2 from .inr (by
            rw [HX.out]
            have : Lib.byteCells (cat (ps.drop (ps.length - i)) ++ s.data.toList) = Lib.byteCells (cat (ps.drop (ps.length - i))) ++ Lib.strCells s := by simp [Lib.byteCells, Lib.strCells]
            rw [this]
            exact hB2))
          have HW2 := Aside0.mk (HW.out.trans hb2)
          clear hB2 hb2
          go_wp2
          go_roundw
          case rel => exact ⟨i + 1, by omega, by go_num, HI2, HW2⟩
          case measure => simp [intOf]; omega
        · obtain rfl : i = ps.length := by omega
          have HI3 := Aside0.mk (show Lib.IsBuilder 80 5 W0.heap.size W0.heap.size (Lib.byteCells (digs (9 * ps.length) (val l0))) wr from by
            have := HI.out
            rw [Nat.sub_self, List.drop_zero, HC.out] at this
            exact this)
          have HTR := Aside0.mk (trim_digs (9 * ps.length) (val l0) (by
            have := HN2.out
            have hp : 0 < 10 ^ (9 * ps.length) := Nat.pow_pos (by omega)
            rcases Nat.lt_or_ge (val l0) (10 ^ (9 * ps.length)) with h | h
            · exact h
            · have := Nat.div_pos h hp
              omega))
          clear HI
          go_wp2_with fail
          refine (Tryd.Builder_String_any _ _ _ _ HI3.out HW.out.size).mono ?_
          rintro e w3 ⟨rfl, hb3⟩
          have HW3 := Aside0.mk (HW.out.trans hb3)
          clear hb3
          go_wp2_with fail
          refine (Tryd.strings_TrimLeft_one _ 48 (by decide) _).mono ?_
          rintro e w4 ⟨rfl, rfl⟩
          have HTR2 : (Lib.trimLeftB (digs (9 * ps.length) (val l0)).toArray.toList 48) = if val l0 = 0 then [] else Lib.decDigits (val l0) := HTR.out
          have HFIN := Aside0.mk (HB.out.trans (below_then (Below.refl _ _) (Nat.le_refl _) HW3.out |> fun h => (Below.mono h HB.out.size)))
          by_cases hz : val l0 = 0
          · rw [if_pos hz] at HTR2
            rw [HTR2]
            go_wp2
            go_ret
            rw [hz]
            exact ⟨by unfold Lib.decDigits; rfl, HFIN.out⟩
          · rw [if_neg hz] at HTR2
            rw [HTR2]
            have hne : (Lib.decDigits (val l0) != []) = true := by
              unfold Lib.decDigits
              split <;> simp
            have hne2 : Lib.decDigits (val l0) ≠ [] := by simpa using hne
            have hne3 : (Lib.decDigits (val l0)).isEmpty = false := by simpa using hne2
            have hne4 : (!(Lib.decDigits (val l0)).isEmpty) = true := by rw [hne3]; rfl
            have hne5 : (Lib.decDigits (val l0) == []) = false := by simpa using hne2
            have hne6 : ¬ (Lib.decDigits (val l0) = []) := hne2
            go_wp2
            go_ret
            exact ⟨rfl, HFIN.out⟩
    · have hle : gk ≤ val l0 := by
        have := HN2.out
        have h2 := Nat.div_le_self (val l0) (10 ^ (9 * ps.length))
        omega
      have hb1 : decide (0 < (lim gk).length) = true := by
        have h1 : (lim gk).length ≠ 0 := fun h => h0 ((lim_len_zero gk).1 h)
        simpa using Nat.pos_of_ne_zero h1
      have hls := lim_len_small (l := l0) HOK.out gk hle
      obtain ⟨k, hk⟩ := (nat_small_eq (d := 1000000000) (lim_ok gk) (by omega) (by decide) (by decide)).rounds
      rw [val_lim] at hk
      have HK := Aside0.mk hk
      have HPOS := Aside0.mk h0
      have HLE := Aside0.mk hle
      clear hk h0 hle
      go_wp2_with fail
      refine (nat_small.calls k _ _ _ 1000000000 _ _ _ (Kd.R_reads' HA.out).2.2 (Kd.R_reads' HA.out).2.1 HK.out).mono ?_
      rintro e w2 ⟨v4, rfl, ho, hb2⟩
      have HO := Aside0.mk (Kd.R_lower ho HB.out.size)
      have HP2 := Aside0.mk (Kd.R_below HP.out hb2)
      have HB2 := Aside0.mk (below_step HB.out hb2)
      clear ho hb2
      have e9 : (1000000000 : Int).toNat = 1000000000 := rfl
      rw [e9] at *
      have hv : gk % 1000000000 < 1000000000 := Nat.mod_lt _ (by omega)
      generalize hvv : gk % 1000000000 = v at *
      have HV := Aside0.mk hvv
      clear hvv e9
      go_wp2
      go_loopw [5, 22] (fun v5 v22 w' => ∃ i : Nat, i ≤ 9 ∧ v22 = .int .i64 i ∧ v5 = .int .u32 ((v / 10 ^ i : Nat) : Int) ∧ Aside0 (w'.heap[w2.heap.size]? = some (.cells (nums .u8 (cellsAt i v)).toArray 76 (0, 0))) ∧ Aside0 (Below w2.heap.size w2 w')) (fun _ v22 _ => 9 - (intOf v22).toNat)
      case atStart => exact ⟨0, by omega, rfl, by simp, ⟨by have := heap_alloc_new w2 (.cells #[.int .u8 0, .int .u8 0, .int .u8 0, .int .u8 0, .int .u8 0, .int .u8 0, .int .u8 0, .int .u8 0, .int .u8 0] 76); exact this⟩, ⟨below_alloc (Below.refl _ _) _⟩⟩
      case round =>
        obtain ⟨i, hi, rfl, rfl, HC5, HW5⟩ := hrel
        by_cases hlt : i < 9
        · have hx2 : v / 10 ^ i < 1000000000 := Nat.lt_of_le_of_lt (Nat.div_le_self _ _) hv
          have hst := cellsAt_step i v hlt
          have hnx : v / 10 ^ (i + 1) = v / 10 ^ i / 10 := by rw [Nat.pow_succ, Nat.div_div_eq_div_mul]
          generalize hxx : v / 10 ^ i = x at *
          have HST := Aside0.mk hst
          have HNX := Aside0.mk hnx
          clear hxx hst hnx
          have hcl : (cellsAt i v).length = 9 := by simp [cellsAt, digs_length]; omega
          obtain ⟨old, hcell⟩ : ∃ old, wr.cell? ⟨w2.heap.size, 8 - i, none⟩ = some (.int .u8 old) := by
            rw [blk_cell HC5.out]
            exact ⟨(cellsAt i v)[8 - i]'(by omega), by simp [nums, List.getElem?_eq_getElem (show 8 - i < (cellsAt i v).length by omega)]⟩
          have hfz : wr.frozen? ⟨w2.heap.size, 8 - i, none⟩ = false := Lib.frozen_of_heap HC5.out _
          clear hcl
          go_wp2
          go_roundw
          case rel => exact ⟨i + 1, by omega, by go_num, by rw [HNX.out]; go_num, ⟨by
            refine blk_put HC5.out (8 - i) _ ?_
            rw [List.setIfInBounds_toArray, nums_set, ← HST.out]
            first
              | rw [show (48 + (x : Int) % 10) = (((48 + x % 10) % 256 : Nat) : Int) by omega]
              | rw [show (48 + (x : Int) % 10) % 256 = (((48 + x % 10) % 256 : Nat) : Int) by omega]⟩, ⟨HW5.out.setCell (Nat.le_refl _) _⟩⟩
          case measure => simp [intOf]; omega
        · obtain rfl : i = 9 := by omega
          have hown : wr.ownsRow w2.heap.size 76 1 (.slice (some ⟨w2.heap.size, 0, none⟩) 9 9) 9 (nums .u8 (cellsAt 9 v)) := ⟨by simp [nums, cellsAt, digs_length], .inr ⟨_, 9, _, rfl, Nat.le_refl _, HC5.out, by omega, by decide, by simp [nums, cellsAt, digs_length], List.take_of_length_le (by simp [nums, cellsAt, digs_length])⟩⟩
          have hconv := own_string (P := Tryd.prog) Tryd.underlying77 Tryd.underlying5 Tryd.underlying9 hown
          have HSTR := Aside0.mk (str_cells v)
          have HPW := Aside0.mk (Kd.R_below HP2.out HW5.out)
          have HOW := Aside0.mk (Kd.R_below HO.out HW5.out)
          have HBW := Aside0.mk (below_step HB2.out HW5.out)
          have hpl := pieces_le (val_lt HOK.out) HLO.out
          have HPL := Aside0.mk hpl
          clear hown hpl
          generalize strOfNums (cellsAt 9 v) = s at *
          go_wp2_with (at_builtin; refine Kd.R_append Kd.string (w0 := w) w.heap.size rfl (.tmp 35) (.tmp 38) 75 9 (.string ⟨#[]⟩) 16 rfl Tryd.underlying75 (by kernel_rfl) rfl (by decide) (by omega) _ ps s [.string s] (fun _ => True) (fun _ => False) rfl rfl rfl (fun _ hk => hk.elim) (fun _ _ => trivial) HPW.out HBW.out (below_size HBW.out) (by have := HPL.out; omega) ?_; intro v5 w5 ho hb hg hat; have HOV := Aside0.mk (Kd.R_over' HOW.out (Kd.R_typed HPW.out) (by decide) hg); have HPV := Aside0.mk ho; have HBV := Aside0.mk hb; clear ho hb hg hat)
          go_roundg (gk / 1000000000)
          case measure => have := HPOS.out; omega
          case rel => exact ⟨by
            have hp : 0 < 10 ^ (9 * ps.length) := Nat.pow_pos (by omega)
            refine ⟨ps ++ [s], HOV.out, HPV.out, ?_, ?_, ?_, HBV.out⟩
            · have h1 := HN2.out
              rw [h1, Nat.div_div_eq_div_mul, List.length_append, List.length_singleton, Nat.mul_add, Nat.pow_add]
            · rw [cat_snoc, HSTR.out, HC.out, List.length_append, List.length_singleton, show 9 * (ps.length + 1) = 9 + 9 * ps.length by omega, digs_add, ← HN2.out, ← HV.out]
              rw [show (1000000000 : Nat) = 10 ^ 9 by decide, digs_mod]
            · intro _
              rw [List.length_append, List.length_singleton, show 9 * (ps.length + 1) - 9 = 9 * ps.length by omega]
              rcases Nat.lt_or_ge (val l0) (10 ^ (9 * ps.length)) with h | h
              · have h2 := HN2.out
                rw [Nat.div_eq_of_lt h] at h2
                exact absurd h2 HPOS.out
              · exact h⟩
end Go.Proofs.YtmkdcokdilllcaaDoor.X
/- strconv.Itoa, strings.Repeat, strings.Compare, as the walks ask them. -/
namespace Go.Proofs.YtmkdcokdilllcaaDoor.X
open Go.RowKit Go.Proofs.YtmkdcokdilllcaaDoorW.PrintWords
def strconv_Itoa_62.f (a0 : Int) : Option ByteArray := if -9223372036854775808 ≤ a0 ∧ a0 ≤ 9223372036854775807 then some ⟨(Lib.itoa a0).toArray⟩ else none
theorem strconv_Itoa_62.calls (a0 : Int) (r : ByteArray) (w : World) (hL : Laid w) (h : strconv_Itoa_62.f a0 = some r) :
    Calls Tryd.prog 62 #[.int .i64 a0] w fun e w' => e = .returned (.string r) ∧ Below w.heap.size w w' := by
  unfold strconv_Itoa_62.f at h
  split at h
  · rename_i hb
    obtain rfl := Option.some.inj h
    refine (Go.Proofs.Tryd.strconv_Itoa a0 hb.1 hb.2 w hL.pow10).mono ?_
    rintro e w' ⟨rfl, k, os, rfl⟩
    exact ⟨rfl, Lib.below_grow _ _ (Nat.le_refl _) _ _⟩
  · cases h
def strings_Repeat.f (a0 : ByteArray) (a1 : Int) : Option ByteArray := if 0 ≤ a1 ∧ a1 ≤ 9223372036854775807 ∧ a0.size * a1.toNat ≤ 140737488355328 then some ⟨(Lib.repeatL a0.data.toList a1.toNat).toArray⟩ else none
theorem strings_Repeat.calls (a0 : ByteArray) (a1 : Int) (r : ByteArray) (w : World) (h : strings_Repeat.f a0 a1 = some r) :
    Calls Tryd.prog 35 #[.string a0, .int .i64 a1] w fun e w' => e = .returned (.string r) ∧ Below w.heap.size w w' := by
  unfold strings_Repeat.f at h
  split at h
  · rename_i hb
    obtain rfl := Option.some.inj h
    obtain ⟨c, rfl⟩ := Int.eq_ofNat_of_zero_le hb.1
    have := Go.Proofs.Tryd.strings_Repeat a0 c w (by omega) (by simpa using hb.2.2)
    simpa using this
  · cases h
end Go.Proofs.YtmkdcokdilllcaaDoor.X
-- A walk, written by a program of this session (xp.py).
namespace Go.Proofs.YtmkdcokdilllcaaDoor.X
open Go.RowKit Go.Proofs.YtmkdcokdilllcaaDoorW.PrintWords Go.Proofs.YtmkdcokdilllcaaDoorW.PrintLast Go.Proofs.YtmkdcokdilllcaaDoorW.PrintMore
attribute [local go_sem] max2_int min2_int max_two min_two max_three min_three max_four min_four
set_option linter.unusedVariables false
set_option linter.unusedSimpArgs false

/-! ### erratumref02_Check: function 13 -/
def erratumref02_Check.f (k : Nat) (a0_0 : Bool) (l0_1 : List Int) (a0_2 : Int) : Option (Bool) := if (l0_1.length : Int) = 0 then (if a0_0 = true then (some false) else (some (a0_2 == 0))) else (if (l0_1.length : Int) > 90 then (some false) else (if 0 ≤ (wrap64 ((l0_1.length : Int) - 1)) then (if (wrap64 ((l0_1.length : Int) - 1)) < (l0_1.length : Int) then (if (rd l0_1 (wrap64 ((l0_1.length : Int) - 1))) = 0 then (some false) else (if a0_2 < (-1200) then (some false) else (if a0_2 > 1200 then (some false) else ((erratumref01_Small.f k l0_1 10).bind fun bt328 => (some (bt328.2 != 0)))))) else (none)) else (none)))
set_option maxHeartbeats 8000000 in
set_option maxRecDepth 100000 in
theorem erratumref02_Check.calls (k : Nat) (a0_0 : Bool) (A0_1 : Option Addr) (c0_1 : Nat) (l0_1 : List Int) (a0_2 : Int) (r : Bool) (w : World) (hr0_1 : Kd.C (Kd.int .u32) w A0_1 l0_1.length l0_1) (hc0_1 : l0_1.length ≤ c0_1) (h : erratumref02_Check.f k a0_0 l0_1 a0_2 = some r) :
    Calls Tryd.prog 13 #[.agg #[.bool a0_0, .slice A0_1 l0_1.length c0_1, .int .i64 a0_2]] w fun e w' => e = .returned (.bool r) ∧ Below w.heap.size w w' := by
  have hu25 := Tryd.underlying25
  have HR0_1 := Aside0.mk hr0_1
  have HC0_1 := Aside0.mk hc0_1
  clear hr0_1 hc0_1
  have HB := Aside0.mk (Below.refl w.heap.size w)
  have H : (if (l0_1.length : Int) = 0 then (if a0_0 = true then (some false) else (some (a0_2 == 0))) else (if (l0_1.length : Int) > 90 then (some false) else (if 0 ≤ (wrap64 ((l0_1.length : Int) - 1)) then (if (wrap64 ((l0_1.length : Int) - 1)) < (l0_1.length : Int) then (if (rd l0_1 (wrap64 ((l0_1.length : Int) - 1))) = 0 then (some false) else (if a0_2 < (-1200) then (some false) else (if a0_2 > 1200 then (some false) else ((erratumref01_Small.f k l0_1 10).bind fun bt328 => (some (bt328.2 != 0)))))) else (none)) else (none)))) = some r := h
  clear h
  by_cases c2 : (l0_1.length : Int) = 0
  · rw [if_pos c2] at H
    have c2b0 : ((l0_1.length : Int) == 0) = true := beq_iff_eq.mpr c2
    have c2b1 : ((l0_1.length : Int) != 0) = false := bne_eq_false_iff_eq.mpr c2
    clear c2
    by_cases c3 : a0_0 = true
    · subst c3
      have H1 : (some false) = some r := by rw [if_pos rfl] at H; exact H
      clear H
      have H := H1
      clear H1
      obtain rfl := Option.some.inj H
      go_enter Tryd.func13, Tryd.ntmps13
      go_wp2_with (first | ((with_reducible refine gate_dst (N := 1) rfl ?_); refine box_event ?hg (N := 1) ?hd (cs := #[.bool true, .slice A0_1 l0_1.length c0_1, .int .i64 a0_2]) (t := 25) ?hr ?_; (case hd => rfl); (case hg => rfl); (case hr => first | (go_simp; done) | (go_simp; rfl) | (go_simp; simp only [x_u32u8, x_u8, x_u32, x_u64, x_mm]; first | done | rfl)); intro gb326 hg w4 hbox hb; have n0_ := Aside0.mk (below_step (by repeat (first | (with_reducible first | exact HB.out | apply below_alloc | apply pw_below_drewN | apply below_drew1) | exact HB.out)) hb); have n1_ := Aside0.mk (hbox); have n2_ := Aside0.mk ((by rw [hg]; exact (below_size (by repeat (first | (with_reducible first | exact HB.out | apply below_alloc | apply pw_below_drewN | apply below_drew1) | exact HB.out))) : w.heap.size ≤ gb326)); have n3_ := Aside0.mk ((by rw [hg]; exact (below_size (by repeat (first | (with_reducible first | exact HB.out | apply below_alloc | apply pw_below_drewN | apply below_drew1) | exact HB.out))) : w.heap.size ≤ gb326)); clear HB; have HB := n0_; have BK326 := n1_; have GW326 := n2_; have GE326 := n3_; clear n0_ n1_ n2_ n3_; clear hb hbox hg; have hcz5_0 : w4.cell? ⟨gb326, 0, none⟩ = some (.bool true) := (blk_cell BK326.out 0).trans rfl; have hcz5_1 : w4.cell? ⟨gb326, 1, none⟩ = some (.slice A0_1 l0_1.length c0_1) := (blk_cell BK326.out 1).trans rfl; have hcz5_2 : w4.cell? ⟨gb326, 2, none⟩ = some (.int .i64 a0_2) := (blk_cell BK326.out 2).trans rfl; have hfz5_0 := blk_frozen BK326.out 0; have hfz5_1 := blk_frozen BK326.out 1; have hfz5_2 := blk_frozen BK326.out 2))
      go_ret
      exact ⟨by first | rfl | (simp [errW_none, errW_some] <;> rfl) | (simp [*, errW_none, errW_some] <;> rfl), by repeat (first | (with_reducible first | exact HB.out | apply below_alloc | apply pw_below_drewN | apply below_drew1 | refine below_set ?_ GE326.out) | exact HB.out)⟩
    · replace c3 := Bool.eq_false_iff.mpr c3
      subst c3
      have H1 : (some (a0_2 == 0)) = some r := by rw [if_neg (show ¬ (false = true) by decide)] at H; exact H
      clear H
      have H := H1
      clear H1
      obtain rfl := Option.some.inj H
      go_enter Tryd.func13, Tryd.ntmps13
      go_wp2_with (first | ((with_reducible refine gate_dst (N := 1) rfl ?_); refine box_event ?hg (N := 1) ?hd (cs := #[.bool false, .slice A0_1 l0_1.length c0_1, .int .i64 a0_2]) (t := 25) ?hr ?_; (case hd => rfl); (case hg => rfl); (case hr => first | (go_simp; done) | (go_simp; rfl) | (go_simp; simp only [x_u32u8, x_u8, x_u32, x_u64, x_mm]; first | done | rfl)); intro gb326 hg w6 hbox hb; have n0_ := Aside0.mk (below_step (by repeat (first | (with_reducible first | exact HB.out | apply below_alloc | apply pw_below_drewN | apply below_drew1) | exact HB.out)) hb); have n1_ := Aside0.mk (hbox); have n2_ := Aside0.mk ((by rw [hg]; exact (below_size (by repeat (first | (with_reducible first | exact HB.out | apply below_alloc | apply pw_below_drewN | apply below_drew1) | exact HB.out))) : w.heap.size ≤ gb326)); have n3_ := Aside0.mk ((by rw [hg]; exact (below_size (by repeat (first | (with_reducible first | exact HB.out | apply below_alloc | apply pw_below_drewN | apply below_drew1) | exact HB.out))) : w.heap.size ≤ gb326)); clear HB; have HB := n0_; have BK326 := n1_; have GW326 := n2_; have GE326 := n3_; clear n0_ n1_ n2_ n3_; clear hb hbox hg; have hcz7_0 : w6.cell? ⟨gb326, 0, none⟩ = some (.bool false) := (blk_cell BK326.out 0).trans rfl; have hcz7_1 : w6.cell? ⟨gb326, 1, none⟩ = some (.slice A0_1 l0_1.length c0_1) := (blk_cell BK326.out 1).trans rfl; have hcz7_2 : w6.cell? ⟨gb326, 2, none⟩ = some (.int .i64 a0_2) := (blk_cell BK326.out 2).trans rfl; have hfz7_0 := blk_frozen BK326.out 0; have hfz7_1 := blk_frozen BK326.out 1; have hfz7_2 := blk_frozen BK326.out 2))
      go_ret
      exact ⟨by first | rfl | (simp [errW_none, errW_some] <;> rfl) | (simp [*, errW_none, errW_some] <;> rfl), by repeat (first | (with_reducible first | exact HB.out | apply below_alloc | apply pw_below_drewN | apply below_drew1 | refine below_set ?_ GE326.out) | exact HB.out)⟩
  · rw [if_neg c2] at H
    have c2b0 : ((l0_1.length : Int) == 0) = false := beq_eq_false_iff_ne.mpr c2
    have c2b1 : ((l0_1.length : Int) != 0) = true := bne_iff_ne.mpr c2
    have c2b2 : ¬ (l0_1 = []) := fun h_ => c2 (by rw [h_]; rfl)
    by_cases c8 : (l0_1.length : Int) > 90
    · rw [if_pos c8] at H
      have c8b0 : decide (90 < (l0_1.length : Int)) = true := decide_eq_true c8
      have c8b1 : decide (90 < l0_1.length) = true := decide_eq_true (by omega)
      clear c8
      obtain rfl := Option.some.inj H
      go_enter Tryd.func13, Tryd.ntmps13
      go_wp2_with (first | ((with_reducible refine gate_dst (N := 1) rfl ?_); refine box_event ?hg (N := 1) ?hd (cs := #[.bool a0_0, .slice A0_1 l0_1.length c0_1, .int .i64 a0_2]) (t := 25) ?hr ?_; (case hd => rfl); (case hg => rfl); (case hr => first | (go_simp; done) | (go_simp; rfl) | (go_simp; simp only [x_u32u8, x_u8, x_u32, x_u64, x_mm]; first | done | rfl)); intro gb326 hg w9 hbox hb; have n0_ := Aside0.mk (below_step (by repeat (first | (with_reducible first | exact HB.out | apply below_alloc | apply pw_below_drewN | apply below_drew1) | exact HB.out)) hb); have n1_ := Aside0.mk (hbox); have n2_ := Aside0.mk ((by rw [hg]; exact (below_size (by repeat (first | (with_reducible first | exact HB.out | apply below_alloc | apply pw_below_drewN | apply below_drew1) | exact HB.out))) : w.heap.size ≤ gb326)); have n3_ := Aside0.mk ((by rw [hg]; exact (below_size (by repeat (first | (with_reducible first | exact HB.out | apply below_alloc | apply pw_below_drewN | apply below_drew1) | exact HB.out))) : w.heap.size ≤ gb326)); clear HB; have HB := n0_; have BK326 := n1_; have GW326 := n2_; have GE326 := n3_; clear n0_ n1_ n2_ n3_; clear hb hbox hg; have hcz10_0 : w9.cell? ⟨gb326, 0, none⟩ = some (.bool a0_0) := (blk_cell BK326.out 0).trans rfl; have hcz10_1 : w9.cell? ⟨gb326, 1, none⟩ = some (.slice A0_1 l0_1.length c0_1) := (blk_cell BK326.out 1).trans rfl; have hcz10_2 : w9.cell? ⟨gb326, 2, none⟩ = some (.int .i64 a0_2) := (blk_cell BK326.out 2).trans rfl; have hfz10_0 := blk_frozen BK326.out 0; have hfz10_1 := blk_frozen BK326.out 1; have hfz10_2 := blk_frozen BK326.out 2))
      go_ret
      exact ⟨by first | rfl | (simp [errW_none, errW_some] <;> rfl) | (simp [*, errW_none, errW_some] <;> rfl), by repeat (first | (with_reducible first | exact HB.out | apply below_alloc | apply pw_below_drewN | apply below_drew1 | refine below_set ?_ GE326.out) | exact HB.out)⟩
    · rw [if_neg c8] at H
      have c8b0 : decide (90 < (l0_1.length : Int)) = false := decide_eq_false c8
      have c8b1 : decide (90 < l0_1.length) = false := decide_eq_false (by omega)
      clear c8
      obtain ⟨ji11, hji11⟩ : ∃ j_ : Int, (wrap64 ((l0_1.length : Int) - 1)) = j_ := ⟨_, rfl⟩
      replace H : (if 0 ≤ (ji11) then (if (ji11) < (l0_1.length : Int) then (if (rd l0_1 (ji11)) = 0 then (some false) else (if a0_2 < (-1200) then (some false) else (if a0_2 > 1200 then (some false) else ((erratumref01_Small.f k l0_1 10).bind fun bt328 => (some (bt328.2 != 0)))))) else (none)) else (none)) = some r := by first | (rw [hji11] at H; exact H) | (simp only [hji11] at H ⊢; exact H)
      have hji11w : (IntKind.i64.wrap ((l0_1.length : Int) - 1)) = ji11 := (i64_w _).trans hji11
      by_cases c12 : 0 ≤ (ji11)
      · rw [if_pos c12] at H
        have c12b0 : decide (0 ≤ (ji11)) = true := decide_eq_true c12
        clear c12
        by_cases c13 : (ji11) < (l0_1.length : Int)
        · rw [if_pos c13] at H
          have c13b0 : decide ((ji11) < (l0_1.length : Int)) = true := decide_eq_true c13
          clear c13
          by_cases c14 : (rd l0_1 (ji11)) = 0
          · rw [if_pos c14] at H
            have c14b0 : ((rd l0_1 (ji11)) == 0) = true := beq_iff_eq.mpr c14
            have c14b1 : ((rd l0_1 (ji11)) != 0) = false := bne_eq_false_iff_eq.mpr c14
            clear c14
            obtain rfl := Option.some.inj H
            go_enter Tryd.func13, Tryd.ntmps13
            go_wp2_with (first | ((with_reducible refine gate_dst (N := 1) rfl ?_); refine box_event ?hg (N := 1) ?hd (cs := #[.bool a0_0, .slice A0_1 l0_1.length c0_1, .int .i64 a0_2]) (t := 25) ?hr ?_; (case hd => rfl); (case hg => rfl); (case hr => first | (go_simp; done) | (go_simp; rfl) | (go_simp; simp only [x_u32u8, x_u8, x_u32, x_u64, x_mm]; first | done | rfl)); intro gb326 hg w15 hbox hb; have n0_ := Aside0.mk (below_step (by repeat (first | (with_reducible first | exact HB.out | apply below_alloc | apply pw_below_drewN | apply below_drew1) | exact HB.out)) hb); have n1_ := Aside0.mk (hbox); have n2_ := Aside0.mk ((by rw [hg]; exact (below_size (by repeat (first | (with_reducible first | exact HB.out | apply below_alloc | apply pw_below_drewN | apply below_drew1) | exact HB.out))) : w.heap.size ≤ gb326)); have n3_ := Aside0.mk ((by rw [hg]; exact (below_size (by repeat (first | (with_reducible first | exact HB.out | apply below_alloc | apply pw_below_drewN | apply below_drew1) | exact HB.out))) : w.heap.size ≤ gb326)); clear HB; have HB := n0_; have BK326 := n1_; have GW326 := n2_; have GE326 := n3_; clear n0_ n1_ n2_ n3_; clear hb hbox hg; have hcz16_0 : w15.cell? ⟨gb326, 0, none⟩ = some (.bool a0_0) := (blk_cell BK326.out 0).trans rfl; have hcz16_1 : w15.cell? ⟨gb326, 1, none⟩ = some (.slice A0_1 l0_1.length c0_1) := (blk_cell BK326.out 1).trans rfl; have hcz16_2 : w15.cell? ⟨gb326, 2, none⟩ = some (.int .i64 a0_2) := (blk_cell BK326.out 2).trans rfl; have hfz16_0 := blk_frozen BK326.out 0; have hfz16_1 := blk_frozen BK326.out 1; have hfz16_2 := blk_frozen BK326.out 2; have p327 : 0 ≤ ((ji11) : Int) := of_decide_eq_true (by first | (with_reducible assumption) | assumption); have q327 : (ji11) < (l0_1.length : Int) := of_decide_eq_true (by first | (with_reducible assumption) | assumption); obtain ⟨ad327, e327, hx327_0⟩ := Kd.at_int HR0_1.out (ji11) p327 q327; cases e327; replace hx327_0 := (HB.out.cell (World.block_lt_of_cell? w _ hx327_0)).trans hx327_0; replace p327 := eq_true p327; replace q327 := eq_true q327))
            go_ret
            exact ⟨by first | rfl | (simp [errW_none, errW_some] <;> rfl) | (simp only [← hji11]; first | rfl | (simp [errW_none, errW_some] <;> rfl)) | (simp [*, errW_none, errW_some] <;> rfl), by repeat (first | (with_reducible first | exact HB.out | apply below_alloc | apply pw_below_drewN | apply below_drew1 | refine below_set ?_ GE326.out) | exact HB.out)⟩
          · rw [if_neg c14] at H
            have c14b0 : ((rd l0_1 (ji11)) == 0) = false := beq_eq_false_iff_ne.mpr c14
            have c14b1 : ((rd l0_1 (ji11)) != 0) = true := bne_iff_ne.mpr c14
            by_cases c17 : a0_2 < (-1200)
            · rw [if_pos c17] at H
              have c17b0 : decide (a0_2 < (-1200)) = true := decide_eq_true c17
              clear c17
              obtain rfl := Option.some.inj H
              go_enter Tryd.func13, Tryd.ntmps13
              go_wp2_with (first | ((with_reducible refine gate_dst (N := 1) rfl ?_); refine box_event ?hg (N := 1) ?hd (cs := #[.bool a0_0, .slice A0_1 l0_1.length c0_1, .int .i64 a0_2]) (t := 25) ?hr ?_; (case hd => rfl); (case hg => rfl); (case hr => first | (go_simp; done) | (go_simp; rfl) | (go_simp; simp only [x_u32u8, x_u8, x_u32, x_u64, x_mm]; first | done | rfl)); intro gb326 hg w18 hbox hb; have n0_ := Aside0.mk (below_step (by repeat (first | (with_reducible first | exact HB.out | apply below_alloc | apply pw_below_drewN | apply below_drew1) | exact HB.out)) hb); have n1_ := Aside0.mk (hbox); have n2_ := Aside0.mk ((by rw [hg]; exact (below_size (by repeat (first | (with_reducible first | exact HB.out | apply below_alloc | apply pw_below_drewN | apply below_drew1) | exact HB.out))) : w.heap.size ≤ gb326)); have n3_ := Aside0.mk ((by rw [hg]; exact (below_size (by repeat (first | (with_reducible first | exact HB.out | apply below_alloc | apply pw_below_drewN | apply below_drew1) | exact HB.out))) : w.heap.size ≤ gb326)); clear HB; have HB := n0_; have BK326 := n1_; have GW326 := n2_; have GE326 := n3_; clear n0_ n1_ n2_ n3_; clear hb hbox hg; have hcz19_0 : w18.cell? ⟨gb326, 0, none⟩ = some (.bool a0_0) := (blk_cell BK326.out 0).trans rfl; have hcz19_1 : w18.cell? ⟨gb326, 1, none⟩ = some (.slice A0_1 l0_1.length c0_1) := (blk_cell BK326.out 1).trans rfl; have hcz19_2 : w18.cell? ⟨gb326, 2, none⟩ = some (.int .i64 a0_2) := (blk_cell BK326.out 2).trans rfl; have hfz19_0 := blk_frozen BK326.out 0; have hfz19_1 := blk_frozen BK326.out 1; have hfz19_2 := blk_frozen BK326.out 2; have p327 : 0 ≤ ((ji11) : Int) := of_decide_eq_true (by first | (with_reducible assumption) | assumption); have q327 : (ji11) < (l0_1.length : Int) := of_decide_eq_true (by first | (with_reducible assumption) | assumption); obtain ⟨ad327, e327, hx327_0⟩ := Kd.at_int HR0_1.out (ji11) p327 q327; cases e327; replace hx327_0 := (HB.out.cell (World.block_lt_of_cell? w _ hx327_0)).trans hx327_0; replace p327 := eq_true p327; replace q327 := eq_true q327))
              go_ret
              exact ⟨by first | rfl | (simp [errW_none, errW_some] <;> rfl) | (simp only [← hji11]; first | rfl | (simp [errW_none, errW_some] <;> rfl)) | (simp [*, errW_none, errW_some] <;> rfl), by repeat (first | (with_reducible first | exact HB.out | apply below_alloc | apply pw_below_drewN | apply below_drew1 | refine below_set ?_ GE326.out) | exact HB.out)⟩
            · rw [if_neg c17] at H
              have c17b0 : decide (a0_2 < (-1200)) = false := decide_eq_false c17
              clear c17
              by_cases c20 : a0_2 > 1200
              · rw [if_pos c20] at H
                have c20b0 : decide (1200 < a0_2) = true := decide_eq_true c20
                clear c20
                obtain rfl := Option.some.inj H
                go_enter Tryd.func13, Tryd.ntmps13
                go_wp2_with (first | ((with_reducible refine gate_dst (N := 1) rfl ?_); refine box_event ?hg (N := 1) ?hd (cs := #[.bool a0_0, .slice A0_1 l0_1.length c0_1, .int .i64 a0_2]) (t := 25) ?hr ?_; (case hd => rfl); (case hg => rfl); (case hr => first | (go_simp; done) | (go_simp; rfl) | (go_simp; simp only [x_u32u8, x_u8, x_u32, x_u64, x_mm]; first | done | rfl)); intro gb326 hg w21 hbox hb; have n0_ := Aside0.mk (below_step (by repeat (first | (with_reducible first | exact HB.out | apply below_alloc | apply pw_below_drewN | apply below_drew1) | exact HB.out)) hb); have n1_ := Aside0.mk (hbox); have n2_ := Aside0.mk ((by rw [hg]; exact (below_size (by repeat (first | (with_reducible first | exact HB.out | apply below_alloc | apply pw_below_drewN | apply below_drew1) | exact HB.out))) : w.heap.size ≤ gb326)); have n3_ := Aside0.mk ((by rw [hg]; exact (below_size (by repeat (first | (with_reducible first | exact HB.out | apply below_alloc | apply pw_below_drewN | apply below_drew1) | exact HB.out))) : w.heap.size ≤ gb326)); clear HB; have HB := n0_; have BK326 := n1_; have GW326 := n2_; have GE326 := n3_; clear n0_ n1_ n2_ n3_; clear hb hbox hg; have hcz22_0 : w21.cell? ⟨gb326, 0, none⟩ = some (.bool a0_0) := (blk_cell BK326.out 0).trans rfl; have hcz22_1 : w21.cell? ⟨gb326, 1, none⟩ = some (.slice A0_1 l0_1.length c0_1) := (blk_cell BK326.out 1).trans rfl; have hcz22_2 : w21.cell? ⟨gb326, 2, none⟩ = some (.int .i64 a0_2) := (blk_cell BK326.out 2).trans rfl; have hfz22_0 := blk_frozen BK326.out 0; have hfz22_1 := blk_frozen BK326.out 1; have hfz22_2 := blk_frozen BK326.out 2; have p327 : 0 ≤ ((ji11) : Int) := of_decide_eq_true (by first | (with_reducible assumption) | assumption); have q327 : (ji11) < (l0_1.length : Int) := of_decide_eq_true (by first | (with_reducible assumption) | assumption); obtain ⟨ad327, e327, hx327_0⟩ := Kd.at_int HR0_1.out (ji11) p327 q327; cases e327; replace hx327_0 := (HB.out.cell (World.block_lt_of_cell? w _ hx327_0)).trans hx327_0; replace p327 := eq_true p327; replace q327 := eq_true q327))
                go_ret
                exact ⟨by first | rfl | (simp [errW_none, errW_some] <;> rfl) | (simp only [← hji11]; first | rfl | (simp [errW_none, errW_some] <;> rfl)) | (simp [*, errW_none, errW_some] <;> rfl), by repeat (first | (with_reducible first | exact HB.out | apply below_alloc | apply pw_below_drewN | apply below_drew1 | refine below_set ?_ GE326.out) | exact HB.out)⟩
              · rw [if_neg c20] at H
                have c20b0 : decide (1200 < a0_2) = false := decide_eq_false c20
                clear c20
                replace H := Option.bind_eq_some_iff.mp H
                obtain ⟨⟨t328, t329⟩, A230, H⟩ := H
                replace H : (some (t329 != 0)) = some r := H
                have A23 := Aside0.mk A230
                clear A230
                obtain rfl := Option.some.inj H
                go_enter Tryd.func13, Tryd.ntmps13
                go_wp2_with (first | ((with_reducible refine gate_dst (N := 1) rfl ?_); refine box_event ?hg (N := 1) ?hd (cs := #[.bool a0_0, .slice A0_1 l0_1.length c0_1, .int .i64 a0_2]) (t := 25) ?hr ?_; (case hd => rfl); (case hg => rfl); (case hr => first | (go_simp; done) | (go_simp; rfl) | (go_simp; simp only [x_u32u8, x_u8, x_u32, x_u64, x_mm]; first | done | rfl)); intro gb326 hg w24 hbox hb; have n0_ := Aside0.mk (below_step (by repeat (first | (with_reducible first | exact HB.out | apply below_alloc | apply pw_below_drewN | apply below_drew1) | exact HB.out)) hb); have n1_ := Aside0.mk (hbox); have n2_ := Aside0.mk ((by rw [hg]; exact (below_size (by repeat (first | (with_reducible first | exact HB.out | apply below_alloc | apply pw_below_drewN | apply below_drew1) | exact HB.out))) : w.heap.size ≤ gb326)); have n3_ := Aside0.mk ((by rw [hg]; exact (below_size (by repeat (first | (with_reducible first | exact HB.out | apply below_alloc | apply pw_below_drewN | apply below_drew1) | exact HB.out))) : w.heap.size ≤ gb326)); clear HB; have HB := n0_; have BK326 := n1_; have GW326 := n2_; have GE326 := n3_; clear n0_ n1_ n2_ n3_; clear hb hbox hg; have hcz25_0 : w24.cell? ⟨gb326, 0, none⟩ = some (.bool a0_0) := (blk_cell BK326.out 0).trans rfl; have hcz25_1 : w24.cell? ⟨gb326, 1, none⟩ = some (.slice A0_1 l0_1.length c0_1) := (blk_cell BK326.out 1).trans rfl; have hcz25_2 : w24.cell? ⟨gb326, 2, none⟩ = some (.int .i64 a0_2) := (blk_cell BK326.out 2).trans rfl; have hfz25_0 := blk_frozen BK326.out 0; have hfz25_1 := blk_frozen BK326.out 1; have hfz25_2 := blk_frozen BK326.out 2; have p327 : 0 ≤ ((ji11) : Int) := of_decide_eq_true (by first | (with_reducible assumption) | assumption); have q327 : (ji11) < (l0_1.length : Int) := of_decide_eq_true (by first | (with_reducible assumption) | assumption); obtain ⟨ad327, e327, hx327_0⟩ := Kd.at_int HR0_1.out (ji11) p327 q327; cases e327; replace hx327_0 := (HB.out.cell (World.block_lt_of_cell? w _ hx327_0)).trans hx327_0; replace p327 := eq_true p327; replace q327 := eq_true q327) | ((with_reducible refine gate_callee (f := 32) rfl ?_); refine goesL_ (some 43) rfl rfl Tryd.func32 (by kernel_rfl) rfl #[.slice (some ad327) l0_1.length c0_1, .int .u32 10] rfl (by (try simp only [List.map_toArray, List.map_cons, List.map_nil]); first | done | rfl | (simp only [List.length_drop, List.length_take]; rfl)) ?_; (with_reducible refine (erratumref01_Small.calls k _ _ l0_1 10 t328 t329 _ ?side1 ?side2 A23.out).mono ?_); (case side1 => repeat (first | exact (Kd.C_below HR0_1.out HB.out) | (with_reducible refine Kd.C_alloc ?_ _) | (with_reducible refine Kd.C_drewN ?_ _) | (with_reducible refine Kd.C_drew ?_))); (case side2 => exact HC0_1.out); rintro e w26 ⟨v330, rfl, ho0, hb⟩; refine ⟨_, rfl, ?_⟩; have n0_ := Aside0.mk (Kd.R_lower ho0 (below_size (by repeat (first | (with_reducible first | exact HB.out | apply below_alloc | apply pw_below_drewN | apply below_drew1 | refine below_set ?_ GE326.out) | exact HB.out)))); have n1_ := Aside0.mk (blk_below (g := gb326) (o := .cells #[.bool a0_0, .slice (some ad327) l0_1.length c0_1, .int .i64 a0_2] 25 (0, 0)) (by (with_reducible repeat (first | refine blk_drewN ?_ _ | refine blk_drew ?_ | refine blk_alloc ?_ _)); exact BK326.out) hb); have n2_ := Aside0.mk (below_step (by repeat (first | (with_reducible first | exact HB.out | apply below_alloc | apply pw_below_drewN | apply below_drew1 | refine below_set ?_ GE326.out) | exact HB.out)) hb); clear BK326; clear HB; have HO331 := n0_; have BK326 := n1_; have HB := n2_; clear n0_ n1_ n2_; (try clear hb); (try clear hb2); (try clear hk); (try clear hi); (try clear ho0)))
                go_ret
                exact ⟨by first | rfl | (simp [errW_none, errW_some] <;> rfl) | (simp only [← hji11]; first | rfl | (simp [errW_none, errW_some] <;> rfl)) | (simp [*, errW_none, errW_some] <;> rfl), by repeat (first | (with_reducible first | exact HB.out | apply below_alloc | apply pw_below_drewN | apply below_drew1 | refine below_set ?_ GE326.out) | exact HB.out)⟩
        · rw [if_neg c13] at H
          exact absurd H (by simp)
      · rw [if_neg c12] at H
        exact absurd H (by simp)

end Go.Proofs.YtmkdcokdilllcaaDoor.X
/- Which numbers may be; how two compare; which are the same. -/
namespace Go.Proofs.YtmkdcokdilllcaaDoor.X
open Go.RowKit Go.Proofs.YtmkdcokdilllcaaDoorW.PrintWords Go.Proofs.YtmkdcokdilllcaaDoorW.PrintMore
set_option linter.unusedVariables false
set_option linter.unusedSimpArgs false
/-- May that be a number? -/
def checkS (neg : Bool) (l : List Int) (E : Int) : Bool :=
  if l.length = 0 then (!neg && (E == 0)) else if l.length > 90 then false else if rd l ((l.length : Int) - 1) = 0 then false else if E < -1200 then false else if E > 1200 then false else decide (val l % 10 ≠ 0)
theorem last_split {l : List Int} (h : l.length ≠ 0) : l = l.take (l.length - 1) ++ [rd l ((l.length : Int) - 1)] := by
  have h1 := take_snoc' l (l.length - 1) (by omega)
  rw [show l.length - 1 + 1 = l.length by omega, List.take_of_length_le (Nat.le_refl _)] at h1
  rw [show ((l.length : Int) - 1) = ((l.length - 1 : Nat) : Int) by omega]
  exact h1
theorem norm_len (l : List Int) : (norm l).length ≤ l.length := by
  unfold norm
  rw [List.length_reverse]
  exact Nat.le_trans (List.dropWhile_sublist _).length_le (by rw [List.length_reverse]; exact Nat.le_refl _)
theorem lim_last {n : Nat} (h : (lim n).length ≠ 0) : rd (lim n) (((lim n).length : Int) - 1) ≠ 0 := by
  intro hz
  have h1 := last_split h
  have h2 := lim_norm n
  generalize lim n = l at *
  rw [hz] at h1
  rw [h1, norm_snoc, if_pos rfl] at h2
  have h3 := norm_len (l.take (l.length - 1))
  rw [h2, List.length_append] at h3
  simp at h3
  omega
theorem top_lim {l : List Int} (hl : Ok l) (h : l.length ≠ 0) (h0 : rd l ((l.length : Int) - 1) ≠ 0) : l = lim (val l) := by
  have h1 := last_split h
  have h2 := norm_lim hl
  rw [h1, norm_snoc, if_neg h0, ← h1] at h2
  exact h2
theorem check_good {neg : Bool} {l : List Int} {E : Int} (hl : Ok l) (h : checkS neg l E = true) : l = lim (val l) ∧ GoodNum neg (val l) E := by
  unfold checkS at h
  by_cases h0 : l.length = 0
  · rw [if_pos h0] at h
    obtain rfl := List.eq_nil_of_length_eq_zero h0
    have hn : neg = false ∧ E = 0 := by simpa using h
    obtain ⟨rfl, rfl⟩ := hn
    exact ⟨by rw [show val [] = 0 from rfl, lim_zero], ⟨fun _ => ⟨rfl, rfl⟩, fun h => (h rfl).elim, by rw [show val [] = 0 from rfl, lim_zero]; exact Nat.zero_le _, by decide, by decide⟩⟩
  · rw [if_neg h0] at h
    split at h
    · cases h
    · split at h
      · cases h
      · split at h
        · cases h
        · split at h
          · cases h
          · rename_i a1 a2 a3 a4
            have ht := top_lim hl h0 a2
            have h10 : val l % 10 ≠ 0 := of_decide_eq_true h
            exact ⟨ht, ⟨fun hz => by rw [hz] at h10; exact (h10 rfl).elim, fun _ => h10, by rw [← ht]; omega, by omega, by omega⟩⟩
theorem good_check {neg : Bool} {n : Nat} {E : Int} (h : GoodNum neg n E) : checkS neg (lim n) E = true := by
  have h1 := h.limbs
  have h2 := h.lo
  have h3 := h.hi
  unfold checkS
  by_cases h0 : n = 0
  · obtain ⟨rfl, rfl⟩ := h.zero h0
    subst h0
    rw [lim_zero]
    rfl
  · have hl : (lim n).length ≠ 0 := fun h => h0 ((lim_len_zero n).1 h)
    rw [if_neg hl, if_neg (by omega), if_neg (lim_last hl), if_neg (by omega), if_neg (by omega), val_lim]
    exact decide_eq_true (h.ten h0)
theorem tz_two_zero {n : Nat} (h : n ≠ 0) : (tz n).2 = 0 ↔ n % 10 ≠ 0 := by
  constructor
  · intro hz hm
    rw [tz_ten h hm] at hz
    simp at hz
  · intro hm
    rw [tz_self hm]
theorem val_zero_of {l : List Int} (hl : Ok l) (h : l.length ≠ 0) (h0 : rd l ((l.length : Int) - 1) ≠ 0) : val l ≠ 0 := by
  intro hz
  have := top_lim hl h h0
  rw [hz, lim_zero] at this
  rw [this] at h
  exact h rfl
theorem num_check {l : List Int} (hl : Ok l) (la : l.length ≤ 1099511627776) (neg : Bool) (E : Int) : Ev (fun k => num_Check.f k neg l E) (checkS neg l E) := by
  unfold num_Check.f checkS
  by_cases h0 : l.length = 0
  · have c0 : (l.length : Int) = 0 := by omega
    simp only [c0, h0, if_true]
    cases neg
    · simp only [Bool.false_eq_true, if_false, Bool.not_false, Bool.true_and]
      exact Ev.now _
    · simp only [if_true, Bool.not_true, Bool.false_and]
      exact Ev.now _
  · have c0 : ¬ (l.length : Int) = 0 := by omega
    have hw := wrap64_pred l.length la
    simp only [c0, h0, if_false, hw]
    by_cases h1 : l.length > 90
    · have c1 : (l.length : Int) > 90 := by omega
      simp only [c1, h1, if_true]
      exact Ev.now _
    · have c1 : ¬ (l.length : Int) > 90 := by omega
      have c2 : (0 : Int) ≤ (l.length : Int) - 1 := by omega
      have c3 : (l.length : Int) - 1 < (l.length : Int) := by omega
      simp only [c1, h1, c2, c3, if_false, if_true]
      by_cases h2 : rd l ((l.length : Int) - 1) = 0
      · simp only [h2, if_true]
        exact Ev.now _
      · simp only [h2, if_false]
        by_cases h3 : E < -1200
        · simp only [h3, if_true]
          exact Ev.now _
        · simp only [h3, if_false]
          by_cases h4 : E > 1200
          · simp only [h4, if_true]
            exact Ev.now _
          · simp only [h4, if_false]
            refine Ev.bind (nat_trim hl la) ?_
            have e : (((((tz (val l)).2 : Nat) : Int)) == 0) = decide (val l % 10 ≠ 0) := by
              rw [Bool.eq_iff_iff, decide_eq_true_eq, ← tz_two_zero (val_zero_of hl h0 h2)]
              simp
            simp only [e]
            exact Ev.now _
theorem r2check {l : List Int} (hl : Ok l) (la : l.length ≤ 1099511627776) (neg : Bool) (E : Int) : Ev (fun k => erratumref02_Check.f k neg l E) (checkS neg l E) := by
  unfold erratumref02_Check.f checkS
  by_cases h0 : l.length = 0
  · have c0 : (l.length : Int) = 0 := by omega
    simp only [c0, h0, if_true]
    cases neg
    · simp only [Bool.false_eq_true, if_false, Bool.not_false, Bool.true_and]
      exact Ev.now _
    · simp only [if_true, Bool.not_true, Bool.false_and]
      exact Ev.now _
  · have c0 : ¬ (l.length : Int) = 0 := by omega
    have hw := wrap64_pred l.length la
    simp only [c0, h0, if_false, hw]
    by_cases h1 : l.length > 90
    · have c1 : (l.length : Int) > 90 := by omega
      simp only [c1, h1, if_true]
      exact Ev.now _
    · have c1 : ¬ (l.length : Int) > 90 := by omega
      have c2 : (0 : Int) ≤ (l.length : Int) - 1 := by omega
      have c3 : (l.length : Int) - 1 < (l.length : Int) := by omega
      simp only [c1, h1, c2, c3, if_false, if_true]
      by_cases h2 : rd l ((l.length : Int) - 1) = 0
      · simp only [h2, if_true]
        exact Ev.now _
      · simp only [h2, if_false]
        by_cases h3 : E < -1200
        · simp only [h3, if_true]
          exact Ev.now _
        · simp only [h3, if_false]
          by_cases h4 : E > 1200
          · simp only [h4, if_true]
            exact Ev.now _
          · simp only [h4, if_false]
            refine Ev.bind (r1small hl la (by decide : (0 : Int) < 10) (by decide)) ?_
            have e : (((val l % (10 : Int).toNat : Nat) : Int) != 0) = decide (val l % 10 ≠ 0) := by
              rw [Bool.eq_iff_iff, decide_eq_true_eq]
              simp
              omega
            simp only [e]
            exact Ev.now _
def ofS (neg : Bool) (l : List Int) (E : Int) : Bool × List Int × Int := if checkS neg l E = true then (neg, l, E) else (false, [], 0)
theorem num_of_eq {l : List Int} (hl : Ok l) (la : l.length ≤ 1099511627776) (neg : Bool) (E : Int) : Ev (fun k => num_of.f k neg l E) (ofS neg l E) := by
  unfold ofS
  refine Ev.congr (fun k => rfl) (Ev.bind (num_check hl la neg E) ?_)
  split <;> exact Ev.now _
theorem of_good {neg : Bool} {n : Nat} {E : Int} (h : GoodNum neg n E) : ofS neg (lim n) E = (neg, lim n, E) := by
  unfold ofS
  rw [if_pos (good_check h)]
/-- What a number is, times a power of ten that all have. -/
def mag (n : Nat) (E : Int) : Nat := n * 10 ^ (E + 1200).toNat
theorem size_digits (n : Nat) : (ByteArray.mk (Lib.decDigits n).toArray).size = Lib.nDigits n := by
  rw [← dlen]
  exact Lib.decDigits_length n
theorem digits_of {n : Nat} (h : (lim n).length ≤ 90) : nat_Digits.f (lim n) = some ⟨(Lib.decDigits n).toArray⟩ := by
  unfold nat_Digits.f
  rw [if_pos ⟨lim_ok n, by omega⟩, val_lim]
theorem nDigits_le {n : Nat} (h : (lim n).length ≤ 90) : Lib.nDigits n ≤ 900 := by
  by_cases h0 : n = 0
  · subst h0
    rw [Lib.nDigits_small (by decide)]
    decide
  · have h1 : 0 < (lim n).length := Nat.pos_of_ne_zero fun h => h0 ((lim_len_zero n).1 h)
    have h2 := digits_lim (lim_ok n) h1
    rw [val_lim, Lib.decDigits_length] at h2
    omega
theorem repeat_zeros {k : Int} (h0 : 0 ≤ k) (h : k ≤ 1099511627776) : strings_Repeat.f ⟨#[48]⟩ k = some ⟨(List.replicate k.toNat 48).toArray⟩ := by
  unfold strings_Repeat.f
  have hs : (ByteArray.mk #[48]).size = 1 := rfl
  rw [if_pos ⟨h0, by omega, by rw [hs]; omega⟩]
  rw [show (ByteArray.mk #[48]).data.toList = [48] from rfl, rep_zeros]
/-- What a number is, times a power of ten that all have, with its sign. -/
def V (neg : Bool) (n : Nat) (E : Int) : Int := if neg = true then -((mag n E : Nat) : Int) else ((mag n E : Nat) : Int)
end Go.Proofs.YtmkdcokdilllcaaDoor.X
-- A walk, written by a program of this session (xp.py).
namespace Go.Proofs.YtmkdcokdilllcaaDoor.X
open Go.RowKit Go.Proofs.YtmkdcokdilllcaaDoorW.PrintWords Go.Proofs.YtmkdcokdilllcaaDoorW.PrintLast Go.Proofs.YtmkdcokdilllcaaDoorW.PrintMore
attribute [local go_sem] max2_int min2_int max_two min_two max_three min_three max_four min_four
set_option linter.unusedVariables false
set_option linter.unusedSimpArgs false

/-! ### num_science: function 36 -/
def num_science.j0 : Nat → Int → ByteArray → Option (ByteArray)
  | 0, _, _ => none
  | k + 1, x1, x5 => if x1 > 0 then (if x5.size + 2 ≤ 9223372036854775807 then ((strconv_Itoa_62.f (wrap64 (x1 - 1))).bind fun t201 => (if (x5 ++ (⟨#[101, 43]⟩ : ByteArray)).size + t201.size ≤ 9223372036854775807 then (some ((x5 ++ (⟨#[101, 43]⟩ : ByteArray)) ++ t201)) else (none))) else (none)) else (if x5.size + 2 ≤ 9223372036854775807 then ((strconv_Itoa_62.f (wrap64 (1 - x1))).bind fun t202 => (if (x5 ++ (⟨#[101, 45]⟩ : ByteArray)).size + t202.size ≤ 9223372036854775807 then (some ((x5 ++ (⟨#[101, 45]⟩ : ByteArray)) ++ t202)) else (none))) else (none))
def num_science.f (k : Nat) (a0 : ByteArray) (a1 : Int) : Option (ByteArray) := if 0 ≤ 1 then (if 1 ≤ (a0.size : Int) then (if (a0.size : Int) > 1 then (if 1 + (a0.extract 1 a0.size).size ≤ 9223372036854775807 then (if (a0.extract 0 1).size + ((⟨#[46]⟩ : ByteArray) ++ (a0.extract 1 a0.size)).size ≤ 9223372036854775807 then (num_science.j0 k a1 ((a0.extract 0 1) ++ ((⟨#[46]⟩ : ByteArray) ++ (a0.extract 1 a0.size)))) else (none)) else (none)) else (num_science.j0 k a1 (a0.extract 0 1))) else (none)) else (none)
set_option maxHeartbeats 8000000 in
set_option maxRecDepth 100000 in
theorem num_science.calls (k : Nat) (a0 : ByteArray) (a1 : Int) (r : ByteArray) (w : World) (hL : Laid w) (h : num_science.f k a0 a1 = some r) :
    Calls Tryd.prog 36 #[.string a0, .int .i64 a1] w fun e w' => e = .returned (.string r) ∧ Below w.heap.size w w' := by
  replace hL := Aside0.mk hL
  have HB := Aside0.mk (Below.refl w.heap.size w)
  have H : (if 0 ≤ 1 then (if 1 ≤ (a0.size : Int) then (if (a0.size : Int) > 1 then (if 1 + (a0.extract 1 a0.size).size ≤ 9223372036854775807 then (if (a0.extract 0 1).size + ((⟨#[46]⟩ : ByteArray) ++ (a0.extract 1 a0.size)).size ≤ 9223372036854775807 then (num_science.j0 k a1 ((a0.extract 0 1) ++ ((⟨#[46]⟩ : ByteArray) ++ (a0.extract 1 a0.size)))) else (none)) else (none)) else (num_science.j0 k a1 (a0.extract 0 1))) else (none)) else (none)) = some r := h
  clear h
  by_cases c3 : 0 ≤ 1
  · rw [if_pos c3] at H
    have c3b0 := eq_true c3
    have c3b1 : decide (0 ≤ 1) = true := decide_eq_true c3
    clear c3
    by_cases c4 : 1 ≤ (a0.size : Int)
    · rw [if_pos c4] at H
      have c4b0 := eq_true c4
      have c4b1 : decide (1 ≤ (a0.size : Int)) = true := decide_eq_true c4
      clear c4
      have HC5 := Aside0.mk H
      clear H
      go_enter Tryd.func36, Tryd.ntmps36
      go_upto_if 10 with (fail)
      go_cut [5] (fun v5 wc => ∃ (kq : Nat) (x5_4 : ByteArray), v5 = .string x5_4 ∧ Aside0 (num_science.j0 kq a1 x5_4 = some r) ∧ Aside0 (kq ≤ k) ∧ Aside0 (Below w.heap.size w wc))
      case first =>
        have H := HC5.out
        clear HC5
        by_cases c6 : (a0.size : Int) > 1
        · rw [if_pos c6] at H
          have c6b0 : decide (1 < (a0.size : Int)) = true := decide_eq_true c6
          have c6b1 : decide (1 < a0.size) = true := decide_eq_true (by omega)
          clear c6
          (first | rw [c6b0] | (simp only [i64_w, i32_w]; rw [c6b0]) | skip)
          have c7b0 := eq_true (of_decide_eq_true (by first | (with_reducible assumption) | assumption) : 1 ≤ (a0.size : Int))
          by_cases c8 : 1 + (a0.extract 1 a0.size).size ≤ 9223372036854775807
          · rw [if_pos c8] at H
            have c8b0 := eq_true c8
            have c8b1 : decide (1 + (a0.extract 1 a0.size).size ≤ 9223372036854775807) = true := decide_eq_true c8
            try have c8b2 : (9223372036854775807 < 1 + (a0.extract 1 a0.size).size) = False := eq_false (Nat.not_lt.2 c8)
            by_cases c9 : (a0.extract 0 1).size + ((⟨#[46]⟩ : ByteArray) ++ (a0.extract 1 a0.size)).size ≤ 9223372036854775807
            · rw [if_pos c9] at H
              have c9b0 := eq_true c9
              have c9b1 : decide ((a0.extract 0 1).size + ((⟨#[46]⟩ : ByteArray) ++ (a0.extract 1 a0.size)).size ≤ 9223372036854775807) = true := decide_eq_true c9
              try have c9b2 : (9223372036854775807 < (a0.extract 0 1).size + ((⟨#[46]⟩ : ByteArray) ++ (a0.extract 1 a0.size)).size) = False := eq_false (Nat.not_lt.2 c9)
              have H' := Aside0.mk H
              clear H
              go_wp2
              try (any_goals (with_reducible refine halt_absurd ?_; (try simp only [ByteArray.size_extract, ByteArray.size_append, ba_size_mk, List.size_toArray, List.length_cons, List.length_nil] at *) <;> omega))
              go_meet
              case rel => exact ⟨_, ((a0.extract 0 1) ++ ((⟨#[46]⟩ : ByteArray) ++ (a0.extract 1 a0.size))), (by first | rfl | (simp; done) | (simp [*]; done)), H', ⟨by first | omega | exact Nat.le_refl _⟩, ⟨by repeat (first | (with_reducible first | exact HB.out | apply below_alloc | apply pw_below_drewN | apply below_drew1) | exact HB.out)⟩⟩
            · rw [if_neg c9] at H
              exact absurd H (by simp)
          · rw [if_neg c8] at H
            exact absurd H (by simp)
        · rw [if_neg c6] at H
          have c6b0 : decide (1 < (a0.size : Int)) = false := decide_eq_false c6
          have c6b1 : decide (1 < a0.size) = false := decide_eq_false (by omega)
          clear c6
          (first | rw [c6b0] | (simp only [i64_w, i32_w]; rw [c6b0]) | skip)
          have H' := Aside0.mk H
          clear H
          go_wp2
          try (any_goals (with_reducible refine halt_absurd ?_; (try simp only [ByteArray.size_extract, ByteArray.size_append, ba_size_mk, List.size_toArray, List.length_cons, List.length_nil] at *) <;> omega))
          go_meet
          case rel => exact ⟨_, (a0.extract 0 1), (by first | rfl | (simp; done) | (simp [*]; done)), H', ⟨by first | omega | exact Nat.le_refl _⟩, ⟨by repeat (first | (with_reducible first | exact HB.out | apply below_alloc | apply pw_below_drewN | apply below_drew1) | exact HB.out)⟩⟩
      case rest =>
        clear HC5
        try clear p2
        try clear c3
        try clear c3b0
        try clear c3b1
        try clear c4
        try clear c4b0
        try clear c4b1
        try clear c6
        try clear c6b0
        try clear c6b1
        try clear c7
        try clear c7b0
        try clear c8
        try clear c8b0
        try clear c8b1
        try clear c8b2
        try clear c9
        try clear c9b0
        try clear c9b1
        try clear c9b2
        obtain ⟨kq, x5_4, rfl, HA, HJ4, HB⟩ := hcut
        cases kq with
        | zero => exact absurd HA.out (by simp [num_science.j0])
        | succ kj4 =>
          have H := HA.out
          clear HA
          simp only [num_science.j0] at H
          by_cases c10 : a1 > 0
          · rw [if_pos c10] at H
            have c10b0 : decide (0 < a1) = true := decide_eq_true c10
            clear c10
            by_cases c11 : x5_4.size + 2 ≤ 9223372036854775807
            · rw [if_pos c11] at H
              have c11b0 := eq_true c11
              have c11b1 : decide (x5_4.size + 2 ≤ 9223372036854775807) = true := decide_eq_true c11
              try have c11b2 : (9223372036854775807 < x5_4.size + 2) = False := eq_false (Nat.not_lt.2 c11)
              replace H := Option.bind_eq_some_iff.mp H
              obtain ⟨t201, A120, H⟩ := H
              replace H : (if (x5_4 ++ (⟨#[101, 43]⟩ : ByteArray)).size + t201.size ≤ 9223372036854775807 then (some ((x5_4 ++ (⟨#[101, 43]⟩ : ByteArray)) ++ t201)) else (none)) = some r := H
              have A12 := Aside0.mk A120
              clear A120
              by_cases c13 : (x5_4 ++ (⟨#[101, 43]⟩ : ByteArray)).size + t201.size ≤ 9223372036854775807
              · rw [if_pos c13] at H
                have c13b0 := eq_true c13
                have c13b1 : decide ((x5_4 ++ (⟨#[101, 43]⟩ : ByteArray)).size + t201.size ≤ 9223372036854775807) = true := decide_eq_true c13
                try have c13b2 : (9223372036854775807 < (x5_4 ++ (⟨#[101, 43]⟩ : ByteArray)).size + t201.size) = False := eq_false (Nat.not_lt.2 c13)
                obtain rfl := Option.some.inj H
                go_wp2_with (first | ((with_reducible refine gate_callee (f := 62) rfl ?_); refine goesL_ (some 22) rfl rfl Tryd.func62 (by kernel_rfl) rfl #[.int .i64 (wrap64 (a1 - 1))] rfl (by (try simp only [List.map_toArray, List.map_cons, List.map_nil]); first | done | rfl | (simp only [List.length_drop, List.length_take]; rfl)) ?_; (with_reducible refine (strconv_Itoa_62.calls (wrap64 (a1 - 1)) t201 _ ?side1 A12.out).mono ?_); (case side1 => first | exact hL.out | exact hL.out.drewN _ | exact hL.out.drew | exact hL.out.below (by repeat (first | (with_reducible first | exact HB.out | apply below_alloc | apply pw_below_drewN | apply below_drew1) | exact HB.out))); rintro e w14 ⟨rfl, hb⟩; refine ⟨_, rfl, ?_⟩; have n0_ := Aside0.mk (below_step (by repeat (first | (with_reducible first | exact HB.out | apply below_alloc | apply pw_below_drewN | apply below_drew1) | exact HB.out)) hb); clear HB; have HB := n0_; clear n0_; (try clear hb); (try clear hb2); (try clear hk); (try clear hi)))
                try (any_goals (with_reducible refine halt_absurd ?_; (try simp only [ByteArray.size_extract, ByteArray.size_append, ba_size_mk, List.size_toArray, List.length_cons, List.length_nil] at *) <;> omega))
                go_ret
                exact ⟨by first | rfl | (simp [errW_none, errW_some] <;> rfl) | (simp [*, errW_none, errW_some] <;> rfl), by repeat (first | (with_reducible first | exact HB.out | apply below_alloc | apply pw_below_drewN | apply below_drew1) | exact HB.out)⟩
              · rw [if_neg c13] at H
                exact absurd H (by simp)
            · rw [if_neg c11] at H
              exact absurd H (by simp)
          · rw [if_neg c10] at H
            have c10b0 : decide (0 < a1) = false := decide_eq_false c10
            clear c10
            by_cases c15 : x5_4.size + 2 ≤ 9223372036854775807
            · rw [if_pos c15] at H
              have c15b0 := eq_true c15
              have c15b1 : decide (x5_4.size + 2 ≤ 9223372036854775807) = true := decide_eq_true c15
              try have c15b2 : (9223372036854775807 < x5_4.size + 2) = False := eq_false (Nat.not_lt.2 c15)
              replace H := Option.bind_eq_some_iff.mp H
              obtain ⟨t202, A160, H⟩ := H
              replace H : (if (x5_4 ++ (⟨#[101, 45]⟩ : ByteArray)).size + t202.size ≤ 9223372036854775807 then (some ((x5_4 ++ (⟨#[101, 45]⟩ : ByteArray)) ++ t202)) else (none)) = some r := H
              have A16 := Aside0.mk A160
              clear A160
              by_cases c17 : (x5_4 ++ (⟨#[101, 45]⟩ : ByteArray)).size + t202.size ≤ 9223372036854775807
              · rw [if_pos c17] at H
                have c17b0 := eq_true c17
                have c17b1 : decide ((x5_4 ++ (⟨#[101, 45]⟩ : ByteArray)).size + t202.size ≤ 9223372036854775807) = true := decide_eq_true c17
                try have c17b2 : (9223372036854775807 < (x5_4 ++ (⟨#[101, 45]⟩ : ByteArray)).size + t202.size) = False := eq_false (Nat.not_lt.2 c17)
                obtain rfl := Option.some.inj H
                go_wp2_with (first | ((with_reducible refine gate_callee (f := 62) rfl ?_); refine goesL_ (some 28) rfl rfl Tryd.func62 (by kernel_rfl) rfl #[.int .i64 (wrap64 (1 - a1))] rfl (by (try simp only [List.map_toArray, List.map_cons, List.map_nil]); first | done | rfl | (simp only [List.length_drop, List.length_take]; rfl)) ?_; (with_reducible refine (strconv_Itoa_62.calls (wrap64 (1 - a1)) t202 _ ?side1 A16.out).mono ?_); (case side1 => first | exact hL.out | exact hL.out.drewN _ | exact hL.out.drew | exact hL.out.below (by repeat (first | (with_reducible first | exact HB.out | apply below_alloc | apply pw_below_drewN | apply below_drew1) | exact HB.out))); rintro e w18 ⟨rfl, hb⟩; refine ⟨_, rfl, ?_⟩; have n0_ := Aside0.mk (below_step (by repeat (first | (with_reducible first | exact HB.out | apply below_alloc | apply pw_below_drewN | apply below_drew1) | exact HB.out)) hb); clear HB; have HB := n0_; clear n0_; (try clear hb); (try clear hb2); (try clear hk); (try clear hi)))
                try (any_goals (with_reducible refine halt_absurd ?_; (try simp only [ByteArray.size_extract, ByteArray.size_append, ba_size_mk, List.size_toArray, List.length_cons, List.length_nil] at *) <;> omega))
                go_ret
                exact ⟨by first | rfl | (simp [errW_none, errW_some] <;> rfl) | (simp [*, errW_none, errW_some] <;> rfl), by repeat (first | (with_reducible first | exact HB.out | apply below_alloc | apply pw_below_drewN | apply below_drew1) | exact HB.out)⟩
              · rw [if_neg c17] at H
                exact absurd H (by simp)
            · rw [if_neg c15] at H
              exact absurd H (by simp)
    · rw [if_neg c4] at H
      exact absurd H (by simp)
  · rw [if_neg c3] at H
    exact absurd H (by simp)

end Go.Proofs.YtmkdcokdilllcaaDoor.X
