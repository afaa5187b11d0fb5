import Derived.Test.YtmkdcokdilllcaaDoorMt7
import Derived.Test.YtmkdcokdilllcaaDoorMt8
import Derived.Test.YtmkdcokdilllcaaDoorMt3
import Derived.Shelf.Strings.Builder1
import Derived.Test.YtmkdcokdilllcaaDoorProg
import Derived.Test.YtmkdcokdilllcaaDoorMt6
import Derived.Lib.ItoaNum
import Derived.Lib.AppendIntMem
/- What the document says of a text. -/
namespace Go.Proofs.YtmkdcokdilllcaaDoor.X
open Go.RowKit Go.Proofs.YtmkdcokdilllcaaDoorW.PrintWords Go.Proofs.YtmkdcokdilllcaaDoorW.PrintMore
set_option linter.unusedVariables false
set_option linter.unusedSimpArgs false
theorem bt_at' {s : ByteArray} {i : Nat} (h : i < s.size) : ∃ c r, s.data.toList.drop i = c :: r ∧ bt s i = (c.toNat : Int) := by
  rcases hdr : s.data.toList.drop i with _ | ⟨c, r⟩
  · have := congrArg List.length hdr
    rw [List.length_drop, dlen, List.length_nil] at this
    omega
  · exact ⟨c, r, rfl, (bt_drop hdr).2⟩
theorem nDig_cons (c : UInt8) (r : List UInt8) : nDig (c :: r) = if isDig c = true then nDig r + 1 else 0 := by
  unfold nDig
  rw [List.takeWhile_cons]
  split <;> rfl
theorem run_loop (s : ByteArray) (hs : s.size ≤ 2000) (i : Nat) (d : Nat) : ∀ j : Nat, i ≤ j → j + d = s.size →
    Ev (fun k => erratumref02_run.l0 k s (i : Int) (j : Int)) (s.extract i (j + nDig (s.data.toList.drop j)), ((j + nDig (s.data.toList.drop j) : Nat) : Int)) := by
  induction d with
  | zero =>
    intro j hij hj
    have c0 : ¬ (j : Int) < (s.size : Int) := by omega
    have c1 : (0 : Int) ≤ (i : Int) := by omega
    have c2 : (i : Int) ≤ (j : Int) := by omega
    have c3 : (j : Int) ≤ (s.size : Int) := by omega
    rw [List.drop_eq_nil_of_le (by rw [dlen]; omega), show nDig [] = 0 from rfl, Nat.add_zero]
    exact Ev.step (f := fun _ => some (s.extract i j, (j : Int))) (fun k => by simp only [erratumref02_run.l0, c0, if_false, c1, c2, c3, if_true, Int.toNat_natCast]) (Ev.now _)
  | succ d ih =>
    intro j hij hj
    have c0 : (j : Int) < (s.size : Int) := by omega
    have c1 : (0 : Int) ≤ (i : Int) := by omega
    have c2 : (i : Int) ≤ (j : Int) := by omega
    have c3 : (j : Int) ≤ (s.size : Int) := by omega
    have c4 : (0 : Int) ≤ (j : Int) := by omega
    obtain ⟨c, r, hdr, hb⟩ := bt_at' (s := s) (i := j) (by omega)
    have ht := drop_tail hdr
    rw [hdr, nDig_cons]
    by_cases hc : isDig c = true
    · rw [if_pos hc]
      simp [isDig] at hc
      have hw : wrap64 ((j : Int) + 1) = ((j + 1 : Nat) : Int) := by rw [wrap64_ok (by omega) (by omega)]; omega
      have d1 : (c.toNat : Int) ≥ 48 := by omega
      have d2 : (c.toNat : Int) ≤ 57 := by omega
      have hI := ih (j + 1) (by omega) (by omega)
      rw [ht] at hI
      rw [show j + (nDig r + 1) = j + 1 + nDig r by omega]
      exact Ev.step (f := fun k => erratumref02_run.l0 k s (i : Int) ((j + 1 : Nat) : Int)) (fun k => by simp only [erratumref02_run.l0, c0, c4, if_true, hb, d1, d2, hw]) hI
    · rw [if_neg hc, Nat.add_zero]
      have hc2 : ¬ (48 ≤ c.toNat ∧ c.toNat ≤ 57) := by simpa [isDig] using hc
      by_cases d1 : (c.toNat : Int) ≥ 48
      · have d2 : ¬ (c.toNat : Int) ≤ 57 := by omega
        exact Ev.step (f := fun _ => some (s.extract i j, (j : Int))) (fun k => by simp only [erratumref02_run.l0, c0, c4, if_true, hb, d1, d2, if_false, c1, c2, c3, Int.toNat_natCast]) (Ev.now _)
      · exact Ev.step (f := fun _ => some (s.extract i j, (j : Int))) (fun k => by simp only [erratumref02_run.l0, c0, c4, if_true, hb, d1, if_false, c1, c2, c3, Int.toNat_natCast]) (Ev.now _)
theorem ref_run (s : ByteArray) (hs : s.size ≤ 2000) (i : Nat) (hi : i ≤ s.size) : ∃ w : ByteArray, w.data.toList = dg (s.data.toList.drop i) ∧
    Ev (fun k => erratumref02_run.f k s (i : Int)) (w, ((i + nDig (s.data.toList.drop i) : Nat) : Int)) ∧ i + nDig (s.data.toList.drop i) ≤ s.size ∧ s.data.toList.drop (i + nDig (s.data.toList.drop i)) = dr (s.data.toList.drop i) := by
  have hn := nDig_le (s.data.toList.drop i)
  rw [List.length_drop, dlen] at hn
  refine ⟨s.extract i (i + nDig (s.data.toList.drop i)), ?_, Ev.congr (fun k => rfl) (run_loop s hs i (s.size - i) i (Nat.le_refl _) (by omega)), by omega, ?_⟩
  · rw [extract_list, Nat.add_sub_cancel_left]
    generalize s.data.toList.drop i = l
    unfold dg nDig
    induction l with
    | nil => rfl
    | cons c l ih =>
      rw [List.takeWhile_cons]
      split
      · rw [List.length_cons, List.take_succ_cons, ih]
      · rfl
  · rw [dr, List.drop_drop]
/-! the exponent -/
theorem exp_l1 (s : ByteArray) (hs : s.size ≤ 6) (less : Bool) (n : Nat) (d : Nat) : ∀ (j v : Nat), j + d = s.size → Lib.decFrom v (s.data.toList.drop j) = some n → v < 10 ^ j →
    Ev (fun k => erratumref02_exponent.l1 k s less (v : Int) (j : Int)) (if less = true then -(n : Int) else (n : Int), true) := by
  induction d with
  | zero =>
    intro j v hj hd hv
    rw [List.drop_eq_nil_of_le (by rw [dlen]; omega)] at hd
    obtain rfl := Option.some.inj hd
    have c0 : ¬ (j : Int) < (s.size : Int) := by omega
    have hv2 : v < 10 ^ 6 := Nat.lt_of_lt_of_le hv (Nat.pow_le_pow_right (by decide) (by omega))
    have hw : wrap64 (-(v : Int)) = -(v : Int) := wrap64_ok (by omega) (by omega)
    cases less
    · exact Ev.step (f := fun _ => some ((v : Int), true)) (fun k => by simp only [erratumref02_exponent.l1, c0, if_false, Bool.false_eq_true]) (Ev.now _)
    · exact Ev.step (f := fun _ => some (-(v : Int), true)) (fun k => by simp only [erratumref02_exponent.l1, c0, if_false, if_true, hw]) (Ev.now _)
  | succ d ih =>
    intro j v hj hd hv
    obtain ⟨c, r, hdr, hb⟩ := bt_at' (s := s) (i := j) (by omega)
    have ht := drop_tail hdr
    rw [hdr] at hd
    unfold Lib.decFrom Lib.digitVal at hd
    by_cases hc : 48 ≤ c.toNat ∧ c.toNat ≤ 57
    · rw [if_pos hc] at hd
      have hv2 : v < 10 ^ 6 := Nat.lt_of_lt_of_le hv (Nat.pow_le_pow_right (by decide) (by omega))
      have hp : v * 10 + (c.toNat - 48) < 10 ^ (j + 1) := by rw [Nat.pow_succ]; omega
      have hI := ih (j + 1) (v * 10 + (c.toNat - 48)) (by omega) (by rw [ht]; exact hd) hp
      have c0 : (j : Int) < (s.size : Int) := by omega
      have c4 : (0 : Int) ≤ (j : Int) := by omega
      have hw : wrap64 ((j : Int) + 1) = ((j + 1 : Nat) : Int) := by rw [wrap64_ok (by omega) (by omega)]; omega
      clear hp hv ih
      have hw2 : wrap64 (wrap64 (10 * (v : Int)) + ((c.toNat : Int) - 48) % 256) = ((v * 10 + (c.toNat - 48) : Nat) : Int) := by
        rw [wrap64_ok (n := 10 * (v : Int)) (by omega) (by omega), wrap64_ok (by omega) (by omega)]
        omega
      exact Ev.step (f := fun k => erratumref02_exponent.l1 k s less ((v * 10 + (c.toNat - 48) : Nat) : Int) ((j + 1 : Nat) : Int)) (fun k => by simp only [erratumref02_exponent.l1, c0, c4, if_true, hb, hw, hw2]) hI
    · rw [if_neg hc] at hd
      cases hd
/-- What the document's exponent comes to. -/
def expR (less : Bool) (d : List UInt8) : Int × Bool := if (Lib.trimLeftB d 48).length > 6 then (0, false) else (if less = true then -((dec (Lib.trimLeftB d 48) : Nat) : Int) else ((dec (Lib.trimLeftB d 48) : Nat) : Int), true)
theorem exp_j1 (s : ByteArray) (hs : s.size ≤ 2000) (less : Bool) (hd : ∀ c ∈ s.data.toList, isDig c = true) :
    Ev (fun k => erratumref02_exponent.j1 k s less) (if s.size > 6 then (0, false) else (if less = true then -((dec s.data.toList : Nat) : Int) else ((dec s.data.toList : Nat) : Int), true)) := by
  by_cases h : s.size > 6
  · rw [if_pos h]
    have c0 : (s.size : Int) > 6 := by omega
    exact Ev.step (f := fun _ => some (0, false)) (fun k => by simp only [erratumref02_exponent.j1, c0, if_true]) (Ev.now _)
  · rw [if_neg h]
    have c0 : ¬ (s.size : Int) > 6 := by omega
    refine Ev.step (f := fun k => erratumref02_exponent.l1 k s less 0 0) (fun k => by simp only [erratumref02_exponent.j1, c0, if_false]) ?_
    exact exp_l1 s (by omega) less _ s.size 0 0 (by omega) (dec_lt hd).1 (by decide)
theorem ref_exponent (n : Nat) : ∀ (s : ByteArray) (less : Bool), s.size = n → s.size ≤ 2000 → (∀ c ∈ s.data.toList, isDig c = true) → Ev (fun k => erratumref02_exponent.l0 k s less) (expR less s.data.toList) := by
  induction n with
  | zero =>
    intro s less h0 hs hd
    have c0 : ¬ (s.size : Int) > 0 := by omega
    have hl := (size_list s).1 h0
    have h := exp_j1 s hs less hd
    rw [if_neg (by omega)] at h
    refine Ev.step (f := fun k => erratumref02_exponent.j1 k s less) (fun k => by simp only [erratumref02_exponent.l0, c0, if_false]) ?_
    unfold expR
    rw [hl] at h ⊢
    exact h
  | succ n ih =>
    intro s less h0 hs hd
    have c0 : (s.size : Int) > 0 := by omega
    obtain ⟨c, r, hdr, hb⟩ := bt_at' (s := s) (i := 0) (by omega)
    rw [List.drop_zero] at hdr
    have hb' : bt s 0 = (c.toNat : Int) := hb
    by_cases hz : c = 48
    · have he : (s.extract 1 s.size).data.toList = r := by
        rw [extract_list, List.take_of_length_le (by rw [List.length_drop, dlen]; exact Nat.le_refl _), hdr]
        rfl
      have hI := ih (s.extract 1 s.size) less (by rw [ByteArray.size_extract]; omega) (by rw [ByteArray.size_extract]; omega) (by rw [he]; intro d hd2; exact hd d (by rw [hdr]; exact List.mem_cons_of_mem _ hd2))
      rw [he] at hI
      have c1 : (1 : Int) ≤ (s.size : Int) := by omega
      have hb2 : bt s 0 = 48 := by rw [hb', hz]; rfl
      refine Ev.step (f := fun k => erratumref02_exponent.l0 k (s.extract 1 s.size) less) (fun k => by simp only [erratumref02_exponent.l0, c0, if_true, hb2, c1]) ?_
      rw [hdr]
      unfold expR at hI ⊢
      rw [show Lib.trimLeftB (c :: r) 48 = Lib.trimLeftB r 48 from by simp [Lib.trimLeftB, hz]]
      exact hI
    · have hb2 : ¬ bt s 0 = 48 := by
        rw [hb']
        intro h
        apply hz
        apply UInt8.toNat_inj.1
        have : (48 : UInt8).toNat = 48 := rfl
        omega
      have h := exp_j1 s hs less hd
      refine Ev.step (f := fun k => erratumref02_exponent.j1 k s less) (fun k => by simp only [erratumref02_exponent.l0, c0, if_true, hb2, if_false]) ?_
      unfold expR
      rw [show Lib.trimLeftB s.data.toList 48 = s.data.toList from by rw [hdr]; simp [Lib.trimLeftB, hz], dlen]
      exact h
end Go.Proofs.YtmkdcokdilllcaaDoor.X
/- What the document says of a text: the whole. -/
namespace Go.Proofs.YtmkdcokdilllcaaDoor.X
open Go.RowKit Go.Proofs.YtmkdcokdilllcaaDoorW.PrintWords Go.Proofs.YtmkdcokdilllcaaDoorW.PrintMore
set_option linter.unusedVariables false
set_option linter.unusedSimpArgs false
theorem tz_one {n : Nat} (h : n ≠ 0) : (tz n).1 ≠ 0 := by
  intro h1
  have := tz_val n
  rw [h1, Nat.zero_mul] at this
  exact h this.symm
/-- j7: the end. -/
theorem ref_j7 (s : ByteArray) (hs : s.size ≤ 2000) (neg : Bool) (w f x8 : ByteArray) (less : Bool) (i : Nat) (hi : i ≤ s.size) (ex : Option (Bool × List UInt8))
    (hw : w.size + f.size ≤ 2000) (h0 : (w ++ f).data.toList ≠ []) (hd : ∀ c ∈ (w ++ f).data.toList, isDig c = true) (hx : x8.size ≤ 2000) (hxd : ∀ c ∈ x8.data.toList, isDig c = true)
    (hex : (ex = none ∧ x8.data.toList = [] ∧ less = false) ∨ ex = some (less, x8.data.toList)) :
    Ev (fun k => erratumref02_Parse.j7 k s neg (i : Int) w f x8 less) (resS (if s.data.toList.drop i = [] then some (neg, (w ++ f).data.toList, f.size, ex) else none)) := by
  by_cases hlt : i < s.size
  · have c0 : (i : Int) < (s.size : Int) := by omega
    rw [if_neg (by
      intro h
      have := congrArg List.length h
      rw [List.length_drop, dlen, List.length_nil] at this
      omega)]
    exact Ev.step (f := fun _ => some (false, [], 0, 2)) (fun k => by simp only [erratumref02_Parse.j7, c0, if_true]) (Ev.now _)
  · have c0 : ¬ (i : Int) < (s.size : Int) := by omega
    have c1 : w.size + f.size ≤ 9223372036854775807 := by omega
    rw [if_pos (List.drop_eq_nil_of_le (by rw [dlen]; omega))]
    have hwf : (w ++ f).size ≤ 2000 := by rw [ByteArray.size_append]; omega
    have hP := r1parse (w ++ f) hwf (fun h => h0 ((size_list _).1 h)) _ (dec_lt hd).1
    have hL := dec_limbs hd
    rw [dlen] at hL
    have hE := ref_exponent x8.size x8 less rfl hx hxd
    refine Ev.step (fun k => by simp only [erratumref02_Parse.j7, c0, if_false, c1, if_true]; rfl) ?_
    refine Ev.bind hP ?_
    generalize (w ++ f).data.toList = m at *
    by_cases hv : dec m = 0
    · have c2 : ((lim (dec m)).length : Int) = 0 := by rw [hv, lim_zero]; rfl
      refine Ev.congr (f := fun _ => some (false, [], 0, 0)) (fun k => by simp only [c2, if_true]) ?_
      have hm : ∀ e, makeS neg (dec m) e = (false, [], 0, true) := fun e => by unfold makeS; rw [hv, tz_zero, if_pos rfl]
      simp only [resS, hm]
      exact Ev.now _
    · have c2 : ¬ ((lim (dec m)).length : Int) = 0 := fun h => hv ((lim_len_zero _).1 (by omega))
      refine Ev.congr (fun k => by simp only [c2, if_false]; rfl) ?_
      refine Ev.bind hE ?_
      unfold expR
      by_cases h6 : (Lib.trimLeftB x8.data.toList 48).length > 6
      · rw [if_pos h6]
        have hM := r2make (lim_ok (dec m)) (by omega) neg (wrap64 (0 - (f.size : Int))) (by rw [wrap64_ok (by omega) (by omega)]; omega) (by rw [wrap64_ok (by omega) (by omega)]; omega)
        refine Ev.bind hM ?_
        have hfar : expL ex = 1048576 ∨ expL ex = -1048576 := by
          rcases hex with ⟨_, h, _⟩ | h
          · rw [h] at h6; simp [Lib.trimLeftB] at h6
          · subst h
            simp only [expL, expN, if_neg (show ¬ (Lib.trimLeftB x8.data.toList 48).length ≤ 6 by omega)]
            cases less
            · exact .inl rfl
            · exact .inr rfl
        have hbad : (makeS neg (dec m) (expL ex - f.size)).2.2.2 = false ∨ (0 < (makeS neg (dec m) (expL ex - f.size)).2.1.length ∧ (expL ex = 1048576 ∨ expL ex = -1048576)) := by
          by_cases hk : (makeS neg (dec m) (expL ex - f.size)).2.2.2 = false
          · exact .inl hk
          · refine .inr ⟨?_, hfar⟩
            unfold makeS at hk ⊢
            rw [if_neg (tz_one hv)] at hk ⊢
            split at hk
            · exact absurd rfl hk
            · rename_i h1
              rw [if_neg h1]
              split at hk
              · exact absurd rfl hk
              · rename_i h2
                rw [if_neg h2]
                split at hk
                · exact absurd rfl hk
                · rename_i h3
                  rw [if_neg h3]
                  have : (lim (tz (dec m)).1).length ≠ 0 := fun h => tz_one hv ((lim_len_zero _).1 h)
                  simp only
                  omega
        simp only [resS]
        rw [if_pos hbad]
        exact Ev.congr (fun k => by simp) (Ev.now _)
      · rw [if_neg h6]
        have he : (if less = true then -((dec (Lib.trimLeftB x8.data.toList 48) : Nat) : Int) else ((dec (Lib.trimLeftB x8.data.toList 48) : Nat) : Int)) = expL ex := by
          rcases hex with ⟨h1, h2, h3⟩ | h
          · subst h1; subst h3
            rw [h2]
            rfl
          · subst h
            simp only [expL, expN, if_pos (show (Lib.trimLeftB x8.data.toList 48).length ≤ 6 by omega)]
        rw [he]
        have hb := expL_bound ex
        have hnf : ¬ (expL ex = 1048576 ∨ expL ex = -1048576) := by
          rw [← he]
          have ht : ∀ c ∈ Lib.trimLeftB x8.data.toList 48, isDig c = true := fun c hc => hxd c (trim_mem _ _ c hc)
          have h1 := (dec_lt ht).2
          have h2 : 10 ^ (Lib.trimLeftB x8.data.toList 48).length ≤ 10 ^ 6 := Nat.pow_le_pow_right (by decide) (by omega)
          generalize dec (Lib.trimLeftB x8.data.toList 48) = q at *
          generalize 10 ^ (Lib.trimLeftB x8.data.toList 48).length = z at *
          have h3 : q < 1000000 := by
            have : (10 : Nat) ^ 6 = 1000000 := by decide
            omega
          clear h1 h2 he hE
          split <;> omega
        have hww : wrap64 (expL ex - (f.size : Int)) = expL ex - f.size := wrap64_ok (by omega) (by omega)
        have hM := r2make (lim_ok (dec m)) (by omega) neg (expL ex - f.size) (by omega) (by omega)
        rw [val_lim] at hM
        refine Ev.congr (fun k => by simp only [hww]; rfl) (Ev.bind hM ?_)
        simp only [resS]
        generalize makeS neg (dec m) (expL ex - f.size) = q at *
        obtain ⟨q1, q2, q3, q4⟩ := q
        cases q4
        · simp only [if_true, Bool.false_eq_true, if_false, true_or]
          exact Ev.now _
        · simp only [Bool.true_eq_false, false_or, hnf, and_false, if_false, if_true]
          exact Ev.now _
end Go.Proofs.YtmkdcokdilllcaaDoor.X
/- What the document says of a text: from the exponent back to the sign. -/
namespace Go.Proofs.YtmkdcokdilllcaaDoor.X
open Go.RowKit Go.Proofs.YtmkdcokdilllcaaDoorW.PrintWords Go.Proofs.YtmkdcokdilllcaaDoorW.PrintMore
set_option linter.unusedVariables false
set_option linter.unusedSimpArgs false
theorem toList_nil (w : ByteArray) : w.toList = ([] : List UInt8) ↔ w.data.toList = [] := by rw [Lib.toList_data]
theorem ref_exp (s : ByteArray) (hs : s.size ≤ 2000) (neg : Bool) (w f : ByteArray) (less : Bool) (i : Nat) (hi : i ≤ s.size)
    (hw : w.size + f.size ≤ 2000) (h0 : (w ++ f).data.toList ≠ []) (hd : ∀ c ∈ (w ++ f).data.toList, isDig c = true) :
    Ev (fun k => (erratumref02_run.f k s (i : Int)).bind fun b => if b.1.toList = ([] : List UInt8) then some (false, ([] : List Int), 0, 2) else erratumref02_Parse.j7 k s neg b.2 w f b.1 less)
      (resS (if dg (s.data.toList.drop i) = [] then none else if dr (s.data.toList.drop i) = [] then some (neg, (w ++ f).data.toList, f.size, some (less, dg (s.data.toList.drop i))) else none)) := by
  obtain ⟨x, hx, hr, hle, hdr⟩ := ref_run s hs i hi
  refine Ev.bind hr ?_
  by_cases he : dg (s.data.toList.drop i) = []
  · rw [if_pos he]
    refine Ev.congr (f := fun _ => some (false, [], 0, 2)) (fun k => ?_) (Ev.now _)
    simp only [(toList_nil x).2 (hx.trans he), if_true]
  · rw [if_neg he]
    have hxs : x.size ≤ 2000 := by
      rw [← dlen, hx]
      have := dg_le (s.data.toList.drop i)
      rw [List.length_drop, dlen] at this
      omega
    have h7 := ref_j7 s hs neg w f x less _ hle (some (less, x.data.toList)) hw h0 hd hxs (by rw [hx]; exact fun c hc => dg_mem hc) (.inr rfl)
    rw [hdr, hx] at h7
    refine Ev.congr (fun k => ?_) h7
    simp only [if_neg (fun h => he (hx.symm.trans ((toList_nil x).1 h)))]
theorem bt_eq_iff {s : ByteArray} {i : Nat} {c : UInt8} {r : List UInt8} (h : s.data.toList.drop i = c :: r) (b : UInt8) : (bt s i = (b.toNat : Int)) ↔ c = b := by
  rw [(bt_drop h).2]
  constructor
  · intro h
    exact UInt8.toNat_inj.1 (by omega)
  · intro h; rw [h]
theorem drop_nil_iff {s : ByteArray} {i : Nat} : s.data.toList.drop i = [] ↔ s.size ≤ i := by
  rw [List.drop_eq_nil_iff, dlen]
/-- Behind the e. -/
theorem ref_j5t (s : ByteArray) (hs : s.size ≤ 2000) (neg : Bool) (w f x8 : ByteArray) (j : Nat) (hj : j + 1 ≤ s.size)
    (hw : w.size + f.size ≤ 2000) (h0 : (w ++ f).data.toList ≠ []) (hd : ∀ c ∈ (w ++ f).data.toList, isDig c = true) (l1 : List UInt8) (hl1 : s.data.toList.drop (j + 1) = l1) :
    Ev (fun k => erratumref02_Parse.j5 k s neg (j : Int) w f x8 false true)
      (resS (if dg (if pHas [45] l1 = true then l1.tail else pSkip [43] l1) = [] then none else if dr (if pHas [45] l1 = true then l1.tail else pSkip [43] l1) = [] then some (neg, (w ++ f).data.toList, f.size, some (pHas [45] l1, dg (if pHas [45] l1 = true then l1.tail else pSkip [43] l1))) else none)) := by
  have hw1 : wrap64 ((j : Int) + 1) = ((j + 1 : Nat) : Int) := by rw [wrap64_ok (by omega) (by omega)]; omega
  generalize j + 1 = i at *
  have c4 : (0 : Int) ≤ (i : Int) := by omega
  rcases l1 with _ | ⟨c, r⟩
  · have hsz := drop_nil_iff.1 hl1
    have c0 : ¬ (i : Int) < (s.size : Int) := by omega
    have h := ref_exp s hs neg w f false i hj hw h0 hd
    rw [hl1] at h
    refine Ev.step (f := fun k => erratumref02_Parse.j6 k s neg (i : Int) w f false false) (fun k => by simp only [erratumref02_Parse.j5, if_true, hw1, c0, if_false]) ?_
    refine Ev.step (fun k => by simp only [erratumref02_Parse.j6, Bool.false_eq_true, if_false]; rfl) ?_
    exact h
  · obtain ⟨hlt, hb⟩ := bt_drop hl1
    have c0 : (i : Int) < (s.size : Int) := by omega
    have hw2 : wrap64 ((i : Int) + 1) = ((i + 1 : Nat) : Int) := by rw [wrap64_ok (by omega) (by omega)]; omega
    have ht := drop_tail hl1
    have i45 := bt_eq_iff hl1 45
    have i43 := bt_eq_iff hl1 43
    rw [show ((45 : UInt8).toNat : Int) = 45 from rfl] at i45
    rw [show ((43 : UInt8).toNat : Int) = 43 from rfl] at i43
    by_cases h45 : c = 45
    · subst h45
      have e45 := i45.2 rfl
      have n43 : ¬ bt s i = 43 := by omega
      have b45 : (bt s i == 45) = true := beq_iff_eq.2 e45
      have h := ref_exp s hs neg w f true (i + 1) (by omega) hw h0 hd
      rw [ht] at h
      refine Ev.step (f := fun k => erratumref02_Parse.j6 k s neg (i : Int) w f false true) (fun k => by simp only [erratumref02_Parse.j5, if_true, hw1, c0, c4, n43, if_false, b45]) ?_
      refine Ev.step (fun k => by simp only [erratumref02_Parse.j6, if_true, c0, c4, hw2, b45]; rfl) ?_
      exact h
    · have n45 : ¬ bt s i = 45 := fun h => h45 (i45.1 h)
      have b45 : (bt s i == 45) = false := beq_eq_false_iff_ne.2 n45
      have p45 : pHas [45] (c :: r) = false := by simp [pHas, h45]
      rw [p45]
      simp only [Bool.false_eq_true, if_false]
      by_cases h43 : c = 43
      · have e43 := i43.2 h43
        have p43 : pSkip [43] (c :: r) = r := by simp [pSkip, pHas, h43]
        rw [p43]
        have h := ref_exp s hs neg w f false (i + 1) (by omega) hw h0 hd
        rw [ht] at h
        refine Ev.step (f := fun k => erratumref02_Parse.j6 k s neg (i : Int) w f false true) (fun k => by simp only [erratumref02_Parse.j5, if_true, hw1, c0, c4, e43]) ?_
        refine Ev.step (fun k => by simp only [erratumref02_Parse.j6, if_true, c0, c4, hw2, b45]; rfl) ?_
        exact h
      · have n43 : ¬ bt s i = 43 := fun h => h43 (i43.1 h)
        have p43 : pSkip [43] (c :: r) = c :: r := by simp [pSkip, pHas, h43]
        rw [p43]
        have h := ref_exp s hs neg w f false i hj hw h0 hd
        rw [hl1] at h
        refine Ev.step (f := fun k => erratumref02_Parse.j6 k s neg (i : Int) w f false false) (fun k => by simp only [erratumref02_Parse.j5, if_true, hw1, c0, c4, n43, if_false, b45]) ?_
        refine Ev.step (fun k => by simp only [erratumref02_Parse.j6, Bool.false_eq_true, if_false]; rfl) ?_
        exact h
/-- Behind the digits. -/
theorem ref_j4 (s : ByteArray) (hs : s.size ≤ 2000) (neg : Bool) (w f : ByteArray) (i : Nat) (hi : i ≤ s.size)
    (hw : w.size + f.size ≤ 2000) (h0 : (w ++ f).data.toList ≠ []) (hd : ∀ c ∈ (w ++ f).data.toList, isDig c = true) :
    Ev (fun k => erratumref02_Parse.j4 k s neg (i : Int) w f) (resS (tailL neg (w ++ f).data.toList f.size (s.data.toList.drop i))) := by
  have c4 : (0 : Int) ≤ (i : Int) := by omega
  have hno : pHas [101, 69] (s.data.toList.drop i) = false → Ev (fun k => erratumref02_Parse.j5 k s neg (i : Int) w f (⟨#[]⟩ : ByteArray) false false) (resS (tailL neg (w ++ f).data.toList f.size (s.data.toList.drop i))) := fun hp => by
    have h7 := ref_j7 s hs neg w f ⟨#[]⟩ false i hi none hw h0 hd (by decide) (by intro c hc; simp at hc) (.inl ⟨rfl, rfl, rfl⟩)
    unfold tailL
    rw [hp]
    simp only [Bool.false_eq_true, if_false]
    exact Ev.step (f := fun k => erratumref02_Parse.j7 k s neg (i : Int) w f (⟨#[]⟩ : ByteArray) false) (fun k => by simp only [erratumref02_Parse.j5, Bool.false_eq_true, if_false]) h7
  rcases hdr : s.data.toList.drop i with _ | ⟨c, r⟩
  · have hsz := drop_nil_iff.1 hdr
    have c0 : ¬ (i : Int) < (s.size : Int) := by omega
    rw [hdr] at hno
    exact Ev.step (f := fun k => erratumref02_Parse.j5 k s neg (i : Int) w f (⟨#[]⟩ : ByteArray) false false) (fun k => by simp only [erratumref02_Parse.j4, c0, if_false]) (hno rfl)
  · obtain ⟨hlt, hb⟩ := bt_drop hdr
    have c0 : (i : Int) < (s.size : Int) := by omega
    have i101 := bt_eq_iff hdr 101
    have i69 := bt_eq_iff hdr 69
    rw [show ((101 : UInt8).toNat : Int) = 101 from rfl] at i101
    rw [show ((69 : UInt8).toNat : Int) = 69 from rfl] at i69
    rw [hdr] at hno
    have hyes : pHas [101, 69] (c :: r) = true → Ev (fun k => erratumref02_Parse.j5 k s neg (i : Int) w f (⟨#[]⟩ : ByteArray) false true) (resS (tailL neg (w ++ f).data.toList f.size (c :: r))) := fun hp => by
      have h5 := ref_j5t s hs neg w f ⟨#[]⟩ i (by omega) hw h0 hd r (drop_tail hdr)
      unfold tailL
      rw [hp]
      simp only [if_true, List.tail_cons]
      exact h5
    by_cases h101 : c = 101
    · have e := i101.2 h101
      exact Ev.step (f := fun k => erratumref02_Parse.j5 k s neg (i : Int) w f (⟨#[]⟩ : ByteArray) false true) (fun k => by simp only [erratumref02_Parse.j4, c0, c4, if_true, e]) (hyes (by simp [pHas, h101]))
    · have n : ¬ bt s i = 101 := fun h => h101 (i101.1 h)
      by_cases h69 : c = 69
      · have b : (bt s i == 69) = true := beq_iff_eq.2 (i69.2 h69)
        exact Ev.step (f := fun k => erratumref02_Parse.j5 k s neg (i : Int) w f (⟨#[]⟩ : ByteArray) false true) (fun k => by simp only [erratumref02_Parse.j4, c0, c4, if_true, n, if_false, b]) (hyes (by simp [pHas, h69]))
      · have b : (bt s i == 69) = false := beq_eq_false_iff_ne.2 (fun h => h69 (i69.1 h))
        exact Ev.step (f := fun k => erratumref02_Parse.j5 k s neg (i : Int) w f (⟨#[]⟩ : ByteArray) false false) (fun k => by simp only [erratumref02_Parse.j4, c0, c4, if_true, n, if_false, b]) (hno (by simp [pHas, h101, h69]))
end Go.Proofs.YtmkdcokdilllcaaDoor.X
/- What the document says of a text: the head. -/
namespace Go.Proofs.YtmkdcokdilllcaaDoor.X
open Go.RowKit Go.Proofs.YtmkdcokdilllcaaDoorW.PrintWords Go.Proofs.YtmkdcokdilllcaaDoorW.PrintMore
set_option linter.unusedVariables false
set_option linter.unusedSimpArgs false
theorem ba_nil : (ByteArray.mk #[]).data.toList = [] := rfl
/-- Behind the whole digits. -/
theorem ref_j2 (s : ByteArray) (hs : s.size ≤ 2000) (neg : Bool) (w : ByteArray) (i : Nat) (hi : i ≤ s.size) (hw : w.size + i ≤ 4000) (hws : w.size + (s.size - i) ≤ 2000) (h0 : w.data.toList ≠ []) (hd : ∀ c ∈ w.data.toList, isDig c = true) :
    Ev (fun k => erratumref02_Parse.j2 k s neg (i : Int) w false)
      (resS (if pHas [46] (s.data.toList.drop i) = true then
        (if dg (s.data.toList.drop i).tail = [] then none else tailL neg (w.data.toList ++ dg (s.data.toList.drop i).tail) (dg (s.data.toList.drop i).tail).length (dr (s.data.toList.drop i).tail))
        else tailL neg w.data.toList 0 (s.data.toList.drop i))) := by
  have c4 : (0 : Int) ≤ (i : Int) := by omega
  have hno : pHas [46] (s.data.toList.drop i) = false → Ev (fun k => erratumref02_Parse.j3 k s neg (i : Int) w (⟨#[]⟩ : ByteArray) false) (resS (tailL neg w.data.toList 0 (s.data.toList.drop i))) := fun hp => by
    have h4 := ref_j4 s hs neg w ⟨#[]⟩ i hi (by rw [show (ByteArray.mk #[]).size = 0 from rfl]; omega) (by rw [append_list, ba_nil, List.append_nil]; exact h0) (by rw [append_list, ba_nil, List.append_nil]; exact hd)
    rw [append_list, ba_nil, List.append_nil] at h4
    exact Ev.step (f := fun k => erratumref02_Parse.j4 k s neg (i : Int) w (⟨#[]⟩ : ByteArray)) (fun k => by simp only [erratumref02_Parse.j3, Bool.false_eq_true, if_false]) h4
  rcases hdr : s.data.toList.drop i with _ | ⟨c, r⟩
  · have hsz := drop_nil_iff.1 hdr
    have c0 : ¬ (i : Int) < (s.size : Int) := by omega
    rw [hdr] at hno
    exact Ev.step (f := fun k => erratumref02_Parse.j3 k s neg (i : Int) w (⟨#[]⟩ : ByteArray) false) (fun k => by simp only [erratumref02_Parse.j2, Bool.false_eq_true, if_false, c0]) (hno rfl)
  · obtain ⟨hlt, hb⟩ := bt_drop hdr
    have c0 : (i : Int) < (s.size : Int) := by omega
    have i46 := bt_eq_iff hdr 46
    rw [show ((46 : UInt8).toNat : Int) = 46 from rfl] at i46
    rw [hdr] at hno
    have ht := drop_tail hdr
    by_cases h46 : c = 46
    · have b : (bt s i == 46) = true := beq_iff_eq.2 (i46.2 h46)
      have hp : pHas [46] (c :: r) = true := by simp [pHas, h46]
      rw [if_pos hp]
      change Ev _ (resS (if dg r = [] then none else tailL neg (w.data.toList ++ dg r) (dg r).length (dr r)))
      refine Ev.step (f := fun k => erratumref02_Parse.j3 k s neg (i : Int) w (⟨#[]⟩ : ByteArray) true) (fun k => by simp only [erratumref02_Parse.j2, Bool.false_eq_true, if_false, c0, c4, if_true, b]) ?_
      have hw1 : wrap64 ((i : Int) + 1) = ((i + 1 : Nat) : Int) := by rw [wrap64_ok (by omega) (by omega)]; omega
      obtain ⟨x, hx, hr, hle, hdr2⟩ := ref_run s hs (i + 1) (by omega)
      rw [ht] at hx hr hle hdr2
      refine Ev.step (fun k => by simp only [erratumref02_Parse.j3, if_true, hw1]; rfl) ?_
      refine Ev.bind hr ?_
      by_cases he : dg r = []
      · rw [if_pos he]
        refine Ev.congr (f := fun _ => some (false, [], 0, 2)) (fun k => ?_) (Ev.now _)
        simp only [(toList_nil x).2 (hx.trans he), if_true]
      · rw [if_neg he]
        have hl := dg_le r
        have hrl : r.length + (i + 1) = s.size := by
          have := congrArg List.length hdr
          rw [List.length_drop, dlen, List.length_cons] at this
          omega
        have hxs : x.size ≤ s.size - (i + 1) := by
          rw [← dlen, hx]
          omega
        have h4 := ref_j4 s hs neg w x _ hle (by omega) (by rw [append_list]; intro h; exact h0 (List.append_eq_nil_iff.1 h).1) (by
          rw [append_list, hx]
          intro d hd2
          rcases List.mem_append.1 hd2 with h | h
          · exact hd d h
          · exact dg_mem h)
        rw [hdr2, append_list, hx, ← dlen x, hx] at h4
        refine Ev.congr (fun k => ?_) h4
        simp only [if_neg (fun h => he (hx.symm.trans ((toList_nil x).1 h)))]
    · have b : (bt s i == 46) = false := beq_eq_false_iff_ne.2 (fun h => h46 (i46.1 h))
      have hp : pHas [46] (c :: r) = false := by simp [pHas, h46]
      rw [hp]
      simp only [Bool.false_eq_true, if_false]
      exact Ev.step (f := fun k => erratumref02_Parse.j3 k s neg (i : Int) w (⟨#[]⟩ : ByteArray) false) (fun k => by simp only [erratumref02_Parse.j2, Bool.false_eq_true, if_false, c0, c4, if_true, b]) (hno hp)
/-- Behind the sign. -/
theorem ref_j1 (s : ByteArray) (hs : s.size ≤ 2000) (neg : Bool) (i : Nat) (hi : i ≤ s.size) (l : List UInt8) (hl : s.data.toList.drop i = l) :
    Ev (fun k => erratumref02_Parse.j1 k s neg (i : Int))
      (resS (if dg l = [] then none
  else if leadL (dg l) = true then none
  else if pHas [46] (dr l) = true then
    (if dg (dr l).tail = [] then none
     else tailL neg (dg l ++ dg (dr l).tail) (dg (dr l).tail).length (dr (dr l).tail))
  else tailL neg (dg l) 0 (dr l))) := by
  obtain ⟨w, hw, hr, hle, hdr⟩ := ref_run s hs i hi
  rw [hl] at hw hr hle hdr
  have hn := dg_le l
  have hll : l.length + i = s.size := by
    have := congrArg List.length hl
    rw [List.length_drop, dlen] at this
    omega
  have hws : w.size = (dg l).length := by rw [← dlen, hw]
  refine Ev.step (fun k => by simp only [erratumref02_Parse.j1]; rfl) ?_
  refine Ev.bind hr ?_
  by_cases he : dg l = []
  · rw [if_pos he]
    refine Ev.congr (f := fun k => erratumref02_Parse.j2 k s neg ((i + nDig l : Nat) : Int) w true) (fun k => ?_) ?_
    · simp only [(toList_nil w).2 (hw.trans he), if_true]
    · exact Ev.step (f := fun _ => some (false, [], 0, 2)) (fun k => by simp only [erratumref02_Parse.j2, if_true]) (Ev.now _)
  · rw [if_neg he]
    have hne : ¬ (w.toList = ([] : List UInt8)) := fun h => he (hw.symm.trans ((toList_nil w).1 h))
    have hpos : 0 < (dg l).length := by
      rcases hx : dg l with _ | ⟨c, r⟩
      · exact absurd hx he
      · simp
    have h2 := ref_j2 s hs neg w (i + nDig l) hle (by rw [hws]; omega) (by rw [hws, dg_length]; rw [dg_length] at hn; omega) (by rw [hw]; exact he) (by rw [hw]; exact fun c hc => dg_mem hc)
    rw [hdr, hw] at h2
    by_cases h1 : (w.size : Int) > 1
    · have c5 : (0 : Int) < (w.size : Int) := by omega
      obtain ⟨c, r, hc, hb⟩ := bt_at' (s := w) (i := 0) (by omega)
      rw [List.drop_zero, hw] at hc
      have hb' : bt w 0 = (c.toNat : Int) := hb
      refine Ev.congr (f := fun k => erratumref02_Parse.j2 k s neg ((i + nDig l : Nat) : Int) w (bt w 0 == 48)) (fun k => by simp only [hne, if_false, h1, c5, if_true]) ?_
      have hL : leadL (dg l) = (c == 48) := by
        unfold leadL
        rw [decide_eq_true (by omega), hc]
        simp
      rw [hL]
      by_cases h48 : c = 48
      · have b : (bt w 0 == 48) = true := beq_iff_eq.2 (by rw [hb', h48]; rfl)
        rw [b, if_pos (by rw [h48]; rfl)]
        exact Ev.step (f := fun _ => some (false, [], 0, 2)) (fun k => by simp only [erratumref02_Parse.j2, if_true]) (Ev.now _)
      · have b : (bt w 0 == 48) = false := beq_eq_false_iff_ne.2 (by
          rw [hb']
          intro h
          apply h48
          apply UInt8.toNat_inj.1
          have : (48 : UInt8).toNat = 48 := rfl
          omega)
        rw [b, if_neg (by rw [beq_iff_eq]; exact h48)]
        exact h2
    · refine Ev.congr (f := fun k => erratumref02_Parse.j2 k s neg ((i + nDig l : Nat) : Int) w false) (fun k => by simp only [hne, if_false, h1]) ?_
      rw [if_neg (by
        unfold leadL
        rw [decide_eq_false (by omega)]
        simp)]
      exact h2
theorem ref_text (s : ByteArray) (hs : s.size ≤ 2000) : Ev (fun k => erratumref02_Parse.f k s) (resS (specL s.data.toList)) := by
  have c0 : ¬ (s.size : Int) > 2000 := by omega
  rcases hl : s.data.toList with _ | ⟨c, r⟩
  · have hz : s.size = 0 := (size_list s).2 hl
    have c1 : ¬ (s.size : Int) > 0 := by omega
    have h1 := ref_j1 s hs false 0 (by omega) [] (by rw [List.drop_zero]; exact hl)
    refine Ev.congr (f := fun k => erratumref02_Parse.j0 k s false) (fun k => by simp only [erratumref02_Parse.f, c0, c1, if_false]) ?_
    exact Ev.step (f := fun k => erratumref02_Parse.j1 k s false 0) (fun k => by simp only [erratumref02_Parse.j0, Bool.false_eq_true, if_false]) h1
  · have hdr : s.data.toList.drop 0 = c :: r := by rw [List.drop_zero]; exact hl
    obtain ⟨hlt, hb⟩ := bt_drop hdr
    have c1 : (s.size : Int) > 0 := by omega
    have c2 : (0 : Int) < (s.size : Int) := by omega
    have i45 := bt_eq_iff hdr 45
    rw [show ((45 : UInt8).toNat : Int) = 45 from rfl] at i45
    refine Ev.congr (f := fun k => erratumref02_Parse.j0 k s (bt s 0 == 45)) (fun k => by simp only [erratumref02_Parse.f, c0, if_false, c1, if_true]) ?_
    unfold specL
    by_cases h45 : c = 45
    · have b : (bt s 0 == 45) = true := beq_iff_eq.2 (i45.2 h45)
      have h1 := ref_j1 s hs true 1 (by omega) r (drop_tail hdr)
      have p : pHas [45] (c :: r) = true := by simp [pHas, h45]
      rw [show pSkip [45] (c :: r) = r from by rw [pSkip, if_pos p]; rfl, p, b]
      exact Ev.step (f := fun k => erratumref02_Parse.j1 k s true 1) (fun k => by simp only [erratumref02_Parse.j0, if_true]) h1
    · have b : (bt s 0 == 45) = false := beq_eq_false_iff_ne.2 (fun h => h45 (i45.1 h))
      have h1 := ref_j1 s hs false 0 (by omega) (c :: r) hdr
      have p : pHas [45] (c :: r) = false := by simp [pHas, h45]
      rw [show pSkip [45] (c :: r) = c :: r from by rw [pSkip, p]; rfl, p, b]
      exact Ev.step (f := fun k => erratumref02_Parse.j1 k s false 0) (fun k => by simp only [erratumref02_Parse.j0, Bool.false_eq_true, if_false]) h1
end Go.Proofs.YtmkdcokdilllcaaDoor.X
-- A walk, written by a program of this session (xp.py).
namespace Go.Proofs.YtmkdcokdilllcaaDoor.X
open Go.RowKit Go.Proofs.YtmkdcokdilllcaaDoorW.PrintWords Go.Proofs.YtmkdcokdilllcaaDoorW.PrintLast Go.Proofs.YtmkdcokdilllcaaDoorW.PrintMore
attribute [local go_sem] max2_int min2_int max_two min_two max_three min_three max_four min_four
set_option linter.unusedVariables false
set_option linter.unusedSimpArgs false

/-! ### erratumlaw00_SameLimbs: function 31 -/
def erratumlaw00_SameLimbs.l0 : Nat → List Int → List Int → Int → Option (Bool)
  | 0, _, _, _ => none
  | k + 1, x0, x1, x5 => if x5 < (x0.length : Int) then (if 0 ≤ x5 then (if x5 < (x1.length : Int) then (if (rd x0 x5) = (rd x1 x5) then (erratumlaw00_SameLimbs.l0 k x0 x1 (wrap64 (x5 + 1))) else (some false)) else (none)) else (none)) else (some true)
def erratumlaw00_SameLimbs.f (k : Nat) (l0 : List Int) (l1 : List Int) : Option (Bool) := if (l0.length : Int) = (l1.length : Int) then (erratumlaw00_SameLimbs.l0 k l0 l1 0) else (some false)
set_option maxHeartbeats 8000000 in
set_option maxRecDepth 100000 in
theorem erratumlaw00_SameLimbs.calls (k : Nat) (A0 : Option Addr) (c0 : Nat) (l0 : List Int) (A1 : Option Addr) (c1 : Nat) (l1 : List Int) (r : Bool) (w : World) (hr0 : Kd.C (Kd.int .u32) w A0 l0.length l0) (hc0 : l0.length ≤ c0) (hr1 : Kd.C (Kd.int .u32) w A1 l1.length l1) (hc1 : l1.length ≤ c1) (h : erratumlaw00_SameLimbs.f k l0 l1 = some r) :
    Calls Tryd.prog 31 #[.slice A0 l0.length c0, .slice A1 l1.length c1] w fun e w' => e = .returned (.bool r) ∧ Drawn0 w w' := by
  have HR0 := Aside0.mk hr0
  have HC0 := Aside0.mk hc0
  clear hr0 hc0
  have HR1 := Aside0.mk hr1
  have HC1 := Aside0.mk hc1
  clear hr1 hc1
  have H : (if (l0.length : Int) = (l1.length : Int) then (erratumlaw00_SameLimbs.l0 k l0 l1 0) else (some false)) = some r := h
  clear h
  by_cases c3 : (l0.length : Int) = (l1.length : Int)
  · rw [if_pos c3] at H
    have c3b0 : ((l0.length : Int) == (l1.length : Int)) = true := beq_iff_eq.mpr c3
    have c3b1 : ((l0.length : Int) != (l1.length : Int)) = false := bne_eq_false_iff_eq.mpr c3
    have c3b2 : (l0.length == l1.length) = true := by first | simpa using c3 | (simp at c3 ⊢; omega)
    clear c3
    have H' := Aside0.mk H
    clear H
    go_enter Tryd.func31, Tryd.ntmps31
    go_wp2
    repeat (go_quiet (fail); try go_wp2)
    go_loopg [5] k (fun kq v5 w' => ∃ (x5_1 : Int), v5 = .int .i64 x5_1 ∧ Aside0 (erratumlaw00_SameLimbs.l0 kq l0 l1 x5_1 = some r) ∧ Aside0 (kq ≤ k) ∧ Drawn0 w w')
    case atStart => exact ⟨(0), (by first | rfl | (simp; done) | (simp [*]; done)), H', ⟨Nat.le_refl _⟩, by repeat (first | exact Drawn0.refl _ | apply Drawn0.step)⟩
    case round =>
      clear H'
      try clear c1
      try clear p2
      try clear c3
      try clear c3b0
      try clear c3b1
      try clear c3b2
      obtain ⟨x5_1, rfl, HA, HK1, ⟨m1, rfl⟩⟩ := hrel
      cases gk with
      | zero => exact absurd HA.out (by simp [erratumlaw00_SameLimbs.l0])
      | succ k1 =>
        have H := HA.out
        clear HA
        simp only [erratumlaw00_SameLimbs.l0] at H
        by_cases c4 : x5_1 < (l0.length : Int)
        · rw [if_pos c4] at H
          have c4b0 : decide (x5_1 < (l0.length : Int)) = true := decide_eq_true c4
          clear c4
          by_cases c5 : 0 ≤ x5_1
          · rw [if_pos c5] at H
            have c5b0 : decide (0 ≤ x5_1) = true := decide_eq_true c5
            clear c5
            by_cases c6 : x5_1 < (l1.length : Int)
            · rw [if_pos c6] at H
              have c6b0 : decide (x5_1 < (l1.length : Int)) = true := decide_eq_true c6
              clear c6
              by_cases c7 : (rd l0 x5_1) = (rd l1 x5_1)
              · rw [if_pos c7] at H
                have c7b0 : ((rd l0 x5_1) == (rd l1 x5_1)) = true := beq_iff_eq.mpr c7
                have c7b1 : ((rd l0 x5_1) != (rd l1 x5_1)) = false := bne_eq_false_iff_eq.mpr c7
                clear c7
                have H' := Aside0.mk H
                clear H
                have p304 : 0 ≤ (x5_1 : Int) := of_decide_eq_true (by first | (with_reducible assumption) | assumption)
                have q304 : x5_1 < (l0.length : Int) := of_decide_eq_true (by first | (with_reducible assumption) | assumption)
                obtain ⟨ad304, e304, hx304_0⟩ := Kd.at_int HR0.out x5_1 p304 q304
                cases e304
                replace p304 := eq_true p304
                replace q304 := eq_true q304
                have p305 : 0 ≤ (x5_1 : Int) := of_decide_eq_true (by first | (with_reducible assumption) | assumption)
                have q305 : x5_1 < (l1.length : Int) := of_decide_eq_true (by first | (with_reducible assumption) | assumption)
                obtain ⟨ad305, e305, hx305_0⟩ := Kd.at_int HR1.out x5_1 p305 q305
                cases e305
                replace p305 := eq_true p305
                replace q305 := eq_true q305
                go_wp2
                repeat (go_quiet (fail); try go_wp2)
                go_roundg k1
                case measure => have := HK1.out; omega
                case rel => exact ⟨(wrap64 (x5_1 + 1)), (by first | rfl | (simp; done) | (simp [*]; done)), H', ⟨by have := HK1.out; omega⟩, by repeat (first | exact Drawn0.refl _ | apply Drawn0.step)⟩
              · rw [if_neg c7] at H
                have c7b0 : ((rd l0 x5_1) == (rd l1 x5_1)) = false := beq_eq_false_iff_ne.mpr c7
                have c7b1 : ((rd l0 x5_1) != (rd l1 x5_1)) = true := bne_iff_ne.mpr c7
                obtain rfl := Option.some.inj H
                have p304 : 0 ≤ (x5_1 : Int) := of_decide_eq_true (by first | (with_reducible assumption) | assumption)
                have q304 : x5_1 < (l0.length : Int) := of_decide_eq_true (by first | (with_reducible assumption) | assumption)
                obtain ⟨ad304, e304, hx304_0⟩ := Kd.at_int HR0.out x5_1 p304 q304
                cases e304
                replace p304 := eq_true p304
                replace q304 := eq_true q304
                have p305 : 0 ≤ (x5_1 : Int) := of_decide_eq_true (by first | (with_reducible assumption) | assumption)
                have q305 : x5_1 < (l1.length : Int) := of_decide_eq_true (by first | (with_reducible assumption) | assumption)
                obtain ⟨ad305, e305, hx305_0⟩ := Kd.at_int HR1.out x5_1 p305 q305
                cases e305
                replace p305 := eq_true p305
                replace q305 := eq_true q305
                go_wp2
                repeat (go_quiet (fail); try go_wp2)
                go_ret
                exact ⟨by first | rfl | (simp; done) | (simp [*]; done), by repeat (first | exact Drawn0.refl _ | apply Drawn0.step)⟩
            · rw [if_neg c6] at H
              exact absurd H (by simp)
          · rw [if_neg c5] at H
            exact absurd H (by simp)
        · rw [if_neg c4] at H
          have c4b0 : decide (x5_1 < (l0.length : Int)) = false := decide_eq_false c4
          clear c4
          obtain rfl := Option.some.inj H
          go_wp2
          repeat (go_quiet (fail); try go_wp2)
          go_ret
          exact ⟨by first | rfl | (simp; done) | (simp [*]; done), by repeat (first | exact Drawn0.refl _ | apply Drawn0.step)⟩
  · rw [if_neg c3] at H
    have c3b0 : ((l0.length : Int) == (l1.length : Int)) = false := beq_eq_false_iff_ne.mpr c3
    have c3b1 : ((l0.length : Int) != (l1.length : Int)) = true := bne_iff_ne.mpr c3
    have c3b2 : (l0.length == l1.length) = false := by first | simpa using c3 | (simp at c3 ⊢; omega)
    obtain rfl := Option.some.inj H
    go_enter Tryd.func31, Tryd.ntmps31
    go_wp2
    repeat (go_quiet (fail); try go_wp2)
    go_ret
    exact ⟨by first | rfl | (simp; done) | (simp [*]; done), by repeat (first | exact Drawn0.refl _ | apply Drawn0.step)⟩

end Go.Proofs.YtmkdcokdilllcaaDoor.X
-- A walk, written by a program of this session (xp.py).
namespace Go.Proofs.YtmkdcokdilllcaaDoor.X
open Go.RowKit Go.Proofs.YtmkdcokdilllcaaDoorW.PrintWords Go.Proofs.YtmkdcokdilllcaaDoorW.PrintLast Go.Proofs.YtmkdcokdilllcaaDoorW.PrintMore
attribute [local go_sem] max2_int min2_int max_two min_two max_three min_three max_four min_four
set_option linter.unusedVariables false
set_option linter.unusedSimpArgs false

/-! ### erratumlaw00_SameNum: function 12 -/
def erratumlaw00_SameNum.f (k : Nat) (a0_0 : Bool) (l0_1 : List Int) (a0_2 : Int) (a1_0 : Bool) (l1_1 : List Int) (a1_2 : Int) : Option (Bool) := if (a0_0 == a1_0) = true then (if a0_2 = a1_2 then ((erratumlaw00_SameLimbs.f k l0_1 l1_1).bind fun t308 => (some t308)) else (some false)) else (some false)
set_option maxHeartbeats 8000000 in
set_option maxRecDepth 100000 in
theorem erratumlaw00_SameNum.calls (k : Nat) (a0_0 : Bool) (A0_1 : Option Addr) (c0_1 : Nat) (l0_1 : List Int) (a0_2 : Int) (a1_0 : Bool) (A1_1 : Option Addr) (c1_1 : Nat) (l1_1 : List Int) (a1_2 : Int) (r : Bool) (w : World) (hr0_1 : Kd.C (Kd.int .u32) w A0_1 l0_1.length l0_1) (hc0_1 : l0_1.length ≤ c0_1) (hr1_1 : Kd.C (Kd.int .u32) w A1_1 l1_1.length l1_1) (hc1_1 : l1_1.length ≤ c1_1) (h : erratumlaw00_SameNum.f k a0_0 l0_1 a0_2 a1_0 l1_1 a1_2 = some r) :
    Calls Tryd.prog 12 #[.agg #[.bool a0_0, .slice A0_1 l0_1.length c0_1, .int .i64 a0_2], .agg #[.bool a1_0, .slice A1_1 l1_1.length c1_1, .int .i64 a1_2]] w fun e w' => e = .returned (.bool r) ∧ Below w.heap.size w w' := by
  have hu25 := Tryd.underlying25
  have HR0_1 := Aside0.mk hr0_1
  have HC0_1 := Aside0.mk hc0_1
  clear hr0_1 hc0_1
  have HR1_1 := Aside0.mk hr1_1
  have HC1_1 := Aside0.mk hc1_1
  clear hr1_1 hc1_1
  have HB := Aside0.mk (Below.refl w.heap.size w)
  have H : (if (a0_0 == a1_0) = true then (if a0_2 = a1_2 then ((erratumlaw00_SameLimbs.f k l0_1 l1_1).bind fun t308 => (some t308)) else (some false)) else (some false)) = some r := h
  clear h
  by_cases c3 : (a0_0 == a1_0) = true
  · rw [if_pos c3] at H
    have c3b0 : (a0_0 == a1_0) = true := c3
    (try (have c3b1 : decide (a0_0 = a1_0) = true := by simpa using c3))
    (try (have c3b2 : (a0_0 == a1_0) = true := by simpa using c3))
    clear c3
    by_cases c4 : a0_2 = a1_2
    · rw [if_pos c4] at H
      have c4b0 : (a0_2 == a1_2) = true := beq_iff_eq.mpr c4
      have c4b1 : (a0_2 != a1_2) = false := bne_eq_false_iff_eq.mpr c4
      clear c4
      replace H := Option.bind_eq_some_iff.mp H
      obtain ⟨t308, A50, H⟩ := H
      replace H : (some t308) = some r := H
      have A5 := Aside0.mk A50
      clear A50
      obtain rfl := Option.some.inj H
      go_enter Tryd.func12, Tryd.ntmps12
      go_wp2_with (first | ((with_reducible refine gate_dst (N := 2) rfl ?_); refine box_event ?hg (N := 2) ?hd (cs := #[.bool a0_0, .slice A0_1 l0_1.length c0_1, .int .i64 a0_2]) (t := 25) ?hr ?_; (case hd => rfl); (case hg => rfl); (case hr => first | (go_simp; done) | (go_simp; rfl) | (go_simp; simp only [x_u32u8, x_u8, x_u32, x_u64, x_mm]; first | done | rfl)); intro gb306 hg w6 hbox hb; have n0_ := Aside0.mk (below_step (by repeat (first | (with_reducible first | exact HB.out | apply below_alloc | apply pw_below_drewN | apply below_drew1) | exact HB.out)) hb); have n1_ := Aside0.mk (hbox); have n2_ := Aside0.mk ((by rw [hg]; exact (below_size (by repeat (first | (with_reducible first | exact HB.out | apply below_alloc | apply pw_below_drewN | apply below_drew1) | exact HB.out))) : w.heap.size ≤ gb306)); have n3_ := Aside0.mk ((by rw [hg]; exact (below_size (by repeat (first | (with_reducible first | exact HB.out | apply below_alloc | apply pw_below_drewN | apply below_drew1) | exact HB.out))) : w.heap.size ≤ gb306)); clear HB; have HB := n0_; have BK306 := n1_; have GW306 := n2_; have GE306 := n3_; clear n0_ n1_ n2_ n3_; clear hb hbox hg) | ((with_reducible refine gate_dst (N := 3) rfl ?_); refine box_event ?hg (N := 3) ?hd (cs := #[.bool a1_0, .slice A1_1 l1_1.length c1_1, .int .i64 a1_2]) (t := 25) ?hr ?_; (case hd => rfl); (case hg => rfl); (case hr => first | (go_simp; done) | (go_simp; rfl) | (go_simp; simp only [x_u32u8, x_u8, x_u32, x_u64, x_mm]; first | done | rfl)); intro gb307 hg w7 hbox hb; have n0_ := Aside0.mk (blk_below (g := gb306) (o := .cells #[.bool a0_0, .slice A0_1 l0_1.length c0_1, .int .i64 a0_2] 25 (0, 0)) (by (with_reducible repeat (first | refine blk_drewN ?_ _ | refine blk_drew ?_ | refine blk_alloc ?_ _)); exact BK306.out) hb); have n1_ := Aside0.mk (below_step (by repeat (first | (with_reducible first | exact HB.out | apply below_alloc | apply pw_below_drewN | apply below_drew1 | refine below_set ?_ GE306.out) | exact HB.out)) hb); have n2_ := Aside0.mk (hbox); have n3_ := Aside0.mk ((by rw [hg]; exact (below_size (by repeat (first | (with_reducible first | exact HB.out | apply below_alloc | apply pw_below_drewN | apply below_drew1 | refine below_set ?_ GE306.out) | exact HB.out))) : w.heap.size ≤ gb307)); have n4_ := Aside0.mk ((by rw [hg]; exact (below_size (by repeat (first | (with_reducible first | exact HB.out | apply below_alloc | apply pw_below_drewN | apply below_drew1 | refine below_set ?_ GE306.out) | exact HB.out))) : w.heap.size ≤ gb307)); have n5_ := Aside0.mk ((by rw [hg]; exact Nat.ne_of_lt (blk_lt (g := gb306) (o := .cells #[.bool a0_0, .slice A0_1 l0_1.length c0_1, .int .i64 a0_2] 25 (0, 0)) (by (with_reducible repeat (first | refine blk_drewN ?_ _ | refine blk_drew ?_ | refine blk_alloc ?_ _)); exact BK306.out)) : gb306 ≠ gb307)); have n6_ := Aside0.mk ((by rw [hg]; exact Nat.ne_of_gt (blk_lt (g := gb306) (o := .cells #[.bool a0_0, .slice A0_1 l0_1.length c0_1, .int .i64 a0_2] 25 (0, 0)) (by (with_reducible repeat (first | refine blk_drewN ?_ _ | refine blk_drew ?_ | refine blk_alloc ?_ _)); exact BK306.out)) : gb307 ≠ gb306)); clear BK306; clear HB; have BK306 := n0_; have HB := n1_; have BK307 := n2_; have GW307 := n3_; have GE307 := n4_; have NB306_307 := n5_; have NB307_306 := n6_; clear n0_ n1_ n2_ n3_ n4_ n5_ n6_; clear hb hbox hg; have hnb8 := NB306_307.out; have hnc8 := NB307_306.out; have hcz9_0 : w7.cell? ⟨gb306, 0, none⟩ = some (.bool a0_0) := (blk_cell BK306.out 0).trans rfl; have hcz9_1 : w7.cell? ⟨gb306, 1, none⟩ = some (.slice A0_1 l0_1.length c0_1) := (blk_cell BK306.out 1).trans rfl; have hcz9_2 : w7.cell? ⟨gb306, 2, none⟩ = some (.int .i64 a0_2) := (blk_cell BK306.out 2).trans rfl; have hfz9_0 := blk_frozen BK306.out 0; have hfz9_1 := blk_frozen BK306.out 1; have hfz9_2 := blk_frozen BK306.out 2; have hcz10_0 : w7.cell? ⟨gb307, 0, none⟩ = some (.bool a1_0) := (blk_cell BK307.out 0).trans rfl; have hcz10_1 : w7.cell? ⟨gb307, 1, none⟩ = some (.slice A1_1 l1_1.length c1_1) := (blk_cell BK307.out 1).trans rfl; have hcz10_2 : w7.cell? ⟨gb307, 2, none⟩ = some (.int .i64 a1_2) := (blk_cell BK307.out 2).trans rfl; have hfz10_0 := blk_frozen BK307.out 0; have hfz10_1 := blk_frozen BK307.out 1; have hfz10_2 := blk_frozen BK307.out 2) | (go_at_call 31; (with_reducible refine (erratumlaw00_SameLimbs.calls k _ _ l0_1 _ _ l1_1 t308 _ ?side1 ?side2 ?side3 ?side4 A5.out).mono ?_); (case side1 => repeat (first | exact (Kd.C_below HR0_1.out HB.out) | (with_reducible refine Kd.C_alloc ?_ _) | (with_reducible refine Kd.C_drewN ?_ _) | (with_reducible refine Kd.C_drew ?_))); (case side2 => exact HC0_1.out); (case side3 => repeat (first | exact (Kd.C_below HR1_1.out HB.out) | (with_reducible refine Kd.C_alloc ?_ _) | (with_reducible refine Kd.C_drewN ?_ _) | (with_reducible refine Kd.C_drew ?_))); (case side4 => exact HC1_1.out); rintro e w' ⟨rfl, ⟨nd, rfl⟩⟩))
      go_ret
      exact ⟨by first | rfl | (simp [errW_none, errW_some] <;> rfl) | (simp [*, errW_none, errW_some] <;> rfl), by repeat (first | (with_reducible first | exact HB.out | apply below_alloc | apply pw_below_drewN | apply below_drew1 | refine below_set ?_ GE306.out | refine below_set ?_ GE307.out) | exact HB.out)⟩
    · rw [if_neg c4] at H
      have c4b0 : (a0_2 == a1_2) = false := beq_eq_false_iff_ne.mpr c4
      have c4b1 : (a0_2 != a1_2) = true := bne_iff_ne.mpr c4
      obtain rfl := Option.some.inj H
      go_enter Tryd.func12, Tryd.ntmps12
      go_wp2_with (first | ((with_reducible refine gate_dst (N := 2) rfl ?_); refine box_event ?hg (N := 2) ?hd (cs := #[.bool a0_0, .slice A0_1 l0_1.length c0_1, .int .i64 a0_2]) (t := 25) ?hr ?_; (case hd => rfl); (case hg => rfl); (case hr => first | (go_simp; done) | (go_simp; rfl) | (go_simp; simp only [x_u32u8, x_u8, x_u32, x_u64, x_mm]; first | done | rfl)); intro gb306 hg w11 hbox hb; have n0_ := Aside0.mk (below_step (by repeat (first | (with_reducible first | exact HB.out | apply below_alloc | apply pw_below_drewN | apply below_drew1) | exact HB.out)) hb); have n1_ := Aside0.mk (hbox); have n2_ := Aside0.mk ((by rw [hg]; exact (below_size (by repeat (first | (with_reducible first | exact HB.out | apply below_alloc | apply pw_below_drewN | apply below_drew1) | exact HB.out))) : w.heap.size ≤ gb306)); have n3_ := Aside0.mk ((by rw [hg]; exact (below_size (by repeat (first | (with_reducible first | exact HB.out | apply below_alloc | apply pw_below_drewN | apply below_drew1) | exact HB.out))) : w.heap.size ≤ gb306)); clear HB; have HB := n0_; have BK306 := n1_; have GW306 := n2_; have GE306 := n3_; clear n0_ n1_ n2_ n3_; clear hb hbox hg) | ((with_reducible refine gate_dst (N := 3) rfl ?_); refine box_event ?hg (N := 3) ?hd (cs := #[.bool a1_0, .slice A1_1 l1_1.length c1_1, .int .i64 a1_2]) (t := 25) ?hr ?_; (case hd => rfl); (case hg => rfl); (case hr => first | (go_simp; done) | (go_simp; rfl) | (go_simp; simp only [x_u32u8, x_u8, x_u32, x_u64, x_mm]; first | done | rfl)); intro gb307 hg w12 hbox hb; have n0_ := Aside0.mk (blk_below (g := gb306) (o := .cells #[.bool a0_0, .slice A0_1 l0_1.length c0_1, .int .i64 a0_2] 25 (0, 0)) (by (with_reducible repeat (first | refine blk_drewN ?_ _ | refine blk_drew ?_ | refine blk_alloc ?_ _)); exact BK306.out) hb); have n1_ := Aside0.mk (below_step (by repeat (first | (with_reducible first | exact HB.out | apply below_alloc | apply pw_below_drewN | apply below_drew1 | refine below_set ?_ GE306.out) | exact HB.out)) hb); have n2_ := Aside0.mk (hbox); have n3_ := Aside0.mk ((by rw [hg]; exact (below_size (by repeat (first | (with_reducible first | exact HB.out | apply below_alloc | apply pw_below_drewN | apply below_drew1 | refine below_set ?_ GE306.out) | exact HB.out))) : w.heap.size ≤ gb307)); have n4_ := Aside0.mk ((by rw [hg]; exact (below_size (by repeat (first | (with_reducible first | exact HB.out | apply below_alloc | apply pw_below_drewN | apply below_drew1 | refine below_set ?_ GE306.out) | exact HB.out))) : w.heap.size ≤ gb307)); have n5_ := Aside0.mk ((by rw [hg]; exact Nat.ne_of_lt (blk_lt (g := gb306) (o := .cells #[.bool a0_0, .slice A0_1 l0_1.length c0_1, .int .i64 a0_2] 25 (0, 0)) (by (with_reducible repeat (first | refine blk_drewN ?_ _ | refine blk_drew ?_ | refine blk_alloc ?_ _)); exact BK306.out)) : gb306 ≠ gb307)); have n6_ := Aside0.mk ((by rw [hg]; exact Nat.ne_of_gt (blk_lt (g := gb306) (o := .cells #[.bool a0_0, .slice A0_1 l0_1.length c0_1, .int .i64 a0_2] 25 (0, 0)) (by (with_reducible repeat (first | refine blk_drewN ?_ _ | refine blk_drew ?_ | refine blk_alloc ?_ _)); exact BK306.out)) : gb307 ≠ gb306)); clear BK306; clear HB; have BK306 := n0_; have HB := n1_; have BK307 := n2_; have GW307 := n3_; have GE307 := n4_; have NB306_307 := n5_; have NB307_306 := n6_; clear n0_ n1_ n2_ n3_ n4_ n5_ n6_; clear hb hbox hg; have hnb13 := NB306_307.out; have hnc13 := NB307_306.out; have hcz14_0 : w12.cell? ⟨gb306, 0, none⟩ = some (.bool a0_0) := (blk_cell BK306.out 0).trans rfl; have hcz14_1 : w12.cell? ⟨gb306, 1, none⟩ = some (.slice A0_1 l0_1.length c0_1) := (blk_cell BK306.out 1).trans rfl; have hcz14_2 : w12.cell? ⟨gb306, 2, none⟩ = some (.int .i64 a0_2) := (blk_cell BK306.out 2).trans rfl; have hfz14_0 := blk_frozen BK306.out 0; have hfz14_1 := blk_frozen BK306.out 1; have hfz14_2 := blk_frozen BK306.out 2; have hcz15_0 : w12.cell? ⟨gb307, 0, none⟩ = some (.bool a1_0) := (blk_cell BK307.out 0).trans rfl; have hcz15_1 : w12.cell? ⟨gb307, 1, none⟩ = some (.slice A1_1 l1_1.length c1_1) := (blk_cell BK307.out 1).trans rfl; have hcz15_2 : w12.cell? ⟨gb307, 2, none⟩ = some (.int .i64 a1_2) := (blk_cell BK307.out 2).trans rfl; have hfz15_0 := blk_frozen BK307.out 0; have hfz15_1 := blk_frozen BK307.out 1; have hfz15_2 := blk_frozen BK307.out 2))
      go_ret
      exact ⟨by first | rfl | (simp [errW_none, errW_some] <;> rfl) | (simp [*, errW_none, errW_some] <;> rfl), by repeat (first | (with_reducible first | exact HB.out | apply below_alloc | apply pw_below_drewN | apply below_drew1 | refine below_set ?_ GE306.out | refine below_set ?_ GE307.out) | exact HB.out)⟩
  · rw [if_neg c3] at H
    have c3b0 : (a0_0 == a1_0) = false := by simpa using c3
    (try (have c3b1 : decide (a0_0 = a1_0) = false := by simpa using c3))
    (try (have c3b2 : (a0_0 == a1_0) = false := by simpa using c3))
    (try (have c3b3 : ¬ (a0_0 = a1_0) := by simpa using c3))
    clear c3
    obtain rfl := Option.some.inj H
    go_enter Tryd.func12, Tryd.ntmps12
    go_wp2_with (first | ((with_reducible refine gate_dst (N := 2) rfl ?_); refine box_event ?hg (N := 2) ?hd (cs := #[.bool a0_0, .slice A0_1 l0_1.length c0_1, .int .i64 a0_2]) (t := 25) ?hr ?_; (case hd => rfl); (case hg => rfl); (case hr => first | (go_simp; done) | (go_simp; rfl) | (go_simp; simp only [x_u32u8, x_u8, x_u32, x_u64, x_mm]; first | done | rfl)); intro gb306 hg w16 hbox hb; have n0_ := Aside0.mk (below_step (by repeat (first | (with_reducible first | exact HB.out | apply below_alloc | apply pw_below_drewN | apply below_drew1) | exact HB.out)) hb); have n1_ := Aside0.mk (hbox); have n2_ := Aside0.mk ((by rw [hg]; exact (below_size (by repeat (first | (with_reducible first | exact HB.out | apply below_alloc | apply pw_below_drewN | apply below_drew1) | exact HB.out))) : w.heap.size ≤ gb306)); have n3_ := Aside0.mk ((by rw [hg]; exact (below_size (by repeat (first | (with_reducible first | exact HB.out | apply below_alloc | apply pw_below_drewN | apply below_drew1) | exact HB.out))) : w.heap.size ≤ gb306)); clear HB; have HB := n0_; have BK306 := n1_; have GW306 := n2_; have GE306 := n3_; clear n0_ n1_ n2_ n3_; clear hb hbox hg) | ((with_reducible refine gate_dst (N := 3) rfl ?_); refine box_event ?hg (N := 3) ?hd (cs := #[.bool a1_0, .slice A1_1 l1_1.length c1_1, .int .i64 a1_2]) (t := 25) ?hr ?_; (case hd => rfl); (case hg => rfl); (case hr => first | (go_simp; done) | (go_simp; rfl) | (go_simp; simp only [x_u32u8, x_u8, x_u32, x_u64, x_mm]; first | done | rfl)); intro gb307 hg w17 hbox hb; have n0_ := Aside0.mk (blk_below (g := gb306) (o := .cells #[.bool a0_0, .slice A0_1 l0_1.length c0_1, .int .i64 a0_2] 25 (0, 0)) (by (with_reducible repeat (first | refine blk_drewN ?_ _ | refine blk_drew ?_ | refine blk_alloc ?_ _)); exact BK306.out) hb); have n1_ := Aside0.mk (below_step (by repeat (first | (with_reducible first | exact HB.out | apply below_alloc | apply pw_below_drewN | apply below_drew1 | refine below_set ?_ GE306.out) | exact HB.out)) hb); have n2_ := Aside0.mk (hbox); have n3_ := Aside0.mk ((by rw [hg]; exact (below_size (by repeat (first | (with_reducible first | exact HB.out | apply below_alloc | apply pw_below_drewN | apply below_drew1 | refine below_set ?_ GE306.out) | exact HB.out))) : w.heap.size ≤ gb307)); have n4_ := Aside0.mk ((by rw [hg]; exact (below_size (by repeat (first | (with_reducible first | exact HB.out | apply below_alloc | apply pw_below_drewN | apply below_drew1 | refine below_set ?_ GE306.out) | exact HB.out))) : w.heap.size ≤ gb307)); have n5_ := Aside0.mk ((by rw [hg]; exact Nat.ne_of_lt (blk_lt (g := gb306) (o := .cells #[.bool a0_0, .slice A0_1 l0_1.length c0_1, .int .i64 a0_2] 25 (0, 0)) (by (with_reducible repeat (first | refine blk_drewN ?_ _ | refine blk_drew ?_ | refine blk_alloc ?_ _)); exact BK306.out)) : gb306 ≠ gb307)); have n6_ := Aside0.mk ((by rw [hg]; exact Nat.ne_of_gt (blk_lt (g := gb306) (o := .cells #[.bool a0_0, .slice A0_1 l0_1.length c0_1, .int .i64 a0_2] 25 (0, 0)) (by (with_reducible repeat (first | refine blk_drewN ?_ _ | refine blk_drew ?_ | refine blk_alloc ?_ _)); exact BK306.out)) : gb307 ≠ gb306)); clear BK306; clear HB; have BK306 := n0_; have HB := n1_; have BK307 := n2_; have GW307 := n3_; have GE307 := n4_; have NB306_307 := n5_; have NB307_306 := n6_; clear n0_ n1_ n2_ n3_ n4_ n5_ n6_; clear hb hbox hg; have hnb18 := NB306_307.out; have hnc18 := NB307_306.out; have hcz19_0 : w17.cell? ⟨gb306, 0, none⟩ = some (.bool a0_0) := (blk_cell BK306.out 0).trans rfl; have hcz19_1 : w17.cell? ⟨gb306, 1, none⟩ = some (.slice A0_1 l0_1.length c0_1) := (blk_cell BK306.out 1).trans rfl; have hcz19_2 : w17.cell? ⟨gb306, 2, none⟩ = some (.int .i64 a0_2) := (blk_cell BK306.out 2).trans rfl; have hfz19_0 := blk_frozen BK306.out 0; have hfz19_1 := blk_frozen BK306.out 1; have hfz19_2 := blk_frozen BK306.out 2; have hcz20_0 : w17.cell? ⟨gb307, 0, none⟩ = some (.bool a1_0) := (blk_cell BK307.out 0).trans rfl; have hcz20_1 : w17.cell? ⟨gb307, 1, none⟩ = some (.slice A1_1 l1_1.length c1_1) := (blk_cell BK307.out 1).trans rfl; have hcz20_2 : w17.cell? ⟨gb307, 2, none⟩ = some (.int .i64 a1_2) := (blk_cell BK307.out 2).trans rfl; have hfz20_0 := blk_frozen BK307.out 0; have hfz20_1 := blk_frozen BK307.out 1; have hfz20_2 := blk_frozen BK307.out 2))
    go_ret
    exact ⟨by first | rfl | (simp [errW_none, errW_some] <;> rfl) | (simp [*, errW_none, errW_some] <;> rfl), by repeat (first | (with_reducible first | exact HB.out | apply below_alloc | apply pw_below_drewN | apply below_drew1 | refine below_set ?_ GE306.out | refine below_set ?_ GE307.out) | exact HB.out)⟩

end Go.Proofs.YtmkdcokdilllcaaDoor.X
/- The contracts of the Builder's WriteString and String, laid by hand over this translation. -/
namespace Go.Proofs.YtmkdcokdilllcaaDoor.B
open Go.Shelf
def ren : Go.Shelf.Ren := ⟨fun | 166 => 55 | 240 => 70 | 276 => 85 | 169 => 57 | n => n, fun | 0 => 0 | 3 => 3 | 4 => 4 | 5 => 5 | 9 => 9 | 20 => 20 | 37 => 77 | 70 => 78 | 72 => 80 | 75 => 82 | 80 => 73 | 164 => 108 | 127 => 102 | n => n, fun | n => n⟩
theorem lays166 : Go.Proofs.Lays.n166 Tryd.prog ren := {
  mixed := by kernel_rfl
  f166 := Tryd.func55.trans (congrArg some (by kernel_rfl))
  f240 := Tryd.func70.trans (congrArg some (by kernel_rfl))
  f276 := Tryd.func85.trans (congrArg some (by kernel_rfl))
  t0 := Tryd.underlying0
  a0 := Tryd.isAgg0
  z0 := Tryd.sizeOf0
  v0 := Tryd.zeroValue0
  t3 := Tryd.underlying3
  a3 := Tryd.isAgg3
  z3 := Tryd.sizeOf3
  v3 := Tryd.zeroValue3
  t4 := Tryd.underlying4
  a4 := Tryd.isAgg4
  z4 := Tryd.sizeOf4
  v4 := Tryd.zeroValue4
  t9 := Tryd.underlying9
  a9 := Tryd.isAgg9
  z9 := Tryd.sizeOf9
  v9 := Tryd.zeroValue9
  t20 := Tryd.underlying20
  a20 := Tryd.isAgg20
  z20 := Tryd.sizeOf20
  v20 := Tryd.zeroValue20
  t37 := Tryd.underlying77
  a37 := Tryd.isAgg77
  z37 := Tryd.sizeOf77
  v37 := Tryd.zeroValue77
  t70 := Tryd.underlying78
  a70 := Tryd.isAgg78
  z70 := Tryd.sizeOf78
  v70 := Tryd.zeroValue78
  t72 := Tryd.underlying80
  a72 := Tryd.isAgg80
  z72 := Tryd.sizeOf80
  v72 := Tryd.zeroValue80
  t75 := Tryd.underlying82
  a75 := Tryd.isAgg82
  z75 := Tryd.sizeOf82
  v75 := Tryd.zeroValue82
  t164 := Tryd.underlying108
  a164 := Tryd.isAgg108
  z164 := Tryd.sizeOf108
  v164 := Tryd.zeroValue108 }
theorem extra : Builder.Extra Tryd.prog ren := {
  sizeBuilder := by kernel_rfl
  liesBuilder := by kernel_rfl
  t5 := Tryd.underlying5
  a5 := Tryd.isAgg5
  z5 := Tryd.sizeOf5
  v5 := Tryd.zeroValue5
  infoByte := by kernel_rfl
  cellsByte := by kernel_rfl
  sizeByte := by kernel_rfl
  neB5 := by decide }
open Go.RowKit in
theorem WriteString (B b : Nat) (bs : List Value) (s : ByteArray) (w : World) (h : Lib.IsBuilder 80 5 B b bs w) (hlen : bs.length + s.size ≤ 140737488355328) (hBw : B ≤ w.heap.size) :
    Calls Tryd.prog 55 #[.pointer (some ⟨b, 0, none⟩), .string s] w fun e w' => e = .returned (.tuple #[.int .i64 s.size, .nilIface]) ∧ (Lib.BuilderAt 80 5 B b (.pointer (some ⟨b, 0, none⟩)) (bs ++ Lib.strCells s) w' ∧ Below B w w') := Any.Builder_WriteString lays166 extra B b bs s w h hlen hBw
end Go.Proofs.YtmkdcokdilllcaaDoor.B
/- nat.Digits comes to the decimal digits of the natural. -/
namespace Go.Proofs.YtmkdcokdilllcaaDoor.X
open Go.RowKit Go.Proofs.YtmkdcokdilllcaaDoorW.PrintWords Go.Proofs.YtmkdcokdilllcaaDoorW.PrintLast Go.Proofs.YtmkdcokdilllcaaDoorW.PrintMore
set_option linter.unusedVariables false
set_option linter.unusedSimpArgs false
/-! the digits -/
/-- k decimal digits, noughts ahead. -/
def digs : Nat → Nat → List UInt8
  | 0, _ => []
  | k + 1, v => UInt8.ofNat (48 + v / 10 ^ k % 10) :: digs k v
theorem digs_length (k v : Nat) : (digs k v).length = k := by
  induction k with
  | zero => rfl
  | succ k ih => simp [digs, ih]
theorem digs_add (a b v : Nat) : digs (a + b) v = digs a (v / 10 ^ b) ++ digs b v := by
  induction a with
  | zero => simp [digs]
  | succ a ih =>
    rw [Nat.succ_add]
    simp only [digs, List.cons_append, ih]
    rw [Nat.div_div_eq_div_mul, ← Nat.pow_add, Nat.add_comm b a]
theorem digs_mod (k v : Nat) : digs k (v % 10 ^ k) = digs k v := by
  have key : ∀ k m, k ≤ m → digs k (v % 10 ^ m) = digs k v := by
    intro k
    induction k with
    | zero => intro m _; rfl
    | succ k ih =>
      intro m hm
      simp only [digs]
      rw [ih m (by omega)]
      congr 3
      obtain ⟨j, rfl⟩ : ∃ j, m = k + 1 + j := ⟨m - (k + 1), by omega⟩
      rw [Nat.pow_add, Nat.pow_succ, Nat.mul_assoc, Nat.mod_mul_right_div_self, Nat.mod_mul_right_mod]
  exact key k k (Nat.le_refl _)
theorem digs_snoc (k v : Nat) : digs (k + 1) v = digs k (v / 10) ++ [UInt8.ofNat (48 + v % 10)] := by
  rw [digs_add k 1 v]
  simp [digs]
theorem trim_digs (k : Nat) : ∀ n, n < 10 ^ k → Lib.trimLeftB (digs k n) 48 = if n = 0 then [] else Lib.decDigits n := by
  induction k with
  | zero => intro n hn; have : n = 0 := by omega
            subst this; rfl
  | succ k ih =>
    intro n hn
    rw [digs_snoc]
    have h10 := ih (n / 10) (by rw [Nat.pow_succ] at hn; omega)
    unfold Lib.trimLeftB at h10 ⊢
    rw [List.dropWhile_append, h10]
    by_cases h0 : n / 10 = 0
    · simp only [h0, if_true, List.isEmpty_nil]
      by_cases hz : n = 0
      · subst hz
        decide
      · rw [if_neg hz]
        unfold Lib.decDigits
        rw [dif_pos (by omega)]
        have hlt : n < 10 := by omega
        have hne : (UInt8.ofNat (48 + n % 10) == 48) = false := by
          rw [Nat.mod_eq_of_lt hlt]
          have : ∀ m : Fin 10, m.val ≠ 0 → (UInt8.ofNat (48 + m.val) == 48) = false := by decide
          exact this ⟨n, hlt⟩ hz
        rw [List.dropWhile_cons, hne, Nat.mod_eq_of_lt hlt]
        rfl
    · have hz : n ≠ 0 := by omega
      simp only [h0, if_false, hz]
      have hne : (Lib.decDigits (n / 10)).isEmpty = false := by
        unfold Lib.decDigits
        split <;> simp
      rw [hne]
      conv => rhs; unfold Lib.decDigits
      rw [dif_neg (by omega)]
      rfl
/-- The pieces from the last one on, one behind the other. -/
def cat : List ByteArray → List UInt8
  | [] => []
  | p :: ps => cat ps ++ p.data.toList
theorem cat_snoc (ps : List ByteArray) (p : ByteArray) : cat (ps ++ [p]) = p.data.toList ++ cat ps := by
  induction ps with
  | nil => simp [cat]
  | cons q ps ih => simp [cat, ih]
def nat_Digits.f (l0 : List Int) : Option ByteArray := if (∀ x ∈ l0, 0 ≤ x ∧ x < 4294967296) ∧ l0.length ≤ 1048576 then some ⟨(Lib.decDigits (val l0)).toArray⟩ else none
/-- What the first loop keeps. -/
def DigRel (w w' : World) (n0 n : Nat) (v0 v3 : Value) : Prop :=
  ∃ ps : List ByteArray, Kd.R (Kd.int .u32) 40 w' w.heap.size (fun _ => True) v0 (lim n) ∧ Kd.R Kd.string 9 w' w.heap.size (fun _ => True) v3 ps ∧
    n = n0 / 10 ^ (9 * ps.length) ∧ cat ps = digs (9 * ps.length) n0 ∧ (0 < ps.length → 10 ^ (9 * ps.length - 9) ≤ n0) ∧ Below w.heap.size w w'
/-- What the inner loop keeps: the last i cells hold digits. -/
def cellsAt (i v : Nat) : List Int := List.replicate (9 - i) 0 ++ (digs i v).map fun b => (b.toNat : Int)
theorem cellsAt_step (i v : Nat) (h : i < 9) : (cellsAt i v).set (8 - i) (((48 + v / 10 ^ i % 10) % 256 : Nat) : Int) = cellsAt (i + 1) v := by
  unfold cellsAt
  have h1 : 8 - i < (List.replicate (9 - i) (0 : Int)).length := by simp; omega
  rw [List.set_append_left _ _ h1, show 9 - i = (8 - i) + 1 by omega, List.replicate_succ', List.set_append_right _ _ (by simp), List.length_replicate, Nat.sub_self, show 9 - (i + 1) = 8 - i by omega, List.append_assoc]
  congr 1
theorem nums_set (k : IntKind) (xs : List Int) (i : Nat) (x : Int) : (nums k xs).set i (.int k x) = nums k (xs.set i x) := by simp [nums, List.map_set]
theorem str_cells (v : Nat) : (strOfNums (cellsAt 9 v)).data.toList = digs 9 v := by
  have : cellsAt 9 v = (digs 9 v).map fun b => (b.toNat : Int) := by simp [cellsAt]
  rw [this]
  have e : ((fun n : Int => UInt8.ofNat n.toNat) ∘ fun b : UInt8 => (b.toNat : Int)) = id := by funext b; simp
  simp [strOfNums, e]
theorem lim_len_small {l : List Int} (h : Ok l) (n : Nat) (hn : n ≤ val l) : (lim n).length ≤ l.length := lim_len_le (Nat.lt_of_le_of_lt hn (val_lt h))
theorem pow_two_le (k : Nat) : 2 ^ k ≤ 10 ^ k := Nat.pow_le_pow_left (by omega) k
theorem pieces_le {n0 m j : Nat} (hn : n0 < 4294967296 ^ m) (h : 0 < j → 10 ^ (9 * j - 9) ≤ n0) : 9 * j ≤ 32 * m + 9 := by
  rcases Nat.lt_or_ge (32 * m + 9) (9 * j) with hlt | hge
  · exfalso
    have h1 := h (by omega)
    have h2 : 2 ^ (32 * m) ≤ 10 ^ (9 * j - 9) := Nat.le_trans (pow_two_le _) (Nat.pow_le_pow_right (by omega) (by omega))
    rw [Nat.pow_mul] at h2
    have : (2 : Nat) ^ 32 = 4294967296 := by decide
    rw [this] at h2
    omega
  · exact hge
theorem cat_drop {ps : List ByteArray} {i : Nat} (h : i < ps.length) : cat (ps.drop (ps.length - (i + 1))) = cat (ps.drop (ps.length - i)) ++ (rdOf ByteArray.empty ps ((ps.length : Int) - 1 - i)).data.toList := by
  have h1 : ps.length - (i + 1) < ps.length := by omega
  rw [List.drop_eq_getElem_cons h1, cat, show ps.length - (i + 1) + 1 = ps.length - i by omega]
  congr 2
  unfold rdOf
  rw [show ((ps.length : Int) - 1 - i).toNat = ps.length - (i + 1) by omega, List.getD_eq_getElem?_getD, List.getElem?_eq_getElem h1]
  rfl
theorem cat_le {ps : List ByteArray} (i : Nat) : (cat (ps.drop i)).length ≤ (cat ps).length := by
  induction ps generalizing i with
  | nil => simp
  | cons p ps ih =>
    rcases i with _ | i
    · simp
    · have := ih i
      simp [cat] at this ⊢
      omega
set_option maxHeartbeats 8000000 in
set_option maxRecDepth 100000 in
theorem nat_Digits.calls (A0 : Option Addr) (c0 : Nat) (l0 : List Int) (r : ByteArray) (w : World) (hr0 : Kd.C (Kd.int .u32) w A0 l0.length l0) (hc0 : l0.length ≤ c0) (h : nat_Digits.f l0 = some r) :
    Calls Tryd.prog 34 #[.slice A0 l0.length c0] w fun e w' => e = .returned (.string r) ∧ Below w.heap.size w w' := by
  unfold nat_Digits.f at h
  by_cases hl : (∀ x ∈ l0, 0 ≤ x ∧ x < 4294967296) ∧ l0.length ≤ 1048576
  case neg => rw [if_neg hl] at h; exact absurd h (by simp)
  rw [if_pos hl] at h
  obtain rfl := Option.some.inj h
  clear h
  obtain ⟨hok, hlen⟩ := hl
  have HOK := Aside0.mk hok
  have HR := Aside0.mk hr0
  have HN := Aside0.mk (nat_Norm_eq (l := l0) hok (by omega))
  clear hr0 hok
  go_enter Tryd.func34, Tryd.ntmps34
  go_wp2_with fail
  refine (nat_Norm.calls _ _ _ _ _ HR.out hc0 HN.out).mono ?_
  rintro e w1 ⟨v0, rfl, ho, hb⟩
  have HS : Aside0 (DigRel w w1 (val l0) (val l0) v0 (.slice none 0 0)) := ⟨[], ho, Kd.R_nil _ _ _ _ _, by simp, by simp [cat, digs], by simp, hb⟩
  clear ho hb
  go_wp2
  go_loopg [0, 3] (val l0) (fun n v0 v3 w' => Aside0 (DigRel w w' (val l0) n v0 v3))
  case atStart => exact HS
  case round =>
    clear HS
    obtain ⟨W0, rfl⟩ : ∃ W0, W0 = wr := ⟨_, rfl⟩
    obtain ⟨ps, hA, hP, hn, hcat, hlo, hb⟩ := hrel.out
    clear hrel
    have HA := Aside0.mk hA
    have HP := Aside0.mk hP
    have HB := Aside0.mk hb
    have HN2 := Aside0.mk hn
    have HC := Aside0.mk hcat
    have HLO := Aside0.mk hlo
    clear hA hP hb hn hcat hlo
    obtain ⟨Ao, co, e0⟩ := Kd.R_slice HA.out
    subst e0
    by_cases h0 : gk = 0
    · subst h0
      have hz : (lim 0).length = 0 := by rw [lim_zero]; rfl
      have hb0 : decide (0 < (lim 0).length) = false := by rw [hz]; rfl
      clear hz
      obtain ⟨Ap, cp, e1⟩ := Kd.R_slice HP.out
      subst e1
      have HLE := Aside0.mk (pieces_le (val_lt HOK.out) HLO.out)
      have HCL := Aside0.mk (show (cat ps).length = 9 * ps.length from by rw [HC.out, digs_length])
      have hpl : ps.length ≤ 33554441 := by have := HLE.out; omega
      go_wp2
      have hfz := Lib.fresh_isBuilder 80 5 W0
      have HF := Aside0.mk (show Lib.IsBuilder 80 5 W0.heap.size W0.heap.size (Lib.byteCells (cat (ps.drop (ps.length - 0)))) (W0.alloc (.cells #[.pointer none, .slice none 0 0] 80)) from by
        rw [Nat.sub_zero, List.drop_length]
        exact hfz)
      clear hfz
      have HPR := Aside0.mk (Kd.R_reads' HP.out).2.2
      go_loopw [42] (fun v42 w' => ∃ i : Nat, i ≤ ps.length ∧ v42 = .int .i64 i ∧ Aside0 (Lib.IsBuilder 80 5 W0.heap.size W0.heap.size (Lib.byteCells (cat (ps.drop (ps.length - i)))) w') ∧ Aside0 (Below W0.heap.size W0 w')) (fun v42 _ => ps.length - (intOf v42).toNat)
      case atStart => exact ⟨0, Nat.zero_le _, rfl, HF, ⟨below_alloc (Below.refl _ _) _⟩⟩
      case round =>
        clear HF
        obtain ⟨i, hi, rfl, HI, HW⟩ := hrel
        by_cases hlt : i < ps.length
        · obtain ⟨ad, e, hx⟩ := Kd.at_string HPR.out ((ps.length : Int) - 1 - i) (by omega) (by omega)
          cases e
          have hx2 := (HW.out.cell (World.block_lt_of_cell? _ _ hx)).trans hx
          clear hx
          have hx3 : wr.cell? (ad.add (ps.length - 1 - i)) = some (.string (rdOf ByteArray.empty ps ((ps.length : Int) - 1 - i))) := by
            rw [← show ((ps.length : Int) - 1 - i).toNat = ps.length - 1 - i by omega]
            exact hx2
          have HX := Aside0.mk (cat_drop hlt)
          have HLN := Aside0.mk (cat_le (ps := ps) (ps.length - (i + 1)))
          generalize hss : rdOf ByteArray.empty ps ((ps.length : Int) - 1 - i) = s at *
          clear hss
          go_wp2_with fail
          refine (B.WriteString _ _ _ s _ HI.out (by
            have h1 := HLN.out
            have h2 := HX.out
            have h3 := HCL.out
            rw [h2, List.length_append, data_length, h3] at h1
            have h5 : (Lib.byteCells (cat (ps.drop (ps.length - i)))).length = (cat (ps.drop (ps.length - i))).length := by simp [Lib.byteCells]
            omega) HW.out.size).mono ?_
          rintro e w2 ⟨rfl, hB2, hb2⟩
          have HI2 := Aside0.mk (show Lib.IsBuilder 80 5 W0.heap.size W0.heap.size (Lib.byteCells (cat (ps.drop (ps.length - (i + 1))))) w2 from .inr (by
            rw [HX.out]
            have : Lib.byteCells (cat (ps.drop (ps.length - i)) ++ s.data.toList) = Lib.byteCells (cat (ps.drop (ps.length - i))) ++ Lib.strCells s := by simp [Lib.byteCells, Lib.strCells]
            rw [this]
            exact hB2))
          have HW2 := Aside0.mk (HW.out.trans hb2)
          clear hB2 hb2
          go_wp2
          go_roundw
          case rel => exact ⟨i + 1, by omega, by go_num, HI2, HW2⟩
          case measure => simp [intOf]; omega
        · obtain rfl : i = ps.length := by omega
          have HI3 := Aside0.mk (show Lib.IsBuilder 80 5 W0.heap.size W0.heap.size (Lib.byteCells (digs (9 * ps.length) (val l0))) wr from by
            have := HI.out
            rw [Nat.sub_self, List.drop_zero, HC.out] at this
            exact this)
          have HTR := Aside0.mk (trim_digs (9 * ps.length) (val l0) (by
            have := HN2.out
            have hp : 0 < 10 ^ (9 * ps.length) := Nat.pow_pos (by omega)
            rcases Nat.lt_or_ge (val l0) (10 ^ (9 * ps.length)) with h | h
            · exact h
            · have := Nat.div_pos h hp
              omega))
          clear HI
          go_wp2_with fail
          refine (Tryd.Builder_String_any _ _ _ _ HI3.out HW.out.size).mono ?_
          rintro e w3 ⟨rfl, hb3⟩
          have HW3 := Aside0.mk (HW.out.trans hb3)
          clear hb3
          go_wp2_with fail
          refine (Tryd.strings_TrimLeft_one _ 48 (by decide) _).mono ?_
          rintro e w4 ⟨rfl, rfl⟩
          have HTR2 : (Lib.trimLeftB (digs (9 * ps.length) (val l0)).toArray.toList 48) = if val l0 = 0 then [] else Lib.decDigits (val l0) := HTR.out
          have HFIN := Aside0.mk (HB.out.trans (below_then (Below.refl _ _) (Nat.le_refl _) HW3.out |> fun h => (Below.mono h HB.out.size)))
          by_cases hz : val l0 = 0
          · rw [if_pos hz] at HTR2
            rw [HTR2]
            go_wp2
            go_ret
            rw [hz]
            exact ⟨by unfold Lib.decDigits; rfl, HFIN.out⟩
          · rw [if_neg hz] at HTR2
            rw [HTR2]
            have hne : (Lib.decDigits (val l0) != []) = true := by
              unfold Lib.decDigits
              split <;> simp
            have hne2 : Lib.decDigits (val l0) ≠ [] := by simpa using hne
            have hne3 : (Lib.decDigits (val l0)).isEmpty = false := by simpa using hne2
            have hne4 : (!(Lib.decDigits (val l0)).isEmpty) = true := by rw [hne3]; rfl
            have hne5 : (Lib.decDigits (val l0) == []) = false := by simpa using hne2
            have hne6 : ¬ (Lib.decDigits (val l0) = []) := hne2
            go_wp2
            go_ret
            exact ⟨rfl, HFIN.out⟩
    · have hle : gk ≤ val l0 := by
        have := HN2.out
        have h2 := Nat.div_le_self (val l0) (10 ^ (9 * ps.length))
        omega
      have hb1 : decide (0 < (lim gk).length) = true := by
        have h1 : (lim gk).length ≠ 0 := fun h => h0 ((lim_len_zero gk).1 h)
        simpa using Nat.pos_of_ne_zero h1
      have hls := lim_len_small (l := l0) HOK.out gk hle
      obtain ⟨k, hk⟩ := (nat_small_eq (d := 1000000000) (lim_ok gk) (by omega) (by decide) (by decide)).rounds
      rw [val_lim] at hk
      have HK := Aside0.mk hk
      have HPOS := Aside0.mk h0
      have HLE := Aside0.mk hle
      clear hk h0 hle
      go_wp2_with fail
      refine (nat_small.calls k _ _ _ 1000000000 _ _ _ (Kd.R_reads' HA.out).2.2 (Kd.R_reads' HA.out).2.1 HK.out).mono ?_
      rintro e w2 ⟨v4, rfl, ho, hb2⟩
      have HO := Aside0.mk (Kd.R_lower ho HB.out.size)
      have HP2 := Aside0.mk (Kd.R_below HP.out hb2)
      have HB2 := Aside0.mk (below_step HB.out hb2)
      clear ho hb2
      have e9 : (1000000000 : Int).toNat = 1000000000 := rfl
      rw [e9] at *
      have hv : gk % 1000000000 < 1000000000 := Nat.mod_lt _ (by omega)
      generalize hvv : gk % 1000000000 = v at *
      have HV := Aside0.mk hvv
      clear hvv e9
      go_wp2
      go_loopw [5, 22] (fun v5 v22 w' => ∃ i : Nat, i ≤ 9 ∧ v22 = .int .i64 i ∧ v5 = .int .u32 ((v / 10 ^ i : Nat) : Int) ∧ Aside0 (w'.heap[w2.heap.size]? = some (.cells (nums .u8 (cellsAt i v)).toArray 76 (0, 0))) ∧ Aside0 (Below w2.heap.size w2 w')) (fun _ v22 _ => 9 - (intOf v22).toNat)
      case atStart => exact ⟨0, by omega, rfl, by simp, ⟨by have := heap_alloc_new w2 (.cells #[.int .u8 0, .int .u8 0, .int .u8 0, .int .u8 0, .int .u8 0, .int .u8 0, .int .u8 0, .int .u8 0, .int .u8 0] 76); exact this⟩, ⟨below_alloc (Below.refl _ _) _⟩⟩
      case round =>
        obtain ⟨i, hi, rfl, rfl, HC5, HW5⟩ := hrel
        by_cases hlt : i < 9
        · have hx2 : v / 10 ^ i < 1000000000 := Nat.lt_of_le_of_lt (Nat.div_le_self _ _) hv
          have hst := cellsAt_step i v hlt
          have hnx : v / 10 ^ (i + 1) = v / 10 ^ i / 10 := by rw [Nat.pow_succ, Nat.div_div_eq_div_mul]
          generalize hxx : v / 10 ^ i = x at *
          have HST := Aside0.mk hst
          have HNX := Aside0.mk hnx
          clear hxx hst hnx
          have hcl : (cellsAt i v).length = 9 := by simp [cellsAt, digs_length]; omega
          obtain ⟨old, hcell⟩ : ∃ old, wr.cell? ⟨w2.heap.size, 8 - i, none⟩ = some (.int .u8 old) := by
            rw [blk_cell HC5.out]
            exact ⟨(cellsAt i v)[8 - i]'(by omega), by simp [nums, List.getElem?_eq_getElem (show 8 - i < (cellsAt i v).length by omega)]⟩
          have hfz : wr.frozen? ⟨w2.heap.size, 8 - i, none⟩ = false := Lib.frozen_of_heap HC5.out _
          clear hcl
          go_wp2
          go_roundw
          case rel => exact ⟨i + 1, by omega, by go_num, by rw [HNX.out]; go_num, ⟨by
            refine blk_put HC5.out (8 - i) _ ?_
            rw [List.setIfInBounds_toArray, nums_set, ← HST.out]
            first
              | rw [show (48 + (x : Int) % 10) = (((48 + x % 10) % 256 : Nat) : Int) by omega]
              | rw [show (48 + (x : Int) % 10) % 256 = (((48 + x % 10) % 256 : Nat) : Int) by omega]⟩, ⟨HW5.out.setCell (Nat.le_refl _) _⟩⟩
          case measure => simp [intOf]; omega
        · obtain rfl : i = 9 := by omega
          have hown : wr.ownsRow w2.heap.size 76 1 (.slice (some ⟨w2.heap.size, 0, none⟩) 9 9) 9 (nums .u8 (cellsAt 9 v)) := ⟨by simp [nums, cellsAt, digs_length], .inr ⟨_, 9, _, rfl, Nat.le_refl _, HC5.out, by omega, by decide, by simp [nums, cellsAt, digs_length], List.take_of_length_le (by simp [nums, cellsAt, digs_length])⟩⟩
          have hconv := own_string (P := Tryd.prog) Tryd.underlying77 Tryd.underlying5 Tryd.underlying9 hown
          have HSTR := Aside0.mk (str_cells v)
          have HPW := Aside0.mk (Kd.R_below HP2.out HW5.out)
          have HOW := Aside0.mk (Kd.R_below HO.out HW5.out)
          have HBW := Aside0.mk (below_step HB2.out HW5.out)
          have hpl := pieces_le (val_lt HOK.out) HLO.out
          have HPL := Aside0.mk hpl
          clear hown hpl
          generalize strOfNums (cellsAt 9 v) = s at *
          go_wp2_with (at_builtin; refine Kd.R_append Kd.string (w0 := w) w.heap.size rfl (.tmp 35) (.tmp 38) 75 9 (.string ⟨#[]⟩) 16 rfl Tryd.underlying75 (by kernel_rfl) rfl (by decide) (by omega) _ ps s [.string s] (fun _ => True) (fun _ => False) rfl rfl rfl (fun _ hk => hk.elim) (fun _ _ => trivial) HPW.out HBW.out (below_size HBW.out) (by have := HPL.out; omega) ?_; intro v5 w5 ho hb hg hat; have HOV := Aside0.mk (Kd.R_over' HOW.out (Kd.R_typed HPW.out) (by decide) hg); have HPV := Aside0.mk ho; have HBV := Aside0.mk hb; clear ho hb hg hat)
          go_roundg (gk / 1000000000)
          case measure => have := HPOS.out; omega
          case rel => exact ⟨by
            have hp : 0 < 10 ^ (9 * ps.length) := Nat.pow_pos (by omega)
            refine ⟨ps ++ [s], HOV.out, HPV.out, ?_, ?_, ?_, HBV.out⟩
            · have h1 := HN2.out
              rw [h1, Nat.div_div_eq_div_mul, List.length_append, List.length_singleton, Nat.mul_add, Nat.pow_add]
            · rw [cat_snoc, HSTR.out, HC.out, List.length_append, List.length_singleton, show 9 * (ps.length + 1) = 9 + 9 * ps.length by omega, digs_add, ← HN2.out, ← HV.out]
              rw [show (1000000000 : Nat) = 10 ^ 9 by decide, digs_mod]
            · intro _
              rw [List.length_append, List.length_singleton, show 9 * (ps.length + 1) - 9 = 9 * ps.length by omega]
              rcases Nat.lt_or_ge (val l0) (10 ^ (9 * ps.length)) with h | h
              · have h2 := HN2.out
                rw [Nat.div_eq_of_lt h] at h2
                exact absurd h2 HPOS.out
              · exact h⟩
end Go.Proofs.YtmkdcokdilllcaaDoor.X
/- strconv.Itoa, strings.Repeat, strings.Compare, as the walks ask them. -/
namespace Go.Proofs.YtmkdcokdilllcaaDoor.X
open Go.RowKit Go.Proofs.YtmkdcokdilllcaaDoorW.PrintWords
def strconv_Itoa_62.f (a0 : Int) : Option ByteArray := if -9223372036854775808 ≤ a0 ∧ a0 ≤ 9223372036854775807 then some ⟨(Lib.itoa a0).toArray⟩ else none
theorem strconv_Itoa_62.calls (a0 : Int) (r : ByteArray) (w : World) (hL : Laid w) (h : strconv_Itoa_62.f a0 = some r) :
    Calls Tryd.prog 62 #[.int .i64 a0] w fun e w' => e = .returned (.string r) ∧ Below w.heap.size w w' := by
  unfold strconv_Itoa_62.f at h
  split at h
  · rename_i hb
    obtain rfl := Option.some.inj h
    refine (Go.Proofs.Tryd.strconv_Itoa a0 hb.1 hb.2 w hL.pow10).mono ?_
    rintro e w' ⟨rfl, k, os, rfl⟩
    exact ⟨rfl, Lib.below_grow _ _ (Nat.le_refl _) _ _⟩
  · cases h
def strings_Repeat.f (a0 : ByteArray) (a1 : Int) : Option ByteArray := if 0 ≤ a1 ∧ a1 ≤ 9223372036854775807 ∧ a0.size * a1.toNat ≤ 140737488355328 then some ⟨(Lib.repeatL a0.data.toList a1.toNat).toArray⟩ else none
theorem strings_Repeat.calls (a0 : ByteArray) (a1 : Int) (r : ByteArray) (w : World) (h : strings_Repeat.f a0 a1 = some r) :
    Calls Tryd.prog 35 #[.string a0, .int .i64 a1] w fun e w' => e = .returned (.string r) ∧ Below w.heap.size w w' := by
  unfold strings_Repeat.f at h
  split at h
  · rename_i hb
    obtain rfl := Option.some.inj h
    obtain ⟨c, rfl⟩ := Int.eq_ofNat_of_zero_le hb.1
    have := Go.Proofs.Tryd.strings_Repeat a0 c w (by omega) (by simpa using hb.2.2)
    simpa using this
  · cases h
end Go.Proofs.YtmkdcokdilllcaaDoor.X
-- A walk, written by a program of this session (xp.py).
namespace Go.Proofs.YtmkdcokdilllcaaDoor.X
open Go.RowKit Go.Proofs.YtmkdcokdilllcaaDoorW.PrintWords Go.Proofs.YtmkdcokdilllcaaDoorW.PrintLast Go.Proofs.YtmkdcokdilllcaaDoorW.PrintMore
attribute [local go_sem] max2_int min2_int max_two min_two max_three min_three max_four min_four
set_option linter.unusedVariables false
set_option linter.unusedSimpArgs false

/-! ### num_Check: function 19 -/
def num_Check.f (k : Nat) (a0_0 : Bool) (l0_1 : List Int) (a0_2 : Int) : Option (Bool) := if (l0_1.length : Int) = 0 then (if a0_0 = true then (some false) else (some (a0_2 == 0))) else (if (l0_1.length : Int) > 90 then (some false) else (if 0 ≤ (wrap64 ((l0_1.length : Int) - 1)) then (if (wrap64 ((l0_1.length : Int) - 1)) < (l0_1.length : Int) then (if (rd l0_1 (wrap64 ((l0_1.length : Int) - 1))) = 0 then (some false) else (if a0_2 < (-1200) then (some false) else (if a0_2 > 1200 then (some false) else ((nat_Trim.f k l0_1).bind fun bt191 => (some (bt191.2 == 0)))))) else (none)) else (none)))
set_option maxHeartbeats 8000000 in
set_option maxRecDepth 100000 in
theorem num_Check.calls (k : Nat) (a0_0 : Bool) (A0_1 : Option Addr) (c0_1 : Nat) (l0_1 : List Int) (a0_2 : Int) (r : Bool) (w : World) (hr0_1 : Kd.C (Kd.int .u32) w A0_1 l0_1.length l0_1) (hc0_1 : l0_1.length ≤ c0_1) (h : num_Check.f k a0_0 l0_1 a0_2 = some r) :
    Calls Tryd.prog 19 #[.agg #[.bool a0_0, .slice A0_1 l0_1.length c0_1, .int .i64 a0_2]] w fun e w' => e = .returned (.bool r) ∧ Below w.heap.size w w' := by
  have hu25 := Tryd.underlying25
  have HR0_1 := Aside0.mk hr0_1
  have HC0_1 := Aside0.mk hc0_1
  clear hr0_1 hc0_1
  have HB := Aside0.mk (Below.refl w.heap.size w)
  have H : (if (l0_1.length : Int) = 0 then (if a0_0 = true then (some false) else (some (a0_2 == 0))) else (if (l0_1.length : Int) > 90 then (some false) else (if 0 ≤ (wrap64 ((l0_1.length : Int) - 1)) then (if (wrap64 ((l0_1.length : Int) - 1)) < (l0_1.length : Int) then (if (rd l0_1 (wrap64 ((l0_1.length : Int) - 1))) = 0 then (some false) else (if a0_2 < (-1200) then (some false) else (if a0_2 > 1200 then (some false) else ((nat_Trim.f k l0_1).bind fun bt191 => (some (bt191.2 == 0)))))) else (none)) else (none)))) = some r := h
  clear h
  by_cases c2 : (l0_1.length : Int) = 0
  · rw [if_pos c2] at H
    have c2b0 : ((l0_1.length : Int) == 0) = true := beq_iff_eq.mpr c2
    have c2b1 : ((l0_1.length : Int) != 0) = false := bne_eq_false_iff_eq.mpr c2
    clear c2
    by_cases c3 : a0_0 = true
    · subst c3
      have H1 : (some false) = some r := by rw [if_pos rfl] at H; exact H
      clear H
      have H := H1
      clear H1
      obtain rfl := Option.some.inj H
      go_enter Tryd.func19, Tryd.ntmps19
      go_wp2_with (first | ((with_reducible refine gate_dst (N := 1) rfl ?_); refine box_event ?hg (N := 1) ?hd (cs := #[.bool true, .slice A0_1 l0_1.length c0_1, .int .i64 a0_2]) (t := 25) ?hr ?_; (case hd => rfl); (case hg => rfl); (case hr => first | (go_simp; done) | (go_simp; rfl) | (go_simp; simp only [x_u32u8, x_u8, x_u32, x_u64, x_mm]; first | done | rfl)); intro gb189 hg w4 hbox hb; have n0_ := Aside0.mk (below_step (by repeat (first | (with_reducible first | exact HB.out | apply below_alloc | apply pw_below_drewN | apply below_drew1) | exact HB.out)) hb); have n1_ := Aside0.mk (hbox); have n2_ := Aside0.mk ((by rw [hg]; exact (below_size (by repeat (first | (with_reducible first | exact HB.out | apply below_alloc | apply pw_below_drewN | apply below_drew1) | exact HB.out))) : w.heap.size ≤ gb189)); have n3_ := Aside0.mk ((by rw [hg]; exact (below_size (by repeat (first | (with_reducible first | exact HB.out | apply below_alloc | apply pw_below_drewN | apply below_drew1) | exact HB.out))) : w.heap.size ≤ gb189)); clear HB; have HB := n0_; have BK189 := n1_; have GW189 := n2_; have GE189 := n3_; clear n0_ n1_ n2_ n3_; clear hb hbox hg; have hcz5_0 : w4.cell? ⟨gb189, 0, none⟩ = some (.bool true) := (blk_cell BK189.out 0).trans rfl; have hcz5_1 : w4.cell? ⟨gb189, 1, none⟩ = some (.slice A0_1 l0_1.length c0_1) := (blk_cell BK189.out 1).trans rfl; have hcz5_2 : w4.cell? ⟨gb189, 2, none⟩ = some (.int .i64 a0_2) := (blk_cell BK189.out 2).trans rfl; have hfz5_0 := blk_frozen BK189.out 0; have hfz5_1 := blk_frozen BK189.out 1; have hfz5_2 := blk_frozen BK189.out 2))
      go_ret
      exact ⟨by first | rfl | (simp [errW_none, errW_some] <;> rfl) | (simp [*, errW_none, errW_some] <;> rfl), by repeat (first | (with_reducible first | exact HB.out | apply below_alloc | apply pw_below_drewN | apply below_drew1 | refine below_set ?_ GE189.out) | exact HB.out)⟩
    · replace c3 := Bool.eq_false_iff.mpr c3
      subst c3
      have H1 : (some (a0_2 == 0)) = some r := by rw [if_neg (show ¬ (false = true) by decide)] at H; exact H
      clear H
      have H := H1
      clear H1
      obtain rfl := Option.some.inj H
      go_enter Tryd.func19, Tryd.ntmps19
      go_wp2_with (first | ((with_reducible refine gate_dst (N := 1) rfl ?_); refine box_event ?hg (N := 1) ?hd (cs := #[.bool false, .slice A0_1 l0_1.length c0_1, .int .i64 a0_2]) (t := 25) ?hr ?_; (case hd => rfl); (case hg => rfl); (case hr => first | (go_simp; done) | (go_simp; rfl) | (go_simp; simp only [x_u32u8, x_u8, x_u32, x_u64, x_mm]; first | done | rfl)); intro gb189 hg w6 hbox hb; have n0_ := Aside0.mk (below_step (by repeat (first | (with_reducible first | exact HB.out | apply below_alloc | apply pw_below_drewN | apply below_drew1) | exact HB.out)) hb); have n1_ := Aside0.mk (hbox); have n2_ := Aside0.mk ((by rw [hg]; exact (below_size (by repeat (first | (with_reducible first | exact HB.out | apply below_alloc | apply pw_below_drewN | apply below_drew1) | exact HB.out))) : w.heap.size ≤ gb189)); have n3_ := Aside0.mk ((by rw [hg]; exact (below_size (by repeat (first | (with_reducible first | exact HB.out | apply below_alloc | apply pw_below_drewN | apply below_drew1) | exact HB.out))) : w.heap.size ≤ gb189)); clear HB; have HB := n0_; have BK189 := n1_; have GW189 := n2_; have GE189 := n3_; clear n0_ n1_ n2_ n3_; clear hb hbox hg; have hcz7_0 : w6.cell? ⟨gb189, 0, none⟩ = some (.bool false) := (blk_cell BK189.out 0).trans rfl; have hcz7_1 : w6.cell? ⟨gb189, 1, none⟩ = some (.slice A0_1 l0_1.length c0_1) := (blk_cell BK189.out 1).trans rfl; have hcz7_2 : w6.cell? ⟨gb189, 2, none⟩ = some (.int .i64 a0_2) := (blk_cell BK189.out 2).trans rfl; have hfz7_0 := blk_frozen BK189.out 0; have hfz7_1 := blk_frozen BK189.out 1; have hfz7_2 := blk_frozen BK189.out 2))
      go_ret
      exact ⟨by first | rfl | (simp [errW_none, errW_some] <;> rfl) | (simp [*, errW_none, errW_some] <;> rfl), by repeat (first | (with_reducible first | exact HB.out | apply below_alloc | apply pw_below_drewN | apply below_drew1 | refine below_set ?_ GE189.out) | exact HB.out)⟩
  · rw [if_neg c2] at H
    have c2b0 : ((l0_1.length : Int) == 0) = false := beq_eq_false_iff_ne.mpr c2
    have c2b1 : ((l0_1.length : Int) != 0) = true := bne_iff_ne.mpr c2
    have c2b2 : ¬ (l0_1 = []) := fun h_ => c2 (by rw [h_]; rfl)
    by_cases c8 : (l0_1.length : Int) > 90
    · rw [if_pos c8] at H
      have c8b0 : decide (90 < (l0_1.length : Int)) = true := decide_eq_true c8
      have c8b1 : decide (90 < l0_1.length) = true := decide_eq_true (by omega)
      clear c8
      obtain rfl := Option.some.inj H
      go_enter Tryd.func19, Tryd.ntmps19
      go_wp2_with (first | ((with_reducible refine gate_dst (N := 1) rfl ?_); refine box_event ?hg (N := 1) ?hd (cs := #[.bool a0_0, .slice A0_1 l0_1.length c0_1, .int .i64 a0_2]) (t := 25) ?hr ?_; (case hd => rfl); (case hg => rfl); (case hr => first | (go_simp; done) | (go_simp; rfl) | (go_simp; simp only [x_u32u8, x_u8, x_u32, x_u64, x_mm]; first | done | rfl)); intro gb189 hg w9 hbox hb; have n0_ := Aside0.mk (below_step (by repeat (first | (with_reducible first | exact HB.out | apply below_alloc | apply pw_below_drewN | apply below_drew1) | exact HB.out)) hb); have n1_ := Aside0.mk (hbox); have n2_ := Aside0.mk ((by rw [hg]; exact (below_size (by repeat (first | (with_reducible first | exact HB.out | apply below_alloc | apply pw_below_drewN | apply below_drew1) | exact HB.out))) : w.heap.size ≤ gb189)); have n3_ := Aside0.mk ((by rw [hg]; exact (below_size (by repeat (first | (with_reducible first | exact HB.out | apply below_alloc | apply pw_below_drewN | apply below_drew1) | exact HB.out))) : w.heap.size ≤ gb189)); clear HB; have HB := n0_; have BK189 := n1_; have GW189 := n2_; have GE189 := n3_; clear n0_ n1_ n2_ n3_; clear hb hbox hg; have hcz10_0 : w9.cell? ⟨gb189, 0, none⟩ = some (.bool a0_0) := (blk_cell BK189.out 0).trans rfl; have hcz10_1 : w9.cell? ⟨gb189, 1, none⟩ = some (.slice A0_1 l0_1.length c0_1) := (blk_cell BK189.out 1).trans rfl; have hcz10_2 : w9.cell? ⟨gb189, 2, none⟩ = some (.int .i64 a0_2) := (blk_cell BK189.out 2).trans rfl; have hfz10_0 := blk_frozen BK189.out 0; have hfz10_1 := blk_frozen BK189.out 1; have hfz10_2 := blk_frozen BK189.out 2))
      go_ret
      exact ⟨by first | rfl | (simp [errW_none, errW_some] <;> rfl) | (simp [*, errW_none, errW_some] <;> rfl), by repeat (first | (with_reducible first | exact HB.out | apply below_alloc | apply pw_below_drewN | apply below_drew1 | refine below_set ?_ GE189.out) | exact HB.out)⟩
    · rw [if_neg c8] at H
      have c8b0 : decide (90 < (l0_1.length : Int)) = false := decide_eq_false c8
      have c8b1 : decide (90 < l0_1.length) = false := decide_eq_false (by omega)
      clear c8
      obtain ⟨ji11, hji11⟩ : ∃ j_ : Int, (wrap64 ((l0_1.length : Int) - 1)) = j_ := ⟨_, rfl⟩
      replace H : (if 0 ≤ (ji11) then (if (ji11) < (l0_1.length : Int) then (if (rd l0_1 (ji11)) = 0 then (some false) else (if a0_2 < (-1200) then (some false) else (if a0_2 > 1200 then (some false) else ((nat_Trim.f k l0_1).bind fun bt191 => (some (bt191.2 == 0)))))) else (none)) else (none)) = some r := by first | (rw [hji11] at H; exact H) | (simp only [hji11] at H ⊢; exact H)
      have hji11w : (IntKind.i64.wrap ((l0_1.length : Int) - 1)) = ji11 := (i64_w _).trans hji11
      by_cases c12 : 0 ≤ (ji11)
      · rw [if_pos c12] at H
        have c12b0 : decide (0 ≤ (ji11)) = true := decide_eq_true c12
        clear c12
        by_cases c13 : (ji11) < (l0_1.length : Int)
        · rw [if_pos c13] at H
          have c13b0 : decide ((ji11) < (l0_1.length : Int)) = true := decide_eq_true c13
          clear c13
          by_cases c14 : (rd l0_1 (ji11)) = 0
          · rw [if_pos c14] at H
            have c14b0 : ((rd l0_1 (ji11)) == 0) = true := beq_iff_eq.mpr c14
            have c14b1 : ((rd l0_1 (ji11)) != 0) = false := bne_eq_false_iff_eq.mpr c14
            clear c14
            obtain rfl := Option.some.inj H
            go_enter Tryd.func19, Tryd.ntmps19
            go_wp2_with (first | ((with_reducible refine gate_dst (N := 1) rfl ?_); refine box_event ?hg (N := 1) ?hd (cs := #[.bool a0_0, .slice A0_1 l0_1.length c0_1, .int .i64 a0_2]) (t := 25) ?hr ?_; (case hd => rfl); (case hg => rfl); (case hr => first | (go_simp; done) | (go_simp; rfl) | (go_simp; simp only [x_u32u8, x_u8, x_u32, x_u64, x_mm]; first | done | rfl)); intro gb189 hg w15 hbox hb; have n0_ := Aside0.mk (below_step (by repeat (first | (with_reducible first | exact HB.out | apply below_alloc | apply pw_below_drewN | apply below_drew1) | exact HB.out)) hb); have n1_ := Aside0.mk (hbox); have n2_ := Aside0.mk ((by rw [hg]; exact (below_size (by repeat (first | (with_reducible first | exact HB.out | apply below_alloc | apply pw_below_drewN | apply below_drew1) | exact HB.out))) : w.heap.size ≤ gb189)); have n3_ := Aside0.mk ((by rw [hg]; exact (below_size (by repeat (first | (with_reducible first | exact HB.out | apply below_alloc | apply pw_below_drewN | apply below_drew1) | exact HB.out))) : w.heap.size ≤ gb189)); clear HB; have HB := n0_; have BK189 := n1_; have GW189 := n2_; have GE189 := n3_; clear n0_ n1_ n2_ n3_; clear hb hbox hg; have hcz16_0 : w15.cell? ⟨gb189, 0, none⟩ = some (.bool a0_0) := (blk_cell BK189.out 0).trans rfl; have hcz16_1 : w15.cell? ⟨gb189, 1, none⟩ = some (.slice A0_1 l0_1.length c0_1) := (blk_cell BK189.out 1).trans rfl; have hcz16_2 : w15.cell? ⟨gb189, 2, none⟩ = some (.int .i64 a0_2) := (blk_cell BK189.out 2).trans rfl; have hfz16_0 := blk_frozen BK189.out 0; have hfz16_1 := blk_frozen BK189.out 1; have hfz16_2 := blk_frozen BK189.out 2; have p190 : 0 ≤ ((ji11) : Int) := of_decide_eq_true (by first | (with_reducible assumption) | assumption); have q190 : (ji11) < (l0_1.length : Int) := of_decide_eq_true (by first | (with_reducible assumption) | assumption); obtain ⟨ad190, e190, hx190_0⟩ := Kd.at_int HR0_1.out (ji11) p190 q190; cases e190; replace hx190_0 := (HB.out.cell (World.block_lt_of_cell? w _ hx190_0)).trans hx190_0; replace p190 := eq_true p190; replace q190 := eq_true q190))
            go_ret
            exact ⟨by first | rfl | (simp [errW_none, errW_some] <;> rfl) | (simp only [← hji11]; first | rfl | (simp [errW_none, errW_some] <;> rfl)) | (simp [*, errW_none, errW_some] <;> rfl), by repeat (first | (with_reducible first | exact HB.out | apply below_alloc | apply pw_below_drewN | apply below_drew1 | refine below_set ?_ GE189.out) | exact HB.out)⟩
          · rw [if_neg c14] at H
            have c14b0 : ((rd l0_1 (ji11)) == 0) = false := beq_eq_false_iff_ne.mpr c14
            have c14b1 : ((rd l0_1 (ji11)) != 0) = true := bne_iff_ne.mpr c14
            by_cases c17 : a0_2 < (-1200)
            · rw [if_pos c17] at H
              have c17b0 : decide (a0_2 < (-1200)) = true := decide_eq_true c17
              clear c17
              obtain rfl := Option.some.inj H
              go_enter Tryd.func19, Tryd.ntmps19
              go_wp2_with (first | ((with_reducible refine gate_dst (N := 1) rfl ?_); refine box_event ?hg (N := 1) ?hd (cs := #[.bool a0_0, .slice A0_1 l0_1.length c0_1, .int .i64 a0_2]) (t := 25) ?hr ?_; (case hd => rfl); (case hg => rfl); (case hr => first | (go_simp; done) | (go_simp; rfl) | (go_simp; simp only [x_u32u8, x_u8, x_u32, x_u64, x_mm]; first | done | rfl)); intro gb189 hg w18 hbox hb; have n0_ := Aside0.mk (below_step (by repeat (first | (with_reducible first | exact HB.out | apply below_alloc | apply pw_below_drewN | apply below_drew1) | exact HB.out)) hb); have n1_ := Aside0.mk (hbox); have n2_ := Aside0.mk ((by rw [hg]; exact (below_size (by repeat (first | (with_reducible first | exact HB.out | apply below_alloc | apply pw_below_drewN | apply below_drew1) | exact HB.out))) : w.heap.size ≤ gb189)); have n3_ := Aside0.mk ((by rw [hg]; exact (below_size (by repeat (first | (with_reducible first | exact HB.out | apply below_alloc | apply pw_below_drewN | apply below_drew1) | exact HB.out))) : w.heap.size ≤ gb189)); clear HB; have HB := n0_; have BK189 := n1_; have GW189 := n2_; have GE189 := n3_; clear n0_ n1_ n2_ n3_; clear hb hbox hg; have hcz19_0 : w18.cell? ⟨gb189, 0, none⟩ = some (.bool a0_0) := (blk_cell BK189.out 0).trans rfl; have hcz19_1 : w18.cell? ⟨gb189, 1, none⟩ = some (.slice A0_1 l0_1.length c0_1) := (blk_cell BK189.out 1).trans rfl; have hcz19_2 : w18.cell? ⟨gb189, 2, none⟩ = some (.int .i64 a0_2) := (blk_cell BK189.out 2).trans rfl; have hfz19_0 := blk_frozen BK189.out 0; have hfz19_1 := blk_frozen BK189.out 1; have hfz19_2 := blk_frozen BK189.out 2; have p190 : 0 ≤ ((ji11) : Int) := of_decide_eq_true (by first | (with_reducible assumption) | assumption); have q190 : (ji11) < (l0_1.length : Int) := of_decide_eq_true (by first | (with_reducible assumption) | assumption); obtain ⟨ad190, e190, hx190_0⟩ := Kd.at_int HR0_1.out (ji11) p190 q190; cases e190; replace hx190_0 := (HB.out.cell (World.block_lt_of_cell? w _ hx190_0)).trans hx190_0; replace p190 := eq_true p190; replace q190 := eq_true q190))
              go_ret
              exact ⟨by first | rfl | (simp [errW_none, errW_some] <;> rfl) | (simp only [← hji11]; first | rfl | (simp [errW_none, errW_some] <;> rfl)) | (simp [*, errW_none, errW_some] <;> rfl), by repeat (first | (with_reducible first | exact HB.out | apply below_alloc | apply pw_below_drewN | apply below_drew1 | refine below_set ?_ GE189.out) | exact HB.out)⟩
            · rw [if_neg c17] at H
              have c17b0 : decide (a0_2 < (-1200)) = false := decide_eq_false c17
              clear c17
              by_cases c20 : a0_2 > 1200
              · rw [if_pos c20] at H
                have c20b0 : decide (1200 < a0_2) = true := decide_eq_true c20
                clear c20
                obtain rfl := Option.some.inj H
                go_enter Tryd.func19, Tryd.ntmps19
                go_wp2_with (first | ((with_reducible refine gate_dst (N := 1) rfl ?_); refine box_event ?hg (N := 1) ?hd (cs := #[.bool a0_0, .slice A0_1 l0_1.length c0_1, .int .i64 a0_2]) (t := 25) ?hr ?_; (case hd => rfl); (case hg => rfl); (case hr => first | (go_simp; done) | (go_simp; rfl) | (go_simp; simp only [x_u32u8, x_u8, x_u32, x_u64, x_mm]; first | done | rfl)); intro gb189 hg w21 hbox hb; have n0_ := Aside0.mk (below_step (by repeat (first | (with_reducible first | exact HB.out | apply below_alloc | apply pw_below_drewN | apply below_drew1) | exact HB.out)) hb); have n1_ := Aside0.mk (hbox); have n2_ := Aside0.mk ((by rw [hg]; exact (below_size (by repeat (first | (with_reducible first | exact HB.out | apply below_alloc | apply pw_below_drewN | apply below_drew1) | exact HB.out))) : w.heap.size ≤ gb189)); have n3_ := Aside0.mk ((by rw [hg]; exact (below_size (by repeat (first | (with_reducible first | exact HB.out | apply below_alloc | apply pw_below_drewN | apply below_drew1) | exact HB.out))) : w.heap.size ≤ gb189)); clear HB; have HB := n0_; have BK189 := n1_; have GW189 := n2_; have GE189 := n3_; clear n0_ n1_ n2_ n3_; clear hb hbox hg; have hcz22_0 : w21.cell? ⟨gb189, 0, none⟩ = some (.bool a0_0) := (blk_cell BK189.out 0).trans rfl; have hcz22_1 : w21.cell? ⟨gb189, 1, none⟩ = some (.slice A0_1 l0_1.length c0_1) := (blk_cell BK189.out 1).trans rfl; have hcz22_2 : w21.cell? ⟨gb189, 2, none⟩ = some (.int .i64 a0_2) := (blk_cell BK189.out 2).trans rfl; have hfz22_0 := blk_frozen BK189.out 0; have hfz22_1 := blk_frozen BK189.out 1; have hfz22_2 := blk_frozen BK189.out 2; have p190 : 0 ≤ ((ji11) : Int) := of_decide_eq_true (by first | (with_reducible assumption) | assumption); have q190 : (ji11) < (l0_1.length : Int) := of_decide_eq_true (by first | (with_reducible assumption) | assumption); obtain ⟨ad190, e190, hx190_0⟩ := Kd.at_int HR0_1.out (ji11) p190 q190; cases e190; replace hx190_0 := (HB.out.cell (World.block_lt_of_cell? w _ hx190_0)).trans hx190_0; replace p190 := eq_true p190; replace q190 := eq_true q190))
                go_ret
                exact ⟨by first | rfl | (simp [errW_none, errW_some] <;> rfl) | (simp only [← hji11]; first | rfl | (simp [errW_none, errW_some] <;> rfl)) | (simp [*, errW_none, errW_some] <;> rfl), by repeat (first | (with_reducible first | exact HB.out | apply below_alloc | apply pw_below_drewN | apply below_drew1 | refine below_set ?_ GE189.out) | exact HB.out)⟩
              · rw [if_neg c20] at H
                have c20b0 : decide (1200 < a0_2) = false := decide_eq_false c20
                clear c20
                replace H := Option.bind_eq_some_iff.mp H
                obtain ⟨⟨t191, t192⟩, A230, H⟩ := H
                replace H : (some (t192 == 0)) = some r := H
                have A23 := Aside0.mk A230
                clear A230
                obtain rfl := Option.some.inj H
                go_enter Tryd.func19, Tryd.ntmps19
                go_wp2_with (first | ((with_reducible refine gate_dst (N := 1) rfl ?_); refine box_event ?hg (N := 1) ?hd (cs := #[.bool a0_0, .slice A0_1 l0_1.length c0_1, .int .i64 a0_2]) (t := 25) ?hr ?_; (case hd => rfl); (case hg => rfl); (case hr => first | (go_simp; done) | (go_simp; rfl) | (go_simp; simp only [x_u32u8, x_u8, x_u32, x_u64, x_mm]; first | done | rfl)); intro gb189 hg w24 hbox hb; have n0_ := Aside0.mk (below_step (by repeat (first | (with_reducible first | exact HB.out | apply below_alloc | apply pw_below_drewN | apply below_drew1) | exact HB.out)) hb); have n1_ := Aside0.mk (hbox); have n2_ := Aside0.mk ((by rw [hg]; exact (below_size (by repeat (first | (with_reducible first | exact HB.out | apply below_alloc | apply pw_below_drewN | apply below_drew1) | exact HB.out))) : w.heap.size ≤ gb189)); have n3_ := Aside0.mk ((by rw [hg]; exact (below_size (by repeat (first | (with_reducible first | exact HB.out | apply below_alloc | apply pw_below_drewN | apply below_drew1) | exact HB.out))) : w.heap.size ≤ gb189)); clear HB; have HB := n0_; have BK189 := n1_; have GW189 := n2_; have GE189 := n3_; clear n0_ n1_ n2_ n3_; clear hb hbox hg; have hcz25_0 : w24.cell? ⟨gb189, 0, none⟩ = some (.bool a0_0) := (blk_cell BK189.out 0).trans rfl; have hcz25_1 : w24.cell? ⟨gb189, 1, none⟩ = some (.slice A0_1 l0_1.length c0_1) := (blk_cell BK189.out 1).trans rfl; have hcz25_2 : w24.cell? ⟨gb189, 2, none⟩ = some (.int .i64 a0_2) := (blk_cell BK189.out 2).trans rfl; have hfz25_0 := blk_frozen BK189.out 0; have hfz25_1 := blk_frozen BK189.out 1; have hfz25_2 := blk_frozen BK189.out 2; have p190 : 0 ≤ ((ji11) : Int) := of_decide_eq_true (by first | (with_reducible assumption) | assumption); have q190 : (ji11) < (l0_1.length : Int) := of_decide_eq_true (by first | (with_reducible assumption) | assumption); obtain ⟨ad190, e190, hx190_0⟩ := Kd.at_int HR0_1.out (ji11) p190 q190; cases e190; replace hx190_0 := (HB.out.cell (World.block_lt_of_cell? w _ hx190_0)).trans hx190_0; replace p190 := eq_true p190; replace q190 := eq_true q190) | ((with_reducible refine gate_callee (f := 38) rfl ?_); refine goesL_ (some 43) rfl rfl Tryd.func38 (by kernel_rfl) rfl #[.slice (some ad190) l0_1.length c0_1] rfl (by (try simp only [List.map_toArray, List.map_cons, List.map_nil]); first | done | rfl | (simp only [List.length_drop, List.length_take]; rfl)) ?_; (with_reducible refine (nat_Trim.calls k _ _ l0_1 t191 t192 _ ?side1 ?side2 A23.out).mono ?_); (case side1 => repeat (first | exact (Kd.C_below HR0_1.out HB.out) | (with_reducible refine Kd.C_alloc ?_ _) | (with_reducible refine Kd.C_drewN ?_ _) | (with_reducible refine Kd.C_drew ?_))); (case side2 => exact HC0_1.out); rintro e w26 ⟨v193, rfl, ho0, hb⟩; refine ⟨_, rfl, ?_⟩; have n0_ := Aside0.mk (Kd.R_lower ho0 (below_size (by repeat (first | (with_reducible first | exact HB.out | apply below_alloc | apply pw_below_drewN | apply below_drew1 | refine below_set ?_ GE189.out) | exact HB.out)))); have n1_ := Aside0.mk (blk_below (g := gb189) (o := .cells #[.bool a0_0, .slice (some ad190) l0_1.length c0_1, .int .i64 a0_2] 25 (0, 0)) (by (with_reducible repeat (first | refine blk_drewN ?_ _ | refine blk_drew ?_ | refine blk_alloc ?_ _)); exact BK189.out) hb); have n2_ := Aside0.mk (below_step (by repeat (first | (with_reducible first | exact HB.out | apply below_alloc | apply pw_below_drewN | apply below_drew1 | refine below_set ?_ GE189.out) | exact HB.out)) hb); clear BK189; clear HB; have HO194 := n0_; have BK189 := n1_; have HB := n2_; clear n0_ n1_ n2_; (try clear hb); (try clear hb2); (try clear hk); (try clear hi); (try clear ho0)))
                go_ret
                exact ⟨by first | rfl | (simp [errW_none, errW_some] <;> rfl) | (simp only [← hji11]; first | rfl | (simp [errW_none, errW_some] <;> rfl)) | (simp [*, errW_none, errW_some] <;> rfl), by repeat (first | (with_reducible first | exact HB.out | apply below_alloc | apply pw_below_drewN | apply below_drew1 | refine below_set ?_ GE189.out) | exact HB.out)⟩
        · rw [if_neg c13] at H
          exact absurd H (by simp)
      · rw [if_neg c12] at H
        exact absurd H (by simp)

end Go.Proofs.YtmkdcokdilllcaaDoor.X
-- A walk, written by a program of this session (xp.py).
namespace Go.Proofs.YtmkdcokdilllcaaDoor.X
open Go.RowKit Go.Proofs.YtmkdcokdilllcaaDoorW.PrintWords Go.Proofs.YtmkdcokdilllcaaDoorW.PrintLast Go.Proofs.YtmkdcokdilllcaaDoorW.PrintMore
attribute [local go_sem] max2_int min2_int max_two min_two max_three min_three max_four min_four
set_option linter.unusedVariables false
set_option linter.unusedSimpArgs false

/-! ### num_of: function 33 -/
def num_of.f (k : Nat) (a0_0 : Bool) (l0_1 : List Int) (a0_2 : Int) : Option (Bool × List Int × Int) := (num_Check.f k a0_0 l0_1 a0_2).bind fun t197 => (if t197 = true then (some (a0_0, l0_1, a0_2)) else (some (false, ([] : List Int), 0)))
set_option maxHeartbeats 8000000 in
set_option maxRecDepth 100000 in
theorem num_of.calls (k : Nat) (a0_0 : Bool) (P0_1_ : Nat → Prop) (A0_1 : Option Addr) (c0_1 : Nat) (l0_1 : List Int) (a0_2 : Int) (r1 : Bool) (r2 : List Int) (r3 : Int) (w : World) (hs0_1 : Kd.V (Kd.int .u32) 40 w w.heap.size (fun k_ => P0_1_ k_) (.slice A0_1 l0_1.length c0_1) l0_1) (h : num_of.f k a0_0 l0_1 a0_2 = some (r1, r2, r3)) :
    Calls Tryd.prog 33 #[.agg #[.bool a0_0, .slice A0_1 l0_1.length c0_1, .int .i64 a0_2]] w fun e w' => ∃ v1_ : Value, e = .returned (.agg #[.bool r1, v1_, .int .i64 r3]) ∧ Kd.V (Kd.int .u32) 40 w' w.heap.size (fun k_ => (P0_1_ k_ ∨ w.heap.size ≤ k_)) v1_ r2 ∧ Below w.heap.size w w' := by
  have hu25 := Tryd.underlying25
  have HO0_1 := Aside0.mk (show Kd.V (Kd.int .u32) 40 w w.heap.size (fun k_ => (P0_1_ k_ ∨ w.heap.size ≤ k_)) (.slice A0_1 l0_1.length c0_1) l0_1 from Kd.V_mono hs0_1 (fun k_ hk => .inl hk))
  have HB := Aside0.mk (Below.refl w.heap.size w)
  have H : ((num_Check.f k a0_0 l0_1 a0_2).bind fun t197 => (if t197 = true then (some (a0_0, l0_1, a0_2)) else (some (false, ([] : List Int), 0)))) = some (r1, r2, r3) := h
  clear h
  replace H := Option.bind_eq_some_iff.mp H
  obtain ⟨t197, A20, H⟩ := H
  replace H : (if t197 = true then (some (a0_0, l0_1, a0_2)) else (some (false, ([] : List Int), 0))) = some (r1, r2, r3) := H
  have A2 := Aside0.mk A20
  clear A20
  by_cases c3 : t197 = true
  · subst c3
    have H1 : (some (a0_0, l0_1, a0_2)) = some (r1, r2, r3) := by rw [if_pos rfl] at H; exact H
    clear H
    have H := H1
    clear H1
    simp only [Option.some.injEq, Prod.mk.injEq] at H
    obtain ⟨rfl, rfl, rfl⟩ := H
    go_enter Tryd.func33, Tryd.ntmps33
    go_wp2_with (first | ((with_reducible refine gate_dst (N := 1) rfl ?_); refine box_event ?hg (N := 1) ?hd (cs := #[.bool a0_0, .slice A0_1 l0_1.length c0_1, .int .i64 a0_2]) (t := 25) ?hr ?_; (case hd => rfl); (case hg => rfl); (case hr => first | (go_simp; done) | (go_simp; rfl) | (go_simp; simp only [x_u32u8, x_u8, x_u32, x_u64, x_mm]; first | done | rfl)); intro gb195 hg w4 hbox hb; have n0_ := Aside0.mk (Kd.V_below (Kd.V_elderB (by (with_reducible repeat (first | apply Kd.V_alloc | apply Kd.V_drewN | apply Kd.V_drew)); exact HO0_1.out) gb195 (Nat.le_of_eq hg.symm)) hb); have n1_ := Aside0.mk (below_step (by repeat (first | (with_reducible first | exact HB.out | apply below_alloc | apply pw_below_drewN | apply below_drew1) | exact HB.out)) hb); have n2_ := Aside0.mk (hbox); have n3_ := Aside0.mk ((by rw [hg]; exact (below_size (by repeat (first | (with_reducible first | exact HB.out | apply below_alloc | apply pw_below_drewN | apply below_drew1) | exact HB.out))) : w.heap.size ≤ gb195)); have n4_ := Aside0.mk ((by rw [hg]; exact (below_size (by repeat (first | (with_reducible first | exact HB.out | apply below_alloc | apply pw_below_drewN | apply below_drew1) | exact HB.out))) : w.heap.size ≤ gb195)); clear HO0_1; clear HB; have HO0_1 := n0_; have HB := n1_; have BK195 := n2_; have GW195 := n3_; have GE195 := n4_; clear n0_ n1_ n2_ n3_ n4_; clear hb hbox hg) | ((with_reducible refine gate_dst (N := 2) rfl ?_); refine box_event ?hg (N := 2) ?hd (cs := #[.bool false, .slice none 0 0, .int .i64 0]) (t := 25) ?hr ?_; (case hd => rfl); (case hg => rfl); (case hr => first | (go_simp; done) | (go_simp; rfl) | (go_simp; simp only [x_u32u8, x_u8, x_u32, x_u64, x_mm]; first | done | rfl)); intro gb196 hg w5 hbox hb; have n0_ := Aside0.mk (Kd.V_below (Kd.V_elderB (by (with_reducible repeat (first | apply Kd.V_alloc | apply Kd.V_drewN | apply Kd.V_drew)); exact HO0_1.out) gb196 (Nat.le_of_eq hg.symm)) hb); have n1_ := Aside0.mk (blk_below (g := gb195) (o := .cells #[.bool a0_0, .slice A0_1 l0_1.length c0_1, .int .i64 a0_2] 25 (0, 0)) (by (with_reducible repeat (first | refine blk_drewN ?_ _ | refine blk_drew ?_ | refine blk_alloc ?_ _)); exact BK195.out) hb); have n2_ := Aside0.mk (below_step (by repeat (first | (with_reducible first | exact HB.out | apply below_alloc | apply pw_below_drewN | apply below_drew1 | refine below_set ?_ GE195.out) | exact HB.out)) hb); have n3_ := Aside0.mk (hbox); have n4_ := Aside0.mk ((by rw [hg]; exact (below_size (by repeat (first | (with_reducible first | exact HB.out | apply below_alloc | apply pw_below_drewN | apply below_drew1 | refine below_set ?_ GE195.out) | exact HB.out))) : w.heap.size ≤ gb196)); have n5_ := Aside0.mk ((by rw [hg]; exact (below_size (by repeat (first | (with_reducible first | exact HB.out | apply below_alloc | apply pw_below_drewN | apply below_drew1 | refine below_set ?_ GE195.out) | exact HB.out))) : w.heap.size ≤ gb196)); have n6_ := Aside0.mk ((by rw [hg]; exact Nat.ne_of_lt (blk_lt (g := gb195) (o := .cells #[.bool a0_0, .slice A0_1 l0_1.length c0_1, .int .i64 a0_2] 25 (0, 0)) (by (with_reducible repeat (first | refine blk_drewN ?_ _ | refine blk_drew ?_ | refine blk_alloc ?_ _)); exact BK195.out)) : gb195 ≠ gb196)); have n7_ := Aside0.mk ((by rw [hg]; exact Nat.ne_of_gt (blk_lt (g := gb195) (o := .cells #[.bool a0_0, .slice A0_1 l0_1.length c0_1, .int .i64 a0_2] 25 (0, 0)) (by (with_reducible repeat (first | refine blk_drewN ?_ _ | refine blk_drew ?_ | refine blk_alloc ?_ _)); exact BK195.out)) : gb196 ≠ gb195)); clear HO0_1; clear BK195; clear HB; have HO0_1 := n0_; have BK195 := n1_; have HB := n2_; have BK196 := n3_; have GW196 := n4_; have GE196 := n5_; have NB195_196 := n6_; have NB196_195 := n7_; clear n0_ n1_ n2_ n3_ n4_ n5_ n6_ n7_; clear hb hbox hg; have hnb6 := NB195_196.out; have hnc6 := NB196_195.out; have hcz7_0 : w5.cell? ⟨gb195, 0, none⟩ = some (.bool a0_0) := (blk_cell BK195.out 0).trans rfl; have hcz7_1 : w5.cell? ⟨gb195, 1, none⟩ = some (.slice A0_1 l0_1.length c0_1) := (blk_cell BK195.out 1).trans rfl; have hcz7_2 : w5.cell? ⟨gb195, 2, none⟩ = some (.int .i64 a0_2) := (blk_cell BK195.out 2).trans rfl; have hfz7_0 := blk_frozen BK195.out 0; have hfz7_1 := blk_frozen BK195.out 1; have hfz7_2 := blk_frozen BK195.out 2) | ((with_reducible refine gate_callee (f := 19) rfl ?_); refine goesL_ (some 4) rfl rfl Tryd.func19 (by kernel_rfl) rfl #[.agg #[.bool a0_0, .slice A0_1 l0_1.length c0_1, .int .i64 a0_2]] rfl (by (try simp only [List.map_toArray, List.map_cons, List.map_nil]); first | done | rfl | (simp only [List.length_drop, List.length_take]; rfl)) ?_; (with_reducible refine (num_Check.calls k a0_0 _ _ l0_1 a0_2 true _ ?side1 ?side2 A2.out).mono ?_); (case side1 => repeat (first | exact (Kd.V_reads' HO0_1.out).2.2 | (with_reducible refine Kd.C_alloc ?_ _) | (with_reducible refine Kd.C_drewN ?_ _) | (with_reducible refine Kd.C_drew ?_))); (case side2 => exact (Kd.V_reads' HO0_1.out).2.1); rintro e w8 ⟨rfl, hb⟩; refine ⟨_, rfl, ?_⟩; have n0_ := Aside0.mk (Kd.V_below (by (with_reducible repeat (first | apply Kd.V_alloc | apply Kd.V_drewN | apply Kd.V_drew)); exact HO0_1.out) hb); have n1_ := Aside0.mk (blk_below (g := gb195) (o := .cells #[.bool a0_0, .slice A0_1 l0_1.length c0_1, .int .i64 a0_2] 25 (0, 0)) (by (with_reducible repeat (first | refine blk_drewN ?_ _ | refine blk_drew ?_ | refine blk_alloc ?_ _)); exact BK195.out) hb); have n2_ := Aside0.mk (blk_below (g := gb196) (o := .cells #[.bool false, .slice none 0 0, .int .i64 0] 25 (0, 0)) (by (with_reducible repeat (first | refine blk_drewN ?_ _ | refine blk_drew ?_ | refine blk_alloc ?_ _)); exact BK196.out) hb); have n3_ := Aside0.mk (below_step (by repeat (first | (with_reducible first | exact HB.out | apply below_alloc | apply pw_below_drewN | apply below_drew1 | refine below_set ?_ GE195.out | refine below_set ?_ GE196.out) | exact HB.out)) hb); clear HO0_1; clear BK195; clear BK196; clear HB; have HO0_1 := n0_; have BK195 := n1_; have BK196 := n2_; have HB := n3_; clear n0_ n1_ n2_ n3_; (try clear hb); (try clear hb2); (try clear hk); (try clear hi); have hcz9_0 : w8.cell? ⟨gb195, 0, none⟩ = some (.bool a0_0) := (blk_cell BK195.out 0).trans rfl; have hcz9_1 : w8.cell? ⟨gb195, 1, none⟩ = some (.slice A0_1 l0_1.length c0_1) := (blk_cell BK195.out 1).trans rfl; have hcz9_2 : w8.cell? ⟨gb195, 2, none⟩ = some (.int .i64 a0_2) := (blk_cell BK195.out 2).trans rfl; have hfz9_0 := blk_frozen BK195.out 0; have hfz9_1 := blk_frozen BK195.out 1; have hfz9_2 := blk_frozen BK195.out 2; have hcz10_0 : w8.cell? ⟨gb196, 0, none⟩ = some (.bool false) := (blk_cell BK196.out 0).trans rfl; have hcz10_1 : w8.cell? ⟨gb196, 1, none⟩ = some (.slice none 0 0) := (blk_cell BK196.out 1).trans rfl; have hcz10_2 : w8.cell? ⟨gb196, 2, none⟩ = some (.int .i64 0) := (blk_cell BK196.out 2).trans rfl; have hfz10_0 := blk_frozen BK196.out 0; have hfz10_1 := blk_frozen BK196.out 1; have hfz10_2 := blk_frozen BK196.out 2))
    refine bodyPost_ret (results_cell_row rfl _ _ gb196 25 #[.bool a0_0, .slice A0_1 l0_1.length c0_1, .int .i64 a0_2] (0, 0) _ rfl (by (with_reducible repeat (first | refine blk_drewN ?_ _ | refine blk_drew ?_ | refine blk_alloc ?_ _)); refine blk_put (cs := #[.bool a0_0, .slice A0_1 l0_1.length c0_1, .int .i64 0]) ?_ 2 _ rfl; (with_reducible repeat (first | refine blk_drewN ?_ _ | refine blk_drew ?_ | refine blk_alloc ?_ _)); refine blk_put (cs := #[.bool a0_0, .slice none 0 0, .int .i64 0]) ?_ 1 _ rfl; (with_reducible repeat (first | refine blk_drewN ?_ _ | refine blk_drew ?_ | refine blk_alloc ?_ _)); refine blk_put (cs := #[.bool false, .slice none 0 0, .int .i64 0]) ?_ 0 _ rfl; (with_reducible repeat (first | refine blk_drewN ?_ _ | refine blk_drew ?_ | refine blk_alloc ?_ _)); exact BK196.out) Tryd.underlying25 rfl (by kernel_rfl)) rfl ?_
    exact ⟨_, by first | rfl | (simp [errW_none, errW_some] <;> rfl) | (simp [*, errW_none, errW_some] <;> rfl), by (with_reducible repeat (first | apply Kd.V_alloc | apply Kd.V_drewN | apply Kd.V_drew)); exact Kd.V_mono (Kd.V_far (p := ⟨gb196, 2, none⟩) (Kd.V_far (p := ⟨gb196, 1, none⟩) (Kd.V_far (p := ⟨gb196, 0, none⟩) (Kd.V_mono HO0_1.out (fun k_ hk => (⟨hk, hk.2⟩ : _ ∧ k_ ≠ gb196))) (fun _ hk => hk.2) (.bool a0_0)) (fun _ hk => hk.2) (.slice A0_1 l0_1.length c0_1)) (fun _ hk => hk.2) (.int .i64 a0_2)) (fun _ hk => hk.1.1.1), by repeat (first | (with_reducible first | exact HB.out | apply below_alloc | apply pw_below_drewN | apply below_drew1 | refine below_set ?_ GE195.out | refine below_set ?_ GE196.out) | exact HB.out)⟩
  · replace c3 := Bool.eq_false_iff.mpr c3
    subst c3
    have H1 : (some (false, ([] : List Int), 0)) = some (r1, r2, r3) := by rw [if_neg (show ¬ (false = true) by decide)] at H; exact H
    clear H
    have H := H1
    clear H1
    simp only [Option.some.injEq, Prod.mk.injEq] at H
    obtain ⟨rfl, rfl, rfl⟩ := H
    go_enter Tryd.func33, Tryd.ntmps33
    go_wp2_with (first | ((with_reducible refine gate_dst (N := 1) rfl ?_); refine box_event ?hg (N := 1) ?hd (cs := #[.bool a0_0, .slice A0_1 l0_1.length c0_1, .int .i64 a0_2]) (t := 25) ?hr ?_; (case hd => rfl); (case hg => rfl); (case hr => first | (go_simp; done) | (go_simp; rfl) | (go_simp; simp only [x_u32u8, x_u8, x_u32, x_u64, x_mm]; first | done | rfl)); intro gb195 hg w11 hbox hb; have n0_ := Aside0.mk (Kd.V_below (Kd.V_elderB (by (with_reducible repeat (first | apply Kd.V_alloc | apply Kd.V_drewN | apply Kd.V_drew)); exact HO0_1.out) gb195 (Nat.le_of_eq hg.symm)) hb); have n1_ := Aside0.mk (below_step (by repeat (first | (with_reducible first | exact HB.out | apply below_alloc | apply pw_below_drewN | apply below_drew1) | exact HB.out)) hb); have n2_ := Aside0.mk (hbox); have n3_ := Aside0.mk ((by rw [hg]; exact (below_size (by repeat (first | (with_reducible first | exact HB.out | apply below_alloc | apply pw_below_drewN | apply below_drew1) | exact HB.out))) : w.heap.size ≤ gb195)); have n4_ := Aside0.mk ((by rw [hg]; exact (below_size (by repeat (first | (with_reducible first | exact HB.out | apply below_alloc | apply pw_below_drewN | apply below_drew1) | exact HB.out))) : w.heap.size ≤ gb195)); clear HO0_1; clear HB; have HO0_1 := n0_; have HB := n1_; have BK195 := n2_; have GW195 := n3_; have GE195 := n4_; clear n0_ n1_ n2_ n3_ n4_; clear hb hbox hg) | ((with_reducible refine gate_dst (N := 2) rfl ?_); refine box_event ?hg (N := 2) ?hd (cs := #[.bool false, .slice none 0 0, .int .i64 0]) (t := 25) ?hr ?_; (case hd => rfl); (case hg => rfl); (case hr => first | (go_simp; done) | (go_simp; rfl) | (go_simp; simp only [x_u32u8, x_u8, x_u32, x_u64, x_mm]; first | done | rfl)); intro gb196 hg w12 hbox hb; have n0_ := Aside0.mk (Kd.V_below (Kd.V_elderB (by (with_reducible repeat (first | apply Kd.V_alloc | apply Kd.V_drewN | apply Kd.V_drew)); exact HO0_1.out) gb196 (Nat.le_of_eq hg.symm)) hb); have n1_ := Aside0.mk (blk_below (g := gb195) (o := .cells #[.bool a0_0, .slice A0_1 l0_1.length c0_1, .int .i64 a0_2] 25 (0, 0)) (by (with_reducible repeat (first | refine blk_drewN ?_ _ | refine blk_drew ?_ | refine blk_alloc ?_ _)); exact BK195.out) hb); have n2_ := Aside0.mk (below_step (by repeat (first | (with_reducible first | exact HB.out | apply below_alloc | apply pw_below_drewN | apply below_drew1 | refine below_set ?_ GE195.out) | exact HB.out)) hb); have n3_ := Aside0.mk (hbox); have n4_ := Aside0.mk ((by rw [hg]; exact (below_size (by repeat (first | (with_reducible first | exact HB.out | apply below_alloc | apply pw_below_drewN | apply below_drew1 | refine below_set ?_ GE195.out) | exact HB.out))) : w.heap.size ≤ gb196)); have n5_ := Aside0.mk ((by rw [hg]; exact (below_size (by repeat (first | (with_reducible first | exact HB.out | apply below_alloc | apply pw_below_drewN | apply below_drew1 | refine below_set ?_ GE195.out) | exact HB.out))) : w.heap.size ≤ gb196)); have n6_ := Aside0.mk ((by rw [hg]; exact Nat.ne_of_lt (blk_lt (g := gb195) (o := .cells #[.bool a0_0, .slice A0_1 l0_1.length c0_1, .int .i64 a0_2] 25 (0, 0)) (by (with_reducible repeat (first | refine blk_drewN ?_ _ | refine blk_drew ?_ | refine blk_alloc ?_ _)); exact BK195.out)) : gb195 ≠ gb196)); have n7_ := Aside0.mk ((by rw [hg]; exact Nat.ne_of_gt (blk_lt (g := gb195) (o := .cells #[.bool a0_0, .slice A0_1 l0_1.length c0_1, .int .i64 a0_2] 25 (0, 0)) (by (with_reducible repeat (first | refine blk_drewN ?_ _ | refine blk_drew ?_ | refine blk_alloc ?_ _)); exact BK195.out)) : gb196 ≠ gb195)); clear HO0_1; clear BK195; clear HB; have HO0_1 := n0_; have BK195 := n1_; have HB := n2_; have BK196 := n3_; have GW196 := n4_; have GE196 := n5_; have NB195_196 := n6_; have NB196_195 := n7_; clear n0_ n1_ n2_ n3_ n4_ n5_ n6_ n7_; clear hb hbox hg; have hnb13 := NB195_196.out; have hnc13 := NB196_195.out; have hcz14_0 : w12.cell? ⟨gb195, 0, none⟩ = some (.bool a0_0) := (blk_cell BK195.out 0).trans rfl; have hcz14_1 : w12.cell? ⟨gb195, 1, none⟩ = some (.slice A0_1 l0_1.length c0_1) := (blk_cell BK195.out 1).trans rfl; have hcz14_2 : w12.cell? ⟨gb195, 2, none⟩ = some (.int .i64 a0_2) := (blk_cell BK195.out 2).trans rfl; have hfz14_0 := blk_frozen BK195.out 0; have hfz14_1 := blk_frozen BK195.out 1; have hfz14_2 := blk_frozen BK195.out 2) | ((with_reducible refine gate_callee (f := 19) rfl ?_); refine goesL_ (some 4) rfl rfl Tryd.func19 (by kernel_rfl) rfl #[.agg #[.bool a0_0, .slice A0_1 l0_1.length c0_1, .int .i64 a0_2]] rfl (by (try simp only [List.map_toArray, List.map_cons, List.map_nil]); first | done | rfl | (simp only [List.length_drop, List.length_take]; rfl)) ?_; (with_reducible refine (num_Check.calls k a0_0 _ _ l0_1 a0_2 false _ ?side1 ?side2 A2.out).mono ?_); (case side1 => repeat (first | exact (Kd.V_reads' HO0_1.out).2.2 | (with_reducible refine Kd.C_alloc ?_ _) | (with_reducible refine Kd.C_drewN ?_ _) | (with_reducible refine Kd.C_drew ?_))); (case side2 => exact (Kd.V_reads' HO0_1.out).2.1); rintro e w15 ⟨rfl, hb⟩; refine ⟨_, rfl, ?_⟩; have n0_ := Aside0.mk (Kd.V_below (by (with_reducible repeat (first | apply Kd.V_alloc | apply Kd.V_drewN | apply Kd.V_drew)); exact HO0_1.out) hb); have n1_ := Aside0.mk (blk_below (g := gb195) (o := .cells #[.bool a0_0, .slice A0_1 l0_1.length c0_1, .int .i64 a0_2] 25 (0, 0)) (by (with_reducible repeat (first | refine blk_drewN ?_ _ | refine blk_drew ?_ | refine blk_alloc ?_ _)); exact BK195.out) hb); have n2_ := Aside0.mk (blk_below (g := gb196) (o := .cells #[.bool false, .slice none 0 0, .int .i64 0] 25 (0, 0)) (by (with_reducible repeat (first | refine blk_drewN ?_ _ | refine blk_drew ?_ | refine blk_alloc ?_ _)); exact BK196.out) hb); have n3_ := Aside0.mk (below_step (by repeat (first | (with_reducible first | exact HB.out | apply below_alloc | apply pw_below_drewN | apply below_drew1 | refine below_set ?_ GE195.out | refine below_set ?_ GE196.out) | exact HB.out)) hb); clear HO0_1; clear BK195; clear BK196; clear HB; have HO0_1 := n0_; have BK195 := n1_; have BK196 := n2_; have HB := n3_; clear n0_ n1_ n2_ n3_; (try clear hb); (try clear hb2); (try clear hk); (try clear hi); have hcz16_0 : w15.cell? ⟨gb196, 0, none⟩ = some (.bool false) := (blk_cell BK196.out 0).trans rfl; have hcz16_1 : w15.cell? ⟨gb196, 1, none⟩ = some (.slice none 0 0) := (blk_cell BK196.out 1).trans rfl; have hcz16_2 : w15.cell? ⟨gb196, 2, none⟩ = some (.int .i64 0) := (blk_cell BK196.out 2).trans rfl; have hfz16_0 := blk_frozen BK196.out 0; have hfz16_1 := blk_frozen BK196.out 1; have hfz16_2 := blk_frozen BK196.out 2))
    refine bodyPost_ret (results_cell_row rfl _ _ gb196 25 #[.bool false, .slice none 0 0, .int .i64 0] (0, 0) _ rfl (by (with_reducible repeat (first | refine blk_drewN ?_ _ | refine blk_drew ?_ | refine blk_alloc ?_ _)); refine blk_put (cs := #[.bool false, .slice none 0 0, .int .i64 0]) ?_ 2 _ rfl; (with_reducible repeat (first | refine blk_drewN ?_ _ | refine blk_drew ?_ | refine blk_alloc ?_ _)); refine blk_put (cs := #[.bool false, .slice none 0 0, .int .i64 0]) ?_ 1 _ rfl; (with_reducible repeat (first | refine blk_drewN ?_ _ | refine blk_drew ?_ | refine blk_alloc ?_ _)); refine blk_put (cs := #[.bool false, .slice none 0 0, .int .i64 0]) ?_ 0 _ rfl; (with_reducible repeat (first | refine blk_drewN ?_ _ | refine blk_drew ?_ | refine blk_alloc ?_ _)); exact BK196.out) Tryd.underlying25 rfl (by kernel_rfl)) rfl ?_
    exact ⟨_, by first | rfl | (simp [errW_none, errW_some] <;> rfl) | (simp [*, errW_none, errW_some] <;> rfl), (Kd.V_nil _ _ _ _ _), by repeat (first | (with_reducible first | exact HB.out | apply below_alloc | apply pw_below_drewN | apply below_drew1 | refine below_set ?_ GE195.out | refine below_set ?_ GE196.out) | exact HB.out)⟩

end Go.Proofs.YtmkdcokdilllcaaDoor.X
