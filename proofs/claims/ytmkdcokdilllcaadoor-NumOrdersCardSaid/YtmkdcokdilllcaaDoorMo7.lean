import Derived.Test.YtmkdcokdilllcaaDoorMo4
import Derived.Test.YtmkdcokdilllcaaDoorMo6
import Derived.Test.YtmkdcokdilllcaaDoorMo2
import Derived.Test.YtmkdcokdilllcaaDoorMo5
import Derived.Test.YtmkdcokdilllcaaDoorMo3
/- Which numbers may be; how two compare; which are the same. -/
namespace Go.Proofs.YtmkdcokdilllcaaDoor.X
open Go.RowKit Go.Proofs.YtmkdcokdilllcaaDoorW.PrintWords Go.Proofs.YtmkdcokdilllcaaDoorW.PrintMore
set_option linter.unusedVariables false
set_option linter.unusedSimpArgs false
/-- May that be a number? -/
def checkS (neg : Bool) (l : List Int) (E : Int) : Bool :=
  if l.length = 0 then (!neg && (E == 0)) else if l.length > 90 then false else if rd l ((l.length : Int) - 1) = 0 then false else if E < -1200 then false else if E > 1200 then false else decide (val l % 10 ≠ 0)
theorem last_split {l : List Int} (h : l.length ≠ 0) : l = l.take (l.length - 1) ++ [rd l ((l.length : Int) - 1)] := by
  have h1 := take_snoc' l (l.length - 1) (by omega)
  rw [show l.length - 1 + 1 = l.length by omega, List.take_of_length_le (Nat.le_refl _)] at h1
  rw [show ((l.length : Int) - 1) = ((l.length - 1 : Nat) : Int) by omega]
  exact h1
theorem norm_len (l : List Int) : (norm l).length ≤ l.length := by
  unfold norm
  rw [List.length_reverse]
  exact Nat.le_trans (List.dropWhile_sublist _).length_le (by rw [List.length_reverse]; exact Nat.le_refl _)
theorem lim_last {n : Nat} (h : (lim n).length ≠ 0) : rd (lim n) (((lim n).length : Int) - 1) ≠ 0 := by
  intro hz
  have h1 := last_split h
  have h2 := lim_norm n
  generalize lim n = l at *
  rw [hz] at h1
  rw [h1, norm_snoc, if_pos rfl] at h2
  have h3 := norm_len (l.take (l.length - 1))
  rw [h2, List.length_append] at h3
  simp at h3
  omega
theorem top_lim {l : List Int} (hl : Ok l) (h : l.length ≠ 0) (h0 : rd l ((l.length : Int) - 1) ≠ 0) : l = lim (val l) := by
  have h1 := last_split h
  have h2 := norm_lim hl
  rw [h1, norm_snoc, if_neg h0, ← h1] at h2
  exact h2
theorem check_good {neg : Bool} {l : List Int} {E : Int} (hl : Ok l) (h : checkS neg l E = true) : l = lim (val l) ∧ GoodNum neg (val l) E := by
  unfold checkS at h
  by_cases h0 : l.length = 0
  · rw [if_pos h0] at h
    obtain rfl := List.eq_nil_of_length_eq_zero h0
    have hn : neg = false ∧ E = 0 := by simpa using h
    obtain ⟨rfl, rfl⟩ := hn
    exact ⟨by rw [show val [] = 0 from rfl, lim_zero], ⟨fun _ => ⟨rfl, rfl⟩, fun h => (h rfl).elim, by rw [show val [] = 0 from rfl, lim_zero]; exact Nat.zero_le _, by decide, by decide⟩⟩
  · rw [if_neg h0] at h
    split at h
    · cases h
    · split at h
      · cases h
      · split at h
        · cases h
        · split at h
          · cases h
          · rename_i a1 a2 a3 a4
            have ht := top_lim hl h0 a2
            have h10 : val l % 10 ≠ 0 := of_decide_eq_true h
            exact ⟨ht, ⟨fun hz => by rw [hz] at h10; exact (h10 rfl).elim, fun _ => h10, by rw [← ht]; omega, by omega, by omega⟩⟩
theorem good_check {neg : Bool} {n : Nat} {E : Int} (h : GoodNum neg n E) : checkS neg (lim n) E = true := by
  have h1 := h.limbs
  have h2 := h.lo
  have h3 := h.hi
  unfold checkS
  by_cases h0 : n = 0
  · obtain ⟨rfl, rfl⟩ := h.zero h0
    subst h0
    rw [lim_zero]
    rfl
  · have hl : (lim n).length ≠ 0 := fun h => h0 ((lim_len_zero n).1 h)
    rw [if_neg hl, if_neg (by omega), if_neg (lim_last hl), if_neg (by omega), if_neg (by omega), val_lim]
    exact decide_eq_true (h.ten h0)
theorem tz_two_zero {n : Nat} (h : n ≠ 0) : (tz n).2 = 0 ↔ n % 10 ≠ 0 := by
  constructor
  · intro hz hm
    rw [tz_ten h hm] at hz
    simp at hz
  · intro hm
    rw [tz_self hm]
theorem val_zero_of {l : List Int} (hl : Ok l) (h : l.length ≠ 0) (h0 : rd l ((l.length : Int) - 1) ≠ 0) : val l ≠ 0 := by
  intro hz
  have := top_lim hl h h0
  rw [hz, lim_zero] at this
  rw [this] at h
  exact h rfl
theorem num_check {l : List Int} (hl : Ok l) (la : l.length ≤ 1099511627776) (neg : Bool) (E : Int) : Ev (fun k => num_Check.f k neg l E) (checkS neg l E) := by
  unfold num_Check.f checkS
  by_cases h0 : l.length = 0
  · have c0 : (l.length : Int) = 0 := by omega
    simp only [c0, h0, if_true]
    cases neg
    · simp only [Bool.false_eq_true, if_false, Bool.not_false, Bool.true_and]
      exact Ev.now _
    · simp only [if_true, Bool.not_true, Bool.false_and]
      exact Ev.now _
  · have c0 : ¬ (l.length : Int) = 0 := by omega
    have hw := wrap64_pred l.length la
    simp only [c0, h0, if_false, hw]
    by_cases h1 : l.length > 90
    · have c1 : (l.length : Int) > 90 := by omega
      simp only [c1, h1, if_true]
      exact Ev.now _
    · have c1 : ¬ (l.length : Int) > 90 := by omega
      have c2 : (0 : Int) ≤ (l.length : Int) - 1 := by omega
      have c3 : (l.length : Int) - 1 < (l.length : Int) := by omega
      simp only [c1, h1, c2, c3, if_false, if_true]
      by_cases h2 : rd l ((l.length : Int) - 1) = 0
      · simp only [h2, if_true]
        exact Ev.now _
      · simp only [h2, if_false]
        by_cases h3 : E < -1200
        · simp only [h3, if_true]
          exact Ev.now _
        · simp only [h3, if_false]
          by_cases h4 : E > 1200
          · simp only [h4, if_true]
            exact Ev.now _
          · simp only [h4, if_false]
            refine Ev.bind (nat_trim hl la) ?_
            have e : (((((tz (val l)).2 : Nat) : Int)) == 0) = decide (val l % 10 ≠ 0) := by
              rw [Bool.eq_iff_iff, decide_eq_true_eq, ← tz_two_zero (val_zero_of hl h0 h2)]
              simp
            simp only [e]
            exact Ev.now _
theorem r2check {l : List Int} (hl : Ok l) (la : l.length ≤ 1099511627776) (neg : Bool) (E : Int) : Ev (fun k => erratumref02_Check.f k neg l E) (checkS neg l E) := by
  unfold erratumref02_Check.f checkS
  by_cases h0 : l.length = 0
  · have c0 : (l.length : Int) = 0 := by omega
    simp only [c0, h0, if_true]
    cases neg
    · simp only [Bool.false_eq_true, if_false, Bool.not_false, Bool.true_and]
      exact Ev.now _
    · simp only [if_true, Bool.not_true, Bool.false_and]
      exact Ev.now _
  · have c0 : ¬ (l.length : Int) = 0 := by omega
    have hw := wrap64_pred l.length la
    simp only [c0, h0, if_false, hw]
    by_cases h1 : l.length > 90
    · have c1 : (l.length : Int) > 90 := by omega
      simp only [c1, h1, if_true]
      exact Ev.now _
    · have c1 : ¬ (l.length : Int) > 90 := by omega
      have c2 : (0 : Int) ≤ (l.length : Int) - 1 := by omega
      have c3 : (l.length : Int) - 1 < (l.length : Int) := by omega
      simp only [c1, h1, c2, c3, if_false, if_true]
      by_cases h2 : rd l ((l.length : Int) - 1) = 0
      · simp only [h2, if_true]
        exact Ev.now _
      · simp only [h2, if_false]
        by_cases h3 : E < -1200
        · simp only [h3, if_true]
          exact Ev.now _
        · simp only [h3, if_false]
          by_cases h4 : E > 1200
          · simp only [h4, if_true]
            exact Ev.now _
          · simp only [h4, if_false]
            refine Ev.bind (r1small hl la (by decide : (0 : Int) < 10) (by decide)) ?_
            have e : (((val l % (10 : Int).toNat : Nat) : Int) != 0) = decide (val l % 10 ≠ 0) := by
              rw [Bool.eq_iff_iff, decide_eq_true_eq]
              simp
              omega
            simp only [e]
            exact Ev.now _
def ofS (neg : Bool) (l : List Int) (E : Int) : Bool × List Int × Int := if checkS neg l E = true then (neg, l, E) else (false, [], 0)
theorem num_of_eq {l : List Int} (hl : Ok l) (la : l.length ≤ 1099511627776) (neg : Bool) (E : Int) : Ev (fun k => num_of.f k neg l E) (ofS neg l E) := by
  unfold ofS
  refine Ev.congr (fun k => rfl) (Ev.bind (num_check hl la neg E) ?_)
  split <;> exact Ev.now _
theorem of_good {neg : Bool} {n : Nat} {E : Int} (h : GoodNum neg n E) : ofS neg (lim n) E = (neg, lim n, E) := by
  unfold ofS
  rw [if_pos (good_check h)]
theorem zeroGood : GoodNum false 0 0 := ⟨fun _ => ⟨rfl, rfl⟩, fun h => (h rfl).elim, by rw [lim_zero]; exact Nat.zero_le _, by decide, by decide⟩
def cmp3 (x y : Int) : Int := if x < y then -1 else if y < x then 1 else 0
def cmpN (x y : Nat) : Int := if x < y then -1 else if y < x then 1 else 0
theorem cmpN_mul (x y : Nat) {c : Nat} (h : 0 < c) : cmpN (x * c) (y * c) = cmpN x y := by
  unfold cmpN
  simp only [Nat.mul_lt_mul_right h]
theorem cmp_int (a b : Int) : cmp_Compare_int.f a b = some (cmp3 a b) := by
  have h : ∀ c : Int, cmp_isNaN_int.f c = some false := fun c => by unfold cmp_isNaN_int.f; simp
  unfold cmp_Compare_int.f cmp3
  rw [h, h]
  simp only [Option.bind_some, Bool.false_eq_true, if_false]
  by_cases h1 : a < b
  · rw [if_pos h1, if_pos h1]
  · by_cases h2 : b < a
    · rw [if_neg h1, if_neg h1, if_pos h2, if_pos h2]
    · rw [if_neg h1, if_neg h1, if_neg h2, if_neg h2]
theorem decFrom_ge (l : List UInt8) : ∀ (a n : Nat), Lib.decFrom a l = some n → a * 10 ^ l.length ≤ n := by
  induction l with
  | nil => intro a n h; simp [Lib.decFrom] at h; simp; omega
  | cons c l ih =>
    intro a n h
    simp only [Lib.decFrom] at h
    rcases hd : Lib.digitVal c with _ | d
    · rw [hd] at h; simp at h
    · rw [hd] at h
      have h1 := ih _ _ h
      rw [List.length_cons, Nat.pow_succ]
      refine Nat.le_trans ?_ h1
      rw [Nat.mul_comm (10 ^ l.length) 10, ← Nat.mul_assoc]
      exact Nat.mul_le_mul_right _ (by omega)
theorem digitVal_isDig {c : UInt8} (h : isDig c = true) : Lib.digitVal c = some (c.toNat - 48) := by
  unfold isDig at h
  unfold Lib.digitVal
  simp at h
  rw [if_pos h]
theorem compare_digits : ∀ (l m : List UInt8) (a : Nat), l.length = m.length → (∀ c ∈ l, isDig c = true) → (∀ c ∈ m, isDig c = true) → Lib.compareBytes l m = cmpN ((Lib.decFrom a l).getD 0) ((Lib.decFrom a m).getD 0)
  | [], [], a, _, _, _ => by simp [Lib.compareBytes, cmpN]
  | [], _ :: _, _, h, _, _ => by simp at h
  | _ :: _, [], _, h, _, _ => by simp at h
  | c :: l, d :: m, a, h, hl, hm => by
    have hlen : l.length = m.length := by simpa using h
    have hc := digitVal_isDig (hl c (by simp))
    have hd := digitVal_isDig (hm d (by simp))
    have hl' : ∀ c ∈ l, isDig c = true := fun x hx => hl x (by simp [hx])
    have hm' : ∀ c ∈ m, isDig c = true := fun x hx => hm x (by simp [hx])
    simp only [Lib.compareBytes, Lib.decFrom, hc, hd]
    have kc : 48 ≤ c.toNat := by have := hl c (by simp); unfold isDig at this; simp at this; exact this.1
    have kd : 48 ≤ d.toNat := by have := hm d (by simp); unfold isDig at this; simp at this; exact this.1
    obtain ⟨x, hx⟩ := decFrom_some l hl' (a * 10 + (c.toNat - 48))
    obtain ⟨y, hy⟩ := decFrom_some m hm' (a * 10 + (d.toNat - 48))
    have hx1 := decFrom_bound _ _ _ hx
    have hy1 := decFrom_bound _ _ _ hy
    have hx2 := decFrom_ge _ _ _ hx
    have hy2 := decFrom_ge _ _ _ hy
    by_cases h1 : c < d
    · have h1' : c.toNat < d.toNat := UInt8.lt_iff_toNat_lt.1 h1
      rw [if_pos h1, hx, hy]
      have : x < y := by
        refine Nat.lt_of_lt_of_le hx1 (Nat.le_trans ?_ hy2)
        rw [hlen]
        exact Nat.mul_le_mul_right _ (by omega)
      simp only [Option.getD_some, cmpN]
      rw [if_pos this]
    · by_cases h2 : d < c
      · have h2' : d.toNat < c.toNat := UInt8.lt_iff_toNat_lt.1 h2
        rw [if_neg h1, if_pos h2, hx, hy]
        have : y < x := by
          refine Nat.lt_of_lt_of_le hy1 (Nat.le_trans ?_ hx2)
          rw [hlen]
          exact Nat.mul_le_mul_right _ (by omega)
        simp only [Option.getD_some, cmpN]
        rw [if_neg (by omega), if_pos this]
      · have he : c = d := by
          have h1' : ¬ c.toNat < d.toNat := fun h => h1 (UInt8.lt_iff_toNat_lt.2 h)
          have h2' : ¬ d.toNat < c.toNat := fun h => h2 (UInt8.lt_iff_toNat_lt.2 h)
          exact UInt8.toNat_inj.1 (by omega)
        subst he
        rw [if_neg h1, if_neg h2]
        exact compare_digits l m _ hlen hl' hm'
theorem pow_le_digits (n : Nat) (h0 : n ≠ 0) : 10 ^ (Lib.nDigits n - 1) ≤ n := by
  induction n using Nat.strongRecOn with
  | _ n ih =>
    by_cases h : n < 10
    · rw [Lib.nDigits_small h]
      simp
      omega
    · rw [Lib.nDigits_big h, Nat.add_sub_cancel]
      have h1 := ih (n / 10) (by omega) (by omega)
      have h2 := Lib.nDigits_pos (n / 10)
      obtain ⟨k, hk⟩ : ∃ k, Lib.nDigits (n / 10) = k + 1 := ⟨Lib.nDigits (n / 10) - 1, by omega⟩
      rw [hk] at h1 ⊢
      rw [Nat.add_sub_cancel] at h1
      rw [Nat.pow_succ]
      omega
/-- What a number is, times a power of ten that all have. -/
def mag (n : Nat) (E : Int) : Nat := n * 10 ^ (E + 1200).toNat
theorem mag_lt {n m : Nat} {E F : Int} (hE : -1200 ≤ E) (hF : -1200 ≤ F) (hm : m ≠ 0) (h : (Lib.nDigits n : Int) + E < (Lib.nDigits m : Int) + F) : mag n E < mag m F := by
  have h1 := Lib.lt_pow_nDigits n
  have h2 := pow_le_digits m hm
  have h3 := Lib.nDigits_pos m
  unfold mag
  have hp : 0 < 10 ^ (E + 1200).toNat := Nat.pow_pos (by decide)
  refine Nat.lt_of_lt_of_le (Nat.mul_lt_mul_of_pos_right h1 hp) ?_
  refine Nat.le_trans ?_ (Nat.mul_le_mul_right _ h2)
  rw [← Nat.pow_add, ← Nat.pow_add]
  exact Nat.pow_le_pow_right (by decide) (by omega)
theorem mag_eq {n m : Nat} {E F : Int} (hE : -1200 ≤ E) (hF : -1200 ≤ F) (h : (Lib.nDigits n : Int) + E = (Lib.nDigits m : Int) + F) :
    cmpN (n * 10 ^ (max (Lib.nDigits n) (Lib.nDigits m) - Lib.nDigits n)) (m * 10 ^ (max (Lib.nDigits n) (Lib.nDigits m) - Lib.nDigits m)) = cmpN (mag n E) (mag m F) := by
  unfold mag
  generalize Lib.nDigits n = p at *
  generalize Lib.nDigits m = q at *
  have hp : 0 < 10 ^ ((p : Int) + E + 1200).toNat := Nat.pow_pos (by decide)
  have hq : 0 < 10 ^ (max p q) := Nat.pow_pos (by decide)
  rw [← cmpN_mul _ _ hp, ← cmpN_mul (n * _) (m * _) hq]
  clear hp hq
  rw [Nat.mul_assoc, Nat.mul_assoc, Nat.mul_assoc, Nat.mul_assoc, ← Nat.pow_add, ← Nat.pow_add, ← Nat.pow_add, ← Nat.pow_add]
  rw [show max p q - p + ((p : Int) + E + 1200).toNat = (E + 1200).toNat + max p q by omega, show max p q - q + ((p : Int) + E + 1200).toNat = (F + 1200).toNat + max p q by omega]
theorem size_digits (n : Nat) : (ByteArray.mk (Lib.decDigits n).toArray).size = Lib.nDigits n := by
  rw [← dlen]
  exact Lib.decDigits_length n
theorem digits_of {n : Nat} (h : (lim n).length ≤ 90) : nat_Digits.f (lim n) = some ⟨(Lib.decDigits n).toArray⟩ := by
  unfold nat_Digits.f
  rw [if_pos ⟨lim_ok n, by omega⟩, val_lim]
theorem nDigits_le {n : Nat} (h : (lim n).length ≤ 90) : Lib.nDigits n ≤ 900 := by
  by_cases h0 : n = 0
  · subst h0
    rw [Lib.nDigits_small (by decide)]
    decide
  · have h1 : 0 < (lim n).length := Nat.pos_of_ne_zero fun h => h0 ((lim_len_zero n).1 h)
    have h2 := digits_lim (lim_ok n) h1
    rw [val_lim, Lib.decDigits_length] at h2
    omega
theorem repeat_zeros {k : Int} (h0 : 0 ≤ k) (h : k ≤ 1099511627776) : strings_Repeat.f ⟨#[48]⟩ k = some ⟨(List.replicate k.toNat 48).toArray⟩ := by
  unfold strings_Repeat.f
  have hs : (ByteArray.mk #[48]).size = 1 := rfl
  rw [if_pos ⟨h0, by omega, by rw [hs]; omega⟩]
  rw [show (ByteArray.mk #[48]).data.toList = [48] from rfl, rep_zeros]
theorem num_size_eq {n m : Nat} {E F : Int} {a b : Bool} (hn : GoodNum a n E) (hm : GoodNum b m F) (n0 : n ≠ 0) (m0 : m ≠ 0) (na nb : Bool) : num_size.f na (lim n) E nb (lim m) F = some (cmpN (mag n E) (mag m F)) := by
  have e1 := hn.lo
  have e2 := hn.hi
  have f1 := hm.lo
  have f2 := hm.hi
  have l1 := nDigits_le hn.limbs
  have l2 := nDigits_le hm.limbs
  unfold num_size.f
  rw [digits_of hn.limbs, digits_of hm.limbs]
  simp only [Option.bind_some, size_digits, cmp_int]
  rw [wrap64_ok (by omega) (by omega), wrap64_ok (by omega) (by omega)]
  by_cases h1 : (Lib.nDigits n : Int) + E < (Lib.nDigits m : Int) + F
  · have h2 := mag_lt (n := n) hn.lo hm.lo m0 h1
    rw [show cmp3 ((Lib.nDigits n : Int) + E) ((Lib.nDigits m : Int) + F) = -1 from if_pos h1, show cmpN (mag n E) (mag m F) = -1 from if_pos h2]
    rfl
  · by_cases h3 : (Lib.nDigits m : Int) + F < (Lib.nDigits n : Int) + E
    · have h2 := mag_lt (n := m) hm.lo hn.lo n0 h3
      rw [show cmp3 ((Lib.nDigits n : Int) + E) ((Lib.nDigits m : Int) + F) = 1 by unfold cmp3; rw [if_neg h1, if_pos h3], show cmpN (mag n E) (mag m F) = 1 by unfold cmpN; rw [if_neg (by omega), if_pos h2]]
      rfl
    · have he := mag_eq (n := n) (m := m) hn.lo hm.lo (by omega)
      rw [show cmp3 ((Lib.nDigits n : Int) + E) ((Lib.nDigits m : Int) + F) = 0 by unfold cmp3; rw [if_neg h1, if_neg h3], if_pos rfl]
      rw [mx_nat, wrap64_ok (by omega) (by omega), wrap64_ok (by omega) (by omega)]
      rw [repeat_zeros (by omega) (by omega), repeat_zeros (by omega) (by omega)]
      have z1 : (ByteArray.mk (List.replicate (((max (Lib.nDigits n) (Lib.nDigits m) : Nat) : Int) - (Lib.nDigits n : Int)).toNat (48 : UInt8)).toArray).size ≤ 1800 := by
        rw [← dlen]
        simp only [List.length_replicate]
        omega
      have z2 : (ByteArray.mk (List.replicate (((max (Lib.nDigits n) (Lib.nDigits m) : Nat) : Int) - (Lib.nDigits m : Int)).toNat (48 : UInt8)).toArray).size ≤ 1800 := by
        rw [← dlen]
        simp only [List.length_replicate]
        omega
      simp only [Option.bind_some]
      rw [if_pos (by omega), if_pos (by omega)]
      unfold strings_Compare.f
      simp only [Option.bind_some]
      rw [append_list, append_list]
      congr 1
      rw [compare_digits _ _ 0 ?_ ?_ ?_]
      · rw [← he]
        have d1 := dec_shift (Lib.decDigits n) n (by rw [decFrom_digits]; simp) ((((max (Lib.nDigits n) (Lib.nDigits m) : Nat) : Int) - (Lib.nDigits n : Int)).toNat)
        have d2 := dec_shift (Lib.decDigits m) m (by rw [decFrom_digits]; simp) ((((max (Lib.nDigits n) (Lib.nDigits m) : Nat) : Int) - (Lib.nDigits m : Int)).toNat)
        unfold dec at d1 d2
        rw [d1, d2]
        congr 3 <;> omega
      · simp only [List.length_append, List.length_replicate, Lib.decDigits_length]
        omega
      · intro c hc
        rcases List.mem_append.1 hc with hc | hc
        · exact dig_digits n c hc
        · exact dig_zeros _ c hc
      · intro c hc
        rcases List.mem_append.1 hc with hc | hc
        · exact dig_digits m c hc
        · exact dig_zeros _ c hc
def sV (neg : Bool) (n : Nat) : Int := if neg = true then -1 else if n = 0 then 0 else 1
theorem num_sign_eq (neg : Bool) (n : Nat) (E : Int) : num_sign.f neg (lim n) E = some (sV neg n) := by
  unfold num_sign.f sV
  by_cases h0 : n = 0
  · subst h0
    rw [lim_zero]
    cases neg <;> rfl
  · have h1 : 0 < (lim n).length := Nat.pos_of_ne_zero fun h => h0 ((lim_len_zero n).1 h)
    have c1 : ((lim n).length : Int) > 0 := by omega
    cases neg
    · simp only [Bool.false_eq_true, if_false, c1, if_true, h0]
    · rfl
/-- What a number is, times a power of ten that all have, with its sign. -/
def V (neg : Bool) (n : Nat) (E : Int) : Int := if neg = true then -((mag n E : Nat) : Int) else ((mag n E : Nat) : Int)
theorem mag_zero (E : Int) : mag 0 E = 0 := Nat.zero_mul _
theorem mag_pos {n : Nat} (h : n ≠ 0) (E : Int) : 0 < mag n E := Nat.mul_pos (by omega) (Nat.pow_pos (by decide))
theorem sV_cmp {a b : Bool} {n m : Nat} {E F : Int} (hn : GoodNum a n E) (hm : GoodNum b m F) :
    cmp3 (V a n E) (V b m F) = if cmp3 (sV a n) (sV b m) = 0 then (if sV a n = 0 then 0 else sV a n * cmpN (mag n E) (mag m F)) else cmp3 (sV a n) (sV b m) := by
  have z1 := fun h => (hn.zero h).1
  have z2 := fun h => (hm.zero h).1
  have p1 := fun h => mag_pos (n := n) h E
  have p2 := fun h => mag_pos (n := m) h F
  have q1 := mag_zero E
  have q2 := mag_zero F
  unfold V sV cmp3 cmpN
  by_cases h1 : n = 0
  · obtain rfl := z1 h1
    subst h1
    rw [q1]
    by_cases h2 : m = 0
    · obtain rfl := z2 h2
      subst h2
      rw [q2]
      rfl
    · have := p2 h2
      cases b
      · simp [h2]
        omega
      · simp [h2]
        omega
  · have := p1 h1
    by_cases h2 : m = 0
    · obtain rfl := z2 h2
      subst h2
      rw [q2]
      cases a
      · simp [h1]
        omega
      · simp [h1]
        omega
    · have := p2 h2
      generalize mag n E = x at *
      generalize mag m F = y at *
      cases a <;> cases b
      · simp [h1, h2]
      · simp [h1, h2]
        omega
      · simp [h1, h2]
        omega
      · simp only [if_true, Int.lt_irrefl, if_false]
        rw [if_neg (show ¬ ((-1 : Int) = 0) by decide)]
        by_cases c1 : x < y
        · rw [if_neg (by omega), if_pos (by omega), if_pos c1]; rfl
        · by_cases c2 : y < x
          · rw [if_pos (by omega), if_neg c1, if_pos c2]; rfl
          · rw [if_neg (by omega), if_neg (by omega), if_neg c1, if_neg c2]; rfl
theorem cmp3_one (x y : Int) : -1 ≤ cmp3 x y ∧ cmp3 x y ≤ 1 := by unfold cmp3; (repeat' split) <;> omega
theorem cmpN_one (x y : Nat) : -1 ≤ cmpN x y ∧ cmpN x y ≤ 1 := by unfold cmpN; (repeat' split) <;> omega
theorem sV_one (a : Bool) (n : Nat) : sV a n = -1 ∨ sV a n = 0 ∨ sV a n = 1 := by unfold sV; (repeat' split) <;> omega
theorem sV_zero {a : Bool} {n : Nat} {E : Int} (h : GoodNum a n E) : sV a n = 0 ↔ n = 0 := by
  unfold sV
  by_cases h0 : n = 0
  · obtain ⟨rfl, rfl⟩ := h.zero h0
    subst h0
    simp
  · cases a <;> simp [h0]
theorem num_cmp_good {a b : Bool} {n m : Nat} {E F : Int} (hn : GoodNum a n E) (hm : GoodNum b m F) : Ev (fun k => num_Cmp.f k a (lim n) E b (lim m) F) (cmp3 (V a n E) (V b m F)) := by
  have o1 := num_of_eq (lim_ok n) (by have := hn.limbs; omega) a E
  have o2 := num_of_eq (lim_ok m) (by have := hm.limbs; omega) b F
  rw [of_good hn] at o1
  rw [of_good hm] at o2
  refine Ev.congr (fun k => rfl) (Ev.bind o1 (Ev.bind o2 ?_))
  simp only [num_sign_eq, Option.bind_some, cmp_int]
  rw [sV_cmp hn hm]
  by_cases h0 : cmp3 (sV a n) (sV b m) = 0
  · simp only [h0, if_true]
    by_cases h1 : sV a n = 0
    · rw [if_pos h1]
      simp only [h1]
      exact Ev.step (f := fun _ => some 0) (fun k => by simp only [num_Cmp.j0]; rfl) (Ev.now _)
    · rw [if_neg h1]
      have n0 : n ≠ 0 := fun h => h1 ((sV_zero hn).2 h)
      have hs : sV b m = sV a n := by
        unfold cmp3 at h0
        split at h0
        · omega
        · split at h0 <;> omega
      have m0 : m ≠ 0 := fun h => h1 (by rw [← hs]; exact (sV_zero hm).2 h)
      have hz := num_size_eq hn hm n0 m0 a b
      have hb : (sV a n == 0) = false := by simpa using h1
      have hw : wrap64 (sV a n * cmpN (mag n E) (mag m F)) = sV a n * cmpN (mag n E) (mag m F) := by
        have := cmpN_one (mag n E) (mag m F)
        rcases sV_one a n with h | h | h <;> rw [h] <;> exact wrap64_ok (by omega) (by omega)
      refine Ev.step (f := fun _ => some (sV a n * cmpN (mag n E) (mag m F))) (fun k => ?_) (Ev.now _)
      simp only [num_Cmp.j0, hb, Bool.false_eq_true, if_false, num_sign_eq, Option.bind_some, hz, hw]
  · simp only [h0, if_false]
    exact Ev.step (f := fun _ => some (cmp3 (sV a n) (sV b m))) (fun k => by simp only [num_Cmp.j0, if_true]) (Ev.now _)
theorem mag_inj {n m : Nat} {E F : Int} (hn : n % 10 ≠ 0) (hm : m % 10 ≠ 0) (hE : -1200 ≤ E) (hF : -1200 ≤ F) (h : mag n E = mag m F) : n = m ∧ E = F := by
  have h1 := tz_shift hn (E + 1200).toNat
  have h2 := tz_shift hm (F + 1200).toNat
  unfold mag at h
  rw [h, h2] at h1
  have h3 := Prod.mk.inj h1
  exact ⟨h3.1.symm, by have := h3.2; omega⟩
theorem V_inj {a b : Bool} {n m : Nat} {E F : Int} (hn : GoodNum a n E) (hm : GoodNum b m F) (h : V a n E = V b m F) : a = b ∧ n = m ∧ E = F := by
  have p1 := fun h => mag_pos (n := n) h E
  have p2 := fun h => mag_pos (n := m) h F
  by_cases h1 : n = 0
  · by_cases h2 : m = 0
    · obtain ⟨rfl, rfl⟩ := hn.zero h1
      obtain ⟨rfl, rfl⟩ := hm.zero h2
      exact ⟨rfl, by omega, rfl⟩
    · have := p2 h2
      obtain ⟨rfl, rfl⟩ := hn.zero h1
      subst h1
      unfold V at h
      rw [mag_zero] at h
      cases b <;> simp at h <;> omega
  · have := p1 h1
    by_cases h2 : m = 0
    · obtain ⟨rfl, rfl⟩ := hm.zero h2
      subst h2
      unfold V at h
      rw [mag_zero] at h
      cases a <;> simp at h <;> omega
    · have := p2 h2
      unfold V at h
      have he : a = b ∧ mag n E = mag m F := by
        cases a <;> cases b <;> simp at h ⊢ <;> omega
      exact ⟨he.1, mag_inj (hn.ten h1) (hm.ten h2) hn.lo hm.lo he.2⟩
theorem cmp3_zero (x y : Int) : cmp3 x y = 0 ↔ x = y := by
  unfold cmp3
  constructor
  · intro h
    split at h
    · omega
    · split at h <;> omega
  · rintro rfl
    simp
theorem slices_equal {a b : List Int} (ha : a.length ≤ 1099511627776) : Ev (fun k => slices_Equal_uint32_uint32.f k a b) (decide (a = b)) := by
  unfold slices_Equal_uint32_uint32.f
  by_cases h : a.length = b.length
  · have hlen : (a.length : Int) = (b.length : Int) := by omega
    simp only [hlen, if_true]
    rw [← hlen]
    have key : ∀ d i : Nat, i + d = a.length → a.take i = b.take i → Ev (fun k => slices_Equal_uint32_uint32.l0 k a b (a.length : Int) (i : Int)) (decide (a = b)) := by
      intro d
      induction d with
      | zero =>
        intro i hi ht
        have c0 : ¬ (i : Int) < (a.length : Int) := by omega
        rw [List.take_of_length_le (by omega), List.take_of_length_le (by omega)] at ht
        rw [decide_eq_true ht]
        exact Ev.step (f := fun _ => some true) (fun k => by simp only [slices_Equal_uint32_uint32.l0, c0, if_false]) (Ev.now _)
      | succ d ih =>
        intro i hi ht
        have c0 : (i : Int) < (a.length : Int) := by omega
        have c1 : (0 : Int) ≤ (i : Int) := by omega
        have c2 : (i : Int) < (b.length : Int) := by omega
        have hw : wrap64 ((i : Int) + 1) = ((i + 1 : Nat) : Int) := by rw [wrap64_ok (by omega) (by omega)]; omega
        by_cases he : rd a i = rd b i
        · refine Ev.step (f := fun k => slices_Equal_uint32_uint32.l0 k a b (a.length : Int) ((i + 1 : Nat) : Int)) (fun k => by simp only [slices_Equal_uint32_uint32.l0, c0, c1, c2, he, if_true, hw]) (ih (i + 1) (by omega) ?_)
          rw [take_snoc' a i (by omega), take_snoc' b i (by omega), ht, he]
        · have hne : ¬ a = b := fun h => he (by rw [h])
          rw [decide_eq_false hne]
          exact Ev.step (f := fun _ => some false) (fun k => by simp only [slices_Equal_uint32_uint32.l0, c0, c1, c2, he, if_true, if_false]) (Ev.now _)
    exact key a.length 0 (by omega) rfl
  · have hlen : ¬ (a.length : Int) = (b.length : Int) := by omega
    have hne : ¬ a = b := fun h' => h (by rw [h'])
    simp only [hlen, if_false]
    rw [decide_eq_false hne]
    exact Ev.now _
theorem num_same_good {a b : Bool} {n m : Nat} {E F : Int} (hn : GoodNum a n E) (hm : GoodNum b m F) : Ev (fun k => num_Same.f k a (lim n) E b (lim m) F) (decide (V a n E = V b m F)) := by
  have o1 := num_of_eq (lim_ok n) (by have := hn.limbs; omega) a E
  have o2 := num_of_eq (lim_ok m) (by have := hm.limbs; omega) b F
  rw [of_good hn] at o1
  rw [of_good hm] at o2
  refine Ev.congr (fun k => rfl) (Ev.bind o1 (Ev.bind o2 ?_))
  have hv : V a n E = V b m F ↔ a = b ∧ E = F ∧ lim n = lim m := by
    constructor
    · intro h
      obtain ⟨h1, h2, h3⟩ := V_inj hn hm h
      exact ⟨h1, h3, by rw [h2]⟩
    · rintro ⟨rfl, rfl, h⟩
      rw [lim_inj h]
  by_cases h1 : a = b
  · have c1 : (a == b) = true := by simpa using h1
    simp only [c1, if_true]
    by_cases h2 : E = F
    · simp only [h2, if_true]
      refine Ev.congr (f := fun k => (slices_Equal_uint32_uint32.f k (lim n) (lim m)).bind fun t => some t) (fun k => rfl) (Ev.bind (slices_equal (by have := hn.limbs; omega)) ?_)
      have hq : V a n F = V b m F ↔ lim n = lim m := by
        rw [h2] at hv
        exact ⟨fun h => (hv.1 h).2.2, fun h => hv.2 ⟨h1, rfl, h⟩⟩
      rw [show decide (V a n F = V b m F) = decide (lim n = lim m) from decide_eq_decide.2 hq]
      exact Ev.now _
    · simp only [h2, if_false]
      rw [decide_eq_false (fun h => h2 (hv.1 h).2.1)]
      exact Ev.now _
  · have c1 : ¬ (a == b) = true := by simpa using h1
    simp only [c1, if_false]
    rw [decide_eq_false (fun h => h1 (hv.1 h).1)]
    exact Ev.now _
end Go.Proofs.YtmkdcokdilllcaaDoor.X
-- A walk, written by a program of this session (xp.py).
namespace Go.Proofs.YtmkdcokdilllcaaDoor.X
open Go.RowKit Go.Proofs.YtmkdcokdilllcaaDoorW.PrintWords Go.Proofs.YtmkdcokdilllcaaDoorW.PrintLast Go.Proofs.YtmkdcokdilllcaaDoorW.PrintMore
attribute [local go_sem] max2_int min2_int max_two min_two max_three min_three max_four min_four
set_option linter.unusedVariables false
set_option linter.unusedSimpArgs false

/-! ### num_science: function 36 -/
def num_science.j0 : Nat → Int → ByteArray → Option (ByteArray)
  | 0, _, _ => none
  | k + 1, x1, x5 => if x1 > 0 then (if x5.size + 2 ≤ 9223372036854775807 then ((strconv_Itoa_62.f (wrap64 (x1 - 1))).bind fun t201 => (if (x5 ++ (⟨#[101, 43]⟩ : ByteArray)).size + t201.size ≤ 9223372036854775807 then (some ((x5 ++ (⟨#[101, 43]⟩ : ByteArray)) ++ t201)) else (none))) else (none)) else (if x5.size + 2 ≤ 9223372036854775807 then ((strconv_Itoa_62.f (wrap64 (1 - x1))).bind fun t202 => (if (x5 ++ (⟨#[101, 45]⟩ : ByteArray)).size + t202.size ≤ 9223372036854775807 then (some ((x5 ++ (⟨#[101, 45]⟩ : ByteArray)) ++ t202)) else (none))) else (none))
def num_science.f (k : Nat) (a0 : ByteArray) (a1 : Int) : Option (ByteArray) := if 0 ≤ 1 then (if 1 ≤ (a0.size : Int) then (if (a0.size : Int) > 1 then (if 1 + (a0.extract 1 a0.size).size ≤ 9223372036854775807 then (if (a0.extract 0 1).size + ((⟨#[46]⟩ : ByteArray) ++ (a0.extract 1 a0.size)).size ≤ 9223372036854775807 then (num_science.j0 k a1 ((a0.extract 0 1) ++ ((⟨#[46]⟩ : ByteArray) ++ (a0.extract 1 a0.size)))) else (none)) else (none)) else (num_science.j0 k a1 (a0.extract 0 1))) else (none)) else (none)
set_option maxHeartbeats 8000000 in
set_option maxRecDepth 100000 in
theorem num_science.calls (k : Nat) (a0 : ByteArray) (a1 : Int) (r : ByteArray) (w : World) (hL : Laid w) (h : num_science.f k a0 a1 = some r) :
    Calls Tryd.prog 36 #[.string a0, .int .i64 a1] w fun e w' => e = .returned (.string r) ∧ Below w.heap.size w w' := by
  replace hL := Aside0.mk hL
  have HB := Aside0.mk (Below.refl w.heap.size w)
  have H : (if 0 ≤ 1 then (if 1 ≤ (a0.size : Int) then (if (a0.size : Int) > 1 then (if 1 + (a0.extract 1 a0.size).size ≤ 9223372036854775807 then (if (a0.extract 0 1).size + ((⟨#[46]⟩ : ByteArray) ++ (a0.extract 1 a0.size)).size ≤ 9223372036854775807 then (num_science.j0 k a1 ((a0.extract 0 1) ++ ((⟨#[46]⟩ : ByteArray) ++ (a0.extract 1 a0.size)))) else (none)) else (none)) else (num_science.j0 k a1 (a0.extract 0 1))) else (none)) else (none)) = some r := h
  clear h
  by_cases c3 : 0 ≤ 1
  · rw [if_pos c3] at H
    have c3b0 := eq_true c3
    have c3b1 : decide (0 ≤ 1) = true := decide_eq_true c3
    clear c3
    by_cases c4 : 1 ≤ (a0.size : Int)
    · rw [if_pos c4] at H
      have c4b0 := eq_true c4
      have c4b1 : decide (1 ≤ (a0.size : Int)) = true := decide_eq_true c4
      clear c4
      have HC5 := Aside0.mk H
      clear H
      go_enter Tryd.func36, Tryd.ntmps36
      go_upto_if 10 with (fail)
      go_cut [5] (fun v5 wc => ∃ (kq : Nat) (x5_4 : ByteArray), v5 = .string x5_4 ∧ Aside0 (num_science.j0 kq a1 x5_4 = some r) ∧ Aside0 (kq ≤ k) ∧ Aside0 (Below w.heap.size w wc))
      case first =>
        have H := HC5.out
        clear HC5
        by_cases c6 : (a0.size : Int) > 1
        · rw [if_pos c6] at H
          have c6b0 : decide (1 < (a0.size : Int)) = true := decide_eq_true c6
          have c6b1 : decide (1 < a0.size) = true := decide_eq_true (by omega)
          clear c6
          (first | rw [c6b0] | (simp only [i64_w, i32_w]; rw [c6b0]) | skip)
          have c7b0 := eq_true (of_decide_eq_true (by first | (with_reducible assumption) | assumption) : 1 ≤ (a0.size : Int))
          by_cases c8 : 1 + (a0.extract 1 a0.size).size ≤ 9223372036854775807
          · rw [if_pos c8] at H
            have c8b0 := eq_true c8
            have c8b1 : decide (1 + (a0.extract 1 a0.size).size ≤ 9223372036854775807) = true := decide_eq_true c8
            try have c8b2 : (9223372036854775807 < 1 + (a0.extract 1 a0.size).size) = False := eq_false (Nat.not_lt.2 c8)
            by_cases c9 : (a0.extract 0 1).size + ((⟨#[46]⟩ : ByteArray) ++ (a0.extract 1 a0.size)).size ≤ 9223372036854775807
            · rw [if_pos c9] at H
              have c9b0 := eq_true c9
              have c9b1 : decide ((a0.extract 0 1).size + ((⟨#[46]⟩ : ByteArray) ++ (a0.extract 1 a0.size)).size ≤ 9223372036854775807) = true := decide_eq_true c9
              try have c9b2 : (9223372036854775807 < (a0.extract 0 1).size + ((⟨#[46]⟩ : ByteArray) ++ (a0.extract 1 a0.size)).size) = False := eq_false (Nat.not_lt.2 c9)
              have H' := Aside0.mk H
              clear H
              go_wp2
              try (any_goals (with_reducible refine halt_absurd ?_; (try simp only [ByteArray.size_extract, ByteArray.size_append, ba_size_mk, List.size_toArray, List.length_cons, List.length_nil] at *) <;> omega))
              go_meet
              case rel => exact ⟨_, ((a0.extract 0 1) ++ ((⟨#[46]⟩ : ByteArray) ++ (a0.extract 1 a0.size))), (by first | rfl | (simp; done) | (simp [*]; done)), H', ⟨by first | omega | exact Nat.le_refl _⟩, ⟨by repeat (first | (with_reducible first | exact HB.out | apply below_alloc | apply pw_below_drewN | apply below_drew1) | exact HB.out)⟩⟩
            · rw [if_neg c9] at H
              exact absurd H (by simp)
          · rw [if_neg c8] at H
            exact absurd H (by simp)
        · rw [if_neg c6] at H
          have c6b0 : decide (1 < (a0.size : Int)) = false := decide_eq_false c6
          have c6b1 : decide (1 < a0.size) = false := decide_eq_false (by omega)
          clear c6
          (first | rw [c6b0] | (simp only [i64_w, i32_w]; rw [c6b0]) | skip)
          have H' := Aside0.mk H
          clear H
          go_wp2
          try (any_goals (with_reducible refine halt_absurd ?_; (try simp only [ByteArray.size_extract, ByteArray.size_append, ba_size_mk, List.size_toArray, List.length_cons, List.length_nil] at *) <;> omega))
          go_meet
          case rel => exact ⟨_, (a0.extract 0 1), (by first | rfl | (simp; done) | (simp [*]; done)), H', ⟨by first | omega | exact Nat.le_refl _⟩, ⟨by repeat (first | (with_reducible first | exact HB.out | apply below_alloc | apply pw_below_drewN | apply below_drew1) | exact HB.out)⟩⟩
      case rest =>
        clear HC5
        try clear p2
        try clear c3
        try clear c3b0
        try clear c3b1
        try clear c4
        try clear c4b0
        try clear c4b1
        try clear c6
        try clear c6b0
        try clear c6b1
        try clear c7
        try clear c7b0
        try clear c8
        try clear c8b0
        try clear c8b1
        try clear c8b2
        try clear c9
        try clear c9b0
        try clear c9b1
        try clear c9b2
        obtain ⟨kq, x5_4, rfl, HA, HJ4, HB⟩ := hcut
        cases kq with
        | zero => exact absurd HA.out (by simp [num_science.j0])
        | succ kj4 =>
          have H := HA.out
          clear HA
          simp only [num_science.j0] at H
          by_cases c10 : a1 > 0
          · rw [if_pos c10] at H
            have c10b0 : decide (0 < a1) = true := decide_eq_true c10
            clear c10
            by_cases c11 : x5_4.size + 2 ≤ 9223372036854775807
            · rw [if_pos c11] at H
              have c11b0 := eq_true c11
              have c11b1 : decide (x5_4.size + 2 ≤ 9223372036854775807) = true := decide_eq_true c11
              try have c11b2 : (9223372036854775807 < x5_4.size + 2) = False := eq_false (Nat.not_lt.2 c11)
              replace H := Option.bind_eq_some_iff.mp H
              obtain ⟨t201, A120, H⟩ := H
              replace H : (if (x5_4 ++ (⟨#[101, 43]⟩ : ByteArray)).size + t201.size ≤ 9223372036854775807 then (some ((x5_4 ++ (⟨#[101, 43]⟩ : ByteArray)) ++ t201)) else (none)) = some r := H
              have A12 := Aside0.mk A120
              clear A120
              by_cases c13 : (x5_4 ++ (⟨#[101, 43]⟩ : ByteArray)).size + t201.size ≤ 9223372036854775807
              · rw [if_pos c13] at H
                have c13b0 := eq_true c13
                have c13b1 : decide ((x5_4 ++ (⟨#[101, 43]⟩ : ByteArray)).size + t201.size ≤ 9223372036854775807) = true := decide_eq_true c13
                try have c13b2 : (9223372036854775807 < (x5_4 ++ (⟨#[101, 43]⟩ : ByteArray)).size + t201.size) = False := eq_false (Nat.not_lt.2 c13)
                obtain rfl := Option.some.inj H
                go_wp2_with (first | ((with_reducible refine gate_callee (f := 62) rfl ?_); refine goesL_ (some 22) rfl rfl Tryd.func62 (by kernel_rfl) rfl #[.int .i64 (wrap64 (a1 - 1))] rfl (by (try simp only [List.map_toArray, List.map_cons, List.map_nil]); first | done | rfl | (simp only [List.length_drop, List.length_take]; rfl)) ?_; (with_reducible refine (strconv_Itoa_62.calls (wrap64 (a1 - 1)) t201 _ ?side1 A12.out).mono ?_); (case side1 => first | exact hL.out | exact hL.out.drewN _ | exact hL.out.drew | exact hL.out.below (by repeat (first | (with_reducible first | exact HB.out | apply below_alloc | apply pw_below_drewN | apply below_drew1) | exact HB.out))); rintro e w14 ⟨rfl, hb⟩; refine ⟨_, rfl, ?_⟩; have n0_ := Aside0.mk (below_step (by repeat (first | (with_reducible first | exact HB.out | apply below_alloc | apply pw_below_drewN | apply below_drew1) | exact HB.out)) hb); clear HB; have HB := n0_; clear n0_; (try clear hb); (try clear hb2); (try clear hk); (try clear hi)))
                try (any_goals (with_reducible refine halt_absurd ?_; (try simp only [ByteArray.size_extract, ByteArray.size_append, ba_size_mk, List.size_toArray, List.length_cons, List.length_nil] at *) <;> omega))
                go_ret
                exact ⟨by first | rfl | (simp [errW_none, errW_some] <;> rfl) | (simp [*, errW_none, errW_some] <;> rfl), by repeat (first | (with_reducible first | exact HB.out | apply below_alloc | apply pw_below_drewN | apply below_drew1) | exact HB.out)⟩
              · rw [if_neg c13] at H
                exact absurd H (by simp)
            · rw [if_neg c11] at H
              exact absurd H (by simp)
          · rw [if_neg c10] at H
            have c10b0 : decide (0 < a1) = false := decide_eq_false c10
            clear c10
            by_cases c15 : x5_4.size + 2 ≤ 9223372036854775807
            · rw [if_pos c15] at H
              have c15b0 := eq_true c15
              have c15b1 : decide (x5_4.size + 2 ≤ 9223372036854775807) = true := decide_eq_true c15
              try have c15b2 : (9223372036854775807 < x5_4.size + 2) = False := eq_false (Nat.not_lt.2 c15)
              replace H := Option.bind_eq_some_iff.mp H
              obtain ⟨t202, A160, H⟩ := H
              replace H : (if (x5_4 ++ (⟨#[101, 45]⟩ : ByteArray)).size + t202.size ≤ 9223372036854775807 then (some ((x5_4 ++ (⟨#[101, 45]⟩ : ByteArray)) ++ t202)) else (none)) = some r := H
              have A16 := Aside0.mk A160
              clear A160
              by_cases c17 : (x5_4 ++ (⟨#[101, 45]⟩ : ByteArray)).size + t202.size ≤ 9223372036854775807
              · rw [if_pos c17] at H
                have c17b0 := eq_true c17
                have c17b1 : decide ((x5_4 ++ (⟨#[101, 45]⟩ : ByteArray)).size + t202.size ≤ 9223372036854775807) = true := decide_eq_true c17
                try have c17b2 : (9223372036854775807 < (x5_4 ++ (⟨#[101, 45]⟩ : ByteArray)).size + t202.size) = False := eq_false (Nat.not_lt.2 c17)
                obtain rfl := Option.some.inj H
                go_wp2_with (first | ((with_reducible refine gate_callee (f := 62) rfl ?_); refine goesL_ (some 28) rfl rfl Tryd.func62 (by kernel_rfl) rfl #[.int .i64 (wrap64 (1 - a1))] rfl (by (try simp only [List.map_toArray, List.map_cons, List.map_nil]); first | done | rfl | (simp only [List.length_drop, List.length_take]; rfl)) ?_; (with_reducible refine (strconv_Itoa_62.calls (wrap64 (1 - a1)) t202 _ ?side1 A16.out).mono ?_); (case side1 => first | exact hL.out | exact hL.out.drewN _ | exact hL.out.drew | exact hL.out.below (by repeat (first | (with_reducible first | exact HB.out | apply below_alloc | apply pw_below_drewN | apply below_drew1) | exact HB.out))); rintro e w18 ⟨rfl, hb⟩; refine ⟨_, rfl, ?_⟩; have n0_ := Aside0.mk (below_step (by repeat (first | (with_reducible first | exact HB.out | apply below_alloc | apply pw_below_drewN | apply below_drew1) | exact HB.out)) hb); clear HB; have HB := n0_; clear n0_; (try clear hb); (try clear hb2); (try clear hk); (try clear hi)))
                try (any_goals (with_reducible refine halt_absurd ?_; (try simp only [ByteArray.size_extract, ByteArray.size_append, ba_size_mk, List.size_toArray, List.length_cons, List.length_nil] at *) <;> omega))
                go_ret
                exact ⟨by first | rfl | (simp [errW_none, errW_some] <;> rfl) | (simp [*, errW_none, errW_some] <;> rfl), by repeat (first | (with_reducible first | exact HB.out | apply below_alloc | apply pw_below_drewN | apply below_drew1) | exact HB.out)⟩
              · rw [if_neg c17] at H
                exact absurd H (by simp)
            · rw [if_neg c15] at H
              exact absurd H (by simp)
    · rw [if_neg c4] at H
      exact absurd H (by simp)
  · rw [if_neg c3] at H
    exact absurd H (by simp)

end Go.Proofs.YtmkdcokdilllcaaDoor.X
-- A walk, written by a program of this session (xp.py).
namespace Go.Proofs.YtmkdcokdilllcaaDoor.X
open Go.RowKit Go.Proofs.YtmkdcokdilllcaaDoorW.PrintWords Go.Proofs.YtmkdcokdilllcaaDoorW.PrintLast Go.Proofs.YtmkdcokdilllcaaDoorW.PrintMore
attribute [local go_sem] max2_int min2_int max_two min_two max_three min_three max_four min_four
set_option linter.unusedVariables false
set_option linter.unusedSimpArgs false

/-! ### num_Text: function 14 -/
mutual
def num_Text.j0 : Nat → ByteArray → Int → ByteArray → Bool → List Int → Int → Option (ByteArray)
  | 0, _, _, _, _, _, _ => none
  | k + 1, x3, x4, x5, x204000, x204001, x204002 => if x204002 ≥ 0 then (num_Text.j1 k x3 x4 x5 (decide (x4 ≤ 21)) x204000 x204001 x204002) else (num_Text.j1 k x3 x4 x5 false x204000 x204001 x204002)
def num_Text.j1 : Nat → ByteArray → Int → ByteArray → Bool → Bool → List Int → Int → Option (ByteArray)
  | 0, _, _, _, _, _, _, _ => none
  | k + 1, x3, x4, x5, x18, x204000, x204001, x204002 => if x18 = true then (if x5.size + x3.size ≤ 9223372036854775807 then ((strings_Repeat.f (⟨#[48]⟩ : ByteArray) x204002).bind fun t210 => (if (x5 ++ x3).size + t210.size ≤ 9223372036854775807 then (some ((x5 ++ x3) ++ t210)) else (none))) else (none)) else (if x204002 < 0 then (if x4 ≥ 1 then (num_Text.j2 k x3 x4 x5 (decide (x4 ≤ 21))) else (num_Text.j2 k x3 x4 x5 false)) else (num_Text.j2 k x3 x4 x5 false))
def num_Text.j2 : Nat → ByteArray → Int → ByteArray → Bool → Option (ByteArray)
  | 0, _, _, _, _ => none
  | k + 1, x3, x4, x5, x33 => if x33 = true then (if 0 ≤ x4 then (if x4 ≤ (x3.size : Int) then (if x5.size + (x3.extract 0 (x4 : Int).toNat).size ≤ 9223372036854775807 then (if (x5 ++ (x3.extract 0 (x4 : Int).toNat)).size + 1 ≤ 9223372036854775807 then (if ((x5 ++ (x3.extract 0 (x4 : Int).toNat)) ++ (⟨#[46]⟩ : ByteArray)).size + (x3.extract (x4 : Int).toNat x3.size).size ≤ 9223372036854775807 then (some (((x5 ++ (x3.extract 0 (x4 : Int).toNat)) ++ (⟨#[46]⟩ : ByteArray)) ++ (x3.extract (x4 : Int).toNat x3.size))) else (none)) else (none)) else (none)) else (none)) else (none)) else (if x4 ≥ (-5) then (num_Text.j3 k x3 x4 x5 (decide (x4 ≤ 0))) else (num_Text.j3 k x3 x4 x5 false))
def num_Text.j3 : Nat → ByteArray → Int → ByteArray → Bool → Option (ByteArray)
  | 0, _, _, _, _ => none
  | k + 1, x3, x4, x5, x55 => if x55 = true then (if x5.size + 2 ≤ 9223372036854775807 then ((strings_Repeat.f (⟨#[48]⟩ : ByteArray) (wrap64 (-x4))).bind fun t211 => (if (x5 ++ (⟨#[48, 46]⟩ : ByteArray)).size + t211.size ≤ 9223372036854775807 then (if ((x5 ++ (⟨#[48, 46]⟩ : ByteArray)) ++ t211).size + x3.size ≤ 9223372036854775807 then (some (((x5 ++ (⟨#[48, 46]⟩ : ByteArray)) ++ t211) ++ x3)) else (none)) else (none))) else (none)) else ((num_science.f k x3 x4).bind fun t212 => (if x5.size + t212.size ≤ 9223372036854775807 then (some (x5 ++ t212)) else (none)))
end
def num_Text.f (k : Nat) (a0_0 : Bool) (l0_1 : List Int) (a0_2 : Int) : Option (ByteArray) := (num_of.f k a0_0 l0_1 a0_2).bind fun bt204 => ((nat_Digits.f bt204.2.1).bind fun t209 => (if bt204.1 = true then (num_Text.j0 k t209 (wrap64 ((t209.size : Int) + bt204.2.2)) (⟨#[45]⟩ : ByteArray) bt204.1 bt204.2.1 bt204.2.2) else (num_Text.j0 k t209 (wrap64 ((t209.size : Int) + bt204.2.2)) (⟨#[]⟩ : ByteArray) bt204.1 bt204.2.1 bt204.2.2)))
set_option maxHeartbeats 8000000 in
set_option maxRecDepth 100000 in
theorem num_Text.calls (k : Nat) (a0_0 : Bool) (A0_1 : Option Addr) (c0_1 : Nat) (l0_1 : List Int) (a0_2 : Int) (r : ByteArray) (w : World) (hL : Laid w) (hr0_1 : Kd.C (Kd.int .u32) w A0_1 l0_1.length l0_1) (hc0_1 : l0_1.length ≤ c0_1) (h : num_Text.f k a0_0 l0_1 a0_2 = some r) :
    Calls Tryd.prog 14 #[.agg #[.bool a0_0, .slice A0_1 l0_1.length c0_1, .int .i64 a0_2]] w fun e w' => e = .returned (.string r) ∧ Below w.heap.size w w' := by
  replace hL := Aside0.mk hL
  have hu25 := Tryd.underlying25
  have HR0_1 := Aside0.mk hr0_1
  have HC0_1 := Aside0.mk hc0_1
  clear hr0_1 hc0_1
  have HB := Aside0.mk (Below.refl w.heap.size w)
  have H : ((num_of.f k a0_0 l0_1 a0_2).bind fun bt204 => ((nat_Digits.f bt204.2.1).bind fun t209 => (if bt204.1 = true then (num_Text.j0 k t209 (wrap64 ((t209.size : Int) + bt204.2.2)) (⟨#[45]⟩ : ByteArray) bt204.1 bt204.2.1 bt204.2.2) else (num_Text.j0 k t209 (wrap64 ((t209.size : Int) + bt204.2.2)) (⟨#[]⟩ : ByteArray) bt204.1 bt204.2.1 bt204.2.2)))) = some r := h
  clear h
  replace H := Option.bind_eq_some_iff.mp H
  obtain ⟨⟨t204, t205, t208⟩, A20, H⟩ := H
  replace H : ((nat_Digits.f t205).bind fun t209 => (if t204 = true then (num_Text.j0 k t209 (wrap64 ((t209.size : Int) + t208)) (⟨#[45]⟩ : ByteArray) t204 t205 t208) else (num_Text.j0 k t209 (wrap64 ((t209.size : Int) + t208)) (⟨#[]⟩ : ByteArray) t204 t205 t208))) = some r := H
  have A2 := Aside0.mk A20
  clear A20
  replace H := Option.bind_eq_some_iff.mp H
  obtain ⟨t209, A30, H⟩ := H
  replace H : (if t204 = true then (num_Text.j0 k t209 (wrap64 ((t209.size : Int) + t208)) (⟨#[45]⟩ : ByteArray) t204 t205 t208) else (num_Text.j0 k t209 (wrap64 ((t209.size : Int) + t208)) (⟨#[]⟩ : ByteArray) t204 t205 t208)) = some r := H
  have A3 := Aside0.mk A30
  clear A30
  have HC4 := Aside0.mk H
  clear H
  go_enter Tryd.func14, Tryd.ntmps14
  go_upto_if 17 with (first | ((with_reducible refine gate_dst (N := 1) rfl ?_); refine box_event ?hg (N := 1) ?hd (cs := #[.bool a0_0, .slice A0_1 l0_1.length c0_1, .int .i64 a0_2]) (t := 25) ?hr ?_; (case hd => rfl); (case hg => rfl); (case hr => first | (go_simp; done) | (go_simp; rfl) | (go_simp; simp only [x_u32u8, x_u8, x_u32, x_u64, x_mm]; first | done | rfl)); intro gb203 hg w5 hbox hb; have n0_ := Aside0.mk (below_step (by repeat (first | (with_reducible first | exact HB.out | apply below_alloc | apply pw_below_drewN | apply below_drew1) | exact HB.out)) hb); have n1_ := Aside0.mk (hbox); have n2_ := Aside0.mk ((by rw [hg]; exact (below_size (by repeat (first | (with_reducible first | exact HB.out | apply below_alloc | apply pw_below_drewN | apply below_drew1) | exact HB.out))) : w.heap.size ≤ gb203)); have n3_ := Aside0.mk ((by rw [hg]; exact (below_size (by repeat (first | (with_reducible first | exact HB.out | apply below_alloc | apply pw_below_drewN | apply below_drew1) | exact HB.out))) : w.heap.size ≤ gb203)); clear HB; have HB := n0_; have BK203 := n1_; have GW203 := n2_; have GE203 := n3_; clear n0_ n1_ n2_ n3_; clear hb hbox hg; have hcz6_0 : w5.cell? ⟨gb203, 0, none⟩ = some (.bool a0_0) := (blk_cell BK203.out 0).trans rfl; have hcz6_1 : w5.cell? ⟨gb203, 1, none⟩ = some (.slice A0_1 l0_1.length c0_1) := (blk_cell BK203.out 1).trans rfl; have hcz6_2 : w5.cell? ⟨gb203, 2, none⟩ = some (.int .i64 a0_2) := (blk_cell BK203.out 2).trans rfl; have hfz6_0 := blk_frozen BK203.out 0; have hfz6_1 := blk_frozen BK203.out 1; have hfz6_2 := blk_frozen BK203.out 2) | (go_at_call 33; (with_reducible refine (num_of.calls k a0_0 (fun k_ => k_ < w.heap.size) _ _ l0_1 a0_2 t204 t205 t208 _ ?side1 A2.out).mono ?_); (case side1 => exact Kd.V_mk HC0_1.out (Kd.F_below (Kd.C_F (Kd.heap_int .u32) HR0_1.out) (by repeat (first | (with_reducible first | exact HB.out | apply below_alloc | apply pw_below_drewN | apply below_drew1 | refine below_set ?_ GE203.out) | exact HB.out)))); rintro e w7 ⟨v206, rfl, ho0, hb⟩; have n0_ := Aside0.mk (Kd.V_lower (Kd.V_mono (ok' := fun k_ => k_ ≠ gb203) ho0 (fun k_ hk_ => Or.elim hk_ (fun hs_ => fun e_ => Nat.not_le.2 hs_ (by rw [e_]; exact GW203.out)) (fun hn_ => (Kd.freshB (g := gb203) (o := .cells #[.bool a0_0, .slice A0_1 l0_1.length c0_1, .int .i64 a0_2] 25 (0, 0)) (by (with_reducible repeat (first | refine blk_drewN ?_ _ | refine blk_drew ?_ | refine blk_alloc ?_ _)); exact BK203.out) k_ hn_)))) (below_size (by repeat (first | (with_reducible first | exact HB.out | apply below_alloc | apply pw_below_drewN | apply below_drew1 | refine below_set ?_ GE203.out) | exact HB.out)))); have n1_ := Aside0.mk (blk_below (g := gb203) (o := .cells #[.bool a0_0, .slice A0_1 l0_1.length c0_1, .int .i64 a0_2] 25 (0, 0)) (by (with_reducible repeat (first | refine blk_drewN ?_ _ | refine blk_drew ?_ | refine blk_alloc ?_ _)); exact BK203.out) hb); have n2_ := Aside0.mk (below_step (by repeat (first | (with_reducible first | exact HB.out | apply below_alloc | apply pw_below_drewN | apply below_drew1 | refine below_set ?_ GE203.out) | exact HB.out)) hb); clear BK203; clear HB; have HO207 := n0_; have BK203 := n1_; have HB := n2_; clear n0_ n1_ n2_; (try clear hb); (try clear hb2); (try clear hk); (try clear hi); (try clear ho0); have hcz8_0 : w7.cell? ⟨gb203, 0, none⟩ = some (.bool a0_0) := (blk_cell BK203.out 0).trans rfl; have hcz8_1 : w7.cell? ⟨gb203, 1, none⟩ = some (.slice A0_1 l0_1.length c0_1) := (blk_cell BK203.out 1).trans rfl; have hcz8_2 : w7.cell? ⟨gb203, 2, none⟩ = some (.int .i64 a0_2) := (blk_cell BK203.out 2).trans rfl; have hfz8_0 := blk_frozen BK203.out 0; have hfz8_1 := blk_frozen BK203.out 1; have hfz8_2 := blk_frozen BK203.out 2; obtain ⟨Ao9, co9, eo9⟩ := Kd.V_slice HO207.out; subst eo9) | (go_at_call 34; (with_reducible refine (nat_Digits.calls _ _ t205 t209 _ ?side1 ?side2 A3.out).mono ?_); (case side1 => refine (Kd.V_reads' (e := 40) (base := w.heap.size) (ok := fun k_ => k_ ≠ gb203) (n := t205.length) (c := co9) ?_).2.2; exact (by (with_reducible repeat (first | apply Kd.V_alloc | apply Kd.V_drewN | apply Kd.V_drew)); exact (Kd.V_mono (Kd.V_far (p := ⟨gb203, 2, none⟩) (Kd.V_far (p := ⟨gb203, 1, none⟩) (Kd.V_far (p := ⟨gb203, 0, none⟩) (Kd.V_mono HO207.out (fun k_ hk => (⟨hk, hk⟩ : _ ∧ k_ ≠ gb203))) (fun _ hk => hk.2) (.bool t204)) (fun _ hk => hk.2) (.slice Ao9 t205.length co9)) (fun _ hk => hk.2) (.int .i64 t208)) (fun _ h_ => h_.1)))); (case side2 => exact (Kd.V_reads' HO207.out).2.1); rintro e w10 ⟨rfl, hb⟩; have n0_ := Aside0.mk (Kd.V_below (by (with_reducible repeat (first | apply Kd.V_alloc | apply Kd.V_drewN | apply Kd.V_drew)); exact (Kd.V_mono (Kd.V_far (p := ⟨gb203, 2, none⟩) (Kd.V_far (p := ⟨gb203, 1, none⟩) (Kd.V_far (p := ⟨gb203, 0, none⟩) (Kd.V_mono HO207.out (fun k_ hk => (⟨hk, hk⟩ : _ ∧ k_ ≠ gb203))) (fun _ hk => hk.2) (.bool t204)) (fun _ hk => hk.2) (.slice Ao9 t205.length co9)) (fun _ hk => hk.2) (.int .i64 t208)) (fun _ h_ => h_.1))) hb); have n1_ := Aside0.mk (blk_below (g := gb203) (o := .cells #[.bool t204, .slice Ao9 t205.length co9, .int .i64 t208] 25 (0, 0)) (by (with_reducible repeat (first | refine blk_drewN ?_ _ | refine blk_drew ?_ | refine blk_alloc ?_ _)); refine blk_put (cs := #[.bool t204, .slice Ao9 t205.length co9, .int .i64 a0_2]) ?_ 2 _ rfl; (with_reducible repeat (first | refine blk_drewN ?_ _ | refine blk_drew ?_ | refine blk_alloc ?_ _)); refine blk_put (cs := #[.bool t204, .slice A0_1 l0_1.length c0_1, .int .i64 a0_2]) ?_ 1 _ rfl; (with_reducible repeat (first | refine blk_drewN ?_ _ | refine blk_drew ?_ | refine blk_alloc ?_ _)); refine blk_put (cs := #[.bool a0_0, .slice A0_1 l0_1.length c0_1, .int .i64 a0_2]) ?_ 0 _ rfl; (with_reducible repeat (first | refine blk_drewN ?_ _ | refine blk_drew ?_ | refine blk_alloc ?_ _)); exact BK203.out) hb); have n2_ := Aside0.mk (below_step (by repeat (first | (with_reducible first | exact HB.out | apply below_alloc | apply pw_below_drewN | apply below_drew1 | refine below_set ?_ GE203.out) | exact HB.out)) hb); clear HO207; clear BK203; clear HB; have HO207 := n0_; have BK203 := n1_; have HB := n2_; clear n0_ n1_ n2_; (try clear hb); (try clear hb2); (try clear hk); (try clear hi); have hcz11_0 : w10.cell? ⟨gb203, 0, none⟩ = some (.bool t204) := (blk_cell BK203.out 0).trans rfl; have hcz11_1 : w10.cell? ⟨gb203, 1, none⟩ = some (.slice Ao9 t205.length co9) := (blk_cell BK203.out 1).trans rfl; have hcz11_2 : w10.cell? ⟨gb203, 2, none⟩ = some (.int .i64 t208) := (blk_cell BK203.out 2).trans rfl; have hfz11_0 := blk_frozen BK203.out 0; have hfz11_1 := blk_frozen BK203.out 1; have hfz11_2 := blk_frozen BK203.out 2))
  repeat (go_quiet (first | ((with_reducible refine gate_dst (N := 1) rfl ?_); refine box_event ?hg (N := 1) ?hd (cs := #[.bool a0_0, .slice A0_1 l0_1.length c0_1, .int .i64 a0_2]) (t := 25) ?hr ?_; (case hd => rfl); (case hg => rfl); (case hr => first | (go_simp; done) | (go_simp; rfl) | (go_simp; simp only [x_u32u8, x_u8, x_u32, x_u64, x_mm]; first | done | rfl)); intro gb203 hg w5 hbox hb; have n0_ := Aside0.mk (below_step (by repeat (first | (with_reducible first | exact HB.out | apply below_alloc | apply pw_below_drewN | apply below_drew1) | exact HB.out)) hb); have n1_ := Aside0.mk (hbox); have n2_ := Aside0.mk ((by rw [hg]; exact (below_size (by repeat (first | (with_reducible first | exact HB.out | apply below_alloc | apply pw_below_drewN | apply below_drew1) | exact HB.out))) : w.heap.size ≤ gb203)); have n3_ := Aside0.mk ((by rw [hg]; exact (below_size (by repeat (first | (with_reducible first | exact HB.out | apply below_alloc | apply pw_below_drewN | apply below_drew1) | exact HB.out))) : w.heap.size ≤ gb203)); clear HB; have HB := n0_; have BK203 := n1_; have GW203 := n2_; have GE203 := n3_; clear n0_ n1_ n2_ n3_; clear hb hbox hg; have hcz6_0 : w5.cell? ⟨gb203, 0, none⟩ = some (.bool a0_0) := (blk_cell BK203.out 0).trans rfl; have hcz6_1 : w5.cell? ⟨gb203, 1, none⟩ = some (.slice A0_1 l0_1.length c0_1) := (blk_cell BK203.out 1).trans rfl; have hcz6_2 : w5.cell? ⟨gb203, 2, none⟩ = some (.int .i64 a0_2) := (blk_cell BK203.out 2).trans rfl; have hfz6_0 := blk_frozen BK203.out 0; have hfz6_1 := blk_frozen BK203.out 1; have hfz6_2 := blk_frozen BK203.out 2) | (go_at_call 33; (with_reducible refine (num_of.calls k a0_0 (fun k_ => k_ < w.heap.size) _ _ l0_1 a0_2 t204 t205 t208 _ ?side1 A2.out).mono ?_); (case side1 => exact Kd.V_mk HC0_1.out (Kd.F_below (Kd.C_F (Kd.heap_int .u32) HR0_1.out) (by repeat (first | (with_reducible first | exact HB.out | apply below_alloc | apply pw_below_drewN | apply below_drew1 | refine below_set ?_ GE203.out) | exact HB.out)))); rintro e w7 ⟨v206, rfl, ho0, hb⟩; have n0_ := Aside0.mk (Kd.V_lower (Kd.V_mono (ok' := fun k_ => k_ ≠ gb203) ho0 (fun k_ hk_ => Or.elim hk_ (fun hs_ => fun e_ => Nat.not_le.2 hs_ (by rw [e_]; exact GW203.out)) (fun hn_ => (Kd.freshB (g := gb203) (o := .cells #[.bool a0_0, .slice A0_1 l0_1.length c0_1, .int .i64 a0_2] 25 (0, 0)) (by (with_reducible repeat (first | refine blk_drewN ?_ _ | refine blk_drew ?_ | refine blk_alloc ?_ _)); exact BK203.out) k_ hn_)))) (below_size (by repeat (first | (with_reducible first | exact HB.out | apply below_alloc | apply pw_below_drewN | apply below_drew1 | refine below_set ?_ GE203.out) | exact HB.out)))); have n1_ := Aside0.mk (blk_below (g := gb203) (o := .cells #[.bool a0_0, .slice A0_1 l0_1.length c0_1, .int .i64 a0_2] 25 (0, 0)) (by (with_reducible repeat (first | refine blk_drewN ?_ _ | refine blk_drew ?_ | refine blk_alloc ?_ _)); exact BK203.out) hb); have n2_ := Aside0.mk (below_step (by repeat (first | (with_reducible first | exact HB.out | apply below_alloc | apply pw_below_drewN | apply below_drew1 | refine below_set ?_ GE203.out) | exact HB.out)) hb); clear BK203; clear HB; have HO207 := n0_; have BK203 := n1_; have HB := n2_; clear n0_ n1_ n2_; (try clear hb); (try clear hb2); (try clear hk); (try clear hi); (try clear ho0); have hcz8_0 : w7.cell? ⟨gb203, 0, none⟩ = some (.bool a0_0) := (blk_cell BK203.out 0).trans rfl; have hcz8_1 : w7.cell? ⟨gb203, 1, none⟩ = some (.slice A0_1 l0_1.length c0_1) := (blk_cell BK203.out 1).trans rfl; have hcz8_2 : w7.cell? ⟨gb203, 2, none⟩ = some (.int .i64 a0_2) := (blk_cell BK203.out 2).trans rfl; have hfz8_0 := blk_frozen BK203.out 0; have hfz8_1 := blk_frozen BK203.out 1; have hfz8_2 := blk_frozen BK203.out 2; obtain ⟨Ao9, co9, eo9⟩ := Kd.V_slice HO207.out; subst eo9) | (go_at_call 34; (with_reducible refine (nat_Digits.calls _ _ t205 t209 _ ?side1 ?side2 A3.out).mono ?_); (case side1 => refine (Kd.V_reads' (e := 40) (base := w.heap.size) (ok := fun k_ => k_ ≠ gb203) (n := t205.length) (c := co9) ?_).2.2; exact (by (with_reducible repeat (first | apply Kd.V_alloc | apply Kd.V_drewN | apply Kd.V_drew)); exact (Kd.V_mono (Kd.V_far (p := ⟨gb203, 2, none⟩) (Kd.V_far (p := ⟨gb203, 1, none⟩) (Kd.V_far (p := ⟨gb203, 0, none⟩) (Kd.V_mono HO207.out (fun k_ hk => (⟨hk, hk⟩ : _ ∧ k_ ≠ gb203))) (fun _ hk => hk.2) (.bool t204)) (fun _ hk => hk.2) (.slice Ao9 t205.length co9)) (fun _ hk => hk.2) (.int .i64 t208)) (fun _ h_ => h_.1)))); (case side2 => exact (Kd.V_reads' HO207.out).2.1); rintro e w10 ⟨rfl, hb⟩; have n0_ := Aside0.mk (Kd.V_below (by (with_reducible repeat (first | apply Kd.V_alloc | apply Kd.V_drewN | apply Kd.V_drew)); exact (Kd.V_mono (Kd.V_far (p := ⟨gb203, 2, none⟩) (Kd.V_far (p := ⟨gb203, 1, none⟩) (Kd.V_far (p := ⟨gb203, 0, none⟩) (Kd.V_mono HO207.out (fun k_ hk => (⟨hk, hk⟩ : _ ∧ k_ ≠ gb203))) (fun _ hk => hk.2) (.bool t204)) (fun _ hk => hk.2) (.slice Ao9 t205.length co9)) (fun _ hk => hk.2) (.int .i64 t208)) (fun _ h_ => h_.1))) hb); have n1_ := Aside0.mk (blk_below (g := gb203) (o := .cells #[.bool t204, .slice Ao9 t205.length co9, .int .i64 t208] 25 (0, 0)) (by (with_reducible repeat (first | refine blk_drewN ?_ _ | refine blk_drew ?_ | refine blk_alloc ?_ _)); refine blk_put (cs := #[.bool t204, .slice Ao9 t205.length co9, .int .i64 a0_2]) ?_ 2 _ rfl; (with_reducible repeat (first | refine blk_drewN ?_ _ | refine blk_drew ?_ | refine blk_alloc ?_ _)); refine blk_put (cs := #[.bool t204, .slice A0_1 l0_1.length c0_1, .int .i64 a0_2]) ?_ 1 _ rfl; (with_reducible repeat (first | refine blk_drewN ?_ _ | refine blk_drew ?_ | refine blk_alloc ?_ _)); refine blk_put (cs := #[.bool a0_0, .slice A0_1 l0_1.length c0_1, .int .i64 a0_2]) ?_ 0 _ rfl; (with_reducible repeat (first | refine blk_drewN ?_ _ | refine blk_drew ?_ | refine blk_alloc ?_ _)); exact BK203.out) hb); have n2_ := Aside0.mk (below_step (by repeat (first | (with_reducible first | exact HB.out | apply below_alloc | apply pw_below_drewN | apply below_drew1 | refine below_set ?_ GE203.out) | exact HB.out)) hb); clear HO207; clear BK203; clear HB; have HO207 := n0_; have BK203 := n1_; have HB := n2_; clear n0_ n1_ n2_; (try clear hb); (try clear hb2); (try clear hk); (try clear hi); have hcz11_0 : w10.cell? ⟨gb203, 0, none⟩ = some (.bool t204) := (blk_cell BK203.out 0).trans rfl; have hcz11_1 : w10.cell? ⟨gb203, 1, none⟩ = some (.slice Ao9 t205.length co9) := (blk_cell BK203.out 1).trans rfl; have hcz11_2 : w10.cell? ⟨gb203, 2, none⟩ = some (.int .i64 t208) := (blk_cell BK203.out 2).trans rfl; have hfz11_0 := blk_frozen BK203.out 0; have hfz11_1 := blk_frozen BK203.out 1; have hfz11_2 := blk_frozen BK203.out 2)); go_upto_if 17 with (first | ((with_reducible refine gate_dst (N := 1) rfl ?_); refine box_event ?hg (N := 1) ?hd (cs := #[.bool a0_0, .slice A0_1 l0_1.length c0_1, .int .i64 a0_2]) (t := 25) ?hr ?_; (case hd => rfl); (case hg => rfl); (case hr => first | (go_simp; done) | (go_simp; rfl) | (go_simp; simp only [x_u32u8, x_u8, x_u32, x_u64, x_mm]; first | done | rfl)); intro gb203 hg w5 hbox hb; have n0_ := Aside0.mk (below_step (by repeat (first | (with_reducible first | exact HB.out | apply below_alloc | apply pw_below_drewN | apply below_drew1) | exact HB.out)) hb); have n1_ := Aside0.mk (hbox); have n2_ := Aside0.mk ((by rw [hg]; exact (below_size (by repeat (first | (with_reducible first | exact HB.out | apply below_alloc | apply pw_below_drewN | apply below_drew1) | exact HB.out))) : w.heap.size ≤ gb203)); have n3_ := Aside0.mk ((by rw [hg]; exact (below_size (by repeat (first | (with_reducible first | exact HB.out | apply below_alloc | apply pw_below_drewN | apply below_drew1) | exact HB.out))) : w.heap.size ≤ gb203)); clear HB; have HB := n0_; have BK203 := n1_; have GW203 := n2_; have GE203 := n3_; clear n0_ n1_ n2_ n3_; clear hb hbox hg; have hcz6_0 : w5.cell? ⟨gb203, 0, none⟩ = some (.bool a0_0) := (blk_cell BK203.out 0).trans rfl; have hcz6_1 : w5.cell? ⟨gb203, 1, none⟩ = some (.slice A0_1 l0_1.length c0_1) := (blk_cell BK203.out 1).trans rfl; have hcz6_2 : w5.cell? ⟨gb203, 2, none⟩ = some (.int .i64 a0_2) := (blk_cell BK203.out 2).trans rfl; have hfz6_0 := blk_frozen BK203.out 0; have hfz6_1 := blk_frozen BK203.out 1; have hfz6_2 := blk_frozen BK203.out 2) | (go_at_call 33; (with_reducible refine (num_of.calls k a0_0 (fun k_ => k_ < w.heap.size) _ _ l0_1 a0_2 t204 t205 t208 _ ?side1 A2.out).mono ?_); (case side1 => exact Kd.V_mk HC0_1.out (Kd.F_below (Kd.C_F (Kd.heap_int .u32) HR0_1.out) (by repeat (first | (with_reducible first | exact HB.out | apply below_alloc | apply pw_below_drewN | apply below_drew1 | refine below_set ?_ GE203.out) | exact HB.out)))); rintro e w7 ⟨v206, rfl, ho0, hb⟩; have n0_ := Aside0.mk (Kd.V_lower (Kd.V_mono (ok' := fun k_ => k_ ≠ gb203) ho0 (fun k_ hk_ => Or.elim hk_ (fun hs_ => fun e_ => Nat.not_le.2 hs_ (by rw [e_]; exact GW203.out)) (fun hn_ => (Kd.freshB (g := gb203) (o := .cells #[.bool a0_0, .slice A0_1 l0_1.length c0_1, .int .i64 a0_2] 25 (0, 0)) (by (with_reducible repeat (first | refine blk_drewN ?_ _ | refine blk_drew ?_ | refine blk_alloc ?_ _)); exact BK203.out) k_ hn_)))) (below_size (by repeat (first | (with_reducible first | exact HB.out | apply below_alloc | apply pw_below_drewN | apply below_drew1 | refine below_set ?_ GE203.out) | exact HB.out)))); have n1_ := Aside0.mk (blk_below (g := gb203) (o := .cells #[.bool a0_0, .slice A0_1 l0_1.length c0_1, .int .i64 a0_2] 25 (0, 0)) (by (with_reducible repeat (first | refine blk_drewN ?_ _ | refine blk_drew ?_ | refine blk_alloc ?_ _)); exact BK203.out) hb); have n2_ := Aside0.mk (below_step (by repeat (first | (with_reducible first | exact HB.out | apply below_alloc | apply pw_below_drewN | apply below_drew1 | refine below_set ?_ GE203.out) | exact HB.out)) hb); clear BK203; clear HB; have HO207 := n0_; have BK203 := n1_; have HB := n2_; clear n0_ n1_ n2_; (try clear hb); (try clear hb2); (try clear hk); (try clear hi); (try clear ho0); have hcz8_0 : w7.cell? ⟨gb203, 0, none⟩ = some (.bool a0_0) := (blk_cell BK203.out 0).trans rfl; have hcz8_1 : w7.cell? ⟨gb203, 1, none⟩ = some (.slice A0_1 l0_1.length c0_1) := (blk_cell BK203.out 1).trans rfl; have hcz8_2 : w7.cell? ⟨gb203, 2, none⟩ = some (.int .i64 a0_2) := (blk_cell BK203.out 2).trans rfl; have hfz8_0 := blk_frozen BK203.out 0; have hfz8_1 := blk_frozen BK203.out 1; have hfz8_2 := blk_frozen BK203.out 2; obtain ⟨Ao9, co9, eo9⟩ := Kd.V_slice HO207.out; subst eo9) | (go_at_call 34; (with_reducible refine (nat_Digits.calls _ _ t205 t209 _ ?side1 ?side2 A3.out).mono ?_); (case side1 => refine (Kd.V_reads' (e := 40) (base := w.heap.size) (ok := fun k_ => k_ ≠ gb203) (n := t205.length) (c := co9) ?_).2.2; exact (by (with_reducible repeat (first | apply Kd.V_alloc | apply Kd.V_drewN | apply Kd.V_drew)); exact (Kd.V_mono (Kd.V_far (p := ⟨gb203, 2, none⟩) (Kd.V_far (p := ⟨gb203, 1, none⟩) (Kd.V_far (p := ⟨gb203, 0, none⟩) (Kd.V_mono HO207.out (fun k_ hk => (⟨hk, hk⟩ : _ ∧ k_ ≠ gb203))) (fun _ hk => hk.2) (.bool t204)) (fun _ hk => hk.2) (.slice Ao9 t205.length co9)) (fun _ hk => hk.2) (.int .i64 t208)) (fun _ h_ => h_.1)))); (case side2 => exact (Kd.V_reads' HO207.out).2.1); rintro e w10 ⟨rfl, hb⟩; have n0_ := Aside0.mk (Kd.V_below (by (with_reducible repeat (first | apply Kd.V_alloc | apply Kd.V_drewN | apply Kd.V_drew)); exact (Kd.V_mono (Kd.V_far (p := ⟨gb203, 2, none⟩) (Kd.V_far (p := ⟨gb203, 1, none⟩) (Kd.V_far (p := ⟨gb203, 0, none⟩) (Kd.V_mono HO207.out (fun k_ hk => (⟨hk, hk⟩ : _ ∧ k_ ≠ gb203))) (fun _ hk => hk.2) (.bool t204)) (fun _ hk => hk.2) (.slice Ao9 t205.length co9)) (fun _ hk => hk.2) (.int .i64 t208)) (fun _ h_ => h_.1))) hb); have n1_ := Aside0.mk (blk_below (g := gb203) (o := .cells #[.bool t204, .slice Ao9 t205.length co9, .int .i64 t208] 25 (0, 0)) (by (with_reducible repeat (first | refine blk_drewN ?_ _ | refine blk_drew ?_ | refine blk_alloc ?_ _)); refine blk_put (cs := #[.bool t204, .slice Ao9 t205.length co9, .int .i64 a0_2]) ?_ 2 _ rfl; (with_reducible repeat (first | refine blk_drewN ?_ _ | refine blk_drew ?_ | refine blk_alloc ?_ _)); refine blk_put (cs := #[.bool t204, .slice A0_1 l0_1.length c0_1, .int .i64 a0_2]) ?_ 1 _ rfl; (with_reducible repeat (first | refine blk_drewN ?_ _ | refine blk_drew ?_ | refine blk_alloc ?_ _)); refine blk_put (cs := #[.bool a0_0, .slice A0_1 l0_1.length c0_1, .int .i64 a0_2]) ?_ 0 _ rfl; (with_reducible repeat (first | refine blk_drewN ?_ _ | refine blk_drew ?_ | refine blk_alloc ?_ _)); exact BK203.out) hb); have n2_ := Aside0.mk (below_step (by repeat (first | (with_reducible first | exact HB.out | apply below_alloc | apply pw_below_drewN | apply below_drew1 | refine below_set ?_ GE203.out) | exact HB.out)) hb); clear HO207; clear BK203; clear HB; have HO207 := n0_; have BK203 := n1_; have HB := n2_; clear n0_ n1_ n2_; (try clear hb); (try clear hb2); (try clear hk); (try clear hi); have hcz11_0 : w10.cell? ⟨gb203, 0, none⟩ = some (.bool t204) := (blk_cell BK203.out 0).trans rfl; have hcz11_1 : w10.cell? ⟨gb203, 1, none⟩ = some (.slice Ao9 t205.length co9) := (blk_cell BK203.out 1).trans rfl; have hcz11_2 : w10.cell? ⟨gb203, 2, none⟩ = some (.int .i64 t208) := (blk_cell BK203.out 2).trans rfl; have hfz11_0 := blk_frozen BK203.out 0; have hfz11_1 := blk_frozen BK203.out 1; have hfz11_2 := blk_frozen BK203.out 2)))
  (try simp only [Act.put, List.setIfInBounds_toArray, List.set_cons_zero, List.set_cons_succ])
  go_cut [5] (fun v5 wc => ∃ (kq : Nat) (x5_3 : ByteArray), v5 = .string x5_3 ∧ Aside0 (num_Text.j0 kq t209 (wrap64 ((t209.size : Int) + t208)) x5_3 t204 t205 t208 = some r) ∧ Aside0 (kq ≤ k) ∧ Aside0 (Kd.V (Kd.int .u32) 40 wc w.heap.size (fun k_ => k_ ≠ gb203) (.slice Ao9 t205.length co9) t205) ∧ Aside0 (wc.heap[gb203]? = some (.cells #[.bool t204, (.slice Ao9 t205.length co9), .int .i64 t208] 25 (0, 0))) ∧ Aside0 (Below w.heap.size w wc))
  case first =>
    have H := HC4.out
    clear HC4
    by_cases c12 : t204 = true
    · subst c12
      have H1 : (num_Text.j0 k t209 (wrap64 ((t209.size : Int) + t208)) (⟨#[45]⟩ : ByteArray) true t205 t208) = some r := by rw [if_pos rfl] at H; exact H
      clear H
      have H := H1
      clear H1
      have H' := Aside0.mk H
      clear H
      go_wp2
      try (any_goals (with_reducible refine halt_absurd ?_; (try simp only [ByteArray.size_extract, ByteArray.size_append, ba_size_mk, List.size_toArray, List.length_cons, List.length_nil] at *) <;> omega))
      repeat (go_quiet (fail); try go_wp2)
      go_meet
      case rel => exact ⟨_, ((⟨#[45]⟩ : ByteArray)), (by first | rfl | (simp; done) | (simp [*]; done)), H', ⟨by first | omega | exact Nat.le_refl _⟩, ⟨by (with_reducible repeat (first | apply Kd.V_alloc | apply Kd.V_drewN | apply Kd.V_drew)); exact HO207.out⟩, ⟨by (with_reducible repeat (first | refine blk_drewN ?_ _ | refine blk_drew ?_ | refine blk_alloc ?_ _)); exact BK203.out⟩, ⟨by repeat (first | (with_reducible first | exact HB.out | apply below_alloc | apply pw_below_drewN | apply below_drew1 | refine below_set ?_ GE203.out) | exact HB.out)⟩⟩
    · replace c12 := Bool.eq_false_iff.mpr c12
      subst c12
      have H1 : (num_Text.j0 k t209 (wrap64 ((t209.size : Int) + t208)) (⟨#[]⟩ : ByteArray) false t205 t208) = some r := by rw [if_neg (show ¬ (false = true) by decide)] at H; exact H
      clear H
      have H := H1
      clear H1
      have H' := Aside0.mk H
      clear H
      go_wp2
      try (any_goals (with_reducible refine halt_absurd ?_; (try simp only [ByteArray.size_extract, ByteArray.size_append, ba_size_mk, List.size_toArray, List.length_cons, List.length_nil] at *) <;> omega))
      repeat (go_quiet (fail); try go_wp2)
      go_meet
      case rel => exact ⟨_, ((⟨#[]⟩ : ByteArray)), (by first | rfl | (simp; done) | (simp [*]; done)), H', ⟨by first | omega | exact Nat.le_refl _⟩, ⟨by (with_reducible repeat (first | apply Kd.V_alloc | apply Kd.V_drewN | apply Kd.V_drew)); exact HO207.out⟩, ⟨by (with_reducible repeat (first | refine blk_drewN ?_ _ | refine blk_drew ?_ | refine blk_alloc ?_ _)); exact BK203.out⟩, ⟨by repeat (first | (with_reducible first | exact HB.out | apply below_alloc | apply pw_below_drewN | apply below_drew1 | refine below_set ?_ GE203.out) | exact HB.out)⟩⟩
  case rest =>
    clear HC4
    try clear c1
    try clear p2
    try clear p6
    try clear c12
    try clear hcz11_0
    try clear hcz11_1
    try clear hcz11_2
    try clear hcz6_0
    try clear hcz6_1
    try clear hcz6_2
    try clear hcz8_0
    try clear hcz8_1
    try clear hcz8_2
    try clear hfz11_0
    try clear hfz11_1
    try clear hfz11_2
    try clear hfz6_0
    try clear hfz6_1
    try clear hfz6_2
    try clear hfz8_0
    try clear hfz8_1
    try clear hfz8_2
    obtain ⟨kq, x5_3, rfl, HA, HJ3, HO_204001, BK203, HB⟩ := hcut
    cases kq with
    | zero => exact absurd HA.out (by simp [num_Text.j0])
    | succ kj3 =>
      have H := HA.out
      clear HA
      simp only [num_Text.j0] at H
      have HC13 := Aside0.mk H
      clear H
      go_upto_region 7 with (fail)
      repeat (go_quiet (fail); go_upto_region 7 with (fail))
      go_cut [18] (fun v18 wc => ∃ (kq : Nat) (x18_12 : Bool), v18 = .bool x18_12 ∧ Aside0 (num_Text.j1 kq t209 (wrap64 ((t209.size : Int) + t208)) x5_3 x18_12 t204 t205 t208 = some r) ∧ Aside0 (kq ≤ kj3) ∧ Aside0 (Kd.V (Kd.int .u32) 40 wc w.heap.size (fun k_ => k_ ≠ gb203) (.slice Ao9 t205.length co9) t205) ∧ Aside0 (wc.heap[gb203]? = some (.cells #[.bool t204, (.slice Ao9 t205.length co9), .int .i64 t208] 25 (0, 0))) ∧ Aside0 (Below w.heap.size w wc))
      case first =>
        have H := HC13.out
        clear HC13
        by_cases c14 : t208 ≥ 0
        · rw [if_pos c14] at H
          have c14b0 : decide (0 ≤ t208) = true := decide_eq_true c14
          clear c14
          (first | rw [c14b0] | (simp only [i64_w, i32_w]; rw [c14b0]) | skip)
          have H' := Aside0.mk H
          clear H
          have hcz15_0 : wc.cell? ⟨gb203, 0, none⟩ = some (.bool t204) := (blk_cell BK203.out 0).trans rfl
          have hcz15_1 : wc.cell? ⟨gb203, 1, none⟩ = some (.slice Ao9 t205.length co9) := (blk_cell BK203.out 1).trans rfl
          have hcz15_2 : wc.cell? ⟨gb203, 2, none⟩ = some (.int .i64 t208) := (blk_cell BK203.out 2).trans rfl
          have hfz15_0 := blk_frozen BK203.out 0
          have hfz15_1 := blk_frozen BK203.out 1
          have hfz15_2 := blk_frozen BK203.out 2
          go_wp2
          try (any_goals (with_reducible refine halt_absurd ?_; (try simp only [ByteArray.size_extract, ByteArray.size_append, ba_size_mk, List.size_toArray, List.length_cons, List.length_nil] at *) <;> omega))
          repeat (go_quiet (fail); try go_wp2)
          go_meet
          case rel => exact ⟨_, (decide ((wrap64 ((t209.size : Int) + t208)) ≤ 21)), (by first | rfl | (simp; done) | (simp [*]; done)), H', ⟨by have := HJ3.out; first | omega | exact Nat.le_refl _⟩, ⟨by (with_reducible repeat (first | apply Kd.V_alloc | apply Kd.V_drewN | apply Kd.V_drew)); exact HO_204001.out⟩, ⟨by (with_reducible repeat (first | refine blk_drewN ?_ _ | refine blk_drew ?_ | refine blk_alloc ?_ _)); exact BK203.out⟩, ⟨by repeat (first | (with_reducible first | exact HB.out | apply below_alloc | apply pw_below_drewN | apply below_drew1 | refine below_set ?_ GE203.out) | exact HB.out)⟩⟩
        · rw [if_neg c14] at H
          have c14b0 : decide (0 ≤ t208) = false := decide_eq_false c14
          clear c14
          (first | rw [c14b0] | (simp only [i64_w, i32_w]; rw [c14b0]) | skip)
          have H' := Aside0.mk H
          clear H
          have hcz16_0 : wc.cell? ⟨gb203, 0, none⟩ = some (.bool t204) := (blk_cell BK203.out 0).trans rfl
          have hcz16_1 : wc.cell? ⟨gb203, 1, none⟩ = some (.slice Ao9 t205.length co9) := (blk_cell BK203.out 1).trans rfl
          have hcz16_2 : wc.cell? ⟨gb203, 2, none⟩ = some (.int .i64 t208) := (blk_cell BK203.out 2).trans rfl
          have hfz16_0 := blk_frozen BK203.out 0
          have hfz16_1 := blk_frozen BK203.out 1
          have hfz16_2 := blk_frozen BK203.out 2
          go_wp2
          try (any_goals (with_reducible refine halt_absurd ?_; (try simp only [ByteArray.size_extract, ByteArray.size_append, ba_size_mk, List.size_toArray, List.length_cons, List.length_nil] at *) <;> omega))
          repeat (go_quiet (fail); try go_wp2)
          go_meet
          case rel => exact ⟨_, (false), (by first | rfl | (simp; done) | (simp [*]; done)), H', ⟨by have := HJ3.out; first | omega | exact Nat.le_refl _⟩, ⟨by (with_reducible repeat (first | apply Kd.V_alloc | apply Kd.V_drewN | apply Kd.V_drew)); exact HO_204001.out⟩, ⟨by (with_reducible repeat (first | refine blk_drewN ?_ _ | refine blk_drew ?_ | refine blk_alloc ?_ _)); exact BK203.out⟩, ⟨by repeat (first | (with_reducible first | exact HB.out | apply below_alloc | apply pw_below_drewN | apply below_drew1 | refine below_set ?_ GE203.out) | exact HB.out)⟩⟩
      case rest =>
        clear HC13
        try clear c1
        try clear p2
        try clear p6
        try clear c12
        try clear c14
        try clear c14b0
        try clear hcz11_0
        try clear hcz11_1
        try clear hcz11_2
        try clear hcz15_0
        try clear hcz15_1
        try clear hcz15_2
        try clear hcz16_0
        try clear hcz16_1
        try clear hcz16_2
        try clear hcz6_0
        try clear hcz6_1
        try clear hcz6_2
        try clear hcz8_0
        try clear hcz8_1
        try clear hcz8_2
        try clear hfz11_0
        try clear hfz11_1
        try clear hfz11_2
        try clear hfz15_0
        try clear hfz15_1
        try clear hfz15_2
        try clear hfz16_0
        try clear hfz16_1
        try clear hfz16_2
        try clear hfz6_0
        try clear hfz6_1
        try clear hfz6_2
        try clear hfz8_0
        try clear hfz8_1
        try clear hfz8_2
        try clear p2
        try clear p6
        obtain ⟨kq, x18_12, rfl, HA, HJ12, HO_204001, BK203, HB⟩ := hcut
        cases kq with
        | zero => exact absurd HA.out (by simp [num_Text.j1])
        | succ kj12 =>
          have H := HA.out
          clear HA
          simp only [num_Text.j1] at H
          by_cases c17 : x18_12 = true
          · subst c17
            have H1 : (if x5_3.size + t209.size ≤ 9223372036854775807 then ((strings_Repeat.f (⟨#[48]⟩ : ByteArray) t208).bind fun t210 => (if (x5_3 ++ t209).size + t210.size ≤ 9223372036854775807 then (some ((x5_3 ++ t209) ++ t210)) else (none))) else (none)) = some r := by rw [if_pos rfl] at H; exact H
            clear H
            have H := H1
            clear H1
            by_cases c18 : x5_3.size + t209.size ≤ 9223372036854775807
            · rw [if_pos c18] at H
              have c18b0 := eq_true c18
              have c18b1 : decide (x5_3.size + t209.size ≤ 9223372036854775807) = true := decide_eq_true c18
              try have c18b2 : (9223372036854775807 < x5_3.size + t209.size) = False := eq_false (Nat.not_lt.2 c18)
              replace H := Option.bind_eq_some_iff.mp H
              obtain ⟨t210, A190, H⟩ := H
              replace H : (if (x5_3 ++ t209).size + t210.size ≤ 9223372036854775807 then (some ((x5_3 ++ t209) ++ t210)) else (none)) = some r := H
              have A19 := Aside0.mk A190
              clear A190
              by_cases c20 : (x5_3 ++ t209).size + t210.size ≤ 9223372036854775807
              · rw [if_pos c20] at H
                have c20b0 := eq_true c20
                have c20b1 : decide ((x5_3 ++ t209).size + t210.size ≤ 9223372036854775807) = true := decide_eq_true c20
                try have c20b2 : (9223372036854775807 < (x5_3 ++ t209).size + t210.size) = False := eq_false (Nat.not_lt.2 c20)
                obtain rfl := Option.some.inj H
                have hcz21_0 : wc.cell? ⟨gb203, 0, none⟩ = some (.bool t204) := (blk_cell BK203.out 0).trans rfl
                have hcz21_1 : wc.cell? ⟨gb203, 1, none⟩ = some (.slice Ao9 t205.length co9) := (blk_cell BK203.out 1).trans rfl
                have hcz21_2 : wc.cell? ⟨gb203, 2, none⟩ = some (.int .i64 t208) := (blk_cell BK203.out 2).trans rfl
                have hfz21_0 := blk_frozen BK203.out 0
                have hfz21_1 := blk_frozen BK203.out 1
                have hfz21_2 := blk_frozen BK203.out 2
                go_wp2_with (first | (go_at_call 35; (with_reducible refine (strings_Repeat.calls (⟨#[48]⟩ : ByteArray) t208 t210 _ A19.out).mono ?_); rintro e w22 ⟨rfl, hb⟩; have n0_ := Aside0.mk (Kd.V_below (by (with_reducible repeat (first | apply Kd.V_alloc | apply Kd.V_drewN | apply Kd.V_drew)); exact HO_204001.out) hb); have n1_ := Aside0.mk (blk_below (g := gb203) (o := .cells #[.bool t204, .slice Ao9 t205.length co9, .int .i64 t208] 25 (0, 0)) (by (with_reducible repeat (first | refine blk_drewN ?_ _ | refine blk_drew ?_ | refine blk_alloc ?_ _)); exact BK203.out) hb); have n2_ := Aside0.mk (below_step (by repeat (first | (with_reducible first | exact HB.out | apply below_alloc | apply pw_below_drewN | apply below_drew1 | refine below_set ?_ GE203.out) | exact HB.out)) hb); clear HO_204001; clear BK203; clear HB; have HO_204001 := n0_; have BK203 := n1_; have HB := n2_; clear n0_ n1_ n2_; (try clear hb); (try clear hb2); (try clear hk); (try clear hi)))
                try (any_goals (with_reducible refine halt_absurd ?_; (try simp only [ByteArray.size_extract, ByteArray.size_append, ba_size_mk, List.size_toArray, List.length_cons, List.length_nil] at *) <;> omega))
                repeat (go_quiet (first | (go_at_call 35; (with_reducible refine (strings_Repeat.calls (⟨#[48]⟩ : ByteArray) t208 t210 _ A19.out).mono ?_); rintro e w22 ⟨rfl, hb⟩; have n0_ := Aside0.mk (Kd.V_below (by (with_reducible repeat (first | apply Kd.V_alloc | apply Kd.V_drewN | apply Kd.V_drew)); exact HO_204001.out) hb); have n1_ := Aside0.mk (blk_below (g := gb203) (o := .cells #[.bool t204, .slice Ao9 t205.length co9, .int .i64 t208] 25 (0, 0)) (by (with_reducible repeat (first | refine blk_drewN ?_ _ | refine blk_drew ?_ | refine blk_alloc ?_ _)); exact BK203.out) hb); have n2_ := Aside0.mk (below_step (by repeat (first | (with_reducible first | exact HB.out | apply below_alloc | apply pw_below_drewN | apply below_drew1 | refine below_set ?_ GE203.out) | exact HB.out)) hb); clear HO_204001; clear BK203; clear HB; have HO_204001 := n0_; have BK203 := n1_; have HB := n2_; clear n0_ n1_ n2_; (try clear hb); (try clear hb2); (try clear hk); (try clear hi))); try go_wp2_with (first | (go_at_call 35; (with_reducible refine (strings_Repeat.calls (⟨#[48]⟩ : ByteArray) t208 t210 _ A19.out).mono ?_); rintro e w22 ⟨rfl, hb⟩; have n0_ := Aside0.mk (Kd.V_below (by (with_reducible repeat (first | apply Kd.V_alloc | apply Kd.V_drewN | apply Kd.V_drew)); exact HO_204001.out) hb); have n1_ := Aside0.mk (blk_below (g := gb203) (o := .cells #[.bool t204, .slice Ao9 t205.length co9, .int .i64 t208] 25 (0, 0)) (by (with_reducible repeat (first | refine blk_drewN ?_ _ | refine blk_drew ?_ | refine blk_alloc ?_ _)); exact BK203.out) hb); have n2_ := Aside0.mk (below_step (by repeat (first | (with_reducible first | exact HB.out | apply below_alloc | apply pw_below_drewN | apply below_drew1 | refine below_set ?_ GE203.out) | exact HB.out)) hb); clear HO_204001; clear BK203; clear HB; have HO_204001 := n0_; have BK203 := n1_; have HB := n2_; clear n0_ n1_ n2_; (try clear hb); (try clear hb2); (try clear hk); (try clear hi))))
                go_ret
                exact ⟨by first | rfl | (simp [errW_none, errW_some] <;> rfl) | (simp [*, errW_none, errW_some] <;> rfl), by repeat (first | (with_reducible first | exact HB.out | apply below_alloc | apply pw_below_drewN | apply below_drew1 | refine below_set ?_ GE203.out) | exact HB.out)⟩
              · rw [if_neg c20] at H
                exact absurd H (by simp)
            · rw [if_neg c18] at H
              exact absurd H (by simp)
          · replace c17 := Bool.eq_false_iff.mpr c17
            subst c17
            have H1 : (if t208 < 0 then (if (wrap64 ((t209.size : Int) + t208)) ≥ 1 then (num_Text.j2 kj12 t209 (wrap64 ((t209.size : Int) + t208)) x5_3 (decide ((wrap64 ((t209.size : Int) + t208)) ≤ 21))) else (num_Text.j2 kj12 t209 (wrap64 ((t209.size : Int) + t208)) x5_3 false)) else (num_Text.j2 kj12 t209 (wrap64 ((t209.size : Int) + t208)) x5_3 false)) = some r := by rw [if_neg (show ¬ (false = true) by decide)] at H; exact H
            clear H
            have H := H1
            clear H1
            have HC23 := Aside0.mk H
            clear H
            go_upto_region 9 with (fail)
            repeat (go_quiet (fail); go_upto_region 9 with (fail))
            go_cut [33] (fun v33 wc => ∃ (kq : Nat) (x33_22 : Bool), v33 = .bool x33_22 ∧ Aside0 (num_Text.j2 kq t209 (wrap64 ((t209.size : Int) + t208)) x5_3 x33_22 = some r) ∧ Aside0 (kq ≤ kj12) ∧ Aside0 (Kd.V (Kd.int .u32) 40 wc w.heap.size (fun k_ => k_ ≠ gb203) (.slice Ao9 t205.length co9) t205) ∧ Aside0 (wc.heap[gb203]? = some (.cells #[.bool t204, (.slice Ao9 t205.length co9), .int .i64 t208] 25 (0, 0))) ∧ Aside0 (Below w.heap.size w wc))
            case first =>
              have H := HC23.out
              clear HC23
              by_cases c24 : t208 < 0
              · rw [if_pos c24] at H
                have c24b0 : decide (t208 < 0) = true := decide_eq_true c24
                clear c24
                (first | rw [c24b0] | (simp only [i64_w, i32_w]; rw [c24b0]) | skip)
                by_cases c25 : (wrap64 ((t209.size : Int) + t208)) ≥ 1
                · rw [if_pos c25] at H
                  have c25b0 : decide (1 ≤ (wrap64 ((t209.size : Int) + t208))) = true := decide_eq_true c25
                  clear c25
                  have H' := Aside0.mk H
                  clear H
                  have hcz26_0 : wc.cell? ⟨gb203, 0, none⟩ = some (.bool t204) := (blk_cell BK203.out 0).trans rfl
                  have hcz26_1 : wc.cell? ⟨gb203, 1, none⟩ = some (.slice Ao9 t205.length co9) := (blk_cell BK203.out 1).trans rfl
                  have hcz26_2 : wc.cell? ⟨gb203, 2, none⟩ = some (.int .i64 t208) := (blk_cell BK203.out 2).trans rfl
                  have hfz26_0 := blk_frozen BK203.out 0
                  have hfz26_1 := blk_frozen BK203.out 1
                  have hfz26_2 := blk_frozen BK203.out 2
                  go_wp2
                  try (any_goals (with_reducible refine halt_absurd ?_; (try simp only [ByteArray.size_extract, ByteArray.size_append, ba_size_mk, List.size_toArray, List.length_cons, List.length_nil] at *) <;> omega))
                  repeat (go_quiet (fail); try go_wp2)
                  go_meet
                  case rel => exact ⟨_, (decide ((wrap64 ((t209.size : Int) + t208)) ≤ 21)), (by first | rfl | (simp; done) | (simp [*]; done)), H', ⟨by have := HJ3.out; have := HJ12.out; first | omega | exact Nat.le_refl _⟩, ⟨by (with_reducible repeat (first | apply Kd.V_alloc | apply Kd.V_drewN | apply Kd.V_drew)); exact HO_204001.out⟩, ⟨by (with_reducible repeat (first | refine blk_drewN ?_ _ | refine blk_drew ?_ | refine blk_alloc ?_ _)); exact BK203.out⟩, ⟨by repeat (first | (with_reducible first | exact HB.out | apply below_alloc | apply pw_below_drewN | apply below_drew1 | refine below_set ?_ GE203.out) | exact HB.out)⟩⟩
                · rw [if_neg c25] at H
                  have c25b0 : decide (1 ≤ (wrap64 ((t209.size : Int) + t208))) = false := decide_eq_false c25
                  clear c25
                  have H' := Aside0.mk H
                  clear H
                  have hcz27_0 : wc.cell? ⟨gb203, 0, none⟩ = some (.bool t204) := (blk_cell BK203.out 0).trans rfl
                  have hcz27_1 : wc.cell? ⟨gb203, 1, none⟩ = some (.slice Ao9 t205.length co9) := (blk_cell BK203.out 1).trans rfl
                  have hcz27_2 : wc.cell? ⟨gb203, 2, none⟩ = some (.int .i64 t208) := (blk_cell BK203.out 2).trans rfl
                  have hfz27_0 := blk_frozen BK203.out 0
                  have hfz27_1 := blk_frozen BK203.out 1
                  have hfz27_2 := blk_frozen BK203.out 2
                  go_wp2
                  try (any_goals (with_reducible refine halt_absurd ?_; (try simp only [ByteArray.size_extract, ByteArray.size_append, ba_size_mk, List.size_toArray, List.length_cons, List.length_nil] at *) <;> omega))
                  repeat (go_quiet (fail); try go_wp2)
                  go_meet
                  case rel => exact ⟨_, (false), (by first | rfl | (simp; done) | (simp [*]; done)), H', ⟨by have := HJ3.out; have := HJ12.out; first | omega | exact Nat.le_refl _⟩, ⟨by (with_reducible repeat (first | apply Kd.V_alloc | apply Kd.V_drewN | apply Kd.V_drew)); exact HO_204001.out⟩, ⟨by (with_reducible repeat (first | refine blk_drewN ?_ _ | refine blk_drew ?_ | refine blk_alloc ?_ _)); exact BK203.out⟩, ⟨by repeat (first | (with_reducible first | exact HB.out | apply below_alloc | apply pw_below_drewN | apply below_drew1 | refine below_set ?_ GE203.out) | exact HB.out)⟩⟩
              · rw [if_neg c24] at H
                have c24b0 : decide (t208 < 0) = false := decide_eq_false c24
                clear c24
                (first | rw [c24b0] | (simp only [i64_w, i32_w]; rw [c24b0]) | skip)
                have H' := Aside0.mk H
                clear H
                have hcz28_0 : wc.cell? ⟨gb203, 0, none⟩ = some (.bool t204) := (blk_cell BK203.out 0).trans rfl
                have hcz28_1 : wc.cell? ⟨gb203, 1, none⟩ = some (.slice Ao9 t205.length co9) := (blk_cell BK203.out 1).trans rfl
                have hcz28_2 : wc.cell? ⟨gb203, 2, none⟩ = some (.int .i64 t208) := (blk_cell BK203.out 2).trans rfl
                have hfz28_0 := blk_frozen BK203.out 0
                have hfz28_1 := blk_frozen BK203.out 1
                have hfz28_2 := blk_frozen BK203.out 2
                go_wp2
                try (any_goals (with_reducible refine halt_absurd ?_; (try simp only [ByteArray.size_extract, ByteArray.size_append, ba_size_mk, List.size_toArray, List.length_cons, List.length_nil] at *) <;> omega))
                repeat (go_quiet (fail); try go_wp2)
                go_meet
                case rel => exact ⟨_, (false), (by first | rfl | (simp; done) | (simp [*]; done)), H', ⟨by have := HJ3.out; have := HJ12.out; first | omega | exact Nat.le_refl _⟩, ⟨by (with_reducible repeat (first | apply Kd.V_alloc | apply Kd.V_drewN | apply Kd.V_drew)); exact HO_204001.out⟩, ⟨by (with_reducible repeat (first | refine blk_drewN ?_ _ | refine blk_drew ?_ | refine blk_alloc ?_ _)); exact BK203.out⟩, ⟨by repeat (first | (with_reducible first | exact HB.out | apply below_alloc | apply pw_below_drewN | apply below_drew1 | refine below_set ?_ GE203.out) | exact HB.out)⟩⟩
            case rest =>
              clear HC23
              try clear c1
              try clear c2
              try clear p2
              try clear p6
              try clear c12
              try clear c14
              try clear c14b0
              try clear c17
              try clear c18
              try clear c18b0
              try clear c18b1
              try clear c18b2
              try clear c20
              try clear c20b0
              try clear c20b1
              try clear c20b2
              try clear c24
              try clear c24b0
              try clear c25
              try clear c25b0
              try clear hcz11_0
              try clear hcz11_1
              try clear hcz11_2
              try clear hcz15_0
              try clear hcz15_1
              try clear hcz15_2
              try clear hcz16_0
              try clear hcz16_1
              try clear hcz16_2
              try clear hcz21_0
              try clear hcz21_1
              try clear hcz21_2
              try clear hcz26_0
              try clear hcz26_1
              try clear hcz26_2
              try clear hcz27_0
              try clear hcz27_1
              try clear hcz27_2
              try clear hcz28_0
              try clear hcz28_1
              try clear hcz28_2
              try clear hcz6_0
              try clear hcz6_1
              try clear hcz6_2
              try clear hcz8_0
              try clear hcz8_1
              try clear hcz8_2
              try clear hfz11_0
              try clear hfz11_1
              try clear hfz11_2
              try clear hfz15_0
              try clear hfz15_1
              try clear hfz15_2
              try clear hfz16_0
              try clear hfz16_1
              try clear hfz16_2
              try clear hfz21_0
              try clear hfz21_1
              try clear hfz21_2
              try clear hfz26_0
              try clear hfz26_1
              try clear hfz26_2
              try clear hfz27_0
              try clear hfz27_1
              try clear hfz27_2
              try clear hfz28_0
              try clear hfz28_1
              try clear hfz28_2
              try clear hfz6_0
              try clear hfz6_1
              try clear hfz6_2
              try clear hfz8_0
              try clear hfz8_1
              try clear hfz8_2
              try clear p2
              try clear p6
              obtain ⟨kq, x33_22, rfl, HA, HJ22, HO_204001, BK203, HB⟩ := hcut
              cases kq with
              | zero => exact absurd HA.out (by simp [num_Text.j2])
              | succ kj22 =>
                have H := HA.out
                clear HA
                simp only [num_Text.j2] at H
                by_cases c29 : x33_22 = true
                · subst c29
                  have H1 : (if 0 ≤ (wrap64 ((t209.size : Int) + t208)) then (if (wrap64 ((t209.size : Int) + t208)) ≤ (t209.size : Int) then (if x5_3.size + (t209.extract 0 ((wrap64 ((t209.size : Int) + t208)) : Int).toNat).size ≤ 9223372036854775807 then (if (x5_3 ++ (t209.extract 0 ((wrap64 ((t209.size : Int) + t208)) : Int).toNat)).size + 1 ≤ 9223372036854775807 then (if ((x5_3 ++ (t209.extract 0 ((wrap64 ((t209.size : Int) + t208)) : Int).toNat)) ++ (⟨#[46]⟩ : ByteArray)).size + (t209.extract ((wrap64 ((t209.size : Int) + t208)) : Int).toNat t209.size).size ≤ 9223372036854775807 then (some (((x5_3 ++ (t209.extract 0 ((wrap64 ((t209.size : Int) + t208)) : Int).toNat)) ++ (⟨#[46]⟩ : ByteArray)) ++ (t209.extract ((wrap64 ((t209.size : Int) + t208)) : Int).toNat t209.size))) else (none)) else (none)) else (none)) else (none)) else (none)) = some r := by rw [if_pos rfl] at H; exact H
                  clear H
                  have H := H1
                  clear H1
                  obtain ⟨ji30, hji30⟩ : ∃ j_ : Int, (wrap64 ((t209.size : Int) + t208)) = j_ := ⟨_, rfl⟩
                  replace H : (if 0 ≤ (ji30) then (if (ji30) ≤ (t209.size : Int) then (if x5_3.size + (t209.extract 0 ((ji30) : Int).toNat).size ≤ 9223372036854775807 then (if (x5_3 ++ (t209.extract 0 ((ji30) : Int).toNat)).size + 1 ≤ 9223372036854775807 then (if ((x5_3 ++ (t209.extract 0 ((ji30) : Int).toNat)) ++ (⟨#[46]⟩ : ByteArray)).size + (t209.extract ((ji30) : Int).toNat t209.size).size ≤ 9223372036854775807 then (some (((x5_3 ++ (t209.extract 0 ((ji30) : Int).toNat)) ++ (⟨#[46]⟩ : ByteArray)) ++ (t209.extract ((ji30) : Int).toNat t209.size))) else (none)) else (none)) else (none)) else (none)) else (none)) = some r := by first | (rw [hji30] at H; exact H) | (simp only [hji30] at H ⊢; exact H)
                  have hji30w : (IntKind.i64.wrap ((t209.size : Int) + t208)) = ji30 := (i64_w _).trans hji30
                  by_cases c31 : 0 ≤ (ji30)
                  · rw [if_pos c31] at H
                    have c31b0 := eq_true c31
                    have c31b1 : decide (0 ≤ (ji30)) = true := decide_eq_true c31
                    clear c31
                    by_cases c32 : (ji30) ≤ (t209.size : Int)
                    · rw [if_pos c32] at H
                      have c32b0 := eq_true c32
                      have c32b1 : decide ((ji30) ≤ (t209.size : Int)) = true := decide_eq_true c32
                      clear c32
                      by_cases c33 : x5_3.size + (t209.extract 0 ((ji30) : Int).toNat).size ≤ 9223372036854775807
                      · rw [if_pos c33] at H
                        have c33b0 := eq_true c33
                        have c33b1 : decide (x5_3.size + (t209.extract 0 ((ji30) : Int).toNat).size ≤ 9223372036854775807) = true := decide_eq_true c33
                        try have c33b2 : (9223372036854775807 < x5_3.size + (t209.extract 0 ((ji30) : Int).toNat).size) = False := eq_false (Nat.not_lt.2 c33)
                        by_cases c34 : (x5_3 ++ (t209.extract 0 ((ji30) : Int).toNat)).size + 1 ≤ 9223372036854775807
                        · rw [if_pos c34] at H
                          have c34b0 := eq_true c34
                          have c34b1 : decide ((x5_3 ++ (t209.extract 0 ((ji30) : Int).toNat)).size + 1 ≤ 9223372036854775807) = true := decide_eq_true c34
                          try have c34b2 : (9223372036854775807 < (x5_3 ++ (t209.extract 0 ((ji30) : Int).toNat)).size + 1) = False := eq_false (Nat.not_lt.2 c34)
                          have c35b0 := eq_true (of_decide_eq_true (by first | (with_reducible assumption) | assumption) : 0 ≤ (ji30))
                          have c36b0 := eq_true (of_decide_eq_true (by first | (with_reducible assumption) | assumption) : (ji30) ≤ (t209.size : Int))
                          by_cases c37 : ((x5_3 ++ (t209.extract 0 ((ji30) : Int).toNat)) ++ (⟨#[46]⟩ : ByteArray)).size + (t209.extract ((ji30) : Int).toNat t209.size).size ≤ 9223372036854775807
                          · rw [if_pos c37] at H
                            have c37b0 := eq_true c37
                            have c37b1 : decide (((x5_3 ++ (t209.extract 0 ((ji30) : Int).toNat)) ++ (⟨#[46]⟩ : ByteArray)).size + (t209.extract ((ji30) : Int).toNat t209.size).size ≤ 9223372036854775807) = true := decide_eq_true c37
                            try have c37b2 : (9223372036854775807 < ((x5_3 ++ (t209.extract 0 ((ji30) : Int).toNat)) ++ (⟨#[46]⟩ : ByteArray)).size + (t209.extract ((ji30) : Int).toNat t209.size).size) = False := eq_false (Nat.not_lt.2 c37)
                            obtain rfl := Option.some.inj H
                            go_wp2
                            try (any_goals (with_reducible refine halt_absurd ?_; (try simp only [ByteArray.size_extract, ByteArray.size_append, ba_size_mk, List.size_toArray, List.length_cons, List.length_nil] at *) <;> omega))
                            have z0 : ji30 ≤ (t209.size : Int) := of_decide_eq_true (by assumption)
                            have z00 : 0 ≤ ji30 := of_decide_eq_true (by assumption)
                            have z1 : (t209.extract 0 ji30.toNat).size = ji30.toNat := by rw [ByteArray.size_extract]; omega
                            have z2 : (t209.extract ji30.toNat t209.size).size = t209.size - ji30.toNat := by rw [ByteArray.size_extract]; omega
                            have z3 : (ByteArray.mk #[46]).size = 1 := rfl
                            have c37n := c37
                            simp only [ByteArray.size_append, z1, z2, z3] at c37n
                            have c34n := c34
                            simp only [ByteArray.size_append, z1, z2, z3] at c34n
                            have c33n := c33
                            simp only [ByteArray.size_append, z1, z2, z3] at c33n
                            clear z1 z2
                            repeat (go_quiet (fail); try go_wp2)
                            go_ret
                            exact ⟨by first | rfl | (simp [errW_none, errW_some] <;> rfl) | (simp only [← hji30]; first | rfl | (simp [errW_none, errW_some] <;> rfl)) | (simp [*, errW_none, errW_some] <;> rfl), by repeat (first | (with_reducible first | exact HB.out | apply below_alloc | apply pw_below_drewN | apply below_drew1 | refine below_set ?_ GE203.out) | exact HB.out)⟩
                          · rw [if_neg c37] at H
                            exact absurd H (by simp)
                        · rw [if_neg c34] at H
                          exact absurd H (by simp)
                      · rw [if_neg c33] at H
                        exact absurd H (by simp)
                    · rw [if_neg c32] at H
                      exact absurd H (by simp)
                  · rw [if_neg c31] at H
                    exact absurd H (by simp)
                · replace c29 := Bool.eq_false_iff.mpr c29
                  subst c29
                  have H1 : (if (wrap64 ((t209.size : Int) + t208)) ≥ (-5) then (num_Text.j3 kj22 t209 (wrap64 ((t209.size : Int) + t208)) x5_3 (decide ((wrap64 ((t209.size : Int) + t208)) ≤ 0))) else (num_Text.j3 kj22 t209 (wrap64 ((t209.size : Int) + t208)) x5_3 false)) = some r := by rw [if_neg (show ¬ (false = true) by decide)] at H; exact H
                  clear H
                  have H := H1
                  clear H1
                  have HC38 := Aside0.mk H
                  clear H
                  go_upto_region 11 with (fail)
                  repeat (go_quiet (fail); go_upto_region 11 with (fail))
                  go_cut [55] (fun v55 wc => ∃ (kq : Nat) (x55_37 : Bool), v55 = .bool x55_37 ∧ Aside0 (num_Text.j3 kq t209 (wrap64 ((t209.size : Int) + t208)) x5_3 x55_37 = some r) ∧ Aside0 (kq ≤ kj22) ∧ Aside0 (Kd.V (Kd.int .u32) 40 wc w.heap.size (fun k_ => k_ ≠ gb203) (.slice Ao9 t205.length co9) t205) ∧ Aside0 (wc.heap[gb203]? = some (.cells #[.bool t204, (.slice Ao9 t205.length co9), .int .i64 t208] 25 (0, 0))) ∧ Aside0 (Below w.heap.size w wc))
                  case first =>
                    have H := HC38.out
                    clear HC38
                    by_cases c39 : (wrap64 ((t209.size : Int) + t208)) ≥ (-5)
                    · rw [if_pos c39] at H
                      have c39b0 : decide ((-5) ≤ (wrap64 ((t209.size : Int) + t208))) = true := decide_eq_true c39
                      clear c39
                      (first | rw [c39b0] | (simp only [i64_w, i32_w]; rw [c39b0]) | skip)
                      have H' := Aside0.mk H
                      clear H
                      go_wp2
                      try (any_goals (with_reducible refine halt_absurd ?_; (try simp only [ByteArray.size_extract, ByteArray.size_append, ba_size_mk, List.size_toArray, List.length_cons, List.length_nil] at *) <;> omega))
                      repeat (go_quiet (fail); try go_wp2)
                      go_meet
                      case rel => exact ⟨_, (decide ((wrap64 ((t209.size : Int) + t208)) ≤ 0)), (by first | rfl | (simp; done) | (simp [*]; done)), H', ⟨by have := HJ3.out; have := HJ12.out; have := HJ22.out; first | omega | exact Nat.le_refl _⟩, ⟨by (with_reducible repeat (first | apply Kd.V_alloc | apply Kd.V_drewN | apply Kd.V_drew)); exact HO_204001.out⟩, ⟨by (with_reducible repeat (first | refine blk_drewN ?_ _ | refine blk_drew ?_ | refine blk_alloc ?_ _)); exact BK203.out⟩, ⟨by repeat (first | (with_reducible first | exact HB.out | apply below_alloc | apply pw_below_drewN | apply below_drew1 | refine below_set ?_ GE203.out) | exact HB.out)⟩⟩
                    · rw [if_neg c39] at H
                      have c39b0 : decide ((-5) ≤ (wrap64 ((t209.size : Int) + t208))) = false := decide_eq_false c39
                      clear c39
                      (first | rw [c39b0] | (simp only [i64_w, i32_w]; rw [c39b0]) | skip)
                      have H' := Aside0.mk H
                      clear H
                      go_wp2
                      try (any_goals (with_reducible refine halt_absurd ?_; (try simp only [ByteArray.size_extract, ByteArray.size_append, ba_size_mk, List.size_toArray, List.length_cons, List.length_nil] at *) <;> omega))
                      repeat (go_quiet (fail); try go_wp2)
                      go_meet
                      case rel => exact ⟨_, (false), (by first | rfl | (simp; done) | (simp [*]; done)), H', ⟨by have := HJ3.out; have := HJ12.out; have := HJ22.out; first | omega | exact Nat.le_refl _⟩, ⟨by (with_reducible repeat (first | apply Kd.V_alloc | apply Kd.V_drewN | apply Kd.V_drew)); exact HO_204001.out⟩, ⟨by (with_reducible repeat (first | refine blk_drewN ?_ _ | refine blk_drew ?_ | refine blk_alloc ?_ _)); exact BK203.out⟩, ⟨by repeat (first | (with_reducible first | exact HB.out | apply below_alloc | apply pw_below_drewN | apply below_drew1 | refine below_set ?_ GE203.out) | exact HB.out)⟩⟩
                  case rest =>
                    clear HC38
                    try clear c1
                    try clear c2
                    try clear p2
                    try clear c3
                    try clear p6
                    try clear c12
                    try clear c14
                    try clear c14b0
                    try clear c17
                    try clear c18
                    try clear c18b0
                    try clear c18b1
                    try clear c18b2
                    try clear c20
                    try clear c20b0
                    try clear c20b1
                    try clear c20b2
                    try clear c24
                    try clear c24b0
                    try clear c25
                    try clear c25b0
                    try clear c29
                    try clear c31
                    try clear c31b0
                    try clear c31b1
                    try clear c32
                    try clear c32b0
                    try clear c32b1
                    try clear c33
                    try clear c33b0
                    try clear c33b1
                    try clear c33b2
                    try clear c34
                    try clear c34b0
                    try clear c34b1
                    try clear c34b2
                    try clear c35
                    try clear c35b0
                    try clear c36
                    try clear c36b0
                    try clear c37
                    try clear c37b0
                    try clear c37b1
                    try clear c37b2
                    try clear c39
                    try clear c39b0
                    try clear hcz11_0
                    try clear hcz11_1
                    try clear hcz11_2
                    try clear hcz15_0
                    try clear hcz15_1
                    try clear hcz15_2
                    try clear hcz16_0
                    try clear hcz16_1
                    try clear hcz16_2
                    try clear hcz21_0
                    try clear hcz21_1
                    try clear hcz21_2
                    try clear hcz26_0
                    try clear hcz26_1
                    try clear hcz26_2
                    try clear hcz27_0
                    try clear hcz27_1
                    try clear hcz27_2
                    try clear hcz28_0
                    try clear hcz28_1
                    try clear hcz28_2
                    try clear hcz6_0
                    try clear hcz6_1
                    try clear hcz6_2
                    try clear hcz8_0
                    try clear hcz8_1
                    try clear hcz8_2
                    try clear hfz11_0
                    try clear hfz11_1
                    try clear hfz11_2
                    try clear hfz15_0
                    try clear hfz15_1
                    try clear hfz15_2
                    try clear hfz16_0
                    try clear hfz16_1
                    try clear hfz16_2
                    try clear hfz21_0
                    try clear hfz21_1
                    try clear hfz21_2
                    try clear hfz26_0
                    try clear hfz26_1
                    try clear hfz26_2
                    try clear hfz27_0
                    try clear hfz27_1
                    try clear hfz27_2
                    try clear hfz28_0
                    try clear hfz28_1
                    try clear hfz28_2
                    try clear hfz6_0
                    try clear hfz6_1
                    try clear hfz6_2
                    try clear hfz8_0
                    try clear hfz8_1
                    try clear hfz8_2
                    try clear p2
                    try clear p6
                    obtain ⟨kq, x55_37, rfl, HA, HJ37, HO_204001, BK203, HB⟩ := hcut
                    cases kq with
                    | zero => exact absurd HA.out (by simp [num_Text.j3])
                    | succ kj37 =>
                      have H := HA.out
                      clear HA
                      simp only [num_Text.j3] at H
                      by_cases c40 : x55_37 = true
                      · subst c40
                        have H1 : (if x5_3.size + 2 ≤ 9223372036854775807 then ((strings_Repeat.f (⟨#[48]⟩ : ByteArray) (wrap64 (-(wrap64 ((t209.size : Int) + t208))))).bind fun t211 => (if (x5_3 ++ (⟨#[48, 46]⟩ : ByteArray)).size + t211.size ≤ 9223372036854775807 then (if ((x5_3 ++ (⟨#[48, 46]⟩ : ByteArray)) ++ t211).size + t209.size ≤ 9223372036854775807 then (some (((x5_3 ++ (⟨#[48, 46]⟩ : ByteArray)) ++ t211) ++ t209)) else (none)) else (none))) else (none)) = some r := by rw [if_pos rfl] at H; exact H
                        clear H
                        have H := H1
                        clear H1
                        by_cases c41 : x5_3.size + 2 ≤ 9223372036854775807
                        · rw [if_pos c41] at H
                          have c41b0 := eq_true c41
                          have c41b1 : decide (x5_3.size + 2 ≤ 9223372036854775807) = true := decide_eq_true c41
                          try have c41b2 : (9223372036854775807 < x5_3.size + 2) = False := eq_false (Nat.not_lt.2 c41)
                          replace H := Option.bind_eq_some_iff.mp H
                          obtain ⟨t211, A420, H⟩ := H
                          replace H : (if (x5_3 ++ (⟨#[48, 46]⟩ : ByteArray)).size + t211.size ≤ 9223372036854775807 then (if ((x5_3 ++ (⟨#[48, 46]⟩ : ByteArray)) ++ t211).size + t209.size ≤ 9223372036854775807 then (some (((x5_3 ++ (⟨#[48, 46]⟩ : ByteArray)) ++ t211) ++ t209)) else (none)) else (none)) = some r := H
                          have A42 := Aside0.mk A420
                          clear A420
                          by_cases c43 : (x5_3 ++ (⟨#[48, 46]⟩ : ByteArray)).size + t211.size ≤ 9223372036854775807
                          · rw [if_pos c43] at H
                            have c43b0 := eq_true c43
                            have c43b1 : decide ((x5_3 ++ (⟨#[48, 46]⟩ : ByteArray)).size + t211.size ≤ 9223372036854775807) = true := decide_eq_true c43
                            try have c43b2 : (9223372036854775807 < (x5_3 ++ (⟨#[48, 46]⟩ : ByteArray)).size + t211.size) = False := eq_false (Nat.not_lt.2 c43)
                            by_cases c44 : ((x5_3 ++ (⟨#[48, 46]⟩ : ByteArray)) ++ t211).size + t209.size ≤ 9223372036854775807
                            · rw [if_pos c44] at H
                              have c44b0 := eq_true c44
                              have c44b1 : decide (((x5_3 ++ (⟨#[48, 46]⟩ : ByteArray)) ++ t211).size + t209.size ≤ 9223372036854775807) = true := decide_eq_true c44
                              try have c44b2 : (9223372036854775807 < ((x5_3 ++ (⟨#[48, 46]⟩ : ByteArray)) ++ t211).size + t209.size) = False := eq_false (Nat.not_lt.2 c44)
                              obtain rfl := Option.some.inj H
                              go_wp2_with (first | (go_at_call 35; (with_reducible refine (strings_Repeat.calls (⟨#[48]⟩ : ByteArray) (wrap64 (-(wrap64 ((t209.size : Int) + t208)))) t211 _ A42.out).mono ?_); rintro e w45 ⟨rfl, hb⟩; have n0_ := Aside0.mk (Kd.V_below (by (with_reducible repeat (first | apply Kd.V_alloc | apply Kd.V_drewN | apply Kd.V_drew)); exact HO_204001.out) hb); have n1_ := Aside0.mk (blk_below (g := gb203) (o := .cells #[.bool t204, .slice Ao9 t205.length co9, .int .i64 t208] 25 (0, 0)) (by (with_reducible repeat (first | refine blk_drewN ?_ _ | refine blk_drew ?_ | refine blk_alloc ?_ _)); exact BK203.out) hb); have n2_ := Aside0.mk (below_step (by repeat (first | (with_reducible first | exact HB.out | apply below_alloc | apply pw_below_drewN | apply below_drew1 | refine below_set ?_ GE203.out) | exact HB.out)) hb); clear HO_204001; clear BK203; clear HB; have HO_204001 := n0_; have BK203 := n1_; have HB := n2_; clear n0_ n1_ n2_; (try clear hb); (try clear hb2); (try clear hk); (try clear hi)))
                              try (any_goals (with_reducible refine halt_absurd ?_; (try simp only [ByteArray.size_extract, ByteArray.size_append, ba_size_mk, List.size_toArray, List.length_cons, List.length_nil] at *) <;> omega))
                              repeat (go_quiet (first | (go_at_call 35; (with_reducible refine (strings_Repeat.calls (⟨#[48]⟩ : ByteArray) (wrap64 (-(wrap64 ((t209.size : Int) + t208)))) t211 _ A42.out).mono ?_); rintro e w45 ⟨rfl, hb⟩; have n0_ := Aside0.mk (Kd.V_below (by (with_reducible repeat (first | apply Kd.V_alloc | apply Kd.V_drewN | apply Kd.V_drew)); exact HO_204001.out) hb); have n1_ := Aside0.mk (blk_below (g := gb203) (o := .cells #[.bool t204, .slice Ao9 t205.length co9, .int .i64 t208] 25 (0, 0)) (by (with_reducible repeat (first | refine blk_drewN ?_ _ | refine blk_drew ?_ | refine blk_alloc ?_ _)); exact BK203.out) hb); have n2_ := Aside0.mk (below_step (by repeat (first | (with_reducible first | exact HB.out | apply below_alloc | apply pw_below_drewN | apply below_drew1 | refine below_set ?_ GE203.out) | exact HB.out)) hb); clear HO_204001; clear BK203; clear HB; have HO_204001 := n0_; have BK203 := n1_; have HB := n2_; clear n0_ n1_ n2_; (try clear hb); (try clear hb2); (try clear hk); (try clear hi))); try go_wp2_with (first | (go_at_call 35; (with_reducible refine (strings_Repeat.calls (⟨#[48]⟩ : ByteArray) (wrap64 (-(wrap64 ((t209.size : Int) + t208)))) t211 _ A42.out).mono ?_); rintro e w45 ⟨rfl, hb⟩; have n0_ := Aside0.mk (Kd.V_below (by (with_reducible repeat (first | apply Kd.V_alloc | apply Kd.V_drewN | apply Kd.V_drew)); exact HO_204001.out) hb); have n1_ := Aside0.mk (blk_below (g := gb203) (o := .cells #[.bool t204, .slice Ao9 t205.length co9, .int .i64 t208] 25 (0, 0)) (by (with_reducible repeat (first | refine blk_drewN ?_ _ | refine blk_drew ?_ | refine blk_alloc ?_ _)); exact BK203.out) hb); have n2_ := Aside0.mk (below_step (by repeat (first | (with_reducible first | exact HB.out | apply below_alloc | apply pw_below_drewN | apply below_drew1 | refine below_set ?_ GE203.out) | exact HB.out)) hb); clear HO_204001; clear BK203; clear HB; have HO_204001 := n0_; have BK203 := n1_; have HB := n2_; clear n0_ n1_ n2_; (try clear hb); (try clear hb2); (try clear hk); (try clear hi))))
                              go_ret
                              exact ⟨by first | rfl | (simp [errW_none, errW_some] <;> rfl) | (simp [*, errW_none, errW_some] <;> rfl), by repeat (first | (with_reducible first | exact HB.out | apply below_alloc | apply pw_below_drewN | apply below_drew1 | refine below_set ?_ GE203.out) | exact HB.out)⟩
                            · rw [if_neg c44] at H
                              exact absurd H (by simp)
                          · rw [if_neg c43] at H
                            exact absurd H (by simp)
                        · rw [if_neg c41] at H
                          exact absurd H (by simp)
                      · replace c40 := Bool.eq_false_iff.mpr c40
                        subst c40
                        have H1 : ((num_science.f kj37 t209 (wrap64 ((t209.size : Int) + t208))).bind fun t212 => (if x5_3.size + t212.size ≤ 9223372036854775807 then (some (x5_3 ++ t212)) else (none))) = some r := by rw [if_neg (show ¬ (false = true) by decide)] at H; exact H
                        clear H
                        have H := H1
                        clear H1
                        replace H := Option.bind_eq_some_iff.mp H
                        obtain ⟨t212, A460, H⟩ := H
                        replace H : (if x5_3.size + t212.size ≤ 9223372036854775807 then (some (x5_3 ++ t212)) else (none)) = some r := H
                        have A46 := Aside0.mk A460
                        clear A460
                        by_cases c47 : x5_3.size + t212.size ≤ 9223372036854775807
                        · rw [if_pos c47] at H
                          have c47b0 := eq_true c47
                          have c47b1 : decide (x5_3.size + t212.size ≤ 9223372036854775807) = true := decide_eq_true c47
                          try have c47b2 : (9223372036854775807 < x5_3.size + t212.size) = False := eq_false (Nat.not_lt.2 c47)
                          obtain rfl := Option.some.inj H
                          go_wp2_with (first | (go_at_call 36; (with_reducible refine (num_science.calls kj37 t209 (wrap64 ((t209.size : Int) + t208)) t212 _ ?side1 A46.out).mono ?_); (case side1 => first | exact hL.out | exact hL.out.drewN _ | exact hL.out.drew | exact hL.out.below (by repeat (first | (with_reducible first | exact HB.out | apply below_alloc | apply pw_below_drewN | apply below_drew1 | refine below_set ?_ GE203.out) | exact HB.out))); rintro e w48 ⟨rfl, hb⟩; have n0_ := Aside0.mk (Kd.V_below (by (with_reducible repeat (first | apply Kd.V_alloc | apply Kd.V_drewN | apply Kd.V_drew)); exact HO_204001.out) hb); have n1_ := Aside0.mk (blk_below (g := gb203) (o := .cells #[.bool t204, .slice Ao9 t205.length co9, .int .i64 t208] 25 (0, 0)) (by (with_reducible repeat (first | refine blk_drewN ?_ _ | refine blk_drew ?_ | refine blk_alloc ?_ _)); exact BK203.out) hb); have n2_ := Aside0.mk (below_step (by repeat (first | (with_reducible first | exact HB.out | apply below_alloc | apply pw_below_drewN | apply below_drew1 | refine below_set ?_ GE203.out) | exact HB.out)) hb); clear HO_204001; clear BK203; clear HB; have HO_204001 := n0_; have BK203 := n1_; have HB := n2_; clear n0_ n1_ n2_; (try clear hb); (try clear hb2); (try clear hk); (try clear hi)))
                          try (any_goals (with_reducible refine halt_absurd ?_; (try simp only [ByteArray.size_extract, ByteArray.size_append, ba_size_mk, List.size_toArray, List.length_cons, List.length_nil] at *) <;> omega))
                          repeat (go_quiet (first | (go_at_call 36; (with_reducible refine (num_science.calls kj37 t209 (wrap64 ((t209.size : Int) + t208)) t212 _ ?side1 A46.out).mono ?_); (case side1 => first | exact hL.out | exact hL.out.drewN _ | exact hL.out.drew | exact hL.out.below (by repeat (first | (with_reducible first | exact HB.out | apply below_alloc | apply pw_below_drewN | apply below_drew1 | refine below_set ?_ GE203.out) | exact HB.out))); rintro e w48 ⟨rfl, hb⟩; have n0_ := Aside0.mk (Kd.V_below (by (with_reducible repeat (first | apply Kd.V_alloc | apply Kd.V_drewN | apply Kd.V_drew)); exact HO_204001.out) hb); have n1_ := Aside0.mk (blk_below (g := gb203) (o := .cells #[.bool t204, .slice Ao9 t205.length co9, .int .i64 t208] 25 (0, 0)) (by (with_reducible repeat (first | refine blk_drewN ?_ _ | refine blk_drew ?_ | refine blk_alloc ?_ _)); exact BK203.out) hb); have n2_ := Aside0.mk (below_step (by repeat (first | (with_reducible first | exact HB.out | apply below_alloc | apply pw_below_drewN | apply below_drew1 | refine below_set ?_ GE203.out) | exact HB.out)) hb); clear HO_204001; clear BK203; clear HB; have HO_204001 := n0_; have BK203 := n1_; have HB := n2_; clear n0_ n1_ n2_; (try clear hb); (try clear hb2); (try clear hk); (try clear hi))); try go_wp2_with (first | (go_at_call 36; (with_reducible refine (num_science.calls kj37 t209 (wrap64 ((t209.size : Int) + t208)) t212 _ ?side1 A46.out).mono ?_); (case side1 => first | exact hL.out | exact hL.out.drewN _ | exact hL.out.drew | exact hL.out.below (by repeat (first | (with_reducible first | exact HB.out | apply below_alloc | apply pw_below_drewN | apply below_drew1 | refine below_set ?_ GE203.out) | exact HB.out))); rintro e w48 ⟨rfl, hb⟩; have n0_ := Aside0.mk (Kd.V_below (by (with_reducible repeat (first | apply Kd.V_alloc | apply Kd.V_drewN | apply Kd.V_drew)); exact HO_204001.out) hb); have n1_ := Aside0.mk (blk_below (g := gb203) (o := .cells #[.bool t204, .slice Ao9 t205.length co9, .int .i64 t208] 25 (0, 0)) (by (with_reducible repeat (first | refine blk_drewN ?_ _ | refine blk_drew ?_ | refine blk_alloc ?_ _)); exact BK203.out) hb); have n2_ := Aside0.mk (below_step (by repeat (first | (with_reducible first | exact HB.out | apply below_alloc | apply pw_below_drewN | apply below_drew1 | refine below_set ?_ GE203.out) | exact HB.out)) hb); clear HO_204001; clear BK203; clear HB; have HO_204001 := n0_; have BK203 := n1_; have HB := n2_; clear n0_ n1_ n2_; (try clear hb); (try clear hb2); (try clear hk); (try clear hi))))
                          go_ret
                          exact ⟨by first | rfl | (simp [errW_none, errW_some] <;> rfl) | (simp [*, errW_none, errW_some] <;> rfl), by repeat (first | (with_reducible first | exact HB.out | apply below_alloc | apply pw_below_drewN | apply below_drew1 | refine below_set ?_ GE203.out) | exact HB.out)⟩
                        · rw [if_neg c47] at H
                          exact absurd H (by simp)

end Go.Proofs.YtmkdcokdilllcaaDoor.X
-- A walk, written by a program of this session (xp.py).
namespace Go.Proofs.YtmkdcokdilllcaaDoor.X
open Go.RowKit Go.Proofs.YtmkdcokdilllcaaDoorW.PrintWords Go.Proofs.YtmkdcokdilllcaaDoorW.PrintLast Go.Proofs.YtmkdcokdilllcaaDoorW.PrintMore
attribute [local go_sem] max2_int min2_int max_two min_two max_three min_three max_four min_four
set_option linter.unusedVariables false
set_option linter.unusedSimpArgs false

/-! ### erratumlaw02_awake: function 9 -/
def erratumlaw02_awake.f (k : Nat)  : Option (Bool) := (num_Parse.f k (⟨#[49, 46, 53, 48, 101, 51]⟩ : ByteArray)).bind fun bt213 => (if bt213.2.2.2 = 0 then (if (bt213.2.1.length : Int) = 1 then (if 0 < (bt213.2.1.length : Int) then (if (rd bt213.2.1 0) = 15 then (if bt213.2.2.1 = 2 then ((num_Text.f k bt213.1 bt213.2.1 bt213.2.2.1).bind fun t221 => (some (t221.toList == ([49, 53, 48, 48] : List UInt8)))) else (some false)) else (some false)) else (none)) else (some false)) else (some false))
set_option maxHeartbeats 8000000 in
set_option maxRecDepth 100000 in
theorem erratumlaw02_awake.calls (k : Nat)  (r : Bool) (w : World) (hL : Laid w) (h : erratumlaw02_awake.f k  = some r) :
    Calls Tryd.prog 9 #[] w fun e w' => e = .returned (.bool r) ∧ Below w.heap.size w w' := by
  replace hL := Aside0.mk hL
  have hu25 := Tryd.underlying25
  have HB := Aside0.mk (Below.refl w.heap.size w)
  have H : ((num_Parse.f k (⟨#[49, 46, 53, 48, 101, 51]⟩ : ByteArray)).bind fun bt213 => (if bt213.2.2.2 = 0 then (if (bt213.2.1.length : Int) = 1 then (if 0 < (bt213.2.1.length : Int) then (if (rd bt213.2.1 0) = 15 then (if bt213.2.2.1 = 2 then ((num_Text.f k bt213.1 bt213.2.1 bt213.2.2.1).bind fun t221 => (some (t221.toList == ([49, 53, 48, 48] : List UInt8)))) else (some false)) else (some false)) else (none)) else (some false)) else (some false))) = some r := h
  clear h
  replace H := Option.bind_eq_some_iff.mp H
  obtain ⟨⟨t213, t214, t217, t218⟩, A10, H⟩ := H
  replace H : (if t218 = 0 then (if (t214.length : Int) = 1 then (if 0 < (t214.length : Int) then (if (rd t214 0) = 15 then (if t217 = 2 then ((num_Text.f k t213 t214 t217).bind fun t221 => (some (t221.toList == ([49, 53, 48, 48] : List UInt8)))) else (some false)) else (some false)) else (none)) else (some false)) else (some false)) = some r := H
  have A1 := Aside0.mk A10
  clear A10
  by_cases c2 : t218 = 0
  · rw [if_pos c2] at H
    have c2b0 : (t218 == 0) = true := beq_iff_eq.mpr c2
    have c2b1 : (t218 != 0) = false := bne_eq_false_iff_eq.mpr c2
    clear c2
    by_cases c3 : (t214.length : Int) = 1
    · rw [if_pos c3] at H
      have c3b0 : ((t214.length : Int) == 1) = true := beq_iff_eq.mpr c3
      have c3b1 : ((t214.length : Int) != 1) = false := bne_eq_false_iff_eq.mpr c3
      clear c3
      by_cases c4 : 0 < (t214.length : Int)
      · rw [if_pos c4] at H
        have c4b0 : decide (0 < (t214.length : Int)) = true := decide_eq_true c4
        have c4b1 : decide (0 < t214.length) = true := decide_eq_true (by omega)
        clear c4
        by_cases c5 : (rd t214 0) = 15
        · rw [if_pos c5] at H
          have c5b0 : ((rd t214 0) == 15) = true := beq_iff_eq.mpr c5
          have c5b1 : ((rd t214 0) != 15) = false := bne_eq_false_iff_eq.mpr c5
          clear c5
          by_cases c6 : t217 = 2
          · rw [if_pos c6] at H
            have c6b0 : (t217 == 2) = true := beq_iff_eq.mpr c6
            have c6b1 : (t217 != 2) = false := bne_eq_false_iff_eq.mpr c6
            clear c6
            replace H := Option.bind_eq_some_iff.mp H
            obtain ⟨t221, A70, H⟩ := H
            replace H : (some (t221.toList == ([49, 53, 48, 48] : List UInt8))) = some r := H
            have A7 := Aside0.mk A70
            clear A70
            obtain rfl := Option.some.inj H
            go_enter Tryd.func9, Tryd.ntmps9
            go_wp2_with (first | ((with_reducible refine gate_callee (f := 10) rfl ?_); refine goesL_ (some 4) rfl rfl Tryd.func10 (by kernel_rfl) rfl #[.string (⟨#[49, 46, 53, 48, 101, 51]⟩ : ByteArray)] rfl (by (try simp only [List.map_toArray, List.map_cons, List.map_nil]); first | done | rfl | (simp only [List.length_drop, List.length_take]; rfl)) ?_; (with_reducible refine (num_Parse.calls k (⟨#[49, 46, 53, 48, 101, 51]⟩ : ByteArray) t213 t214 t217 t218 _ ?side1 A1.out).mono ?_); (case side1 => first | exact hL.out | exact hL.out.drewN _ | exact hL.out.drew | exact hL.out.below (by repeat (first | (with_reducible first | exact HB.out | apply below_alloc | apply pw_below_drewN | apply below_drew1) | exact HB.out))); rintro e w8 ⟨v215, rfl, ho0, hb⟩; refine ⟨_, rfl, ?_⟩; have n0_ := Aside0.mk (Kd.R_lower ho0 (below_size (by repeat (first | (with_reducible first | exact HB.out | apply below_alloc | apply pw_below_drewN | apply below_drew1) | exact HB.out)))); have n1_ := Aside0.mk (below_step (by repeat (first | (with_reducible first | exact HB.out | apply below_alloc | apply pw_below_drewN | apply below_drew1) | exact HB.out)) hb); clear HB; have HO216 := n0_; have HB := n1_; clear n0_ n1_; (try clear hb); (try clear hb2); (try clear hk); (try clear hi); (try clear ho0)) | ((with_reducible refine gate_dst (N := 1) rfl ?_); (try (refine gate_guard (by rfl) ?_; dsimp only)); refine box_event ?hg (N := 1) ?hd (cs := #[.bool false, .slice none 0 0, .int .i64 0]) (t := 25) ?hr ?_; (case hd => rfl); (case hg => rfl); (case hr => first | (go_simp; done) | (go_simp; rfl) | (go_simp; simp only [x_u32u8, x_u8, x_u32, x_u64, x_mm]; first | done | rfl)); intro gb219 hg w9 hbox hb; have n0_ := Aside0.mk (Kd.R_below (by (with_reducible repeat (first | apply Kd.R_alloc | apply Kd.R_drewN | apply Kd.R_drew)); exact HO216.out) hb); have n1_ := Aside0.mk (below_step (by repeat (first | (with_reducible first | exact HB.out | apply below_alloc | apply pw_below_drewN | apply below_drew1) | exact HB.out)) hb); have n2_ := Aside0.mk (hbox); have n3_ := Aside0.mk ((by rw [hg]; exact (below_size (by repeat (first | (with_reducible first | exact HB.out | apply below_alloc | apply pw_below_drewN | apply below_drew1) | exact HB.out))) : w.heap.size ≤ gb219)); have n4_ := Aside0.mk ((by rw [hg]; exact (below_size (by repeat (first | (with_reducible first | exact HB.out | apply below_alloc | apply pw_below_drewN | apply below_drew1) | exact HB.out))) : w.heap.size ≤ gb219)); clear HO216; clear HB; have HO216 := n0_; have HB := n1_; have BK219 := n2_; have GW219 := n3_; have GE219 := n4_; clear n0_ n1_ n2_ n3_ n4_; clear hb hbox hg; have hcz10_0 : w9.cell? ⟨gb219, 0, none⟩ = some (.bool false) := (blk_cell BK219.out 0).trans rfl; have hcz10_1 : w9.cell? ⟨gb219, 1, none⟩ = some (.slice none 0 0) := (blk_cell BK219.out 1).trans rfl; have hcz10_2 : w9.cell? ⟨gb219, 2, none⟩ = some (.int .i64 0) := (blk_cell BK219.out 2).trans rfl; have hfz10_0 := blk_frozen BK219.out 0; have hfz10_1 := blk_frozen BK219.out 1; have hfz10_2 := blk_frozen BK219.out 2; obtain ⟨Ao11, co11, eo11⟩ := Kd.R_slice HO216.out; subst eo11; have p220 : 0 ≤ (0 : Int) := (by omega); have q220 : 0 < (t214.length : Int) := of_decide_eq_true (by first | (with_reducible assumption) | assumption); obtain ⟨ad220, e220, hx220_0⟩ := Kd.at_int (Kd.R_reads' HO216.out).2.2 0 p220 q220; cases e220; have qi220 : (0 < t214.length) = True := eq_true (by omega); (try rw [show ((0 : Int)).toNat = 0 from rfl] at hx220_0); (try rw [Addr.add_zero'] at hx220_0); have hn220_0 : ad220.block ≠ gb219 := Kd.own_blk (Kd.R_ne HO216.out BK219.out (by decide)); have hn220_1 : ad220.block ≠ gb219 := Kd.own_blk (Kd.R_ne HO216.out BK219.out (by decide)); have hn220_2 : ad220.block ≠ gb219 := Kd.own_blk (Kd.R_ne HO216.out BK219.out (by decide)); replace hx220_0 := (cell_far (p := ⟨gb219, 0, none⟩) (by first | (rw [add_block]; exact hn220_0) | (show (Addr.add _ _).block ≠ _; rw [add_block]; exact hn220_0) | exact hn220_0) (.bool t213)).trans hx220_0; replace hx220_0 := (cell_far (p := ⟨gb219, 1, none⟩) (by first | (rw [add_block]; exact hn220_1) | (show (Addr.add _ _).block ≠ _; rw [add_block]; exact hn220_1) | exact hn220_1) (.slice (some ad220) t214.length co11)).trans hx220_0; replace hx220_0 := (cell_far (p := ⟨gb219, 2, none⟩) (by first | (rw [add_block]; exact hn220_2) | (show (Addr.add _ _).block ≠ _; rw [add_block]; exact hn220_2) | exact hn220_2) (.int .i64 t217)).trans hx220_0; clear hn220_0; clear hn220_1; clear hn220_2; replace p220 := eq_true p220; replace q220 := eq_true q220) | (go_at_call 14; (with_reducible refine (num_Text.calls k t213 _ _ t214 t217 t221 _ ?side1 ?side2 ?side3 A7.out).mono ?_); (case side1 => first | exact hL.out | exact hL.out.drewN _ | exact hL.out.drew | exact hL.out.below (by repeat (first | (with_reducible first | exact HB.out | apply below_alloc | apply pw_below_drewN | apply below_drew1 | refine below_set ?_ GE219.out) | exact HB.out))); (case side2 => refine (Kd.R_reads' (e := 40) (base := w.heap.size) (ok := fun k_ => True) (n := t214.length) (c := co11) ?_).2.2; exact (by (with_reducible repeat (first | apply Kd.R_alloc | apply Kd.R_drewN | apply Kd.R_drew)); exact (Kd.R_mono (Kd.R_far (p := ⟨gb219, 2, none⟩) (Kd.R_far (p := ⟨gb219, 1, none⟩) (Kd.R_far (p := ⟨gb219, 0, none⟩) (Kd.R_types HO216.out BK219.out (by decide)) (fun _ hk => hk.2) (.bool t213)) (fun _ hk => hk.2) (.slice (some ad220) t214.length co11)) (fun _ hk => hk.2) (.int .i64 t217)) (fun _ h_ => h_.1)))); (case side3 => exact (Kd.R_reads' HO216.out).2.1); rintro e w12 ⟨rfl, hb⟩; have n0_ := Aside0.mk (Kd.R_below (by (with_reducible repeat (first | apply Kd.R_alloc | apply Kd.R_drewN | apply Kd.R_drew)); exact (Kd.R_mono (Kd.R_far (p := ⟨gb219, 2, none⟩) (Kd.R_far (p := ⟨gb219, 1, none⟩) (Kd.R_far (p := ⟨gb219, 0, none⟩) (Kd.R_types HO216.out BK219.out (by decide)) (fun _ hk => hk.2) (.bool t213)) (fun _ hk => hk.2) (.slice (some ad220) t214.length co11)) (fun _ hk => hk.2) (.int .i64 t217)) (fun _ h_ => h_.1))) hb); have n1_ := Aside0.mk (blk_below (g := gb219) (o := .cells #[.bool t213, .slice (some ad220) t214.length co11, .int .i64 t217] 25 (0, 0)) (by (with_reducible repeat (first | refine blk_drewN ?_ _ | refine blk_drew ?_ | refine blk_alloc ?_ _)); refine blk_put (cs := #[.bool t213, .slice (some ad220) t214.length co11, .int .i64 0]) ?_ 2 _ rfl; (with_reducible repeat (first | refine blk_drewN ?_ _ | refine blk_drew ?_ | refine blk_alloc ?_ _)); refine blk_put (cs := #[.bool t213, .slice none 0 0, .int .i64 0]) ?_ 1 _ rfl; (with_reducible repeat (first | refine blk_drewN ?_ _ | refine blk_drew ?_ | refine blk_alloc ?_ _)); refine blk_put (cs := #[.bool false, .slice none 0 0, .int .i64 0]) ?_ 0 _ rfl; (with_reducible repeat (first | refine blk_drewN ?_ _ | refine blk_drew ?_ | refine blk_alloc ?_ _)); exact BK219.out) hb); have n2_ := Aside0.mk (below_step (by repeat (first | (with_reducible first | exact HB.out | apply below_alloc | apply pw_below_drewN | apply below_drew1 | refine below_set ?_ GE219.out) | exact HB.out)) hb); clear HO216; clear BK219; clear HB; have HO216 := n0_; have BK219 := n1_; have HB := n2_; clear n0_ n1_ n2_; (try clear hb); (try clear hb2); (try clear hk); (try clear hi)))
            go_ret
            exact ⟨by first | rfl | (simp [errW_none, errW_some] <;> rfl) | (simp [*, errW_none, errW_some] <;> rfl), by repeat (first | (with_reducible first | exact HB.out | apply below_alloc | apply pw_below_drewN | apply below_drew1 | refine below_set ?_ GE219.out) | exact HB.out)⟩
          · rw [if_neg c6] at H
            have c6b0 : (t217 == 2) = false := beq_eq_false_iff_ne.mpr c6
            have c6b1 : (t217 != 2) = true := bne_iff_ne.mpr c6
            obtain rfl := Option.some.inj H
            go_enter Tryd.func9, Tryd.ntmps9
            go_wp2_with (first | ((with_reducible refine gate_callee (f := 10) rfl ?_); refine goesL_ (some 4) rfl rfl Tryd.func10 (by kernel_rfl) rfl #[.string (⟨#[49, 46, 53, 48, 101, 51]⟩ : ByteArray)] rfl (by (try simp only [List.map_toArray, List.map_cons, List.map_nil]); first | done | rfl | (simp only [List.length_drop, List.length_take]; rfl)) ?_; (with_reducible refine (num_Parse.calls k (⟨#[49, 46, 53, 48, 101, 51]⟩ : ByteArray) t213 t214 t217 t218 _ ?side1 A1.out).mono ?_); (case side1 => first | exact hL.out | exact hL.out.drewN _ | exact hL.out.drew | exact hL.out.below (by repeat (first | (with_reducible first | exact HB.out | apply below_alloc | apply pw_below_drewN | apply below_drew1) | exact HB.out))); rintro e w13 ⟨v215, rfl, ho0, hb⟩; refine ⟨_, rfl, ?_⟩; have n0_ := Aside0.mk (Kd.R_lower ho0 (below_size (by repeat (first | (with_reducible first | exact HB.out | apply below_alloc | apply pw_below_drewN | apply below_drew1) | exact HB.out)))); have n1_ := Aside0.mk (below_step (by repeat (first | (with_reducible first | exact HB.out | apply below_alloc | apply pw_below_drewN | apply below_drew1) | exact HB.out)) hb); clear HB; have HO216 := n0_; have HB := n1_; clear n0_ n1_; (try clear hb); (try clear hb2); (try clear hk); (try clear hi); (try clear ho0)) | ((with_reducible refine gate_dst (N := 1) rfl ?_); (try (refine gate_guard (by rfl) ?_; dsimp only)); refine box_event ?hg (N := 1) ?hd (cs := #[.bool false, .slice none 0 0, .int .i64 0]) (t := 25) ?hr ?_; (case hd => rfl); (case hg => rfl); (case hr => first | (go_simp; done) | (go_simp; rfl) | (go_simp; simp only [x_u32u8, x_u8, x_u32, x_u64, x_mm]; first | done | rfl)); intro gb219 hg w14 hbox hb; have n0_ := Aside0.mk (Kd.R_below (by (with_reducible repeat (first | apply Kd.R_alloc | apply Kd.R_drewN | apply Kd.R_drew)); exact HO216.out) hb); have n1_ := Aside0.mk (below_step (by repeat (first | (with_reducible first | exact HB.out | apply below_alloc | apply pw_below_drewN | apply below_drew1) | exact HB.out)) hb); have n2_ := Aside0.mk (hbox); have n3_ := Aside0.mk ((by rw [hg]; exact (below_size (by repeat (first | (with_reducible first | exact HB.out | apply below_alloc | apply pw_below_drewN | apply below_drew1) | exact HB.out))) : w.heap.size ≤ gb219)); have n4_ := Aside0.mk ((by rw [hg]; exact (below_size (by repeat (first | (with_reducible first | exact HB.out | apply below_alloc | apply pw_below_drewN | apply below_drew1) | exact HB.out))) : w.heap.size ≤ gb219)); clear HO216; clear HB; have HO216 := n0_; have HB := n1_; have BK219 := n2_; have GW219 := n3_; have GE219 := n4_; clear n0_ n1_ n2_ n3_ n4_; clear hb hbox hg; have hcz15_0 : w14.cell? ⟨gb219, 0, none⟩ = some (.bool false) := (blk_cell BK219.out 0).trans rfl; have hcz15_1 : w14.cell? ⟨gb219, 1, none⟩ = some (.slice none 0 0) := (blk_cell BK219.out 1).trans rfl; have hcz15_2 : w14.cell? ⟨gb219, 2, none⟩ = some (.int .i64 0) := (blk_cell BK219.out 2).trans rfl; have hfz15_0 := blk_frozen BK219.out 0; have hfz15_1 := blk_frozen BK219.out 1; have hfz15_2 := blk_frozen BK219.out 2; obtain ⟨Ao16, co16, eo16⟩ := Kd.R_slice HO216.out; subst eo16; have p220 : 0 ≤ (0 : Int) := (by omega); have q220 : 0 < (t214.length : Int) := of_decide_eq_true (by first | (with_reducible assumption) | assumption); obtain ⟨ad220, e220, hx220_0⟩ := Kd.at_int (Kd.R_reads' HO216.out).2.2 0 p220 q220; cases e220; have qi220 : (0 < t214.length) = True := eq_true (by omega); (try rw [show ((0 : Int)).toNat = 0 from rfl] at hx220_0); (try rw [Addr.add_zero'] at hx220_0); have hn220_0 : ad220.block ≠ gb219 := Kd.own_blk (Kd.R_ne HO216.out BK219.out (by decide)); have hn220_1 : ad220.block ≠ gb219 := Kd.own_blk (Kd.R_ne HO216.out BK219.out (by decide)); have hn220_2 : ad220.block ≠ gb219 := Kd.own_blk (Kd.R_ne HO216.out BK219.out (by decide)); replace hx220_0 := (cell_far (p := ⟨gb219, 0, none⟩) (by first | (rw [add_block]; exact hn220_0) | (show (Addr.add _ _).block ≠ _; rw [add_block]; exact hn220_0) | exact hn220_0) (.bool t213)).trans hx220_0; replace hx220_0 := (cell_far (p := ⟨gb219, 1, none⟩) (by first | (rw [add_block]; exact hn220_1) | (show (Addr.add _ _).block ≠ _; rw [add_block]; exact hn220_1) | exact hn220_1) (.slice (some ad220) t214.length co16)).trans hx220_0; replace hx220_0 := (cell_far (p := ⟨gb219, 2, none⟩) (by first | (rw [add_block]; exact hn220_2) | (show (Addr.add _ _).block ≠ _; rw [add_block]; exact hn220_2) | exact hn220_2) (.int .i64 t217)).trans hx220_0; clear hn220_0; clear hn220_1; clear hn220_2; replace p220 := eq_true p220; replace q220 := eq_true q220))
            go_ret
            exact ⟨by first | rfl | (simp [errW_none, errW_some] <;> rfl) | (simp [*, errW_none, errW_some] <;> rfl), by repeat (first | (with_reducible first | exact HB.out | apply below_alloc | apply pw_below_drewN | apply below_drew1 | refine below_set ?_ GE219.out) | exact HB.out)⟩
        · rw [if_neg c5] at H
          have c5b0 : ((rd t214 0) == 15) = false := beq_eq_false_iff_ne.mpr c5
          have c5b1 : ((rd t214 0) != 15) = true := bne_iff_ne.mpr c5
          obtain rfl := Option.some.inj H
          go_enter Tryd.func9, Tryd.ntmps9
          go_wp2_with (first | ((with_reducible refine gate_callee (f := 10) rfl ?_); refine goesL_ (some 4) rfl rfl Tryd.func10 (by kernel_rfl) rfl #[.string (⟨#[49, 46, 53, 48, 101, 51]⟩ : ByteArray)] rfl (by (try simp only [List.map_toArray, List.map_cons, List.map_nil]); first | done | rfl | (simp only [List.length_drop, List.length_take]; rfl)) ?_; (with_reducible refine (num_Parse.calls k (⟨#[49, 46, 53, 48, 101, 51]⟩ : ByteArray) t213 t214 t217 t218 _ ?side1 A1.out).mono ?_); (case side1 => first | exact hL.out | exact hL.out.drewN _ | exact hL.out.drew | exact hL.out.below (by repeat (first | (with_reducible first | exact HB.out | apply below_alloc | apply pw_below_drewN | apply below_drew1) | exact HB.out))); rintro e w17 ⟨v215, rfl, ho0, hb⟩; refine ⟨_, rfl, ?_⟩; have n0_ := Aside0.mk (Kd.R_lower ho0 (below_size (by repeat (first | (with_reducible first | exact HB.out | apply below_alloc | apply pw_below_drewN | apply below_drew1) | exact HB.out)))); have n1_ := Aside0.mk (below_step (by repeat (first | (with_reducible first | exact HB.out | apply below_alloc | apply pw_below_drewN | apply below_drew1) | exact HB.out)) hb); clear HB; have HO216 := n0_; have HB := n1_; clear n0_ n1_; (try clear hb); (try clear hb2); (try clear hk); (try clear hi); (try clear ho0)) | ((with_reducible refine gate_dst (N := 1) rfl ?_); (try (refine gate_guard (by rfl) ?_; dsimp only)); refine box_event ?hg (N := 1) ?hd (cs := #[.bool false, .slice none 0 0, .int .i64 0]) (t := 25) ?hr ?_; (case hd => rfl); (case hg => rfl); (case hr => first | (go_simp; done) | (go_simp; rfl) | (go_simp; simp only [x_u32u8, x_u8, x_u32, x_u64, x_mm]; first | done | rfl)); intro gb219 hg w18 hbox hb; have n0_ := Aside0.mk (Kd.R_below (by (with_reducible repeat (first | apply Kd.R_alloc | apply Kd.R_drewN | apply Kd.R_drew)); exact HO216.out) hb); have n1_ := Aside0.mk (below_step (by repeat (first | (with_reducible first | exact HB.out | apply below_alloc | apply pw_below_drewN | apply below_drew1) | exact HB.out)) hb); have n2_ := Aside0.mk (hbox); have n3_ := Aside0.mk ((by rw [hg]; exact (below_size (by repeat (first | (with_reducible first | exact HB.out | apply below_alloc | apply pw_below_drewN | apply below_drew1) | exact HB.out))) : w.heap.size ≤ gb219)); have n4_ := Aside0.mk ((by rw [hg]; exact (below_size (by repeat (first | (with_reducible first | exact HB.out | apply below_alloc | apply pw_below_drewN | apply below_drew1) | exact HB.out))) : w.heap.size ≤ gb219)); clear HO216; clear HB; have HO216 := n0_; have HB := n1_; have BK219 := n2_; have GW219 := n3_; have GE219 := n4_; clear n0_ n1_ n2_ n3_ n4_; clear hb hbox hg; have hcz19_0 : w18.cell? ⟨gb219, 0, none⟩ = some (.bool false) := (blk_cell BK219.out 0).trans rfl; have hcz19_1 : w18.cell? ⟨gb219, 1, none⟩ = some (.slice none 0 0) := (blk_cell BK219.out 1).trans rfl; have hcz19_2 : w18.cell? ⟨gb219, 2, none⟩ = some (.int .i64 0) := (blk_cell BK219.out 2).trans rfl; have hfz19_0 := blk_frozen BK219.out 0; have hfz19_1 := blk_frozen BK219.out 1; have hfz19_2 := blk_frozen BK219.out 2; obtain ⟨Ao20, co20, eo20⟩ := Kd.R_slice HO216.out; subst eo20; have p220 : 0 ≤ (0 : Int) := (by omega); have q220 : 0 < (t214.length : Int) := of_decide_eq_true (by first | (with_reducible assumption) | assumption); obtain ⟨ad220, e220, hx220_0⟩ := Kd.at_int (Kd.R_reads' HO216.out).2.2 0 p220 q220; cases e220; have qi220 : (0 < t214.length) = True := eq_true (by omega); (try rw [show ((0 : Int)).toNat = 0 from rfl] at hx220_0); (try rw [Addr.add_zero'] at hx220_0); have hn220_0 : ad220.block ≠ gb219 := Kd.own_blk (Kd.R_ne HO216.out BK219.out (by decide)); have hn220_1 : ad220.block ≠ gb219 := Kd.own_blk (Kd.R_ne HO216.out BK219.out (by decide)); have hn220_2 : ad220.block ≠ gb219 := Kd.own_blk (Kd.R_ne HO216.out BK219.out (by decide)); replace hx220_0 := (cell_far (p := ⟨gb219, 0, none⟩) (by first | (rw [add_block]; exact hn220_0) | (show (Addr.add _ _).block ≠ _; rw [add_block]; exact hn220_0) | exact hn220_0) (.bool t213)).trans hx220_0; replace hx220_0 := (cell_far (p := ⟨gb219, 1, none⟩) (by first | (rw [add_block]; exact hn220_1) | (show (Addr.add _ _).block ≠ _; rw [add_block]; exact hn220_1) | exact hn220_1) (.slice (some ad220) t214.length co20)).trans hx220_0; replace hx220_0 := (cell_far (p := ⟨gb219, 2, none⟩) (by first | (rw [add_block]; exact hn220_2) | (show (Addr.add _ _).block ≠ _; rw [add_block]; exact hn220_2) | exact hn220_2) (.int .i64 t217)).trans hx220_0; clear hn220_0; clear hn220_1; clear hn220_2; replace p220 := eq_true p220; replace q220 := eq_true q220))
          go_ret
          exact ⟨by first | rfl | (simp [errW_none, errW_some] <;> rfl) | (simp [*, errW_none, errW_some] <;> rfl), by repeat (first | (with_reducible first | exact HB.out | apply below_alloc | apply pw_below_drewN | apply below_drew1 | refine below_set ?_ GE219.out) | exact HB.out)⟩
      · rw [if_neg c4] at H
        exact absurd H (by simp)
    · rw [if_neg c3] at H
      have c3b0 : ((t214.length : Int) == 1) = false := beq_eq_false_iff_ne.mpr c3
      have c3b1 : ((t214.length : Int) != 1) = true := bne_iff_ne.mpr c3
      obtain rfl := Option.some.inj H
      go_enter Tryd.func9, Tryd.ntmps9
      go_wp2_with (first | ((with_reducible refine gate_callee (f := 10) rfl ?_); refine goesL_ (some 4) rfl rfl Tryd.func10 (by kernel_rfl) rfl #[.string (⟨#[49, 46, 53, 48, 101, 51]⟩ : ByteArray)] rfl (by (try simp only [List.map_toArray, List.map_cons, List.map_nil]); first | done | rfl | (simp only [List.length_drop, List.length_take]; rfl)) ?_; (with_reducible refine (num_Parse.calls k (⟨#[49, 46, 53, 48, 101, 51]⟩ : ByteArray) t213 t214 t217 t218 _ ?side1 A1.out).mono ?_); (case side1 => first | exact hL.out | exact hL.out.drewN _ | exact hL.out.drew | exact hL.out.below (by repeat (first | (with_reducible first | exact HB.out | apply below_alloc | apply pw_below_drewN | apply below_drew1) | exact HB.out))); rintro e w21 ⟨v215, rfl, ho0, hb⟩; refine ⟨_, rfl, ?_⟩; have n0_ := Aside0.mk (Kd.R_lower ho0 (below_size (by repeat (first | (with_reducible first | exact HB.out | apply below_alloc | apply pw_below_drewN | apply below_drew1) | exact HB.out)))); have n1_ := Aside0.mk (below_step (by repeat (first | (with_reducible first | exact HB.out | apply below_alloc | apply pw_below_drewN | apply below_drew1) | exact HB.out)) hb); clear HB; have HO216 := n0_; have HB := n1_; clear n0_ n1_; (try clear hb); (try clear hb2); (try clear hk); (try clear hi); (try clear ho0)) | ((with_reducible refine gate_dst (N := 1) rfl ?_); (try (refine gate_guard (by rfl) ?_; dsimp only)); refine box_event ?hg (N := 1) ?hd (cs := #[.bool false, .slice none 0 0, .int .i64 0]) (t := 25) ?hr ?_; (case hd => rfl); (case hg => rfl); (case hr => first | (go_simp; done) | (go_simp; rfl) | (go_simp; simp only [x_u32u8, x_u8, x_u32, x_u64, x_mm]; first | done | rfl)); intro gb219 hg w22 hbox hb; have n0_ := Aside0.mk (Kd.R_below (by (with_reducible repeat (first | apply Kd.R_alloc | apply Kd.R_drewN | apply Kd.R_drew)); exact HO216.out) hb); have n1_ := Aside0.mk (below_step (by repeat (first | (with_reducible first | exact HB.out | apply below_alloc | apply pw_below_drewN | apply below_drew1) | exact HB.out)) hb); have n2_ := Aside0.mk (hbox); have n3_ := Aside0.mk ((by rw [hg]; exact (below_size (by repeat (first | (with_reducible first | exact HB.out | apply below_alloc | apply pw_below_drewN | apply below_drew1) | exact HB.out))) : w.heap.size ≤ gb219)); have n4_ := Aside0.mk ((by rw [hg]; exact (below_size (by repeat (first | (with_reducible first | exact HB.out | apply below_alloc | apply pw_below_drewN | apply below_drew1) | exact HB.out))) : w.heap.size ≤ gb219)); clear HO216; clear HB; have HO216 := n0_; have HB := n1_; have BK219 := n2_; have GW219 := n3_; have GE219 := n4_; clear n0_ n1_ n2_ n3_ n4_; clear hb hbox hg; have hcz23_0 : w22.cell? ⟨gb219, 0, none⟩ = some (.bool false) := (blk_cell BK219.out 0).trans rfl; have hcz23_1 : w22.cell? ⟨gb219, 1, none⟩ = some (.slice none 0 0) := (blk_cell BK219.out 1).trans rfl; have hcz23_2 : w22.cell? ⟨gb219, 2, none⟩ = some (.int .i64 0) := (blk_cell BK219.out 2).trans rfl; have hfz23_0 := blk_frozen BK219.out 0; have hfz23_1 := blk_frozen BK219.out 1; have hfz23_2 := blk_frozen BK219.out 2; obtain ⟨Ao24, co24, eo24⟩ := Kd.R_slice HO216.out; subst eo24))
      go_ret
      exact ⟨by first | rfl | (simp [errW_none, errW_some] <;> rfl) | (simp [*, errW_none, errW_some] <;> rfl), by repeat (first | (with_reducible first | exact HB.out | apply below_alloc | apply pw_below_drewN | apply below_drew1 | refine below_set ?_ GE219.out) | exact HB.out)⟩
  · rw [if_neg c2] at H
    have c2b0 : (t218 == 0) = false := beq_eq_false_iff_ne.mpr c2
    have c2b1 : (t218 != 0) = true := bne_iff_ne.mpr c2
    obtain rfl := Option.some.inj H
    go_enter Tryd.func9, Tryd.ntmps9
    go_wp2_with (first | ((with_reducible refine gate_callee (f := 10) rfl ?_); refine goesL_ (some 4) rfl rfl Tryd.func10 (by kernel_rfl) rfl #[.string (⟨#[49, 46, 53, 48, 101, 51]⟩ : ByteArray)] rfl (by (try simp only [List.map_toArray, List.map_cons, List.map_nil]); first | done | rfl | (simp only [List.length_drop, List.length_take]; rfl)) ?_; (with_reducible refine (num_Parse.calls k (⟨#[49, 46, 53, 48, 101, 51]⟩ : ByteArray) t213 t214 t217 t218 _ ?side1 A1.out).mono ?_); (case side1 => first | exact hL.out | exact hL.out.drewN _ | exact hL.out.drew | exact hL.out.below (by repeat (first | (with_reducible first | exact HB.out | apply below_alloc | apply pw_below_drewN | apply below_drew1) | exact HB.out))); rintro e w25 ⟨v215, rfl, ho0, hb⟩; refine ⟨_, rfl, ?_⟩; have n0_ := Aside0.mk (Kd.R_lower ho0 (below_size (by repeat (first | (with_reducible first | exact HB.out | apply below_alloc | apply pw_below_drewN | apply below_drew1) | exact HB.out)))); have n1_ := Aside0.mk (below_step (by repeat (first | (with_reducible first | exact HB.out | apply below_alloc | apply pw_below_drewN | apply below_drew1) | exact HB.out)) hb); clear HB; have HO216 := n0_; have HB := n1_; clear n0_ n1_; (try clear hb); (try clear hb2); (try clear hk); (try clear hi); (try clear ho0)) | ((with_reducible refine gate_dst (N := 1) rfl ?_); (try (refine gate_guard (by rfl) ?_; dsimp only)); refine box_event ?hg (N := 1) ?hd (cs := #[.bool false, .slice none 0 0, .int .i64 0]) (t := 25) ?hr ?_; (case hd => rfl); (case hg => rfl); (case hr => first | (go_simp; done) | (go_simp; rfl) | (go_simp; simp only [x_u32u8, x_u8, x_u32, x_u64, x_mm]; first | done | rfl)); intro gb219 hg w26 hbox hb; have n0_ := Aside0.mk (Kd.R_below (by (with_reducible repeat (first | apply Kd.R_alloc | apply Kd.R_drewN | apply Kd.R_drew)); exact HO216.out) hb); have n1_ := Aside0.mk (below_step (by repeat (first | (with_reducible first | exact HB.out | apply below_alloc | apply pw_below_drewN | apply below_drew1) | exact HB.out)) hb); have n2_ := Aside0.mk (hbox); have n3_ := Aside0.mk ((by rw [hg]; exact (below_size (by repeat (first | (with_reducible first | exact HB.out | apply below_alloc | apply pw_below_drewN | apply below_drew1) | exact HB.out))) : w.heap.size ≤ gb219)); have n4_ := Aside0.mk ((by rw [hg]; exact (below_size (by repeat (first | (with_reducible first | exact HB.out | apply below_alloc | apply pw_below_drewN | apply below_drew1) | exact HB.out))) : w.heap.size ≤ gb219)); clear HO216; clear HB; have HO216 := n0_; have HB := n1_; have BK219 := n2_; have GW219 := n3_; have GE219 := n4_; clear n0_ n1_ n2_ n3_ n4_; clear hb hbox hg; have hcz27_0 : w26.cell? ⟨gb219, 0, none⟩ = some (.bool false) := (blk_cell BK219.out 0).trans rfl; have hcz27_1 : w26.cell? ⟨gb219, 1, none⟩ = some (.slice none 0 0) := (blk_cell BK219.out 1).trans rfl; have hcz27_2 : w26.cell? ⟨gb219, 2, none⟩ = some (.int .i64 0) := (blk_cell BK219.out 2).trans rfl; have hfz27_0 := blk_frozen BK219.out 0; have hfz27_1 := blk_frozen BK219.out 1; have hfz27_2 := blk_frozen BK219.out 2; obtain ⟨Ao28, co28, eo28⟩ := Kd.R_slice HO216.out; subst eo28))
    go_ret
    exact ⟨by first | rfl | (simp [errW_none, errW_some] <;> rfl) | (simp [*, errW_none, errW_some] <;> rfl), by repeat (first | (with_reducible first | exact HB.out | apply below_alloc | apply pw_below_drewN | apply below_drew1 | refine below_set ?_ GE219.out) | exact HB.out)⟩

end Go.Proofs.YtmkdcokdilllcaaDoor.X
/- The first sentence holds; and so does the law of texts. -/
namespace Go.Proofs.YtmkdcokdilllcaaDoor.X
open Go.RowKit Go.Proofs.YtmkdcokdilllcaaDoorW.PrintWords Go.Proofs.YtmkdcokdilllcaaDoorW.PrintMore
set_option linter.unusedVariables false
set_option linter.unusedSimpArgs false
theorem tz15 : tz 15 = (15, 0) := tz_self (by decide)
theorem tz150 : tz 150 = (15, 1) := by rw [tz_ten (by decide) (by decide), show 150 / 10 = 15 from rfl, tz15]
theorem lim15 : lim 15 = [15] := by rw [lim_pos (by decide), show 15 / 4294967296 = 0 from rfl, lim_zero]; rfl
theorem make150 : makeS false 150 1 = (false, [15], 2, true) := by
  unfold makeS
  rw [tz150]
  simp only [lim15]
  rfl
theorem awake_spec : resS (specL [49, 46, 53, 48, 101, 51]) = (false, [15], 2, 0) := by
  have h : specL [49, 46, 53, 48, 101, 51] = some (false, [49, 53, 48], 2, some (false, [51])) := by decide
  rw [h]
  simp only [resS]
  rw [show dec [49, 53, 48] = 150 from by decide, show expL (some (false, [51])) = 3 from by decide, show ((3 : Int) - ((2 : Nat) : Int)) = 1 from rfl, make150]
  rfl
theorem ok15 : Ok [15] := ok_one (by decide) (by decide)
theorem val15 : val [15] = 15 := by decide
theorem check15 : Ev (fun k => num_Check.f k false [15] 2) true := by
  have h := nat_trim ok15 (by decide)
  rw [val15, tz15] at h
  have hw : wrap64 ((([15] : List Int).length : Int) - 1) = 0 := wrap64_ok (n := 0) (by decide) (by decide)
  refine Ev.congr (f := fun k => (nat_Trim.f k [15]).bind fun bt => some (bt.2 == 0)) (fun k => ?_) (Ev.bind h (Ev.now _))
  unfold num_Check.f
  rw [hw]
  rfl
theorem digits15 : nat_Digits.f [15] = some ⟨#[49, 53]⟩ := by
  unfold nat_Digits.f
  rw [if_pos ⟨ok15, by decide⟩, val15]
  rw [Lib.decDigits, dif_neg (by decide), Lib.decDigits, dif_pos (by decide)]
  rfl
theorem repeat2 : strings_Repeat.f ⟨#[48]⟩ 2 = some ⟨#[48, 48]⟩ := by
  unfold strings_Repeat.f
  rw [if_pos (by decide)]
  rfl
theorem text15 : Ev (fun k => num_Text.f k false [15] 2) ⟨#[49, 53, 48, 48]⟩ := by
  have hof : Ev (fun k => num_of.f k false [15] 2) (false, [15], 2) := Ev.congr (fun k => rfl) (Ev.bind check15 (Ev.congr (fun k => if_pos rfl) (Ev.now _)))
  refine Ev.congr (fun k => rfl) (Ev.bind hof ?_)
  simp only [digits15, Option.bind_some, Bool.false_eq_true, if_false]
  have hw : wrap64 (((ByteArray.mk #[49, 53]).size : Int) + 2) = 4 := wrap64_ok (n := 4) (by decide) (by decide)
  rw [hw]
  refine Ev.step (f := fun k => num_Text.j1 k ⟨#[49, 53]⟩ 4 ⟨#[]⟩ true false [15] 2) (fun k => ?_) ?_
  · simp only [num_Text.j0]
    rfl
  · refine Ev.step (f := fun _ => some ⟨#[49, 53, 48, 48]⟩) (fun k => ?_) (Ev.now _)
    simp only [num_Text.j1, if_true, repeat2, Option.bind_some]
    rfl
theorem awake_true : Ev (fun k => erratumlaw02_awake.f k) true := by
  have h := num_text ⟨#[49, 46, 53, 48, 101, 51]⟩ (by decide)
  rw [show (ByteArray.mk #[49, 46, 53, 48, 101, 51]).data.toList = [49, 46, 53, 48, 101, 51] from rfl, awake_spec] at h
  refine Ev.congr (fun k => rfl) (Ev.bind h ?_)
  refine Ev.congr (f := fun k => (num_Text.f k false [15] 2).bind fun t => some (t.toList == [49, 53, 48, 48])) (fun k => ?_) (Ev.bind text15 ?_)
  · rfl
  · rw [Lib.toList_data]
    exact Ev.now _
end Go.Proofs.YtmkdcokdilllcaaDoor.X
