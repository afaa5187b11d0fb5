import Derived.Test.YtfimffgfnhplkaaGreatDoorS5
set_option maxRecDepth 100000
set_option linter.unusedVariables false
set_option linter.unusedSimpArgs false
namespace Go.Proofs.YtfimffgfnhplkaaGreatDoor.F
open Go Go.RowKit
def rd (l : List Int) (i : Int) : Int := l.getD i.toNat 0
def trimF (l : List Int) : List Int := (l.reverse.dropWhile (· == 0)).reverse
theorem trimF_nil : trimF [] = [] := rfl
theorem trimF_snoc (l : List Int) (x : Int) : trimF (l ++ [x]) = if x = 0 then trimF l else l ++ [x] := by
 unfold trimF
 by_cases h : x = 0 <;> simp [h]
theorem take_snoc' (l : List Int) (m : Nat) (h : m < l.length) : l.take (m + 1) = l.take m ++ [rd l m] := by
 rw [List.take_succ_eq_append_getElem h]
 simp [rd, h]
theorem getD_rd (l : List Int) (n : Nat) : l.getD n (dflt (.int .u32)) = rd l n := rfl
theorem trimF_zero {l : List Int} {n : Nat} (h : n < l.length) (hz : l.getD n (dflt (.int .u32)) = 0) : trimF (l.take (n + 1)) = trimF (l.take n) := by
 rw [take_snoc' l n h, trimF_snoc, if_pos (by rw [← getD_rd]; exact hz)]
theorem trimF_stop {l : List Int} {n : Nat} (h : n < l.length) (hz : l.getD n (dflt (.int .u32)) ≠ 0) : trimF (l.take (n + 1)) = l.take (n + 1) := by
 rw [take_snoc' l n h, trimF_snoc, if_neg (by rw [← getD_rd]; exact hz)]
def Ok (l : List Int) : Prop := ∀ x ∈ l, 0 ≤ x ∧ x < 4294967296
def val : List Int → Nat
 | [] => 0
 | x :: l => x.toNat + 4294967296 * val l
def lim (n : Nat) : List Int := if n = 0 then [] else ((n % 4294967296 : Nat) : Int) :: lim (n / 4294967296)
termination_by n
decreasing_by omega
theorem Ok.nil : Ok [] := fun x hx => by simp at hx
theorem Ok.cons {x : Int} {l : List Int} (h0 : 0 ≤ x) (h1 : x < 4294967296) (h : Ok l) : Ok (x :: l) := fun y hy => by
 rcases List.mem_cons.1 hy with rfl | hy
 exact ⟨h0, h1⟩
 exact h y hy
theorem Ok.head {x : Int} {l : List Int} (h : Ok (x :: l)) : 0 ≤ x ∧ x < 4294967296 := h x (by simp)
theorem Ok.tail {x : Int} {l : List Int} (h : Ok (x :: l)) : Ok l := fun y hy => h y (by simp [hy])
theorem Ok.append {a b : List Int} (ha : Ok a) (hb : Ok b) : Ok (a ++ b) := fun x hx => by
 rcases List.mem_append.1 hx with h | h
 exact ha x h
 exact hb x h
theorem Ok.take {a : List Int} (h : Ok a) (n : Nat) : Ok (a.take n) := fun x hx => h x (List.mem_of_mem_take hx)
theorem Ok.drop {a : List Int} (h : Ok a) (n : Nat) : Ok (a.drop n) := fun x hx => h x (List.mem_of_mem_drop hx)
theorem Ok.set {a : List Int} (h : Ok a) (n : Nat) {x : Int} (h0 : 0 ≤ x) (h1 : x < 4294967296) : Ok (a.set n x) := fun y hy => by
 rcases List.mem_or_eq_of_mem_set hy with hy | rfl
 exact h y hy
 exact ⟨h0, h1⟩
theorem Ok.rep (n : Nat) : Ok (List.replicate n 0) := fun x hx => by
 obtain rfl := List.eq_of_mem_replicate hx
 omega
theorem Ok.rdk {l : List Int} (h : Ok l) (i : Int) : 0 ≤ rd l i ∧ rd l i < 4294967296 := by
 unfold rd
 rw [List.getD_eq_getElem?_getD]
 rcases Nat.lt_or_ge i.toNat l.length with hi | hi
 rw [List.getElem?_eq_getElem hi]
 exact h _ (List.getElem_mem hi)
 rw [List.getElem?_eq_none hi]
 simp
theorem lim_zero : lim 0 = [] := by unfold lim; simp
theorem lim_pos {n : Nat} (h : n ≠ 0) : lim n = ((n % 4294967296 : Nat) : Int) :: lim (n / 4294967296) := by rw [lim, if_neg h]
theorem lim_ok (n : Nat) : Ok (lim n) := by
 induction n using Nat.strongRecOn with
 | _ n ih =>
  by_cases h : n = 0
  subst h; rw [lim_zero]; exact Ok.nil
  rw [lim_pos h]
  exact Ok.cons (by omega) (by omega) (ih _ (by omega))
theorem val_lim (n : Nat) : val (lim n) = n := by
 induction n using Nat.strongRecOn with
 | _ n ih =>
  by_cases h : n = 0
  subst h; rw [lim_zero]; rfl
  rw [lim_pos h, val, ih _ (by omega)]
  omega
theorem lim_nil_iff (n : Nat) : lim n = [] ↔ n = 0 := by
 constructor
 intro h
 have := val_lim n
 rw [h] at this
 exact this.symm
 rintro rfl
 exact lim_zero
theorem lim_len_zero (n : Nat) : (lim n).length = 0 ↔ n = 0 := by rw [List.length_eq_zero_iff, lim_nil_iff]
theorem val_append (a b : List Int) : val (a ++ b) = val a + 4294967296 ^ a.length * val b := by
 induction a with
 | nil => simp [val]
 | cons x a ih => simp only [List.cons_append, val, ih, List.length_cons, Nat.pow_succ]; grind
theorem val_lt {l : List Int} (h : Ok l) : val l < 4294967296 ^ l.length := by
 induction l with
 | nil => simp [val]
 | cons x l ih =>
  have := ih h.tail
  have := h.head
  simp only [val, List.length_cons, Nat.pow_succ]
  omega
theorem trim_lim {l : List Int} (h : Ok l) : trimF l = lim (val l) := by
 have key : ∀ (n : Nat) (l : List Int), l.length = n → Ok l → trimF l = lim (val l) := by
  intro n
  induction n with
  | zero =>
   intro l hl _
   obtain rfl := List.eq_nil_of_length_eq_zero hl
   simp [trimF_nil, val, lim_zero]
  | succ n ih =>
   intro l hl hok
   rcases List.eq_nil_or_concat l with rfl | ⟨l', x, rfl⟩
   simp at hl
   rw [List.concat_eq_append] at hl hok ⊢
   have hx := hok x (by simp)
   have hok' : Ok l' := fun y hy => hok y (by simp [hy])
   rw [trimF_snoc]
   by_cases h0 : x = 0
   subst h0
   rw [if_pos rfl, ih l' (by simpa using hl) hok', val_append]
   simp [val]
   rw [if_neg h0]
   have key2 : ∀ (l' : List Int), Ok l' → l' ++ [x] = lim (val (l' ++ [x])) := by
    intro l'
    induction l' with
    | nil =>
     intro _
     have : x.toNat ≠ 0 := by omega
     simp only [List.nil_append, val, Nat.mul_zero, Nat.add_zero]
     rw [lim_pos this, Nat.mod_eq_of_lt (by omega), Nat.div_eq_of_lt (by omega), lim_zero]
     congr 1
     omega
    | cons y l' ih2 =>
     intro hok
     have hy := hok.head
     have ih3 := ih2 hok.tail
     have hv : val (l' ++ [x]) ≠ 0 := by
      intro hz
      rw [hz, lim_zero] at ih3
      simp at ih3
     simp only [List.cons_append, val]
     rw [lim_pos (by omega), show (y.toNat + 4294967296 * val (l' ++ [x])) % 4294967296 = y.toNat by omega, show (y.toNat + 4294967296 * val (l' ++ [x])) / 4294967296 = val (l' ++ [x]) by omega, ← ih3]
     congr 1
     omega
   exact key2 l' hok'
 exact key _ l rfl h
theorem lim_trim (n : Nat) : trimF (lim n) = lim n := by rw [trim_lim (lim_ok n), val_lim]
theorem lim_len_le {n k : Nat} (h : n < 4294967296 ^ k) : (lim n).length ≤ k := by
  induction k generalizing n with
  | zero => have : n = 0 := by omega
            subst this; simp [lim_zero]
  | succ k ih =>
    by_cases h0 : n = 0
    · subst h0; simp [lim_zero]
    · rw [lim_pos h0, List.length_cons]
      have := ih (n := n / 4294967296) (by rw [Nat.pow_succ] at h; omega)
      omega
theorem val_drop {l : List Int} {m : Nat} (h : m < l.length) : val (l.drop m) = (rd l m).toNat + 4294967296 * val (l.drop (m + 1)) := by
 rw [List.drop_eq_getElem_cons h, val]
 congr 2
 simp [rd, h]
def tz (n : Nat) : Nat × Nat := if n = 0 then (0, 0) else if n % 10 = 0 then ((tz (n / 10)).1, (tz (n / 10)).2 + 1) else (n, 0)
termination_by n
decreasing_by all_goals omega
theorem tz_zero : tz 0 = (0, 0) := by rw [tz]; simp
theorem tz_ten {n : Nat} (h : n ≠ 0) (h1 : n % 10 = 0) : tz n = ((tz (n / 10)).1, (tz (n / 10)).2 + 1) := by rw [tz, if_neg h, if_pos h1]
theorem tz_self {n : Nat} (h1 : n % 10 ≠ 0) : tz n = (n, 0) := by rw [tz, if_neg (by omega), if_neg h1]
theorem tz_val (n : Nat) : (tz n).1 * 10 ^ (tz n).2 = n := by
 induction n using Nat.strongRecOn with
 | _ n ih =>
  by_cases h : n = 0
  subst h; rw [tz_zero]; rfl
  by_cases h1 : n % 10 = 0
  rw [tz_ten h h1]
  have := ih (n / 10) (by omega)
  simp only [Nat.pow_succ]
  rw [← Nat.mul_assoc, this]
  omega
  rw [tz_self h1]; simp
theorem tz_mod {n : Nat} (h : n ≠ 0) : (tz n).1 % 10 ≠ 0 := by
 induction n using Nat.strongRecOn with
 | _ n ih =>
  by_cases h1 : n % 10 = 0
  rw [tz_ten h h1]
  exact ih (n / 10) (by omega) (by omega)
  rw [tz_self h1]; exact h1
theorem tz_le (n : Nat) : (tz n).1 ≤ n := by
 have h := tz_val n
 have : 1 ≤ 10 ^ (tz n).2 := Nat.pow_pos (by decide)
 calc (tz n).1 = (tz n).1 * 1 := by rw [Nat.mul_one]
  _ ≤ (tz n).1 * 10 ^ (tz n).2 := Nat.mul_le_mul_left _ this
  _ = n := h
theorem tz_bits (m : Nat) : ∀ n : Nat, n < 2 ^ m → (tz n).2 ≤ m := by
 induction m with
 | zero =>
  intro n h
  obtain rfl : n = 0 := by simpa using h
  rw [tz_zero]; exact Nat.le_refl _
 | succ m ih =>
  intro n h
  by_cases h0 : n = 0
  subst h0; rw [tz_zero]; exact Nat.zero_le _
  by_cases h1 : n % 10 = 0
  rw [tz_ten h0 h1]
  have := ih (n / 10) (by rw [Nat.pow_succ] at h; omega)
  simp only
  omega
  rw [tz_self h1]; exact Nat.zero_le _
theorem tz_limbs {n L : Nat} (h : n < 4294967296 ^ L) : (tz n).2 ≤ 32 * L := by
 refine tz_bits _ n ?_
 rw [Nat.pow_mul]
 exact h
open Go.Proofs.Tryz
theorem con270 (l : List Int) (hl : l.length < 1000000000) : Con Tryz.prog I0 169 [.row (.int .u32) l] (.own 144 (.int .u32) (trimF l)) := by
 refine con_of Tryz.func169 rfl (Nat.le_of_ble_eq_true rfl) stab (fun w0 fz a hI hs => ?_)
 refine wNs hs hI [] 11 [] [(0, rwU l)] [] fun a w hs => ?_
 refine wNs hs hI [] 18 [] [(0, rwU l), (3, vi (l.length : Int))] [] fun a w hs => ?_
 refine wp_seq ?_
 refine wp_block ?_
 refine loop_L (N := Tryz.f169.ntmps) (w0 := w0) (ow := noO fz) (α := Nat) (fun p => [(0, rwU l), (3, vi (p : Int))]) (fun p => []) (fun p => p ≤ l.length ∧ trimF (l.take p) = trimF l) (fun p => p) l.length ?_ ?_ ?_
 exact ⟨Nat.le_refl _, by rw [List.take_length]⟩
 exact (hs.cst [(0, rwU l), (3, vi ((l.length : Nat) : Int))] [] rfl).rk []
 rintro n hJ a w hs
 obtain ⟨hn, ht⟩ := hJ
 rcases bd ((n : Int) > 0) with ⟨b1, n1⟩ | ⟨b1, n1⟩
 rcases bq (l.getD (((n : Int) - 1).toNat) (dflt (.int .u32))) (0) with ⟨b2, n2⟩ | ⟨b2, n2⟩
 refine wL hs hI [(2, rg [] [3, 4, 5, 6, 7, 8, 1009] [])] (bz 1 1) 1719766667773333778 [q1 b1, q1 b1, q1 b1, q3 ((n : Int) - 1), q1 b1, q4 ((n : Int) - 1) l.length, q1 b1, q1 b1, q1 b1, q1 b2, q3 ((n : Int) - 1)] .norm [(0, rwU l), (3, vi ((n : Int) - 1))] [] tv fun a w hs => ?_
 refine then_norm ⟨n - 1, ⟨by omega, by obtain ⟨m, rfl⟩ : ∃ m, n = m + 1 := ⟨n - 1, by omega⟩; rw [← ht, trimF_zero (n := m) (by omega) (by have h := eq_of_beq b2; rw [← h]; congr 1; omega)]; rfl⟩, by omega, ?_⟩
 (have e0_ : ((n : Int) - 1) = ((((n - 1) : Nat) : Int)) := (by first | rfl | (omega)); exact (hs.cst [(0, rwU l), (3, vi (((n - 1) : Nat) : Int))] [] (by first | (rw [e0_]; done) | (simp only [e0_]; done) | rfl | (simp only [e0_]; rfl))).rk [])
 refine wL hs hI [(2, rg [] [3, 4, 5, 6, 7, 8, 1009] [])] (bz 1 0) 766667773333778 [q1 b1, q1 b1, q1 b1, q3 ((n : Int) - 1), q1 b1, q4 ((n : Int) - 1) l.length, q1 b1, q1 b1, q1 b1, q1 b2] (.exit 0) [(0, rwU l), (3, vi (n : Int))] [] tv fun a w hs => ?_
 refine then_exit ?_
 refine inb_hit ?_
 refine then_norm ?_
 rcases bq (n : Int) (0) with ⟨b3, n3⟩ | ⟨b3, n3⟩
 refine wN hs hI (bz 1 1) 121798 [q1 b3] .ret [(2, nilv)] [] fun a w hs => ?_
 exact FnQ_cast (out := .own 144 (.int .u32) ([])) (by obtain rfl : n = 0 := (by omega); rw [← ht]; rfl) (ret_ok [] hs (.inr ⟨by kernel_rfl, rfl⟩))
 refine wN hs hI (bz 1 0) 1982918291719798 [q1 b3, q2 ((n : Int) = (n : Int) ∧ 0 ≤ (n : Int) ∧ (4 : Nat) * (n : Int) ≤ 281474976710656 ∧ (n : Int) ≤ 9223372036854775807)] .ret [(2, .own 7001)] [(7001, .sl 144 (.int .u32) (l.take (List.replicate n (dflt (.int .u32))).length ++ (List.replicate n (dflt (.int .u32))).drop l.length))] fun a w hs => ?_
 exact FnQ_cast (out := .own 144 (.int .u32) (l.take (List.replicate n (dflt (.int .u32))).length ++ (List.replicate n (dflt (.int .u32))).drop l.length)) (by obtain ⟨m, rfl⟩ : ∃ m, n = m + 1 := ⟨n - 1, by omega⟩; rw [← ht, trimF_stop (n := m) (by omega) (by have h := beq_eq_false_iff_ne.1 b2; rwa [show (((m + 1 : Nat) : Int) - 1).toNat = m by omega] at h), List.length_replicate, List.drop_of_length_le (by rw [List.length_replicate]; omega), List.append_nil]) (ret_ok [] hs (.inl ⟨7001, by kernel_rfl, rfl⟩))
 refine wL hs hI [(2, rg [] [] [3, 4, 5, 6, 7, 8, 1009])] (bz 1 0) 796673333338 [q1 b1, q1 b1, q1 b1, q1 b1, q1 b1, q1 b1, q1 b1, q0 false] (.exit 0) [(0, rwU l), (3, vi (n : Int))] [] tv fun a w hs => ?_
 refine then_exit ?_
 refine inb_hit ?_
 refine then_norm ?_
 rcases bq (n : Int) (0) with ⟨b4, n4⟩ | ⟨b4, n4⟩
 refine wN hs hI (bz 1 1) 121798 [q1 b4] .ret [(2, nilv)] [] fun a w hs => ?_
 exact FnQ_cast (out := .own 144 (.int .u32) ([])) (by obtain rfl : n = 0 := (by omega); rw [← ht]; rfl) (ret_ok [] hs (.inr ⟨by kernel_rfl, rfl⟩))
 refine wN hs hI (bz 1 0) 1982918291719798 [q1 b4, q2 ((n : Int) = (n : Int) ∧ 0 ≤ (n : Int) ∧ (4 : Nat) * (n : Int) ≤ 281474976710656 ∧ (n : Int) ≤ 9223372036854775807)] .ret [(2, .own 7001)] [(7001, .sl 144 (.int .u32) (l.take (List.replicate n (dflt (.int .u32))).length ++ (List.replicate n (dflt (.int .u32))).drop l.length))] fun a w hs => ?_
 exact FnQ_cast (out := .own 144 (.int .u32) (l.take (List.replicate n (dflt (.int .u32))).length ++ (List.replicate n (dflt (.int .u32))).drop l.length)) (by exfalso; omega) (ret_ok [] hs (.inl ⟨7001, by kernel_rfl, rfl⟩))
theorem wrapU64 {n : Int} (h0 : 0 ≤ n) (h1 : n < 18446744073709551616) : IntKind.wrap .u64 n = n := by
 simp only [IntKind.wrap, IntKind.bits, IntKind.signed]
 simp; omega
theorem wrapU32 {n : Int} (h0 : 0 ≤ n) (h1 : n < 4294967296) : IntKind.wrap .u32 n = n := by
 simp only [IntKind.wrap, IntKind.bits, IntKind.signed]
 simp; omega
theorem stepX {r x : Int} (r0 : 0 ≤ r) (r1 : r < 4294967296) (x0 : 0 ≤ x) (x1 : x < 4294967296) : bitsOr .u64 (IntKind.wrap .u64 (r * 2 ^ 32)) (IntKind.wrap .u64 x) = r * 4294967296 + x := by
 obtain ⟨r, rfl⟩ : ∃ n : Nat, r = (n : Int) := ⟨r.toNat, by omega⟩
 obtain ⟨x, rfl⟩ : ∃ n : Nat, x = (n : Int) := ⟨x.toNat, by omega⟩
 have e1 : ((r : Int) * 2 ^ 32) = ((r * 4294967296 : Nat) : Int) := by omega
 rw [wrapU64 (by omega) (by omega), wrapU64 (by omega) (by omega), e1]
 unfold bitsOr
 have hb : IntKind.bits .u64 = 64 := rfl
 rw [hb]
 have e2 : (BitVec.ofInt 64 ((r * 4294967296 : Nat) : Int) ||| BitVec.ofInt 64 (x : Int)).toNat = r * 4294967296 + x := by
  rw [BitVec.ofInt_natCast, BitVec.ofInt_natCast, BitVec.toNat_or, BitVec.toNat_ofNat, BitVec.toNat_ofNat, Nat.mod_eq_of_lt (by omega), Nat.mod_eq_of_lt (by omega)]
  have := Nat.shiftLeft_add_eq_or_of_lt (i := 32) (b := x) (by omega) r
  rw [Nat.shiftLeft_eq] at this
  exact this.symm
 rw [e2, wrapU64 (by omega) (by omega)]
 omega
theorem val_set {l : List Int} {m : Nat} {x : Int} (h : m < l.length) : val ((l.set m x).drop m) = x.toNat + 4294967296 * val (l.drop (m + 1)) := by
 rw [List.drop_eq_getElem_cons (by simpa using h), val, List.getElem_set_self, List.drop_set_of_lt (by omega)]
structure SmallJ (a : List Int) (d : Int) (m : Nat) (out : List Int) (r : Int) : Prop where
 le : m ≤ a.length
 len : out.length = a.length
 ok : Ok out
 r0 : 0 ≤ r
 r1 : r < d
 eq : val (a.drop m) = d.toNat * val (out.drop m) + r.toNat
theorem SmallJ.start {a : List Int} {d : Int} (hd : 0 < d) : SmallJ a d a.length (List.replicate a.length (dflt (.int .u32))) 0 := by
 refine ⟨Nat.le_refl _, List.length_replicate, Ok.rep _, Int.le_refl _, hd, ?_⟩
 rw [List.drop_of_length_le (Nat.le_refl _), List.drop_of_length_le (by simp)]
 simp [val]
theorem SmallJ.step {a : List Int} {d : Int} {m : Nat} {out : List Int} {r : Int} (ha : Ok a) (hd : 0 < d) (hd1 : d < 4294967296) (h : SmallJ a d m out r) (hm : (m : Int) - 1 ≥ 0) :
  SmallJ a d (m - 1) (out.set ((m : Int) - 1).toNat (IntKind.wrap .u32 (IntKind.wrap .u64 ((bitsOr .u64 (IntKind.wrap .u64 (r * 2 ^ 32)) (IntKind.wrap .u64 (a.getD ((m : Int) - 1).toNat (dflt (.int .u32))))).tdiv d))))
   ((bitsOr .u64 (IntKind.wrap .u64 (r * 2 ^ 32)) (IntKind.wrap .u64 (a.getD ((m : Int) - 1).toNat (dflt (.int .u32))))).tmod d) := by
 obtain ⟨k, rfl⟩ : ∃ k, m = k + 1 := ⟨m - 1, by omega⟩
 have hk : k < a.length := h.le
 have e1 : (((k + 1 : Nat) : Int) - 1).toNat = k := by omega
 have e2 : k + 1 - 1 = k := rfl
 rw [e1, e2]
 have hx := ha.rdk (k : Int)
 have hxe : a.getD k (dflt (.int .u32)) = rd a k := rfl
 rw [hxe]
 generalize hX : rd a k = x at *
 rw [stepX h.r0 (by have := h.r1; omega) hx.1 hx.2]
 have r0 := h.r0
 have r1 := h.r1
 have hX0 : 0 ≤ r * 4294967296 + x := by omega
 rw [Int.tdiv_eq_ediv_of_nonneg hX0, Int.tmod_eq_emod_of_nonneg hX0]
 have hq : (r * 4294967296 + x) / d < 4294967296 := Int.ediv_lt_of_lt_mul hd (by
  have : r + 1 ≤ d := by omega
  have := Int.mul_le_mul_of_nonneg_right this (show (0 : Int) ≤ 4294967296 by decide)
  rw [Int.mul_comm 4294967296 d]; omega)
 have hq0 : 0 ≤ (r * 4294967296 + x) / d := Int.ediv_nonneg hX0 (by omega)
 rw [wrapU64 hq0 (by omega), wrapU32 hq0 hq]
 refine ⟨by omega, by rw [List.length_set]; exact h.len, h.ok.set _ hq0 hq, Int.emod_nonneg _ (by omega), Int.emod_lt_of_pos _ hd, ?_⟩
 rw [val_set (by rw [h.len]; exact hk), val_drop hk, hX, h.eq]
 have hdm := Int.mul_ediv_add_emod (r * 4294967296 + x) d
 have hm0 := Int.emod_nonneg (r * 4294967296 + x) (show d ≠ 0 by omega)
 obtain ⟨d, rfl⟩ : ∃ n : Nat, d = (n : Int) := ⟨d.toNat, by omega⟩
 obtain ⟨r, rfl⟩ : ∃ n : Nat, r = (n : Int) := ⟨r.toNat, by omega⟩
 obtain ⟨x, rfl⟩ : ∃ n : Nat, x = (n : Int) := ⟨x.toNat, by omega⟩
 simp only [Int.toNat_natCast] at *
 have hc : ((r : Int) * 4294967296 + x) = ((r * 4294967296 + x : Nat) : Int) := by omega
 have e3 : ((r : Int) * 4294967296 + x) / d = ((r * 4294967296 + x) / d : Nat) := by rw [hc]; exact (Int.natCast_ediv _ _).symm
 have e4 : ((r : Int) * 4294967296 + x) % d = ((r * 4294967296 + x) % d : Nat) := by rw [hc]; exact (Int.natCast_emod _ _).symm
 have e5 : (((r : Int) * 4294967296 + x) / d).toNat = (r * 4294967296 + x) / d := by rw [e3]; exact Int.toNat_natCast _
 have e6 : (((r : Int) * 4294967296 + x) % d).toNat = (r * 4294967296 + x) % d := by rw [e4]; exact Int.toNat_natCast _
 rw [e5, e6]
 clear e5 e6 e3 e4 hc
 have hdn := Nat.div_add_mod (r * 4294967296 + x) d
 generalize (r * 4294967296 + x) / d = q at *
 generalize (r * 4294967296 + x) % d = s at *
 generalize val (out.drop (k + 1)) = V at *
 have h9 : d * (q + 4294967296 * V) = d * q + 4294967296 * (d * V) := by rw [Nat.mul_add, Nat.mul_left_comm]
 rw [h9]
 generalize d * V = DV at *
 omega
theorem SmallJ.stop {a : List Int} {d : Int} {out : List Int} {r : Int} (ha : Ok a) (hd : 0 < d) (h : SmallJ a d 0 out r) : trimF out = lim (val a / d.toNat) ∧ r = ((val a % d.toNat : Nat) : Int) := by
 have he := h.eq
 have r0 := h.r0
 have r1 := h.r1
 simp only [List.drop_zero] at he
 rw [trim_lim h.ok]
 have h1 : val a / d.toNat = val out := by
  rw [he, Nat.mul_add_div (by omega), Nat.div_eq_of_lt (by omega), Nat.add_zero]
 have h2 : val a % d.toNat = r.toNat := by
  rw [he, Nat.mul_add_mod, Nat.mod_eq_of_lt (by omega)]
 rw [h1, h2]
 exact ⟨rfl, by omega⟩
theorem con271_10 (l : List Int) (ha : Ok l) (hl : l.length < 1000000000) : Con Tryz.prog I0 170 [.row (.int .u32) l, .lit (.int .u32 10)] (.val (.tup [.row (.int .u32) (lim (val l / 10)), .lit (.int .u32 ((val l % 10 : Nat) : Int))])) := by
 refine con_of Tryz.func170 rfl (Nat.le_of_ble_eq_true rfl) stab (fun w0 fz a hI hs => ?_)
 refine wNs hs hI [] 8 [] [(0, rwU l), (1, .lit (.int .u32 10))] [] fun a w hs => ?_
 refine wNs hs hI [] 170 [q2 ((l.length : Int) = (l.length : Int) ∧ 0 ≤ (l.length : Int) ∧ (4 : Nat) * (l.length : Int) ≤ 281474976710656 ∧ (l.length : Int) ≤ 9223372036854775807)] [(0, rwU l), (1, .lit (.int .u32 10)), (6, .own 2002)] [(2002, .sl 144 (.int .u32) (List.replicate l.length (dflt (.int .u32))))] fun a w hs => ?_
 refine wNs hs hI [] 11 [] [(0, rwU l), (1, .lit (.int .u32 10)), (6, .own 2002), (7, .lit (.int .u64 0))] [(2002, .sl 144 (.int .u32) (List.replicate l.length (dflt (.int .u32))))] fun a w hs => ?_
 refine wp_seq ?_
 refine wNs hs hI [] 170 [q3 ((l.length : Int) - 1)] [(0, rwU l), (1, .lit (.int .u32 10)), (6, .own 2002), (7, .lit (.int .u64 0)), (8, vi ((l.length : Int) - 1))] [(2002, .sl 144 (.int .u32) (List.replicate l.length (dflt (.int .u32))))] fun a w hs => ?_
 refine wp_block ?_
 refine loop_L (N := Tryz.f170.ntmps) (w0 := w0) (ow := noO fz) (α := Nat × List Int × Int) (fun p => [(0, rwU l), (1, .lit (.int .u32 10)), (6, .own 90000001), (7, .lit (.int .u64 p.2.2)), (8, vi (((p.1 : Nat) : Int) - 1))]) (fun p => [(90000001, .sl 144 (.int .u32) p.2.1)]) (fun p => SmallJ l 10 p.1 p.2.1 p.2.2) (fun p => p.1) (l.length, List.replicate l.length (dflt (.int .u32)), 0) ?_ ?_ ?_
 exact SmallJ.start (by decide)
 exact (hs.cst [(0, rwU l), (1, .lit (.int .u32 10)), (6, .own 2002), (7, .lit (.int .u64 0)), (8, vi (((l.length : Nat) : Int) - 1))] [(2002, .sl 144 (.int .u32) (List.replicate l.length (dflt (.int .u32))))] rfl).rk [(90000001, 2002)]
 rintro ⟨m, out, r⟩ hJ a w hs
 try dsimp only at hJ
 have hm := hJ.le
 have hln := hJ.len
 rcases bd (((m : Int) - 1) ≥ 0) with ⟨b1, n1⟩ | ⟨b1, n1⟩
 refine wN hs hI (bz 1 1) 1712968826673188266187189798 [q1 b1, q4 ((m : Int) - 1) l.length, q4 ((m : Int) - 1) out.length, q2 (((m : Int) - 1).toNat < out.length), q3 (((m : Int) - 1) - 1)] .norm [(0, rwU l), (1, .lit (.int .u32 10)), (6, .own 90000001), (7, .lit (.int .u64 ((bitsOr .u64 (IntKind.wrap .u64 (r * 2 ^ 32)) (IntKind.wrap .u64 (l.getD (((m : Int) - 1).toNat) (dflt (.int .u32))))).tmod 10))), (8, vi (((m : Int) - 1) - 1))] [(90000001, .sl 144 (.int .u32) (out.set (((m : Int) - 1).toNat) (IntKind.wrap .u32 (IntKind.wrap .u64 ((bitsOr .u64 (IntKind.wrap .u64 (r * 2 ^ 32)) (IntKind.wrap .u64 (l.getD (((m : Int) - 1).toNat) (dflt (.int .u32))))).tdiv 10)))))] fun a w hs => ?_
 refine then_norm ⟨(m - 1, out.set (((m : Int) - 1).toNat) (IntKind.wrap .u32 (IntKind.wrap .u64 ((bitsOr .u64 (IntKind.wrap .u64 (r * 2 ^ 32)) (IntKind.wrap .u64 (l.getD (((m : Int) - 1).toNat) (dflt (.int .u32))))).tdiv 10))), (bitsOr .u64 (IntKind.wrap .u64 (r * 2 ^ 32)) (IntKind.wrap .u64 (l.getD (((m : Int) - 1).toNat) (dflt (.int .u32))))).tmod 10), hJ.step ha (by decide) (by decide) (by omega), by omega, ?_⟩
 (have e0_ : ((bitsOr .u64 (IntKind.wrap .u64 (r * 2 ^ 32)) (IntKind.wrap .u64 (l.getD (((m : Int) - 1).toNat) (dflt (.int .u32))))).tmod 10) = (((bitsOr .u64 (IntKind.wrap .u64 (r * 2 ^ 32)) (IntKind.wrap .u64 (l.getD (((m : Int) - 1).toNat) (dflt (.int .u32))))).tmod 10)) := (by first | rfl | (omega)); have e1_ : (((m : Int) - 1) - 1) = ((((m - 1) : Nat) : Int) - 1) := (by first | rfl | (omega)); have e2_ : (out.set (((m : Int) - 1).toNat) (IntKind.wrap .u32 (IntKind.wrap .u64 ((bitsOr .u64 (IntKind.wrap .u64 (r * 2 ^ 32)) (IntKind.wrap .u64 (l.getD (((m : Int) - 1).toNat) (dflt (.int .u32))))).tdiv 10)))) = ((out.set (((m : Int) - 1).toNat) (IntKind.wrap .u32 (IntKind.wrap .u64 ((bitsOr .u64 (IntKind.wrap .u64 (r * 2 ^ 32)) (IntKind.wrap .u64 (l.getD (((m : Int) - 1).toNat) (dflt (.int .u32))))).tdiv 10))))) := (by first | rfl | (omega)); exact (hs.cst [(0, rwU l), (1, .lit (.int .u32 10)), (6, .own 90000001), (7, .lit (.int .u64 ((bitsOr .u64 (IntKind.wrap .u64 (r * 2 ^ 32)) (IntKind.wrap .u64 (l.getD (((m : Int) - 1).toNat) (dflt (.int .u32))))).tmod 10))), (8, vi ((((m - 1) : Nat) : Int) - 1))] [(90000001, .sl 144 (.int .u32) (out.set (((m : Int) - 1).toNat) (IntKind.wrap .u32 (IntKind.wrap .u64 ((bitsOr .u64 (IntKind.wrap .u64 (r * 2 ^ 32)) (IntKind.wrap .u64 (l.getD (((m : Int) - 1).toNat) (dflt (.int .u32))))).tdiv 10)))))] (by first | (rw [e0_, e1_, e2_]; done) | (simp only [e0_, e1_, e2_]; done) | rfl | (simp only [e0_, e1_, e2_]; rfl))).rk [(90000001, 90000001)])
 refine wN hs hI (bz 1 0) 798 [q1 b1] (.exit 0) [(6, .own 90000001), (7, .lit (.int .u64 r))] [(90000001, .sl 144 (.int .u32) out)] fun a w hs => ?_
 refine then_exit ?_
 refine inb_hit ?_
 refine then_norm ?_
 refine wL hs hI [(9, rc [(1, ciA 169 [rwU out] [] [90000001] (.own 144 (.int .u32) (trimF out)))])] [] 1960841 [] .ret [(4, .own 10001), (5, .lit (.int .u32 (IntKind.wrap .u32 r)))] [(10001, .sl 144 (.int .u32) (trimF out))] ⟨con270 _ (by have := hJ.len; omega), tv⟩ fun a w hs => ?_
 exact rK (.val (.tup [rwU (trimF out), .lit (.int .u32 (IntKind.wrap .u32 r))])) [10001] hs (by obtain rfl : m = 0 := (by omega); obtain ⟨h1, h2⟩ := hJ.stop ha (by decide); have r0 := hJ.r0; have r1 := hJ.r1; rw [h1, wrapU32 r0 (by omega), h2]; rfl)
theorem tz_iter {n : Nat} (h0 : n ≠ 0) (h1 : n % 10 = 0) {m c : Nat} (h : tz m = ((tz n).1, c + (tz n).2)) : tz m = ((tz (n / 10)).1, c + 1 + (tz (n / 10)).2) := by
 rw [h, tz_ten h0 h1]; simp only [Prod.mk.injEq, true_and]; omega
theorem tz_end {n : Nat} (h1 : n % 10 ≠ 0 ∨ n = 0) {m c : Nat} (h : tz m = ((tz n).1, c + (tz n).2)) : tz m = (n, c) := by
 rcases h1 with h1 | rfl
 rw [h, tz_self h1]; rfl
 rw [h, tz_zero]; rfl
theorem lim_len {n : Nat} {l : List Int} (hl : Ok l) (h : n ≤ val l) : (lim n).length ≤ l.length := lim_len_le (Nat.lt_of_le_of_lt h (val_lt hl))
theorem tz_small {l : List Int} (hl : Ok l) (h : l.length < 1000000000) : (tz (val l)).2 ≤ 32000000000 := by
 have := tz_limbs (val_lt hl); omega
theorem last_split {l : List Int} (h : l.length ≠ 0) : l = l.take (l.length - 1) ++ [rd l ((l.length : Int) - 1)] := by
 have h1 := take_snoc' l (l.length - 1) (by omega)
 rw [show l.length - 1 + 1 = l.length by omega, List.take_of_length_le (Nat.le_refl _)] at h1
 rw [show ((l.length : Int) - 1) = ((l.length - 1 : Nat) : Int) by omega]
 exact h1
theorem trim_len (l : List Int) : (trimF l).length ≤ l.length := by
 unfold trimF
 rw [List.length_reverse]
 exact Nat.le_trans (List.dropWhile_sublist _).length_le (by rw [List.length_reverse]; exact Nat.le_refl _)
theorem lim_last {n : Nat} (h : (lim n).length ≠ 0) : rd (lim n) (((lim n).length : Int) - 1) ≠ 0 := by
 intro hz
 have h1 := last_split h
 have h2 := lim_trim n
 generalize lim n = l at *
 rw [hz] at h1
 rw [h1, trimF_snoc, if_pos rfl] at h2
 have h3 := trim_len (l.take (l.length - 1))
 rw [h2, List.length_append] at h3
 simp at h3
 omega
theorem top_lim {l : List Int} (hl : Ok l) (h : l.length ≠ 0) (h0 : rd l ((l.length : Int) - 1) ≠ 0) : l = lim (val l) := by
 have h1 := last_split h
 have h2 := trim_lim hl
 rw [h1, trimF_snoc, if_neg h0, ← h1] at h2
 exact h2
theorem tz_two_zero {n : Nat} (h : n ≠ 0) : (tz n).2 = 0 ↔ n % 10 ≠ 0 := by
 constructor
 intro hz hm
 rw [tz_ten h hm] at hz
 simp at hz
 intro hm
 rw [tz_self hm]
theorem val_zero_of {l : List Int} (hl : Ok l) (h : l.length ≠ 0) (h0 : rd l ((l.length : Int) - 1) ≠ 0) : val l ≠ 0 := by
 intro hz
 have := top_lim hl h h0
 rw [hz, lim_zero] at this
 rw [this] at h
 exact h rfl
def checkN (n : Num) : Bool :=
 if n.m.length = 0 then (!n.neg && n.e == 0) else if n.m.length > 90 then false else if rd n.m ((n.m.length : Int) - 1) = 0 then false else if n.e < -1200 then false else if n.e > 1200 then false else decide (val n.m % 10 ≠ 0)
theorem tzB {l : List Int} (hl : Ok l) (h : l.length ≠ 0) (h0 : rd l ((l.length : Int) - 1) ≠ 0) : ((((tz (val l)).2 : Nat) : Int) == 0) = decide (val l % 10 ≠ 0) := by
 have := tz_two_zero (val_zero_of hl h h0)
 rw [Bool.eq_iff_iff, beq_iff_eq, decide_eq_true_iff, ← this]; omega
theorem con251 (l : List Int) (ha : Ok l) (hl : l.length < 1000000000) : Con Tryz.prog I0 153 [.row (.int .u32) l] (.val (.tup [.row (.int .u32) (lim (tz (val l)).1), vi (((tz (val l)).2 : Nat) : Int)])) := by
 refine con_of Tryz.func153 rfl (Nat.le_of_ble_eq_true rfl) stab (fun w0 fz a hI hs => ?_)
 refine wNs hs hI [] 8 [] [(0, rwU l)] [] fun a w hs => ?_
 refine wp_scope_straight ?_
 refine wLs hs hI [(1, rc [(1, ciV 169 [rwU l] (rwU (lim (val l))))])] [] 1141 [] [(0, rwU (lim (val l)))] [] ⟨(trim_lim ha ▸ (con270 _ (by omega)).frz), tv⟩ fun a w hs => ?_
 refine wNs hs hI [] 11 [] [(0, rwU (lim (val l))), (4, vi 0)] [] fun a w hs => ?_
 refine wNs hs hI [] 1 [] [(0, rwU (lim (val l))), (4, vi 0)] [] fun a w hs => ?_
 refine wp_seq ?_
 refine wp_block ?_
 refine loop_L (N := Tryz.f153.ntmps) (w0 := w0) (ow := noO fz) (α := Nat × Nat) (fun p => [(0, rwU (lim p.1)), (4, vi ((p.2 : Nat) : Int))]) (fun p => []) (fun p => p.1 ≤ val l ∧ tz (val l) = ((tz p.1).1, p.2 + (tz p.1).2)) (fun p => p.1) (val l, 0) ?_ ?_ ?_
 exact ⟨Nat.le_refl _, by simp⟩
 exact (hs.cst [(0, rwU (lim (val l))), (4, vi ((0 : Nat) : Int))] [] rfl).rk []
 rintro ⟨n, c⟩ hJ a w hs
 try dsimp only at hJ
 obtain ⟨hn, hz⟩ := hJ
 have hln := lim_len ha hn
 have htz := tz_small ha hl
 rw [hz] at htz
 have hl0 := lim_len_zero n
 have hvl := val_lim n
 rcases bd (((lim n).length : Int) > 0) with ⟨b1, n1⟩ | ⟨b1, n1⟩
 rcases bt (((val (lim n) % 10 : Nat) : Int) != 0) with b2 | b2
 have n2 := bne_iff_ne.1 b2
 refine wL hs hI [(4, rc [(1, ciV 170 [rwU (lim n), .lit (.int .u32 10)] (.tup [rwU (lim (val (lim n) / 10)), .lit (.int .u32 ((val (lim n) % 10 : Nat) : Int))]))])] (bz 2 3) 7982968841972918 [q1 b1, q1 b2] (.exit 0) [(0, rwU (lim n)), (4, vi (c : Int))] [] ⟨con271_10 _ (lim_ok n) (by omega), tv⟩ fun a w hs => ?_
 refine then_exit ?_
 refine inb_hit ?_
 refine then_norm ?_
 refine wN hs hI [] 1608 [] .ret [(2, rwU (lim n)), (3, vi (c : Int))] [] fun a w hs => ?_
 refine ng_ret ?_
 exact rK (.val (.tup [rwU (lim n), vi (c : Int)])) [] hs (by have h := bne_iff_ne.1 b2; rw [hvl] at h; rw [tz_end (.inl (by omega)) hz])
 have n2 := bne_eq_false_iff_eq.1 b2
 refine wL hs hI [(4, rc [(1, ciV 170 [rwU (lim n), .lit (.int .u32 10)] (.tup [rwU (lim (val (lim n) / 10)), .lit (.int .u32 ((val (lim n) % 10 : Nat) : Int))]))])] (bz 2 1) 1719897982968841972918 [q1 b1, q1 b2, q3 ((c : Int) + 1)] .norm [(0, rwU (lim (val (lim n) / 10))), (4, vi ((c : Int) + 1))] [] ⟨con271_10 _ (lim_ok n) (by omega), tv⟩ fun a w hs => ?_
 refine then_norm ⟨(n / 10, c + 1), ⟨by omega, tz_iter (by omega) (by have h := bne_eq_false_iff_eq.1 b2; rw [hvl] at h; omega) hz⟩, by omega, ?_⟩
 (have e0_ : (lim (val (lim n) / 10)) = (lim (n / 10)) := (by first | rfl | (rw [hvl])); have e1_ : ((c : Int) + 1) = ((((c + 1) : Nat) : Int)) := (by first | rfl | (omega)); exact (hs.cst [(0, rwU (lim (n / 10))), (4, vi (((c + 1) : Nat) : Int))] [] (by first | (rw [e0_, e1_]; done) | (simp only [e0_, e1_]; done) | rfl | (simp only [e0_, e1_]; rfl))).rk [])
 refine wN hs hI (bz 1 0) 72918 [q1 b1] (.exit 0) [(0, rwU (lim n)), (4, vi (c : Int))] [] fun a w hs => ?_
 refine then_exit ?_
 refine inb_hit ?_
 refine then_norm ?_
 refine wN hs hI [] 1608 [] .ret [(2, rwU (lim n)), (3, vi (c : Int))] [] fun a w hs => ?_
 refine ng_ret ?_
 exact rK (.val (.tup [rwU (lim n), vi (c : Int)])) [] hs (by rw [tz_end (.inr (by omega)) hz])
theorem con214 (n : Num) (ha : Ok n.m) (hl : n.m.length < 1000000000) : Con Tryz.prog I0 138 [.agg [vb n.neg, .row (.int .u32) n.m, vi n.e]] (.val (vb (checkN n))) := by
 refine con_of Tryz.func138 rfl (Nat.le_of_ble_eq_true rfl) stab (fun w0 fz a hI hs => ?_)
 rcases bq (n.m.length : Int) (0) with ⟨b1, n1⟩ | ⟨b1, n1⟩
 rcases bt (n.neg) with b2 | b2
 refine wL hs hI [(3, rg [] [] [4, 5, 6, 1007])] (bz 1 1) 126617333879860898 [q1 b1, q1 (ng1 b2), q1 (ng1 b2), q1 (ng1 b2), q1 (ng1 b2)] .ret [(2, vb false)] [] tv fun a w hs => ?_
 exact rK (.val (vb false)) [] hs (by rw [checkN, if_pos (by omega), b2]; rfl)
 refine wL hs hI [(3, rg [] [4, 5, 6, 1007] [])] (bz 1 1) 166617777879860898 [q1 b1, q1 (ng0 b2), q1 (ng0 b2), q1 (ng0 b2), q1 (ng0 b2)] .ret [(2, vb (n.e == 0))] [] tv fun a w hs => ?_
 exact rK (.val (vb (n.e == 0))) [] hs (by rw [checkN, if_pos (by omega), b2]; rfl)
 rcases bd ((n.m.length : Int) > 90) with ⟨b3, n3⟩ | ⟨b3, n3⟩
 refine wL hs hI [(4, rg [] [1010, 1015, 1020] [3, 4, 5, 6, 7, 8, 9, 12, 13, 14, 17, 18, 19])] (bz 2 2) 121726666673337333733333338979860898 [q1 b1, q1 b3, q1 b3, q1 b3, q1 b3, q1 b3, q1 b3, q1 b3, q1 b3, q0 true, q0 true, q0 true, q0 true, q0 true, q0 true, q0 true, q0 true, q0 true] .ret [(2, vb false)] [] tv fun a w hs => ?_
 exact rK (.val (vb false)) [] hs (by rw [checkN, if_neg (by omega), if_pos (by omega)])
 rcases bq (n.m.getD (((n.m.length : Int) - 1).toNat) (dflt (.int .u32))) (0) with ⟨b4, n4⟩ | ⟨b4, n4⟩
 refine wL hs hI [(4, rg [] [3, 4, 5, 6, 7, 8, 9, 1015, 1020] [1010, 12, 13, 14, 17, 18, 19])] (bz 2 2) 121766666667333733377733337778979860898 [q1 b1, q1 b3, q1 b3, q1 b3, q1 b3, q3 ((n.m.length : Int) - 1), q1 b3, q4 ((n.m.length : Int) - 1) n.m.length, q1 b3, q1 b3, q1 b3, q1 b4, q1 b4, q1 b4, q1 b4, q0 true, q0 true, q0 true, q0 true, q0 true] .ret [(2, vb false)] [] tv fun a w hs => ?_
 exact rK (.val (vb false)) [] hs (by rw [checkN, if_neg (by omega), if_neg (by omega), if_pos (show rd n.m _ = 0 from eq_of_beq b4)])
 rcases bd (n.e < (-1200)) with ⟨b5, n5⟩ | ⟨b5, n5⟩
 refine wL hs hI [(4, rg [] [3, 4, 5, 6, 7, 8, 9, 12, 13, 14, 1020] [1010, 1015, 17, 18, 19])] (bz 2 2) 12172966666667333777777733337778979860898 [q1 b1, q1 b3, q1 b3, q1 b3, q1 b3, q3 ((n.m.length : Int) - 1), q1 b3, q4 ((n.m.length : Int) - 1) n.m.length, q1 b3, q1 b3, q1 b3, q1 b4, q1 b4, q1 b4, q1 b4, q1 b5, q1 b5, q1 b5, q1 b5, q0 true] .ret [(2, vb false)] [] tv fun a w hs => ?_
 exact rK (.val (vb false)) [] hs (by rw [checkN, if_neg (by omega), if_neg (by omega), if_neg (show ¬ rd n.m _ = 0 from beq_eq_false_iff_ne.1 b4), if_pos (by omega)])
 rcases bd (n.e > 1200) with ⟨b6, n6⟩ | ⟨b6, n6⟩
 refine wL hs hI [(4, rg [] [3, 4, 5, 6, 7, 8, 9, 12, 13, 14, 17, 18, 19] [1010, 1015, 1020])] (bz 2 2) 12179666666667777777777733337778979860898 [q1 b1, q1 b3, q1 b3, q1 b3, q1 b3, q3 ((n.m.length : Int) - 1), q1 b3, q4 ((n.m.length : Int) - 1) n.m.length, q1 b3, q1 b3, q1 b3, q1 b4, q1 b4, q1 b4, q1 b4, q1 b5, q1 b5, q1 b5, q1 b5, q1 b6] .ret [(2, vb false)] [] tv fun a w hs => ?_
 exact rK (.val (vb false)) [] hs (by rw [checkN, if_neg (by omega), if_neg (by omega), if_neg (show ¬ rd n.m _ = 0 from beq_eq_false_iff_ne.1 b4), if_neg (by omega), if_pos (by omega)])
 refine wL hs hI [(6, rc [(2, ciV 153 [rwU n.m] (.tup [rwU (lim (tz (val n.m)).1), vi (((tz (val n.m)).2 : Nat) : Int)]))]), (4, rg [] [3, 4, 5, 6, 7, 8, 9, 12, 13, 14, 17, 18, 19] [1010, 1015, 1020])] (bz 2 0) 12918668840979666666667777777777733337778979860898 [q1 b1, q1 b3, q1 b3, q1 b3, q1 b3, q3 ((n.m.length : Int) - 1), q1 b3, q4 ((n.m.length : Int) - 1) n.m.length, q1 b3, q1 b3, q1 b3, q1 b4, q1 b4, q1 b4, q1 b4, q1 b5, q1 b5, q1 b5, q1 b5, q1 b6] .ret [(2, vb ((((tz (val n.m)).2 : Nat) : Int) == 0))] [] ⟨con251 _ ha (by omega), tv⟩ fun a w hs => ?_
 exact rK (.val (vb ((((tz (val n.m)).2 : Nat) : Int) == 0))) [] hs (by rw [checkN, if_neg (by omega), if_neg (by omega), if_neg (show ¬ rd n.m _ = 0 from beq_eq_false_iff_ne.1 b4), if_neg (by omega), if_neg (by omega), tzB ha (by omega) (show ¬ rd n.m _ = 0 from beq_eq_false_iff_ne.1 b4)])
def ownN (n : Num) : Bool := !n.neg && ((n.m.length : Int) == 0 && n.e == 0)
def truthO (t : Tree) : Bool := if t.kind = 2 then true else !t.b
def numO (t : Tree) : Bool := if t.kind = 3 then checkN t.n else ownN t.n
def textO (t : Tree) : Bool := if t.kind = 4 then textOk t.s else if t.kind = 5 then decide ((t.s.size : Int) ≤ 2000) else (t.s.toList == (ba []).toList)
def keysO (t : Tree) : Bool := if t.kind = 7 then namesOk t.k && (t.k.length : Int) == (t.v.length : Int) else (t.k.length : Int) == 0
def itemsO (t : Tree) : Bool := if t.kind = 7 ∨ t.kind = 6 then decide ((t.v.length : Int) ≤ 300) else (t.v.length : Int) == 0
def ownO (t : Tree) : Bool := decide (1 ≤ t.kind ∧ t.kind ≤ 7) && (truthO t && (numO t && (textO t && (keysO t && itemsO t))))
theorem con170 (t : Tree) (ha : Ok t.n.m) (hl : t.n.m.length < 1000000000) (hk : t.k.length < 1000000000) : Con Tryz.prog I0 103 [.agg (encTree t)] (.val (vb (ownO t))) := by
 refine con_of Tryz.func103 rfl (Nat.le_of_ble_eq_true rfl) stab (fun w0 fz a hI hs => ?_)
 refine wNs hs hI [] 8 [] [(1, .ptr 1000 0)] [(1000, bTr (t))] fun a w hs => ?_
 refine wp_cut (N := Tryz.f103.ntmps) (w0 := w0) (ow := noO fz) (T := [(1, .ptr 1000 0), (3, vb (!t.b)), (4, vb (ownN t.n)), (5, vb (t.s.toList == (ba []).toList))]) (B := [(1000, bTr (t))]) (True) ?_ ?_
 rcases bt (t.n.neg) with b1 | b1
 refine wL hs hI [(1, rg [] [] [8, 9, 10, 11, 12, 1013, 15, 16, 17, 18, 1019])] [] 8873333733333088 [q1 (ng1 b1), q1 (ng1 b1), q1 (ng1 b1), q1 (ng1 b1), q1 (ng1 b1), q1 (ng1 b1), q0 false, q0 false, q0 false, q0 false, q0 false] .norm [(1, .ptr 1000 0), (3, vb (!t.b)), (4, vb false), (5, vb (t.s.toList == (ba []).toList))] [(1000, bTr (t))] tv fun a w hs => ?_
 refine then_norm ⟨trivial, ?_⟩
 (have e0_ : (false) = (ownN t.n) := (by first | rfl | (simp only [ownN, b1]; rfl)); exact (hs.cst [(1, .ptr 1000 0), (3, vb (!t.b)), (4, vb (ownN t.n)), (5, vb (t.s.toList == (ba []).toList))] [(1000, bTr (t))] (by first | (rw [e0_]; done) | (simp only [e0_]; done) | rfl | (simp only [e0_]; rfl))).rk [(1000, 1000)])
 rcases bq (t.n.m.length : Int) (0) with ⟨b2, n2⟩ | ⟨b2, n2⟩
 refine wL hs hI [(1, rg [] [8, 9, 10, 11, 12, 1013, 15, 16, 17, 18, 1019] [])] [] 8872727272772727272727088 [q1 (ng0 b1), q1 (ng0 b1), q1 (ng0 b1), q1 (ng0 b1), q1 (ng0 b1), q1 (ng0 b1), q1 b2, q1 b2, q1 b2, q1 b2, q1 b2] .norm [(1, .ptr 1000 0), (3, vb (!t.b)), (4, vb (t.n.e == 0)), (5, vb (t.s.toList == (ba []).toList))] [(1000, bTr (t))] tv fun a w hs => ?_
 refine then_norm ⟨trivial, ?_⟩
 (have e0_ : (t.n.e == 0) = (ownN t.n) := (by first | rfl | (simp only [ownN, b1, b2]; rfl)); exact (hs.cst [(1, .ptr 1000 0), (3, vb (!t.b)), (4, vb (ownN t.n)), (5, vb (t.s.toList == (ba []).toList))] [(1000, bTr (t))] (by first | (rw [e0_]; done) | (simp only [e0_]; done) | rfl | (simp only [e0_]; rfl))).rk [(1000, 1000)])
 refine wL hs hI [(1, rg [] [8, 9, 10, 11, 12, 1013] [15, 16, 17, 18, 1019])] [] 887333372727272727088 [q1 (ng0 b1), q1 (ng0 b1), q1 (ng0 b1), q1 (ng0 b1), q1 (ng0 b1), q1 (ng0 b1), q1 b2, q1 b2, q1 b2, q1 b2, q1 b2] .norm [(1, .ptr 1000 0), (3, vb (!t.b)), (4, vb false), (5, vb (t.s.toList == (ba []).toList))] [(1000, bTr (t))] tv fun a w hs => ?_
 refine then_norm ⟨trivial, ?_⟩
 (have e0_ : (false) = (ownN t.n) := (by first | rfl | (simp only [ownN, b1, b2]; rfl)); exact (hs.cst [(1, .ptr 1000 0), (3, vb (!t.b)), (4, vb (ownN t.n)), (5, vb (t.s.toList == (ba []).toList))] [(1000, bTr (t))] (by first | (rw [e0_]; done) | (simp only [e0_]; done) | rfl | (simp only [e0_]; rfl))).rk [(1000, 1000)])
 intro hF a w hs
 refine wNs hs hI [] 11888 [] [(1, .ptr 1000 0), (3, vb (!t.b)), (4, vb (ownN t.n)), (5, vb (t.s.toList == (ba []).toList)), (6, vb ((t.k.length : Int) == 0)), (7, vb ((t.v.length : Int) == 0))] [(1000, bTr (t))] fun a w hs => ?_
 refine wp_cut (N := Tryz.f103.ntmps) (w0 := w0) (ow := noO fz) (T := [(3, vb (truthO t)), (4, vb (numO t)), (5, vb (textO t)), (6, vb (keysO t)), (7, vb (itemsO t))]) (B := []) (1 ≤ t.kind ∧ t.kind ≤ 7) ?_ ?_
 rcases bq (t.kind) (1) with ⟨b3, n3⟩ | ⟨b3, n3⟩
 refine wN hs hI (bz 1 1) 1979898 [q1 b3] .norm [(3, vb (!t.b)), (4, vb (ownN t.n)), (5, vb (t.s.toList == (ba []).toList)), (6, vb ((t.k.length : Int) == 0)), (7, vb ((t.v.length : Int) == 0))] [] fun a w hs => ?_
 refine then_norm ⟨(by omega), ?_⟩
 (have e0_ : (!t.b) = (truthO t) := (by first | rfl | (first | (rw [truthO]; simp only [true_and]; done) | (simp only [truthO, numO, textO, keysO, itemsO]; (repeat (first | rw [if_pos (by omega)] | rw [if_neg (by omega)])); first | rfl | (simp only [b3]; rfl) | skip))); have e1_ : (ownN t.n) = (numO t) := (by first | rfl | (first | (rw [truthO]; simp only [true_and]; done) | (simp only [truthO, numO, textO, keysO, itemsO]; (repeat (first | rw [if_pos (by omega)] | rw [if_neg (by omega)])); first | rfl | (simp only [b3]; rfl) | skip))); have e2_ : (t.s.toList == (ba []).toList) = (textO t) := (by first | rfl | (first | (rw [truthO]; simp only [true_and]; done) | (simp only [truthO, numO, textO, keysO, itemsO]; (repeat (first | rw [if_pos (by omega)] | rw [if_neg (by omega)])); first | rfl | (simp only [b3]; rfl) | skip))); have e3_ : ((t.k.length : Int) == 0) = (keysO t) := (by first | rfl | (first | (rw [truthO]; simp only [true_and]; done) | (simp only [truthO, numO, textO, keysO, itemsO]; (repeat (first | rw [if_pos (by omega)] | rw [if_neg (by omega)])); first | rfl | (simp only [b3]; rfl) | skip))); have e4_ : ((t.v.length : Int) == 0) = (itemsO t) := (by first | rfl | (first | (rw [truthO]; simp only [true_and]; done) | (simp only [truthO, numO, textO, keysO, itemsO]; (repeat (first | rw [if_pos (by omega)] | rw [if_neg (by omega)])); first | rfl | (simp only [b3]; rfl) | skip))); exact (hs.cst [(3, vb (truthO t)), (4, vb (numO t)), (5, vb (textO t)), (6, vb (keysO t)), (7, vb (itemsO t))] [] (by first | (rw [e0_, e1_, e2_, e3_, e4_]; done) | (simp only [e0_, e1_, e2_, e3_, e4_]; done) | rfl | (simp only [e0_, e1_, e2_, e3_, e4_]; rfl))).rk [])
 rcases bq (t.kind) (2) with ⟨b4, n4⟩ | ⟨b4, n4⟩
 refine wN hs hI (bz 2 2) 12029798979898 [q1 b3, q1 b4] .norm [(3, vb true), (4, vb (ownN t.n)), (5, vb (t.s.toList == (ba []).toList)), (6, vb ((t.k.length : Int) == 0)), (7, vb ((t.v.length : Int) == 0))] [] fun a w hs => ?_
 refine then_norm ⟨(by omega), ?_⟩
 (have e0_ : (true) = (truthO t) := (by first | rfl | (first | (rw [truthO]; simp only [true_and]; done) | (simp only [truthO, numO, textO, keysO, itemsO]; (repeat (first | rw [if_pos (by omega)] | rw [if_neg (by omega)])); first | rfl | (simp only [b3, b4]; rfl) | skip))); have e1_ : (ownN t.n) = (numO t) := (by first | rfl | (first | (rw [truthO]; simp only [true_and]; done) | (simp only [truthO, numO, textO, keysO, itemsO]; (repeat (first | rw [if_pos (by omega)] | rw [if_neg (by omega)])); first | rfl | (simp only [b3, b4]; rfl) | skip))); have e2_ : (t.s.toList == (ba []).toList) = (textO t) := (by first | rfl | (first | (rw [truthO]; simp only [true_and]; done) | (simp only [truthO, numO, textO, keysO, itemsO]; (repeat (first | rw [if_pos (by omega)] | rw [if_neg (by omega)])); first | rfl | (simp only [b3, b4]; rfl) | skip))); have e3_ : ((t.k.length : Int) == 0) = (keysO t) := (by first | rfl | (first | (rw [truthO]; simp only [true_and]; done) | (simp only [truthO, numO, textO, keysO, itemsO]; (repeat (first | rw [if_pos (by omega)] | rw [if_neg (by omega)])); first | rfl | (simp only [b3, b4]; rfl) | skip))); have e4_ : ((t.v.length : Int) == 0) = (itemsO t) := (by first | rfl | (first | (rw [truthO]; simp only [true_and]; done) | (simp only [truthO, numO, textO, keysO, itemsO]; (repeat (first | rw [if_pos (by omega)] | rw [if_neg (by omega)])); first | rfl | (simp only [b3, b4]; rfl) | skip))); exact (hs.cst [(3, vb (truthO t)), (4, vb (numO t)), (5, vb (textO t)), (6, vb (keysO t)), (7, vb (itemsO t))] [] (by first | (rw [e0_, e1_, e2_, e3_, e4_]; done) | (simp only [e0_, e1_, e2_, e3_, e4_]; done) | rfl | (simp only [e0_, e1_, e2_, e3_, e4_]; rfl))).rk [])
 rcases bq (t.kind) (3) with ⟨b5, n5⟩ | ⟨b5, n5⟩
 refine wL hs hI [(12, rc [(2, ciV 138 [.agg [vb t.n.neg, rwU t.n.m, vi t.n.e]] (vb (checkN t.n)))])] (bz 3 4) 1604067989798979898 [q1 b3, q1 b4, q1 b5] .norm [(3, vb (!t.b)), (4, vb (checkN t.n)), (5, vb (t.s.toList == (ba []).toList)), (6, vb ((t.k.length : Int) == 0)), (7, vb ((t.v.length : Int) == 0))] [] ⟨con214 _ ha hl, tv⟩ fun a w hs => ?_
 refine then_norm ⟨(by omega), ?_⟩
 (have e0_ : (!t.b) = (truthO t) := (by first | rfl | (first | (rw [truthO]; simp only [true_and]; done) | (simp only [truthO, numO, textO, keysO, itemsO]; (repeat (first | rw [if_pos (by omega)] | rw [if_neg (by omega)])); first | rfl | (simp only [b3, b4, b5]; rfl) | skip))); have e1_ : (checkN t.n) = (numO t) := (by first | rfl | (first | (rw [truthO]; simp only [true_and]; done) | (simp only [truthO, numO, textO, keysO, itemsO]; (repeat (first | rw [if_pos (by omega)] | rw [if_neg (by omega)])); first | rfl | (simp only [b3, b4, b5]; rfl) | skip))); have e2_ : (t.s.toList == (ba []).toList) = (textO t) := (by first | rfl | (first | (rw [truthO]; simp only [true_and]; done) | (simp only [truthO, numO, textO, keysO, itemsO]; (repeat (first | rw [if_pos (by omega)] | rw [if_neg (by omega)])); first | rfl | (simp only [b3, b4, b5]; rfl) | skip))); have e3_ : ((t.k.length : Int) == 0) = (keysO t) := (by first | rfl | (first | (rw [truthO]; simp only [true_and]; done) | (simp only [truthO, numO, textO, keysO, itemsO]; (repeat (first | rw [if_pos (by omega)] | rw [if_neg (by omega)])); first | rfl | (simp only [b3, b4, b5]; rfl) | skip))); have e4_ : ((t.v.length : Int) == 0) = (itemsO t) := (by first | rfl | (first | (rw [truthO]; simp only [true_and]; done) | (simp only [truthO, numO, textO, keysO, itemsO]; (repeat (first | rw [if_pos (by omega)] | rw [if_neg (by omega)])); first | rfl | (simp only [b3, b4, b5]; rfl) | skip))); exact (hs.cst [(3, vb (truthO t)), (4, vb (numO t)), (5, vb (textO t)), (6, vb (keysO t)), (7, vb (itemsO t))] [] (by first | (rw [e0_, e1_, e2_, e3_, e4_]; done) | (simp only [e0_, e1_, e2_, e3_, e4_]; done) | rfl | (simp only [e0_, e1_, e2_, e3_, e4_]; rfl))).rk [])
 rcases bq (t.kind) (4) with ⟨b6, n6⟩ | ⟨b6, n6⟩
 refine wL hs hI [(13, rc [(2, ciV 139 [vs t.s] (vb (textOk t.s)))])] (bz 4 8) 160402679897989798979898 [q1 b3, q1 b4, q1 b5, q1 b6] .norm [(3, vb (!t.b)), (4, vb (ownN t.n)), (5, vb (textOk t.s)), (6, vb ((t.k.length : Int) == 0)), (7, vb ((t.v.length : Int) == 0))] [] ⟨con215 _, tv⟩ fun a w hs => ?_
 refine then_norm ⟨(by omega), ?_⟩
 (have e0_ : (!t.b) = (truthO t) := (by first | rfl | (first | (rw [truthO]; simp only [true_and]; done) | (simp only [truthO, numO, textO, keysO, itemsO]; (repeat (first | rw [if_pos (by omega)] | rw [if_neg (by omega)])); first | rfl | (simp only [b3, b4, b5, b6]; rfl) | skip))); have e1_ : (ownN t.n) = (numO t) := (by first | rfl | (first | (rw [truthO]; simp only [true_and]; done) | (simp only [truthO, numO, textO, keysO, itemsO]; (repeat (first | rw [if_pos (by omega)] | rw [if_neg (by omega)])); first | rfl | (simp only [b3, b4, b5, b6]; rfl) | skip))); have e2_ : (textOk t.s) = (textO t) := (by first | rfl | (first | (rw [truthO]; simp only [true_and]; done) | (simp only [truthO, numO, textO, keysO, itemsO]; (repeat (first | rw [if_pos (by omega)] | rw [if_neg (by omega)])); first | rfl | (simp only [b3, b4, b5, b6]; rfl) | skip))); have e3_ : ((t.k.length : Int) == 0) = (keysO t) := (by first | rfl | (first | (rw [truthO]; simp only [true_and]; done) | (simp only [truthO, numO, textO, keysO, itemsO]; (repeat (first | rw [if_pos (by omega)] | rw [if_neg (by omega)])); first | rfl | (simp only [b3, b4, b5, b6]; rfl) | skip))); have e4_ : ((t.v.length : Int) == 0) = (itemsO t) := (by first | rfl | (first | (rw [truthO]; simp only [true_and]; done) | (simp only [truthO, numO, textO, keysO, itemsO]; (repeat (first | rw [if_pos (by omega)] | rw [if_neg (by omega)])); first | rfl | (simp only [b3, b4, b5, b6]; rfl) | skip))); exact (hs.cst [(3, vb (truthO t)), (4, vb (numO t)), (5, vb (textO t)), (6, vb (keysO t)), (7, vb (itemsO t))] [] (by first | (rw [e0_, e1_, e2_, e3_, e4_]; done) | (simp only [e0_, e1_, e2_, e3_, e4_]; done) | rfl | (simp only [e0_, e1_, e2_, e3_, e4_]; rfl))).rk [])
 rcases bq (t.kind) (5) with ⟨b7, n7⟩ | ⟨b7, n7⟩
 refine wN hs hI (bz 5 16) 1268896798979897989798979898 [q1 b3, q1 b4, q1 b5, q1 b6, q1 b7] .norm [(3, vb (!t.b)), (4, vb (ownN t.n)), (5, vb (decide ((t.s.size : Int) ≤ 2000))), (6, vb ((t.k.length : Int) == 0)), (7, vb ((t.v.length : Int) == 0))] [] fun a w hs => ?_
 refine then_norm ⟨(by omega), ?_⟩
 (have e0_ : (!t.b) = (truthO t) := (by first | rfl | (first | (rw [truthO]; simp only [true_and]; done) | (simp only [truthO, numO, textO, keysO, itemsO]; (repeat (first | rw [if_pos (by omega)] | rw [if_neg (by omega)])); first | rfl | (simp only [b3, b4, b5, b6, b7]; rfl) | skip))); have e1_ : (ownN t.n) = (numO t) := (by first | rfl | (first | (rw [truthO]; simp only [true_and]; done) | (simp only [truthO, numO, textO, keysO, itemsO]; (repeat (first | rw [if_pos (by omega)] | rw [if_neg (by omega)])); first | rfl | (simp only [b3, b4, b5, b6, b7]; rfl) | skip))); have e2_ : (decide ((t.s.size : Int) ≤ 2000)) = (textO t) := (by first | rfl | (first | (rw [truthO]; simp only [true_and]; done) | (simp only [truthO, numO, textO, keysO, itemsO]; (repeat (first | rw [if_pos (by omega)] | rw [if_neg (by omega)])); first | rfl | (simp only [b3, b4, b5, b6, b7]; rfl) | skip))); have e3_ : ((t.k.length : Int) == 0) = (keysO t) := (by first | rfl | (first | (rw [truthO]; simp only [true_and]; done) | (simp only [truthO, numO, textO, keysO, itemsO]; (repeat (first | rw [if_pos (by omega)] | rw [if_neg (by omega)])); first | rfl | (simp only [b3, b4, b5, b6, b7]; rfl) | skip))); have e4_ : ((t.v.length : Int) == 0) = (itemsO t) := (by first | rfl | (first | (rw [truthO]; simp only [true_and]; done) | (simp only [truthO, numO, textO, keysO, itemsO]; (repeat (first | rw [if_pos (by omega)] | rw [if_neg (by omega)])); first | rfl | (simp only [b3, b4, b5, b6, b7]; rfl) | skip))); exact (hs.cst [(3, vb (truthO t)), (4, vb (numO t)), (5, vb (textO t)), (6, vb (keysO t)), (7, vb (itemsO t))] [] (by first | (rw [e0_, e1_, e2_, e3_, e4_]; done) | (simp only [e0_, e1_, e2_, e3_, e4_]; done) | rfl | (simp only [e0_, e1_, e2_, e3_, e4_]; rfl))).rk [])
 rcases bq (t.kind) (7) with ⟨b8, n8⟩ | ⟨b8, n8⟩
 rcases bt (namesOk t.k) with b9 | b9
 refine wL hs hI [(15, rg [(2, ciV 140 [rwS t.k] (vb (namesOk t.k)))] [4, 5, 6, 7, 8, 9, 10, 1011] [])] (bz 6 32) 126882666661777777771402967989798979897989798979898 [q1 b3, q1 b4, q1 b5, q1 b6, q1 b7, q1 b8, q1 b9, q1 b9, q1 b9, q1 b9, q1 b9, q1 b9, q1 b9, q1 b9] .norm [(3, vb (!t.b)), (4, vb (ownN t.n)), (5, vb (t.s.toList == (ba []).toList)), (6, vb ((t.k.length : Int) == (t.v.length : Int))), (7, vb (decide ((t.v.length : Int) ≤ 300)))] [] ⟨con216 _ (by omega), tv⟩ fun a w hs => ?_
 refine then_norm ⟨(by omega), ?_⟩
 (have e0_ : (!t.b) = (truthO t) := (by first | rfl | (first | (rw [truthO]; simp only [true_and]; done) | (simp only [truthO, numO, textO, keysO, itemsO]; (repeat (first | rw [if_pos (by omega)] | rw [if_neg (by omega)])); first | rfl | (simp only [b3, b4, b5, b6, b7, b8, b9]; rfl) | skip))); have e1_ : (ownN t.n) = (numO t) := (by first | rfl | (first | (rw [truthO]; simp only [true_and]; done) | (simp only [truthO, numO, textO, keysO, itemsO]; (repeat (first | rw [if_pos (by omega)] | rw [if_neg (by omega)])); first | rfl | (simp only [b3, b4, b5, b6, b7, b8, b9]; rfl) | skip))); have e2_ : (t.s.toList == (ba []).toList) = (textO t) := (by first | rfl | (first | (rw [truthO]; simp only [true_and]; done) | (simp only [truthO, numO, textO, keysO, itemsO]; (repeat (first | rw [if_pos (by omega)] | rw [if_neg (by omega)])); first | rfl | (simp only [b3, b4, b5, b6, b7, b8, b9]; rfl) | skip))); have e3_ : ((t.k.length : Int) == (t.v.length : Int)) = (keysO t) := (by first | rfl | (first | (rw [truthO]; simp only [true_and]; done) | (simp only [truthO, numO, textO, keysO, itemsO]; (repeat (first | rw [if_pos (by omega)] | rw [if_neg (by omega)])); first | rfl | (simp only [b3, b4, b5, b6, b7, b8, b9]; rfl) | skip))); have e4_ : (decide ((t.v.length : Int) ≤ 300)) = (itemsO t) := (by first | rfl | (first | (rw [truthO]; simp only [true_and]; done) | (simp only [truthO, numO, textO, keysO, itemsO]; (repeat (first | rw [if_pos (by omega)] | rw [if_neg (by omega)])); first | rfl | (simp only [b3, b4, b5, b6, b7, b8, b9]; rfl) | skip))); exact (hs.cst [(3, vb (truthO t)), (4, vb (numO t)), (5, vb (textO t)), (6, vb (keysO t)), (7, vb (itemsO t))] [] (by first | (rw [e0_, e1_, e2_, e3_, e4_]; done) | (simp only [e0_, e1_, e2_, e3_, e4_]; done) | rfl | (simp only [e0_, e1_, e2_, e3_, e4_]; rfl))).rk [])
 refine wL hs hI [(15, rg [(2, ciV 140 [rwS t.k] (vb (namesOk t.k)))] [] [4, 5, 6, 7, 8, 9, 10, 1011])] (bz 6 32) 1268896661733333331402967989798979897989798979898 [q1 b3, q1 b4, q1 b5, q1 b6, q1 b7, q1 b8, q1 b9, q1 b9, q1 b9, q1 b9, q1 b9, q1 b9, q1 b9, q1 b9] .norm [(3, vb (!t.b)), (4, vb (ownN t.n)), (5, vb (t.s.toList == (ba []).toList)), (6, vb false), (7, vb (decide ((t.v.length : Int) ≤ 300)))] [] ⟨con216 _ (by omega), tv⟩ fun a w hs => ?_
 refine then_norm ⟨(by omega), ?_⟩
 (have e0_ : (!t.b) = (truthO t) := (by first | rfl | (first | (rw [truthO]; simp only [true_and]; done) | (simp only [truthO, numO, textO, keysO, itemsO]; (repeat (first | rw [if_pos (by omega)] | rw [if_neg (by omega)])); first | rfl | (simp only [b3, b4, b5, b6, b7, b8, b9]; rfl) | skip))); have e1_ : (ownN t.n) = (numO t) := (by first | rfl | (first | (rw [truthO]; simp only [true_and]; done) | (simp only [truthO, numO, textO, keysO, itemsO]; (repeat (first | rw [if_pos (by omega)] | rw [if_neg (by omega)])); first | rfl | (simp only [b3, b4, b5, b6, b7, b8, b9]; rfl) | skip))); have e2_ : (t.s.toList == (ba []).toList) = (textO t) := (by first | rfl | (first | (rw [truthO]; simp only [true_and]; done) | (simp only [truthO, numO, textO, keysO, itemsO]; (repeat (first | rw [if_pos (by omega)] | rw [if_neg (by omega)])); first | rfl | (simp only [b3, b4, b5, b6, b7, b8, b9]; rfl) | skip))); have e3_ : (false) = (keysO t) := (by first | rfl | (first | (rw [truthO]; simp only [true_and]; done) | (simp only [truthO, numO, textO, keysO, itemsO]; (repeat (first | rw [if_pos (by omega)] | rw [if_neg (by omega)])); first | rfl | (simp only [b3, b4, b5, b6, b7, b8, b9]; rfl) | skip))); have e4_ : (decide ((t.v.length : Int) ≤ 300)) = (itemsO t) := (by first | rfl | (first | (rw [truthO]; simp only [true_and]; done) | (simp only [truthO, numO, textO, keysO, itemsO]; (repeat (first | rw [if_pos (by omega)] | rw [if_neg (by omega)])); first | rfl | (simp only [b3, b4, b5, b6, b7, b8, b9]; rfl) | skip))); exact (hs.cst [(3, vb (truthO t)), (4, vb (numO t)), (5, vb (textO t)), (6, vb (keysO t)), (7, vb (itemsO t))] [] (by first | (rw [e0_, e1_, e2_, e3_, e4_]; done) | (simp only [e0_, e1_, e2_, e3_, e4_]; done) | rfl | (simp only [e0_, e1_, e2_, e3_, e4_]; rfl))).rk [])
 rcases bq (t.kind) (6) with ⟨b10, n10⟩ | ⟨b10, n10⟩
 refine wN hs hI (bz 7 64) 126886679897989798979897989798979898 [q1 b3, q1 b4, q1 b5, q1 b6, q1 b7, q1 b8, q1 b10] .norm [(3, vb (!t.b)), (4, vb (ownN t.n)), (5, vb (t.s.toList == (ba []).toList)), (6, vb ((t.k.length : Int) == 0)), (7, vb (decide ((t.v.length : Int) ≤ 300)))] [] fun a w hs => ?_
 refine then_norm ⟨(by omega), ?_⟩
 (have e0_ : (!t.b) = (truthO t) := (by first | rfl | (first | (rw [truthO]; simp only [true_and]; done) | (simp only [truthO, numO, textO, keysO, itemsO]; (repeat (first | rw [if_pos (by omega)] | rw [if_neg (by omega)])); first | rfl | (simp only [b3, b4, b5, b6, b7, b8, b10]; rfl) | skip))); have e1_ : (ownN t.n) = (numO t) := (by first | rfl | (first | (rw [truthO]; simp only [true_and]; done) | (simp only [truthO, numO, textO, keysO, itemsO]; (repeat (first | rw [if_pos (by omega)] | rw [if_neg (by omega)])); first | rfl | (simp only [b3, b4, b5, b6, b7, b8, b10]; rfl) | skip))); have e2_ : (t.s.toList == (ba []).toList) = (textO t) := (by first | rfl | (first | (rw [truthO]; simp only [true_and]; done) | (simp only [truthO, numO, textO, keysO, itemsO]; (repeat (first | rw [if_pos (by omega)] | rw [if_neg (by omega)])); first | rfl | (simp only [b3, b4, b5, b6, b7, b8, b10]; rfl) | skip))); have e3_ : ((t.k.length : Int) == 0) = (keysO t) := (by first | rfl | (first | (rw [truthO]; simp only [true_and]; done) | (simp only [truthO, numO, textO, keysO, itemsO]; (repeat (first | rw [if_pos (by omega)] | rw [if_neg (by omega)])); first | rfl | (simp only [b3, b4, b5, b6, b7, b8, b10]; rfl) | skip))); have e4_ : (decide ((t.v.length : Int) ≤ 300)) = (itemsO t) := (by first | rfl | (first | (rw [truthO]; simp only [true_and]; done) | (simp only [truthO, numO, textO, keysO, itemsO]; (repeat (first | rw [if_pos (by omega)] | rw [if_neg (by omega)])); first | rfl | (simp only [b3, b4, b5, b6, b7, b8, b10]; rfl) | skip))); exact (hs.cst [(3, vb (truthO t)), (4, vb (numO t)), (5, vb (textO t)), (6, vb (keysO t)), (7, vb (itemsO t))] [] (by first | (rw [e0_, e1_, e2_, e3_, e4_]; done) | (simp only [e0_, e1_, e2_, e3_, e4_]; done) | rfl | (simp only [e0_, e1_, e2_, e3_, e4_]; rfl))).rk [])
 refine wN hs hI (bz 7 0) 120216679897989798979897989798979898 [q1 b3, q1 b4, q1 b5, q1 b6, q1 b7, q1 b8, q1 b10] .ret [(2, vb false)] [] fun a w hs => ?_
 refine then_ret ?_
 exact rK (.val (vb false)) [] hs (by simp only [ownO]; rw [decide_eq_false (by omega)]; rfl)
 intro hF a w hs
 rcases bt (truthO t) with b11 | b11
 rcases bt (numO t) with b12 | b12
 rcases bt (textO t) with b13 | b13
 rcases bt (keysO t) with b14 | b14
 refine wL hs hI [(18, rg [] [2, 1003, 5, 1006, 8, 1009, 11, 1012] [])] [] 1966661777777770 [q1 b11, q1 b11, q1 b12, q1 b12, q1 b13, q1 b13, q1 b14, q1 b14] .ret [(2, vb (itemsO t))] [] tv fun a w hs => ?_
 exact rK (.val (vb (itemsO t))) [] hs (by simp only [ownO]; rw [decide_eq_true hF]; simp only [b11, b12, b13, b14]; rfl)
 refine wL hs hI [(18, rg [] [2, 1003, 5, 1006, 8, 1009] [11, 1012])] [] 1266661737777770 [q1 b11, q1 b11, q1 b12, q1 b12, q1 b13, q1 b13, q1 b14, q1 b14] .ret [(2, vb false)] [] tv fun a w hs => ?_
 exact rK (.val (vb false)) [] hs (by simp only [ownO]; rw [decide_eq_true hF]; simp only [b11, b12, b13, b14]; rfl)
 refine wL hs hI [(18, rg [] [2, 1003, 5, 1006] [8, 1009, 11, 1012])] [] 166661737377770 [q1 b11, q1 b11, q1 b12, q1 b12, q1 b13, q1 b13, q0 false, q0 false] .ret [(2, vb false)] [] tv fun a w hs => ?_
 exact rK (.val (vb false)) [] hs (by simp only [ownO]; rw [decide_eq_true hF]; simp only [b11, b12, b13]; rfl)
 refine wL hs hI [(18, rg [] [2, 1003] [5, 1006, 8, 1009, 11, 1012])] [] 1296661737373770 [q1 b11, q1 b11, q1 b12, q1 b12, q0 false, q0 false, q0 false, q0 false] .ret [(2, vb false)] [] tv fun a w hs => ?_
 exact rK (.val (vb false)) [] hs (by simp only [ownO]; rw [decide_eq_true hF]; simp only [b11, b12]; rfl)
 refine wL hs hI [(18, rg [] [] [2, 1003, 5, 1006, 8, 1009, 11, 1012])] [] 196661737373730 [q1 b11, q1 b11, q0 false, q0 false, q0 false, q0 false, q0 false, q0 false] .ret [(2, vb false)] [] tv fun a w hs => ?_
 exact rK (.val (vb false)) [] hs (by simp only [ownO]; rw [decide_eq_true hF]; simp only [b11]; rfl)
mutual
def fineT : Tree → Prop
 | .mk _ _ n s k v => (Ok n.m ∧ n.m.length < 1000000000 ∧ k.length < 1000000000 ∧ v.length < 1000000000) ∧ fineL v
def fineL : List Tree → Prop
 | [] => True
 | t :: l => fineT t ∧ fineL l
end
theorem fine_eq (t : Tree) : fineT t ↔ (Ok t.n.m ∧ t.n.m.length < 1000000000 ∧ t.k.length < 1000000000 ∧ t.v.length < 1000000000) ∧ fineL t.v := by cases t; exact Iff.rfl
theorem fine_mem : ∀ {l : List Tree} {x : Tree}, fineL l → x ∈ l → fineT x
 | [], _, _, h => by simp at h
 | t :: l, x, hl, h => by
  rcases List.mem_cons.1 h with rfl | h
  exact hl.1
  exact fine_mem hl.2 h
theorem fine_at {t : Tree} (h : fineT t) {i : Nat} (hi : i < t.v.length) (d : Tree) : fineT (t.v.getD i d) := fine_mem ((fine_eq t).1 h).2 (getD_mem hi d)
mutual
def chk : Tree → Int → Int → Bool × Int
 | .mk k b n s ks v, deep, left => if left - 1 < 0 ∨ deep > 64 ∨ ownO (.mk k b n s ks v) = false then (false, left - 1) else chkL v (deep + 1) (left - 1)
def chkL : List Tree → Int → Int → Bool × Int
 | [], _, left => (true, left)
 | x :: l, deep, left => if (chk x deep left).1 = true then chkL l deep (chk x deep left).2 else (false, (chk x deep left).2)
end
theorem chk_eq (t : Tree) (deep left : Int) : chk t deep left = if left - 1 < 0 ∨ deep > 64 ∨ ownO t = false then (false, left - 1) else chkL t.v (deep + 1) (left - 1) := by cases t; rfl
mutual
theorem chk_le : ∀ (t : Tree) (d l : Int), 0 ≤ l → (chk t d l).2 ≤ l ∧ ((chk t d l).1 = true → 0 ≤ (chk t d l).2)
 | .mk k b n s ks v, d, l, h => by
  rw [chk_eq]
  split
  exact ⟨by simp; omega, fun h => by simp at h⟩
  rename_i hc
  have := chkL_le v (d + 1) (l - 1) (by omega)
  exact ⟨by show (chkL v _ _).2 ≤ l; omega, this.2⟩
theorem chkL_le : ∀ (v : List Tree) (d l : Int), 0 ≤ l → (chkL v d l).2 ≤ l ∧ ((chkL v d l).1 = true → 0 ≤ (chkL v d l).2)
 | [], d, l, h => ⟨Int.le_refl _, fun _ => h⟩
 | x :: v, d, l, h => by
  simp only [chkL]
  have h1 := chk_le x d l h
  split
  rename_i hc
  have := chkL_le v d (chk x d l).2 (h1.2 hc)
  exact ⟨by omega, this.2⟩
  exact ⟨h1.1, fun h => by simp at h⟩
end
theorem chkL_yes {v : List Tree} {i : Nat} {d l : Int} (hi : i < v.length) (h : (chk (v.getD i (dflt .tree)) d l).1 = true) : chkL (v.drop i) d l = chkL (v.drop (i + 1)) d (chk (v.getD i (dflt .tree)) d l).2 := by
 rw [List.drop_eq_getElem_cons hi, chkL]
 have e : v.getD i (dflt .tree) = v[i] := by rw [List.getD_eq_getElem?_getD, List.getElem?_eq_getElem hi]; rfl
 rw [e] at h ⊢
 rw [if_pos h]
theorem chkL_no {v : List Tree} {i : Nat} {d l : Int} (hi : i < v.length) (h : (chk (v.getD i (dflt .tree)) d l).1 = false) : chkL (v.drop i) d l = (false, (chk (v.getD i (dflt .tree)) d l).2) := by
 rw [List.drop_eq_getElem_cons hi, chkL]
 have e : v.getD i (dflt .tree) = v[i] := by rw [List.getD_eq_getElem?_getD, List.getElem?_eq_getElem hi]; rfl
 rw [e] at h ⊢
 rw [if_neg (by rw [h]; decide)]
theorem con117_ : ∀ (n : Nat) (t : Tree) (deep left : Int), nodes t < n → fineT t → 0 ≤ left → left ≤ 4000 → 0 ≤ deep → deep ≤ 65 → ConB Tryz.prog I0 62 [.agg (encTree t), vi deep, .ptr 0 0] [(0, .var [vi left])] (.val (vb ((chk t deep left).1))) [(0, .var [vi ((chk t deep left).2)])] := by
 intro n
 induction n
 case zero => intro t deep left hn; omega
 rename_i n ih
 intro t deep left hn hft h0 h1 h2 h3
 obtain ⟨⟨hf1, hf2, hf3, hf4⟩, hf5⟩ := (fine_eq t).1 hft
 refine con_ofB Tryz.func62 rfl (Nat.le_of_ble_eq_true rfl) (by kernel_rfl) (fun w0 fz η a hI hs => ?_)
 refine wNs hs hI [] 8 [] [(1, vi deep), (2, .ptr 0 0), (3, .ptr 1000 0)] [(0, .var [vi left]), (1000, bTr (t))] fun a w hs => ?_
 refine wNs hs hI [] 1178 [q3 (left - 1)] [(1, vi deep), (2, .ptr 0 0), (3, .ptr 1000 0)] [(0, .var [vi (left - 1)]), (1000, bTr (t))] fun a w hs => ?_
 refine wp_seq ?_
 rcases bd ((left - 1) < 0) with ⟨b1, n1⟩ | ⟨b1, n1⟩
 refine wL hs hI [(2, rg [] [1007, 1012] [5, 6, 9, 10, 11])] (bz 1 1) 12172666733373308 [q1 b1, q1 b1, q1 b1, q0 true, q0 true, q0 true, q0 true, q0 true] .ret [(6, vb false)] [(0, .var [vi (left - 1)])] tv fun a w hs => ?_
 refine then_ret ?_
 exact FnQB_cast (out := .val (vb false)) (bo := [(0, .var [vi (left - 1)])]) (by rw [chk_eq t, if_pos (by first | omega | exact .inr (.inr rfl))]) (by rw [chk_eq t, if_pos (by first | omega | exact .inr (.inr rfl))]) (ret_okB _ hs (by kernel_rfl) (by kernel_rfl))
 rcases bd (deep > 64) with ⟨b2, n2⟩ | ⟨b2, n2⟩
 refine wL hs hI [(2, rg [] [5, 6, 1012] [1007, 9, 10, 11])] (bz 1 1) 121729666733377708 [q1 b1, q1 b1, q1 b1, q1 b2, q1 b2, q1 b2, q1 b2, q0 true] .ret [(6, vb false)] [(0, .var [vi (left - 1)])] tv fun a w hs => ?_
 refine then_ret ?_
 exact FnQB_cast (out := .val (vb false)) (bo := [(0, .var [vi (left - 1)])]) (by rw [chk_eq t, if_pos (by first | omega | exact .inr (.inr rfl))]) (by rw [chk_eq t, if_pos (by first | omega | exact .inr (.inr rfl))]) (ret_okB _ hs (by kernel_rfl) (by kernel_rfl))
 rcases bt (ownO t) with b3 | b3
 refine wL hs hI [(2, rg [(10, ciV 103 [aTr (t)] (vb (ownO t)))] [5, 6, 9, 10, 11] [1007, 1012])] (bz 1 0) 7966667743777708 [q1 b1, q1 b1, q1 b1, q1 b2, q1 b2, q1 b2, q1 b2, q1 (ng1 b3)] .norm [(1, vi deep), (2, .ptr 0 0), (3, .ptr 1000 0)] [(0, .var [vi (left - 1)]), (1000, bTr (t))] ⟨con170 _ hf1 hf2 hf3, tv⟩ fun a w hs => ?_
 refine then_norm ?_
 refine wp_seq ?_
 refine wNs hs hI [] 118 [] [(1, vi deep), (2, .ptr 0 0), (28, rwT t.v), (29, vi (t.v.length : Int)), (30, vi 0)] [(0, .var [vi (left - 1)])] fun a w hs => ?_
 refine wp_block ?_
 refine loop_L (N := Tryz.f62.ntmps) (w0 := w0) (ow := ownB fz η) (α := Nat × Int) (fun p => [(1, vi deep), (2, .ptr 0 0), (28, rwT t.v), (29, vi (t.v.length : Int)), (30, vi ((p.1 : Nat) : Int))]) (fun p => [(0, .var [vi p.2])]) (fun p => p.1 ≤ t.v.length ∧ chkL (t.v.drop p.1) (deep + 1) p.2 = chkL t.v (deep + 1) (left - 1) ∧ 0 ≤ p.2 ∧ p.2 ≤ 4000) (fun p => t.v.length - p.1) (0, left - 1) ?_ ?_ ?_
 exact ⟨Nat.zero_le _, rfl, by omega, by omega⟩
 exact (hs.cst [(1, vi deep), (2, .ptr 0 0), (28, rwT t.v), (29, vi (t.v.length : Int)), (30, vi ((0 : Nat) : Int))] [(0, .var [vi (left - 1)])] rfl).rk [(0, 0)]
 rintro ⟨i, l⟩ hJ a w hs
 try dsimp only at hJ
 obtain ⟨hi, hd, hl0, hl1⟩ := hJ
 have hle := chk_le (t.v.getD i (dflt .tree)) (deep + 1) l hl0
 rcases bd ((i : Int) < (t.v.length : Int)) with ⟨b4, n4⟩ | ⟨b4, n4⟩
 rcases bt ((chk (t.v.getD i (dflt .tree)) (deep + 1) l).1) with b5 | b5
 refine wL hs hI [(7, rc [(4, ciB 62 [aTr ((t.v.getD i (dflt .tree))), vi (deep + 1), .ptr 0 0] [] (.val (vb ((chk (t.v.getD i (dflt .tree)) (deep + 1) l).1))) [(0, .var [vi l])] [(0, .var [vi ((chk (t.v.getD i (dflt .tree)) (deep + 1) l).2)])] [(0, 0)])])] (bz 2 1) 172979604706872720 [q1 b4, q4 (i : Int) t.v.length, q3 (deep + 1), q1 (ng1 b5), q3 ((i : Int) + 1)] .norm [(1, vi deep), (2, .ptr 0 0), (28, rwT t.v), (29, vi (t.v.length : Int)), (30, vi ((i : Int) + 1))] [(0, .var [vi ((chk (t.v.getD i (dflt .tree)) (deep + 1) l).2)])] ⟨ih _ _ _ (by have h1 := nodes_eq t; have h2 := nodes_at (l := t.v) (i := i) (by omega); omega) (fine_at hft (by omega) _) hl0 hl1 (by omega) (by omega), tv⟩ fun a w hs => ?_
 refine then_norm ⟨(i + 1, (chk (t.v.getD i (dflt .tree)) (deep + 1) l).2), ⟨by omega, by rw [← chkL_yes (by omega) b5]; exact hd, hle.2 b5, by omega⟩, by omega, ?_⟩
 (have e0_ : ((i : Int) + 1) = ((((i + 1) : Nat) : Int)) := (by first | rfl | (omega)); have e1_ : ((chk (t.v.getD i (dflt .tree)) (deep + 1) l).2) = (((chk (t.v.getD i (dflt .tree)) (deep + 1) l).2)) := (by first | rfl | (omega)); exact (hs.cst [(1, vi deep), (2, .ptr 0 0), (28, rwT t.v), (29, vi (t.v.length : Int)), (30, vi (((i + 1) : Nat) : Int))] [(0, .var [vi ((chk (t.v.getD i (dflt .tree)) (deep + 1) l).2)])] (by first | (rw [e0_, e1_]; done) | (simp only [e0_, e1_]; done) | rfl | (simp only [e0_, e1_]; rfl))).rk [(0, 0)])
 refine wL hs hI [(7, rc [(4, ciB 62 [aTr ((t.v.getD i (dflt .tree))), vi (deep + 1), .ptr 0 0] [] (.val (vb ((chk (t.v.getD i (dflt .tree)) (deep + 1) l).1))) [(0, .var [vi l])] [(0, .var [vi ((chk (t.v.getD i (dflt .tree)) (deep + 1) l).2)])] [(0, 0)])])] (bz 2 3) 12179604706872720 [q1 b4, q4 (i : Int) t.v.length, q3 (deep + 1), q1 (ng0 b5)] .ret [(6, vb false)] [(0, .var [vi ((chk (t.v.getD i (dflt .tree)) (deep + 1) l).2)])] ⟨ih _ _ _ (by have h1 := nodes_eq t; have h2 := nodes_at (l := t.v) (i := i) (by omega); omega) (fine_at hft (by omega) _) hl0 hl1 (by omega) (by omega), tv⟩ fun a w hs => ?_
 refine then_ret ?_
 refine inb_ret ?_
 refine then_ret ?_
 exact FnQB_cast (out := .val (vb false)) (bo := [(0, .var [vi ((chk (t.v.getD i (dflt .tree)) (deep + 1) l).2)])]) (by rw [chk_eq t, if_neg (by rintro (h | h | h); omega; omega; rw [b3] at h; cases h), ← hd, chkL_no (by omega) b5]) (by rw [chk_eq t, if_neg (by rintro (h | h | h); omega; omega; rw [b3] at h; cases h), ← hd, chkL_no (by omega) b5]) (ret_okB _ hs (by kernel_rfl) (by kernel_rfl))
 refine wN hs hI (bz 1 0) 720 [q1 b4] (.exit 0) [] [(0, .var [vi l])] fun a w hs => ?_
 refine then_exit ?_
 refine inb_hit ?_
 refine then_norm ?_
 refine wN hs hI [] 120 [] .ret [(6, vb true)] [(0, .var [vi l])] fun a w hs => ?_
 exact FnQB_cast (out := .val (vb true)) (bo := [(0, .var [vi l])]) (by rw [chk_eq t, if_neg (by rintro (h | h | h); omega; omega; rw [b3] at h; cases h), ← hd, List.drop_of_length_le (by omega)]; rfl) (by rw [chk_eq t, if_neg (by rintro (h | h | h); omega; omega; rw [b3] at h; cases h), ← hd, List.drop_of_length_le (by omega)]; rfl) (ret_okB _ hs (by kernel_rfl) (by kernel_rfl))
 refine wL hs hI [(2, rg [(10, ciV 103 [aTr (t)] (vb (ownO t)))] [5, 6, 9, 10, 11] [1007, 1012])] (bz 1 1) 1217966667743777708 [q1 b1, q1 b1, q1 b1, q1 b2, q1 b2, q1 b2, q1 b2, q1 (ng0 b3)] .ret [(6, vb false)] [(0, .var [vi (left - 1)])] ⟨con170 _ hf1 hf2 hf3, tv⟩ fun a w hs => ?_
 refine then_ret ?_
 exact FnQB_cast (out := .val (vb false)) (bo := [(0, .var [vi (left - 1)])]) (by rw [chk_eq t, if_pos (by first | omega | exact .inr (.inr b3))]) (by rw [chk_eq t, if_pos (by first | omega | exact .inr (.inr b3))]) (ret_okB _ hs (by kernel_rfl) (by kernel_rfl))
theorem Ok.at {l : List Int} (h : Ok l) (n : Nat) : 0 ≤ l.getD n (dflt (.int .u32)) ∧ l.getD n (dflt (.int .u32)) < 4294967296 := h.rdk (n : Int)
theorem stepA {r x : Int} (r0 : 0 ≤ r) (r1 : r < 4294967296) (x0 : 0 ≤ x) (x1 : x < 4294967296) : IntKind.wrap .u64 (IntKind.wrap .u64 (r * 2 ^ 32) + IntKind.wrap .u64 x) = r * 4294967296 + x := by
 have e1 : r * 2 ^ 32 = r * 4294967296 := rfl
 rw [e1, wrapU64 (n := r * 4294967296) (by omega) (by omega), wrapU64 (n := x) (by omega) (by omega), wrapU64 (by omega) (by omega)]
def isN (n : Num) : Num := if checkN n = true then n else ⟨false, [], 0⟩
theorem isN_len {n : Num} (h : n.m.length < 1000000000) : (isN n).m.length < 1000000000 := by
 unfold isN; split
 exact h
 decide
def sameN (a b : Num) : Bool := (isN a).neg == (isN b).neg && ((isN a).e == (isN b).e && val (isN a).m == val (isN b).m)
theorem con250 (l : List Int) (hl : l.length < 1000000000) : Con Tryz.prog I0 168 [.row (.int .u32) l] (.own 144 (.int .u32) (trimF l)) := by
 refine con_of Tryz.func168 rfl (Nat.le_of_ble_eq_true rfl) stab (fun w0 fz a hI hs => ?_)
 refine wNs hs hI [] 11 [] [(0, rwU l)] [] fun a w hs => ?_
 refine wNs hs hI [] 18 [] [(0, rwU l), (3, vi (l.length : Int))] [] fun a w hs => ?_
 refine wp_seq ?_
 refine wp_block ?_
 refine loop_L (N := Tryz.f168.ntmps) (w0 := w0) (ow := noO fz) (α := Nat) (fun p => [(0, rwU l), (3, vi (p : Int))]) (fun p => []) (fun p => p ≤ l.length ∧ trimF (l.take p) = trimF l) (fun p => p) l.length ?_ ?_ ?_
 exact ⟨Nat.le_refl _, by rw [List.take_length]⟩
 exact (hs.cst [(0, rwU l), (3, vi ((l.length : Nat) : Int))] [] rfl).rk []
 rintro n hJ a w hs
 obtain ⟨hn, ht⟩ := hJ
 rcases bd ((n : Int) > 0) with ⟨b1, n1⟩ | ⟨b1, n1⟩
 rcases bq (l.getD (((n : Int) - 1).toNat) (dflt (.int .u32))) (0) with ⟨b2, n2⟩ | ⟨b2, n2⟩
 refine wL hs hI [(2, rg [] [3, 4, 5, 6, 7, 8, 1009] [])] (bz 1 1) 1719766667773333778 [q1 b1, q1 b1, q1 b1, q3 ((n : Int) - 1), q1 b1, q4 ((n : Int) - 1) l.length, q1 b1, q1 b1, q1 b1, q1 b2, q3 ((n : Int) - 1)] .norm [(0, rwU l), (3, vi ((n : Int) - 1))] [] tv fun a w hs => ?_
 refine then_norm ⟨n - 1, ⟨by omega, by obtain ⟨m, rfl⟩ : ∃ m, n = m + 1 := ⟨n - 1, by omega⟩; rw [← ht, trimF_zero (n := m) (by omega) (by have h := eq_of_beq b2; rw [← h]; congr 1; omega)]; rfl⟩, by omega, ?_⟩
 (have e0_ : ((n : Int) - 1) = ((((n - 1) : Nat) : Int)) := (by first | rfl | (omega)); exact (hs.cst [(0, rwU l), (3, vi (((n - 1) : Nat) : Int))] [] (by first | (rw [e0_]; done) | (simp only [e0_]; done) | rfl | (simp only [e0_]; rfl))).rk [])
 refine wL hs hI [(2, rg [] [3, 4, 5, 6, 7, 8, 1009] [])] (bz 1 0) 766667773333778 [q1 b1, q1 b1, q1 b1, q3 ((n : Int) - 1), q1 b1, q4 ((n : Int) - 1) l.length, q1 b1, q1 b1, q1 b1, q1 b2] (.exit 0) [(0, rwU l), (3, vi (n : Int))] [] tv fun a w hs => ?_
 refine then_exit ?_
 refine inb_hit ?_
 refine then_norm ?_
 refine wN hs hI [] 1261730 [⟨0 ≤ (0 : Int) ∧ (0 : Int) ≤ (n : Int) ∧ (n : Int) ≤ (l.length : Int) ∧ (l.length : Int) ≤ (l.length : Int), (by (repeat' apply And.intro) <;> (try split) <;> omega)⟩, ⟨((l.take n).length * 4 : Nat) ≤ 140737488355328 ∧ (l.take n).length ≤ 140737488355328, (by simp only [List.length_take]; omega)⟩] .ret [(2, .own 5003)] [(5003, .sl 144 (.int .u32) (l.take n))] fun a w hs => ?_
 exact FnQ_cast (out := .own 144 (.int .u32) (l.take n)) (by obtain ⟨m, rfl⟩ : ∃ m, n = m + 1 := ⟨n - 1, by omega⟩; rw [← ht, trimF_stop (n := m) (by omega) (by have h := beq_eq_false_iff_ne.1 b2; rwa [show (((m + 1 : Nat) : Int) - 1).toNat = m by omega] at h)]) (ret_ok [] hs (.inl ⟨5003, by kernel_rfl, rfl⟩))
 refine wL hs hI [(2, rg [] [] [3, 4, 5, 6, 7, 8, 1009])] (bz 1 0) 796673333338 [q1 b1, q1 b1, q1 b1, q1 b1, q1 b1, q1 b1, q1 b1, q0 false] (.exit 0) [(0, rwU l), (3, vi (n : Int))] [] tv fun a w hs => ?_
 refine then_exit ?_
 refine inb_hit ?_
 refine then_norm ?_
 refine wN hs hI [] 1261730 [⟨0 ≤ (0 : Int) ∧ (0 : Int) ≤ (n : Int) ∧ (n : Int) ≤ (l.length : Int) ∧ (l.length : Int) ≤ (l.length : Int), (by (repeat' apply And.intro) <;> (try split) <;> omega)⟩, ⟨((l.take n).length * 4 : Nat) ≤ 140737488355328 ∧ (l.take n).length ≤ 140737488355328, (by simp only [List.length_take]; omega)⟩] .ret [(2, .own 5003)] [(5003, .sl 144 (.int .u32) (l.take n))] fun a w hs => ?_
 exact FnQ_cast (out := .own 144 (.int .u32) (l.take n)) (by obtain rfl : n = 0 := (by omega); rw [← ht]; rfl) (ret_ok [] hs (.inl ⟨5003, by kernel_rfl, rfl⟩))
theorem con218_10 (l : List Int) (ha : Ok l) (hl : l.length < 1000000000) : Con Tryz.prog I0 151 [.row (.int .u32) l, .lit (.int .u32 10)] (.val (.tup [.row (.int .u32) (lim (val l / 10)), .lit (.int .u32 ((val l % 10 : Nat) : Int))])) := by
 refine con_of Tryz.func151 rfl (Nat.le_of_ble_eq_true rfl) stab (fun w0 fz a hI hs => ?_)
 refine wNs hs hI [] 8 [] [(0, rwU l), (1, .lit (.int .u32 10))] [] fun a w hs => ?_
 refine wNs hs hI [] 170 [q2 ((l.length : Int) = (l.length : Int) ∧ 0 ≤ (l.length : Int) ∧ (4 : Nat) * (l.length : Int) ≤ 281474976710656 ∧ (l.length : Int) ≤ 9223372036854775807)] [(0, rwU l), (1, .lit (.int .u32 10)), (6, .own 2002)] [(2002, .sl 144 (.int .u32) (List.replicate l.length (dflt (.int .u32))))] fun a w hs => ?_
 refine wNs hs hI [] 11 [] [(0, rwU l), (1, .lit (.int .u32 10)), (6, .own 2002), (7, .lit (.int .u64 0))] [(2002, .sl 144 (.int .u32) (List.replicate l.length (dflt (.int .u32))))] fun a w hs => ?_
 refine wp_seq ?_
 refine wNs hs hI [] 170 [q3 ((l.length : Int) - 1)] [(0, rwU l), (1, .lit (.int .u32 10)), (6, .own 2002), (7, .lit (.int .u64 0)), (8, vi ((l.length : Int) - 1))] [(2002, .sl 144 (.int .u32) (List.replicate l.length (dflt (.int .u32))))] fun a w hs => ?_
 refine wp_block ?_
 refine loop_L (N := Tryz.f151.ntmps) (w0 := w0) (ow := noO fz) (α := Nat × List Int × Int) (fun p => [(0, rwU l), (1, .lit (.int .u32 10)), (6, .own 90000001), (7, .lit (.int .u64 p.2.2)), (8, vi (((p.1 : Nat) : Int) - 1))]) (fun p => [(90000001, .sl 144 (.int .u32) p.2.1)]) (fun p => SmallJ l 10 p.1 p.2.1 p.2.2) (fun p => p.1) (l.length, List.replicate l.length (dflt (.int .u32)), 0) ?_ ?_ ?_
 exact SmallJ.start (by decide)
 exact (hs.cst [(0, rwU l), (1, .lit (.int .u32 10)), (6, .own 2002), (7, .lit (.int .u64 0)), (8, vi (((l.length : Nat) : Int) - 1))] [(2002, .sl 144 (.int .u32) (List.replicate l.length (dflt (.int .u32))))] rfl).rk [(90000001, 2002)]
 rintro ⟨m, out, r⟩ hJ a w hs
 try dsimp only at hJ
 have hm := hJ.le
 have hln := hJ.len
 have hr0 := hJ.r0
 have hr1 := hJ.r1
 rcases bd (((m : Int) - 1) ≥ 0) with ⟨b1, n1⟩ | ⟨b1, n1⟩
 refine wN hs hI (bz 1 1) 1712968826673188266187189798 [q1 b1, q4 ((m : Int) - 1) l.length, q4 ((m : Int) - 1) out.length, q2 (((m : Int) - 1).toNat < out.length), q3 (((m : Int) - 1) - 1)] .norm [(0, rwU l), (1, .lit (.int .u32 10)), (6, .own 90000001), (7, .lit (.int .u64 ((IntKind.wrap .u64 ((IntKind.wrap .u64 (r * 2 ^ 32)) + (IntKind.wrap .u64 (l.getD (((m : Int) - 1).toNat) (dflt (.int .u32)))))).tmod 10))), (8, vi (((m : Int) - 1) - 1))] [(90000001, .sl 144 (.int .u32) (out.set (((m : Int) - 1).toNat) (IntKind.wrap .u32 (IntKind.wrap .u64 ((IntKind.wrap .u64 ((IntKind.wrap .u64 (r * 2 ^ 32)) + (IntKind.wrap .u64 (l.getD (((m : Int) - 1).toNat) (dflt (.int .u32)))))).tdiv 10)))))] fun a w hs => ?_
 refine then_norm ⟨(m - 1, out.set (((m : Int) - 1).toNat) (IntKind.wrap .u32 (IntKind.wrap .u64 ((IntKind.wrap .u64 ((IntKind.wrap .u64 (r * 2 ^ 32)) + (IntKind.wrap .u64 (l.getD (((m : Int) - 1).toNat) (dflt (.int .u32)))))).tdiv 10))), (IntKind.wrap .u64 ((IntKind.wrap .u64 (r * 2 ^ 32)) + (IntKind.wrap .u64 (l.getD (((m : Int) - 1).toNat) (dflt (.int .u32)))))).tmod 10), (by have h := hJ.step ha (by decide) (by decide) (by omega); have hx := ha.at ((m : Int) - 1).toNat; rw [stepX hr0 (by omega) hx.1 hx.2] at h; rw [stepA hr0 (by omega) hx.1 hx.2]; exact h), by omega, ?_⟩
 (have e0_ : ((IntKind.wrap .u64 ((IntKind.wrap .u64 (r * 2 ^ 32)) + (IntKind.wrap .u64 (l.getD (((m : Int) - 1).toNat) (dflt (.int .u32)))))).tmod 10) = (((IntKind.wrap .u64 ((IntKind.wrap .u64 (r * 2 ^ 32)) + (IntKind.wrap .u64 (l.getD (((m : Int) - 1).toNat) (dflt (.int .u32)))))).tmod 10)) := (by first | rfl | (omega)); have e1_ : (((m : Int) - 1) - 1) = ((((m - 1) : Nat) : Int) - 1) := (by first | rfl | (omega)); have e2_ : (out.set (((m : Int) - 1).toNat) (IntKind.wrap .u32 (IntKind.wrap .u64 ((IntKind.wrap .u64 ((IntKind.wrap .u64 (r * 2 ^ 32)) + (IntKind.wrap .u64 (l.getD (((m : Int) - 1).toNat) (dflt (.int .u32)))))).tdiv 10)))) = ((out.set (((m : Int) - 1).toNat) (IntKind.wrap .u32 (IntKind.wrap .u64 ((IntKind.wrap .u64 ((IntKind.wrap .u64 (r * 2 ^ 32)) + (IntKind.wrap .u64 (l.getD (((m : Int) - 1).toNat) (dflt (.int .u32)))))).tdiv 10))))) := (by first | rfl | (omega)); exact (hs.cst [(0, rwU l), (1, .lit (.int .u32 10)), (6, .own 90000001), (7, .lit (.int .u64 ((IntKind.wrap .u64 ((IntKind.wrap .u64 (r * 2 ^ 32)) + (IntKind.wrap .u64 (l.getD (((m : Int) - 1).toNat) (dflt (.int .u32)))))).tmod 10))), (8, vi ((((m - 1) : Nat) : Int) - 1))] [(90000001, .sl 144 (.int .u32) (out.set (((m : Int) - 1).toNat) (IntKind.wrap .u32 (IntKind.wrap .u64 ((IntKind.wrap .u64 ((IntKind.wrap .u64 (r * 2 ^ 32)) + (IntKind.wrap .u64 (l.getD (((m : Int) - 1).toNat) (dflt (.int .u32)))))).tdiv 10)))))] (by first | (rw [e0_, e1_, e2_]; done) | (simp only [e0_, e1_, e2_]; done) | rfl | (simp only [e0_, e1_, e2_]; rfl))).rk [(90000001, 90000001)])
 refine wN hs hI (bz 1 0) 798 [q1 b1] (.exit 0) [(6, .own 90000001), (7, .lit (.int .u64 r))] [(90000001, .sl 144 (.int .u32) out)] fun a w hs => ?_
 refine then_exit ?_
 refine inb_hit ?_
 refine then_norm ?_
 refine wL hs hI [(9, rc [(1, ciA 168 [rwU out] [] [90000001] (.own 144 (.int .u32) (trimF out)))])] [] 1960841 [] .ret [(4, .own 10001), (5, .lit (.int .u32 (IntKind.wrap .u32 r)))] [(10001, .sl 144 (.int .u32) (trimF out))] ⟨con250 _ (by have := hJ.len; omega), tv⟩ fun a w hs => ?_
 exact rK (.val (.tup [rwU (trimF out), .lit (.int .u32 (IntKind.wrap .u32 r))])) [10001] hs (by obtain rfl : m = 0 := (by omega); obtain ⟨h1, h2⟩ := hJ.stop ha (by decide); rw [h1, wrapU32 hr0 (by omega), h2]; rfl)
theorem con174 (n : Num) (ha : Ok n.m) (hl : n.m.length < 1000000000) : Con Tryz.prog I0 132 [.agg [vb n.neg, .row (.int .u32) n.m, vi n.e]] (.val (vb (checkN n))) := by
 refine con_of Tryz.func132 rfl (Nat.le_of_ble_eq_true rfl) stab (fun w0 fz a hI hs => ?_)
 rcases bq (n.m.length : Int) (0) with ⟨b1, n1⟩ | ⟨b1, n1⟩
 rcases bt (n.neg) with b2 | b2
 refine wL hs hI [(3, rg [] [] [4, 5, 6, 1007])] (bz 1 1) 126617333879860898 [q1 b1, q1 (ng1 b2), q1 (ng1 b2), q1 (ng1 b2), q1 (ng1 b2)] .ret [(2, vb false)] [] tv fun a w hs => ?_
 exact rK (.val (vb false)) [] hs (by rw [checkN, if_pos (by omega), b2]; rfl)
 refine wL hs hI [(3, rg [] [4, 5, 6, 1007] [])] (bz 1 1) 166617777879860898 [q1 b1, q1 (ng0 b2), q1 (ng0 b2), q1 (ng0 b2), q1 (ng0 b2)] .ret [(2, vb (n.e == 0))] [] tv fun a w hs => ?_
 exact rK (.val (vb (n.e == 0))) [] hs (by rw [checkN, if_pos (by omega), b2]; rfl)
 rcases bd ((n.m.length : Int) > 90) with ⟨b3, n3⟩ | ⟨b3, n3⟩
 refine wL hs hI [(4, rg [] [1010, 1015, 1020] [3, 4, 5, 6, 7, 8, 9, 12, 13, 14, 17, 18, 19])] (bz 2 2) 121726666673337333733333338979860898 [q1 b1, q1 b3, q1 b3, q1 b3, q1 b3, q1 b3, q1 b3, q1 b3, q1 b3, q0 true, q0 true, q0 true, q0 true, q0 true, q0 true, q0 true, q0 true, q0 true] .ret [(2, vb false)] [] tv fun a w hs => ?_
 exact rK (.val (vb false)) [] hs (by rw [checkN, if_neg (by omega), if_pos (by omega)])
 rcases bq (n.m.getD (((n.m.length : Int) - 1).toNat) (dflt (.int .u32))) (0) with ⟨b4, n4⟩ | ⟨b4, n4⟩
 refine wL hs hI [(4, rg [] [3, 4, 5, 6, 7, 8, 9, 1015, 1020] [1010, 12, 13, 14, 17, 18, 19])] (bz 2 2) 121766666667333733377733337778979860898 [q1 b1, q1 b3, q1 b3, q1 b3, q1 b3, q3 ((n.m.length : Int) - 1), q1 b3, q4 ((n.m.length : Int) - 1) n.m.length, q1 b3, q1 b3, q1 b3, q1 b4, q1 b4, q1 b4, q1 b4, q0 true, q0 true, q0 true, q0 true, q0 true] .ret [(2, vb false)] [] tv fun a w hs => ?_
 exact rK (.val (vb false)) [] hs (by rw [checkN, if_neg (by omega), if_neg (by omega), if_pos (show rd n.m _ = 0 from eq_of_beq b4)])
 rcases bd (n.e < (-1200)) with ⟨b5, n5⟩ | ⟨b5, n5⟩
 refine wL hs hI [(4, rg [] [3, 4, 5, 6, 7, 8, 9, 12, 13, 14, 1020] [1010, 1015, 17, 18, 19])] (bz 2 2) 12172966666667333777777733337778979860898 [q1 b1, q1 b3, q1 b3, q1 b3, q1 b3, q3 ((n.m.length : Int) - 1), q1 b3, q4 ((n.m.length : Int) - 1) n.m.length, q1 b3, q1 b3, q1 b3, q1 b4, q1 b4, q1 b4, q1 b4, q1 b5, q1 b5, q1 b5, q1 b5, q0 true] .ret [(2, vb false)] [] tv fun a w hs => ?_
 exact rK (.val (vb false)) [] hs (by rw [checkN, if_neg (by omega), if_neg (by omega), if_neg (show ¬ rd n.m _ = 0 from beq_eq_false_iff_ne.1 b4), if_pos (by omega)])
 rcases bd (n.e > 1200) with ⟨b6, n6⟩ | ⟨b6, n6⟩
 refine wL hs hI [(4, rg [] [3, 4, 5, 6, 7, 8, 9, 12, 13, 14, 17, 18, 19] [1010, 1015, 1020])] (bz 2 2) 12179666666667777777777733337778979860898 [q1 b1, q1 b3, q1 b3, q1 b3, q1 b3, q3 ((n.m.length : Int) - 1), q1 b3, q4 ((n.m.length : Int) - 1) n.m.length, q1 b3, q1 b3, q1 b3, q1 b4, q1 b4, q1 b4, q1 b4, q1 b5, q1 b5, q1 b5, q1 b5, q1 b6] .ret [(2, vb false)] [] tv fun a w hs => ?_
 exact rK (.val (vb false)) [] hs (by rw [checkN, if_neg (by omega), if_neg (by omega), if_neg (show ¬ rd n.m _ = 0 from beq_eq_false_iff_ne.1 b4), if_neg (by omega), if_pos (by omega)])
 refine wL hs hI [(6, rc [(2, ciV 151 [rwU n.m, .lit (.int .u32 10)] (.tup [rwU (lim (val n.m / 10)), .lit (.int .u32 ((val n.m % 10 : Nat) : Int))]))]), (4, rg [] [3, 4, 5, 6, 7, 8, 9, 12, 13, 14, 17, 18, 19] [1010, 1015, 1020])] (bz 2 0) 12918668840979666666667777777777733337778979860898 [q1 b1, q1 b3, q1 b3, q1 b3, q1 b3, q3 ((n.m.length : Int) - 1), q1 b3, q4 ((n.m.length : Int) - 1) n.m.length, q1 b3, q1 b3, q1 b3, q1 b4, q1 b4, q1 b4, q1 b4, q1 b5, q1 b5, q1 b5, q1 b5, q1 b6] .ret [(2, vb (((val n.m % 10 : Nat) : Int) != 0))] [] ⟨con218_10 _ ha hl, tv⟩ fun a w hs => ?_
 exact rK (.val (vb (((val n.m % 10 : Nat) : Int) != 0))) [] hs (by rw [checkN, if_neg (by omega), if_neg (by omega), if_neg (show ¬ rd n.m _ = 0 from beq_eq_false_iff_ne.1 b4), if_neg (by omega), if_neg (by omega)]; have e1 : (((val n.m % 10 : Nat) : Int) != 0) = decide (val n.m % 10 ≠ 0) := (by rw [Bool.eq_iff_iff, bne_iff_ne, decide_eq_true_iff]; omega); rw [e1])
mutual
def sameT : Tree → Tree → Bool
 | .mk k b n s ks v, t => if k = t.kind then (if k = 2 then b == t.b else if k = 3 then sameN n t.n else if k = 4 ∨ k = 5 then (s.toList == t.s.toList) else if k = 6 then decide (v.length = t.v.length) && sameL v t.v else if k = 7 then decide (v.length = t.v.length) && (decide (ks.length = t.k.length) && (decide (ks = t.k) && sameL v t.v)) else true) else false
def sameL : List Tree → List Tree → Bool
 | [], _ => true
 | _ :: _, [] => false
 | x :: l, y :: m => sameT x y && sameL l m
end
theorem sameT_eq (t u : Tree) : sameT t u = if t.kind = u.kind then (if t.kind = 2 then t.b == u.b else if t.kind = 3 then sameN t.n u.n else if t.kind = 4 ∨ t.kind = 5 then (t.s.toList == u.s.toList) else if t.kind = 6 then decide (t.v.length = u.v.length) && sameL t.v u.v else if t.kind = 7 then decide (t.v.length = u.v.length) && (decide (t.k.length = u.k.length) && (decide (t.k = u.k) && sameL t.v u.v)) else true) else false := by cases t; rfl
theorem sameL_drop {v m : List Tree} {i : Nat} (hi : i < v.length) (hm : i < m.length) : sameL (v.drop i) (m.drop i) = (sameT (v.getD i (dflt .tree)) (m.getD i (dflt .tree)) && sameL (v.drop (i + 1)) (m.drop (i + 1))) := by
 rw [List.drop_eq_getElem_cons hi, List.drop_eq_getElem_cons hm, sameL]
 have e : v.getD i (dflt .tree) = v[i] := by rw [List.getD_eq_getElem?_getD, List.getElem?_eq_getElem hi]; rfl
 have e' : m.getD i (dflt .tree) = m[i] := by rw [List.getD_eq_getElem?_getD, List.getElem?_eq_getElem hm]; rfl
 rw [e, e']
def validT (t : Tree) : Bool := (chk t 1 2000).1
mutual
def fewT : Tree → Bool
 | .mk _ _ _ _ _ v => decide ((v.length : Int) ≤ 300) && fewL v
def fewL : List Tree → Bool
 | [] => true
 | t :: l => fewT t && fewL l
end
theorem fewT_eq (t : Tree) : fewT t = (decide ((t.v.length : Int) ≤ 300) && fewL t.v) := by cases t; rfl
theorem fewL_any : ∀ l : List Tree, fewL l = !(l.any fun t => !fewT t)
 | [] => rfl
 | t :: l => by simp only [fewL, List.any_cons, fewL_any l]; cases fewT t <;> simp
theorem con57 (t : Tree) (hft : fineT t) : Con Tryz.prog I0 33 [.agg (encTree t)] (.val (vb (validT t))) := by
 refine con_of Tryz.func33 rfl (Nat.le_of_ble_eq_true rfl) stab (fun w0 fz a hI hs => ?_)
 refine wL hs hI [(2, rc [(1, ciB 62 [aTr (t), vi 1, .ptr 0 0] [] (.val (vb (validT t))) [(0, .var [vi 2000])] [(0, .var [vi ((chk t 1 2000).2)])] [(0, 2000)])])] [] 1290419898 [] .ret [(2, vb (validT t))] [] ⟨con117_ (nodes t + 1) t 1 2000 (Nat.lt_succ_self _) hft (by decide) (by decide) (by decide) (by decide), tv⟩ fun a w hs => ?_
 exact rK (.val (vb (validT t))) [] hs rfl
def normStep (out : List (List ByteArray)) (p : List ByteArray) : List (List ByteArray) :=
 if decide ((out.length : Int) > 0) = true then (if startsF (out.getD ((out.length : Int) - 1).toNat (dflt .strs)) p = true then out else out ++ [p]) else out ++ [p]
def normTo (s : List (List ByteArray)) (i : Nat) : List (List ByteArray) := (s.take i).foldl normStep []
def normF (l : List (List ByteArray)) : List (List ByteArray) := (sortP l).foldl normStep []
theorem normTo_succ {s : List (List ByteArray)} {i : Nat} (h : i < s.length) (d : List ByteArray) : normTo s (i + 1) = normStep (normTo s i) (s.getD i d) := by
 unfold normTo
 rw [List.take_succ_eq_append_getElem h, List.foldl_append, List.getD_eq_getElem?_getD, List.getElem?_eq_getElem h]; rfl
theorem normTo_len (s : List (List ByteArray)) : ∀ i, (normTo s i).length ≤ i
 | 0 => by simp [normTo]
 | i + 1 => by
  have ih := normTo_len s i
  rcases Nat.lt_or_ge i s.length with h | h
  rw [normTo_succ h []]
  unfold normStep
  split
  split
  omega
  rw [List.length_append]; simp; omega
  rw [List.length_append]; simp; omega
  unfold normTo at ih ⊢
  rw [List.take_of_length_le h] at ih
  rw [List.take_of_length_le (by omega)]; omega
theorem step_mem {out : List (List ByteArray)} {p q : List ByteArray} (h : q ∈ normStep out p) : q ∈ out ∨ q = p := by
 unfold normStep at h
 split at h
 split at h
 exact .inl h
 simpa using h
 simpa using h
theorem fold_mem : ∀ {s out : List (List ByteArray)} {q : List ByteArray}, q ∈ s.foldl normStep out → q ∈ out ∨ q ∈ s
 | [], out, q, h => .inl h
 | p :: s, out, q, h => by
  rcases fold_mem (s := s) h with h | h
  rcases step_mem h with h | rfl
  exact .inl h
  exact .inr (by simp)
  exact .inr (by simp [h])
theorem sortP_mem {l : List (List ByteArray)} {q : List ByteArray} : q ∈ sortP l ↔ q ∈ l := List.mem_mergeSort
theorem sortP_len (l : List (List ByteArray)) : (sortP l).length = l.length := List.length_mergeSort l
theorem normF_mem {l : List (List ByteArray)} {q : List ByteArray} (h : q ∈ normF l) : q ∈ l := by
 rcases fold_mem h with h | h
 simp at h
 exact sortP_mem.1 h
theorem normF_to (l : List (List ByteArray)) : normTo (sortP l) (sortP l).length = normF l := by unfold normTo normF; rw [List.take_length]
theorem normF_len (l : List (List ByteArray)) : (normF l).length ≤ l.length := by
 have h := normTo_len (sortP l) (sortP l).length
 rw [normF_to, sortP_len] at h; exact h
def sumL (f : Tree → Nat) : List Tree → Nat
 | [] => 0
 | t :: l => f t + sumL f l
def sumM (f : Tree → Nat) : Mem → Nat
 | [] => 0
 | (_, t) :: l => f t + sumM f l
theorem sumM_map (f : Tree → Nat) : ∀ l : Mem, sumM f l = sumL f (l.map (·.2))
 | [] => rfl
 | (_, t) :: l => by simp [sumM, sumL, sumM_map f l]
structure Meas (f : Tree → Nat) : Prop where
 obj : ∀ l, f (objM l) = 1 + sumM f l
 cut : ∀ t, 1 + sumM f (mems t) ≤ f t
 zero : f Tree.zero = 1
section
variable {f : Tree → Nat}
theorem sum_put (x : ByteArray) (v : Tree) : ∀ l : Mem, sumM f (putA x v l) = sumM f l + f v
 | [] => by simp [putA, sumM]
 | (y, u) :: l => by
  simp only [putA]
  split
  simp only [sumM]; omega
  simp only [sumM, sum_put x v l]; omega
theorem sum_rep (x : ByteArray) (v : Tree) : ∀ {l : Mem} {o : Tree}, lookA x l = some o → sumM f (repA x v l) + f o = sumM f l + f v
 | [], o, h => by simp [lookA] at h
 | (y, u) :: l, o, h => by
  simp only [lookA] at h
  simp only [repA]
  split at h
  rename_i e
  simp only [Option.some.injEq] at h
  subst h
  rw [if_pos e]; simp only [sumM]; omega
  rename_i e
  rw [if_neg e]; simp only [sumM]
  have := sum_rep x v (l := l) h; omega
theorem sum_del (x : ByteArray) : ∀ l : Mem, sumM f (delA x l) ≤ sumM f l
 | [] => Nat.le_refl _
 | (y, u) :: l => by
  simp only [delA]
  split
  simp only [sumM]; omega
  simp only [sumM]; have := sum_del x l; omega
theorem set_more (hf : Meas f) (t : Tree) (x : ByteArray) (v : Tree) : f (setT t x v) ≤ f t + f v := by
 have h1 := hf.cut t
 unfold setT insA
 rw [hf.obj]
 split
 rename_i h
 obtain ⟨o, ho⟩ := Option.isSome_iff_exists.1 h
 have := sum_rep (f := f) x v ho; omega
 rw [sum_put]; omega
theorem set_there (hf : Meas f) {t : Tree} {x : ByteArray} (h : memB t x = true) (v : Tree) : f (setT t x v) + f (memV t x) ≤ f t + f v := by
 have h1 := hf.cut t
 rw [memB_look] at h
 obtain ⟨o, ho⟩ := Option.isSome_iff_exists.1 h
 rw [memV_look, ho]
 unfold setT insA
 rw [if_pos h, hf.obj]
 have := sum_rep (f := f) x v ho
 simp only [Option.getD_some]; omega
theorem unset_less (hf : Meas f) (t : Tree) (x : ByteArray) : f (unsetT t x) ≤ f t := by
 have h1 := hf.cut t
 unfold unsetT
 split
 rw [hf.obj]
 have := sum_del (f := f) x (mems t); omega
 exact Nat.le_refl _
theorem memV_zero {t : Tree} {x : ByteArray} (h : memB t x = false) : memV t x = Tree.zero := (memV_neg (of_decide_eq_false h)).1
theorem setP_more (hf : Meas f) (v : Tree) : ∀ (p : List ByteArray) (t : Tree), f (setP p t v) ≤ f t + f v + p.length
 | [], t => by simp [setP]
 | n :: p, t => by
  have ih := setP_more hf v p (memV t n)
  simp only [setP, List.length_cons]
  cases h : memB t n with
  | true => have := set_there hf h (setP p (memV t n) v); omega
  | false =>
   have h1 := set_more hf t n (setP p (memV t n) v)
   rw [memV_zero h, hf.zero] at ih
   rw [memV_zero h] at h1 ⊢; omega
theorem unsetP_less (hf : Meas f) : ∀ (p : List ByteArray) (t : Tree), f (unsetP p t) ≤ f t
 | [], t => Nat.le_refl _
 | [n], t => unset_less hf t n
 | n :: m :: p, t => by
  simp only [unsetP]
  split
  rename_i h
  have ih := unsetP_less hf (m :: p) (memV t n)
  have := set_there hf h (unsetP (m :: p) (memV t n)); omega
  exact Nat.le_refl _
theorem look_sum {x : ByteArray} : ∀ {l : Mem} {o : Tree}, lookA x l = some o → f o ≤ sumM f l
 | [], o, h => by simp [lookA] at h
 | (y, u) :: l, o, h => by
  simp only [lookA] at h
  simp only [sumM]
  split at h
  simp only [Option.some.injEq] at h; subst h; omega
  have := look_sum h; omega
theorem mem_less (hf : Meas f) {t : Tree} {x : ByteArray} (h : memB t x = true) : f (memV t x) < f t := by
 have h1 := hf.cut t
 rw [memB_look] at h
 obtain ⟨o, ho⟩ := Option.isSome_iff_exists.1 h
 rw [memV_look, ho]
 have := look_sum (f := f) ho
 simp only [Option.getD_some]; omega
theorem get_less (hf : Meas f) : ∀ (p : List ByteArray) (t : Tree), (getF p t).2 = true → f (getF p t).1 ≤ f t
 | [], t, _ => Nat.le_refl _
 | n :: p, t, h => by
  simp only [getF] at h ⊢
  split at h
  rename_i hb
  rw [if_pos hb]
  have := get_less hf p (memV t n) h
  have := mem_less hf hb; omega
  cases h
end
theorem sumL_take (f : Tree → Nat) : ∀ (l : List Tree) (n : Nat), sumL f (l.take n) ≤ sumL f l
 | [], n => by simp [sumL]
 | t :: l, 0 => by simp [sumL]
 | t :: l, n + 1 => by simp only [List.take_succ_cons, sumL]; have := sumL_take f l n; omega
theorem nodesL_sum : ∀ l : List Tree, nodesL l = sumL nodes l
 | [] => rfl
 | t :: l => by simp [nodesL, sumL, nodesL_sum l]
theorem weightL_sum : ∀ l : List Tree, weightL l = sumL weight l
 | [] => rfl
 | t :: l => by simp [weightL, sumL, weightL_sum l]
theorem cut_sum (f : Tree → Nat) (t : Tree) : sumM f (mems t) ≤ sumL f t.v := by
 rw [sumM_map, mems_v]
 unfold cutV
 split
 exact sumL_take f t.v _
 simp [sumL]
theorem measNodes : Meas nodes := by
 refine ⟨fun l => ?_, fun t => ?_, by simp [Tree.zero, nodes, nodesL]⟩
 rw [nodes_eq, nodesL_sum, sumM_map]; rfl
 have h := cut_sum nodes t
 have h2 := nodes_eq t
 rw [nodesL_sum] at h2; omega
theorem measWeight : Meas weight := by
 refine ⟨fun l => ?_, fun t => ?_, by
  rw [weight_eq]
  have h : bulk Tree.zero = 1 := bulk_0 (t := Tree.zero) (show ¬ (0 : Int) = 3 by decide) (show ¬ (0 : Int) = 4 by decide) (show ¬ (0 : Int) = 5 by decide)
  rw [h]; rfl⟩
 ·rw [weight_eq, weightL_sum, sumM_map]
  have : bulk (objM l) = 1 := bulk_0 (by simp [objM, Tree.kind]) (by simp [objM, Tree.kind]) (by simp [objM, Tree.kind])
  rw [this]; rfl
 ·have h := cut_sum weight t
  have h2 := weight_eq t
  have h3 : 1 ≤ bulk t := by simp [bulk]
  rw [weightL_sum] at h2; omega
mutual
theorem chk_nodes : ∀ (t : Tree) (d l : Int), (chk t d l).1 = true → (chk t d l).2 = l - nodes t ∧ 0 ≤ (chk t d l).2 ∧ (0 ≤ d → d + depth t ≤ 65)
 | .mk k b n s ks v, d, l, h => by
  rw [chk_eq] at h ⊢
  split at h
  cases h
  rename_i hc
  rw [if_neg hc]
  have ih := chkL_nodes v (d + 1) (l - 1) (by omega) h
  have e1 : (chkL (Tree.mk k b n s ks v).v (d + 1) (l - 1)) = chkL v (d + 1) (l - 1) := rfl
  rw [e1]
  simp only [nodes, depth]
  exact ⟨by omega, ih.2.1, fun hd => by have := ih.2.2 (by omega); omega⟩
theorem chkL_nodes : ∀ (v : List Tree) (d l : Int), 0 ≤ l → (chkL v d l).1 = true → (chkL v d l).2 = l - nodesL v ∧ 0 ≤ (chkL v d l).2 ∧ (0 ≤ d → d ≤ 65 → d + depthL v ≤ 65)
 | [], d, l, hl, h => by simp only [chkL, nodesL, depthL]; exact ⟨by omega, hl, fun _ h => by omega⟩
 | x :: v, d, l, hl, h => by
  simp only [chkL] at h ⊢
  split at h
  rename_i hc
  rw [if_pos hc]
  have h1 := chk_nodes x d l hc
  have h2 := chkL_nodes v d (chk x d l).2 h1.2.1 h
  simp only [nodesL, depthL]
  exact ⟨by omega, h2.2.1, fun a b => by have := h1.2.2 a; have := h2.2.2 a b; omega⟩
  cases h
end
theorem valid_nodes {t : Tree} (h : validT t = true) : nodes t ≤ 2000 ∧ depth t ≤ 64 := by
 have := chk_nodes t 1 2000 h
 have := this.2.2 (by decide)
 omega
theorem own_bulk {t : Tree} (h : ownO t = true) : bulk t ≤ 2001 := by
 simp only [ownO, Bool.and_eq_true, decide_eq_true_eq] at h
 obtain ⟨_, _, hn, hs, _, _⟩ := h
 by_cases h3 : t.kind = 3
 rw [bulk_3 h3]
 simp only [numO, h3, if_true, checkN] at hn
 split at hn
 omega
 split at hn
 cases hn
 omega
 by_cases h4 : t.kind = 4
 rw [bulk_4 h4]
 simp only [textO, h4, if_true, textOk, Bool.and_eq_true, decide_eq_true_eq] at hs
 omega
 by_cases h5 : t.kind = 5
 rw [bulk_5 h5]
 simp only [textO, h4, h5, if_true, if_false, decide_eq_true_eq] at hs
 simp at hs; omega
 rw [bulk_0 h3 h4 h5]; omega
mutual
theorem chk_weight : ∀ (t : Tree) (d l : Int), (chk t d l).1 = true → weight t ≤ 2001 * nodes t
 | .mk k b n s ks v, d, l, h => by
  rw [chk_eq] at h
  split at h
  cases h
  rename_i hc
  have ih := chkL_weight v (d + 1) (l - 1) h
  have ho : ownO (.mk k b n s ks v) = true := by
   cases hq : ownO (.mk k b n s ks v) with
   | true => rfl
   | false => exact absurd (.inr (.inr hq)) hc
  have := own_bulk ho
  simp only [weight, nodes]; omega
theorem chkL_weight : ∀ (v : List Tree) (d l : Int), (chkL v d l).1 = true → weightL v ≤ 2001 * nodesL v
 | [], d, l, h => by simp [weightL]
 | x :: v, d, l, h => by
  simp only [chkL] at h
  split at h
  rename_i hc
  have h1 := chk_weight x d l hc
  have h2 := chkL_weight v d (chk x d l).2 h
  simp only [weightL, nodesL]; omega
  cases h
end
theorem valid_weight {t : Tree} (h : validT t = true) : weight t ≤ 4002000 := by
 have := chk_weight t 1 2000 h
 have := (valid_nodes h).1
 omega
def apStep (v t : Tree) (p : List ByteArray) : Tree := if (getF p v).2 = true then setP p t (getF p v).1 else unsetP p t
def apTo (v t : Tree) (s : List (List ByteArray)) (i : Nat) : Tree := (s.take i).foldl (apStep v) t
def apAll (t : Tree) (s : List (List ByteArray)) (v : Tree) : Tree := s.foldl (apStep v) t
theorem apTo_succ {v t : Tree} {s : List (List ByteArray)} {i : Nat} (h : i < s.length) (d : List ByteArray) : apTo v t s (i + 1) = apStep v (apTo v t s i) (s.getD i d) := by
 unfold apTo
 rw [List.take_succ_eq_append_getElem h, List.foldl_append, List.getD_eq_getElem?_getD, List.getElem?_eq_getElem h]; rfl
theorem apTo_yes {v t : Tree} {s : List (List ByteArray)} {i : Nat} (h : i < s.length) (hb : (getF (s.getD i (dflt .strs)) v).2 = true) : apTo v t s (i + 1) = setP (s.getD i (dflt .strs)) (apTo v t s i) (getF (s.getD i (dflt .strs)) v).1 := by
 rw [apTo_succ h (dflt .strs), apStep, if_pos hb]
theorem apTo_no {v t : Tree} {s : List (List ByteArray)} {i : Nat} (h : i < s.length) (hb : (getF (s.getD i (dflt .strs)) v).2 = false) : apTo v t s (i + 1) = unsetP (s.getD i (dflt .strs)) (apTo v t s i) := by
 rw [apTo_succ h (dflt .strs), apStep, if_neg (by rw [hb]; decide)]
theorem apTo_all (v t : Tree) (s : List (List ByteArray)) : apTo v t s s.length = apAll t s v := by unfold apTo apAll; rw [List.take_length]
theorem apStep_more {f : Tree → Nat} (hf : Meas f) (v t : Tree) (p : List ByteArray) : f (apStep v t p) ≤ f t + (f v + p.length) := by
 unfold apStep
 split
 rename_i h
 have := setP_more hf (getF p v).1 p t
 have := get_less hf p v h; omega
 have := unsetP_less hf p t; omega
theorem apTo_more {f : Tree → Nat} (hf : Meas f) (v t : Tree) (s : List (List ByteArray)) (hs : ∀ p ∈ s, p.length ≤ 63) : ∀ i, f (apTo v t s i) ≤ f t + i * (f v + 63)
 | 0 => by simp [apTo]
 | i + 1 => by
  have ih := apTo_more hf v t s hs i
  rw [Nat.succ_mul]
  rcases Nat.lt_or_ge i s.length with h | h
  rw [apTo_succ h []]
  have h1 := apStep_more hf v (apTo v t s i) (s.getD i [])
  have h2 := hs _ (getD_mem h []); omega
  unfold apTo at ih ⊢
  rw [List.take_of_length_le h] at ih
  rw [List.take_of_length_le (by omega)]; omega
theorem check_paths {l : List (List ByteArray)} (h : checkF l = true) : l.length ≤ 60 ∧ ∀ p ∈ l, 0 < p.length ∧ p.length ≤ 63 := by
 simp only [checkF, Bool.and_eq_true, decide_eq_true_eq, Bool.not_eq_true'] at h
 refine ⟨by omega, fun p hp => ?_⟩
 have := List.any_eq_false.1 h.2 p hp
 simp only [badPath, Bool.or_eq_true, not_or, decide_eq_true_eq, beq_iff_eq] at this
 omega
def applyF (t : Tree) (l : List (List ByteArray)) (s : List (List ByteArray)) (v : Tree) (w : Int) : Tree × Int :=
 if validT t = false ∨ validT v = false ∨ checkF l = false then (Tree.zero, 1)
 else if ((weight (apAll t s v) : Nat) : Int) > w ∨ nodes (apAll t s v) > 2000 ∨ depth (apAll t s v) > 64 ∨ fewT (apAll t s v) = false then (Tree.zero, 4)
 else (apAll t s v, 0)
end Go.Proofs.YtfimffgfnhplkaaGreatDoor.F
