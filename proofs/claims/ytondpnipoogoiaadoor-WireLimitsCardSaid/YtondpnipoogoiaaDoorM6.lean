/- so many operations, and one too many; so many tokens; so many paths. -/
import Derived.Test.YtondpnipoogoiaaDoorM5
import Derived.Test.YtondpnipoogoiaaDoorM2
/- wire's awake: the document's example. -/
namespace Go.Proofs.YtondpnipoogoiaaDoor.X
open Go.RowKit Go.Proofs.YtondpnipoogoiaaDoorW.PrintWords Go.Proofs.YtondpnipoogoiaaDoorW.PrintLast Go.Proofs.YtondpnipoogoiaaDoorW.PrintMore
set_option linter.unusedVariables false
set_option linter.unusedSimpArgs false
def awT : S29 := (⟨7, false, ⟨false, [], 0⟩, (⟨#[]⟩ : ByteArray), [(⟨#[111, 112]⟩ : ByteArray)], [(⟨4, false, ⟨false, [], 0⟩, (⟨#[97, 100, 100]⟩ : ByteArray), [], []⟩ : S29)]⟩ : S29)
set_option maxHeartbeats 16000000 in
set_option maxRecDepth 100000 in
theorem awake.calls (k : Nat) (ra : Int) (oa : List S39) (va : S29) (ma : List (List ByteArray)) (w : World) (hL : Laid w)
    (hA : Read.f k 1 6 false false [] 0 ⟨#[]⟩ [] [awT] = some (ra, oa, va, ma, 2))
    (hB : Read.f k 2 2 true false [] 0 ⟨#[]⟩ [] [] = some (2, [], trueT, [], 0))
    (hC : tree_Check.f k 2 true false [] 0 ⟨#[]⟩ [] [] = some true) :
    Calls Tryd.prog 7 #[] w fun e w' => e = .returned (.bool true) ∧ Below w.heap.size w w' := by
  have hu := Tryd.underlying29
  have hu2 := Tryd.underlying33
  have HL := Aside0.mk hL
  have HA := Aside0.mk hA
  have HBB := Aside0.mk hB
  have HC := Aside0.mk hC
  clear hL hA hB hC
  obtain ⟨wa, hwwa⟩ : ∃ wa_, w.alloc (.cells #[.string (⟨#[111, 112]⟩ : ByteArray)] 9) = wa_ := ⟨_, rfl⟩
  have hnwa := hwwa ▸ blk_new w (.cells #[.string (⟨#[111, 112]⟩ : ByteArray)] 9)
  have hbwa : Below w.heap.size w wa := hwwa ▸ below_alloc (Below.refl _ _) _
  obtain ⟨wb, hwwb⟩ : ∃ wb_, wa.alloc (.cells #[.int .i64 4, .bool false, .bool false, .slice none 0 0, .int .i64 0, .string (⟨#[97, 100, 100]⟩ : ByteArray), .slice none 0 0, .slice none 0 0] 29) = wb_ := ⟨_, rfl⟩
  have hnwb := hwwb ▸ blk_new wa (.cells #[.int .i64 4, .bool false, .bool false, .slice none 0 0, .int .i64 0, .string (⟨#[97, 100, 100]⟩ : ByteArray), .slice none 0 0, .slice none 0 0] 29)
  have hbwb : Below wa.heap.size wa wb := hwwb ▸ below_alloc (Below.refl _ _) _
  obtain ⟨wc, hwwc⟩ : ∃ wc_, wb.alloc (.cells #[.int .i64 7, .bool false, .bool false, .slice none 0 0, .int .i64 0, .string (⟨#[]⟩ : ByteArray), .slice (some ⟨w.heap.size, 0, none⟩) 1 1, .slice (some ⟨wa.heap.size, 0, none⟩) 1 1] 29) = wc_ := ⟨_, rfl⟩
  have hnwc := hwwc ▸ blk_new wb (.cells #[.int .i64 7, .bool false, .bool false, .slice none 0 0, .int .i64 0, .string (⟨#[]⟩ : ByteArray), .slice (some ⟨w.heap.size, 0, none⟩) 1 1, .slice (some ⟨wa.heap.size, 0, none⟩) 1 1] 29)
  have hbwc : Below wb.heap.size wb wc := hwwc ▸ below_alloc (Below.refl _ _) _
  have HBg := Aside0.mk (below_step (below_step hbwa hbwb) hbwc)
  have hfk : Kd.FK k29 wc (fun _ => True) awT [.int .i64 7, .bool false, .bool false, .slice none 0 0, .int .i64 0, .string (⟨#[]⟩ : ByteArray), .slice (some ⟨w.heap.size, 0, none⟩) 1 1, .slice (some ⟨wa.heap.size, 0, none⟩) 1 1] := k29_mkF wc _ awT (Nat.le_refl _) (Kd.F_nil _ _ _) (Nat.le_refl 1) (Kd.F_mono (Kd.F_below (Kd.F_below (F_lit _ [(⟨#[111, 112]⟩ : ByteArray)] hnwa rfl (by decide)) hbwb) hbwc) (fun _ _ => trivial)) (Nat.le_refl 1) (Kd.F_mono (Kd.F_below (F_rows1 (ok := fun _ => False) _ _ hnwb (fk_leaf wb _ 4 false (⟨#[97, 100, 100]⟩ : ByteArray))) hbwc) (fun _ _ => trivial))
  have HF1 := Aside0.mk (show Kd.F k29 wc (fun _ => True) (some ⟨wb.heap.size, 0, none⟩) 1 [awT] from Kd.F_mono (F_rows1 _ _ hnwc hfk) (fun _ _ => trivial))
  clear hfk hnwa hnwb hnwc hbwa hbwb hbwc
  go_enter Tryd.func7, Tryd.ntmps7
  go_wp2_with fail
  clear hwwa hwwb hwwc
  refine (Read.calls k 1 6 false false none 0 [] 0 ⟨#[]⟩ none 0 [] (some ⟨wb.heap.size, 0, none⟩) 1 [awT] (fun _ => True) ra oa va ma 2 _ (HL.out.below HBg.out) (Kd.F_nil _ _ _) (Nat.le_refl _) (Kd.F_nil _ _ _) (Nat.le_refl _) HF1.out (Nat.le_refl 1) HA.out).mono ?_
  rintro e wd ⟨Bao, dao, Ba6, da6, Ba9, da9, Bat, dat, Bam, dam, rfl, hpf, hb⟩
  replace HBg := Aside0.mk (below_step HBg.out hb)
  clear hpf hb HF1
  obtain ⟨we, hwe⟩ : ∃ u_, wd.alloc (.cells #[.int .i64 ra, .slice Bao oa.length dao, .int .i64 va.f0, .bool va.f1, .bool va.f2.f0, .slice Ba6 va.f2.f1.length da6, .int .i64 va.f2.f2, .string va.f3, .slice Ba9 va.f4.length da9, .slice Bat va.f5.length dat, .slice Bam ma.length dam] 33) = u_ := ⟨_, rfl⟩
  replace HBg := Aside0.mk (below_step HBg.out (show Below wd.heap.size wd we from hwe ▸ below_alloc (Below.refl _ _) _))
  go_wp2_with fail
  clear hwe
  refine (Read.calls k 2 2 true false none 0 [] 0 ⟨#[]⟩ none 0 [] none 0 [] (fun _ => True) 2 [] trueT [] 0 _ (HL.out.below HBg.out) (Kd.F_nil _ _ _) (Nat.le_refl _) (Kd.F_nil _ _ _) (Nat.le_refl _) (Kd.F_nil _ _ _) (Nat.le_refl _) HBB.out).mono ?_
  rintro e wf ⟨Bbo, dbo, Bb6, db6, Bb9, db9, Bbt, dbt, Bbm, dbm, rfl, hpf, hb⟩
  replace HBg := Aside0.mk (below_step HBg.out hb)
  have HPF := Aside0.mk hpf
  clear hpf hb
  have HG := Aside0.mk (blk_new wf (.cells #[.int .i64 2, .slice Bbo 0 dbo, .int .i64 2, .bool true, .bool false, .slice Bb6 0 db6, .int .i64 0, .string (⟨#[]⟩ : ByteArray), .slice Bb9 0 db9, .slice Bbt 0 dbt, .slice Bbm 0 dbm] 33))
  have HPG := Aside0.mk (HPF.out.step (ok' := fun _ => True) (fun k_ _ hl => Below.heap_alloc wf (.cells #[.int .i64 2, .slice Bbo 0 dbo, .int .i64 2, .bool true, .bool false, .slice Bb6 0 db6, .int .i64 0, .string (⟨#[]⟩ : ByteArray), .slice Bb9 0 db9, .slice Bbt 0 dbt, .slice Bbm 0 dbm] 33) k_ hl) (fun _ _ => trivial))
  have HBh := Aside0.mk (below_step HBg.out (below_alloc (Below.refl _ _) (.cells #[.int .i64 2, .slice Bbo 0 dbo, .int .i64 2, .bool true, .bool false, .slice Bb6 0 db6, .int .i64 0, .string (⟨#[]⟩ : ByteArray), .slice Bb9 0 db9, .slice Bbt 0 dbt, .slice Bbm 0 dbm] 33)))
  go_wp2_with fail
  refine (check2.calls k (fun _ => True) Bbo dbo Bb6 db6 Bb9 db9 Bbt dbt Bbm dbm _ (HL.out.below HBh.out) HPG.out HC.out).mono ?_
  rintro e wz ⟨rfl, hb⟩
  have HBz := Aside0.mk (below_step HBh.out hb)
  clear hb
  go_wp2_with fail
  go_ret
  exact ⟨rfl, HBz.out⟩
end Go.Proofs.YtondpnipoogoiaaDoor.X
/- The law WireLimits: true for every three numbers. -/
namespace Go.Proofs.YtondpnipoogoiaaDoor.X
open Go.RowKit Go.Proofs.YtondpnipoogoiaaDoorW.PrintWords Go.Proofs.YtondpnipoogoiaaDoorW.PrintLast Go.Proofs.YtondpnipoogoiaaDoorW.PrintMore
set_option linter.unusedVariables false
set_option linter.unusedSimpArgs false
theorem place_ok (n m : Int) (h0 : 0 < m) (hm : m ≤ 100) : ∃ o : Nat, (o : Int) < m ∧ erratumlaw00_Place.f n m = some (o : Int) := by
  have h1 : Int.tmod n m < m := Int.tmod_lt_of_pos n h0
  have h2 : -m < Int.tmod n m := by
    rcases Int.le_total 0 n with h | h
    · have := Int.tmod_nonneg m h; omega
    · have h3 : Int.tmod (-n) m < m := Int.tmod_lt_of_pos (-n) h0
      rw [Int.neg_tmod] at h3
      omega
  unfold erratumlaw00_Place.f
  rw [if_neg (by omega)]
  by_cases h : Int.tmod n m < 0
  · rw [if_pos h]
    refine ⟨(Int.tmod n m + m).toNat, by omega, congrArg some ?_⟩
    unfold wrap64
    omega
  · rw [if_neg h]
    exact ⟨(Int.tmod n m).toNat, by omega, congrArg some (by omega)⟩
set_option maxRecDepth 100000 in
theorem awake_true (w : World) (hL : Laid w) : Calls Tryd.prog 7 #[] w fun e w' => e = .returned (.bool true) ∧ Below w.heap.size w w' :=
  awake.calls 400 0 [] z29 [] w hL (by kernel_rfl) (by kernel_rfl) (by kernel_rfl)
theorem limits_true (n kk m : Int) (w : World) (hL : Laid w) : Calls Tryd.prog 3 #[.int .i64 n, .int .i64 kk, .int .i64 m] w fun e w' => e = .returned (.bool true) ∧ Below w.heap.size w w' := by
  obtain ⟨o, ho, hp1⟩ := place_ok n 75 (by decide) (by decide)
  obtain ⟨t, ht, hp2⟩ := place_ok kk 80 (by decide) (by decide)
  obtain ⟨q, hq, hp3⟩ := place_ok m 75 (by decide) (by decide)
  have hA := read_ops o (by omega)
  have hB := read_op (pathT t) _ _ (text_ok _ (by have := pathT_size t; omega) (path_valid t)) (show pointer_Parse.f 400 (pathT t) = some ((if 63 < t then [] else List.replicate t aB), (if 63 < t then 4 else 0)) from by rw [parse_path t 400 (by omega) (by omega)]; split <;> rfl)
  have hC := read_mask (maskT q) _ _ (text_ok _ (by have := maskT_size q; omega) (mask_valid q)) (show mask_Parse.f 400 (maskT q) = some ((if 60 < q then [] else List.replicate q [aB]), (if 60 < q then 4 else 0)) from by rw [parse_mask q 400 (by omega) (by omega)]; split <;> rfl)
  have hA' : ∃ ra oa va ma ea, Read.f 400 1 6 false false [] 0 ⟨#[]⟩ [] (List.replicate o remT) = some (ra, oa, va, ma, ea) ∧ ea = (if 60 < o then 4 else 0) ∧ (ea = 0 → oa.length = o) := by
    by_cases h : 60 < o
    · rw [if_pos h] at hA; exact ⟨_, _, _, _, _, hA, by rw [if_pos h], fun e => by cases e⟩
    · rw [if_neg h] at hA; exact ⟨_, _, _, _, _, hA, by rw [if_neg h], fun _ => by rw [List.length_replicate]⟩
  have hB' : ∃ ra oa va ma ea, Read.f 400 1 6 false false [] 0 ⟨#[]⟩ [] [opT (pathT t)] = some (ra, oa, va, ma, ea) ∧ ea = (if 63 < t then 4 else 0) ∧ (ea = 0 → ∃ y, oa = [y] ∧ y.f1.length = t) := by
    by_cases h : 63 < t
    · rw [if_pos h, if_pos h, if_neg (by decide)] at hB; exact ⟨_, _, _, _, _, hB, by rw [if_pos h], fun e => by cases e⟩
    · rw [if_neg h, if_neg h, if_pos rfl] at hB; exact ⟨_, _, _, _, _, hB, by rw [if_neg h], fun _ => ⟨_, rfl, List.length_replicate⟩⟩
  have hC' : ∃ ra oa va ma ea, Read.f 400 3 7 false false [] 0 ⟨#[]⟩ [maskB, valueB] [txT (maskT q), nullT] = some (ra, oa, va, ma, ea) ∧ ea = (if 60 < q then 4 else 0) ∧ (ea = 0 → ma.length = q) := by
    by_cases h : 60 < q
    · rw [if_pos h, if_pos h, if_neg (by decide)] at hC; exact ⟨_, _, _, _, _, hC, by rw [if_pos h], fun e => by cases e⟩
    · rw [if_neg h, if_neg h, if_pos rfl] at hC; exact ⟨_, _, _, _, _, hC, by rw [if_neg h], fun _ => by rw [List.length_replicate]⟩
  obtain ⟨ra, oa, va, ma, ea, a1, a2, a3⟩ := hA'
  obtain ⟨rb, ob, vb, mb, eb, b1, b2, b3⟩ := hB'
  obtain ⟨rc, oc, vc, mc, ec, c1, c2, c3⟩ := hC'
  exact limits.calls 400 n kk m o t q ra rb rc oa ob oc va vb vc ma mb mc ea eb ec w hL hp1 hp2 hp3 (by omega) (by omega) (by omega) a1 a2 a3 b1 b2 b3 c1 c2 c3 awake_true
end Go.Proofs.YtondpnipoogoiaaDoor.X
/- The row and the card of WireLimits. -/
namespace Go.Proofs.YtondpnipoogoiaaDoor.X
open Go.ChangeShapes Go.WideShapes Go.ChangeAt Go.RowKit
set_option maxRecDepth 100000 in
theorem contractWireLimits (H : Type) (enc : TypeId × Value → H) (W : World) (base : Nat) (args : Array Value) (ds gs : List (DataW H)) (before : List MemPlace)
    (hval : ∀ (j : Nat) t v, Tryd.f3.params[j]? = some t → args[j]? = some v → Value.okWide Tryd.prog W .any base t v)
    (hW : DataW.Whole enc Tryd.prog Tryd.f3.params.toList Rows.wireLimitsSpec.vars false W args.toList ds gs before) (hL : laidMetH Tryd.prog Rows.wireLimitsRow.laid W) (hS : W.ShapedOpen Tryd.prog) :
    Calls Tryd.prog 3 args W fun e W' => ∃ v, e = .returned v ∧ Rows.wireLimitsSpec.post enc Tryd.prog Tryd.f3 false true false false W args v W' := by
  have hW' := hW
  obtain ⟨p, q, hA0, hV, rfl, hfz, hnd⟩ := hW
  have hA : DataW.TrodAll enc Tryd.prog W 0 (fun _ => true) true Tryd.f3.params.toList args.toList ds p := hA0
  rw [Tryd.params3] at hA hval
  obtain ⟨v0, vs0, d0, ds0, p0, q0, hargs, rfl, rfl, h0, r0⟩ := trodAll_cons hA
  obtain ⟨v1, vs1, d1, ds1, p1, q1, rfl, rfl, rfl, h1, r1⟩ := trodAll_cons r0
  obtain ⟨v2, vs2, d2, ds2, p2, q2, rfl, rfl, rfl, h2, r2⟩ := trodAll_cons r1
  obtain ⟨rfl, rfl, rfl⟩ := trodAll_nil r2
  obtain rfl : args = #[v0, v1, v2] := by cases args; simp_all
  obtain ⟨rfl, rfl⟩ := trodVars_none hV
  obtain ⟨a0, rfl, rfl, rfl, w0⟩ := open_int Tryd.underlying3 (hval 0 3 v0 rfl rfl) h0
  obtain ⟨a1, rfl, rfl, rfl, w1⟩ := open_int Tryd.underlying3 (hval 1 3 v1 rfl rfl) h1
  obtain ⟨a2, rfl, rfl, rfl, w2⟩ := open_int Tryd.underlying3 (hval 2 3 v2 rfl rfl) h2
  clear hA0
  refine (limits_true a0 a1 a2 W (laid_of hL hS)).mono fun e W' ⟨he, bel⟩ => ?_
  subst he
  exact ⟨_, rfl, _, _, _, [], _, [], hW', trodAll_mk1 (shut_bool Tryd.underlying4 _), (trodAll_cons_mk (shut_int Tryd.underlying3 w0) (trodAll_cons_mk (shut_int Tryd.underlying3 w1) (trodAll_cons_mk (shut_int Tryd.underlying3 w2) trodAll_mk0))), rfl, bel.frame _, fun h => by cases h⟩
theorem readsWireLimits (os : Os) {H : Type} (enc : TypeId × Value → H) : ∃ places, DataW.whole enc Tryd.prog ((laidWorld os).forCall (fun _ _ => 0) ⟨#[], #[.int .i64 0, .int .i64 0, .int .i64 0], []⟩).memory Tryd.f3.params.toList Rows.wireLimitsSpec.vars false #[Value.int .i64 0, Value.int .i64 0, Value.int .i64 0].toList 8 = some ([.lit (.int .i64 0), .lit (.int .i64 0), .lit (.int .i64 0)], [], places) :=
  ⟨[], by kernel_rfl⟩
set_option maxRecDepth 100000 in
theorem metWireLimits (os : Os) : laidMet Tryd.prog Rows.wireLimitsRow.laid ((laidWorld os).forCall (fun _ _ => 0) ⟨#[], #[.int .i64 0, .int .i64 0, .int .i64 0], []⟩).memory :=
  laidMet_of_run' 8 (by kernel_rfl) (by kernel_rfl)
set_option maxRecDepth 100000 in
theorem liftedWireLimits (os : Os) (started : os.Started) (H : Type) (enc : TypeId × Value → H) (F : Stop.Interp) :
    ReturnsInHanded {} Tryd.checked os 3 .any ((OpenSpec.ofChange Rows.wireLimitsSpec).preRow enc Tryd.prog Tryd.f3 Rows.wireLimitsRow.domain false Rows.wireLimitsRow.laid) (((OpenSpec.ofChange Rows.wireLimitsSpec).at F).post enc Tryd.prog Tryd.f3 false true false false) := by
  obtain ⟨places, hx⟩ := readsWireLimits os enc
  refine returnsInHanded_of_row (C := Tryd.checked) (s := OpenSpec.ofChange Rows.wireLimitsSpec) own started (by kernel_rfl) Tryd.func3
    (witness_row_at (enc := enc) (C := Tryd.checked) false (laidWorld os) #[.int .i64 0, .int .i64 0, .int .i64 0] rfl (by kernel_rfl) (by kernel_rfl) (by kernel_rfl)
      (OpenSpec.preRow_of_cond 8 hx (by kernel_rfl) (fun k hk => by cases hk) (by kernel_rfl) (metWireLimits os))) ?_
  intro W base args ds gs before hval hW _ _ _ hL hS _
  exact contractWireLimits H enc W base args ds gs before hval hW hL hS
theorem saidWireLimits : Rows.WireLimitsSaid :=
  OpenClaim.holds_of_cond 3 Tryd.f3 rfl rfl rfl rfl rfl rfl rfl ⟨rfl, rfl, rfl, rfl, rfl⟩ rfl rfl rfl rfl rfl (by kernel_rfl) Tryd.func3 (by kernel_rfl)
    (of_decide_eq_true (by kernel_rfl)) (by unfold Func.isWrapper; first | (rw [if_pos (by decide +kernel)]; kernel_rfl) | (rw [if_neg (by decide +kernel)]; exact ⟨rfl, rfl⟩))
    (fun os started H enc _ F => by rw [OpenClaim.pre_eq_preRow]; exact liftedWireLimits os started H enc F)
theorem plainWireLimits (f : FuncId) (fn : Func) (hf : Tryd.pinned.checked.prog.funcNamed "erratum/erratumlaw18.WireLimits" = some f) (hfn : Tryd.pinned.checked.prog.funcs[f]? = some fn) :
    true = Tryd.pinned.checked.prog.looks [] ∧ ∀ (j : Nat) t, fn.params[j]? = some t → Tryd.pinned.checked.prog.wantsStandIn t = false := by
  obtain rfl : f = 3 := Option.some.inj ((show Tryd.prog.funcNamed "erratum/erratumlaw18.WireLimits" = some 3 by kernel_rfl).symm.trans hf) |>.symm
  obtain rfl : fn = Tryd.f3 := (Option.some.inj (Tryd.func3.symm.trans hfn)).symm
  refine ⟨by kernel_rfl, fun j t ht => ?_⟩
  rw [Tryd.params3] at ht
  obtain rfl : t = 3 := by simpa using Array.mem_of_getElem? ht
  exact (show Tryd.prog.wantsStandIn 3 = false by kernel_rfl)
theorem cardWireLimits : Rows.WireLimitsCardSaid :=
  Claim7.holds_tied_plain_at .later [] _ _ _ _ saidWireLimits (fun _ h => by cases h) (by kernel_rfl) (fun _ h => by cases h) wireLimits_row_tie rfl ⟨rfl, rfl⟩ (by kernel_rfl) rfl plainWireLimits (by kernel_rfl)
end Go.Proofs.YtondpnipoogoiaaDoor.X
