import Derived.Test.YtondpnipoogoiaaDoorM2
import Derived.Laws.CopyOwn
/- wire.operation: a value as an operation. -/
namespace Go.Proofs.YtondpnipoogoiaaDoor.X
open Go.RowKit Go.Proofs.YtondpnipoogoiaaDoorW.PrintWords Go.Proofs.YtondpnipoogoiaaDoorW.PrintLast Go.Proofs.YtondpnipoogoiaaDoorW.PrintMore
set_option linter.unusedVariables false
set_option linter.unusedSimpArgs false
def wordsL : List ByteArray := [(⟨#[97, 100, 100]⟩ : ByteArray), (⟨#[114, 101, 109, 111, 118, 101]⟩ : ByteArray), (⟨#[114, 101, 112, 108, 97, 99, 101]⟩ : ByteArray), (⟨#[109, 111, 118, 101]⟩ : ByteArray), (⟨#[99, 111, 112, 121]⟩ : ByteArray), (⟨#[116, 101, 115, 116]⟩ : ByteArray)]
def exF : List ByteArray := [(⟨#[102, 114, 111, 109]⟩ : ByteArray), (⟨#[111, 112]⟩ : ByteArray), (⟨#[112, 97, 116, 104]⟩ : ByteArray)]
def exV : List ByteArray := [(⟨#[111, 112]⟩ : ByteArray), (⟨#[112, 97, 116, 104]⟩ : ByteArray), (⟨#[118, 97, 108, 117, 101]⟩ : ByteArray)]
def exD : List ByteArray := [(⟨#[111, 112]⟩ : ByteArray), (⟨#[112, 97, 116, 104]⟩ : ByteArray)]
theorem words_eq : wire_words.f = some wordsL := rfl
def wayF (k : Nat) (a0 : Int) (a1 a2 : Bool) (l3 : List Int) (a4 : Int) (a5 : ByteArray) (l6 : List ByteArray) (l7 : List S29) (op : Int) : Option (Bool × Int × S29) :=
  (wire_from.f op).bind fun b => if b = true then (wire_exactly.f k a0 a1 a2 l3 a4 a5 l6 l7 exF).bind fun e => some (e.1, e.2, z29)
  else (wire_value.f op).bind fun v => if v = true then (wire_exactly.f k a0 a1 a2 l3 a4 a5 l6 l7 exV).bind fun e => if e.1 = true then some (true, e.2, z29) else (tree_Member.f k a0 a1 a2 l3 a4 a5 l6 l7 (⟨#[118, 97, 108, 117, 101]⟩ : ByteArray)).bind fun m => some (false, 0, ⟨m.1, m.2.1, ⟨m.2.2.1, m.2.2.2.1, m.2.2.2.2.1⟩, m.2.2.2.2.2.1, m.2.2.2.2.2.2.1, m.2.2.2.2.2.2.2.1⟩)
  else (wire_exactly.f k a0 a1 a2 l3 a4 a5 l6 l7 exD).bind fun e => some (e.1, e.2, z29)
def oper.g (k : Nat) (a0 : Int) (a1 a2 : Bool) (l3 : List Int) (a4 : Int) (a5 : ByteArray) (l6 : List ByteArray) (l7 : List S29) (op : Int) : Option (Bool × Int × S39) :=
  (wayF k a0 a1 a2 l3 a4 a5 l6 l7 op).bind fun v => if v.1 = true then some (true, v.2.1, z39) else
  (wire_path.f k a0 a1 a2 l3 a4 a5 l6 l7 (⟨#[112, 97, 116, 104]⟩ : ByteArray)).bind fun q => if q.1 = true then some (true, q.2.1, z39) else
  (wire_from.f op).bind fun b => if b = true then (wire_path.f k a0 a1 a2 l3 a4 a5 l6 l7 (⟨#[102, 114, 111, 109]⟩ : ByteArray)).bind fun u => if u.1 = true then some (true, u.2.1, z39) else some (false, 0, ⟨op, q.2.2, u.2.2, v.2.2⟩)
  else some (false, 0, ⟨op, q.2.2, [], v.2.2⟩)
def oper.f (k : Nat) (a0 : Int) (a1 a2 : Bool) (l3 : List Int) (a4 : Int) (a5 : ByteArray) (l6 : List ByteArray) (l7 : List S29) : Option (Bool × Int × S39) :=
  if a0 = 7 then
    (wire_member.f k a0 a1 a2 l3 a4 a5 l6 l7 (⟨#[111, 112]⟩ : ByteArray)).bind fun m => if m.1 = true then some (true, m.2.1, z39) else
    (slices_Index_string_string.f k wordsL m.2.2).bind fun i => if wrap64 (i + 1) > 0 then oper.g k a0 a1 a2 l3 a4 a5 l6 l7 (wrap64 (i + 1)) else some (true, 2, z39)
  else some (true, 2, z39)
theorem C_lit {w : World} (cs : Array Value) (xs : List ByteArray) (e : TypeId) (hcs : cs = (xs.map Value.string).toArray) (hn : xs.length ≤ 9223372036854775807) : Kd.C Kd.string (w.alloc (.cells cs e)) (some ⟨w.heap.size, 0, none⟩) xs.length xs := by
  subst hcs
  refine ⟨rfl, hn, fun _ => ⟨_, rfl, fun j q hj => ⟨[.string q], rfl, rfl, fun i u hu => ?_⟩⟩⟩
  obtain rfl : i = 0 := by
    have := (List.getElem?_eq_some_iff.1 hu).1
    simp at this
    exact this
  obtain rfl : Value.string q = u := by simpa using hu
  refine Eq.trans (show (w.alloc (.cells (xs.map Value.string).toArray e)).cell? _ = (w.alloc (.cells (xs.map Value.string).toArray e)).cell? ⟨w.heap.size, j, none⟩ from congrArg _ (show Addr.add ⟨w.heap.size, 0, none⟩ (j * 1 + 0) = _ from by rcases j with _ | j <;> simp [Addr.add])) ?_
  refine (blk_cell (blk_new w _) j).trans ?_
  simp [hj]
theorem fk_z (W : World) (ok : Nat → Prop) : Kd.FK k29 W ok z29 [.int .i64 0, .bool false, .bool false, .slice none 0 0, .int .i64 0, .string (⟨#[]⟩ : ByteArray), .slice none 0 0, .slice none 0 0] := k29_mkF W ok z29 (Nat.le_refl _) (Kd.F_nil _ _ _) (Nat.le_refl _) (Kd.F_nil _ _ _) (Nat.le_refl _) (Kd.F_nil _ _ _)
theorem fk_parts {W : World} {ok : Nat → Prop} {v : S29} {B6 B9 B10 : Option Addr} {d6 d9 d10 : Nat} (h : Kd.FK k29 W ok v [.int .i64 v.f0, .bool v.f1, .bool v.f2.f0, .slice B6 v.f2.f1.length d6, .int .i64 v.f2.f2, .string v.f3, .slice B9 v.f4.length d9, .slice B10 v.f5.length d10]) :
    (v.f2.f1.length ≤ d6 ∧ Kd.F (Kd.int .u32) W ok B6 v.f2.f1.length v.f2.f1) ∧ (v.f4.length ≤ d9 ∧ Kd.F Kd.string W ok B9 v.f4.length v.f4) ∧ (v.f5.length ≤ d10 ∧ Kd.F k29 W ok B10 v.f5.length v.f5) := by
  obtain ⟨_, _, _, _, _, _, e, l3, g3, l6, g6, l7, g7⟩ := k29_openF h
  simp only [List.cons.injEq, Value.slice.injEq, true_and, and_true] at e
  obtain ⟨⟨rfl, rfl⟩, ⟨rfl, rfl⟩, rfl, rfl⟩ := e
  exact ⟨⟨l3, g3⟩, ⟨l6, g6⟩, ⟨l7, g7⟩⟩
theorem row_F {W U : World} {v : Value} {xs : List ByteArray} {n : Nat} (h : Kd.R Kd.string n W U.heap.size (fun _ => True) v xs) : ∃ B d, v = .slice B xs.length d ∧ xs.length ≤ d ∧ Kd.F Kd.string W (fun k_ => U.heap.size ≤ k_) B xs.length xs := by
  obtain ⟨B, d, rfl, hl, _⟩ := Kd.R_reads h
  exact ⟨B, d, rfl, hl, Kd.F_mono (Kd.R_F (Kd.R_bound h)) (fun _ hk => hk.2.1)⟩
set_option maxHeartbeats 16000000 in
set_option maxRecDepth 100000 in
theorem oper.calls (k : Nat) (a0 : Int) (a1 a2 : Bool) (A3 : Option Addr) (c3 : Nat) (l3 : List Int) (a4 : Int) (a5 : ByteArray) (A6 : Option Addr) (c6 : Nat) (l6 : List ByteArray) (A7 : Option Addr) (c7 : Nat) (l7 : List S29) (PP : Nat → Prop) (r1 : Bool) (r2 : Int) (x : S39) (w : World) (hL : Laid w)
    (hr3 : Kd.C (Kd.int .u32) w A3 l3.length l3) (hc3 : l3.length ≤ c3) (hf6 : Kd.F Kd.string w PP A6 l6.length l6) (hc6 : l6.length ≤ c6) (hf7 : Kd.F k29 w PP A7 l7.length l7) (hc7 : l7.length ≤ c7) (h : oper.f k a0 a1 a2 l3 a4 a5 l6 l7 = some (r1, r2, x)) :
    Calls Tryd.prog 13 #[.agg #[.int .i64 a0, .bool a1, .bool a2, .slice A3 l3.length c3, .int .i64 a4, .string a5, .slice A6 l6.length c6, .slice A7 l7.length c7]] w fun e w' => ThrPost thrown34 r1 r2 (fun e w' => ∃ B1 d1 B2 d2 B6 d6 B9 d9 B10 d10, e = .returned (.agg #[.int .i64 x.f0, .slice B1 x.f1.length d1, .slice B2 x.f2.length d2, .int .i64 x.f3.f0, .bool x.f3.f1, .bool x.f3.f2.f0, .slice B6 x.f3.f2.f1.length d6, .int .i64 x.f3.f2.f2, .string x.f3.f3, .slice B9 x.f3.f4.length d9, .slice B10 x.f3.f5.length d10]) ∧
      Kd.FK k39 w' (fun k_ => PP k_ ∨ w.heap.size ≤ k_) x [.int .i64 x.f0, .slice B1 x.f1.length d1, .slice B2 x.f2.length d2, .int .i64 x.f3.f0, .bool x.f3.f1, .bool x.f3.f2.f0, .slice B6 x.f3.f2.f1.length d6, .int .i64 x.f3.f2.f2, .string x.f3.f3, .slice B9 x.f3.f4.length d9, .slice B10 x.f3.f5.length d10] ∧ Below w.heap.size w w') (fun w' => Below w.heap.size w w') e w' := by
  have hu := Tryd.underlying29
  have hu2 := Tryd.underlying39
  have HL := Aside0.mk hL
  have HR := Aside0.mk (And.intro hr3 (And.intro hf6 hf7))
  have HM := Aside0.mk (And.intro hc3 (And.intro hc6 hc7))
  have H := Aside0.mk h
  clear hL hr3 hf6 hf7 hc3 hc6 hc7 h
  have HX1 := Aside0.mk (blk_new w (.cells #[.int .i64 a0, .bool a1, .bool a2, .slice A3 l3.length c3, .int .i64 a4, .string a5, .slice A6 l6.length c6, .slice A7 l7.length c7] 29))
  have HB1 := Aside0.mk (below_alloc (Below.refl w.heap.size w) (.cells #[.int .i64 a0, .bool a1, .bool a2, .slice A3 l3.length c3, .int .i64 a4, .string a5, .slice A6 l6.length c6, .slice A7 l7.length c7] 29))
  obtain ⟨w1, hw1⟩ : ∃ w1, w.alloc (.cells #[.int .i64 a0, .bool a1, .bool a2, .slice A3 l3.length c3, .int .i64 a4, .string a5, .slice A6 l6.length c6, .slice A7 l7.length c7] 29) = w1 := ⟨_, rfl⟩
  rw [hw1] at HX1 HB1
  have HX2 := Aside0.mk (blk_alloc HX1.out (.cells #[.int .i64 0, .slice none 0 0, .slice none 0 0, .int .i64 0, .bool false, .bool false, .slice none 0 0, .int .i64 0, .string (⟨#[]⟩ : ByteArray), .slice none 0 0, .slice none 0 0] 39))
  have HR2 := Aside0.mk (blk_new w1 (.cells #[.int .i64 0, .slice none 0 0, .slice none 0 0, .int .i64 0, .bool false, .bool false, .slice none 0 0, .int .i64 0, .string (⟨#[]⟩ : ByteArray), .slice none 0 0, .slice none 0 0] 39))
  have HB2 := Aside0.mk (below_alloc HB1.out (.cells #[.int .i64 0, .slice none 0 0, .slice none 0 0, .int .i64 0, .bool false, .bool false, .slice none 0 0, .int .i64 0, .string (⟨#[]⟩ : ByteArray), .slice none 0 0, .slice none 0 0] 39))
  have hrc : w.heap.size ≤ w1.heap.size := HB1.out.size
  obtain ⟨w2, hw2⟩ : ∃ w2, w1.alloc (.cells #[.int .i64 0, .slice none 0 0, .slice none 0 0, .int .i64 0, .bool false, .bool false, .slice none 0 0, .int .i64 0, .string (⟨#[]⟩ : ByteArray), .slice none 0 0, .slice none 0 0] 39) = w2 := ⟨_, rfl⟩
  rw [hw2] at HX2 HR2 HB2
  have x0 := (blk_cell HX2.out 0).trans rfl
  unfold oper.f at H
  by_cases h7 : a0 = 7
  case neg =>
    rw [if_neg h7] at H
    obtain ⟨rfl, rfl, rfl⟩ : true = r1 ∧ 2 = r2 ∧ z39 = x := by simpa using H.out
    clear H
    have e7 : (a0 == 7) = false := by simp [h7]
    go_enter Tryd.func13, Tryd.ntmps13
    go_wp2_with fail
    refine (wire_must.calls false 2 true 2 _ rfl).mono ?_
    rintro e w3 hth
    obtain ⟨rfl, nd, rfl⟩ := ThrPost.bad hth
    clear hth
    go_wp2_with fail
    exact ⟨rfl, ThrPost.no ⟨rfl, pw_below_drewN HB2.out _⟩⟩
  rw [if_pos h7] at H
  subst h7
  obtain ⟨⟨m1, m2, m3⟩, hm, H2⟩ := Option.bind_eq_some_iff.1 H.out
  have HM1 := Aside0.mk hm
  clear H hm
  dsimp only at H2
  obtain ⟨i, hi, ht⟩ : ∃ i, (m1 = false → slices_Index_string_string.f k wordsL m3 = some i ∧ (if wrap64 (i + 1) > 0 then oper.g k 7 a1 a2 l3 a4 a5 l6 l7 (wrap64 (i + 1)) else some (true, 2, z39)) = some (r1, r2, x)) ∧ (m1 = true → r1 = true ∧ r2 = m2) := by
    cases m1 with
    | true => rw [if_pos rfl] at H2; injection H2 with H2; injection H2 with e1 e2; injection e2 with e2 _; exact ⟨0, fun e => (by cases e), fun _ => ⟨e1.symm, e2.symm⟩⟩
    | false => rw [if_neg (by decide)] at H2; obtain ⟨i, hi, H2⟩ := Option.bind_eq_some_iff.1 H2; exact ⟨i, fun _ => ⟨hi, H2⟩, fun e => (by cases e)⟩
  have HI := Aside0.mk hi
  have HT := Aside0.mk ht
  clear hi ht H2
  go_enter Tryd.func13, Tryd.ntmps13
  go_wp2_with fail
  refine (wire_must.calls true 2 false 0 _ rfl).mono ?_
  rintro e w3 hth
  obtain ⟨rfl, nd, rfl⟩ := ThrPost.fine hth
  clear hth
  have HX3 := Aside0.mk (blk_drewN HX2.out nd)
  have HR3 := Aside0.mk (blk_drewN HR2.out nd)
  have HB3 := Aside0.mk (pw_below_drewN HB2.out nd)
  have hs3 : w1.heap.size < (w2.drewN nd).heap.size := blk_lt HR3.out
  clear x0 HX2 HR2 HB2
  generalize w2.drewN nd = w3 at HX3 HR3 HB3 hs3 ⊢
  go_wp2_with fail
  have hs4 := blk_lt HX3.out
  refine start_ (n := 8) (S := fun w' => Below w3.heap.size w3 w') (ds := []) #[false, false, false, false, false, false, false, false] (by kernel_rfl) rfl rfl (below_drew (Below.refl _ _)) (fun hHeld => ?_)
  have HB := Aside0.mk hHeld
  generalize w3.drew = u at HB hHeld ⊢
  refine take_ (i := 1) (N := some 9) (v := ?_) (a' := ?_) #[false, true, false, false, false, false, false, false] rfl rfl (by kernel_rfl) (fun _ _ _ h => h) (Or.inl ⟨by rfl, ?_⟩) hHeld ?_ ?_
  rotate_left
  · intro w' s0
    have x0 := pw_cell_below s0 ((blk_cell HX3.out 0).trans rfl)
    have x1 := pw_cell_below s0 ((blk_cell HX3.out 1).trans rfl)
    have x2 := pw_cell_below s0 ((blk_cell HX3.out 2).trans rfl)
    have x3 := pw_cell_below s0 ((blk_cell HX3.out 3).trans rfl)
    have x4 := pw_cell_below s0 ((blk_cell HX3.out 4).trans rfl)
    have x5 := pw_cell_below s0 ((blk_cell HX3.out 5).trans rfl)
    have x6 := pw_cell_below s0 ((blk_cell HX3.out 6).trans rfl)
    have x7 := pw_cell_below s0 ((blk_cell HX3.out 7).trans rfl)
    go_simp
    with_reducible rfl
  rotate_left
  · simp only [Act.put, List.setIfInBounds_toArray, List.set_cons_zero, List.set_cons_succ, i64_w, i32_w]
    rfl
  refine join_ (σ := Value × Nat) 1 #[true, true, true, true, true, true, true, false] (fun s_ => [(8, s_.1), (10, .string m3), (11, .int .i64 i), (3, .pointer (some ⟨s_.2, 0, none⟩)), (12, .int .i64 (wrap64 (i + 1))), (13, .agg #[.int .i64 (wrap64 (i + 1)), .slice none 0 0, .slice none 0 0, .int .i64 0, .bool false, .bool false, .slice none 0 0, .int .i64 0, .string (⟨#[]⟩ : ByteArray), .slice none 0 0, .slice none 0 0])]) (fun s_ w' => Below w3.heap.size w3 w' ∧ w3.heap.size ≤ s_.2 ∧ w'.heap[s_.2]? = some (.cells #[.int .i64 0, .slice none 0 0, .slice none 0 0, .int .i64 0, .bool false, .bool false, .slice none 0 0, .int .i64 0, .string (⟨#[]⟩ : ByteArray), .slice none 0 0, .slice none 0 0] 39 (0, 0)) ∧ m1 = false) ?_ ?_
  rotate_left
  · intro hCont
    refine two_ (i := 0) (j := 6) (Ni := some 8) (Nj := some 3) #[true, true, false, false, false, false, false, false] #[false, true, false, false, false, false, true, false] rfl rfl rfl rfl (by kernel_rfl) (by decide) (by decide) (fun K hK => ?_) (fun K hK => ?_)
    · skip
      refine goes_ Tryd.func23 (by kernel_rfl) rfl #[] (by rfl) rfl rfl (by (try simp only [List.map_toArray, List.map_cons, List.map_nil]); first | done | rfl) ?_
      refine (wire_words.calls _ _ words_eq).mono ?_
      rintro e u2 ⟨vw, rfl, ho, hb⟩
      refine ⟨_, rfl, ?_⟩
      obtain ⟨Aw, cw, rfl, hcw, hCw⟩ := Kd.R_reads ho
      have HB' := Aside0.mk (below_step HB.out hb)
      have HW := Aside0.mk (And.intro hcw hCw)
      clear ho hb hcw hCw HB
      have HB := HB'
      clear HB'
      refine hK.out _ _ HB.out (fun hHeld => ?_)
      clear hK K
      refine norm_ (a' := ?_) ?_ ?_
      rotate_left
      · show Act.put _ (some 8) _ = _
        simp only [Act.put, List.setIfInBounds_toArray, List.set_cons_zero, List.set_cons_succ, i64_w, i32_w]
        rfl
      refine two_ (i := 2) (j := 6) (Ni := some 10) (Nj := some 3) #[true, true, true, false, false, false, false, false] #[true, true, false, false, false, false, true, false] rfl rfl rfl rfl (by kernel_rfl) (by decide) (by decide) (fun K hK => ?_) (fun K hK => ?_)
      · skip
        refine may_ Tryd.func16 (by kernel_rfl) rfl #[.agg #[.int .i64 7, .bool a1, .bool a2, .slice A3 l3.length c3, .int .i64 a4, .string a5, .slice A6 l6.length c6, .slice A7 l7.length c7], .string (⟨#[111, 112]⟩ : ByteArray)] (by rfl) rfl rfl (by (try simp only [List.map_toArray, List.map_cons, List.map_nil]); first | done | rfl) ?_
        refine (wire_member.calls k 7 a1 a2 A3 c3 l3 a4 a5 A6 c6 l6 A7 c7 l7 (⟨#[111, 112]⟩ : ByteArray) m1 m2 m3 _ (Kd.C_below HR.out.1 (below_step HB3.out HB.out)) HM.out.1 (Kd.C_below (Kd.F_now HR.out.2.1) (below_step HB3.out HB.out)) HM.out.2.1 (Kd.C_below (Kd.F_now HR.out.2.2) (below_step HB3.out HB.out)) HM.out.2.2 HM1.out).mono ?_
        rintro e u2 hth
        cases m1 with
        | true =>
          obtain ⟨rfl, hb⟩ := ThrPost.bad hth
          obtain ⟨rfl, rfl⟩ := HT.out rfl
          refine .inr ⟨_, rfl, ?_⟩
          have HBf := Aside0.mk (below_step HB3.out (below_step HB.out hb))
          clear hCont HI HT HM1 hK hth hb HB
          go_wp2_with fail
          exact ⟨rfl, ThrPost.no ⟨rfl, HBf.out⟩⟩
        | false =>
          obtain ⟨rfl, hb⟩ := ThrPost.fine hth
          refine .inl ⟨_, rfl, ?_⟩
          have HB' := Aside0.mk (below_step HB.out hb)
          have HW' := Aside0.mk (And.intro HW.out.1 (Kd.C_below HW.out.2 hb))
          clear hth hb HB HW
          have HB := HB'
          have HW := HW'
          clear HB' HW'
          refine hK.out _ _ HB.out (fun hHeld => ?_)
          clear hK K
          refine norm_ (a' := ?_) ?_ ?_
          rotate_left
          · show Act.put _ (some 10) _ = _
            simp only [Act.put, List.setIfInBounds_toArray, List.set_cons_zero, List.set_cons_succ, i64_w, i32_w]
            rfl
          refine two_ (i := 3) (j := 6) (Ni := some 11) (Nj := some 3) #[true, true, true, true, false, false, false, false] #[true, true, true, false, false, false, true, false] rfl rfl rfl rfl (by kernel_rfl) (by decide) (by decide) (fun K hK => ?_) (fun K hK => ?_)
          · skip
            refine goes_ Tryd.func22 (by kernel_rfl) rfl #[.slice Aw wordsL.length cw, .string m3] (by rfl) rfl rfl (by (try simp only [List.map_toArray, List.map_cons, List.map_nil]); first | done | rfl) ?_
            refine (slices_Index_string_string.calls k Aw cw wordsL m3 i _ HW.out.2 HW.out.1 (HI.out rfl).1).mono ?_
            rintro e u2 ⟨rfl, nd, rfl⟩
            refine ⟨_, rfl, ?_⟩
            have HB' := Aside0.mk (pw_below_drewN HB.out nd)
            clear HB
            have HB := HB'
            clear HB'
            refine hK.out _ _ HB.out (fun hHeld => ?_)
            clear hK K
            refine norm_ (a' := ?_) ?_ ?_
            rotate_left
            · show Act.put _ (some 11) _ = _
              simp only [Act.put, List.setIfInBounds_toArray, List.set_cons_zero, List.set_cons_succ, i64_w, i32_w]
              rfl
            refine pure_ (i := 4) (N := some 12) (v := ?_) (a' := ?_) #[true, true, true, true, true, false, false, false] rfl rfl (by kernel_rfl) (fun _ _ _ h => h) (Or.inl ⟨by rfl, ?_⟩) ?_ ?_
            rotate_left
            · intro w'
              go_simp
              with_reducible rfl
            rotate_left
            · simp only [Act.put, List.setIfInBounds_toArray, List.set_cons_zero, List.set_cons_succ, i64_w, i32_w]
              rfl
            refine pure_ (i := 5) (N := some 13) (v := ?_) (a' := ?_) #[true, true, true, true, true, true, false, false] rfl rfl (by kernel_rfl) (fun _ _ _ h => h) (Or.inl ⟨by rfl, ?_⟩) ?_ ?_
            rotate_left
            · intro w'
              go_simp
              with_reducible rfl
            rotate_left
            · simp only [Act.put, List.setIfInBounds_toArray, List.set_cons_zero, List.set_cons_succ, i64_w, i32_w]
              rfl
            refine one_ (i := 6) (N := some 3) #[true, true, true, true, true, true, true, false] rfl rfl (by kernel_rfl) (by decide) (fun K hK => ?_)
            refine box_step ?hg (N := 3) ?hd (cs := #[.int .i64 0, .slice none 0 0, .slice none 0 0, .int .i64 0, .bool false, .bool false, .slice none 0 0, .int .i64 0, .string (⟨#[]⟩ : ByteArray), .slice none 0 0, .slice none 0 0]) (t := 39) ?hr ?_
            case hd => rfl
            case hg => rfl
            case hr => first | (go_simp; done) | (go_simp; rfl)
            intro g hg u2 hbox hb
            have HB' := Aside0.mk (below_step HB.out hb)
            have HG := Aside0.mk (And.intro (show w3.heap.size ≤ g by rw [hg]; exact HB.out.size) hbox)
            clear HB hb hbox hg
            have HB := HB'
            clear HB'
            refine hK.out _ _ HB.out (fun hHeld => ?_)
            clear hK K
            refine norm_ (a' := ?_) ?_ ?_
            rotate_left
            · show Act.put _ (some 3) _ = _
              simp only [Act.put, List.setIfInBounds_toArray, List.set_cons_zero, List.set_cons_succ, i64_w, i32_w]
              rfl
            exact norm_ (by first | (simp only [putAll, Act.put, List.setIfInBounds_toArray, List.set_cons_zero, List.set_cons_succ]; done) | (simp only [putAll, Act.put, List.setIfInBounds_toArray, List.set_cons_zero, List.set_cons_succ]; rfl)) (hCont (.slice Aw wordsL.length cw, g) _ ⟨HB.out, HG.out.1, HG.out.2, rfl⟩)
          · skip
            refine box_step ?hg (N := 3) ?hd (cs := #[.int .i64 0, .slice none 0 0, .slice none 0 0, .int .i64 0, .bool false, .bool false, .slice none 0 0, .int .i64 0, .string (⟨#[]⟩ : ByteArray), .slice none 0 0, .slice none 0 0]) (t := 39) ?hr ?_
            case hd => rfl
            case hg => rfl
            case hr => first | (go_simp; done) | (go_simp; rfl)
            intro g hg u2 hbox hb
            have HB' := Aside0.mk (below_step HB.out hb)
            have HG := Aside0.mk (And.intro (show w3.heap.size ≤ g by rw [hg]; exact HB.out.size) hbox)
            have HW' := Aside0.mk (And.intro HW.out.1 (Kd.C_below HW.out.2 hb))
            clear HW
            have HW := HW'
            clear HW'
            clear HB hb hbox hg
            have HB := HB'
            clear HB'
            refine hK.out _ _ HB.out (fun hHeld => ?_)
            clear hK K
            refine norm_ (a' := ?_) ?_ ?_
            rotate_left
            · show Act.put _ (some 3) _ = _
              simp only [Act.put, List.setIfInBounds_toArray, List.set_cons_zero, List.set_cons_succ, i64_w, i32_w]
              rfl
            refine one_ (i := 3) (N := some 11) #[true, true, true, true, false, false, true, false] rfl rfl (by kernel_rfl) (by decide) (fun K hK => ?_)
            refine goes_ Tryd.func22 (by kernel_rfl) rfl #[.slice Aw wordsL.length cw, .string m3] (by rfl) rfl rfl (by (try simp only [List.map_toArray, List.map_cons, List.map_nil]); first | done | rfl) ?_
            refine (slices_Index_string_string.calls k Aw cw wordsL m3 i _ HW.out.2 HW.out.1 (HI.out rfl).1).mono ?_
            rintro e u2 ⟨rfl, nd, rfl⟩
            refine ⟨_, rfl, ?_⟩
            have HB' := Aside0.mk (pw_below_drewN HB.out nd)
            have HG' := Aside0.mk (And.intro HG.out.1 (blk_drewN HG.out.2 nd))
            clear HG
            have HG := HG'
            clear HG'
            clear HB
            have HB := HB'
            clear HB'
            refine hK.out _ _ HB.out (fun hHeld => ?_)
            clear hK K
            refine norm_ (a' := ?_) ?_ ?_
            rotate_left
            · show Act.put _ (some 11) _ = _
              simp only [Act.put, List.setIfInBounds_toArray, List.set_cons_zero, List.set_cons_succ, i64_w, i32_w]
              rfl
            refine pure_ (i := 4) (N := some 12) (v := ?_) (a' := ?_) #[true, true, true, true, true, false, true, false] rfl rfl (by kernel_rfl) (fun _ _ _ h => h) (Or.inl ⟨by rfl, ?_⟩) ?_ ?_
            rotate_left
            · intro w'
              go_simp
              with_reducible rfl
            rotate_left
            · simp only [Act.put, List.setIfInBounds_toArray, List.set_cons_zero, List.set_cons_succ, i64_w, i32_w]
              rfl
            refine pure_ (i := 5) (N := some 13) (v := ?_) (a' := ?_) #[true, true, true, true, true, true, true, false] rfl rfl (by kernel_rfl) (fun _ _ _ h => h) (Or.inl ⟨by rfl, ?_⟩) ?_ ?_
            rotate_left
            · intro w'
              go_simp
              with_reducible rfl
            rotate_left
            · simp only [Act.put, List.setIfInBounds_toArray, List.set_cons_zero, List.set_cons_succ, i64_w, i32_w]
              rfl
            exact norm_ (by first | (simp only [putAll, Act.put, List.setIfInBounds_toArray, List.set_cons_zero, List.set_cons_succ]; done) | (simp only [putAll, Act.put, List.setIfInBounds_toArray, List.set_cons_zero, List.set_cons_succ]; rfl)) (hCont (.slice Aw wordsL.length cw, g) _ ⟨HB.out, HG.out.1, HG.out.2, rfl⟩)
      · skip
        refine box_step ?hg (N := 3) ?hd (cs := #[.int .i64 0, .slice none 0 0, .slice none 0 0, .int .i64 0, .bool false, .bool false, .slice none 0 0, .int .i64 0, .string (⟨#[]⟩ : ByteArray), .slice none 0 0, .slice none 0 0]) (t := 39) ?hr ?_
        case hd => rfl
        case hg => rfl
        case hr => first | (go_simp; done) | (go_simp; rfl)
        intro g hg u2 hbox hb
        have HB' := Aside0.mk (below_step HB.out hb)
        have HG := Aside0.mk (And.intro (show w3.heap.size ≤ g by rw [hg]; exact HB.out.size) hbox)
        have HW' := Aside0.mk (And.intro HW.out.1 (Kd.C_below HW.out.2 hb))
        clear HW
        have HW := HW'
        clear HW'
        clear HB hb hbox hg
        have HB := HB'
        clear HB'
        refine hK.out _ _ HB.out (fun hHeld => ?_)
        clear hK K
        refine norm_ (a' := ?_) ?_ ?_
        rotate_left
        · show Act.put _ (some 3) _ = _
          simp only [Act.put, List.setIfInBounds_toArray, List.set_cons_zero, List.set_cons_succ, i64_w, i32_w]
          rfl
        refine one_ (i := 2) (N := some 10) #[true, true, true, false, false, false, true, false] rfl rfl (by kernel_rfl) (by decide) (fun K hK => ?_)
        refine may_ Tryd.func16 (by kernel_rfl) rfl #[.agg #[.int .i64 7, .bool a1, .bool a2, .slice A3 l3.length c3, .int .i64 a4, .string a5, .slice A6 l6.length c6, .slice A7 l7.length c7], .string (⟨#[111, 112]⟩ : ByteArray)] (by rfl) rfl rfl (by (try simp only [List.map_toArray, List.map_cons, List.map_nil]); first | done | rfl) ?_
        refine (wire_member.calls k 7 a1 a2 A3 c3 l3 a4 a5 A6 c6 l6 A7 c7 l7 (⟨#[111, 112]⟩ : ByteArray) m1 m2 m3 _ (Kd.C_below HR.out.1 (below_step HB3.out HB.out)) HM.out.1 (Kd.C_below (Kd.F_now HR.out.2.1) (below_step HB3.out HB.out)) HM.out.2.1 (Kd.C_below (Kd.F_now HR.out.2.2) (below_step HB3.out HB.out)) HM.out.2.2 HM1.out).mono ?_
        rintro e u2 hth
        cases m1 with
        | true =>
          obtain ⟨rfl, hb⟩ := ThrPost.bad hth
          obtain ⟨rfl, rfl⟩ := HT.out rfl
          refine .inr ⟨_, rfl, ?_⟩
          have HBf := Aside0.mk (below_step HB3.out (below_step HB.out hb))
          clear hCont HI HT HM1 hK hth hb HB
          go_wp2_with fail
          exact ⟨rfl, ThrPost.no ⟨rfl, HBf.out⟩⟩
        | false =>
          obtain ⟨rfl, hb⟩ := ThrPost.fine hth
          refine .inl ⟨_, rfl, ?_⟩
          have HB' := Aside0.mk (below_step HB.out hb)
          have HW' := Aside0.mk (And.intro HW.out.1 (Kd.C_below HW.out.2 hb))
          have HG' := Aside0.mk (And.intro HG.out.1 (blk_below HG.out.2 hb))
          clear HG
          have HG := HG'
          clear HG'
          clear hth hb HB HW
          have HB := HB'
          have HW := HW'
          clear HB' HW'
          refine hK.out _ _ HB.out (fun hHeld => ?_)
          clear hK K
          refine norm_ (a' := ?_) ?_ ?_
          rotate_left
          · show Act.put _ (some 10) _ = _
            simp only [Act.put, List.setIfInBounds_toArray, List.set_cons_zero, List.set_cons_succ, i64_w, i32_w]
            rfl
          refine one_ (i := 3) (N := some 11) #[true, true, true, true, false, false, true, false] rfl rfl (by kernel_rfl) (by decide) (fun K hK => ?_)
          refine goes_ Tryd.func22 (by kernel_rfl) rfl #[.slice Aw wordsL.length cw, .string m3] (by rfl) rfl rfl (by (try simp only [List.map_toArray, List.map_cons, List.map_nil]); first | done | rfl) ?_
          refine (slices_Index_string_string.calls k Aw cw wordsL m3 i _ HW.out.2 HW.out.1 (HI.out rfl).1).mono ?_
          rintro e u2 ⟨rfl, nd, rfl⟩
          refine ⟨_, rfl, ?_⟩
          have HB' := Aside0.mk (pw_below_drewN HB.out nd)
          have HG' := Aside0.mk (And.intro HG.out.1 (blk_drewN HG.out.2 nd))
          clear HG
          have HG := HG'
          clear HG'
          clear HB
          have HB := HB'
          clear HB'
          refine hK.out _ _ HB.out (fun hHeld => ?_)
          clear hK K
          refine norm_ (a' := ?_) ?_ ?_
          rotate_left
          · show Act.put _ (some 11) _ = _
            simp only [Act.put, List.setIfInBounds_toArray, List.set_cons_zero, List.set_cons_succ, i64_w, i32_w]
            rfl
          refine pure_ (i := 4) (N := some 12) (v := ?_) (a' := ?_) #[true, true, true, true, true, false, true, false] rfl rfl (by kernel_rfl) (fun _ _ _ h => h) (Or.inl ⟨by rfl, ?_⟩) ?_ ?_
          rotate_left
          · intro w'
            go_simp
            with_reducible rfl
          rotate_left
          · simp only [Act.put, List.setIfInBounds_toArray, List.set_cons_zero, List.set_cons_succ, i64_w, i32_w]
            rfl
          refine pure_ (i := 5) (N := some 13) (v := ?_) (a' := ?_) #[true, true, true, true, true, true, true, false] rfl rfl (by kernel_rfl) (fun _ _ _ h => h) (Or.inl ⟨by rfl, ?_⟩) ?_ ?_
          rotate_left
          · intro w'
            go_simp
            with_reducible rfl
          rotate_left
          · simp only [Act.put, List.setIfInBounds_toArray, List.set_cons_zero, List.set_cons_succ, i64_w, i32_w]
            rfl
          exact norm_ (by first | (simp only [putAll, Act.put, List.setIfInBounds_toArray, List.set_cons_zero, List.set_cons_succ]; done) | (simp only [putAll, Act.put, List.setIfInBounds_toArray, List.set_cons_zero, List.set_cons_succ]; rfl)) (hCont (.slice Aw wordsL.length cw, g) _ ⟨HB.out, HG.out.1, HG.out.2, rfl⟩)
    · skip
      refine box_step ?hg (N := 3) ?hd (cs := #[.int .i64 0, .slice none 0 0, .slice none 0 0, .int .i64 0, .bool false, .bool false, .slice none 0 0, .int .i64 0, .string (⟨#[]⟩ : ByteArray), .slice none 0 0, .slice none 0 0]) (t := 39) ?hr ?_
      case hd => rfl
      case hg => rfl
      case hr => first | (go_simp; done) | (go_simp; rfl)
      intro g hg u2 hbox hb
      have HB' := Aside0.mk (below_step HB.out hb)
      have HG := Aside0.mk (And.intro (show w3.heap.size ≤ g by rw [hg]; exact HB.out.size) hbox)
      clear HB hb hbox hg
      have HB := HB'
      clear HB'
      refine hK.out _ _ HB.out (fun hHeld => ?_)
      clear hK K
      refine norm_ (a' := ?_) ?_ ?_
      rotate_left
      · show Act.put _ (some 3) _ = _
        simp only [Act.put, List.setIfInBounds_toArray, List.set_cons_zero, List.set_cons_succ, i64_w, i32_w]
        rfl
      refine one_ (i := 0) (N := some 8) #[true, true, false, false, false, false, true, false] rfl rfl (by kernel_rfl) (by decide) (fun K hK => ?_)
      refine goes_ Tryd.func23 (by kernel_rfl) rfl #[] (by rfl) rfl rfl (by (try simp only [List.map_toArray, List.map_cons, List.map_nil]); first | done | rfl) ?_
      refine (wire_words.calls _ _ words_eq).mono ?_
      rintro e u2 ⟨vw, rfl, ho, hb⟩
      refine ⟨_, rfl, ?_⟩
      obtain ⟨Aw, cw, rfl, hcw, hCw⟩ := Kd.R_reads ho
      have HB' := Aside0.mk (below_step HB.out hb)
      have HW := Aside0.mk (And.intro hcw hCw)
      have HG' := Aside0.mk (And.intro HG.out.1 (blk_below HG.out.2 hb))
      clear HG
      have HG := HG'
      clear HG'
      clear ho hb hcw hCw HB
      have HB := HB'
      clear HB'
      refine hK.out _ _ HB.out (fun hHeld => ?_)
      clear hK K
      refine norm_ (a' := ?_) ?_ ?_
      rotate_left
      · show Act.put _ (some 8) _ = _
        simp only [Act.put, List.setIfInBounds_toArray, List.set_cons_zero, List.set_cons_succ, i64_w, i32_w]
        rfl
      refine one_ (i := 2) (N := some 10) #[true, true, true, false, false, false, true, false] rfl rfl (by kernel_rfl) (by decide) (fun K hK => ?_)
      refine may_ Tryd.func16 (by kernel_rfl) rfl #[.agg #[.int .i64 7, .bool a1, .bool a2, .slice A3 l3.length c3, .int .i64 a4, .string a5, .slice A6 l6.length c6, .slice A7 l7.length c7], .string (⟨#[111, 112]⟩ : ByteArray)] (by rfl) rfl rfl (by (try simp only [List.map_toArray, List.map_cons, List.map_nil]); first | done | rfl) ?_
      refine (wire_member.calls k 7 a1 a2 A3 c3 l3 a4 a5 A6 c6 l6 A7 c7 l7 (⟨#[111, 112]⟩ : ByteArray) m1 m2 m3 _ (Kd.C_below HR.out.1 (below_step HB3.out HB.out)) HM.out.1 (Kd.C_below (Kd.F_now HR.out.2.1) (below_step HB3.out HB.out)) HM.out.2.1 (Kd.C_below (Kd.F_now HR.out.2.2) (below_step HB3.out HB.out)) HM.out.2.2 HM1.out).mono ?_
      rintro e u2 hth
      cases m1 with
      | true =>
        obtain ⟨rfl, hb⟩ := ThrPost.bad hth
        obtain ⟨rfl, rfl⟩ := HT.out rfl
        refine .inr ⟨_, rfl, ?_⟩
        have HBf := Aside0.mk (below_step HB3.out (below_step HB.out hb))
        clear hCont HI HT HM1 hK hth hb HB
        go_wp2_with fail
        exact ⟨rfl, ThrPost.no ⟨rfl, HBf.out⟩⟩
      | false =>
        obtain ⟨rfl, hb⟩ := ThrPost.fine hth
        refine .inl ⟨_, rfl, ?_⟩
        have HB' := Aside0.mk (below_step HB.out hb)
        have HW' := Aside0.mk (And.intro HW.out.1 (Kd.C_below HW.out.2 hb))
        have HG' := Aside0.mk (And.intro HG.out.1 (blk_below HG.out.2 hb))
        clear HG
        have HG := HG'
        clear HG'
        clear hth hb HB HW
        have HB := HB'
        have HW := HW'
        clear HB' HW'
        refine hK.out _ _ HB.out (fun hHeld => ?_)
        clear hK K
        refine norm_ (a' := ?_) ?_ ?_
        rotate_left
        · show Act.put _ (some 10) _ = _
          simp only [Act.put, List.setIfInBounds_toArray, List.set_cons_zero, List.set_cons_succ, i64_w, i32_w]
          rfl
        refine one_ (i := 3) (N := some 11) #[true, true, true, true, false, false, true, false] rfl rfl (by kernel_rfl) (by decide) (fun K hK => ?_)
        refine goes_ Tryd.func22 (by kernel_rfl) rfl #[.slice Aw wordsL.length cw, .string m3] (by rfl) rfl rfl (by (try simp only [List.map_toArray, List.map_cons, List.map_nil]); first | done | rfl) ?_
        refine (slices_Index_string_string.calls k Aw cw wordsL m3 i _ HW.out.2 HW.out.1 (HI.out rfl).1).mono ?_
        rintro e u2 ⟨rfl, nd, rfl⟩
        refine ⟨_, rfl, ?_⟩
        have HB' := Aside0.mk (pw_below_drewN HB.out nd)
        have HG' := Aside0.mk (And.intro HG.out.1 (blk_drewN HG.out.2 nd))
        clear HG
        have HG := HG'
        clear HG'
        clear HB
        have HB := HB'
        clear HB'
        refine hK.out _ _ HB.out (fun hHeld => ?_)
        clear hK K
        refine norm_ (a' := ?_) ?_ ?_
        rotate_left
        · show Act.put _ (some 11) _ = _
          simp only [Act.put, List.setIfInBounds_toArray, List.set_cons_zero, List.set_cons_succ, i64_w, i32_w]
          rfl
        refine pure_ (i := 4) (N := some 12) (v := ?_) (a' := ?_) #[true, true, true, true, true, false, true, false] rfl rfl (by kernel_rfl) (fun _ _ _ h => h) (Or.inl ⟨by rfl, ?_⟩) ?_ ?_
        rotate_left
        · intro w'
          go_simp
          with_reducible rfl
        rotate_left
        · simp only [Act.put, List.setIfInBounds_toArray, List.set_cons_zero, List.set_cons_succ, i64_w, i32_w]
          rfl
        refine pure_ (i := 5) (N := some 13) (v := ?_) (a' := ?_) #[true, true, true, true, true, true, true, false] rfl rfl (by kernel_rfl) (fun _ _ _ h => h) (Or.inl ⟨by rfl, ?_⟩) ?_ ?_
        rotate_left
        · intro w'
          go_simp
          with_reducible rfl
        rotate_left
        · simp only [Act.put, List.setIfInBounds_toArray, List.set_cons_zero, List.set_cons_succ, i64_w, i32_w]
          rfl
        exact norm_ (by first | (simp only [putAll, Act.put, List.setIfInBounds_toArray, List.set_cons_zero, List.set_cons_succ]; done) | (simp only [putAll, Act.put, List.setIfInBounds_toArray, List.set_cons_zero, List.set_cons_succ]; rfl)) (hCont (.slice Aw wordsL.length cw, g) _ ⟨HB.out, HG.out.1, HG.out.2, rfl⟩)
  rintro ⟨vw, g⟩ u3 ⟨hb3, hg0, hg1, rfl⟩
  have HB := Aside0.mk hb3
  have HG := Aside0.mk hg1
  have hHeld := hb3
  dsimp only at hg0
  obtain ⟨hI1, hI2⟩ := HI.out rfl
  have HI2 := Aside0.mk hI2
  clear HI HT HM1 hb3 hg1 hI1 hI2
  refine norm_ (a' := ?_) ?_ ?_
  rotate_left
  · simp only [putAll, Act.put, List.setIfInBounds_toArray, List.set_cons_zero, List.set_cons_succ]
    rfl
  obtain ⟨op, hop⟩ : ∃ op, wrap64 (i + 1) = op := ⟨_, rfl⟩
  rw [hop] at HI2 ⊢
  clear hop
  refine one_ (i := 7) (N := none) #[true, true, true, true, true, true, true, true] rfl rfl (by kernel_rfl) (by decide) (fun K hK => ?_)
  have s0 := (blk_cell HG.out 0).trans rfl
  have sf0 := blk_frozen HG.out 0
  have s1 := (blk_cell HG.out 1).trans rfl
  have sf1 := blk_frozen HG.out 1
  have s2 := (blk_cell HG.out 2).trans rfl
  have sf2 := blk_frozen HG.out 2
  have s3 := (blk_cell HG.out 3).trans rfl
  have sf3 := blk_frozen HG.out 3
  have s4 := (blk_cell HG.out 4).trans rfl
  have sf4 := blk_frozen HG.out 4
  have s5 := (blk_cell HG.out 5).trans rfl
  have sf5 := blk_frozen HG.out 5
  have s6 := (blk_cell HG.out 6).trans rfl
  have sf6 := blk_frozen HG.out 6
  have s7 := (blk_cell HG.out 7).trans rfl
  have sf7 := blk_frozen HG.out 7
  have s8 := (blk_cell HG.out 8).trans rfl
  have sf8 := blk_frozen HG.out 8
  have s9 := (blk_cell HG.out 9).trans rfl
  have sf9 := blk_frozen HG.out 9
  have s10 := (blk_cell HG.out 10).trans rfl
  have sf10 := blk_frozen HG.out 10
  refine skip_ (w1 := ?_) (by rfl) rfl ?_ ?_
  rotate_left
  · go_simp
    rfl
  clear s0 s1 s2 s3 s4 s5 s6 s7 s8 s9 s10 sf0 sf1 sf2 sf3 sf4 sf5 sf6 sf7 sf8 sf9 sf10
  have HB5 := Aside0.mk (show Below w3.heap.size w3 (World.setCell (World.setCell (World.setCell (World.setCell (World.setCell (World.setCell (World.setCell (World.setCell (World.setCell (World.setCell (World.setCell u3 ⟨g, 0, none⟩ (.int .i64 op)) ⟨g, 1, none⟩ (.slice none 0 0)) ⟨g, 2, none⟩ (.slice none 0 0)) ⟨g, 3, none⟩ (.int .i64 0)) ⟨g, 4, none⟩ (.bool false)) ⟨g, 5, none⟩ (.bool false)) ⟨g, 6, none⟩ (.slice none 0 0)) ⟨g, 7, none⟩ (.int .i64 0)) ⟨g, 8, none⟩ (.string (⟨#[]⟩ : ByteArray))) ⟨g, 9, none⟩ (.slice none 0 0)) ⟨g, 10, none⟩ (.slice none 0 0)) from (below_set (below_set (below_set (below_set (below_set (below_set (below_set (below_set (below_set (below_set (below_set HB.out hg0) hg0) hg0) hg0) hg0) hg0) hg0) hg0) hg0) hg0) hg0))
  have HG5 := Aside0.mk (show ((World.setCell (World.setCell (World.setCell (World.setCell (World.setCell (World.setCell (World.setCell (World.setCell (World.setCell (World.setCell (World.setCell u3 ⟨g, 0, none⟩ (.int .i64 op)) ⟨g, 1, none⟩ (.slice none 0 0)) ⟨g, 2, none⟩ (.slice none 0 0)) ⟨g, 3, none⟩ (.int .i64 0)) ⟨g, 4, none⟩ (.bool false)) ⟨g, 5, none⟩ (.bool false)) ⟨g, 6, none⟩ (.slice none 0 0)) ⟨g, 7, none⟩ (.int .i64 0)) ⟨g, 8, none⟩ (.string (⟨#[]⟩ : ByteArray))) ⟨g, 9, none⟩ (.slice none 0 0)) ⟨g, 10, none⟩ (.slice none 0 0))).heap[g]? = some (.cells #[.int .i64 op, .slice none 0 0, .slice none 0 0, .int .i64 0, .bool false, .bool false, .slice none 0 0, .int .i64 0, .string (⟨#[]⟩ : ByteArray), .slice none 0 0, .slice none 0 0] 39 (0, 0)) from (blk_put (cs := #[.int .i64 op, .slice none 0 0, .slice none 0 0, .int .i64 0, .bool false, .bool false, .slice none 0 0, .int .i64 0, .string (⟨#[]⟩ : ByteArray), .slice none 0 0, .slice none 0 0]) (cs' := #[.int .i64 op, .slice none 0 0, .slice none 0 0, .int .i64 0, .bool false, .bool false, .slice none 0 0, .int .i64 0, .string (⟨#[]⟩ : ByteArray), .slice none 0 0, .slice none 0 0]) (blk_put (cs := #[.int .i64 op, .slice none 0 0, .slice none 0 0, .int .i64 0, .bool false, .bool false, .slice none 0 0, .int .i64 0, .string (⟨#[]⟩ : ByteArray), .slice none 0 0, .slice none 0 0]) (cs' := #[.int .i64 op, .slice none 0 0, .slice none 0 0, .int .i64 0, .bool false, .bool false, .slice none 0 0, .int .i64 0, .string (⟨#[]⟩ : ByteArray), .slice none 0 0, .slice none 0 0]) (blk_put (cs := #[.int .i64 op, .slice none 0 0, .slice none 0 0, .int .i64 0, .bool false, .bool false, .slice none 0 0, .int .i64 0, .string (⟨#[]⟩ : ByteArray), .slice none 0 0, .slice none 0 0]) (cs' := #[.int .i64 op, .slice none 0 0, .slice none 0 0, .int .i64 0, .bool false, .bool false, .slice none 0 0, .int .i64 0, .string (⟨#[]⟩ : ByteArray), .slice none 0 0, .slice none 0 0]) (blk_put (cs := #[.int .i64 op, .slice none 0 0, .slice none 0 0, .int .i64 0, .bool false, .bool false, .slice none 0 0, .int .i64 0, .string (⟨#[]⟩ : ByteArray), .slice none 0 0, .slice none 0 0]) (cs' := #[.int .i64 op, .slice none 0 0, .slice none 0 0, .int .i64 0, .bool false, .bool false, .slice none 0 0, .int .i64 0, .string (⟨#[]⟩ : ByteArray), .slice none 0 0, .slice none 0 0]) (blk_put (cs := #[.int .i64 op, .slice none 0 0, .slice none 0 0, .int .i64 0, .bool false, .bool false, .slice none 0 0, .int .i64 0, .string (⟨#[]⟩ : ByteArray), .slice none 0 0, .slice none 0 0]) (cs' := #[.int .i64 op, .slice none 0 0, .slice none 0 0, .int .i64 0, .bool false, .bool false, .slice none 0 0, .int .i64 0, .string (⟨#[]⟩ : ByteArray), .slice none 0 0, .slice none 0 0]) (blk_put (cs := #[.int .i64 op, .slice none 0 0, .slice none 0 0, .int .i64 0, .bool false, .bool false, .slice none 0 0, .int .i64 0, .string (⟨#[]⟩ : ByteArray), .slice none 0 0, .slice none 0 0]) (cs' := #[.int .i64 op, .slice none 0 0, .slice none 0 0, .int .i64 0, .bool false, .bool false, .slice none 0 0, .int .i64 0, .string (⟨#[]⟩ : ByteArray), .slice none 0 0, .slice none 0 0]) (blk_put (cs := #[.int .i64 op, .slice none 0 0, .slice none 0 0, .int .i64 0, .bool false, .bool false, .slice none 0 0, .int .i64 0, .string (⟨#[]⟩ : ByteArray), .slice none 0 0, .slice none 0 0]) (cs' := #[.int .i64 op, .slice none 0 0, .slice none 0 0, .int .i64 0, .bool false, .bool false, .slice none 0 0, .int .i64 0, .string (⟨#[]⟩ : ByteArray), .slice none 0 0, .slice none 0 0]) (blk_put (cs := #[.int .i64 op, .slice none 0 0, .slice none 0 0, .int .i64 0, .bool false, .bool false, .slice none 0 0, .int .i64 0, .string (⟨#[]⟩ : ByteArray), .slice none 0 0, .slice none 0 0]) (cs' := #[.int .i64 op, .slice none 0 0, .slice none 0 0, .int .i64 0, .bool false, .bool false, .slice none 0 0, .int .i64 0, .string (⟨#[]⟩ : ByteArray), .slice none 0 0, .slice none 0 0]) (blk_put (cs := #[.int .i64 op, .slice none 0 0, .slice none 0 0, .int .i64 0, .bool false, .bool false, .slice none 0 0, .int .i64 0, .string (⟨#[]⟩ : ByteArray), .slice none 0 0, .slice none 0 0]) (cs' := #[.int .i64 op, .slice none 0 0, .slice none 0 0, .int .i64 0, .bool false, .bool false, .slice none 0 0, .int .i64 0, .string (⟨#[]⟩ : ByteArray), .slice none 0 0, .slice none 0 0]) (blk_put (cs := #[.int .i64 op, .slice none 0 0, .slice none 0 0, .int .i64 0, .bool false, .bool false, .slice none 0 0, .int .i64 0, .string (⟨#[]⟩ : ByteArray), .slice none 0 0, .slice none 0 0]) (cs' := #[.int .i64 op, .slice none 0 0, .slice none 0 0, .int .i64 0, .bool false, .bool false, .slice none 0 0, .int .i64 0, .string (⟨#[]⟩ : ByteArray), .slice none 0 0, .slice none 0 0]) (blk_put (cs := #[.int .i64 0, .slice none 0 0, .slice none 0 0, .int .i64 0, .bool false, .bool false, .slice none 0 0, .int .i64 0, .string (⟨#[]⟩ : ByteArray), .slice none 0 0, .slice none 0 0]) (cs' := #[.int .i64 op, .slice none 0 0, .slice none 0 0, .int .i64 0, .bool false, .bool false, .slice none 0 0, .int .i64 0, .string (⟨#[]⟩ : ByteArray), .slice none 0 0, .slice none 0 0]) HG.out 0 _ rfl) 1 _ rfl) 2 _ rfl) 3 _ rfl) 4 _ rfl) 5 _ rfl) 6 _ rfl) 7 _ rfl) 8 _ rfl) 9 _ rfl) 10 _ rfl))
  refine hK.out _ _ HB5.out (fun hHeld2 => ?_)
  clear hK K hHeld hHeld2 HB HG
  refine done_ (by kernel_rfl) ?_
  generalize (World.setCell (World.setCell (World.setCell (World.setCell (World.setCell (World.setCell (World.setCell (World.setCell (World.setCell (World.setCell (World.setCell u3 ⟨g, 0, none⟩ (.int .i64 op)) ⟨g, 1, none⟩ (.slice none 0 0)) ⟨g, 2, none⟩ (.slice none 0 0)) ⟨g, 3, none⟩ (.int .i64 0)) ⟨g, 4, none⟩ (.bool false)) ⟨g, 5, none⟩ (.bool false)) ⟨g, 6, none⟩ (.slice none 0 0)) ⟨g, 7, none⟩ (.int .i64 0)) ⟨g, 8, none⟩ (.string (⟨#[]⟩ : ByteArray))) ⟨g, 9, none⟩ (.slice none 0 0)) ⟨g, 10, none⟩ (.slice none 0 0)) = w4 at HB5 HG5 ⊢
  have y0 := (blk_cell HG5.out 0).trans rfl
  by_cases hpos : op > 0
  case neg =>
    have HI3 := HI2.out
    rw [if_neg hpos] at HI3
    injection HI3 with HI3
    injection HI3 with e1 e2
    injection e2 with e2 e3
    subst e1 e2 e3
    clear HI2
    have hpos2 : ¬ (0 < op) := hpos
    have hpos3 : op ≤ 0 := by omega
    go_wp2_with fail
    refine (wire_must.calls false 2 true 2 _ rfl).mono ?_
    rintro e w5 hth
    obtain ⟨rfl, nd2, rfl⟩ := ThrPost.bad hth
    clear hth
    go_wp2_with fail
    exact ⟨rfl, ThrPost.no ⟨rfl, pw_below_drewN (below_step HB3.out HB5.out) _⟩⟩
  rw [if_pos hpos] at HI2
  have hpos2 : 0 < op := hpos
  unfold oper.g at HI2
  obtain ⟨⟨v1, v2, v3⟩, hv, H4⟩ := Option.bind_eq_some_iff.1 HI2.out
  have HV := Aside0.mk hv
  have H4 := Aside0.mk H4
  clear HI2 hv
  go_wp2_with fail
  refine (wire_must.calls true 2 false 0 _ rfl).mono ?_
  rintro e w5 hth
  obtain ⟨rfl, nd2, rfl⟩ := ThrPost.fine hth
  clear hth y0
  replace HB5 := Aside0.mk (pw_below_drewN HB5.out nd2)
  replace HG5 := Aside0.mk (show (w4.drewN nd2).heap[g]? = _ from blk_drewN HG5.out nd2)
  generalize w4.drewN nd2 = w5 at HB5 HG5 ⊢
  go_upto_block 0 with (fail)
  go_cut [] (fun wc => ∃ (B6 : Option Addr) (d6 : Nat) (B9 : Option Addr) (d9 : Nat) (B10 : Option Addr) (d10 : Nat), v1 = false ∧ Aside0 (Below w3.heap.size w3 wc) ∧ Aside0 (wc.heap[g]? = some (.cells #[.int .i64 op, .slice none 0 0, .slice none 0 0, .int .i64 v3.f0, .bool v3.f1, .bool v3.f2.f0, .slice B6 v3.f2.f1.length d6, .int .i64 v3.f2.f2, .string v3.f3, .slice B9 v3.f4.length d9, .slice B10 v3.f5.length d10] 39 (0, 0))) ∧ Aside0 (Kd.FK k29 wc (fun k_ => PP k_ ∧ k_ < w.heap.size ∨ w.heap.size ≤ k_ ∧ k_ ≠ g ∧ k_ ≠ w1.heap.size) v3 [.int .i64 v3.f0, .bool v3.f1, .bool v3.f2.f0, .slice B6 v3.f2.f1.length d6, .int .i64 v3.f2.f2, .string v3.f3, .slice B9 v3.f4.length d9, .slice B10 v3.f5.length d10]))
  case first =>
    have y0 := (blk_cell HG5.out 0).trans rfl
    obtain ⟨b, hb, H5⟩ := Option.bind_eq_some_iff.1 HV.out
    have HB1' := Aside0.mk hb
    have H5 := Aside0.mk H5
    clear HV hb
    go_wp2_with fail
    refine (wire_from.calls op b _ HB1'.out).mono ?_
    rintro e w6 ⟨rfl, nd3, rfl⟩
    clear y0 HB1'
    replace HB5 := Aside0.mk (pw_below_drewN HB5.out nd3)
    replace HG5 := Aside0.mk (show (w5.drewN nd3).heap[g]? = _ from blk_drewN HG5.out nd3)
    generalize w5.drewN nd3 = w6 at HB5 HG5 ⊢
    have HX6 := Aside0.mk (blk_below HX3.out HB5.out)
    have HBw := Aside0.mk (below_step HB3.out HB5.out)
    have x0 := (blk_cell HX6.out 0).trans rfl
    have x1 := (blk_cell HX6.out 1).trans rfl
    have x2 := (blk_cell HX6.out 2).trans rfl
    have x3 := (blk_cell HX6.out 3).trans rfl
    have x4 := (blk_cell HX6.out 4).trans rfl
    have x5 := (blk_cell HX6.out 5).trans rfl
    have x6 := (blk_cell HX6.out 6).trans rfl
    have x7 := (blk_cell HX6.out 7).trans rfl
    cases b with
    | true =>
      have H6 := H5.out
      rw [if_pos rfl] at H6
      clear H5
      obtain ⟨⟨e1, e2⟩, he, H6⟩ := Option.bind_eq_some_iff.1 H6
      have HE := Aside0.mk he
      injection H6 with H6
      injection H6 with q1 H6
      injection H6 with q2 q3
      dsimp only at q1 q2
      subst q1 q2 q3
      clear he
      go_wp2_with fail
      refine (wire_exactly.calls k 7 a1 a2 A3 c3 l3 a4 a5 A6 c6 l6 A7 c7 l7 (some ⟨w6.heap.size, 0, none⟩) 3 exF e1 e2 _ (Kd.C_below HR.out.1 (below_alloc HBw.out _)) HM.out.1 (Kd.C_below (Kd.F_now HR.out.2.1) (below_alloc HBw.out _)) HM.out.2.1 (Kd.C_below (Kd.F_now HR.out.2.2) (below_alloc HBw.out _)) HM.out.2.2 (C_lit #[.string (⟨#[102, 114, 111, 109]⟩ : ByteArray), .string (⟨#[111, 112]⟩ : ByteArray), .string (⟨#[112, 97, 116, 104]⟩ : ByteArray)] exF 9 rfl (by decide)) (Nat.le_refl _) HE.out).mono ?_
      rintro e w7 hth
      cases e1 with
      | true =>
        obtain ⟨rfl, hb⟩ := ThrPost.bad hth
        have HBf := Aside0.mk (below_step (below_alloc HBw.out _) hb)
        have H7 := H4.out
        clear H4 hth hb HE x0 x1 x2 x3 x4 x5 x6 x7
        simp only [if_true] at H7
        injection H7 with H7
        injection H7 with e1 e3
        injection e3 with e3 e4
        subst e1 e3 e4
        go_wp2_with fail
        exact ⟨rfl, ThrPost.no ⟨rfl, HBf.out⟩⟩
      | false =>
        obtain ⟨rfl, hb⟩ := ThrPost.fine hth
        have HB7 := Aside0.mk (below_step (below_alloc HB5.out _) hb)
        have HG7 := Aside0.mk (blk_below (blk_alloc HG5.out _) hb)
        clear hth hb HE x0 x1 x2 x3 x4 x5 x6 x7
        go_wp2_with fail
        go_meet
        case rel => exact ⟨none, 0, none, 0, none, 0, by first | rfl | trivial, HB7, HG7, ⟨fk_z _ _⟩⟩
    | false =>
      have H6 := H5.out
      rw [if_neg (by decide)] at H6
      obtain ⟨b2, hb2, H6⟩ := Option.bind_eq_some_iff.1 H6
      have HB2' := Aside0.mk hb2
      have H6 := Aside0.mk H6
      clear H5 hb2
      have y0 := (blk_cell HG5.out 0).trans rfl
      go_wp2_with fail
      refine (wire_value.calls op b2 _ HB2'.out).mono ?_
      rintro e w7 ⟨rfl, nd4, rfl⟩
      clear y0 HB2' x0 x1 x2 x3 x4 x5 x6 x7
      replace HB5 := Aside0.mk (pw_below_drewN HB5.out nd4)
      replace HG5 := Aside0.mk (show (w6.drewN nd4).heap[g]? = _ from blk_drewN HG5.out nd4)
      replace HBw := Aside0.mk (pw_below_drewN HBw.out nd4)
      replace HX6 := Aside0.mk (show (w6.drewN nd4).heap[w.heap.size]? = _ from blk_drewN HX6.out nd4)
      generalize w6.drewN nd4 = w7 at HB5 HG5 HBw HX6 ⊢
      have x0 := (blk_cell HX6.out 0).trans rfl
      have x1 := (blk_cell HX6.out 1).trans rfl
      have x2 := (blk_cell HX6.out 2).trans rfl
      have x3 := (blk_cell HX6.out 3).trans rfl
      have x4 := (blk_cell HX6.out 4).trans rfl
      have x5 := (blk_cell HX6.out 5).trans rfl
      have x6 := (blk_cell HX6.out 6).trans rfl
      have x7 := (blk_cell HX6.out 7).trans rfl
      cases b2 with
      | false =>
        have H7 := H6.out
        rw [if_neg (by decide)] at H7
        clear H6
        have H6 := H7
        clear H7
        obtain ⟨⟨e1, e2⟩, he, H6⟩ := Option.bind_eq_some_iff.1 H6
        have HE := Aside0.mk he
        injection H6 with H6
        injection H6 with q1 H6
        injection H6 with q2 q3
        dsimp only at q1 q2
        subst q1 q2 q3
        clear he
        go_wp2_with fail
        refine (wire_exactly.calls k 7 a1 a2 A3 c3 l3 a4 a5 A6 c6 l6 A7 c7 l7 (some ⟨w7.heap.size, 0, none⟩) 2 exD e1 e2 _ (Kd.C_below HR.out.1 (below_alloc HBw.out _)) HM.out.1 (Kd.C_below (Kd.F_now HR.out.2.1) (below_alloc HBw.out _)) HM.out.2.1 (Kd.C_below (Kd.F_now HR.out.2.2) (below_alloc HBw.out _)) HM.out.2.2 (C_lit #[.string (⟨#[111, 112]⟩ : ByteArray), .string (⟨#[112, 97, 116, 104]⟩ : ByteArray)] exD 9 rfl (by decide)) (Nat.le_refl _) HE.out).mono ?_
        rintro e w8 hth
        cases e1 with
        | true =>
          obtain ⟨rfl, hb⟩ := ThrPost.bad hth
          have HBf := Aside0.mk (below_step (below_alloc HBw.out _) hb)
          have H7 := H4.out
          clear H4 hth hb HE x0 x1 x2 x3 x4 x5 x6 x7
          simp only [if_true] at H7
          injection H7 with H7
          injection H7 with e1 e3
          injection e3 with e3 e4
          subst e1 e3 e4
          go_wp2_with fail
          exact ⟨rfl, ThrPost.no ⟨rfl, HBf.out⟩⟩
        | false =>
          obtain ⟨rfl, hb⟩ := ThrPost.fine hth
          have HB7 := Aside0.mk (below_step (below_alloc HB5.out _) hb)
          have HG7 := Aside0.mk (blk_below (blk_alloc HG5.out _) hb)
          clear hth hb HE x0 x1 x2 x3 x4 x5 x6 x7
          go_wp2_with fail
          go_meet
          case rel => exact ⟨none, 0, none, 0, none, 0, by first | rfl | trivial, HB7, HG7, ⟨fk_z _ _⟩⟩
      | true =>
        have H7 := H6.out
        rw [if_pos rfl] at H7
        clear H6
        obtain ⟨⟨e1, e2⟩, he, H7⟩ := Option.bind_eq_some_iff.1 H7
        have HE := Aside0.mk he
        have H7 := Aside0.mk H7
        clear he
        go_wp2_with fail
        refine (wire_exactly.calls k 7 a1 a2 A3 c3 l3 a4 a5 A6 c6 l6 A7 c7 l7 (some ⟨w7.heap.size, 0, none⟩) 3 exV e1 e2 _ (Kd.C_below HR.out.1 (below_alloc HBw.out _)) HM.out.1 (Kd.C_below (Kd.F_now HR.out.2.1) (below_alloc HBw.out _)) HM.out.2.1 (Kd.C_below (Kd.F_now HR.out.2.2) (below_alloc HBw.out _)) HM.out.2.2 (C_lit #[.string (⟨#[111, 112]⟩ : ByteArray), .string (⟨#[112, 97, 116, 104]⟩ : ByteArray), .string (⟨#[118, 97, 108, 117, 101]⟩ : ByteArray)] exV 9 rfl (by decide)) (Nat.le_refl _) HE.out).mono ?_
        rintro e w8 hth
        cases e1 with
        | true =>
          obtain ⟨rfl, hb⟩ := ThrPost.bad hth
          have HBf := Aside0.mk (below_step (below_alloc HBw.out _) hb)
          have H8 := H7.out
          have H9 := H4.out
          clear H7 H4 hth hb HE x0 x1 x2 x3 x4 x5 x6 x7
          simp only [if_true] at H8
          injection H8 with H8
          injection H8 with q1 H8
          injection H8 with q2 q3
          subst q1 q2 q3
          simp only [if_true] at H9
          injection H9 with H9
          injection H9 with e1 e3
          injection e3 with e3 e4
          subst e1 e3 e4
          go_wp2_with fail
          exact ⟨rfl, ThrPost.no ⟨rfl, HBf.out⟩⟩
        | false =>
          obtain ⟨rfl, hb⟩ := ThrPost.fine hth
          have H8 := H7.out
          rw [if_neg (by decide)] at H8
          obtain ⟨⟨m0, m1', m2', m3', m4, m5, m6, m7, m8⟩, hm, H8⟩ := Option.bind_eq_some_iff.1 H8
          have HMB := Aside0.mk hm
          injection H8 with H8
          injection H8 with q1 H8
          injection H8 with q2 q3
          subst q1 q2 q3
          clear H7 hm
          have HB8 := Aside0.mk (below_step (below_alloc HB5.out _) hb)
          have HG8 := Aside0.mk (blk_below (blk_alloc HG5.out _) hb)
          have HBw8 := Aside0.mk (below_step (below_alloc HBw.out _) hb)
          have HX8 := Aside0.mk (blk_below (blk_alloc HX6.out _) hb)
          clear hth hb HE x0 x1 x2 x3 x4 x5 x6 x7 HB5 HG5 HBw HX6
          have x0 := (blk_cell HX8.out 0).trans rfl
          have x1 := (blk_cell HX8.out 1).trans rfl
          have x2 := (blk_cell HX8.out 2).trans rfl
          have x3 := (blk_cell HX8.out 3).trans rfl
          have x4 := (blk_cell HX8.out 4).trans rfl
          have x5 := (blk_cell HX8.out 5).trans rfl
          have x6 := (blk_cell HX8.out 6).trans rfl
          have x7 := (blk_cell HX8.out 7).trans rfl
          go_wp2_with fail
          refine (tree_Member.calls k 7 a1 a2 A3 c3 l3 a4 a5 (fun k_ => PP k_ ∧ k_ < w.heap.size) A6 c6 l6 (fun k_ => PP k_ ∧ k_ < w.heap.size) A7 c7 l7 (⟨#[118, 97, 108, 117, 101]⟩ : ByteArray) m0 m1' m2' m3' m4 m5 m6 m7 m8 _ (Kd.C_below HR.out.1 HBw8.out) HM.out.1 (Kd.V_mk HM.out.2.1 (Kd.F_below (Kd.F_bound HR.out.2.1) HBw8.out)) (Kd.V_mk HM.out.2.2 (Kd.F_below (Kd.F_bound HR.out.2.2) HBw8.out)) HMB.out).mono ?_
          rintro e w9 ⟨vB3, vB6, vB7, rfl, ⟨B6, d6, rfl, g6, f6⟩, ⟨B9, d9, rfl, g9, f9⟩, ⟨B10, d10, rfl, g10, f10⟩, hb⟩
          have HB9 := Aside0.mk (below_step HB8.out hb)
          have HG9 := Aside0.mk (blk_below HG8.out hb)
          have hgw : w.heap.size ≤ g := Nat.le_trans HB3.out.size hg0
          have hg8 : g < w8.heap.size := blk_lt HG8.out
          have hr8 : w1.heap.size < w8.heap.size := Nat.lt_of_lt_of_le hs3 HB8.out.size
          have F6 := Aside0.mk (Kd.F_mono f6 (ok' := (fun k_ => PP k_ ∧ k_ < w.heap.size ∨ w.heap.size ≤ k_ ∧ k_ ≠ g ∧ k_ ≠ w1.heap.size)) (fun k_ hk => by rcases hk with (hk | hk) | hk <;> first | exact .inl hk | exact .inr ⟨by omega, by omega, by omega⟩))
          have F9 := Aside0.mk (Kd.F_mono f9 (ok' := (fun k_ => PP k_ ∧ k_ < w.heap.size ∨ w.heap.size ≤ k_ ∧ k_ ≠ g ∧ k_ ≠ w1.heap.size)) (fun k_ hk => by rcases hk with (hk | hk) | hk <;> first | exact .inl hk | exact .inr ⟨by omega, by omega, by omega⟩))
          have F10 := Aside0.mk (Kd.F_mono f10 (ok' := (fun k_ => PP k_ ∧ k_ < w.heap.size ∨ w.heap.size ≤ k_ ∧ k_ ≠ g ∧ k_ ≠ w1.heap.size)) (fun k_ hk => by rcases hk with (hk | hk) | hk <;> first | exact .inl hk | exact .inr ⟨by omega, by omega, by omega⟩))
          have HGG := Aside0.mk (And.intro g6 (And.intro g9 g10))
          have HH0 := Aside0.mk hgw
          clear f6 f9 f10 g6 g9 g10 hb HB8 HG8 HBw8 HX8 HMB x0 x1 x2 x3 x4 x5 x6 x7
          have s0 := (blk_cell HG9.out 0).trans rfl
          have sf0 := blk_frozen HG9.out 0
          have s1 := (blk_cell HG9.out 1).trans rfl
          have sf1 := blk_frozen HG9.out 1
          have s2 := (blk_cell HG9.out 2).trans rfl
          have sf2 := blk_frozen HG9.out 2
          have s3 := (blk_cell HG9.out 3).trans rfl
          have sf3 := blk_frozen HG9.out 3
          have s4 := (blk_cell HG9.out 4).trans rfl
          have sf4 := blk_frozen HG9.out 4
          have s5 := (blk_cell HG9.out 5).trans rfl
          have sf5 := blk_frozen HG9.out 5
          have s6 := (blk_cell HG9.out 6).trans rfl
          have sf6 := blk_frozen HG9.out 6
          have s7 := (blk_cell HG9.out 7).trans rfl
          have sf7 := blk_frozen HG9.out 7
          have s8 := (blk_cell HG9.out 8).trans rfl
          have sf8 := blk_frozen HG9.out 8
          have s9 := (blk_cell HG9.out 9).trans rfl
          have sf9 := blk_frozen HG9.out 9
          have s10 := (blk_cell HG9.out 10).trans rfl
          have sf10 := blk_frozen HG9.out 10
          go_wp2_with fail
          clear s0 s1 s2 s3 s4 s5 s6 s7 s8 s9 s10 sf0 sf1 sf2 sf3 sf4 sf5 sf6 sf7 sf8 sf9 sf10
          have HB10 := Aside0.mk (show Below w3.heap.size w3 (World.setCell (World.setCell (World.setCell (World.setCell (World.setCell (World.setCell (World.setCell (World.setCell w9 ⟨g, 3, none⟩ (.int .i64 m0)) ⟨g, 4, none⟩ (.bool m1')) ⟨g, 5, none⟩ (.bool m2')) ⟨g, 6, none⟩ (.slice B6 m3'.length d6)) ⟨g, 7, none⟩ (.int .i64 m4)) ⟨g, 8, none⟩ (.string m5)) ⟨g, 9, none⟩ (.slice B9 m6.length d9)) ⟨g, 10, none⟩ (.slice B10 m7.length d10)) from (below_set (below_set (below_set (below_set (below_set (below_set (below_set (below_set HB9.out hg0) hg0) hg0) hg0) hg0) hg0) hg0) hg0))
          have HG10 := Aside0.mk (show ((World.setCell (World.setCell (World.setCell (World.setCell (World.setCell (World.setCell (World.setCell (World.setCell w9 ⟨g, 3, none⟩ (.int .i64 m0)) ⟨g, 4, none⟩ (.bool m1')) ⟨g, 5, none⟩ (.bool m2')) ⟨g, 6, none⟩ (.slice B6 m3'.length d6)) ⟨g, 7, none⟩ (.int .i64 m4)) ⟨g, 8, none⟩ (.string m5)) ⟨g, 9, none⟩ (.slice B9 m6.length d9)) ⟨g, 10, none⟩ (.slice B10 m7.length d10))).heap[g]? = some (.cells #[.int .i64 op, .slice none 0 0, .slice none 0 0, .int .i64 m0, .bool m1', .bool m2', .slice B6 m3'.length d6, .int .i64 m4, .string m5, .slice B9 m6.length d9, .slice B10 m7.length d10] 39 (0, 0)) from (blk_put (cs := #[.int .i64 op, .slice none 0 0, .slice none 0 0, .int .i64 m0, .bool m1', .bool m2', .slice B6 m3'.length d6, .int .i64 m4, .string m5, .slice B9 m6.length d9, .slice none 0 0]) (cs' := #[.int .i64 op, .slice none 0 0, .slice none 0 0, .int .i64 m0, .bool m1', .bool m2', .slice B6 m3'.length d6, .int .i64 m4, .string m5, .slice B9 m6.length d9, .slice B10 m7.length d10]) (blk_put (cs := #[.int .i64 op, .slice none 0 0, .slice none 0 0, .int .i64 m0, .bool m1', .bool m2', .slice B6 m3'.length d6, .int .i64 m4, .string m5, .slice none 0 0, .slice none 0 0]) (cs' := #[.int .i64 op, .slice none 0 0, .slice none 0 0, .int .i64 m0, .bool m1', .bool m2', .slice B6 m3'.length d6, .int .i64 m4, .string m5, .slice B9 m6.length d9, .slice none 0 0]) (blk_put (cs := #[.int .i64 op, .slice none 0 0, .slice none 0 0, .int .i64 m0, .bool m1', .bool m2', .slice B6 m3'.length d6, .int .i64 m4, .string (⟨#[]⟩ : ByteArray), .slice none 0 0, .slice none 0 0]) (cs' := #[.int .i64 op, .slice none 0 0, .slice none 0 0, .int .i64 m0, .bool m1', .bool m2', .slice B6 m3'.length d6, .int .i64 m4, .string m5, .slice none 0 0, .slice none 0 0]) (blk_put (cs := #[.int .i64 op, .slice none 0 0, .slice none 0 0, .int .i64 m0, .bool m1', .bool m2', .slice B6 m3'.length d6, .int .i64 0, .string (⟨#[]⟩ : ByteArray), .slice none 0 0, .slice none 0 0]) (cs' := #[.int .i64 op, .slice none 0 0, .slice none 0 0, .int .i64 m0, .bool m1', .bool m2', .slice B6 m3'.length d6, .int .i64 m4, .string (⟨#[]⟩ : ByteArray), .slice none 0 0, .slice none 0 0]) (blk_put (cs := #[.int .i64 op, .slice none 0 0, .slice none 0 0, .int .i64 m0, .bool m1', .bool m2', .slice none 0 0, .int .i64 0, .string (⟨#[]⟩ : ByteArray), .slice none 0 0, .slice none 0 0]) (cs' := #[.int .i64 op, .slice none 0 0, .slice none 0 0, .int .i64 m0, .bool m1', .bool m2', .slice B6 m3'.length d6, .int .i64 0, .string (⟨#[]⟩ : ByteArray), .slice none 0 0, .slice none 0 0]) (blk_put (cs := #[.int .i64 op, .slice none 0 0, .slice none 0 0, .int .i64 m0, .bool m1', .bool false, .slice none 0 0, .int .i64 0, .string (⟨#[]⟩ : ByteArray), .slice none 0 0, .slice none 0 0]) (cs' := #[.int .i64 op, .slice none 0 0, .slice none 0 0, .int .i64 m0, .bool m1', .bool m2', .slice none 0 0, .int .i64 0, .string (⟨#[]⟩ : ByteArray), .slice none 0 0, .slice none 0 0]) (blk_put (cs := #[.int .i64 op, .slice none 0 0, .slice none 0 0, .int .i64 m0, .bool false, .bool false, .slice none 0 0, .int .i64 0, .string (⟨#[]⟩ : ByteArray), .slice none 0 0, .slice none 0 0]) (cs' := #[.int .i64 op, .slice none 0 0, .slice none 0 0, .int .i64 m0, .bool m1', .bool false, .slice none 0 0, .int .i64 0, .string (⟨#[]⟩ : ByteArray), .slice none 0 0, .slice none 0 0]) (blk_put (cs := #[.int .i64 op, .slice none 0 0, .slice none 0 0, .int .i64 0, .bool false, .bool false, .slice none 0 0, .int .i64 0, .string (⟨#[]⟩ : ByteArray), .slice none 0 0, .slice none 0 0]) (cs' := #[.int .i64 op, .slice none 0 0, .slice none 0 0, .int .i64 m0, .bool false, .bool false, .slice none 0 0, .int .i64 0, .string (⟨#[]⟩ : ByteArray), .slice none 0 0, .slice none 0 0]) HG9.out 3 _ rfl) 4 _ rfl) 5 _ rfl) 6 _ rfl) 7 _ rfl) 8 _ rfl) 9 _ rfl) 10 _ rfl))
          have hfar : ∀ k_, k_ ≠ g → ((World.setCell (World.setCell (World.setCell (World.setCell (World.setCell (World.setCell (World.setCell (World.setCell w9 ⟨g, 3, none⟩ (.int .i64 m0)) ⟨g, 4, none⟩ (.bool m1')) ⟨g, 5, none⟩ (.bool m2')) ⟨g, 6, none⟩ (.slice B6 m3'.length d6)) ⟨g, 7, none⟩ (.int .i64 m4)) ⟨g, 8, none⟩ (.string m5)) ⟨g, 9, none⟩ (.slice B9 m6.length d9)) ⟨g, 10, none⟩ (.slice B10 m7.length d10))).heap[k_]? = w9.heap[k_]? := fun k_ hk => (Below.heap_setCell _ ⟨g, 10, none⟩ _ k_ hk).trans ((Below.heap_setCell _ ⟨g, 9, none⟩ _ k_ hk).trans ((Below.heap_setCell _ ⟨g, 8, none⟩ _ k_ hk).trans ((Below.heap_setCell _ ⟨g, 7, none⟩ _ k_ hk).trans ((Below.heap_setCell _ ⟨g, 6, none⟩ _ k_ hk).trans ((Below.heap_setCell _ ⟨g, 5, none⟩ _ k_ hk).trans ((Below.heap_setCell _ ⟨g, 4, none⟩ _ k_ hk).trans ((Below.heap_setCell _ ⟨g, 3, none⟩ _ k_ hk).trans (rfl))))))))
          have HK10 := Aside0.mk (show Kd.FK k29 (World.setCell (World.setCell (World.setCell (World.setCell (World.setCell (World.setCell (World.setCell (World.setCell w9 ⟨g, 3, none⟩ (.int .i64 m0)) ⟨g, 4, none⟩ (.bool m1')) ⟨g, 5, none⟩ (.bool m2')) ⟨g, 6, none⟩ (.slice B6 m3'.length d6)) ⟨g, 7, none⟩ (.int .i64 m4)) ⟨g, 8, none⟩ (.string m5)) ⟨g, 9, none⟩ (.slice B9 m6.length d9)) ⟨g, 10, none⟩ (.slice B10 m7.length d10)) (fun k_ => PP k_ ∧ k_ < w.heap.size ∨ w.heap.size ≤ k_ ∧ k_ ≠ g ∧ k_ ≠ w1.heap.size) ⟨m0, m1', ⟨m2', m3', m4⟩, m5, m6, m7⟩ [.int .i64 m0, .bool m1', .bool m2', .slice B6 m3'.length d6, .int .i64 m4, .string m5, .slice B9 m6.length d9, .slice B10 m7.length d10] from k29_mkF _ _ ⟨m0, m1', ⟨m2', m3', m4⟩, m5, m6, m7⟩ HGG.out.1 (Kd.F_step F6.out (fun k_ hk _ => hfar k_ (by rcases hk with hk | hk <;> omega))) HGG.out.2.1 (Kd.F_step F9.out (fun k_ hk _ => hfar k_ (by rcases hk with hk | hk <;> omega))) HGG.out.2.2 (Kd.F_step F10.out (fun k_ hk _ => hfar k_ (by rcases hk with hk | hk <;> omega))))
          clear hfar F6 F9 F10 HB9 HG9
          generalize (World.setCell (World.setCell (World.setCell (World.setCell (World.setCell (World.setCell (World.setCell (World.setCell w9 ⟨g, 3, none⟩ (.int .i64 m0)) ⟨g, 4, none⟩ (.bool m1')) ⟨g, 5, none⟩ (.bool m2')) ⟨g, 6, none⟩ (.slice B6 m3'.length d6)) ⟨g, 7, none⟩ (.int .i64 m4)) ⟨g, 8, none⟩ (.string m5)) ⟨g, 9, none⟩ (.slice B9 m6.length d9)) ⟨g, 10, none⟩ (.slice B10 m7.length d10)) = w10 at HB10 HG10 HK10 ⊢
          go_wp2_with fail
          go_meet
          case rel => exact ⟨B6, d6, B9, d9, B10, d10, by first | rfl | trivial, HB10, HG10, HK10⟩
  case rest =>
    obtain ⟨B6, d6, B9, d9, B10, d10, rfl, HBu, HGu, HK⟩ := hcut
    have H5 := H4.out
    rw [if_neg (by decide)] at H5
    obtain ⟨⟨p1, p2, p3⟩, hp, H5⟩ := Option.bind_eq_some_iff.1 H5
    have HPP := Aside0.mk hp
    have H5 := Aside0.mk H5
    clear hp H4 HB5 HG5 HV hHeld HB
    have hgw : w.heap.size ≤ g := Nat.le_trans HB3.out.size hg0
    have hgc : g < wc.heap.size := blk_lt HGu.out
    have hrcc : w1.heap.size < wc.heap.size := Nat.lt_of_lt_of_le hs3 HBu.out.size
    have HXu := Aside0.mk (blk_below HX3.out HBu.out)
    have HBw := Aside0.mk (below_step HB3.out HBu.out)
    have x0 := (blk_cell HXu.out 0).trans rfl
    have x1 := (blk_cell HXu.out 1).trans rfl
    have x2 := (blk_cell HXu.out 2).trans rfl
    have x3 := (blk_cell HXu.out 3).trans rfl
    have x4 := (blk_cell HXu.out 4).trans rfl
    have x5 := (blk_cell HXu.out 5).trans rfl
    have x6 := (blk_cell HXu.out 6).trans rfl
    have x7 := (blk_cell HXu.out 7).trans rfl
    go_wp2_with fail
    refine (wire_path.calls k 7 a1 a2 A3 c3 l3 a4 a5 A6 c6 l6 A7 c7 l7 (⟨#[112, 97, 116, 104]⟩ : ByteArray) p1 p2 p3 _ (HL.out.below HBw.out) (Kd.C_below HR.out.1 HBw.out) HM.out.1 (Kd.C_below (Kd.F_now HR.out.2.1) HBw.out) HM.out.2.1 (Kd.C_below (Kd.F_now HR.out.2.2) HBw.out) HM.out.2.2 HPP.out).mono ?_
    rintro e w6 hth
    cases p1 with
    | true =>
      obtain ⟨rfl, hb⟩ := ThrPost.bad hth
      have HBf := Aside0.mk (below_step HBw.out hb)
      have H9 := H5.out
      clear H5 hth hb HPP x0 x1 x2 x3 x4 x5 x6 x7
      simp only [if_true] at H9
      injection H9 with H9
      injection H9 with e1 e3
      injection e3 with e3 e4
      subst e1 e3 e4
      go_wp2_with fail
      exact ⟨rfl, ThrPost.no ⟨rfl, HBf.out⟩⟩
    | false =>
      obtain ⟨vp, rfl, hR, hb⟩ := ThrPost.fine hth
      obtain ⟨Bp, dp, rfl, hpl, hpf⟩ := row_F hR
      have HFl := Aside0.mk hpl
      have hpf2 := Kd.F_mono hpf (ok' := (fun k_ => PP k_ ∧ k_ < w.heap.size ∨ w.heap.size ≤ k_ ∧ k_ ≠ g ∧ k_ ≠ w1.heap.size)) (fun k_ hk => .inr ⟨by omega, by omega, by omega⟩)
      obtain ⟨⟨n6, q6⟩, ⟨n9, q9⟩, n10, q10⟩ := fk_parts (Kd.FK_below HK.out hb)
      have HGa := Aside0.mk (And.intro n6 (And.intro n9 n10))
      have hg6 := blk_below HGu.out hb
      have hb6 := below_step HBu.out hb
      have hfar1 : ∀ k_, k_ ≠ g → ((World.setCell w6 ⟨g, 1, none⟩ (.slice Bp p3.length dp))).heap[k_]? = w6.heap[k_]? := fun k_ hk => Below.heap_setCell _ ⟨g, 1, none⟩ _ k_ hk
      have HF1 := Aside0.mk (Kd.F_step hpf2 (fun k_ hk _ => hfar1 k_ (by rcases hk with hk | hk <;> omega)))
      have HFa := Aside0.mk (Kd.F_step q6 (fun k_ hk _ => hfar1 k_ (by rcases hk with hk | hk <;> omega)))
      have HFb := Aside0.mk (Kd.F_step q9 (fun k_ hk _ => hfar1 k_ (by rcases hk with hk | hk <;> omega)))
      have HFc := Aside0.mk (Kd.F_step q10 (fun k_ hk _ => hfar1 k_ (by rcases hk with hk | hk <;> omega)))
      have HGu2 := Aside0.mk (show ((World.setCell w6 ⟨g, 1, none⟩ (.slice Bp p3.length dp))).heap[g]? = some (.cells #[.int .i64 op, .slice Bp p3.length dp, .slice none 0 0, .int .i64 v3.f0, .bool v3.f1, .bool v3.f2.f0, .slice B6 v3.f2.f1.length d6, .int .i64 v3.f2.f2, .string v3.f3, .slice B9 v3.f4.length d9, .slice B10 v3.f5.length d10] 39 (0, 0)) from (blk_put (cs := #[.int .i64 op, .slice none 0 0, .slice none 0 0, .int .i64 v3.f0, .bool v3.f1, .bool v3.f2.f0, .slice B6 v3.f2.f1.length d6, .int .i64 v3.f2.f2, .string v3.f3, .slice B9 v3.f4.length d9, .slice B10 v3.f5.length d10]) (cs' := #[.int .i64 op, .slice Bp p3.length dp, .slice none 0 0, .int .i64 v3.f0, .bool v3.f1, .bool v3.f2.f0, .slice B6 v3.f2.f1.length d6, .int .i64 v3.f2.f2, .string v3.f3, .slice B9 v3.f4.length d9, .slice B10 v3.f5.length d10]) hg6 1 _ rfl))
      have HBu2 := Aside0.mk (show Below w3.heap.size w3 (World.setCell w6 ⟨g, 1, none⟩ (.slice Bp p3.length dp)) from below_set hb6 hg0)
      have s0 := (blk_cell hg6 0).trans rfl
      have sf0 := blk_frozen hg6 0
      have s1 := (blk_cell hg6 1).trans rfl
      have sf1 := blk_frozen hg6 1
      have H6 := H5.out
      rw [if_neg (by decide)] at H6
      obtain ⟨b, hbb, H6⟩ := Option.bind_eq_some_iff.1 H6
      have HBB := Aside0.mk hbb
      have H6 := Aside0.mk H6
      obtain ⟨w7, hw7⟩ : ∃ w7, (World.setCell w6 ⟨g, 1, none⟩ (.slice Bp p3.length dp)) = w7 := ⟨_, rfl⟩
      rw [hw7] at HF1 HFa HFb HFc HGu2 HBu2
      have y0 := (blk_cell HGu2.out 0).trans rfl
      clear H5 hth hR hb hpl hpf hpf2 q6 q9 q10 n6 n9 n10 hfar1 hg6 hb6 hbb HPP HK HGu HBu HXu HBw x0 x1 x2 x3 x4 x5 x6 x7
      go_wp2_with fail
      refine (wire_from.calls op b _ HBB.out).mono ?_
      rintro e w8 ⟨rfl, nd8, rfl⟩
      clear y0 s0 s1 sf0 sf1 HBB
      replace HF1 := Aside0.mk (Kd.F_drewN HF1.out nd8)
      replace HFa := Aside0.mk (Kd.F_drewN HFa.out nd8)
      replace HFb := Aside0.mk (Kd.F_drewN HFb.out nd8)
      replace HFc := Aside0.mk (Kd.F_drewN HFc.out nd8)
      have HGu := Aside0.mk (show (w7.drewN nd8).heap[g]? = _ from blk_drewN HGu2.out nd8)
      have HBu := Aside0.mk (pw_below_drewN HBu2.out nd8)
      clear HGu2 HBu2 hw7
      generalize w7.drewN nd8 = w8 at HF1 HFa HFb HFc HGu HBu ⊢
      have HXu := Aside0.mk True.intro
      have HBw := Aside0.mk True.intro
      cases b with
      | false =>
        have H7 := H6.out
        rw [if_neg (by decide)] at H7
        injection H7 with H7
        injection H7 with e1 H7
        injection H7 with e2 e3
        subst e1 e2 e3
        clear H6
        have HRu := Aside0.mk (blk_below HR3.out HBu.out)
        have s0 := (blk_cell HGu.out 0).trans rfl
        have s1 := (blk_cell HGu.out 1).trans rfl
        have s2 := (blk_cell HGu.out 2).trans rfl
        have s3 := (blk_cell HGu.out 3).trans rfl
        have s4 := (blk_cell HGu.out 4).trans rfl
        have s5 := (blk_cell HGu.out 5).trans rfl
        have s6 := (blk_cell HGu.out 6).trans rfl
        have s7 := (blk_cell HGu.out 7).trans rfl
        have s8 := (blk_cell HGu.out 8).trans rfl
        have s9 := (blk_cell HGu.out 9).trans rfl
        have s10 := (blk_cell HGu.out 10).trans rfl
        have t0 := (blk_cell HRu.out 0).trans rfl
        have tf0 := blk_frozen HRu.out 0
        have t1 := (blk_cell HRu.out 1).trans rfl
        have tf1 := blk_frozen HRu.out 1
        have t2 := (blk_cell HRu.out 2).trans rfl
        have tf2 := blk_frozen HRu.out 2
        have t3 := (blk_cell HRu.out 3).trans rfl
        have tf3 := blk_frozen HRu.out 3
        have t4 := (blk_cell HRu.out 4).trans rfl
        have tf4 := blk_frozen HRu.out 4
        have t5 := (blk_cell HRu.out 5).trans rfl
        have tf5 := blk_frozen HRu.out 5
        have t6 := (blk_cell HRu.out 6).trans rfl
        have tf6 := blk_frozen HRu.out 6
        have t7 := (blk_cell HRu.out 7).trans rfl
        have tf7 := blk_frozen HRu.out 7
        have t8 := (blk_cell HRu.out 8).trans rfl
        have tf8 := blk_frozen HRu.out 8
        have t9 := (blk_cell HRu.out 9).trans rfl
        have tf9 := blk_frozen HRu.out 9
        have t10 := (blk_cell HRu.out 10).trans rfl
        have tf10 := blk_frozen HRu.out 10
        have hne : g ≠ w1.heap.size := by omega
        have hne2 : w1.heap.size ≠ g := by omega
        go_wp2_with fail
        clear s0 s1 s2 s3 s4 s5 s6 s7 s8 s9 s10
        clear t0 t1 t2 t3 t4 t5 t6 t7 t8 t9 t10 tf0 tf1 tf2 tf3 tf4 tf5 tf6 tf7 tf8 tf9 tf10
        have HRn := Aside0.mk (show ((World.setCell (World.setCell (World.setCell (World.setCell (World.setCell (World.setCell (World.setCell (World.setCell (World.setCell (World.setCell (World.setCell w8 ⟨w1.heap.size, 0, none⟩ (.int .i64 op)) ⟨w1.heap.size, 1, none⟩ (.slice Bp p3.length dp)) ⟨w1.heap.size, 2, none⟩ (.slice none 0 0)) ⟨w1.heap.size, 3, none⟩ (.int .i64 v3.f0)) ⟨w1.heap.size, 4, none⟩ (.bool v3.f1)) ⟨w1.heap.size, 5, none⟩ (.bool v3.f2.f0)) ⟨w1.heap.size, 6, none⟩ (.slice B6 v3.f2.f1.length d6)) ⟨w1.heap.size, 7, none⟩ (.int .i64 v3.f2.f2)) ⟨w1.heap.size, 8, none⟩ (.string v3.f3)) ⟨w1.heap.size, 9, none⟩ (.slice B9 v3.f4.length d9)) ⟨w1.heap.size, 10, none⟩ (.slice B10 v3.f5.length d10))).heap[w1.heap.size]? = some (.cells #[.int .i64 op, .slice Bp p3.length dp, .slice none 0 0, .int .i64 v3.f0, .bool v3.f1, .bool v3.f2.f0, .slice B6 v3.f2.f1.length d6, .int .i64 v3.f2.f2, .string v3.f3, .slice B9 v3.f4.length d9, .slice B10 v3.f5.length d10] 39 (0, 0)) from (blk_put (cs := #[.int .i64 op, .slice Bp p3.length dp, .slice none 0 0, .int .i64 v3.f0, .bool v3.f1, .bool v3.f2.f0, .slice B6 v3.f2.f1.length d6, .int .i64 v3.f2.f2, .string v3.f3, .slice B9 v3.f4.length d9, .slice none 0 0]) (cs' := #[.int .i64 op, .slice Bp p3.length dp, .slice none 0 0, .int .i64 v3.f0, .bool v3.f1, .bool v3.f2.f0, .slice B6 v3.f2.f1.length d6, .int .i64 v3.f2.f2, .string v3.f3, .slice B9 v3.f4.length d9, .slice B10 v3.f5.length d10]) (blk_put (cs := #[.int .i64 op, .slice Bp p3.length dp, .slice none 0 0, .int .i64 v3.f0, .bool v3.f1, .bool v3.f2.f0, .slice B6 v3.f2.f1.length d6, .int .i64 v3.f2.f2, .string v3.f3, .slice none 0 0, .slice none 0 0]) (cs' := #[.int .i64 op, .slice Bp p3.length dp, .slice none 0 0, .int .i64 v3.f0, .bool v3.f1, .bool v3.f2.f0, .slice B6 v3.f2.f1.length d6, .int .i64 v3.f2.f2, .string v3.f3, .slice B9 v3.f4.length d9, .slice none 0 0]) (blk_put (cs := #[.int .i64 op, .slice Bp p3.length dp, .slice none 0 0, .int .i64 v3.f0, .bool v3.f1, .bool v3.f2.f0, .slice B6 v3.f2.f1.length d6, .int .i64 v3.f2.f2, .string (⟨#[]⟩ : ByteArray), .slice none 0 0, .slice none 0 0]) (cs' := #[.int .i64 op, .slice Bp p3.length dp, .slice none 0 0, .int .i64 v3.f0, .bool v3.f1, .bool v3.f2.f0, .slice B6 v3.f2.f1.length d6, .int .i64 v3.f2.f2, .string v3.f3, .slice none 0 0, .slice none 0 0]) (blk_put (cs := #[.int .i64 op, .slice Bp p3.length dp, .slice none 0 0, .int .i64 v3.f0, .bool v3.f1, .bool v3.f2.f0, .slice B6 v3.f2.f1.length d6, .int .i64 0, .string (⟨#[]⟩ : ByteArray), .slice none 0 0, .slice none 0 0]) (cs' := #[.int .i64 op, .slice Bp p3.length dp, .slice none 0 0, .int .i64 v3.f0, .bool v3.f1, .bool v3.f2.f0, .slice B6 v3.f2.f1.length d6, .int .i64 v3.f2.f2, .string (⟨#[]⟩ : ByteArray), .slice none 0 0, .slice none 0 0]) (blk_put (cs := #[.int .i64 op, .slice Bp p3.length dp, .slice none 0 0, .int .i64 v3.f0, .bool v3.f1, .bool v3.f2.f0, .slice none 0 0, .int .i64 0, .string (⟨#[]⟩ : ByteArray), .slice none 0 0, .slice none 0 0]) (cs' := #[.int .i64 op, .slice Bp p3.length dp, .slice none 0 0, .int .i64 v3.f0, .bool v3.f1, .bool v3.f2.f0, .slice B6 v3.f2.f1.length d6, .int .i64 0, .string (⟨#[]⟩ : ByteArray), .slice none 0 0, .slice none 0 0]) (blk_put (cs := #[.int .i64 op, .slice Bp p3.length dp, .slice none 0 0, .int .i64 v3.f0, .bool v3.f1, .bool false, .slice none 0 0, .int .i64 0, .string (⟨#[]⟩ : ByteArray), .slice none 0 0, .slice none 0 0]) (cs' := #[.int .i64 op, .slice Bp p3.length dp, .slice none 0 0, .int .i64 v3.f0, .bool v3.f1, .bool v3.f2.f0, .slice none 0 0, .int .i64 0, .string (⟨#[]⟩ : ByteArray), .slice none 0 0, .slice none 0 0]) (blk_put (cs := #[.int .i64 op, .slice Bp p3.length dp, .slice none 0 0, .int .i64 v3.f0, .bool false, .bool false, .slice none 0 0, .int .i64 0, .string (⟨#[]⟩ : ByteArray), .slice none 0 0, .slice none 0 0]) (cs' := #[.int .i64 op, .slice Bp p3.length dp, .slice none 0 0, .int .i64 v3.f0, .bool v3.f1, .bool false, .slice none 0 0, .int .i64 0, .string (⟨#[]⟩ : ByteArray), .slice none 0 0, .slice none 0 0]) (blk_put (cs := #[.int .i64 op, .slice Bp p3.length dp, .slice none 0 0, .int .i64 0, .bool false, .bool false, .slice none 0 0, .int .i64 0, .string (⟨#[]⟩ : ByteArray), .slice none 0 0, .slice none 0 0]) (cs' := #[.int .i64 op, .slice Bp p3.length dp, .slice none 0 0, .int .i64 v3.f0, .bool false, .bool false, .slice none 0 0, .int .i64 0, .string (⟨#[]⟩ : ByteArray), .slice none 0 0, .slice none 0 0]) (blk_put (cs := #[.int .i64 op, .slice Bp p3.length dp, .slice none 0 0, .int .i64 0, .bool false, .bool false, .slice none 0 0, .int .i64 0, .string (⟨#[]⟩ : ByteArray), .slice none 0 0, .slice none 0 0]) (cs' := #[.int .i64 op, .slice Bp p3.length dp, .slice none 0 0, .int .i64 0, .bool false, .bool false, .slice none 0 0, .int .i64 0, .string (⟨#[]⟩ : ByteArray), .slice none 0 0, .slice none 0 0]) (blk_put (cs := #[.int .i64 op, .slice none 0 0, .slice none 0 0, .int .i64 0, .bool false, .bool false, .slice none 0 0, .int .i64 0, .string (⟨#[]⟩ : ByteArray), .slice none 0 0, .slice none 0 0]) (cs' := #[.int .i64 op, .slice Bp p3.length dp, .slice none 0 0, .int .i64 0, .bool false, .bool false, .slice none 0 0, .int .i64 0, .string (⟨#[]⟩ : ByteArray), .slice none 0 0, .slice none 0 0]) (blk_put (cs := #[.int .i64 0, .slice none 0 0, .slice none 0 0, .int .i64 0, .bool false, .bool false, .slice none 0 0, .int .i64 0, .string (⟨#[]⟩ : ByteArray), .slice none 0 0, .slice none 0 0]) (cs' := #[.int .i64 op, .slice none 0 0, .slice none 0 0, .int .i64 0, .bool false, .bool false, .slice none 0 0, .int .i64 0, .string (⟨#[]⟩ : ByteArray), .slice none 0 0, .slice none 0 0]) HRu.out 0 _ rfl) 1 _ rfl) 2 _ rfl) 3 _ rfl) 4 _ rfl) 5 _ rfl) 6 _ rfl) 7 _ rfl) 8 _ rfl) 9 _ rfl) 10 _ rfl))
        have HBn := Aside0.mk (show Below w.heap.size w (World.setCell (World.setCell (World.setCell (World.setCell (World.setCell (World.setCell (World.setCell (World.setCell (World.setCell (World.setCell (World.setCell w8 ⟨w1.heap.size, 0, none⟩ (.int .i64 op)) ⟨w1.heap.size, 1, none⟩ (.slice Bp p3.length dp)) ⟨w1.heap.size, 2, none⟩ (.slice none 0 0)) ⟨w1.heap.size, 3, none⟩ (.int .i64 v3.f0)) ⟨w1.heap.size, 4, none⟩ (.bool v3.f1)) ⟨w1.heap.size, 5, none⟩ (.bool v3.f2.f0)) ⟨w1.heap.size, 6, none⟩ (.slice B6 v3.f2.f1.length d6)) ⟨w1.heap.size, 7, none⟩ (.int .i64 v3.f2.f2)) ⟨w1.heap.size, 8, none⟩ (.string v3.f3)) ⟨w1.heap.size, 9, none⟩ (.slice B9 v3.f4.length d9)) ⟨w1.heap.size, 10, none⟩ (.slice B10 v3.f5.length d10)) from (below_set (below_set (below_set (below_set (below_set (below_set (below_set (below_set (below_set (below_set (below_set (below_step HB3.out HBu.out) hrc) hrc) hrc) hrc) hrc) hrc) hrc) hrc) hrc) hrc) hrc))
        have hfar : ∀ k_, k_ ≠ w1.heap.size → ((World.setCell (World.setCell (World.setCell (World.setCell (World.setCell (World.setCell (World.setCell (World.setCell (World.setCell (World.setCell (World.setCell w8 ⟨w1.heap.size, 0, none⟩ (.int .i64 op)) ⟨w1.heap.size, 1, none⟩ (.slice Bp p3.length dp)) ⟨w1.heap.size, 2, none⟩ (.slice none 0 0)) ⟨w1.heap.size, 3, none⟩ (.int .i64 v3.f0)) ⟨w1.heap.size, 4, none⟩ (.bool v3.f1)) ⟨w1.heap.size, 5, none⟩ (.bool v3.f2.f0)) ⟨w1.heap.size, 6, none⟩ (.slice B6 v3.f2.f1.length d6)) ⟨w1.heap.size, 7, none⟩ (.int .i64 v3.f2.f2)) ⟨w1.heap.size, 8, none⟩ (.string v3.f3)) ⟨w1.heap.size, 9, none⟩ (.slice B9 v3.f4.length d9)) ⟨w1.heap.size, 10, none⟩ (.slice B10 v3.f5.length d10))).heap[k_]? = w8.heap[k_]? := fun k_ hk => (Below.heap_setCell _ ⟨w1.heap.size, 10, none⟩ _ k_ hk).trans ((Below.heap_setCell _ ⟨w1.heap.size, 9, none⟩ _ k_ hk).trans ((Below.heap_setCell _ ⟨w1.heap.size, 8, none⟩ _ k_ hk).trans ((Below.heap_setCell _ ⟨w1.heap.size, 7, none⟩ _ k_ hk).trans ((Below.heap_setCell _ ⟨w1.heap.size, 6, none⟩ _ k_ hk).trans ((Below.heap_setCell _ ⟨w1.heap.size, 5, none⟩ _ k_ hk).trans ((Below.heap_setCell _ ⟨w1.heap.size, 4, none⟩ _ k_ hk).trans ((Below.heap_setCell _ ⟨w1.heap.size, 3, none⟩ _ k_ hk).trans ((Below.heap_setCell _ ⟨w1.heap.size, 2, none⟩ _ k_ hk).trans ((Below.heap_setCell _ ⟨w1.heap.size, 1, none⟩ _ k_ hk).trans ((Below.heap_setCell _ ⟨w1.heap.size, 0, none⟩ _ k_ hk).trans (rfl)))))))))))
        have okm : ∀ k_, (fun k_ => PP k_ ∧ k_ < w.heap.size ∨ w.heap.size ≤ k_ ∧ k_ ≠ g ∧ k_ ≠ w1.heap.size) k_ → PP k_ ∨ w.heap.size ≤ k_ := fun k_ hk => hk.elim (fun h_ => .inl h_.1) (fun h_ => .inr h_.1)
        have HQ := Aside0.mk (show Kd.FK k39 (World.setCell (World.setCell (World.setCell (World.setCell (World.setCell (World.setCell (World.setCell (World.setCell (World.setCell (World.setCell (World.setCell w8 ⟨w1.heap.size, 0, none⟩ (.int .i64 op)) ⟨w1.heap.size, 1, none⟩ (.slice Bp p3.length dp)) ⟨w1.heap.size, 2, none⟩ (.slice none 0 0)) ⟨w1.heap.size, 3, none⟩ (.int .i64 v3.f0)) ⟨w1.heap.size, 4, none⟩ (.bool v3.f1)) ⟨w1.heap.size, 5, none⟩ (.bool v3.f2.f0)) ⟨w1.heap.size, 6, none⟩ (.slice B6 v3.f2.f1.length d6)) ⟨w1.heap.size, 7, none⟩ (.int .i64 v3.f2.f2)) ⟨w1.heap.size, 8, none⟩ (.string v3.f3)) ⟨w1.heap.size, 9, none⟩ (.slice B9 v3.f4.length d9)) ⟨w1.heap.size, 10, none⟩ (.slice B10 v3.f5.length d10)) (fun k_ => PP k_ ∨ w.heap.size ≤ k_) ⟨op, p3, [], v3⟩ [.int .i64 op, .slice Bp p3.length dp, .slice none 0 0, .int .i64 v3.f0, .bool v3.f1, .bool v3.f2.f0, .slice B6 v3.f2.f1.length d6, .int .i64 v3.f2.f2, .string v3.f3, .slice B9 v3.f4.length d9, .slice B10 v3.f5.length d10] from k39_mkF _ _ ⟨op, p3, [], v3⟩ HFl.out (Kd.F_mono (Kd.F_step HF1.out (fun k_ hk _ => hfar k_ (by rcases hk with hk | hk <;> omega))) okm) (Nat.le_refl _) (Kd.F_nil _ _ _) HGa.out.1 (Kd.F_mono (Kd.F_step HFa.out (fun k_ hk _ => hfar k_ (by rcases hk with hk | hk <;> omega))) okm) HGa.out.2.1 (Kd.F_mono (Kd.F_step HFb.out (fun k_ hk _ => hfar k_ (by rcases hk with hk | hk <;> omega))) okm) HGa.out.2.2 (Kd.F_mono (Kd.F_step HFc.out (fun k_ hk _ => hfar k_ (by rcases hk with hk | hk <;> omega))) okm))
        clear hfar HF1 HFa HFb HFc HGu HRu HBu HXu HBw
        generalize (World.setCell (World.setCell (World.setCell (World.setCell (World.setCell (World.setCell (World.setCell (World.setCell (World.setCell (World.setCell (World.setCell w8 ⟨w1.heap.size, 0, none⟩ (.int .i64 op)) ⟨w1.heap.size, 1, none⟩ (.slice Bp p3.length dp)) ⟨w1.heap.size, 2, none⟩ (.slice none 0 0)) ⟨w1.heap.size, 3, none⟩ (.int .i64 v3.f0)) ⟨w1.heap.size, 4, none⟩ (.bool v3.f1)) ⟨w1.heap.size, 5, none⟩ (.bool v3.f2.f0)) ⟨w1.heap.size, 6, none⟩ (.slice B6 v3.f2.f1.length d6)) ⟨w1.heap.size, 7, none⟩ (.int .i64 v3.f2.f2)) ⟨w1.heap.size, 8, none⟩ (.string v3.f3)) ⟨w1.heap.size, 9, none⟩ (.slice B9 v3.f4.length d9)) ⟨w1.heap.size, 10, none⟩ (.slice B10 v3.f5.length d10)) = wz at HRn HBn HQ ⊢
        try go_wp2_with fail
        refine bodyPost_ret (results_cell_row rfl _ _ w1.heap.size 39 #[.int .i64 op, .slice Bp p3.length dp, .slice none 0 0, .int .i64 v3.f0, .bool v3.f1, .bool v3.f2.f0, .slice B6 v3.f2.f1.length d6, .int .i64 v3.f2.f2, .string v3.f3, .slice B9 v3.f4.length d9, .slice B10 v3.f5.length d10] (0, 0) _ rfl HRn.out Tryd.underlying39 rfl (by kernel_rfl)) rfl ?_
        exact ThrPost.ok ⟨_, _, _, _, _, _, _, _, _, _, rfl, HQ.out, HBn.out⟩
      | true =>
        have H7 := H6.out
        rw [if_pos rfl] at H7
        obtain ⟨⟨u1, u2, u3⟩, hp, H5⟩ := Option.bind_eq_some_iff.1 H7
        have HPP := Aside0.mk hp
        have H5 := Aside0.mk H5
        clear H6 H7 hp HXu HBw
        have hgc8 : g < w8.heap.size := blk_lt HGu.out
        have hrc8 : w1.heap.size < w8.heap.size := Nat.lt_of_lt_of_le hs3 HBu.out.size
        have HXu := Aside0.mk (blk_below HX3.out HBu.out)
        have HBw := Aside0.mk (below_step HB3.out HBu.out)
        have x0 := (blk_cell HXu.out 0).trans rfl
        have x1 := (blk_cell HXu.out 1).trans rfl
        have x2 := (blk_cell HXu.out 2).trans rfl
        have x3 := (blk_cell HXu.out 3).trans rfl
        have x4 := (blk_cell HXu.out 4).trans rfl
        have x5 := (blk_cell HXu.out 5).trans rfl
        have x6 := (blk_cell HXu.out 6).trans rfl
        have x7 := (blk_cell HXu.out 7).trans rfl
        go_wp2_with fail
        refine (wire_path.calls k 7 a1 a2 A3 c3 l3 a4 a5 A6 c6 l6 A7 c7 l7 (⟨#[102, 114, 111, 109]⟩ : ByteArray) u1 u2 u3 _ (HL.out.below HBw.out) (Kd.C_below HR.out.1 HBw.out) HM.out.1 (Kd.C_below (Kd.F_now HR.out.2.1) HBw.out) HM.out.2.1 (Kd.C_below (Kd.F_now HR.out.2.2) HBw.out) HM.out.2.2 HPP.out).mono ?_
        rintro e w9 hth
        cases u1 with
        | true =>
          obtain ⟨rfl, hb⟩ := ThrPost.bad hth
          have HBf := Aside0.mk (below_step HBw.out hb)
          have H9 := H5.out
          clear H5 hth hb HPP x0 x1 x2 x3 x4 x5 x6 x7
          simp only [if_true] at H9
          injection H9 with H9
          injection H9 with e1 e3
          injection e3 with e3 e4
          subst e1 e3 e4
          go_wp2_with fail
          exact ⟨rfl, ThrPost.no ⟨rfl, HBf.out⟩⟩
        | false =>
          obtain ⟨vq, rfl, hR, hb⟩ := ThrPost.fine hth
          obtain ⟨Bq, dq, rfl, hql, hqf⟩ := row_F hR
          have HFl2 := Aside0.mk hql
          have hqf2 := Kd.F_mono hqf (ok' := (fun k_ => PP k_ ∧ k_ < w.heap.size ∨ w.heap.size ≤ k_ ∧ k_ ≠ g ∧ k_ ≠ w1.heap.size)) (fun k_ hk => .inr ⟨by omega, by omega, by omega⟩)
          have hg9 := blk_below HGu.out hb
          have hb9 := below_step HBu.out hb
          have hfar1 : ∀ k_, k_ ≠ g → ((World.setCell w9 ⟨g, 2, none⟩ (.slice Bq u3.length dq))).heap[k_]? = w9.heap[k_]? := fun k_ hk => Below.heap_setCell _ ⟨g, 2, none⟩ _ k_ hk
          have HF2 := Aside0.mk (Kd.F_step hqf2 (fun k_ hk _ => hfar1 k_ (by rcases hk with hk | hk <;> omega)))
          replace HF1 := Aside0.mk (Kd.F_step (Kd.F_below HF1.out hb) (fun k_ hk _ => hfar1 k_ (by rcases hk with hk | hk <;> omega)))
          replace HFa := Aside0.mk (Kd.F_step (Kd.F_below HFa.out hb) (fun k_ hk _ => hfar1 k_ (by rcases hk with hk | hk <;> omega)))
          replace HFb := Aside0.mk (Kd.F_step (Kd.F_below HFb.out hb) (fun k_ hk _ => hfar1 k_ (by rcases hk with hk | hk <;> omega)))
          replace HFc := Aside0.mk (Kd.F_step (Kd.F_below HFc.out hb) (fun k_ hk _ => hfar1 k_ (by rcases hk with hk | hk <;> omega)))
          have HGu2 := Aside0.mk (show ((World.setCell w9 ⟨g, 2, none⟩ (.slice Bq u3.length dq))).heap[g]? = some (.cells #[.int .i64 op, .slice Bp p3.length dp, .slice Bq u3.length dq, .int .i64 v3.f0, .bool v3.f1, .bool v3.f2.f0, .slice B6 v3.f2.f1.length d6, .int .i64 v3.f2.f2, .string v3.f3, .slice B9 v3.f4.length d9, .slice B10 v3.f5.length d10] 39 (0, 0)) from (blk_put (cs := #[.int .i64 op, .slice Bp p3.length dp, .slice none 0 0, .int .i64 v3.f0, .bool v3.f1, .bool v3.f2.f0, .slice B6 v3.f2.f1.length d6, .int .i64 v3.f2.f2, .string v3.f3, .slice B9 v3.f4.length d9, .slice B10 v3.f5.length d10]) (cs' := #[.int .i64 op, .slice Bp p3.length dp, .slice Bq u3.length dq, .int .i64 v3.f0, .bool v3.f1, .bool v3.f2.f0, .slice B6 v3.f2.f1.length d6, .int .i64 v3.f2.f2, .string v3.f3, .slice B9 v3.f4.length d9, .slice B10 v3.f5.length d10]) hg9 2 _ rfl))
          have HBu2 := Aside0.mk (show Below w3.heap.size w3 (World.setCell w9 ⟨g, 2, none⟩ (.slice Bq u3.length dq)) from below_set hb9 hg0)
          have s0 := (blk_cell hg9 0).trans rfl
          have sf0 := blk_frozen hg9 0
          have s1 := (blk_cell hg9 1).trans rfl
          have sf1 := blk_frozen hg9 1
          have s2 := (blk_cell hg9 2).trans rfl
          have sf2 := blk_frozen hg9 2
          have H7 := H5.out
          rw [if_neg (by decide)] at H7
          injection H7 with H7
          injection H7 with e1 H7
          injection H7 with e2 e3
          subst e1 e2 e3
          obtain ⟨w10, hw10⟩ : ∃ w10, (World.setCell w9 ⟨g, 2, none⟩ (.slice Bq u3.length dq)) = w10 := ⟨_, rfl⟩
          rw [hw10] at HF1 HF2 HFa HFb HFc HGu2 HBu2
          clear H5 hth hR hb hql hqf hqf2 hfar1 hg9 hb9 HPP HGu HBu HXu HBw x0 x1 x2 x3 x4 x5 x6 x7
          have HGu := HGu2
          have HBu := HBu2
          clear HGu2 HBu2
          have HXu := Aside0.mk True.intro
          have HBw := Aside0.mk True.intro
          have HRu := Aside0.mk (blk_below HR3.out HBu.out)
          have s0 := (blk_cell HGu.out 0).trans rfl
          have s1 := (blk_cell HGu.out 1).trans rfl
          have s2 := (blk_cell HGu.out 2).trans rfl
          have s3 := (blk_cell HGu.out 3).trans rfl
          have s4 := (blk_cell HGu.out 4).trans rfl
          have s5 := (blk_cell HGu.out 5).trans rfl
          have s6 := (blk_cell HGu.out 6).trans rfl
          have s7 := (blk_cell HGu.out 7).trans rfl
          have s8 := (blk_cell HGu.out 8).trans rfl
          have s9 := (blk_cell HGu.out 9).trans rfl
          have s10 := (blk_cell HGu.out 10).trans rfl
          have t0 := (blk_cell HRu.out 0).trans rfl
          have tf0 := blk_frozen HRu.out 0
          have t1 := (blk_cell HRu.out 1).trans rfl
          have tf1 := blk_frozen HRu.out 1
          have t2 := (blk_cell HRu.out 2).trans rfl
          have tf2 := blk_frozen HRu.out 2
          have t3 := (blk_cell HRu.out 3).trans rfl
          have tf3 := blk_frozen HRu.out 3
          have t4 := (blk_cell HRu.out 4).trans rfl
          have tf4 := blk_frozen HRu.out 4
          have t5 := (blk_cell HRu.out 5).trans rfl
          have tf5 := blk_frozen HRu.out 5
          have t6 := (blk_cell HRu.out 6).trans rfl
          have tf6 := blk_frozen HRu.out 6
          have t7 := (blk_cell HRu.out 7).trans rfl
          have tf7 := blk_frozen HRu.out 7
          have t8 := (blk_cell HRu.out 8).trans rfl
          have tf8 := blk_frozen HRu.out 8
          have t9 := (blk_cell HRu.out 9).trans rfl
          have tf9 := blk_frozen HRu.out 9
          have t10 := (blk_cell HRu.out 10).trans rfl
          have tf10 := blk_frozen HRu.out 10
          have hne : g ≠ w1.heap.size := by omega
          have hne2 : w1.heap.size ≠ g := by omega
          go_wp2_with fail
          clear s0 s1 s2 s3 s4 s5 s6 s7 s8 s9 s10
          clear t0 t1 t2 t3 t4 t5 t6 t7 t8 t9 t10 tf0 tf1 tf2 tf3 tf4 tf5 tf6 tf7 tf8 tf9 tf10
          have HRn := Aside0.mk (show ((World.setCell (World.setCell (World.setCell (World.setCell (World.setCell (World.setCell (World.setCell (World.setCell (World.setCell (World.setCell (World.setCell w10 ⟨w1.heap.size, 0, none⟩ (.int .i64 op)) ⟨w1.heap.size, 1, none⟩ (.slice Bp p3.length dp)) ⟨w1.heap.size, 2, none⟩ (.slice Bq u3.length dq)) ⟨w1.heap.size, 3, none⟩ (.int .i64 v3.f0)) ⟨w1.heap.size, 4, none⟩ (.bool v3.f1)) ⟨w1.heap.size, 5, none⟩ (.bool v3.f2.f0)) ⟨w1.heap.size, 6, none⟩ (.slice B6 v3.f2.f1.length d6)) ⟨w1.heap.size, 7, none⟩ (.int .i64 v3.f2.f2)) ⟨w1.heap.size, 8, none⟩ (.string v3.f3)) ⟨w1.heap.size, 9, none⟩ (.slice B9 v3.f4.length d9)) ⟨w1.heap.size, 10, none⟩ (.slice B10 v3.f5.length d10))).heap[w1.heap.size]? = some (.cells #[.int .i64 op, .slice Bp p3.length dp, .slice Bq u3.length dq, .int .i64 v3.f0, .bool v3.f1, .bool v3.f2.f0, .slice B6 v3.f2.f1.length d6, .int .i64 v3.f2.f2, .string v3.f3, .slice B9 v3.f4.length d9, .slice B10 v3.f5.length d10] 39 (0, 0)) from (blk_put (cs := #[.int .i64 op, .slice Bp p3.length dp, .slice Bq u3.length dq, .int .i64 v3.f0, .bool v3.f1, .bool v3.f2.f0, .slice B6 v3.f2.f1.length d6, .int .i64 v3.f2.f2, .string v3.f3, .slice B9 v3.f4.length d9, .slice none 0 0]) (cs' := #[.int .i64 op, .slice Bp p3.length dp, .slice Bq u3.length dq, .int .i64 v3.f0, .bool v3.f1, .bool v3.f2.f0, .slice B6 v3.f2.f1.length d6, .int .i64 v3.f2.f2, .string v3.f3, .slice B9 v3.f4.length d9, .slice B10 v3.f5.length d10]) (blk_put (cs := #[.int .i64 op, .slice Bp p3.length dp, .slice Bq u3.length dq, .int .i64 v3.f0, .bool v3.f1, .bool v3.f2.f0, .slice B6 v3.f2.f1.length d6, .int .i64 v3.f2.f2, .string v3.f3, .slice none 0 0, .slice none 0 0]) (cs' := #[.int .i64 op, .slice Bp p3.length dp, .slice Bq u3.length dq, .int .i64 v3.f0, .bool v3.f1, .bool v3.f2.f0, .slice B6 v3.f2.f1.length d6, .int .i64 v3.f2.f2, .string v3.f3, .slice B9 v3.f4.length d9, .slice none 0 0]) (blk_put (cs := #[.int .i64 op, .slice Bp p3.length dp, .slice Bq u3.length dq, .int .i64 v3.f0, .bool v3.f1, .bool v3.f2.f0, .slice B6 v3.f2.f1.length d6, .int .i64 v3.f2.f2, .string (⟨#[]⟩ : ByteArray), .slice none 0 0, .slice none 0 0]) (cs' := #[.int .i64 op, .slice Bp p3.length dp, .slice Bq u3.length dq, .int .i64 v3.f0, .bool v3.f1, .bool v3.f2.f0, .slice B6 v3.f2.f1.length d6, .int .i64 v3.f2.f2, .string v3.f3, .slice none 0 0, .slice none 0 0]) (blk_put (cs := #[.int .i64 op, .slice Bp p3.length dp, .slice Bq u3.length dq, .int .i64 v3.f0, .bool v3.f1, .bool v3.f2.f0, .slice B6 v3.f2.f1.length d6, .int .i64 0, .string (⟨#[]⟩ : ByteArray), .slice none 0 0, .slice none 0 0]) (cs' := #[.int .i64 op, .slice Bp p3.length dp, .slice Bq u3.length dq, .int .i64 v3.f0, .bool v3.f1, .bool v3.f2.f0, .slice B6 v3.f2.f1.length d6, .int .i64 v3.f2.f2, .string (⟨#[]⟩ : ByteArray), .slice none 0 0, .slice none 0 0]) (blk_put (cs := #[.int .i64 op, .slice Bp p3.length dp, .slice Bq u3.length dq, .int .i64 v3.f0, .bool v3.f1, .bool v3.f2.f0, .slice none 0 0, .int .i64 0, .string (⟨#[]⟩ : ByteArray), .slice none 0 0, .slice none 0 0]) (cs' := #[.int .i64 op, .slice Bp p3.length dp, .slice Bq u3.length dq, .int .i64 v3.f0, .bool v3.f1, .bool v3.f2.f0, .slice B6 v3.f2.f1.length d6, .int .i64 0, .string (⟨#[]⟩ : ByteArray), .slice none 0 0, .slice none 0 0]) (blk_put (cs := #[.int .i64 op, .slice Bp p3.length dp, .slice Bq u3.length dq, .int .i64 v3.f0, .bool v3.f1, .bool false, .slice none 0 0, .int .i64 0, .string (⟨#[]⟩ : ByteArray), .slice none 0 0, .slice none 0 0]) (cs' := #[.int .i64 op, .slice Bp p3.length dp, .slice Bq u3.length dq, .int .i64 v3.f0, .bool v3.f1, .bool v3.f2.f0, .slice none 0 0, .int .i64 0, .string (⟨#[]⟩ : ByteArray), .slice none 0 0, .slice none 0 0]) (blk_put (cs := #[.int .i64 op, .slice Bp p3.length dp, .slice Bq u3.length dq, .int .i64 v3.f0, .bool false, .bool false, .slice none 0 0, .int .i64 0, .string (⟨#[]⟩ : ByteArray), .slice none 0 0, .slice none 0 0]) (cs' := #[.int .i64 op, .slice Bp p3.length dp, .slice Bq u3.length dq, .int .i64 v3.f0, .bool v3.f1, .bool false, .slice none 0 0, .int .i64 0, .string (⟨#[]⟩ : ByteArray), .slice none 0 0, .slice none 0 0]) (blk_put (cs := #[.int .i64 op, .slice Bp p3.length dp, .slice Bq u3.length dq, .int .i64 0, .bool false, .bool false, .slice none 0 0, .int .i64 0, .string (⟨#[]⟩ : ByteArray), .slice none 0 0, .slice none 0 0]) (cs' := #[.int .i64 op, .slice Bp p3.length dp, .slice Bq u3.length dq, .int .i64 v3.f0, .bool false, .bool false, .slice none 0 0, .int .i64 0, .string (⟨#[]⟩ : ByteArray), .slice none 0 0, .slice none 0 0]) (blk_put (cs := #[.int .i64 op, .slice Bp p3.length dp, .slice none 0 0, .int .i64 0, .bool false, .bool false, .slice none 0 0, .int .i64 0, .string (⟨#[]⟩ : ByteArray), .slice none 0 0, .slice none 0 0]) (cs' := #[.int .i64 op, .slice Bp p3.length dp, .slice Bq u3.length dq, .int .i64 0, .bool false, .bool false, .slice none 0 0, .int .i64 0, .string (⟨#[]⟩ : ByteArray), .slice none 0 0, .slice none 0 0]) (blk_put (cs := #[.int .i64 op, .slice none 0 0, .slice none 0 0, .int .i64 0, .bool false, .bool false, .slice none 0 0, .int .i64 0, .string (⟨#[]⟩ : ByteArray), .slice none 0 0, .slice none 0 0]) (cs' := #[.int .i64 op, .slice Bp p3.length dp, .slice none 0 0, .int .i64 0, .bool false, .bool false, .slice none 0 0, .int .i64 0, .string (⟨#[]⟩ : ByteArray), .slice none 0 0, .slice none 0 0]) (blk_put (cs := #[.int .i64 0, .slice none 0 0, .slice none 0 0, .int .i64 0, .bool false, .bool false, .slice none 0 0, .int .i64 0, .string (⟨#[]⟩ : ByteArray), .slice none 0 0, .slice none 0 0]) (cs' := #[.int .i64 op, .slice none 0 0, .slice none 0 0, .int .i64 0, .bool false, .bool false, .slice none 0 0, .int .i64 0, .string (⟨#[]⟩ : ByteArray), .slice none 0 0, .slice none 0 0]) HRu.out 0 _ rfl) 1 _ rfl) 2 _ rfl) 3 _ rfl) 4 _ rfl) 5 _ rfl) 6 _ rfl) 7 _ rfl) 8 _ rfl) 9 _ rfl) 10 _ rfl))
          have HBn := Aside0.mk (show Below w.heap.size w (World.setCell (World.setCell (World.setCell (World.setCell (World.setCell (World.setCell (World.setCell (World.setCell (World.setCell (World.setCell (World.setCell w10 ⟨w1.heap.size, 0, none⟩ (.int .i64 op)) ⟨w1.heap.size, 1, none⟩ (.slice Bp p3.length dp)) ⟨w1.heap.size, 2, none⟩ (.slice Bq u3.length dq)) ⟨w1.heap.size, 3, none⟩ (.int .i64 v3.f0)) ⟨w1.heap.size, 4, none⟩ (.bool v3.f1)) ⟨w1.heap.size, 5, none⟩ (.bool v3.f2.f0)) ⟨w1.heap.size, 6, none⟩ (.slice B6 v3.f2.f1.length d6)) ⟨w1.heap.size, 7, none⟩ (.int .i64 v3.f2.f2)) ⟨w1.heap.size, 8, none⟩ (.string v3.f3)) ⟨w1.heap.size, 9, none⟩ (.slice B9 v3.f4.length d9)) ⟨w1.heap.size, 10, none⟩ (.slice B10 v3.f5.length d10)) from (below_set (below_set (below_set (below_set (below_set (below_set (below_set (below_set (below_set (below_set (below_set (below_step HB3.out HBu.out) hrc) hrc) hrc) hrc) hrc) hrc) hrc) hrc) hrc) hrc) hrc))
          have hfar : ∀ k_, k_ ≠ w1.heap.size → ((World.setCell (World.setCell (World.setCell (World.setCell (World.setCell (World.setCell (World.setCell (World.setCell (World.setCell (World.setCell (World.setCell w10 ⟨w1.heap.size, 0, none⟩ (.int .i64 op)) ⟨w1.heap.size, 1, none⟩ (.slice Bp p3.length dp)) ⟨w1.heap.size, 2, none⟩ (.slice Bq u3.length dq)) ⟨w1.heap.size, 3, none⟩ (.int .i64 v3.f0)) ⟨w1.heap.size, 4, none⟩ (.bool v3.f1)) ⟨w1.heap.size, 5, none⟩ (.bool v3.f2.f0)) ⟨w1.heap.size, 6, none⟩ (.slice B6 v3.f2.f1.length d6)) ⟨w1.heap.size, 7, none⟩ (.int .i64 v3.f2.f2)) ⟨w1.heap.size, 8, none⟩ (.string v3.f3)) ⟨w1.heap.size, 9, none⟩ (.slice B9 v3.f4.length d9)) ⟨w1.heap.size, 10, none⟩ (.slice B10 v3.f5.length d10))).heap[k_]? = w10.heap[k_]? := fun k_ hk => (Below.heap_setCell _ ⟨w1.heap.size, 10, none⟩ _ k_ hk).trans ((Below.heap_setCell _ ⟨w1.heap.size, 9, none⟩ _ k_ hk).trans ((Below.heap_setCell _ ⟨w1.heap.size, 8, none⟩ _ k_ hk).trans ((Below.heap_setCell _ ⟨w1.heap.size, 7, none⟩ _ k_ hk).trans ((Below.heap_setCell _ ⟨w1.heap.size, 6, none⟩ _ k_ hk).trans ((Below.heap_setCell _ ⟨w1.heap.size, 5, none⟩ _ k_ hk).trans ((Below.heap_setCell _ ⟨w1.heap.size, 4, none⟩ _ k_ hk).trans ((Below.heap_setCell _ ⟨w1.heap.size, 3, none⟩ _ k_ hk).trans ((Below.heap_setCell _ ⟨w1.heap.size, 2, none⟩ _ k_ hk).trans ((Below.heap_setCell _ ⟨w1.heap.size, 1, none⟩ _ k_ hk).trans ((Below.heap_setCell _ ⟨w1.heap.size, 0, none⟩ _ k_ hk).trans (rfl)))))))))))
          have okm : ∀ k_, (fun k_ => PP k_ ∧ k_ < w.heap.size ∨ w.heap.size ≤ k_ ∧ k_ ≠ g ∧ k_ ≠ w1.heap.size) k_ → PP k_ ∨ w.heap.size ≤ k_ := fun k_ hk => hk.elim (fun h_ => .inl h_.1) (fun h_ => .inr h_.1)
          have HQ := Aside0.mk (show Kd.FK k39 (World.setCell (World.setCell (World.setCell (World.setCell (World.setCell (World.setCell (World.setCell (World.setCell (World.setCell (World.setCell (World.setCell w10 ⟨w1.heap.size, 0, none⟩ (.int .i64 op)) ⟨w1.heap.size, 1, none⟩ (.slice Bp p3.length dp)) ⟨w1.heap.size, 2, none⟩ (.slice Bq u3.length dq)) ⟨w1.heap.size, 3, none⟩ (.int .i64 v3.f0)) ⟨w1.heap.size, 4, none⟩ (.bool v3.f1)) ⟨w1.heap.size, 5, none⟩ (.bool v3.f2.f0)) ⟨w1.heap.size, 6, none⟩ (.slice B6 v3.f2.f1.length d6)) ⟨w1.heap.size, 7, none⟩ (.int .i64 v3.f2.f2)) ⟨w1.heap.size, 8, none⟩ (.string v3.f3)) ⟨w1.heap.size, 9, none⟩ (.slice B9 v3.f4.length d9)) ⟨w1.heap.size, 10, none⟩ (.slice B10 v3.f5.length d10)) (fun k_ => PP k_ ∨ w.heap.size ≤ k_) ⟨op, p3, u3, v3⟩ [.int .i64 op, .slice Bp p3.length dp, .slice Bq u3.length dq, .int .i64 v3.f0, .bool v3.f1, .bool v3.f2.f0, .slice B6 v3.f2.f1.length d6, .int .i64 v3.f2.f2, .string v3.f3, .slice B9 v3.f4.length d9, .slice B10 v3.f5.length d10] from k39_mkF _ _ ⟨op, p3, u3, v3⟩ HFl.out (Kd.F_mono (Kd.F_step HF1.out (fun k_ hk _ => hfar k_ (by rcases hk with hk | hk <;> omega))) okm) HFl2.out (Kd.F_mono (Kd.F_step HF2.out (fun k_ hk _ => hfar k_ (by rcases hk with hk | hk <;> omega))) okm) HGa.out.1 (Kd.F_mono (Kd.F_step HFa.out (fun k_ hk _ => hfar k_ (by rcases hk with hk | hk <;> omega))) okm) HGa.out.2.1 (Kd.F_mono (Kd.F_step HFb.out (fun k_ hk _ => hfar k_ (by rcases hk with hk | hk <;> omega))) okm) HGa.out.2.2 (Kd.F_mono (Kd.F_step HFc.out (fun k_ hk _ => hfar k_ (by rcases hk with hk | hk <;> omega))) okm))
          clear hfar HF1 HFa HFb HFc HGu HRu HBu HXu HBw HF2
          generalize (World.setCell (World.setCell (World.setCell (World.setCell (World.setCell (World.setCell (World.setCell (World.setCell (World.setCell (World.setCell (World.setCell w10 ⟨w1.heap.size, 0, none⟩ (.int .i64 op)) ⟨w1.heap.size, 1, none⟩ (.slice Bp p3.length dp)) ⟨w1.heap.size, 2, none⟩ (.slice Bq u3.length dq)) ⟨w1.heap.size, 3, none⟩ (.int .i64 v3.f0)) ⟨w1.heap.size, 4, none⟩ (.bool v3.f1)) ⟨w1.heap.size, 5, none⟩ (.bool v3.f2.f0)) ⟨w1.heap.size, 6, none⟩ (.slice B6 v3.f2.f1.length d6)) ⟨w1.heap.size, 7, none⟩ (.int .i64 v3.f2.f2)) ⟨w1.heap.size, 8, none⟩ (.string v3.f3)) ⟨w1.heap.size, 9, none⟩ (.slice B9 v3.f4.length d9)) ⟨w1.heap.size, 10, none⟩ (.slice B10 v3.f5.length d10)) = wz at HRn HBn HQ ⊢
          try go_wp2_with fail
          refine bodyPost_ret (results_cell_row rfl _ _ w1.heap.size 39 #[.int .i64 op, .slice Bp p3.length dp, .slice Bq u3.length dq, .int .i64 v3.f0, .bool v3.f1, .bool v3.f2.f0, .slice B6 v3.f2.f1.length d6, .int .i64 v3.f2.f2, .string v3.f3, .slice B9 v3.f4.length d9, .slice B10 v3.f5.length d10] (0, 0) _ rfl HRn.out Tryd.underlying39 rfl (by kernel_rfl)) rfl ?_
          exact ThrPost.ok ⟨_, _, _, _, _, _, _, _, _, _, rfl, HQ.out, HBn.out⟩
end Go.Proofs.YtondpnipoogoiaaDoor.X
/- nat.Norm comes to the list without its noughts at the top. -/
namespace Go.Proofs.YtondpnipoogoiaaDoor.X
open Go.RowKit Go.Proofs.YtondpnipoogoiaaDoorW.PrintWords Go.Proofs.YtondpnipoogoiaaDoorW.PrintLast Go.Proofs.YtondpnipoogoiaaDoorW.PrintMore
set_option linter.unusedVariables false
set_option linter.unusedSimpArgs false
/-- A list without its noughts at the end. -/
def norm (l : List Int) : List Int := (l.reverse.dropWhile (· == 0)).reverse
theorem norm_snoc (l : List Int) (x : Int) : norm (l ++ [x]) = if x = 0 then norm l else l ++ [x] := by
  unfold norm
  by_cases h : x = 0 <;> simp [h]
theorem take_snoc' (l : List Int) (m : Nat) (h : m < l.length) : l.take (m + 1) = l.take m ++ [rd l m] := by
  rw [List.take_succ_eq_append_getElem h]
  simp [rd, h]
theorem norm_take (l : List Int) (m : Nat) (h : m < l.length) : norm (l.take (m + 1)) = if rd l m = 0 then norm (l.take m) else l.take (m + 1) := by
  rw [take_snoc' l m h, norm_snoc]
theorem R_of_cells {w' : World} {k : IntKind} {e g base : Nat} {xs : List Int} (hg : w'.heap[g]? = some (.cells (nums k xs).toArray e (0, 0))) (hb : base ≤ g) (hl : xs.length ≤ maxLen) :
    Kd.R (Kd.int k) e w' base (fun _ => True) (.slice (some ⟨g, 0, none⟩) xs.length xs.length) xs :=
  Kd.R_of_own (enc := Value.int k) ⟨by simp [encs], .inr ⟨g, xs.length, _, rfl, hb, hg, Nat.le_refl _, hl, by simp [nums], by simp [nums, encs]; exact List.take_of_length_le (by simp)⟩⟩ (fun _ _ => trivial)
/-- A list of Go's own, read in memory, is written into a row that was just made. -/
theorem copy_made {P : Program} {ops : Array Oper} {rest : List Oper} {o : Oper} {a : Act} {Q : Exit → Act → World → Prop} {w W : World} (k : IntKind) (T e : TypeId) (hgd : o.guard = none) (d s : Operand)
    (ho : o.op = .call { callee := .builtin .copy, args := #[d, s], argTypes := #[T, T] }) (hu : P.underlying T = some (.slice e)) (hsz : (P.info? e).map (·.size) = some 1)
    (A : Option Addr) (n c m : Nat) (xs : List Int) (hd : a.eval d = .slice (some ⟨W.heap.size, 0, none⟩) m m) (hs : a.eval s = .slice A n c) (hr : Kd.C (Kd.int k) W A n xs) (hmn : m ≤ n) (hm : m ≤ maxLen) (hB : Below w.heap.size w W)
    (h : ∀ v w', v = .slice (some ⟨W.heap.size, 0, none⟩) m m → Kd.R (Kd.int k) e w' w.heap.size (fun _ => True) v (xs.take m) → Below w.heap.size w w' → wpList P ops Q rest (a.put o.dst (goInt m)) w') :
    wpList P ops Q (o :: rest) a (W.alloc (.cells (madeCells #[.int k 0] m) e)) := by
  have hlen : xs.length = n := hr.1
  have hg : (W.alloc (.cells (madeCells #[.int k 0] m) e)).heap[W.heap.size]? = some (.cells ((madeCells #[Value.int k 0] m).toList).toArray e (0, 0)) := by simpa using heap_alloc_new W _
  refine wpList_copy_splice hgd d s T T ho e hu hsz _ _ _ _ _ _ hd hs W.heap.size 0 _ e hg (nums k (xs.take m)) ?_ ?_ ?_ ?_ w.heap.size w (below_alloc hB _) hB.size ?_
  · simp [nums, hlen, Nat.min_eq_left hmn, Nat.min_eq_right hmn]
  · intro hp
    refine ⟨rfl, ?_⟩
    have hn : 0 < n := by
      simp [nums, hlen] at hp
      omega
    obtain ⟨ad, e, hx⟩ := Kd.at_int hr 0 (by omega) (by omega)
    refine ⟨ad, e, fun j v hv => ?_⟩
    have hj : j < m := by
      have := (List.getElem?_eq_some_iff.1 hv).1
      simp [nums, hlen] at this
      omega
    obtain ⟨ad', e', hx'⟩ := Kd.at_int hr j (by omega) (by omega)
    rw [e] at e'
    injection e' with e'
    subst e'
    rw [Int.toNat_natCast] at hx'
    rw [World.cell?_alloc_lt _ _ _ (World.block_lt_of_cell? _ _ hx'), hx']
    simp only [nums, List.getElem?_map, List.getElem?_take, if_pos hj, rd, Int.toNat_natCast] at hv ⊢
    rw [List.getElem?_eq_getElem (by omega)] at hv
    simp at hv
    rw [← hv, List.getD_eq_getElem?_getD, List.getElem?_eq_getElem (by omega)]
    rfl
  · simp [nums, madeCells, hlen]
    omega
  · intro v hv
    simp only [nums, List.mem_map] at hv
    obtain ⟨_, _, rfl⟩ := hv
    rfl
  · intro w' hid hb
    have hl2 : (xs.take m).length = m := by simp [hlen]; omega
    have hsp : splice (madeCells #[Value.int k 0] m).toList 0 (nums k (xs.take m)) = nums k (xs.take m) := by
      simp [splice, nums, madeCells, hl2]
      omega
    have hc : (nums k (xs.take m)).length = m := by simp [nums, hlen]; omega
    rw [hc]
    have hid' : w'.heap[W.heap.size]? = some (.cells (nums k (xs.take m)).toArray e (0, 0)) := by
      have := hid
      unfold Hid at this
      rw [hsp] at this
      exact this
    have hR := R_of_cells (base := w.heap.size) hid' hB.size (by omega)
    rw [hl2] at hR
    exact h _ w' rfl hR hb
def nat_Norm.f (l0 : List Int) : Option (List Int) := if l0.length < 35184372088832 then some (norm l0) else none
set_option maxHeartbeats 8000000 in
set_option maxRecDepth 100000 in
theorem nat_Norm.calls (A0 : Option Addr) (c0 : Nat) (l0 : List Int) (r : List Int) (w : World) (hr0 : Kd.C (Kd.int .u32) w A0 l0.length l0) (hc0 : l0.length ≤ c0) (h : nat_Norm.f l0 = some r) :
    Calls Tryd.prog 63 #[.slice A0 l0.length c0] w fun e w' => ∃ v0_ : Value, e = .returned (v0_) ∧ Kd.R (Kd.int .u32) 83 w' w.heap.size (fun _ => True) v0_ r ∧ Below w.heap.size w w' := by
  unfold nat_Norm.f at h
  by_cases hl : l0.length < 35184372088832
  case neg => rw [if_neg hl] at h; exact absurd h (by simp)
  rw [if_pos hl] at h
  obtain rfl := Option.some.inj h
  clear h
  have HR := Aside0.mk hr0
  clear hr0
  go_enter Tryd.func63, Tryd.ntmps63
  go_wp2
  go_loop [3] (fun n => ∃ m : Nat, m ≤ l0.length ∧ n = .int .i64 m ∧ Aside0 (norm (l0.take m) = norm l0)) (fun n => (intOf n).toNat)
  case atStart => exact ⟨l0.length, Nat.le_refl _, rfl, ⟨by rw [List.take_length]⟩⟩
  case round =>
    obtain ⟨m, hm, rfl, HN⟩ := hrel
    rcases m with _ | m
    · go_wp2
      go_ret
      refine ⟨_, rfl, ?_, Below.refl _ _⟩
      have := HN.out
      simp [norm] at this
      rw [← show [] = norm l0 from by simpa [norm] using this]
      exact Kd.R_nil _ _ _ _ _
    · have hlt : m < l0.length := by omega
      obtain ⟨ad, e, hx⟩ := Kd.at_int HR.out (m : Int) (by omega) (by omega)
      cases e
      rw [Int.toNat_natCast] at hx
      have hnt := norm_take l0 m hlt
      by_cases hz : rd l0 m = 0
      · rw [hz] at hx
        have HN' := Aside0.mk ((HN.out.symm.trans hnt).trans (if_pos hz))
        clear hnt hz HN
        go_wp2
        go_round
        case rel => exact ⟨m, by omega, by go_num, ⟨HN'.out.symm⟩⟩
        case measure => simp [intOf]
      · have hb : (rd l0 m == 0) = false := by simpa using hz
        have HN' := Aside0.mk ((HN.out.symm.trans hnt).trans (if_neg hz))
        have hmk := print_make (P := Tryd.prog) 23 83 .u32 4 Tryd.underlying23 (by kernel_rfl) (by decide) (m + 1) (by omega)
        simp only [Int.natCast_add, Int.cast_ofNat_Int] at hmk
        clear hnt hz HN
        go_wp2_with (refine copy_made .u32 23 83 rfl (.tmp 23) (.tmp 24) rfl Tryd.underlying23 (by kernel_rfl) _ _ _ (m + 1) l0 rfl rfl HR.out (by omega) (by unfold maxLen; omega) (Below.refl _ _) ?_; intro v w' hv hR hb; have HV := Aside0.mk hv; have HR2 := Aside0.mk hR; have HB2 := Aside0.mk hb; clear hv hR hb; generalize (Value.slice (some ⟨w.heap.size, 0, none⟩) (m + 1) (m + 1)) = v2 at *; obtain rfl := HV.out)
        go_ret
        refine ⟨_, rfl, ?_, HB2.out⟩
        rw [HN'.out]
        exact HR2.out
end Go.Proofs.YtondpnipoogoiaaDoor.X
-- A walk, written by a program of this session (xp.py).
namespace Go.Proofs.YtondpnipoogoiaaDoor.X
open Go.RowKit Go.Proofs.YtondpnipoogoiaaDoorW.PrintWords Go.Proofs.YtondpnipoogoiaaDoorW.PrintLast Go.Proofs.YtondpnipoogoiaaDoorW.PrintMore
attribute [local go_sem] max2_int min2_int max_two min_two max_three min_three max_four min_four
set_option linter.unusedVariables false
set_option linter.unusedSimpArgs false

/-! ### nat_small: function 64 -/
def nat_small.l0 : Nat → List Int → Int → List Int → Int → Int → Option (List Int × Int)
  | 0, _, _, _, _, _ => none
  | k + 1, x0, x1, x6, x7, x8 => if x8 ≥ 0 then (if x8 < (x0.length : Int) then (if (IntKind.u64.wrap (x1)) = 0 then (none) else (if x8 < (x6.length : Int) then (nat_small.l0 k x0 x1 (x6.set (x8 : Int).toNat ((IntKind.u64.wrap (Int.tdiv (Go.bits .or .u64 (IntKind.u64.wrap (x7 * 4294967296)) (IntKind.u64.wrap (rd x0 x8))) (IntKind.u64.wrap (x1)))) % 4294967296)) (Int.tmod (Go.bits .or .u64 (IntKind.u64.wrap (x7 * 4294967296)) (IntKind.u64.wrap (rd x0 x8))) (IntKind.u64.wrap (x1))) (wrap64 (x8 - 1))) else (none))) else (none)) else ((nat_Norm.f x6).bind fun t106 => (some (t106, (x7) % 4294967296)))
def nat_small.f (k : Nat) (l0 : List Int) (a1 : Int) : Option (List Int × Int) := if 0 ≤ (l0.length : Int) then (if ((l0.length : Int) : Int).toNat ≤ 70368744177664 then (nat_small.l0 k l0 a1 (List.replicate ((l0.length : Int) : Int).toNat 0) 0 (wrap64 ((l0.length : Int) - 1))) else (none)) else (none)
set_option maxHeartbeats 8000000 in
set_option maxRecDepth 100000 in
theorem nat_small.calls (k : Nat) (A0 : Option Addr) (c0 : Nat) (l0 : List Int) (a1 : Int) (r1 : List Int) (r2 : Int) (w : World) (hr0 : Kd.C (Kd.int .u32) w A0 l0.length l0) (hc0 : l0.length ≤ c0) (h : nat_small.f k l0 a1 = some (r1, r2)) :
    Calls Tryd.prog 64 #[.slice A0 l0.length c0, .int .u32 a1] w fun e w' => ∃ v0_ : Value, e = .returned (.tuple #[v0_, .int .u32 r2]) ∧ Kd.R (Kd.int .u32) 83 w' w.heap.size (fun _ => True) v0_ r1 ∧ Below w.heap.size w w' := by
  have HR0 := Aside0.mk hr0
  have HC0 := Aside0.mk hc0
  clear hr0 hc0
  have HB := Aside0.mk (Below.refl w.heap.size w)
  have H : (if 0 ≤ (l0.length : Int) then (if ((l0.length : Int) : Int).toNat ≤ 70368744177664 then (nat_small.l0 k l0 a1 (List.replicate ((l0.length : Int) : Int).toNat 0) 0 (wrap64 ((l0.length : Int) - 1))) else (none)) else (none)) = some (r1, r2) := h
  clear h
  by_cases c3 : 0 ≤ (l0.length : Int)
  · rw [if_pos c3] at H
    have c3b0 := eq_true c3
    have c3b1 : decide (0 ≤ (l0.length : Int)) = true := decide_eq_true c3
    clear c3
    by_cases c4 : ((l0.length : Int) : Int).toNat ≤ 70368744177664
    · rw [if_pos c4] at H
      have c4b0 := eq_true c4
      have c4b1 : decide (((l0.length : Int) : Int).toNat ≤ 70368744177664) = true := decide_eq_true c4
      clear c4
      obtain ⟨y101, hy101⟩ : ∃ y_ : List Int, y_ = (List.replicate ((l0.length : Int) : Int).toNat 0) := ⟨_, rfl⟩
      replace H : (nat_small.l0 k l0 a1 y101 0 (wrap64 ((l0.length : Int) - 1))) = some (r1, r2) := by first | (rw [hy101]; with_reducible exact H) | (have H2_ := (Option.bind_some _ _).symm.trans H; rw [hy101]; with_reducible exact H2_) | (have H2_ := (Option.bind_some _ _).symm.trans H; with_reducible exact H2_) | with_reducible exact H | (rw [hy101]; exact H) | exact H
      have Ny101 := Aside0.mk hy101
      clear hy101
      have H' := Aside0.mk H
      clear H
      go_enter Tryd.func64, Tryd.ntmps64
      go_wp2_with (first | ((with_reducible refine gate_dst (N := 11) rfl ?_); refine Kd.R_make (Kd.int .u32) _ 83 rfl (N := 11) rfl 23 _ _ rfl (l0.length : Int) rfl rfl Tryd.underlying23 (.int .u32 0) 4 info83 rfl (by decide) (by omega) 0 (ok := fun _ => True) (okp := fun _ => True) rfl (fun _ hk => hk) trivial (of_decide_eq_true (by first | (with_reducible assumption) | assumption)) (Nat.le_trans (Nat.mul_le_mul_right _ (of_decide_eq_true (by first | (with_reducible assumption) | assumption) : (l0.length : Int).toNat ≤ 70368744177664)) (by omega)) (Below.refl _ _) (Nat.le_refl _) ?_; intro v102 w5 ho6 hb hg_ hnew_; clear hg_ hnew_; (first | rw [← Ny101.out] at ho6 | (simp only [Int.reduceToNat] at ho6; rw [← Ny101.out] at ho6)); have n0_ := Aside0.mk (Kd.R_lower ho6 (below_size (by repeat (first | (with_reducible first | exact HB.out | apply below_alloc | apply pw_below_drewN | apply below_drew1) | exact HB.out)))); have n1_ := Aside0.mk (below_step (by repeat (first | (with_reducible first | exact HB.out | apply below_alloc | apply pw_below_drewN | apply below_drew1) | exact HB.out)) hb); clear HB; have HO103 := n0_; have HB := n1_; clear n0_ n1_; clear hb ho6))
      go_loopg [7, 8] k (fun kq v7 v8 w' => ∃ (x6_1 : List Int) (x7_1 : Int) (x8_1 : Int), v7 = .int .u64 x7_1 ∧ v8 = .int .i64 x8_1 ∧ Aside0 (nat_small.l0 kq l0 a1 x6_1 x7_1 x8_1 = some (r1, r2)) ∧ Aside0 (kq ≤ k) ∧ Aside0 (Kd.R (Kd.int .u32) 83 w' w.heap.size (fun _ => True) v102 x6_1) ∧ Aside0 (Below w.heap.size w w'))
      case atStart => exact ⟨(y101), (0), (wrap64 ((l0.length : Int) - 1)), (by first | rfl | (simp; done) | (simp [*]; done)), (by first | rfl | (simp; done) | (simp [*]; done)), H', ⟨Nat.le_refl _⟩, ⟨by (with_reducible repeat (first | apply Kd.R_alloc | apply Kd.R_drewN | apply Kd.R_drew)); exact HO103.out⟩, ⟨by repeat (first | (with_reducible first | exact HB.out | apply below_alloc | apply pw_below_drewN | apply below_drew1) | exact HB.out)⟩⟩
      case round =>
        clear H'
        try clear p2
        try clear c3
        try clear c3b0
        try clear c3b1
        try clear c4
        try clear c4b0
        try clear c4b1
        try clear c6
        try clear p6
        obtain ⟨x6_1, x7_1, x8_1, rfl, rfl, HA, HK1, HO_6, HB⟩ := hrel
        cases gk with
        | zero => exact absurd HA.out (by simp [nat_small.l0])
        | succ k1 =>
          have H := HA.out
          clear HA
          simp only [nat_small.l0] at H
          by_cases c7 : x8_1 ≥ 0
          · rw [if_pos c7] at H
            have c7b0 : decide (0 ≤ x8_1) = true := decide_eq_true c7
            clear c7
            by_cases c8 : x8_1 < (l0.length : Int)
            · rw [if_pos c8] at H
              have c8b0 : decide (x8_1 < (l0.length : Int)) = true := decide_eq_true c8
              clear c8
              by_cases c9 : (IntKind.u64.wrap (a1)) = 0
              · rw [if_pos c9] at H
                exact absurd H (by simp)
              · rw [if_neg c9] at H
                have c9b0 : ((IntKind.u64.wrap (a1)) == 0) = false := beq_eq_false_iff_ne.mpr c9
                have c9b1 : ((IntKind.u64.wrap (a1)) != 0) = true := bne_iff_ne.mpr c9
                by_cases c10 : x8_1 < (x6_1.length : Int)
                · rw [if_pos c10] at H
                  have c10b0 : decide (x8_1 < (x6_1.length : Int)) = true := decide_eq_true c10
                  clear c10
                  obtain ⟨y105, hy105⟩ : ∃ y_ : List Int, y_ = (x6_1.set (x8_1 : Int).toNat ((IntKind.u64.wrap (Int.tdiv (Go.bits .or .u64 (IntKind.u64.wrap (x7_1 * 4294967296)) (IntKind.u64.wrap (rd l0 x8_1))) (IntKind.u64.wrap (a1)))) % 4294967296)) := ⟨_, rfl⟩
                  replace H : (nat_small.l0 k1 l0 a1 y105 (Int.tmod (Go.bits .or .u64 (IntKind.u64.wrap (x7_1 * 4294967296)) (IntKind.u64.wrap (rd l0 x8_1))) (IntKind.u64.wrap (a1))) (wrap64 (x8_1 - 1))) = some (r1, r2) := by first | (rw [hy105]; with_reducible exact H) | (have H2_ := (Option.bind_some _ _).symm.trans H; rw [hy105]; with_reducible exact H2_) | (have H2_ := (Option.bind_some _ _).symm.trans H; with_reducible exact H2_) | with_reducible exact H | (rw [hy105]; exact H) | exact H
                  have Ny105 := Aside0.mk hy105
                  clear hy105
                  have H' := Aside0.mk H
                  clear H
                  have p104 : 0 ≤ (x8_1 : Int) := of_decide_eq_true (by first | (with_reducible assumption) | assumption)
                  have q104 : x8_1 < (l0.length : Int) := of_decide_eq_true (by first | (with_reducible assumption) | assumption)
                  obtain ⟨ad104, e104, hx104_0⟩ := Kd.at_int HR0.out x8_1 p104 q104
                  cases e104
                  replace hx104_0 := (HB.out.cell (World.block_lt_of_cell? w _ hx104_0)).trans hx104_0
                  replace p104 := eq_true p104
                  replace q104 := eq_true q104
                  have p11 : 0 ≤ (x8_1 : Int) := of_decide_eq_true (by first | (with_reducible assumption) | assumption)
                  have q11 : (x8_1 : Int) < ((x6_1.length : Int) : Int) := of_decide_eq_true (by first | (with_reducible assumption) | assumption)
                  obtain ⟨go11, co11, eo11, gb11, gl11, cl11, HG11⟩ := Kd.R_form HO_6.out (by omega)
                  (first | cases eo11 | (injection eo11 with ea_ en_ ec_; (first | subst ea_ | (injection ea_ with ea_; subst ea_)); subst ec_; clear en_))
                  have GB11 := Aside0.mk gb11
                  have GG11 := Aside0.mk HG11
                  clear gb11 gl11 HG11
                  obtain ⟨hx11_0, hf11_0⟩ := Kd.R_celln 0 HO_6.out (x8_1 : Int) p11 q11
                  replace p11 := eq_true p11
                  replace q11 := eq_true q11
                  have HP12 := Kd.R_putg HO_6.out (x8_1 : Int) ((IntKind.u64.wrap (Int.tdiv (Go.bits .or .u64 (IntKind.u64.wrap (x7_1 * 4294967296)) (IntKind.u64.wrap (rd l0 x8_1))) (IntKind.u64.wrap (a1)))) % 4294967296)
                  go_wp2_with (first | ((with_reducible refine gate_store (t := 83) (p := 34) rfl ?_); refine store_event (t := 83) (p := 34) (v := ?vo_w13) (w1 := (wr.setCell ⟨go11, (x8_1 : Int).toNat, none⟩ (.int .u32 ((IntKind.u64.wrap (Int.tdiv (Go.bits .or .u64 (IntKind.u64.wrap (x7_1 * 4294967296)) (IntKind.u64.wrap (rd l0 x8_1))) (IntKind.u64.wrap (a1)))) % 4294967296)))) ?hg ?ho ?hn ?hr ?_; (case ho => rfl); (case hg => rfl); (case hn => rfl); (case hr => first | (go_simp; done) | (go_simp; rfl) | (go_simp; simp only [x_u32u8, x_u8, x_u32, x_u64, x_mm]; first | done | rfl)); intro w13 hw; have hg : wr.grownBy w13 (some go11) := (by rw [hw]; exact HP12.2); have hp_ : Kd.R (Kd.int .u32) 83 w13 w.heap.size (fun _ => True) (.slice (some ⟨go11, 0, none⟩) x6_1.length co11) y105 := (by rw [hw, Ny105.out]; exact HP12.1); clear HP12; have n0_ := Aside0.mk (hp_); have n1_ := Aside0.mk ((by rw [hw]; exact below_set (HB.out) GB11.out : Below w.heap.size w w13)); clear HO_6; clear HB; have HO_6 := n0_; have HB := n1_; clear n0_ n1_; clear hg hw hp_))
                  go_roundg k1
                  case measure => have := HK1.out; omega
                  case rel => exact ⟨(y105), (Int.tmod (Go.bits .or .u64 (IntKind.u64.wrap (x7_1 * 4294967296)) (IntKind.u64.wrap (rd l0 x8_1))) (IntKind.u64.wrap (a1))), (wrap64 (x8_1 - 1)), (by first | rfl | (simp; done) | (simp [*]; done)), (by first | rfl | (simp; done) | (simp [*]; done)), H', ⟨by have := HK1.out; omega⟩, ⟨by (with_reducible repeat (first | apply Kd.R_alloc | apply Kd.R_drewN | apply Kd.R_drew)); exact HO_6.out⟩, ⟨by repeat (first | (with_reducible first | exact HB.out | apply below_alloc | apply pw_below_drewN | apply below_drew1) | exact HB.out)⟩⟩
                · rw [if_neg c10] at H
                  exact absurd H (by simp)
            · rw [if_neg c8] at H
              exact absurd H (by simp)
          · rw [if_neg c7] at H
            have c7b0 : decide (0 ≤ x8_1) = false := decide_eq_false c7
            clear c7
            replace H := Option.bind_eq_some_iff.mp H
            obtain ⟨t106, A140, H⟩ := H
            replace H : (some (t106, (x7_1) % 4294967296)) = some (r1, r2) := H
            have A14 := Aside0.mk A140
            clear A140
            simp only [Option.some.injEq, Prod.mk.injEq] at H
            obtain ⟨rfl, rfl⟩ := H
            obtain ⟨Ao15, co15, eo15⟩ := Kd.R_slice HO_6.out
            subst eo15
            go_wp2_with (first | ((with_reducible refine gate_callee (f := 63) rfl ?_); refine goesL_ (some 40) rfl rfl Tryd.func63 (by kernel_rfl) rfl #[.slice Ao15 x6_1.length co15] rfl (by (try simp only [List.map_toArray, List.map_cons, List.map_nil]); first | done | rfl | (simp only [List.length_drop, List.length_take]; rfl)) ?_; (with_reducible refine (nat_Norm.calls _ _ x6_1 t106 _ ?side1 ?side2 A14.out).mono ?_); (case side1 => repeat (first | exact (Kd.R_reads' HO_6.out).2.2 | (with_reducible refine Kd.C_alloc ?_ _) | (with_reducible refine Kd.C_drewN ?_ _) | (with_reducible refine Kd.C_drew ?_))); (case side2 => exact (Kd.R_reads' HO_6.out).2.1); rintro e w16 ⟨v107, rfl, ho0, hb⟩; refine ⟨_, rfl, ?_⟩; have n0_ := Aside0.mk (Kd.R_elder' (by (with_reducible repeat (first | apply Kd.R_alloc | apply Kd.R_drewN | apply Kd.R_drew)); exact HO_6.out) (Kd.R_base ho0) hb); have n1_ := Aside0.mk (Kd.R_lower (Kd.R_new' ho0 (Kd.R_lt (by (with_reducible repeat (first | apply Kd.R_alloc | apply Kd.R_drewN | apply Kd.R_drew)); exact HO_6.out))) (below_size (by repeat (first | (with_reducible first | exact HB.out | apply below_alloc | apply pw_below_drewN | apply below_drew1) | exact HB.out)))); have n2_ := Aside0.mk (below_step (by repeat (first | (with_reducible first | exact HB.out | apply below_alloc | apply pw_below_drewN | apply below_drew1) | exact HB.out)) hb); clear HO_6; clear HB; have HO_6 := n0_; have HO108 := n1_; have HB := n2_; clear n0_ n1_ n2_; (try clear hb); (try clear hb2); (try clear hk); (try clear hi); (try clear ho0)))
            go_ret2
            exact ⟨_, by first | rfl | (simp [errW_none, errW_some] <;> rfl) | (simp [*, errW_none, errW_some] <;> rfl), by (with_reducible repeat (first | apply Kd.R_alloc | apply Kd.R_drewN | apply Kd.R_drew)); exact Kd.R_mono HO108.out (fun _ hk => trivial), by repeat (first | (with_reducible first | exact HB.out | apply below_alloc | apply pw_below_drewN | apply below_drew1) | exact HB.out)⟩
    · rw [if_neg c4] at H
      exact absurd H (by simp)
  · rw [if_neg c3] at H
    exact absurd H (by simp)

end Go.Proofs.YtondpnipoogoiaaDoor.X
-- A walk, written by a program of this session (xp.py).
namespace Go.Proofs.YtondpnipoogoiaaDoor.X
open Go.RowKit Go.Proofs.YtondpnipoogoiaaDoorW.PrintWords Go.Proofs.YtondpnipoogoiaaDoorW.PrintLast Go.Proofs.YtondpnipoogoiaaDoorW.PrintMore
attribute [local go_sem] max2_int min2_int max_two min_two max_three min_three max_four min_four
set_option linter.unusedVariables false
set_option linter.unusedSimpArgs false

/-! ### nat_Trim: function 56 -/
def nat_Trim.l0 : Nat → List Int → Int → Option (List Int × Int)
  | 0, _, _ => none
  | k + 1, x0, x4 => if (x0.length : Int) > 0 then ((nat_small.f k x0 10).bind fun bt112 => (if bt112.2 = 0 then (nat_Trim.l0 k bt112.1 (wrap64 (x4 + 1))) else (some (x0, x4)))) else (some (x0, x4))
def nat_Trim.f (k : Nat) (l0 : List Int) : Option (List Int × Int) := (nat_Norm.f l0).bind fun t109 => (nat_Trim.l0 k t109 0)
set_option maxHeartbeats 8000000 in
set_option maxRecDepth 100000 in
theorem nat_Trim.calls (k : Nat) (A0 : Option Addr) (c0 : Nat) (l0 : List Int) (r1 : List Int) (r2 : Int) (w : World) (hr0 : Kd.C (Kd.int .u32) w A0 l0.length l0) (hc0 : l0.length ≤ c0) (h : nat_Trim.f k l0 = some (r1, r2)) :
    Calls Tryd.prog 56 #[.slice A0 l0.length c0] w fun e w' => ∃ v0_ : Value, e = .returned (.tuple #[v0_, .int .i64 r2]) ∧ Kd.R (Kd.int .u32) 83 w' w.heap.size (fun _ => True) v0_ r1 ∧ Below w.heap.size w w' := by
  have HR0 := Aside0.mk hr0
  have HC0 := Aside0.mk hc0
  clear hr0 hc0
  have HB := Aside0.mk (Below.refl w.heap.size w)
  have H : ((nat_Norm.f l0).bind fun t109 => (nat_Trim.l0 k t109 0)) = some (r1, r2) := h
  clear h
  replace H := Option.bind_eq_some_iff.mp H
  obtain ⟨t109, A20, H⟩ := H
  replace H : (nat_Trim.l0 k t109 0) = some (r1, r2) := H
  have A2 := Aside0.mk A20
  clear A20
  have H' := Aside0.mk H
  clear H
  go_enter Tryd.func56, Tryd.ntmps56
  go_wp2
  refine wp_scope_straight ?_
  go_wp2_with (first | ((with_reducible refine gate_callee (f := 63) rfl ?_); refine goesL_ (some 8) rfl rfl Tryd.func63 (by kernel_rfl) rfl #[.slice A0 l0.length c0] rfl (by (try simp only [List.map_toArray, List.map_cons, List.map_nil]); first | done | rfl | (simp only [List.length_drop, List.length_take]; rfl)) ?_; (with_reducible refine (nat_Norm.calls _ _ l0 t109 _ ?side1 ?side2 A2.out).mono ?_); (case side1 => repeat (first | exact HR0.out | (with_reducible refine Kd.C_alloc ?_ _) | (with_reducible refine Kd.C_drewN ?_ _) | (with_reducible refine Kd.C_drew ?_))); (case side2 => exact HC0.out); rintro e w3 ⟨v110, rfl, ho0, hb⟩; refine ⟨_, rfl, ?_⟩; have n0_ := Aside0.mk (Kd.R_lower ho0 (below_size (by repeat (first | (with_reducible first | exact HB.out | apply below_alloc | apply pw_below_drewN | apply below_drew1) | exact HB.out)))); have n1_ := Aside0.mk (below_step (by repeat (first | (with_reducible first | exact HB.out | apply below_alloc | apply pw_below_drewN | apply below_drew1) | exact HB.out)) hb); clear HB; have HO111 := n0_; have HB := n1_; clear n0_ n1_; (try clear hb); (try clear hb2); (try clear hk); (try clear hi); (try clear ho0)))
  refine wp_label ?_
  go_wp2
  go_loopg [0, 4] k (fun kq v0 v4 w' => ∃ (x0_1 : List Int) (x4_1 : Int), v4 = .int .i64 x4_1 ∧ Aside0 (nat_Trim.l0 kq x0_1 x4_1 = some (r1, r2)) ∧ Aside0 (kq ≤ k) ∧ Aside0 (Kd.R (Kd.int .u32) 83 w' w.heap.size (fun _ => True) v0 x0_1) ∧ Aside0 (Below w.heap.size w w'))
  case atStart => exact ⟨(t109), (0), (by first | rfl | (simp; done) | (simp [*]; done)), H', ⟨Nat.le_refl _⟩, ⟨by (with_reducible repeat (first | apply Kd.R_alloc | apply Kd.R_drewN | apply Kd.R_drew)); exact HO111.out⟩, ⟨by repeat (first | (with_reducible first | exact HB.out | apply below_alloc | apply pw_below_drewN | apply below_drew1) | exact HB.out)⟩⟩
  case round =>
    clear H'
    try clear p2
    obtain ⟨x0_1, x4_1, rfl, HA, HK1, HO_0, HB⟩ := hrel
    cases gk with
    | zero => exact absurd HA.out (by simp [nat_Trim.l0])
    | succ k1 =>
      have H := HA.out
      clear HA
      simp only [nat_Trim.l0] at H
      by_cases c4 : (x0_1.length : Int) > 0
      · rw [if_pos c4] at H
        have c4b0 : decide (0 < (x0_1.length : Int)) = true := decide_eq_true c4
        have c4b1 : decide (0 < x0_1.length) = true := decide_eq_true (by omega)
        clear c4
        replace H := Option.bind_eq_some_iff.mp H
        obtain ⟨⟨t112, t113⟩, A50, H⟩ := H
        replace H : (if t113 = 0 then (nat_Trim.l0 k1 t112 (wrap64 (x4_1 + 1))) else (some (x0_1, x4_1))) = some (r1, r2) := H
        have A5 := Aside0.mk A50
        clear A50
        by_cases c6 : t113 = 0
        · rw [if_pos c6] at H
          have c6b0 : (t113 == 0) = true := beq_iff_eq.mpr c6
          have c6b1 : (t113 != 0) = false := bne_eq_false_iff_eq.mpr c6
          clear c6
          have H' := Aside0.mk H
          clear H
          obtain ⟨Ao7, co7, eo7⟩ := Kd.R_slice HO_0.out
          subst eo7
          go_wp2_with (first | ((with_reducible refine gate_callee (f := 64) rfl ?_); refine goesL_ (some 14) rfl rfl Tryd.func64 (by kernel_rfl) rfl #[.slice Ao7 x0_1.length co7, .int .u32 10] rfl (by (try simp only [List.map_toArray, List.map_cons, List.map_nil]); first | done | rfl | (simp only [List.length_drop, List.length_take]; rfl)) ?_; (with_reducible refine (nat_small.calls k1 _ _ x0_1 10 t112 t113 _ ?side1 ?side2 A5.out).mono ?_); (case side1 => repeat (first | exact (Kd.R_reads' HO_0.out).2.2 | (with_reducible refine Kd.C_alloc ?_ _) | (with_reducible refine Kd.C_drewN ?_ _) | (with_reducible refine Kd.C_drew ?_))); (case side2 => exact (Kd.R_reads' HO_0.out).2.1); rintro e w8 ⟨v114, rfl, ho0, hb⟩; refine ⟨_, rfl, ?_⟩; have n0_ := Aside0.mk (Kd.R_elder' (by (with_reducible repeat (first | apply Kd.R_alloc | apply Kd.R_drewN | apply Kd.R_drew)); exact HO_0.out) (Kd.R_base ho0) hb); have n1_ := Aside0.mk (Kd.R_lower (Kd.R_new' ho0 (Kd.R_lt (by (with_reducible repeat (first | apply Kd.R_alloc | apply Kd.R_drewN | apply Kd.R_drew)); exact HO_0.out))) (below_size (by repeat (first | (with_reducible first | exact HB.out | apply below_alloc | apply pw_below_drewN | apply below_drew1) | exact HB.out)))); have n2_ := Aside0.mk (below_step (by repeat (first | (with_reducible first | exact HB.out | apply below_alloc | apply pw_below_drewN | apply below_drew1) | exact HB.out)) hb); clear HO_0; clear HB; have HO_0 := n0_; have HO115 := n1_; have HB := n2_; clear n0_ n1_ n2_; (try clear hb); (try clear hb2); (try clear hk); (try clear hi); (try clear ho0)))
          go_roundg k1
          case measure => have := HK1.out; omega
          case rel => exact ⟨(t112), (wrap64 (x4_1 + 1)), (by first | rfl | (simp; done) | (simp [*]; done)), H', ⟨by have := HK1.out; omega⟩, ⟨by (with_reducible repeat (first | apply Kd.R_alloc | apply Kd.R_drewN | apply Kd.R_drew)); exact Kd.R_mono HO115.out (fun _ hk => trivial)⟩, ⟨by repeat (first | (with_reducible first | exact HB.out | apply below_alloc | apply pw_below_drewN | apply below_drew1) | exact HB.out)⟩⟩
        · rw [if_neg c6] at H
          have c6b0 : (t113 == 0) = false := beq_eq_false_iff_ne.mpr c6
          have c6b1 : (t113 != 0) = true := bne_iff_ne.mpr c6
          simp only [Option.some.injEq, Prod.mk.injEq] at H
          obtain ⟨rfl, rfl⟩ := H
          obtain ⟨Ao9, co9, eo9⟩ := Kd.R_slice HO_0.out
          subst eo9
          go_wp2_with (first | ((with_reducible refine gate_callee (f := 64) rfl ?_); refine goesL_ (some 14) rfl rfl Tryd.func64 (by kernel_rfl) rfl #[.slice Ao9 x0_1.length co9, .int .u32 10] rfl (by (try simp only [List.map_toArray, List.map_cons, List.map_nil]); first | done | rfl | (simp only [List.length_drop, List.length_take]; rfl)) ?_; (with_reducible refine (nat_small.calls k1 _ _ x0_1 10 t112 t113 _ ?side1 ?side2 A5.out).mono ?_); (case side1 => repeat (first | exact (Kd.R_reads' HO_0.out).2.2 | (with_reducible refine Kd.C_alloc ?_ _) | (with_reducible refine Kd.C_drewN ?_ _) | (with_reducible refine Kd.C_drew ?_))); (case side2 => exact (Kd.R_reads' HO_0.out).2.1); rintro e w10 ⟨v114, rfl, ho0, hb⟩; refine ⟨_, rfl, ?_⟩; have n0_ := Aside0.mk (Kd.R_elder' (by (with_reducible repeat (first | apply Kd.R_alloc | apply Kd.R_drewN | apply Kd.R_drew)); exact HO_0.out) (Kd.R_base ho0) hb); have n1_ := Aside0.mk (Kd.R_lower (Kd.R_new' ho0 (Kd.R_lt (by (with_reducible repeat (first | apply Kd.R_alloc | apply Kd.R_drewN | apply Kd.R_drew)); exact HO_0.out))) (below_size (by repeat (first | (with_reducible first | exact HB.out | apply below_alloc | apply pw_below_drewN | apply below_drew1) | exact HB.out)))); have n2_ := Aside0.mk (below_step (by repeat (first | (with_reducible first | exact HB.out | apply below_alloc | apply pw_below_drewN | apply below_drew1) | exact HB.out)) hb); clear HO_0; clear HB; have HO_0 := n0_; have HO115 := n1_; have HB := n2_; clear n0_ n1_ n2_; (try clear hb); (try clear hb2); (try clear hk); (try clear hi); (try clear ho0)))
          try rw [Exit.noGoto_ret]
          go_ret2
          exact ⟨_, by first | rfl | (simp [errW_none, errW_some] <;> rfl) | (simp [*, errW_none, errW_some] <;> rfl), by (with_reducible repeat (first | apply Kd.R_alloc | apply Kd.R_drewN | apply Kd.R_drew)); exact Kd.R_mono HO_0.out (fun _ hk => trivial), by repeat (first | (with_reducible first | exact HB.out | apply below_alloc | apply pw_below_drewN | apply below_drew1) | exact HB.out)⟩
      · rw [if_neg c4] at H
        have c4b0 : decide (0 < (x0_1.length : Int)) = false := decide_eq_false c4
        have c4b1 : decide (0 < x0_1.length) = false := decide_eq_false (by omega)
        clear c4
        simp only [Option.some.injEq, Prod.mk.injEq] at H
        obtain ⟨rfl, rfl⟩ := H
        obtain ⟨Ao11, co11, eo11⟩ := Kd.R_slice HO_0.out
        subst eo11
        go_wp2
        try rw [Exit.noGoto_ret]
        go_ret2
        exact ⟨_, by first | rfl | (simp [errW_none, errW_some] <;> rfl) | (simp [*, errW_none, errW_some] <;> rfl), by (with_reducible repeat (first | apply Kd.R_alloc | apply Kd.R_drewN | apply Kd.R_drew)); exact HO_0.out, by repeat (first | (with_reducible first | exact HB.out | apply below_alloc | apply pw_below_drewN | apply below_drew1) | exact HB.out)⟩

end Go.Proofs.YtondpnipoogoiaaDoor.X
-- A walk, written by a program of this session (xp.py).
namespace Go.Proofs.YtondpnipoogoiaaDoor.X
open Go.RowKit Go.Proofs.YtondpnipoogoiaaDoorW.PrintWords Go.Proofs.YtondpnipoogoiaaDoorW.PrintLast Go.Proofs.YtondpnipoogoiaaDoorW.PrintMore
attribute [local go_sem] max2_int min2_int max_two min_two max_three min_three max_four min_four
set_option linter.unusedVariables false
set_option linter.unusedSimpArgs false

/-! ### num_Check: function 47 -/
def num_Check.f (k : Nat) (a0_0 : Bool) (l0_1 : List Int) (a0_2 : Int) : Option (Bool) := if (l0_1.length : Int) = 0 then (if a0_0 = true then (some false) else (some (a0_2 == 0))) else (if (l0_1.length : Int) > 90 then (some false) else (if 0 ≤ (wrap64 ((l0_1.length : Int) - 1)) then (if (wrap64 ((l0_1.length : Int) - 1)) < (l0_1.length : Int) then (if (rd l0_1 (wrap64 ((l0_1.length : Int) - 1))) = 0 then (some false) else (if a0_2 < (-1200) then (some false) else (if a0_2 > 1200 then (some false) else ((nat_Trim.f k l0_1).bind fun bt118 => (some (bt118.2 == 0)))))) else (none)) else (none)))
set_option maxHeartbeats 8000000 in
set_option maxRecDepth 100000 in
theorem num_Check.calls (k : Nat) (a0_0 : Bool) (A0_1 : Option Addr) (c0_1 : Nat) (l0_1 : List Int) (a0_2 : Int) (r : Bool) (w : World) (hr0_1 : Kd.C (Kd.int .u32) w A0_1 l0_1.length l0_1) (hc0_1 : l0_1.length ≤ c0_1) (h : num_Check.f k a0_0 l0_1 a0_2 = some r) :
    Calls Tryd.prog 47 #[.agg #[.bool a0_0, .slice A0_1 l0_1.length c0_1, .int .i64 a0_2]] w fun e w' => e = .returned (.bool r) ∧ Below w.heap.size w w' := by
  have hu25 := Tryd.underlying25
  have HR0_1 := Aside0.mk hr0_1
  have HC0_1 := Aside0.mk hc0_1
  clear hr0_1 hc0_1
  have HB := Aside0.mk (Below.refl w.heap.size w)
  have H : (if (l0_1.length : Int) = 0 then (if a0_0 = true then (some false) else (some (a0_2 == 0))) else (if (l0_1.length : Int) > 90 then (some false) else (if 0 ≤ (wrap64 ((l0_1.length : Int) - 1)) then (if (wrap64 ((l0_1.length : Int) - 1)) < (l0_1.length : Int) then (if (rd l0_1 (wrap64 ((l0_1.length : Int) - 1))) = 0 then (some false) else (if a0_2 < (-1200) then (some false) else (if a0_2 > 1200 then (some false) else ((nat_Trim.f k l0_1).bind fun bt118 => (some (bt118.2 == 0)))))) else (none)) else (none)))) = some r := h
  clear h
  by_cases c2 : (l0_1.length : Int) = 0
  · rw [if_pos c2] at H
    have c2b0 : ((l0_1.length : Int) == 0) = true := beq_iff_eq.mpr c2
    have c2b1 : ((l0_1.length : Int) != 0) = false := bne_eq_false_iff_eq.mpr c2
    clear c2
    by_cases c3 : a0_0 = true
    · subst c3
      have H1 : (some false) = some r := by rw [if_pos rfl] at H; exact H
      clear H
      have H := H1
      clear H1
      obtain rfl := Option.some.inj H
      go_enter Tryd.func47, Tryd.ntmps47
      go_wp2_with (first | ((with_reducible refine gate_dst (N := 1) rfl ?_); refine box_event ?hg (N := 1) ?hd (cs := #[.bool true, .slice A0_1 l0_1.length c0_1, .int .i64 a0_2]) (t := 25) ?hr ?_; (case hd => rfl); (case hg => rfl); (case hr => first | (go_simp; done) | (go_simp; rfl) | (go_simp; simp only [x_u32u8, x_u8, x_u32, x_u64, x_mm]; first | done | rfl)); intro gb116 hg w4 hbox hb; have n0_ := Aside0.mk (below_step (by repeat (first | (with_reducible first | exact HB.out | apply below_alloc | apply pw_below_drewN | apply below_drew1) | exact HB.out)) hb); have n1_ := Aside0.mk (hbox); have n2_ := Aside0.mk ((by rw [hg]; exact (below_size (by repeat (first | (with_reducible first | exact HB.out | apply below_alloc | apply pw_below_drewN | apply below_drew1) | exact HB.out))) : w.heap.size ≤ gb116)); have n3_ := Aside0.mk ((by rw [hg]; exact (below_size (by repeat (first | (with_reducible first | exact HB.out | apply below_alloc | apply pw_below_drewN | apply below_drew1) | exact HB.out))) : w.heap.size ≤ gb116)); clear HB; have HB := n0_; have BK116 := n1_; have GW116 := n2_; have GE116 := n3_; clear n0_ n1_ n2_ n3_; clear hb hbox hg; have hcz5_0 : w4.cell? ⟨gb116, 0, none⟩ = some (.bool true) := (blk_cell BK116.out 0).trans rfl; have hcz5_1 : w4.cell? ⟨gb116, 1, none⟩ = some (.slice A0_1 l0_1.length c0_1) := (blk_cell BK116.out 1).trans rfl; have hcz5_2 : w4.cell? ⟨gb116, 2, none⟩ = some (.int .i64 a0_2) := (blk_cell BK116.out 2).trans rfl; have hfz5_0 := blk_frozen BK116.out 0; have hfz5_1 := blk_frozen BK116.out 1; have hfz5_2 := blk_frozen BK116.out 2))
      go_ret
      exact ⟨by first | rfl | (simp [errW_none, errW_some] <;> rfl) | (simp [*, errW_none, errW_some] <;> rfl), by repeat (first | (with_reducible first | exact HB.out | apply below_alloc | apply pw_below_drewN | apply below_drew1 | refine below_set ?_ GE116.out) | exact HB.out)⟩
    · replace c3 := Bool.eq_false_iff.mpr c3
      subst c3
      have H1 : (some (a0_2 == 0)) = some r := by rw [if_neg (show ¬ (false = true) by decide)] at H; exact H
      clear H
      have H := H1
      clear H1
      obtain rfl := Option.some.inj H
      go_enter Tryd.func47, Tryd.ntmps47
      go_wp2_with (first | ((with_reducible refine gate_dst (N := 1) rfl ?_); refine box_event ?hg (N := 1) ?hd (cs := #[.bool false, .slice A0_1 l0_1.length c0_1, .int .i64 a0_2]) (t := 25) ?hr ?_; (case hd => rfl); (case hg => rfl); (case hr => first | (go_simp; done) | (go_simp; rfl) | (go_simp; simp only [x_u32u8, x_u8, x_u32, x_u64, x_mm]; first | done | rfl)); intro gb116 hg w6 hbox hb; have n0_ := Aside0.mk (below_step (by repeat (first | (with_reducible first | exact HB.out | apply below_alloc | apply pw_below_drewN | apply below_drew1) | exact HB.out)) hb); have n1_ := Aside0.mk (hbox); have n2_ := Aside0.mk ((by rw [hg]; exact (below_size (by repeat (first | (with_reducible first | exact HB.out | apply below_alloc | apply pw_below_drewN | apply below_drew1) | exact HB.out))) : w.heap.size ≤ gb116)); have n3_ := Aside0.mk ((by rw [hg]; exact (below_size (by repeat (first | (with_reducible first | exact HB.out | apply below_alloc | apply pw_below_drewN | apply below_drew1) | exact HB.out))) : w.heap.size ≤ gb116)); clear HB; have HB := n0_; have BK116 := n1_; have GW116 := n2_; have GE116 := n3_; clear n0_ n1_ n2_ n3_; clear hb hbox hg; have hcz7_0 : w6.cell? ⟨gb116, 0, none⟩ = some (.bool false) := (blk_cell BK116.out 0).trans rfl; have hcz7_1 : w6.cell? ⟨gb116, 1, none⟩ = some (.slice A0_1 l0_1.length c0_1) := (blk_cell BK116.out 1).trans rfl; have hcz7_2 : w6.cell? ⟨gb116, 2, none⟩ = some (.int .i64 a0_2) := (blk_cell BK116.out 2).trans rfl; have hfz7_0 := blk_frozen BK116.out 0; have hfz7_1 := blk_frozen BK116.out 1; have hfz7_2 := blk_frozen BK116.out 2))
      go_ret
      exact ⟨by first | rfl | (simp [errW_none, errW_some] <;> rfl) | (simp [*, errW_none, errW_some] <;> rfl), by repeat (first | (with_reducible first | exact HB.out | apply below_alloc | apply pw_below_drewN | apply below_drew1 | refine below_set ?_ GE116.out) | exact HB.out)⟩
  · rw [if_neg c2] at H
    have c2b0 : ((l0_1.length : Int) == 0) = false := beq_eq_false_iff_ne.mpr c2
    have c2b1 : ((l0_1.length : Int) != 0) = true := bne_iff_ne.mpr c2
    have c2b2 : ¬ (l0_1 = []) := fun h_ => c2 (by rw [h_]; rfl)
    by_cases c8 : (l0_1.length : Int) > 90
    · rw [if_pos c8] at H
      have c8b0 : decide (90 < (l0_1.length : Int)) = true := decide_eq_true c8
      have c8b1 : decide (90 < l0_1.length) = true := decide_eq_true (by omega)
      clear c8
      obtain rfl := Option.some.inj H
      go_enter Tryd.func47, Tryd.ntmps47
      go_wp2_with (first | ((with_reducible refine gate_dst (N := 1) rfl ?_); refine box_event ?hg (N := 1) ?hd (cs := #[.bool a0_0, .slice A0_1 l0_1.length c0_1, .int .i64 a0_2]) (t := 25) ?hr ?_; (case hd => rfl); (case hg => rfl); (case hr => first | (go_simp; done) | (go_simp; rfl) | (go_simp; simp only [x_u32u8, x_u8, x_u32, x_u64, x_mm]; first | done | rfl)); intro gb116 hg w9 hbox hb; have n0_ := Aside0.mk (below_step (by repeat (first | (with_reducible first | exact HB.out | apply below_alloc | apply pw_below_drewN | apply below_drew1) | exact HB.out)) hb); have n1_ := Aside0.mk (hbox); have n2_ := Aside0.mk ((by rw [hg]; exact (below_size (by repeat (first | (with_reducible first | exact HB.out | apply below_alloc | apply pw_below_drewN | apply below_drew1) | exact HB.out))) : w.heap.size ≤ gb116)); have n3_ := Aside0.mk ((by rw [hg]; exact (below_size (by repeat (first | (with_reducible first | exact HB.out | apply below_alloc | apply pw_below_drewN | apply below_drew1) | exact HB.out))) : w.heap.size ≤ gb116)); clear HB; have HB := n0_; have BK116 := n1_; have GW116 := n2_; have GE116 := n3_; clear n0_ n1_ n2_ n3_; clear hb hbox hg; have hcz10_0 : w9.cell? ⟨gb116, 0, none⟩ = some (.bool a0_0) := (blk_cell BK116.out 0).trans rfl; have hcz10_1 : w9.cell? ⟨gb116, 1, none⟩ = some (.slice A0_1 l0_1.length c0_1) := (blk_cell BK116.out 1).trans rfl; have hcz10_2 : w9.cell? ⟨gb116, 2, none⟩ = some (.int .i64 a0_2) := (blk_cell BK116.out 2).trans rfl; have hfz10_0 := blk_frozen BK116.out 0; have hfz10_1 := blk_frozen BK116.out 1; have hfz10_2 := blk_frozen BK116.out 2))
      go_ret
      exact ⟨by first | rfl | (simp [errW_none, errW_some] <;> rfl) | (simp [*, errW_none, errW_some] <;> rfl), by repeat (first | (with_reducible first | exact HB.out | apply below_alloc | apply pw_below_drewN | apply below_drew1 | refine below_set ?_ GE116.out) | exact HB.out)⟩
    · rw [if_neg c8] at H
      have c8b0 : decide (90 < (l0_1.length : Int)) = false := decide_eq_false c8
      have c8b1 : decide (90 < l0_1.length) = false := decide_eq_false (by omega)
      clear c8
      obtain ⟨ji11, hji11⟩ : ∃ j_ : Int, (wrap64 ((l0_1.length : Int) - 1)) = j_ := ⟨_, rfl⟩
      replace H : (if 0 ≤ (ji11) then (if (ji11) < (l0_1.length : Int) then (if (rd l0_1 (ji11)) = 0 then (some false) else (if a0_2 < (-1200) then (some false) else (if a0_2 > 1200 then (some false) else ((nat_Trim.f k l0_1).bind fun bt118 => (some (bt118.2 == 0)))))) else (none)) else (none)) = some r := by first | (rw [hji11] at H; exact H) | (simp only [hji11] at H ⊢; exact H)
      have hji11w : (IntKind.i64.wrap ((l0_1.length : Int) - 1)) = ji11 := (i64_w _).trans hji11
      by_cases c12 : 0 ≤ (ji11)
      · rw [if_pos c12] at H
        have c12b0 : decide (0 ≤ (ji11)) = true := decide_eq_true c12
        clear c12
        by_cases c13 : (ji11) < (l0_1.length : Int)
        · rw [if_pos c13] at H
          have c13b0 : decide ((ji11) < (l0_1.length : Int)) = true := decide_eq_true c13
          clear c13
          by_cases c14 : (rd l0_1 (ji11)) = 0
          · rw [if_pos c14] at H
            have c14b0 : ((rd l0_1 (ji11)) == 0) = true := beq_iff_eq.mpr c14
            have c14b1 : ((rd l0_1 (ji11)) != 0) = false := bne_eq_false_iff_eq.mpr c14
            clear c14
            obtain rfl := Option.some.inj H
            go_enter Tryd.func47, Tryd.ntmps47
            go_wp2_with (first | ((with_reducible refine gate_dst (N := 1) rfl ?_); refine box_event ?hg (N := 1) ?hd (cs := #[.bool a0_0, .slice A0_1 l0_1.length c0_1, .int .i64 a0_2]) (t := 25) ?hr ?_; (case hd => rfl); (case hg => rfl); (case hr => first | (go_simp; done) | (go_simp; rfl) | (go_simp; simp only [x_u32u8, x_u8, x_u32, x_u64, x_mm]; first | done | rfl)); intro gb116 hg w15 hbox hb; have n0_ := Aside0.mk (below_step (by repeat (first | (with_reducible first | exact HB.out | apply below_alloc | apply pw_below_drewN | apply below_drew1) | exact HB.out)) hb); have n1_ := Aside0.mk (hbox); have n2_ := Aside0.mk ((by rw [hg]; exact (below_size (by repeat (first | (with_reducible first | exact HB.out | apply below_alloc | apply pw_below_drewN | apply below_drew1) | exact HB.out))) : w.heap.size ≤ gb116)); have n3_ := Aside0.mk ((by rw [hg]; exact (below_size (by repeat (first | (with_reducible first | exact HB.out | apply below_alloc | apply pw_below_drewN | apply below_drew1) | exact HB.out))) : w.heap.size ≤ gb116)); clear HB; have HB := n0_; have BK116 := n1_; have GW116 := n2_; have GE116 := n3_; clear n0_ n1_ n2_ n3_; clear hb hbox hg; have hcz16_0 : w15.cell? ⟨gb116, 0, none⟩ = some (.bool a0_0) := (blk_cell BK116.out 0).trans rfl; have hcz16_1 : w15.cell? ⟨gb116, 1, none⟩ = some (.slice A0_1 l0_1.length c0_1) := (blk_cell BK116.out 1).trans rfl; have hcz16_2 : w15.cell? ⟨gb116, 2, none⟩ = some (.int .i64 a0_2) := (blk_cell BK116.out 2).trans rfl; have hfz16_0 := blk_frozen BK116.out 0; have hfz16_1 := blk_frozen BK116.out 1; have hfz16_2 := blk_frozen BK116.out 2; have p117 : 0 ≤ ((ji11) : Int) := of_decide_eq_true (by first | (with_reducible assumption) | assumption); have q117 : (ji11) < (l0_1.length : Int) := of_decide_eq_true (by first | (with_reducible assumption) | assumption); obtain ⟨ad117, e117, hx117_0⟩ := Kd.at_int HR0_1.out (ji11) p117 q117; cases e117; replace hx117_0 := (HB.out.cell (World.block_lt_of_cell? w _ hx117_0)).trans hx117_0; replace p117 := eq_true p117; replace q117 := eq_true q117))
            go_ret
            exact ⟨by first | rfl | (simp [errW_none, errW_some] <;> rfl) | (simp only [← hji11]; first | rfl | (simp [errW_none, errW_some] <;> rfl)) | (simp [*, errW_none, errW_some] <;> rfl), by repeat (first | (with_reducible first | exact HB.out | apply below_alloc | apply pw_below_drewN | apply below_drew1 | refine below_set ?_ GE116.out) | exact HB.out)⟩
          · rw [if_neg c14] at H
            have c14b0 : ((rd l0_1 (ji11)) == 0) = false := beq_eq_false_iff_ne.mpr c14
            have c14b1 : ((rd l0_1 (ji11)) != 0) = true := bne_iff_ne.mpr c14
            by_cases c17 : a0_2 < (-1200)
            · rw [if_pos c17] at H
              have c17b0 : decide (a0_2 < (-1200)) = true := decide_eq_true c17
              clear c17
              obtain rfl := Option.some.inj H
              go_enter Tryd.func47, Tryd.ntmps47
              go_wp2_with (first | ((with_reducible refine gate_dst (N := 1) rfl ?_); refine box_event ?hg (N := 1) ?hd (cs := #[.bool a0_0, .slice A0_1 l0_1.length c0_1, .int .i64 a0_2]) (t := 25) ?hr ?_; (case hd => rfl); (case hg => rfl); (case hr => first | (go_simp; done) | (go_simp; rfl) | (go_simp; simp only [x_u32u8, x_u8, x_u32, x_u64, x_mm]; first | done | rfl)); intro gb116 hg w18 hbox hb; have n0_ := Aside0.mk (below_step (by repeat (first | (with_reducible first | exact HB.out | apply below_alloc | apply pw_below_drewN | apply below_drew1) | exact HB.out)) hb); have n1_ := Aside0.mk (hbox); have n2_ := Aside0.mk ((by rw [hg]; exact (below_size (by repeat (first | (with_reducible first | exact HB.out | apply below_alloc | apply pw_below_drewN | apply below_drew1) | exact HB.out))) : w.heap.size ≤ gb116)); have n3_ := Aside0.mk ((by rw [hg]; exact (below_size (by repeat (first | (with_reducible first | exact HB.out | apply below_alloc | apply pw_below_drewN | apply below_drew1) | exact HB.out))) : w.heap.size ≤ gb116)); clear HB; have HB := n0_; have BK116 := n1_; have GW116 := n2_; have GE116 := n3_; clear n0_ n1_ n2_ n3_; clear hb hbox hg; have hcz19_0 : w18.cell? ⟨gb116, 0, none⟩ = some (.bool a0_0) := (blk_cell BK116.out 0).trans rfl; have hcz19_1 : w18.cell? ⟨gb116, 1, none⟩ = some (.slice A0_1 l0_1.length c0_1) := (blk_cell BK116.out 1).trans rfl; have hcz19_2 : w18.cell? ⟨gb116, 2, none⟩ = some (.int .i64 a0_2) := (blk_cell BK116.out 2).trans rfl; have hfz19_0 := blk_frozen BK116.out 0; have hfz19_1 := blk_frozen BK116.out 1; have hfz19_2 := blk_frozen BK116.out 2; have p117 : 0 ≤ ((ji11) : Int) := of_decide_eq_true (by first | (with_reducible assumption) | assumption); have q117 : (ji11) < (l0_1.length : Int) := of_decide_eq_true (by first | (with_reducible assumption) | assumption); obtain ⟨ad117, e117, hx117_0⟩ := Kd.at_int HR0_1.out (ji11) p117 q117; cases e117; replace hx117_0 := (HB.out.cell (World.block_lt_of_cell? w _ hx117_0)).trans hx117_0; replace p117 := eq_true p117; replace q117 := eq_true q117))
              go_ret
              exact ⟨by first | rfl | (simp [errW_none, errW_some] <;> rfl) | (simp only [← hji11]; first | rfl | (simp [errW_none, errW_some] <;> rfl)) | (simp [*, errW_none, errW_some] <;> rfl), by repeat (first | (with_reducible first | exact HB.out | apply below_alloc | apply pw_below_drewN | apply below_drew1 | refine below_set ?_ GE116.out) | exact HB.out)⟩
            · rw [if_neg c17] at H
              have c17b0 : decide (a0_2 < (-1200)) = false := decide_eq_false c17
              clear c17
              by_cases c20 : a0_2 > 1200
              · rw [if_pos c20] at H
                have c20b0 : decide (1200 < a0_2) = true := decide_eq_true c20
                clear c20
                obtain rfl := Option.some.inj H
                go_enter Tryd.func47, Tryd.ntmps47
                go_wp2_with (first | ((with_reducible refine gate_dst (N := 1) rfl ?_); refine box_event ?hg (N := 1) ?hd (cs := #[.bool a0_0, .slice A0_1 l0_1.length c0_1, .int .i64 a0_2]) (t := 25) ?hr ?_; (case hd => rfl); (case hg => rfl); (case hr => first | (go_simp; done) | (go_simp; rfl) | (go_simp; simp only [x_u32u8, x_u8, x_u32, x_u64, x_mm]; first | done | rfl)); intro gb116 hg w21 hbox hb; have n0_ := Aside0.mk (below_step (by repeat (first | (with_reducible first | exact HB.out | apply below_alloc | apply pw_below_drewN | apply below_drew1) | exact HB.out)) hb); have n1_ := Aside0.mk (hbox); have n2_ := Aside0.mk ((by rw [hg]; exact (below_size (by repeat (first | (with_reducible first | exact HB.out | apply below_alloc | apply pw_below_drewN | apply below_drew1) | exact HB.out))) : w.heap.size ≤ gb116)); have n3_ := Aside0.mk ((by rw [hg]; exact (below_size (by repeat (first | (with_reducible first | exact HB.out | apply below_alloc | apply pw_below_drewN | apply below_drew1) | exact HB.out))) : w.heap.size ≤ gb116)); clear HB; have HB := n0_; have BK116 := n1_; have GW116 := n2_; have GE116 := n3_; clear n0_ n1_ n2_ n3_; clear hb hbox hg; have hcz22_0 : w21.cell? ⟨gb116, 0, none⟩ = some (.bool a0_0) := (blk_cell BK116.out 0).trans rfl; have hcz22_1 : w21.cell? ⟨gb116, 1, none⟩ = some (.slice A0_1 l0_1.length c0_1) := (blk_cell BK116.out 1).trans rfl; have hcz22_2 : w21.cell? ⟨gb116, 2, none⟩ = some (.int .i64 a0_2) := (blk_cell BK116.out 2).trans rfl; have hfz22_0 := blk_frozen BK116.out 0; have hfz22_1 := blk_frozen BK116.out 1; have hfz22_2 := blk_frozen BK116.out 2; have p117 : 0 ≤ ((ji11) : Int) := of_decide_eq_true (by first | (with_reducible assumption) | assumption); have q117 : (ji11) < (l0_1.length : Int) := of_decide_eq_true (by first | (with_reducible assumption) | assumption); obtain ⟨ad117, e117, hx117_0⟩ := Kd.at_int HR0_1.out (ji11) p117 q117; cases e117; replace hx117_0 := (HB.out.cell (World.block_lt_of_cell? w _ hx117_0)).trans hx117_0; replace p117 := eq_true p117; replace q117 := eq_true q117))
                go_ret
                exact ⟨by first | rfl | (simp [errW_none, errW_some] <;> rfl) | (simp only [← hji11]; first | rfl | (simp [errW_none, errW_some] <;> rfl)) | (simp [*, errW_none, errW_some] <;> rfl), by repeat (first | (with_reducible first | exact HB.out | apply below_alloc | apply pw_below_drewN | apply below_drew1 | refine below_set ?_ GE116.out) | exact HB.out)⟩
              · rw [if_neg c20] at H
                have c20b0 : decide (1200 < a0_2) = false := decide_eq_false c20
                clear c20
                replace H := Option.bind_eq_some_iff.mp H
                obtain ⟨⟨t118, t119⟩, A230, H⟩ := H
                replace H : (some (t119 == 0)) = some r := H
                have A23 := Aside0.mk A230
                clear A230
                obtain rfl := Option.some.inj H
                go_enter Tryd.func47, Tryd.ntmps47
                go_wp2_with (first | ((with_reducible refine gate_dst (N := 1) rfl ?_); refine box_event ?hg (N := 1) ?hd (cs := #[.bool a0_0, .slice A0_1 l0_1.length c0_1, .int .i64 a0_2]) (t := 25) ?hr ?_; (case hd => rfl); (case hg => rfl); (case hr => first | (go_simp; done) | (go_simp; rfl) | (go_simp; simp only [x_u32u8, x_u8, x_u32, x_u64, x_mm]; first | done | rfl)); intro gb116 hg w24 hbox hb; have n0_ := Aside0.mk (below_step (by repeat (first | (with_reducible first | exact HB.out | apply below_alloc | apply pw_below_drewN | apply below_drew1) | exact HB.out)) hb); have n1_ := Aside0.mk (hbox); have n2_ := Aside0.mk ((by rw [hg]; exact (below_size (by repeat (first | (with_reducible first | exact HB.out | apply below_alloc | apply pw_below_drewN | apply below_drew1) | exact HB.out))) : w.heap.size ≤ gb116)); have n3_ := Aside0.mk ((by rw [hg]; exact (below_size (by repeat (first | (with_reducible first | exact HB.out | apply below_alloc | apply pw_below_drewN | apply below_drew1) | exact HB.out))) : w.heap.size ≤ gb116)); clear HB; have HB := n0_; have BK116 := n1_; have GW116 := n2_; have GE116 := n3_; clear n0_ n1_ n2_ n3_; clear hb hbox hg; have hcz25_0 : w24.cell? ⟨gb116, 0, none⟩ = some (.bool a0_0) := (blk_cell BK116.out 0).trans rfl; have hcz25_1 : w24.cell? ⟨gb116, 1, none⟩ = some (.slice A0_1 l0_1.length c0_1) := (blk_cell BK116.out 1).trans rfl; have hcz25_2 : w24.cell? ⟨gb116, 2, none⟩ = some (.int .i64 a0_2) := (blk_cell BK116.out 2).trans rfl; have hfz25_0 := blk_frozen BK116.out 0; have hfz25_1 := blk_frozen BK116.out 1; have hfz25_2 := blk_frozen BK116.out 2; have p117 : 0 ≤ ((ji11) : Int) := of_decide_eq_true (by first | (with_reducible assumption) | assumption); have q117 : (ji11) < (l0_1.length : Int) := of_decide_eq_true (by first | (with_reducible assumption) | assumption); obtain ⟨ad117, e117, hx117_0⟩ := Kd.at_int HR0_1.out (ji11) p117 q117; cases e117; replace hx117_0 := (HB.out.cell (World.block_lt_of_cell? w _ hx117_0)).trans hx117_0; replace p117 := eq_true p117; replace q117 := eq_true q117) | ((with_reducible refine gate_callee (f := 56) rfl ?_); refine goesL_ (some 43) rfl rfl Tryd.func56 (by kernel_rfl) rfl #[.slice (some ad117) l0_1.length c0_1] rfl (by (try simp only [List.map_toArray, List.map_cons, List.map_nil]); first | done | rfl | (simp only [List.length_drop, List.length_take]; rfl)) ?_; (with_reducible refine (nat_Trim.calls k _ _ l0_1 t118 t119 _ ?side1 ?side2 A23.out).mono ?_); (case side1 => repeat (first | exact (Kd.C_below HR0_1.out HB.out) | (with_reducible refine Kd.C_alloc ?_ _) | (with_reducible refine Kd.C_drewN ?_ _) | (with_reducible refine Kd.C_drew ?_))); (case side2 => exact HC0_1.out); rintro e w26 ⟨v120, rfl, ho0, hb⟩; refine ⟨_, rfl, ?_⟩; have n0_ := Aside0.mk (Kd.R_lower ho0 (below_size (by repeat (first | (with_reducible first | exact HB.out | apply below_alloc | apply pw_below_drewN | apply below_drew1 | refine below_set ?_ GE116.out) | exact HB.out)))); have n1_ := Aside0.mk (blk_below (g := gb116) (o := .cells #[.bool a0_0, .slice (some ad117) l0_1.length c0_1, .int .i64 a0_2] 25 (0, 0)) (by (with_reducible repeat (first | refine blk_drewN ?_ _ | refine blk_drew ?_ | refine blk_alloc ?_ _)); exact BK116.out) hb); have n2_ := Aside0.mk (below_step (by repeat (first | (with_reducible first | exact HB.out | apply below_alloc | apply pw_below_drewN | apply below_drew1 | refine below_set ?_ GE116.out) | exact HB.out)) hb); clear BK116; clear HB; have HO121 := n0_; have BK116 := n1_; have HB := n2_; clear n0_ n1_ n2_; (try clear hb); (try clear hb2); (try clear hk); (try clear hi); (try clear ho0)))
                go_ret
                exact ⟨by first | rfl | (simp [errW_none, errW_some] <;> rfl) | (simp only [← hji11]; first | rfl | (simp [errW_none, errW_some] <;> rfl)) | (simp [*, errW_none, errW_some] <;> rfl), by repeat (first | (with_reducible first | exact HB.out | apply below_alloc | apply pw_below_drewN | apply below_drew1 | refine below_set ?_ GE116.out) | exact HB.out)⟩
        · rw [if_neg c13] at H
          exact absurd H (by simp)
      · rw [if_neg c12] at H
        exact absurd H (by simp)

end Go.Proofs.YtondpnipoogoiaaDoor.X
-- A walk, written by a program of this session (xp.py).
namespace Go.Proofs.YtondpnipoogoiaaDoor.X
open Go.RowKit Go.Proofs.YtondpnipoogoiaaDoorW.PrintWords Go.Proofs.YtondpnipoogoiaaDoorW.PrintLast Go.Proofs.YtondpnipoogoiaaDoorW.PrintMore
attribute [local go_sem] max2_int min2_int max_two min_two max_three min_three max_four min_four
set_option linter.unusedVariables false
set_option linter.unusedSimpArgs false

/-! ### tree_text: function 48 -/
def tree_text.f (a0 : ByteArray) : Option (Bool) := if (a0.size : Int) ≤ 2000 then ((utf_Valid.f a0).bind fun t122 => (some t122)) else (some false)
set_option maxHeartbeats 8000000 in
set_option maxRecDepth 100000 in
theorem tree_text.calls (a0 : ByteArray) (r : Bool) (w : World) (hL : Laid w) (h : tree_text.f a0 = some r) :
    Calls Tryd.prog 48 #[.string a0] w fun e w' => e = .returned (.bool r) ∧ Below w.heap.size w w' := by
  replace hL := Aside0.mk hL
  have HB := Aside0.mk (Below.refl w.heap.size w)
  have H : (if (a0.size : Int) ≤ 2000 then ((utf_Valid.f a0).bind fun t122 => (some t122)) else (some false)) = some r := h
  clear h
  by_cases c2 : (a0.size : Int) ≤ 2000
  · rw [if_pos c2] at H
    have c2b0 : decide ((a0.size : Int) ≤ 2000) = true := decide_eq_true c2
    have c2b1 : decide (a0.size ≤ 2000) = true := decide_eq_true (by omega)
    clear c2
    replace H := Option.bind_eq_some_iff.mp H
    obtain ⟨t122, A30, H⟩ := H
    replace H : (some t122) = some r := H
    have A3 := Aside0.mk A30
    clear A30
    obtain rfl := Option.some.inj H
    go_enter Tryd.func48, Tryd.ntmps48
    go_wp2_with (first | (go_at_call 50; (with_reducible refine (utf_Valid.calls a0 t122 _ ?side1 A3.out).mono ?_); (case side1 => first | exact hL.out | exact hL.out.drewN _ | exact hL.out.drew | exact hL.out.below (by repeat (first | (with_reducible first | exact HB.out | apply below_alloc | apply pw_below_drewN | apply below_drew1) | exact HB.out))); rintro e w4 ⟨rfl, hb⟩; have n0_ := Aside0.mk (below_step (by repeat (first | (with_reducible first | exact HB.out | apply below_alloc | apply pw_below_drewN | apply below_drew1) | exact HB.out)) hb); clear HB; have HB := n0_; clear n0_; (try clear hb); (try clear hb2); (try clear hk); (try clear hi)))
    go_ret
    exact ⟨by first | rfl | (simp [errW_none, errW_some] <;> rfl) | (simp [*, errW_none, errW_some] <;> rfl), by repeat (first | (with_reducible first | exact HB.out | apply below_alloc | apply pw_below_drewN | apply below_drew1) | exact HB.out)⟩
  · rw [if_neg c2] at H
    have c2b0 : decide ((a0.size : Int) ≤ 2000) = false := decide_eq_false c2
    have c2b1 : decide (a0.size ≤ 2000) = false := decide_eq_false (by omega)
    clear c2
    obtain rfl := Option.some.inj H
    go_enter Tryd.func48, Tryd.ntmps48
    go_wp2
    go_ret
    exact ⟨by first | rfl | (simp [errW_none, errW_some] <;> rfl) | (simp [*, errW_none, errW_some] <;> rfl), by repeat (first | (with_reducible first | exact HB.out | apply below_alloc | apply pw_below_drewN | apply below_drew1) | exact HB.out)⟩

end Go.Proofs.YtondpnipoogoiaaDoor.X
-- A walk, written by a program of this session (xp.py).
namespace Go.Proofs.YtondpnipoogoiaaDoor.X
open Go.RowKit Go.Proofs.YtondpnipoogoiaaDoorW.PrintWords Go.Proofs.YtondpnipoogoiaaDoorW.PrintLast Go.Proofs.YtondpnipoogoiaaDoorW.PrintMore
attribute [local go_sem] max2_int min2_int max_two min_two max_three min_three max_four min_four
set_option linter.unusedVariables false
set_option linter.unusedSimpArgs false

/-! ### tree_names: function 49 -/
def tree_names.l0 : Nat → List ByteArray → List ByteArray → Int → Int → Option (Bool)
  | 0, _, _, _, _ => none
  | k + 1, x0, x5, x6, x7 => if x7 < x6 then (if 0 ≤ x7 then (if x7 < (x5.length : Int) then ((tree_text.f (rdOf ByteArray.empty x5 x7)).bind fun t124 => (if t124 = true then (if x7 > 0 then (if 0 ≤ (wrap64 (x7 - 1)) then (if (wrap64 (x7 - 1)) < (x0.length : Int) then (if ((Op.bytesLess ((rdOf ByteArray.empty x0 (wrap64 (x7 - 1))).toList) ((rdOf ByteArray.empty x5 x7).toList)) = true) then (tree_names.l0 k x0 x5 x6 (wrap64 (x7 + 1))) else (some false)) else (none)) else (none)) else (tree_names.l0 k x0 x5 x6 (wrap64 (x7 + 1)))) else (some false))) else (none)) else (none)) else (some (decide ((x0.length : Int) ≤ 300)))
def tree_names.f (k : Nat) (l0 : List ByteArray) : Option (Bool) := tree_names.l0 k l0 l0 (l0.length : Int) 0
theorem tree_names.mono_l : ∀ k, (∀ y0 y1 y2 y3, LeO (tree_names.l0 k y0 y1 y2 y3) (tree_names.l0 (k + 1) y0 y1 y2 y3))
  | 0 => fun _ _ _ _ r h => by simp [tree_names.l0] at h
  | k + 1 => by
    have ih0 := tree_names.mono_l k
    · intro y0 y1 y2 y3
      unfold tree_names.l0
      repeat' first
      | (with_reducible exact ih0 _ _ _ _)
      | (with_reducible exact LeO.refl _)
      | (with_reducible exact LeO.none _)
      | (with_reducible refine LeO.ite ?_ ?_)
      | (with_reducible refine LeO.bind ?_ (fun _ => ?_))
      | exact ih0 _ _ _ _
      | exact LeO.none _
      | refine LeO.ite ?_ ?_
      | refine LeO.bind ?_ (fun _ => ?_)
theorem tree_names.mono : ∀ a0 k, LeO (tree_names.f k a0) (tree_names.f (k + 1) a0) := by
  intro a0 k
  have ih0 := tree_names.mono_l k
  unfold tree_names.f
  repeat' first
      | (with_reducible exact ih0 _ _ _ _)
      | (with_reducible exact LeO.refl _)
      | (with_reducible exact LeO.none _)
      | (with_reducible refine LeO.ite ?_ ?_)
      | (with_reducible refine LeO.bind ?_ (fun _ => ?_))
      | exact ih0 _ _ _ _
      | exact LeO.none _
      | refine LeO.ite ?_ ?_
      | refine LeO.bind ?_ (fun _ => ?_)
set_option maxHeartbeats 8000000 in
set_option maxRecDepth 100000 in
theorem tree_names.calls (k : Nat) (A0 : Option Addr) (c0 : Nat) (l0 : List ByteArray) (r : Bool) (w : World) (hL : Laid w) (hr0 : Kd.C Kd.string w A0 l0.length l0) (hc0 : l0.length ≤ c0) (h : tree_names.f k l0 = some r) :
    Calls Tryd.prog 49 #[.slice A0 l0.length c0] w fun e w' => e = .returned (.bool r) ∧ Below w.heap.size w w' := by
  replace hL := Aside0.mk hL
  have HR0 := Aside0.mk hr0
  have HC0 := Aside0.mk hc0
  clear hr0 hc0
  have HB := Aside0.mk (Below.refl w.heap.size w)
  have H : (tree_names.l0 k l0 l0 (l0.length : Int) 0) = some r := h
  clear h
  have H' := Aside0.mk H
  clear H
  go_enter Tryd.func49, Tryd.ntmps49
  go_wp2
  go_loopg [7] k (fun kq v7 w' => ∃ (x7_1 : Int), v7 = .int .i64 x7_1 ∧ Aside0 (tree_names.l0 kq l0 l0 (l0.length : Int) x7_1 = some r) ∧ Aside0 (kq ≤ k) ∧ Aside0 (Below w.heap.size w w'))
  case atStart => exact ⟨(0), (by first | rfl | (simp; done) | (simp [*]; done)), H', ⟨Nat.le_refl _⟩, ⟨by repeat (first | (with_reducible first | exact HB.out | apply below_alloc | apply pw_below_drewN | apply below_drew1) | exact HB.out)⟩⟩
  case round =>
    clear H'
    obtain ⟨x7_1, rfl, HA, HK1, HB⟩ := hrel
    cases gk with
    | zero => exact absurd HA.out (by simp [tree_names.l0])
    | succ k1 =>
      have H := HA.out
      clear HA
      simp only [tree_names.l0] at H
      by_cases c2 : x7_1 < (l0.length : Int)
      · rw [if_pos c2] at H
        have c2b0 : decide (x7_1 < (l0.length : Int)) = true := decide_eq_true c2
        clear c2
        by_cases c3 : 0 ≤ x7_1
        · rw [if_pos c3] at H
          have c3b0 : decide (0 ≤ x7_1) = true := decide_eq_true c3
          clear c3
          by_cases c4 : x7_1 < (l0.length : Int)
          · rw [if_pos c4] at H
            have c4b0 : decide (x7_1 < (l0.length : Int)) = true := decide_eq_true c4
            clear c4
            replace H := Option.bind_eq_some_iff.mp H
            obtain ⟨t124, A50, H⟩ := H
            replace H : (if t124 = true then (if x7_1 > 0 then (if 0 ≤ (wrap64 (x7_1 - 1)) then (if (wrap64 (x7_1 - 1)) < (l0.length : Int) then (if ((Op.bytesLess ((rdOf ByteArray.empty l0 (wrap64 (x7_1 - 1))).toList) ((rdOf ByteArray.empty l0 x7_1).toList)) = true) then (tree_names.l0 k1 l0 l0 (l0.length : Int) (wrap64 (x7_1 + 1))) else (some false)) else (none)) else (none)) else (tree_names.l0 k1 l0 l0 (l0.length : Int) (wrap64 (x7_1 + 1)))) else (some false)) = some r := H
            have A5 := Aside0.mk A50
            clear A50
            by_cases c6 : t124 = true
            · subst c6
              have H1 : (if x7_1 > 0 then (if 0 ≤ (wrap64 (x7_1 - 1)) then (if (wrap64 (x7_1 - 1)) < (l0.length : Int) then (if ((Op.bytesLess ((rdOf ByteArray.empty l0 (wrap64 (x7_1 - 1))).toList) ((rdOf ByteArray.empty l0 x7_1).toList)) = true) then (tree_names.l0 k1 l0 l0 (l0.length : Int) (wrap64 (x7_1 + 1))) else (some false)) else (none)) else (none)) else (tree_names.l0 k1 l0 l0 (l0.length : Int) (wrap64 (x7_1 + 1)))) = some r := by rw [if_pos rfl] at H; exact H
              clear H
              have H := H1
              clear H1
              by_cases c7 : x7_1 > 0
              · rw [if_pos c7] at H
                have c7b0 : decide (0 < x7_1) = true := decide_eq_true c7
                clear c7
                obtain ⟨ji8, hji8⟩ : ∃ j_ : Int, (wrap64 (x7_1 - 1)) = j_ := ⟨_, rfl⟩
                replace H : (if 0 ≤ (ji8) then (if (ji8) < (l0.length : Int) then (if ((Op.bytesLess ((rdOf ByteArray.empty l0 (ji8)).toList) ((rdOf ByteArray.empty l0 x7_1).toList)) = true) then (tree_names.l0 k1 l0 l0 (l0.length : Int) (wrap64 (x7_1 + 1))) else (some false)) else (none)) else (none)) = some r := by first | (rw [hji8] at H; exact H) | (simp only [hji8] at H ⊢; exact H)
                (try rw [hji8] at A5)
                have hji8w : (IntKind.i64.wrap (x7_1 - 1)) = ji8 := (i64_w _).trans hji8
                by_cases c9 : 0 ≤ (ji8)
                · rw [if_pos c9] at H
                  have c9b0 : decide (0 ≤ (ji8)) = true := decide_eq_true c9
                  clear c9
                  by_cases c10 : (ji8) < (l0.length : Int)
                  · rw [if_pos c10] at H
                    have c10b0 : decide ((ji8) < (l0.length : Int)) = true := decide_eq_true c10
                    clear c10
                    by_cases c11 : ((Op.bytesLess ((rdOf ByteArray.empty l0 (ji8)).toList) ((rdOf ByteArray.empty l0 x7_1).toList)) = true)
                    · rw [if_pos c11] at H
                      have c11b0 : (Op.bytesLess ((rdOf ByteArray.empty l0 (ji8)).toList) ((rdOf ByteArray.empty l0 x7_1).toList)) = true := c11
                      clear c11
                      have H' := Aside0.mk H
                      clear H
                      have p123 : 0 ≤ (x7_1 : Int) := of_decide_eq_true (by first | (with_reducible assumption) | assumption)
                      have q123 : x7_1 < (l0.length : Int) := of_decide_eq_true (by first | (with_reducible assumption) | assumption)
                      obtain ⟨ad123, e123, hx123_0⟩ := Kd.at_string HR0.out x7_1 p123 q123
                      cases e123
                      replace hx123_0 := (HB.out.cell (World.block_lt_of_cell? w _ hx123_0)).trans hx123_0
                      replace p123 := eq_true p123
                      replace q123 := eq_true q123
                      go_wp2_with (first | ((with_reducible refine gate_callee (f := 48) rfl ?_); refine goesL_ (some 13) rfl rfl Tryd.func48 (by kernel_rfl) rfl #[.string (rdOf ByteArray.empty l0 x7_1)] rfl (by (try simp only [List.map_toArray, List.map_cons, List.map_nil]); first | done | rfl | (simp only [List.length_drop, List.length_take]; rfl)) ?_; (with_reducible refine (tree_text.calls (rdOf ByteArray.empty l0 x7_1) true _ ?side1 A5.out).mono ?_); (case side1 => first | exact hL.out | exact hL.out.drewN _ | exact hL.out.drew | exact hL.out.below (by repeat (first | (with_reducible first | exact HB.out | apply below_alloc | apply pw_below_drewN | apply below_drew1) | exact HB.out))); rintro e w12 ⟨rfl, hb⟩; refine ⟨_, rfl, ?_⟩; have n0_ := Aside0.mk (below_step (by repeat (first | (with_reducible first | exact HB.out | apply below_alloc | apply pw_below_drewN | apply below_drew1) | exact HB.out)) hb); clear HB; have HB := n0_; clear n0_; (try clear hb); (try clear hb2); (try clear hk); (try clear hi); have p125 : 0 ≤ ((ji8) : Int) := of_decide_eq_true (by first | (with_reducible assumption) | assumption); have q125 : (ji8) < (l0.length : Int) := of_decide_eq_true (by first | (with_reducible assumption) | assumption); obtain ⟨ad125, e125, hx125_0⟩ := Kd.at_string HR0.out (ji8) p125 q125; obtain rfl : ad123 = ad125 := (by injection e125); replace hx125_0 := (HB.out.cell (World.block_lt_of_cell? w _ hx125_0)).trans hx125_0; replace p125 := eq_true p125; replace q125 := eq_true q125))
                      go_roundg k1
                      case measure => have := HK1.out; omega
                      case rel => exact ⟨(wrap64 (x7_1 + 1)), (by first | rfl | (simp; done) | (simp [*]; done)), (by first | exact H' | (simp only [hji8]; exact H')), ⟨by have := HK1.out; omega⟩, ⟨by repeat (first | (with_reducible first | exact HB.out | apply below_alloc | apply pw_below_drewN | apply below_drew1) | exact HB.out)⟩⟩
                    · rw [if_neg c11] at H
                      have c11b0 : (Op.bytesLess ((rdOf ByteArray.empty l0 (ji8)).toList) ((rdOf ByteArray.empty l0 x7_1).toList)) = false := by simpa using c11
                      clear c11
                      obtain rfl := Option.some.inj H
                      have p123 : 0 ≤ (x7_1 : Int) := of_decide_eq_true (by first | (with_reducible assumption) | assumption)
                      have q123 : x7_1 < (l0.length : Int) := of_decide_eq_true (by first | (with_reducible assumption) | assumption)
                      obtain ⟨ad123, e123, hx123_0⟩ := Kd.at_string HR0.out x7_1 p123 q123
                      cases e123
                      replace hx123_0 := (HB.out.cell (World.block_lt_of_cell? w _ hx123_0)).trans hx123_0
                      replace p123 := eq_true p123
                      replace q123 := eq_true q123
                      go_wp2_with (first | ((with_reducible refine gate_callee (f := 48) rfl ?_); refine goesL_ (some 13) rfl rfl Tryd.func48 (by kernel_rfl) rfl #[.string (rdOf ByteArray.empty l0 x7_1)] rfl (by (try simp only [List.map_toArray, List.map_cons, List.map_nil]); first | done | rfl | (simp only [List.length_drop, List.length_take]; rfl)) ?_; (with_reducible refine (tree_text.calls (rdOf ByteArray.empty l0 x7_1) true _ ?side1 A5.out).mono ?_); (case side1 => first | exact hL.out | exact hL.out.drewN _ | exact hL.out.drew | exact hL.out.below (by repeat (first | (with_reducible first | exact HB.out | apply below_alloc | apply pw_below_drewN | apply below_drew1) | exact HB.out))); rintro e w13 ⟨rfl, hb⟩; refine ⟨_, rfl, ?_⟩; have n0_ := Aside0.mk (below_step (by repeat (first | (with_reducible first | exact HB.out | apply below_alloc | apply pw_below_drewN | apply below_drew1) | exact HB.out)) hb); clear HB; have HB := n0_; clear n0_; (try clear hb); (try clear hb2); (try clear hk); (try clear hi); have p125 : 0 ≤ ((ji8) : Int) := of_decide_eq_true (by first | (with_reducible assumption) | assumption); have q125 : (ji8) < (l0.length : Int) := of_decide_eq_true (by first | (with_reducible assumption) | assumption); obtain ⟨ad125, e125, hx125_0⟩ := Kd.at_string HR0.out (ji8) p125 q125; obtain rfl : ad123 = ad125 := (by injection e125); replace hx125_0 := (HB.out.cell (World.block_lt_of_cell? w _ hx125_0)).trans hx125_0; replace p125 := eq_true p125; replace q125 := eq_true q125))
                      go_ret
                      exact ⟨by first | rfl | (simp [errW_none, errW_some] <;> rfl) | (simp only [← hji8]; first | rfl | (simp [errW_none, errW_some] <;> rfl)) | (simp [*, errW_none, errW_some] <;> rfl), by repeat (first | (with_reducible first | exact HB.out | apply below_alloc | apply pw_below_drewN | apply below_drew1) | exact HB.out)⟩
                  · rw [if_neg c10] at H
                    exact absurd H (by simp)
                · rw [if_neg c9] at H
                  exact absurd H (by simp)
              · rw [if_neg c7] at H
                have c7b0 : decide (0 < x7_1) = false := decide_eq_false c7
                clear c7
                have H' := Aside0.mk H
                clear H
                have p123 : 0 ≤ (x7_1 : Int) := of_decide_eq_true (by first | (with_reducible assumption) | assumption)
                have q123 : x7_1 < (l0.length : Int) := of_decide_eq_true (by first | (with_reducible assumption) | assumption)
                obtain ⟨ad123, e123, hx123_0⟩ := Kd.at_string HR0.out x7_1 p123 q123
                cases e123
                replace hx123_0 := (HB.out.cell (World.block_lt_of_cell? w _ hx123_0)).trans hx123_0
                replace p123 := eq_true p123
                replace q123 := eq_true q123
                go_wp2_with (first | ((with_reducible refine gate_callee (f := 48) rfl ?_); refine goesL_ (some 13) rfl rfl Tryd.func48 (by kernel_rfl) rfl #[.string (rdOf ByteArray.empty l0 x7_1)] rfl (by (try simp only [List.map_toArray, List.map_cons, List.map_nil]); first | done | rfl | (simp only [List.length_drop, List.length_take]; rfl)) ?_; (with_reducible refine (tree_text.calls (rdOf ByteArray.empty l0 x7_1) true _ ?side1 A5.out).mono ?_); (case side1 => first | exact hL.out | exact hL.out.drewN _ | exact hL.out.drew | exact hL.out.below (by repeat (first | (with_reducible first | exact HB.out | apply below_alloc | apply pw_below_drewN | apply below_drew1) | exact HB.out))); rintro e w14 ⟨rfl, hb⟩; refine ⟨_, rfl, ?_⟩; have n0_ := Aside0.mk (below_step (by repeat (first | (with_reducible first | exact HB.out | apply below_alloc | apply pw_below_drewN | apply below_drew1) | exact HB.out)) hb); clear HB; have HB := n0_; clear n0_; (try clear hb); (try clear hb2); (try clear hk); (try clear hi)))
                go_roundg k1
                case measure => have := HK1.out; omega
                case rel => exact ⟨(wrap64 (x7_1 + 1)), (by first | rfl | (simp; done) | (simp [*]; done)), H', ⟨by have := HK1.out; omega⟩, ⟨by repeat (first | (with_reducible first | exact HB.out | apply below_alloc | apply pw_below_drewN | apply below_drew1) | exact HB.out)⟩⟩
            · replace c6 := Bool.eq_false_iff.mpr c6
              subst c6
              have H1 : (some false) = some r := by rw [if_neg (show ¬ (false = true) by decide)] at H; exact H
              clear H
              have H := H1
              clear H1
              obtain rfl := Option.some.inj H
              have p123 : 0 ≤ (x7_1 : Int) := of_decide_eq_true (by first | (with_reducible assumption) | assumption)
              have q123 : x7_1 < (l0.length : Int) := of_decide_eq_true (by first | (with_reducible assumption) | assumption)
              obtain ⟨ad123, e123, hx123_0⟩ := Kd.at_string HR0.out x7_1 p123 q123
              cases e123
              replace hx123_0 := (HB.out.cell (World.block_lt_of_cell? w _ hx123_0)).trans hx123_0
              replace p123 := eq_true p123
              replace q123 := eq_true q123
              go_wp2_with (first | ((with_reducible refine gate_callee (f := 48) rfl ?_); refine goesL_ (some 13) rfl rfl Tryd.func48 (by kernel_rfl) rfl #[.string (rdOf ByteArray.empty l0 x7_1)] rfl (by (try simp only [List.map_toArray, List.map_cons, List.map_nil]); first | done | rfl | (simp only [List.length_drop, List.length_take]; rfl)) ?_; (with_reducible refine (tree_text.calls (rdOf ByteArray.empty l0 x7_1) false _ ?side1 A5.out).mono ?_); (case side1 => first | exact hL.out | exact hL.out.drewN _ | exact hL.out.drew | exact hL.out.below (by repeat (first | (with_reducible first | exact HB.out | apply below_alloc | apply pw_below_drewN | apply below_drew1) | exact HB.out))); rintro e w15 ⟨rfl, hb⟩; refine ⟨_, rfl, ?_⟩; have n0_ := Aside0.mk (below_step (by repeat (first | (with_reducible first | exact HB.out | apply below_alloc | apply pw_below_drewN | apply below_drew1) | exact HB.out)) hb); clear HB; have HB := n0_; clear n0_; (try clear hb); (try clear hb2); (try clear hk); (try clear hi)))
              go_ret
              exact ⟨by first | rfl | (simp [errW_none, errW_some] <;> rfl) | (simp [*, errW_none, errW_some] <;> rfl), by repeat (first | (with_reducible first | exact HB.out | apply below_alloc | apply pw_below_drewN | apply below_drew1) | exact HB.out)⟩
          · rw [if_neg c4] at H
            exact absurd H (by simp)
        · rw [if_neg c3] at H
          exact absurd H (by simp)
      · rw [if_neg c2] at H
        have c2b0 : decide (x7_1 < (l0.length : Int)) = false := decide_eq_false c2
        clear c2
        obtain rfl := Option.some.inj H
        go_wp2
        go_ret
        exact ⟨by first | rfl | (simp [errW_none, errW_some] <;> rfl) | (simp [*, errW_none, errW_some] <;> rfl), by repeat (first | (with_reducible first | exact HB.out | apply below_alloc | apply pw_below_drewN | apply below_drew1) | exact HB.out)⟩

end Go.Proofs.YtondpnipoogoiaaDoor.X
