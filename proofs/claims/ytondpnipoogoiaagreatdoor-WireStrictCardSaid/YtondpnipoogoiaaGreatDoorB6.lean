import Derived.Test.YtondpnipoogoiaaGreatDoorB5
set_option maxRecDepth 100000
set_option linter.unusedVariables false
set_option linter.unusedSimpArgs false
namespace Go.Proofs.YtondpnipoogoiaaGreatDoor.F
open Go Go.RowKit Go.Proofs.Tryz
def ownN (n : Num) : Bool := !n.neg && ((n.m.length : Int) == 0 && n.e == 0)
def truthO (t : Tree) : Bool := if t.kind = 2 then true else !t.b
def numO (t : Tree) : Bool := if t.kind = 3 then checkN t.n else ownN t.n
def textO (t : Tree) : Bool := if t.kind = 4 then textOk t.s else if t.kind = 5 then decide ((t.s.size : Int) ≤ 2000) else (t.s.toList == (ba []).toList)
def keysO (t : Tree) : Bool := if t.kind = 7 then namesOk t.k && (t.k.length : Int) == (t.v.length : Int) else (t.k.length : Int) == 0
def itemsO (t : Tree) : Bool := if t.kind = 7 ∨ t.kind = 6 then decide ((t.v.length : Int) ≤ 300) else (t.v.length : Int) == 0
def ownO (t : Tree) : Bool := decide (1 ≤ t.kind ∧ t.kind ≤ 7) && (truthO t && (numO t && (textO t && (keysO t && itemsO t))))
theorem con170 (t : Tree) (ha : Ok t.n.m) (hl : t.n.m.length < 1000000000) (hk : t.k.length < 1000000000) : Con Tryz.prog I0 170 [.agg (encTree t)] (.val (vb (ownO t))) := by
 refine con_of Tryz.func170 rfl (Nat.le_of_ble_eq_true rfl) stab (fun w0 fz a hI hs => ?_)
 refine wp_seq ?_
 refine wN hs hI [] 750 [] .norm [(1, .ptr 1000 0)] [(1000, bTr (t))] tv fun a w hs => ?_
 refine then_norm ?_
 refine wp_cut (N := Tryz.f170.ntmps) (w0 := w0) (ow := noO fz) (T := [(1, .ptr 1000 0), (3, vb (!t.b)), (4, vb (ownN t.n)), (5, vb (t.s.toList == (ba []).toList))]) (B := [(1000, bTr (t))]) (True) ?_ ?_
 ·skip
  rcases bt (t.n.neg) with b1 | b1
  ·skip
   refine wL hs hI [(1, ⟨[], gg [] [8, 9, 10, 11, 12, 1013, 15, 16, 17, 18, 1019], []⟩)] [] 2775557561562891349196481692504687500 [ty (ng1 b1), ty (ng1 b1), ty (ng1 b1), ty (ng1 b1), ty (ng1 b1), ty (ng1 b1), false = false, false = false, false = false, false = false, false = false] .norm [(1, .ptr 1000 0), (3, vb (!t.b)), (4, vb false), (5, vb (t.s.toList == (ba []).toList))] [(1000, bTr (t))] ⟨tv, tv⟩ ⟨(ng1 b1), (ng1 b1), (ng1 b1), (ng1 b1), (ng1 b1), (ng1 b1), rfl, rfl, rfl, rfl, rfl, tv⟩ fun a w hs => ?_
   refine then_norm ⟨trivial, ?_⟩
   (have e0_ : (false) = (ownN t.n) := (by first | rfl | (simp only [ownN, b1]; rfl)); exact (hs.cst [(1, .ptr 1000 0), (3, vb (!t.b)), (4, vb (ownN t.n)), (5, vb (t.s.toList == (ba []).toList))] [(1000, bTr (t))] (by first | (rw [e0_]; done) | (simp only [e0_]; done) | rfl | (simp only [e0_]; rfl))).rm [(1000, 1000)] (by kernel_rfl))
  ·skip
   rcases bt ((t.n.m.length : Int) == 0) with b2 | b2
   ·skip
    have n2 := eq_of_beq b2
    refine wL hs hI [(1, ⟨[], gg [8, 9, 10, 11, 12, 1013, 15, 16, 17, 18, 1019] [], []⟩)] [] 10587911840678754231248765262857701989912217578125 [ty (ng0 b1), ty (ng0 b1), ty (ng0 b1), ty (ng0 b1), ty (ng0 b1), ty (ng0 b1), ty b2, ty b2, ty b2, ty b2, ty b2] .norm [(1, .ptr 1000 0), (3, vb (!t.b)), (4, vb (t.n.e == 0)), (5, vb (t.s.toList == (ba []).toList))] [(1000, bTr (t))] ⟨tv, tv⟩ ⟨(ng0 b1), (ng0 b1), (ng0 b1), (ng0 b1), (ng0 b1), (ng0 b1), b2, b2, b2, b2, b2, tv⟩ fun a w hs => ?_
    refine then_norm ⟨trivial, ?_⟩
    (have e0_ : (t.n.e == 0) = (ownN t.n) := (by first | rfl | (simp only [ownN, b1, b2]; rfl)); exact (hs.cst [(1, .ptr 1000 0), (3, vb (!t.b)), (4, vb (ownN t.n)), (5, vb (t.s.toList == (ba []).toList))] [(1000, bTr (t))] (by first | (rw [e0_]; done) | (simp only [e0_]; done) | rfl | (simp only [e0_]; rfl))).rm [(1000, 1000)] (by kernel_rfl))
   ·skip
    have n2 := beq_eq_false_iff_ne.1 b2
    refine wL hs hI [(1, ⟨[], gg [8, 9, 10, 11, 12, 1013] [15, 16, 17, 18, 1019], []⟩)] [] 27105054312137610831996891525003217881640625 [ty (ng0 b1), ty (ng0 b1), ty (ng0 b1), ty (ng0 b1), ty (ng0 b1), ty (ng0 b1), ty b2, ty b2, ty b2, ty b2, ty b2] .norm [(1, .ptr 1000 0), (3, vb (!t.b)), (4, vb false), (5, vb (t.s.toList == (ba []).toList))] [(1000, bTr (t))] ⟨tv, tv⟩ ⟨(ng0 b1), (ng0 b1), (ng0 b1), (ng0 b1), (ng0 b1), (ng0 b1), b2, b2, b2, b2, b2, tv⟩ fun a w hs => ?_
    refine then_norm ⟨trivial, ?_⟩
    (have e0_ : (false) = (ownN t.n) := (by first | rfl | (simp only [ownN, b1, b2]; rfl)); exact (hs.cst [(1, .ptr 1000 0), (3, vb (!t.b)), (4, vb (ownN t.n)), (5, vb (t.s.toList == (ba []).toList))] [(1000, bTr (t))] (by first | (rw [e0_]; done) | (simp only [e0_]; done) | rfl | (simp only [e0_]; rfl))).rm [(1000, 1000)] (by kernel_rfl))
 ·intro hF a w hs
  refine wp_seq ?_
  refine wN hs hI [] 119209277343750 [] .norm [(1, .ptr 1000 0), (3, vb (!t.b)), (4, vb (ownN t.n)), (5, vb (t.s.toList == (ba []).toList)), (6, vb ((t.k.length : Int) == 0)), (7, vb ((t.v.length : Int) == 0))] [(1000, bTr (t))] tv fun a w hs => ?_
  refine then_norm ?_
  refine wp_cut (N := Tryz.f170.ntmps) (w0 := w0) (ow := noO fz) (T := [(3, vb (truthO t)), (4, vb (numO t)), (5, vb (textO t)), (6, vb (keysO t)), (7, vb (itemsO t))]) (B := []) (1 ≤ t.kind ∧ t.kind ≤ 7) ?_ ?_
  ·skip
   rcases bt (t.kind == 1) with b3 | b3
   ·skip
    have n3 := eq_of_beq b3
    refine wN hs hI [true] 184592188250 [ty b3] .norm [(3, vb (!t.b)), (4, vb (ownN t.n)), (5, vb (t.s.toList == (ba []).toList)), (6, vb ((t.k.length : Int) == 0)), (7, vb ((t.v.length : Int) == 0))] [] ⟨b3, tv⟩ fun a w hs => ?_
    refine then_norm ⟨(by omega), ?_⟩
    (have e0_ : (!t.b) = (truthO t) := (by first | rfl | (first | (rw [truthO]; simp only [true_and]; done) | (simp only [truthO, numO, textO, keysO, itemsO]; (repeat (first | rw [if_pos (by omega)] | rw [if_neg (by omega)])); first | rfl | (simp only [b3]; rfl) | skip))); have e1_ : (ownN t.n) = (numO t) := (by first | rfl | (first | (rw [truthO]; simp only [true_and]; done) | (simp only [truthO, numO, textO, keysO, itemsO]; (repeat (first | rw [if_pos (by omega)] | rw [if_neg (by omega)])); first | rfl | (simp only [b3]; rfl) | skip))); have e2_ : (t.s.toList == (ba []).toList) = (textO t) := (by first | rfl | (first | (rw [truthO]; simp only [true_and]; done) | (simp only [truthO, numO, textO, keysO, itemsO]; (repeat (first | rw [if_pos (by omega)] | rw [if_neg (by omega)])); first | rfl | (simp only [b3]; rfl) | skip))); have e3_ : ((t.k.length : Int) == 0) = (keysO t) := (by first | rfl | (first | (rw [truthO]; simp only [true_and]; done) | (simp only [truthO, numO, textO, keysO, itemsO]; (repeat (first | rw [if_pos (by omega)] | rw [if_neg (by omega)])); first | rfl | (simp only [b3]; rfl) | skip))); have e4_ : ((t.v.length : Int) == 0) = (itemsO t) := (by first | rfl | (first | (rw [truthO]; simp only [true_and]; done) | (simp only [truthO, numO, textO, keysO, itemsO]; (repeat (first | rw [if_pos (by omega)] | rw [if_neg (by omega)])); first | rfl | (simp only [b3]; rfl) | skip))); exact (hs.cst [(3, vb (truthO t)), (4, vb (numO t)), (5, vb (textO t)), (6, vb (keysO t)), (7, vb (itemsO t))] [] (by first | (rw [e0_, e1_, e2_, e3_, e4_]; done) | (simp only [e0_, e1_, e2_, e3_, e4_]; done) | rfl | (simp only [e0_, e1_, e2_, e3_, e4_]; rfl))).rm [] (by kernel_rfl))
   ·skip
    have n3 := beq_eq_false_iff_ne.1 b3
    rcases bt (t.kind == 2) with b4 | b4
    ·skip
     have n4 := eq_of_beq b4
     refine wN hs hI [false, true] 1156344933320578516375 [ty b3, ty b4] .norm [(3, vb true), (4, vb (ownN t.n)), (5, vb (t.s.toList == (ba []).toList)), (6, vb ((t.k.length : Int) == 0)), (7, vb ((t.v.length : Int) == 0))] [] ⟨b3, b4, tv⟩ fun a w hs => ?_
     refine then_norm ⟨(by omega), ?_⟩
     (have e0_ : (true) = (truthO t) := (by first | rfl | (first | (rw [truthO]; simp only [true_and]; done) | (simp only [truthO, numO, textO, keysO, itemsO]; (repeat (first | rw [if_pos (by omega)] | rw [if_neg (by omega)])); first | rfl | (simp only [b3, b4]; rfl) | skip))); have e1_ : (ownN t.n) = (numO t) := (by first | rfl | (first | (rw [truthO]; simp only [true_and]; done) | (simp only [truthO, numO, textO, keysO, itemsO]; (repeat (first | rw [if_pos (by omega)] | rw [if_neg (by omega)])); first | rfl | (simp only [b3, b4]; rfl) | skip))); have e2_ : (t.s.toList == (ba []).toList) = (textO t) := (by first | rfl | (first | (rw [truthO]; simp only [true_and]; done) | (simp only [truthO, numO, textO, keysO, itemsO]; (repeat (first | rw [if_pos (by omega)] | rw [if_neg (by omega)])); first | rfl | (simp only [b3, b4]; rfl) | skip))); have e3_ : ((t.k.length : Int) == 0) = (keysO t) := (by first | rfl | (first | (rw [truthO]; simp only [true_and]; done) | (simp only [truthO, numO, textO, keysO, itemsO]; (repeat (first | rw [if_pos (by omega)] | rw [if_neg (by omega)])); first | rfl | (simp only [b3, b4]; rfl) | skip))); have e4_ : ((t.v.length : Int) == 0) = (itemsO t) := (by first | rfl | (first | (rw [truthO]; simp only [true_and]; done) | (simp only [truthO, numO, textO, keysO, itemsO]; (repeat (first | rw [if_pos (by omega)] | rw [if_neg (by omega)])); first | rfl | (simp only [b3, b4]; rfl) | skip))); exact (hs.cst [(3, vb (truthO t)), (4, vb (numO t)), (5, vb (textO t)), (6, vb (keysO t)), (7, vb (itemsO t))] [] (by first | (rw [e0_, e1_, e2_, e3_, e4_]; done) | (simp only [e0_, e1_, e2_, e3_, e4_]; done) | rfl | (simp only [e0_, e1_, e2_, e3_, e4_]; rfl))).rm [] (by kernel_rfl))
    ·skip
     have n4 := beq_eq_false_iff_ne.1 b4
     rcases bt (t.kind == 3) with b5 | b5
     ·skip
      have n5 := eq_of_beq b5
      refine wL hs hI [(12, ⟨[(2, ciV 214 [.agg [vb t.n.neg, rwU t.n.m, vi t.n.e]] (vb (checkN t.n)))], [], []⟩)] [false, false, true] 176498404616573455853272971094500 [ty b3, ty b4, ty b5] .norm [(3, vb (!t.b)), (4, vb (checkN t.n)), (5, vb (t.s.toList == (ba []).toList)), (6, vb ((t.k.length : Int) == 0)), (7, vb ((t.v.length : Int) == 0))] [] ⟨⟨⟨ent214, con214 _ ha hl⟩, tv⟩, tv⟩ ⟨b3, b4, b5, tv⟩ fun a w hs => ?_
      refine then_norm ⟨(by omega), ?_⟩
      (have e0_ : (!t.b) = (truthO t) := (by first | rfl | (first | (rw [truthO]; simp only [true_and]; done) | (simp only [truthO, numO, textO, keysO, itemsO]; (repeat (first | rw [if_pos (by omega)] | rw [if_neg (by omega)])); first | rfl | (simp only [b3, b4, b5]; rfl) | skip))); have e1_ : (checkN t.n) = (numO t) := (by first | rfl | (first | (rw [truthO]; simp only [true_and]; done) | (simp only [truthO, numO, textO, keysO, itemsO]; (repeat (first | rw [if_pos (by omega)] | rw [if_neg (by omega)])); first | rfl | (simp only [b3, b4, b5]; rfl) | skip))); have e2_ : (t.s.toList == (ba []).toList) = (textO t) := (by first | rfl | (first | (rw [truthO]; simp only [true_and]; done) | (simp only [truthO, numO, textO, keysO, itemsO]; (repeat (first | rw [if_pos (by omega)] | rw [if_neg (by omega)])); first | rfl | (simp only [b3, b4, b5]; rfl) | skip))); have e3_ : ((t.k.length : Int) == 0) = (keysO t) := (by first | rfl | (first | (rw [truthO]; simp only [true_and]; done) | (simp only [truthO, numO, textO, keysO, itemsO]; (repeat (first | rw [if_pos (by omega)] | rw [if_neg (by omega)])); first | rfl | (simp only [b3, b4, b5]; rfl) | skip))); have e4_ : ((t.v.length : Int) == 0) = (itemsO t) := (by first | rfl | (first | (rw [truthO]; simp only [true_and]; done) | (simp only [truthO, numO, textO, keysO, itemsO]; (repeat (first | rw [if_pos (by omega)] | rw [if_neg (by omega)])); first | rfl | (simp only [b3, b4, b5]; rfl) | skip))); exact (hs.cst [(3, vb (truthO t)), (4, vb (numO t)), (5, vb (textO t)), (6, vb (keysO t)), (7, vb (itemsO t))] [] (by first | (rw [e0_, e1_, e2_, e3_, e4_]; done) | (simp only [e0_, e1_, e2_, e3_, e4_]; done) | rfl | (simp only [e0_, e1_, e2_, e3_, e4_]; rfl))).rm [] (by kernel_rfl))
     ·skip
      have n5 := beq_eq_false_iff_ne.1 b5
      rcases bt (t.kind == 4) with b6 | b6
      ·skip
       have n6 := eq_of_beq b6
       refine wL hs hI [(13, ⟨[(2, ciV 215 [vs t.s] (vb (textOk t.s)))], [], []⟩)] [false, false, false, true] 1723617232584892195732894463349875391375 [ty b3, ty b4, ty b5, ty b6] .norm [(3, vb (!t.b)), (4, vb (ownN t.n)), (5, vb (textOk t.s)), (6, vb ((t.k.length : Int) == 0)), (7, vb ((t.v.length : Int) == 0))] [] ⟨⟨⟨ent215, con215 _⟩, tv⟩, tv⟩ ⟨b3, b4, b5, b6, tv⟩ fun a w hs => ?_
       refine then_norm ⟨(by omega), ?_⟩
       (have e0_ : (!t.b) = (truthO t) := (by first | rfl | (first | (rw [truthO]; simp only [true_and]; done) | (simp only [truthO, numO, textO, keysO, itemsO]; (repeat (first | rw [if_pos (by omega)] | rw [if_neg (by omega)])); first | rfl | (simp only [b3, b4, b5, b6]; rfl) | skip))); have e1_ : (ownN t.n) = (numO t) := (by first | rfl | (first | (rw [truthO]; simp only [true_and]; done) | (simp only [truthO, numO, textO, keysO, itemsO]; (repeat (first | rw [if_pos (by omega)] | rw [if_neg (by omega)])); first | rfl | (simp only [b3, b4, b5, b6]; rfl) | skip))); have e2_ : (textOk t.s) = (textO t) := (by first | rfl | (first | (rw [truthO]; simp only [true_and]; done) | (simp only [truthO, numO, textO, keysO, itemsO]; (repeat (first | rw [if_pos (by omega)] | rw [if_neg (by omega)])); first | rfl | (simp only [b3, b4, b5, b6]; rfl) | skip))); have e3_ : ((t.k.length : Int) == 0) = (keysO t) := (by first | rfl | (first | (rw [truthO]; simp only [true_and]; done) | (simp only [truthO, numO, textO, keysO, itemsO]; (repeat (first | rw [if_pos (by omega)] | rw [if_neg (by omega)])); first | rfl | (simp only [b3, b4, b5, b6]; rfl) | skip))); have e4_ : ((t.v.length : Int) == 0) = (itemsO t) := (by first | rfl | (first | (rw [truthO]; simp only [true_and]; done) | (simp only [truthO, numO, textO, keysO, itemsO]; (repeat (first | rw [if_pos (by omega)] | rw [if_neg (by omega)])); first | rfl | (simp only [b3, b4, b5, b6]; rfl) | skip))); exact (hs.cst [(3, vb (truthO t)), (4, vb (numO t)), (5, vb (textO t)), (6, vb (keysO t)), (7, vb (itemsO t))] [] (by first | (rw [e0_, e1_, e2_, e3_, e4_]; done) | (simp only [e0_, e1_, e2_, e3_, e4_]; done) | rfl | (simp only [e0_, e1_, e2_, e3_, e4_]; rfl))).rm [] (by kernel_rfl))
      ·skip
       have n6 := beq_eq_false_iff_ne.1 b6
       rcases bt (t.kind == 5) with b7 | b7
       ·skip
        have n7 := eq_of_beq b7
        refine wN hs hI [false, false, false, false, true] 420805751369379129311873117545249981690939844500 [ty b3, ty b4, ty b5, ty b6, ty b7] .norm [(3, vb (!t.b)), (4, vb (ownN t.n)), (5, vb (decide ((t.s.size : Int) ≤ 2000))), (6, vb ((t.k.length : Int) == 0)), (7, vb ((t.v.length : Int) == 0))] [] ⟨b3, b4, b5, b6, b7, tv⟩ fun a w hs => ?_
        refine then_norm ⟨(by omega), ?_⟩
        (have e0_ : (!t.b) = (truthO t) := (by first | rfl | (first | (rw [truthO]; simp only [true_and]; done) | (simp only [truthO, numO, textO, keysO, itemsO]; (repeat (first | rw [if_pos (by omega)] | rw [if_neg (by omega)])); first | rfl | (simp only [b3, b4, b5, b6, b7]; rfl) | skip))); have e1_ : (ownN t.n) = (numO t) := (by first | rfl | (first | (rw [truthO]; simp only [true_and]; done) | (simp only [truthO, numO, textO, keysO, itemsO]; (repeat (first | rw [if_pos (by omega)] | rw [if_neg (by omega)])); first | rfl | (simp only [b3, b4, b5, b6, b7]; rfl) | skip))); have e2_ : (decide ((t.s.size : Int) ≤ 2000)) = (textO t) := (by first | rfl | (first | (rw [truthO]; simp only [true_and]; done) | (simp only [truthO, numO, textO, keysO, itemsO]; (repeat (first | rw [if_pos (by omega)] | rw [if_neg (by omega)])); first | rfl | (simp only [b3, b4, b5, b6, b7]; rfl) | skip))); have e3_ : ((t.k.length : Int) == 0) = (keysO t) := (by first | rfl | (first | (rw [truthO]; simp only [true_and]; done) | (simp only [truthO, numO, textO, keysO, itemsO]; (repeat (first | rw [if_pos (by omega)] | rw [if_neg (by omega)])); first | rfl | (simp only [b3, b4, b5, b6, b7]; rfl) | skip))); have e4_ : ((t.v.length : Int) == 0) = (itemsO t) := (by first | rfl | (first | (rw [truthO]; simp only [true_and]; done) | (simp only [truthO, numO, textO, keysO, itemsO]; (repeat (first | rw [if_pos (by omega)] | rw [if_neg (by omega)])); first | rfl | (simp only [b3, b4, b5, b6, b7]; rfl) | skip))); exact (hs.cst [(3, vb (truthO t)), (4, vb (numO t)), (5, vb (textO t)), (6, vb (keysO t)), (7, vb (itemsO t))] [] (by first | (rw [e0_, e1_, e2_, e3_, e4_]; done) | (simp only [e0_, e1_, e2_, e3_, e4_]; done) | rfl | (simp only [e0_, e1_, e2_, e3_, e4_]; rfl))).rm [] (by kernel_rfl))
       ·skip
        have n7 := beq_eq_false_iff_ne.1 b7
        rcases bt (t.kind == 7) with b8 | b8
        ·skip
         have n8 := eq_of_beq b8
         rcases bt (namesOk t.k) with b9 | b9
         ·skip
          refine wL hs hI [(15, ⟨[(2, ciV 216 [rwS t.k] (vb (namesOk t.k)))], gg [4, 5, 6, 7, 8, 9, 10, 1011] [], []⟩)] [false, false, false, false, false, true] 934376468129948676635421748046375646588320795016290850309978128494325203706320703875 [ty b3, ty b4, ty b5, ty b6, ty b7, ty b8, ty b9, ty b9, ty b9, ty b9, ty b9, ty b9, ty b9, ty b9] .norm [(3, vb (!t.b)), (4, vb (ownN t.n)), (5, vb (t.s.toList == (ba []).toList)), (6, vb ((t.k.length : Int) == (t.v.length : Int))), (7, vb (decide ((t.v.length : Int) ≤ 300)))] [] ⟨⟨⟨ent216, con216 _ (by omega)⟩, tv⟩, tv⟩ ⟨b3, b4, b5, b6, b7, b8, b9, b9, b9, b9, b9, b9, b9, b9, tv⟩ fun a w hs => ?_
          refine then_norm ⟨(by omega), ?_⟩
          (have e0_ : (!t.b) = (truthO t) := (by first | rfl | (first | (rw [truthO]; simp only [true_and]; done) | (simp only [truthO, numO, textO, keysO, itemsO]; (repeat (first | rw [if_pos (by omega)] | rw [if_neg (by omega)])); first | rfl | (simp only [b3, b4, b5, b6, b7, b8, b9]; rfl) | skip))); have e1_ : (ownN t.n) = (numO t) := (by first | rfl | (first | (rw [truthO]; simp only [true_and]; done) | (simp only [truthO, numO, textO, keysO, itemsO]; (repeat (first | rw [if_pos (by omega)] | rw [if_neg (by omega)])); first | rfl | (simp only [b3, b4, b5, b6, b7, b8, b9]; rfl) | skip))); have e2_ : (t.s.toList == (ba []).toList) = (textO t) := (by first | rfl | (first | (rw [truthO]; simp only [true_and]; done) | (simp only [truthO, numO, textO, keysO, itemsO]; (repeat (first | rw [if_pos (by omega)] | rw [if_neg (by omega)])); first | rfl | (simp only [b3, b4, b5, b6, b7, b8, b9]; rfl) | skip))); have e3_ : ((t.k.length : Int) == (t.v.length : Int)) = (keysO t) := (by first | rfl | (first | (rw [truthO]; simp only [true_and]; done) | (simp only [truthO, numO, textO, keysO, itemsO]; (repeat (first | rw [if_pos (by omega)] | rw [if_neg (by omega)])); first | rfl | (simp only [b3, b4, b5, b6, b7, b8, b9]; rfl) | skip))); have e4_ : (decide ((t.v.length : Int) ≤ 300)) = (itemsO t) := (by first | rfl | (first | (rw [truthO]; simp only [true_and]; done) | (simp only [truthO, numO, textO, keysO, itemsO]; (repeat (first | rw [if_pos (by omega)] | rw [if_neg (by omega)])); first | rfl | (simp only [b3, b4, b5, b6, b7, b8, b9]; rfl) | skip))); exact (hs.cst [(3, vb (truthO t)), (4, vb (numO t)), (5, vb (textO t)), (6, vb (keysO t)), (7, vb (itemsO t))] [] (by first | (rw [e0_, e1_, e2_, e3_, e4_]; done) | (simp only [e0_, e1_, e2_, e3_, e4_]; done) | rfl | (simp only [e0_, e1_, e2_, e3_, e4_]; rfl))).rm [] (by kernel_rfl))
         ·skip
          refine wL hs hI [(15, ⟨[(2, ciV 216 [rwS t.k] (vb (namesOk t.k)))], gg [] [4, 5, 6, 7, 8, 9, 10, 1011], []⟩)] [false, false, false, false, false, true] 153088240538410791179186502789806967950191881311347248116138500978049219500 [ty b3, ty b4, ty b5, ty b6, ty b7, ty b8, ty b9, ty b9, ty b9, ty b9, ty b9, ty b9, ty b9, ty b9] .norm [(3, vb (!t.b)), (4, vb (ownN t.n)), (5, vb (t.s.toList == (ba []).toList)), (6, vb false), (7, vb (decide ((t.v.length : Int) ≤ 300)))] [] ⟨⟨⟨ent216, con216 _ (by omega)⟩, tv⟩, tv⟩ ⟨b3, b4, b5, b6, b7, b8, b9, b9, b9, b9, b9, b9, b9, b9, tv⟩ fun a w hs => ?_
          refine then_norm ⟨(by omega), ?_⟩
          (have e0_ : (!t.b) = (truthO t) := (by first | rfl | (first | (rw [truthO]; simp only [true_and]; done) | (simp only [truthO, numO, textO, keysO, itemsO]; (repeat (first | rw [if_pos (by omega)] | rw [if_neg (by omega)])); first | rfl | (simp only [b3, b4, b5, b6, b7, b8, b9]; rfl) | skip))); have e1_ : (ownN t.n) = (numO t) := (by first | rfl | (first | (rw [truthO]; simp only [true_and]; done) | (simp only [truthO, numO, textO, keysO, itemsO]; (repeat (first | rw [if_pos (by omega)] | rw [if_neg (by omega)])); first | rfl | (simp only [b3, b4, b5, b6, b7, b8, b9]; rfl) | skip))); have e2_ : (t.s.toList == (ba []).toList) = (textO t) := (by first | rfl | (first | (rw [truthO]; simp only [true_and]; done) | (simp only [truthO, numO, textO, keysO, itemsO]; (repeat (first | rw [if_pos (by omega)] | rw [if_neg (by omega)])); first | rfl | (simp only [b3, b4, b5, b6, b7, b8, b9]; rfl) | skip))); have e3_ : (false) = (keysO t) := (by first | rfl | (first | (rw [truthO]; simp only [true_and]; done) | (simp only [truthO, numO, textO, keysO, itemsO]; (repeat (first | rw [if_pos (by omega)] | rw [if_neg (by omega)])); first | rfl | (simp only [b3, b4, b5, b6, b7, b8, b9]; rfl) | skip))); have e4_ : (decide ((t.v.length : Int) ≤ 300)) = (itemsO t) := (by first | rfl | (first | (rw [truthO]; simp only [true_and]; done) | (simp only [truthO, numO, textO, keysO, itemsO]; (repeat (first | rw [if_pos (by omega)] | rw [if_neg (by omega)])); first | rfl | (simp only [b3, b4, b5, b6, b7, b8, b9]; rfl) | skip))); exact (hs.cst [(3, vb (truthO t)), (4, vb (numO t)), (5, vb (textO t)), (6, vb (keysO t)), (7, vb (itemsO t))] [] (by first | (rw [e0_, e1_, e2_, e3_, e4_]; done) | (simp only [e0_, e1_, e2_, e3_, e4_]; done) | rfl | (simp only [e0_, e1_, e2_, e3_, e4_]; rfl))).rm [] (by kernel_rfl))
        ·skip
         have n8 := beq_eq_false_iff_ne.1 b8
         rcases bt (t.kind == 6) with b10 | b10
         ·skip
          have n10 := eq_of_beq b10
          refine wN hs hI [false, false, false, false, false, false, true] 40131163727701156269293059097299203294102185967488099631250750 [ty b3, ty b4, ty b5, ty b6, ty b7, ty b8, ty b10] .norm [(3, vb (!t.b)), (4, vb (ownN t.n)), (5, vb (t.s.toList == (ba []).toList)), (6, vb ((t.k.length : Int) == 0)), (7, vb (decide ((t.v.length : Int) ≤ 300)))] [] ⟨b3, b4, b5, b6, b7, b8, b10, tv⟩ fun a w hs => ?_
          refine then_norm ⟨(by omega), ?_⟩
          (have e0_ : (!t.b) = (truthO t) := (by first | rfl | (first | (rw [truthO]; simp only [true_and]; done) | (simp only [truthO, numO, textO, keysO, itemsO]; (repeat (first | rw [if_pos (by omega)] | rw [if_neg (by omega)])); first | rfl | (simp only [b3, b4, b5, b6, b7, b8, b10]; rfl) | skip))); have e1_ : (ownN t.n) = (numO t) := (by first | rfl | (first | (rw [truthO]; simp only [true_and]; done) | (simp only [truthO, numO, textO, keysO, itemsO]; (repeat (first | rw [if_pos (by omega)] | rw [if_neg (by omega)])); first | rfl | (simp only [b3, b4, b5, b6, b7, b8, b10]; rfl) | skip))); have e2_ : (t.s.toList == (ba []).toList) = (textO t) := (by first | rfl | (first | (rw [truthO]; simp only [true_and]; done) | (simp only [truthO, numO, textO, keysO, itemsO]; (repeat (first | rw [if_pos (by omega)] | rw [if_neg (by omega)])); first | rfl | (simp only [b3, b4, b5, b6, b7, b8, b10]; rfl) | skip))); have e3_ : ((t.k.length : Int) == 0) = (keysO t) := (by first | rfl | (first | (rw [truthO]; simp only [true_and]; done) | (simp only [truthO, numO, textO, keysO, itemsO]; (repeat (first | rw [if_pos (by omega)] | rw [if_neg (by omega)])); first | rfl | (simp only [b3, b4, b5, b6, b7, b8, b10]; rfl) | skip))); have e4_ : (decide ((t.v.length : Int) ≤ 300)) = (itemsO t) := (by first | rfl | (first | (rw [truthO]; simp only [true_and]; done) | (simp only [truthO, numO, textO, keysO, itemsO]; (repeat (first | rw [if_pos (by omega)] | rw [if_neg (by omega)])); first | rfl | (simp only [b3, b4, b5, b6, b7, b8, b10]; rfl) | skip))); exact (hs.cst [(3, vb (truthO t)), (4, vb (numO t)), (5, vb (textO t)), (6, vb (keysO t)), (7, vb (itemsO t))] [] (by first | (rw [e0_, e1_, e2_, e3_, e4_]; done) | (simp only [e0_, e1_, e2_, e3_, e4_]; done) | rfl | (simp only [e0_, e1_, e2_, e3_, e4_]; rfl))).rm [] (by kernel_rfl))
         ·skip
          have n10 := beq_eq_false_iff_ne.1 b10
          refine wN hs hI [false, false, false, false, false, false, false] 2567596414631005901430004774976786580951514763642844141375 [ty b3, ty b4, ty b5, ty b6, ty b7, ty b8, ty b10] .ret [(2, vb false)] [] ⟨b3, b4, b5, b6, b7, b8, b10, tv⟩ fun a w hs => ?_
          refine then_ret ?_
          exact rK (.val (vb false)) [] hs (by simp only [ownO]; rw [decide_eq_false (by omega)]; rfl)
  ·intro hF a w hs
   rcases bt (truthO t) with b11 | b11
   ·skip
    rcases bt (numO t) with b12 | b12
    ·skip
     rcases bt (textO t) with b13 | b13
     ·skip
      rcases bt (keysO t) with b14 | b14
      ·skip
       refine wL hs hI [(18, ⟨[], gg [2, 1003, 5, 1006, 8, 1009, 11, 1012] [], []⟩)] [] 381987774744625409444173175 [ty b11, ty b11, ty b12, ty b12, ty b13, ty b13, ty b14, ty b14] .ret [(2, vb (itemsO t))] [] ⟨tv, tv⟩ ⟨b11, b11, b12, b12, b13, b13, b14, b14, tv⟩ fun a w hs => ?_
       exact rK (.val (vb (itemsO t))) [] hs (by simp only [ownO]; rw [decide_eq_true hF]; simp only [b11, b12, b13, b14]; rfl)
      ·skip
       refine wL hs hI [(18, ⟨[], gg [2, 1003, 5, 1006, 8, 1009] [11, 1012], []⟩)] [] 15279510989784314473470050 [ty b11, ty b11, ty b12, ty b12, ty b13, ty b13, ty b14, ty b14] .ret [(2, vb false)] [] ⟨tv, tv⟩ ⟨b11, b11, b12, b12, b13, b13, b14, b14, tv⟩ fun a w hs => ?_
       exact rK (.val (vb false)) [] hs (by simp only [ownO]; rw [decide_eq_true hF]; simp only [b11, b12, b13, b14]; rfl)
     ·skip
      refine wL hs hI [(18, ⟨[], gg [2, 1003, 5, 1006] [8, 1009, 11, 1012], []⟩)] [] 611180439591231807454425 [ty b11, ty b11, ty b12, ty b12, ty b13, ty b13, false = false, false = false] .ret [(2, vb false)] [] ⟨tv, tv⟩ ⟨b11, b11, b12, b12, b13, b13, rfl, rfl, tv⟩ fun a w hs => ?_
      exact rK (.val (vb false)) [] hs (by simp only [ownO]; rw [decide_eq_true hF]; simp only [b11, b12, b13]; rfl)
    ·skip
     refine wL hs hI [(18, ⟨[], gg [2, 1003] [5, 1006, 8, 1009, 11, 1012], []⟩)] [] 24447217583621117376300 [ty b11, ty b11, ty b12, ty b12, false = false, false = false, false = false, false = false] .ret [(2, vb false)] [] ⟨tv, tv⟩ ⟨b11, b11, b12, b12, rfl, rfl, rfl, rfl, tv⟩ fun a w hs => ?_
     exact rK (.val (vb false)) [] hs (by simp only [ownO]; rw [decide_eq_true hF]; simp only [b11, b12]; rfl)
   ·skip
    refine wL hs hI [(18, ⟨[], gg [] [2, 1003, 5, 1006, 8, 1009, 11, 1012], []⟩)] [] 977888703339213709675 [ty b11, ty b11, false = false, false = false, false = false, false = false, false = false, false = false] .ret [(2, vb false)] [] ⟨tv, tv⟩ ⟨b11, b11, rfl, rfl, rfl, rfl, rfl, rfl, tv⟩ fun a w hs => ?_
    exact rK (.val (vb false)) [] hs (by simp only [ownO]; rw [decide_eq_true hF]; simp only [b11]; rfl)
mutual
def fineT : Tree → Prop
 | .mk _ _ n s k v => (Ok n.m ∧ n.m.length < 1000000000 ∧ k.length < 1000000000 ∧ v.length < 1000000000) ∧ fineL v
def fineL : List Tree → Prop
 | [] => True
 | t :: l => fineT t ∧ fineL l
end
theorem fine_eq (t : Tree) : fineT t ↔ (Ok t.n.m ∧ t.n.m.length < 1000000000 ∧ t.k.length < 1000000000 ∧ t.v.length < 1000000000) ∧ fineL t.v := by cases t; exact Iff.rfl
theorem fine_mem : ∀ {l : List Tree} {x : Tree}, fineL l → x ∈ l → fineT x
 | [], _, _, h => by simp at h
 | t :: l, x, hl, h => by
  rcases List.mem_cons.1 h with rfl | h
  ·exact hl.1
  ·exact fine_mem hl.2 h
theorem fine_at {t : Tree} (h : fineT t) {i : Nat} (hi : i < t.v.length) (d : Tree) : fineT (t.v.getD i d) := fine_mem ((fine_eq t).1 h).2 (getD_mem hi d)
mutual
def chk : Tree → Int → Int → Bool × Int
 | .mk k b n s ks v, deep, left => if left - 1 < 0 ∨ deep > 64 ∨ ownO (.mk k b n s ks v) = false then (false, left - 1) else chkL v (deep + 1) (left - 1)
def chkL : List Tree → Int → Int → Bool × Int
 | [], _, left => (true, left)
 | x :: l, deep, left => if (chk x deep left).1 = true then chkL l deep (chk x deep left).2 else (false, (chk x deep left).2)
end
theorem chk_eq (t : Tree) (deep left : Int) : chk t deep left = if left - 1 < 0 ∨ deep > 64 ∨ ownO t = false then (false, left - 1) else chkL t.v (deep + 1) (left - 1) := by cases t; rfl
mutual
theorem chk_le : ∀ (t : Tree) (d l : Int), 0 ≤ l → (chk t d l).2 ≤ l ∧ ((chk t d l).1 = true → 0 ≤ (chk t d l).2)
 | .mk k b n s ks v, d, l, h => by
  rw [chk_eq]
  split
  ·exact ⟨by simp; omega, fun h => by simp at h⟩
  ·rename_i hc
   have := chkL_le v (d + 1) (l - 1) (by omega)
   exact ⟨by show (chkL v _ _).2 ≤ l; omega, this.2⟩
theorem chkL_le : ∀ (v : List Tree) (d l : Int), 0 ≤ l → (chkL v d l).2 ≤ l ∧ ((chkL v d l).1 = true → 0 ≤ (chkL v d l).2)
 | [], d, l, h => ⟨Int.le_refl _, fun _ => h⟩
 | x :: v, d, l, h => by
  simp only [chkL]
  have h1 := chk_le x d l h
  split
  ·rename_i hc
   have := chkL_le v d (chk x d l).2 (h1.2 hc)
   exact ⟨by omega, this.2⟩
  ·exact ⟨h1.1, fun h => by simp at h⟩
end
theorem chkL_yes {v : List Tree} {i : Nat} {d l : Int} (hi : i < v.length) (h : (chk (v.getD i (dflt .tree)) d l).1 = true) : chkL (v.drop i) d l = chkL (v.drop (i + 1)) d (chk (v.getD i (dflt .tree)) d l).2 := by
 rw [List.drop_eq_getElem_cons hi, chkL]
 have e : v.getD i (dflt .tree) = v[i] := by rw [List.getD_eq_getElem?_getD, List.getElem?_eq_getElem hi]; rfl
 rw [e] at h ⊢
 rw [if_pos h]
theorem chkL_no {v : List Tree} {i : Nat} {d l : Int} (hi : i < v.length) (h : (chk (v.getD i (dflt .tree)) d l).1 = false) : chkL (v.drop i) d l = (false, (chk (v.getD i (dflt .tree)) d l).2) := by
 rw [List.drop_eq_getElem_cons hi, chkL]
 have e : v.getD i (dflt .tree) = v[i] := by rw [List.getD_eq_getElem?_getD, List.getElem?_eq_getElem hi]; rfl
 rw [e] at h ⊢
 rw [if_neg (by rw [h]; decide)]
theorem con117_ : ∀ (n : Nat) (t : Tree) (deep left : Int), nodes t < n → fineT t → 0 ≤ left → left ≤ 4000 → 0 ≤ deep → deep ≤ 65 → ConB Tryz.prog I0 117 [.agg (encTree t), vi deep, .ptr 0 0] [(0, .var [vi left])] (.val (vb ((chk t deep left).1))) [(0, .var [vi ((chk t deep left).2)])] := by
 intro n
 induction n
 case zero => intro t deep left hn; omega
 rename_i n ih
 intro t deep left hn hft h0 h1 h2 h3
 obtain ⟨⟨hf1, hf2, hf3, hf4⟩, hf5⟩ := (fine_eq t).1 hft
 refine con_ofB Tryz.func117 rfl (Nat.le_of_ble_eq_true rfl) (by kernel_rfl) (fun w0 fz η a hI hs => ?_)
 refine wp_seq ?_
 refine wN hs hI [] 750 [] .norm [(1, vi deep), (2, .ptr 0 0), (3, .ptr 1000 0)] [(0, .var [vi left]), (1000, bTr (t))] tv fun a w hs => ?_
 refine then_norm ?_
 refine wp_seq ?_
 refine wN hs hI [] 305156500 [InR .i64 (left - 1)] .norm [(1, vi deep), (2, .ptr 0 0), (3, .ptr 1000 0)] [(0, .var [vi (left - 1)]), (1000, bTr (t))] ⟨(inR64 (by omega) (by omega)), tv⟩ fun a w hs => ?_
 refine then_norm ?_
 refine wp_seq ?_
 rcases bt (decide ((left - 1) < 0)) with b1 | b1
 ·skip
  have n1 := of_decide_eq_true b1
  refine wL hs hI [(2, ⟨[], gg [1007, 1012] [5, 6, 9, 10, 11], []⟩)] [true] 722723081707953490428125 [ty b1, ty b1, ty b1, true = true, true = true, true = true, true = true, true = true] .ret [(6, vb false)] [(0, .var [vi (left - 1)])] ⟨tv, tv⟩ ⟨b1, b1, b1, rfl, rfl, rfl, rfl, rfl, tv⟩ fun a w hs => ?_
  refine then_ret ?_
  exact FnQB_cast (out := .val (vb false)) (bo := [(0, .var [vi (left - 1)])]) (by rw [chk_eq t, if_pos (by first | omega | exact .inr (.inr rfl))]) (by rw [chk_eq t, if_pos (by first | omega | exact .inr (.inr rfl))]) (ret_okB _ hs (by kernel_rfl) (by kernel_rfl))
 ·skip
  have n1 := of_decide_eq_false b1
  rcases bt (decide (deep > 64)) with b2 | b2
  ·skip
   have n2 := of_decide_eq_true b2
   refine wL hs hI [(2, ⟨[], gg [5, 6, 1012] [1007, 9, 10, 11], []⟩)] [true] 451701926067471481302896875 [ty b1, ty b1, ty b1, ty b2, ty b2, ty b2, ty b2, true = true] .ret [(6, vb false)] [(0, .var [vi (left - 1)])] ⟨tv, tv⟩ ⟨b1, b1, b1, b2, b2, b2, b2, rfl, tv⟩ fun a w hs => ?_
   refine then_ret ?_
   exact FnQB_cast (out := .val (vb false)) (bo := [(0, .var [vi (left - 1)])]) (by rw [chk_eq t, if_pos (by first | omega | exact .inr (.inr rfl))]) (by rw [chk_eq t, if_pos (by first | omega | exact .inr (.inr rfl))]) (ret_okB _ hs (by kernel_rfl) (by kernel_rfl))
  ·skip
   have n2 := of_decide_eq_false b2
   rcases bt (ownO t) with b3 | b3
   ·skip
    refine wL hs hI [(2, ⟨[(10, ciV 170 [aTr (t)] (vb (ownO t)))], gg [5, 6, 9, 10, 11] [1007, 1012], []⟩)] [false] 11077645467594262777201334375 [ty b1, ty b1, ty b1, ty b2, ty b2, ty b2, ty b2, ty (ng1 b3)] .norm [(1, vi deep), (2, .ptr 0 0), (3, .ptr 1000 0)] [(0, .var [vi (left - 1)]), (1000, bTr (t))] ⟨⟨⟨ent170, con170 _ hf1 hf2 hf3⟩, tv⟩, tv⟩ ⟨b1, b1, b1, b2, b2, b2, b2, (ng1 b3), tv⟩ fun a w hs => ?_
    refine then_norm ?_
    refine wp_seq ?_
    refine wp_seq ?_
    refine wN hs hI [] 487500 [] .norm [(1, vi deep), (2, .ptr 0 0), (28, rwT t.v), (29, vi (t.v.length : Int)), (30, vi 0)] [(0, .var [vi (left - 1)])] tv fun a w hs => ?_
    refine then_norm ?_
    refine wp_block ?_
    refine loop_L (N := Tryz.f117.ntmps) (w0 := w0) (ow := ownB fz η) (α := Nat × Int) (fun p => [(1, vi deep), (2, .ptr 0 0), (28, rwT t.v), (29, vi (t.v.length : Int)), (30, vi ((p.1 : Nat) : Int))]) (fun p => [(0, .var [vi p.2])]) (fun p => p.1 ≤ t.v.length ∧ chkL (t.v.drop p.1) (deep + 1) p.2 = chkL t.v (deep + 1) (left - 1) ∧ 0 ≤ p.2 ∧ p.2 ≤ 4000) (fun p => t.v.length - p.1) (0, left - 1) ?_ ?_ ?_
    ·exact ⟨Nat.zero_le _, rfl, by omega, by omega⟩
    ·exact (hs.cst [(1, vi deep), (2, .ptr 0 0), (28, rwT t.v), (29, vi (t.v.length : Int)), (30, vi ((0 : Nat) : Int))] [(0, .var [vi (left - 1)])] rfl).rm [(0, 0)] (by kernel_rfl)
    rintro ⟨i, l⟩ hJ a w hs
    try dsimp only at hJ
    obtain ⟨hi, hd, hl0, hl1⟩ := hJ
    have hle := chk_le (t.v.getD i (dflt .tree)) (deep + 1) l hl0
    rcases bt (decide ((i : Int) < (t.v.length : Int))) with b4 | b4
    ·skip
     have n4 := of_decide_eq_true b4
     rcases bt ((chk (t.v.getD i (dflt .tree)) (deep + 1) l).1) with b5 | b5
     ·skip
      refine wL hs hI [(7, ⟨[(4, ciB 117 [aTr ((t.v.getD i (dflt .tree))), vi (deep + 1), .ptr 0 0] [] (.val (vb ((chk (t.v.getD i (dflt .tree)) (deep + 1) l).1))) [(0, .var [vi l])] [(0, .var [vi ((chk (t.v.getD i (dflt .tree)) (deep + 1) l).2)])] [(0, 0)])], [], []⟩)] [true, false] 11365307578816472633349644025 [ty b4, 0 ≤ (i : Int) ∧ (i : Int) < t.v.length, InR .i64 (deep + 1), ty (ng1 b5), InR .i64 ((i : Int) + 1)] .norm [(1, vi deep), (2, .ptr 0 0), (28, rwT t.v), (29, vi (t.v.length : Int)), (30, vi ((i : Int) + 1))] [(0, .var [vi ((chk (t.v.getD i (dflt .tree)) (deep + 1) l).2)])] ⟨⟨⟨ent117, ih _ _ _ (by have h1 := nodes_eq t; have h2 := nodes_at (l := t.v) (i := i) (by omega); omega) (fine_at hft (by omega) _) hl0 hl1 (by omega) (by omega)⟩, tv⟩, tv⟩ ⟨b4, (by omega), (inR64 (by omega) (by omega)), (ng1 b5), (inR64 (by omega) (by omega)), tv⟩ fun a w hs => ?_
      refine then_norm ⟨(i + 1, (chk (t.v.getD i (dflt .tree)) (deep + 1) l).2), ⟨by omega, by rw [← chkL_yes (by omega) b5]; exact hd, hle.2 b5, by omega⟩, by omega, ?_⟩
      (have e0_ : ((i : Int) + 1) = ((((i + 1) : Nat) : Int)) := (by first | rfl | (omega)); have e1_ : ((chk (t.v.getD i (dflt .tree)) (deep + 1) l).2) = (((chk (t.v.getD i (dflt .tree)) (deep + 1) l).2)) := (by first | rfl | (omega)); exact (hs.cst [(1, vi deep), (2, .ptr 0 0), (28, rwT t.v), (29, vi (t.v.length : Int)), (30, vi (((i + 1) : Nat) : Int))] [(0, .var [vi ((chk (t.v.getD i (dflt .tree)) (deep + 1) l).2)])] (by first | (rw [e0_, e1_]; done) | (simp only [e0_, e1_]; done) | rfl | (simp only [e0_, e1_]; rfl))).rm [(0, 0)] (by kernel_rfl))
     ·skip
      refine wL hs hI [(7, ⟨[(4, ciB 117 [aTr ((t.v.getD i (dflt .tree))), vi (deep + 1), .ptr 0 0] [] (.val (vb ((chk (t.v.getD i (dflt .tree)) (deep + 1) l).1))) [(0, .var [vi l])] [(0, .var [vi ((chk (t.v.getD i (dflt .tree)) (deep + 1) l).2)])] [(0, 0)])], [], []⟩)] [true, true] 454722987487374885546909650 [ty b4, 0 ≤ (i : Int) ∧ (i : Int) < t.v.length, InR .i64 (deep + 1), ty (ng0 b5)] .ret [(6, vb false)] [(0, .var [vi ((chk (t.v.getD i (dflt .tree)) (deep + 1) l).2)])] ⟨⟨⟨ent117, ih _ _ _ (by have h1 := nodes_eq t; have h2 := nodes_at (l := t.v) (i := i) (by omega); omega) (fine_at hft (by omega) _) hl0 hl1 (by omega) (by omega)⟩, tv⟩, tv⟩ ⟨b4, (by omega), (inR64 (by omega) (by omega)), (ng0 b5), tv⟩ fun a w hs => ?_
      refine then_ret ?_
      refine inb_ret ?_
      refine then_ret ?_
      exact FnQB_cast (out := .val (vb false)) (bo := [(0, .var [vi ((chk (t.v.getD i (dflt .tree)) (deep + 1) l).2)])]) (by rw [chk_eq t, if_neg (by rintro (h | h | h); omega; omega; rw [b3] at h; cases h), ← hd, chkL_no (by omega) b5]) (by rw [chk_eq t, if_neg (by rintro (h | h | h); omega; omega; rw [b3] at h; cases h), ← hd, chkL_no (by omega) b5]) (ret_okB _ hs (by kernel_rfl) (by kernel_rfl))
    ·skip
     have n4 := of_decide_eq_false b4
     refine wN hs hI [false] 19025 [ty b4] (.exit 0) [] [(0, .var [vi l])] ⟨b4, tv⟩ fun a w hs => ?_
     refine then_exit ?_
     refine inb_hit ?_
     refine then_norm ?_
     refine wN hs hI [] 650 [] .ret [(6, vb true)] [(0, .var [vi l])] tv fun a w hs => ?_
     exact FnQB_cast (out := .val (vb true)) (bo := [(0, .var [vi l])]) (by rw [chk_eq t, if_neg (by rintro (h | h | h); omega; omega; rw [b3] at h; cases h), ← hd, List.drop_of_length_le (by omega)]; rfl) (by rw [chk_eq t, if_neg (by rintro (h | h | h); omega; omega; rw [b3] at h; cases h), ← hd, List.drop_of_length_le (by omega)]; rfl) (ret_okB _ hs (by kernel_rfl) (by kernel_rfl))
   ·skip
    refine wL hs hI [(2, ⟨[(10, ciV 170 [aTr (t)] (vb (ownO t)))], gg [5, 6, 9, 10, 11] [1007, 1012], []⟩)] [true] 7057842594804242250142923990625 [ty b1, ty b1, ty b1, ty b2, ty b2, ty b2, ty b2, ty (ng0 b3)] .ret [(6, vb false)] [(0, .var [vi (left - 1)])] ⟨⟨⟨ent170, con170 _ hf1 hf2 hf3⟩, tv⟩, tv⟩ ⟨b1, b1, b1, b2, b2, b2, b2, (ng0 b3), tv⟩ fun a w hs => ?_
    refine then_ret ?_
    exact FnQB_cast (out := .val (vb false)) (bo := [(0, .var [vi (left - 1)])]) (by rw [chk_eq t, if_pos (by first | omega | exact .inr (.inr b3))]) (by rw [chk_eq t, if_pos (by first | omega | exact .inr (.inr b3))]) (ret_okB _ hs (by kernel_rfl) (by kernel_rfl))
theorem Ok.at {l : List Int} (h : Ok l) (n : Nat) : 0 ≤ l.getD n (dflt (.int .u32)) ∧ l.getD n (dflt (.int .u32)) < 4294967296 := h.rdk (n : Int)
theorem stepA {r x : Int} (r0 : 0 ≤ r) (r1 : r < 4294967296) (x0 : 0 ≤ x) (x1 : x < 4294967296) : IntKind.wrap .u64 (IntKind.wrap .u64 (r * 2 ^ 32) + IntKind.wrap .u64 x) = r * 4294967296 + x := by
 have e1 : r * 2 ^ 32 = r * 4294967296 := rfl
 rw [e1, wrapU64 (n := r * 4294967296) (by omega) (by omega), wrapU64 (n := x) (by omega) (by omega), wrapU64 (by omega) (by omega)]
def cmpV (a b : Nat) : Int := if a < b then -1 else if b < a then 1 else 0
theorem cmpV_zero (a b : Nat) : (cmpV a b == 0) = (a == b) := by
 unfold cmpV
 rw [Bool.eq_iff_iff, beq_iff_eq, beq_iff_eq]
 split
 ·exact ⟨fun h => by omega, fun h => by omega⟩
 ·split
  ·exact ⟨fun h => by omega, fun h => by omega⟩
  ·exact ⟨fun h => by omega, fun h => by omega⟩
theorem rd_drop {l : List Int} (n : Nat) : val (l.drop n) = (rd l n).toNat + 4294967296 * val (l.drop (n + 1)) := by
 rcases Nat.lt_or_ge n l.length with h | h
 ·exact val_drop h
 ·rw [List.drop_of_length_le h, List.drop_of_length_le (by omega), rd_ge (by omega)]; rfl
theorem val_split (l : List Int) (n : Nat) : val l = val (l.take n) + 4294967296 ^ n * val (l.drop n) := by
 rcases Nat.le_total n l.length with h | h
 ·exact val_take_drop l n h
 ·rw [List.take_of_length_le h, List.drop_of_length_le h]; simp [val]
theorem val_take_lt {l : List Int} (hl : Ok l) (n : Nat) : val (l.take n) < 4294967296 ^ n := by
 refine Nat.lt_of_lt_of_le (val_lt (hl.take n)) (Nat.pow_le_pow_right (by decide) ?_)
 rw [List.length_take]; omega
theorem cmp_lt {a b : List Int} (ha : Ok a) (hb : Ok b) {k : Nat} (he : val (a.drop (k + 1)) = val (b.drop (k + 1))) (h : rd a k < rd b k) : val a < val b := by
 have h1 := val_split a k
 have h2 := val_split b k
 rw [rd_drop] at h1 h2
 rw [he] at h1
 have h3 := val_take_lt ha k
 have h4 := ha.rdk k
 have h5 := hb.rdk k
 have h6 : (rd a k).toNat + 1 ≤ (rd b k).toNat := by omega
 have h7 := Nat.mul_le_mul_left (4294967296 ^ k) h6
 generalize 4294967296 ^ k = p at *
 generalize val (b.drop (k + 1)) = V at *
 rw [Nat.mul_add] at h1 h2
 rw [Nat.mul_add, Nat.mul_one] at h7
 omega
theorem cmp_eq {a b : List Int} (he : val (a.drop 0) = val (b.drop 0)) : cmpV (val a) (val b) = 0 := by
 simp only [List.drop_zero] at he
 unfold cmpV; rw [if_neg (by omega), if_neg (by omega)]
def isN (n : Num) : Num := if checkN n = true then n else ⟨false, [], 0⟩
theorem isN_ok {n : Num} (h : Ok n.m) : Ok (isN n).m := by
 unfold isN; split
 ·exact h
 ·exact Ok.nil
theorem isN_len {n : Num} (h : n.m.length < 1000000000) : (isN n).m.length < 1000000000 := by
 unfold isN; split
 ·exact h
 ·decide
def sameN (a b : Num) : Bool := (isN a).neg == (isN b).neg && ((isN a).e == (isN b).e && val (isN a).m == val (isN b).m)
theorem con250 (l : List Int) (hl : l.length < 1000000000) : Con Tryz.prog I0 250 [.row (.int .u32) l] (.own 160 (.int .u32) (trimF l)) := by
 refine con_of Tryz.func250 rfl (Nat.le_of_ble_eq_true rfl) stab (fun w0 fz a hI hs => ?_)
 refine wp_seq ?_
 refine wN hs hI [] 25 [] .norm [(0, rwU l)] [] tv fun a w hs => ?_
 refine then_norm ?_
 refine wp_seq ?_
 refine wN hs hI [] 19375 [] .norm [(0, rwU l), (3, vi (l.length : Int))] [] tv fun a w hs => ?_
 refine then_norm ?_
 refine wp_seq ?_
 refine wp_block ?_
 refine loop_L (N := Tryz.f250.ntmps) (w0 := w0) (ow := noO fz) (α := Nat) (fun p => [(0, rwU l), (3, vi (p : Int))]) (fun p => []) (fun p => p ≤ l.length ∧ trimF (l.take p) = trimF l) (fun p => p) l.length ?_ ?_ ?_
 ·exact ⟨Nat.le_refl _, by rw [List.take_length]⟩
 ·exact (hs.cst [(0, rwU l), (3, vi ((l.length : Nat) : Int))] [] rfl).rm [] (by kernel_rfl)
 rintro n hJ a w hs
 obtain ⟨hn, ht⟩ := hJ
 rcases bt (decide ((n : Int) > 0)) with b1 | b1
 ·skip
  have n1 := of_decide_eq_true b1
  rcases bt ((l.getD (((n : Int) - 1).toNat) (dflt (.int .u32))) == 0) with b2 | b2
  ·skip
   have n2 := eq_of_beq b2
   refine wL hs hI [(2, ⟨[], gg [3, 4, 5, 6, 7, 8, 1009] [], []⟩)] [true] 7094803993823006749026000944000 [ty b1, ty b1, ty b1, InR .i64 ((n : Int) - 1), ty b1, 0 ≤ ((n : Int) - 1) ∧ ((n : Int) - 1) < l.length, ty b1, ty b1, ty b1, ty b2, InR .i64 ((n : Int) - 1)] .norm [(0, rwU l), (3, vi ((n : Int) - 1))] [] ⟨tv, tv⟩ ⟨b1, b1, b1, (inR64 (by omega) (by omega)), b1, (by omega), b1, b1, b1, b2, (inR64 (by omega) (by omega)), tv⟩ fun a w hs => ?_
   refine then_norm ⟨n - 1, ⟨by omega, by obtain ⟨m, rfl⟩ : ∃ m, n = m + 1 := ⟨n - 1, by omega⟩; rw [← ht, trimF_zero (n := m) (by omega) (by have h := eq_of_beq b2; rw [← h]; congr 1; omega)]; rfl⟩, by omega, ?_⟩
   (have e0_ : ((n : Int) - 1) = ((((n - 1) : Nat) : Int)) := (by first | rfl | (omega)); exact (hs.cst [(0, rwU l), (3, vi (((n - 1) : Nat) : Int))] [] (by first | (rw [e0_]; done) | (simp only [e0_]; done) | rfl | (simp only [e0_]; rfl))).rm [] (by kernel_rfl))
  ·skip
   have n2 := beq_eq_false_iff_ne.1 b2
   refine wL hs hI [(2, ⟨[], gg [3, 4, 5, 6, 7, 8, 1009] [], []⟩)] [false] 17724232748150698364225250 [ty b1, ty b1, ty b1, InR .i64 ((n : Int) - 1), ty b1, 0 ≤ ((n : Int) - 1) ∧ ((n : Int) - 1) < l.length, ty b1, ty b1, ty b1, ty b2] (.exit 0) [(0, rwU l), (3, vi (n : Int))] [] ⟨tv, tv⟩ ⟨b1, b1, b1, (inR64 (by omega) (by omega)), b1, (by omega), b1, b1, b1, b2, tv⟩ fun a w hs => ?_
   refine then_exit ?_
   refine inb_hit ?_
   refine then_norm ?_
   refine wN hs hI [] 256344050 [0 ≤ (0 : Int) ∧ (0 : Int) ≤ (n : Int) ∧ (n : Int) ≤ (l.length : Int) ∧ (l.length : Int) ≤ (l.length : Int), ((l.take n).length * 4 : Nat) ≤ 140737488355328 ∧ (l.take n).length ≤ 140737488355328] .ret [(2, .own 5003)] [(5003, .sl 160 (.int .u32) (l.take n))] ⟨(by (repeat' apply And.intro) <;> (try split) <;> omega), (by simp only [List.length_take]; omega), tv⟩ fun a w hs => ?_
   exact FnQ_cast (out := .own 160 (.int .u32) (l.take n)) (by obtain ⟨m, rfl⟩ : ∃ m, n = m + 1 := ⟨n - 1, by omega⟩; rw [← ht, trimF_stop (n := m) (by omega) (by have h := beq_eq_false_iff_ne.1 b2; rwa [show (((m + 1 : Nat) : Int) - 1).toNat = m by omega] at h)]) (ret_ok [] hs (.inl ⟨5003, by kernel_rfl, rfl⟩))
 ·skip
  have n1 := of_decide_eq_false b1
  refine wL hs hI [(2, ⟨[], gg [] [3, 4, 5, 6, 7, 8, 1009], []⟩)] [false] 72598457329101500 [ty b1, ty b1, ty b1, ty b1, ty b1, ty b1, ty b1, false = false] (.exit 0) [(0, rwU l), (3, vi (n : Int))] [] ⟨tv, tv⟩ ⟨b1, b1, b1, b1, b1, b1, b1, rfl, tv⟩ fun a w hs => ?_
  refine then_exit ?_
  refine inb_hit ?_
  refine then_norm ?_
  refine wN hs hI [] 256344050 [0 ≤ (0 : Int) ∧ (0 : Int) ≤ (n : Int) ∧ (n : Int) ≤ (l.length : Int) ∧ (l.length : Int) ≤ (l.length : Int), ((l.take n).length * 4 : Nat) ≤ 140737488355328 ∧ (l.take n).length ≤ 140737488355328] .ret [(2, .own 5003)] [(5003, .sl 160 (.int .u32) (l.take n))] ⟨(by (repeat' apply And.intro) <;> (try split) <;> omega), (by simp only [List.length_take]; omega), tv⟩ fun a w hs => ?_
  exact FnQ_cast (out := .own 160 (.int .u32) (l.take n)) (by obtain rfl : n = 0 := (by omega); rw [← ht]; rfl) (ret_ok [] hs (.inl ⟨5003, by kernel_rfl, rfl⟩))
theorem con175 (l : List Int) (i : Int) (ha : Ok l) (hi : 0 ≤ i) : Con Tryz.prog I0 175 [.row (.int .u32) l, vi i] (.val (.lit (.int .u64 (rd l i)))) := by
 refine con_of Tryz.func175 rfl (Nat.le_of_ble_eq_true rfl) stab (fun w0 fz a hI hs => ?_)
 rcases bt (decide (i < (l.length : Int))) with b1 | b1
 ·skip
  have n1 := of_decide_eq_true b1
  refine wN hs hI [true] 1162663078369689843775 [ty b1, 0 ≤ i ∧ i < l.length] .ret [(4, .lit (.int .u64 (IntKind.wrap .u64 (l.getD i.toNat (dflt (.int .u32))))))] [] ⟨b1, (by omega), tv⟩ fun a w hs => ?_
  exact rK (.val (.lit (.int .u64 (IntKind.wrap .u64 (l.getD i.toNat (dflt (.int .u32))))))) [] hs (by rw [wrapU64 (ha.at _).1 (by have := (ha.at i.toNat).2; omega)]; rfl)
 ·skip
  have n1 := of_decide_eq_false b1
  refine wN hs hI [false] 2960242248437525 [ty b1] .ret [(4, .lit (.int .u64 0))] [] ⟨b1, tv⟩ fun a w hs => ?_
  exact rK (.val (.lit (.int .u64 0))) [] hs (by rw [rd_ge (by omega)])
theorem con124 (xs ys : List Int) (ha : Ok xs) (hb : Ok ys) (hl : xs.length < 1000000000) (hm : ys.length < 1000000000) : Con Tryz.prog I0 124 [.row (.int .u32) xs, .row (.int .u32) ys] (.val (vi (cmpV (val xs) (val ys)))) := by
 refine con_of Tryz.func124 rfl (Nat.le_of_ble_eq_true rfl) stab (fun w0 fz a hI hs => ?_)
 refine wp_seq ?_
 refine wN hs hI [] 25 [] .norm [(0, rwU xs), (1, rwU ys)] [] tv fun a w hs => ?_
 refine then_norm ?_
 refine wp_seq ?_
 refine wp_seq ?_
 refine wN hs hI [] 7629303125 [InR .i64 ((max (xs.length : Int) (ys.length : Int)) - 1)] .norm [(0, rwU xs), (1, rwU ys), (5, vi ((max (xs.length : Int) (ys.length : Int)) - 1))] [] ⟨(inR64 (by omega) (by omega)), tv⟩ fun a w hs => ?_
 refine then_norm ?_
 refine wp_block ?_
 refine loop_L (N := Tryz.f124.ntmps) (w0 := w0) (ow := noO fz) (α := Nat) (fun p => [(0, rwU xs), (1, rwU ys), (5, vi ((p : Int) - 1))]) (fun p => []) (fun p => val (xs.drop p) = val (ys.drop p) ∧ p ≤ max xs.length ys.length) (fun p => p) (max xs.length ys.length) ?_ ?_ ?_
 ·exact ⟨by rw [List.drop_of_length_le (by omega), List.drop_of_length_le (by omega)], Nat.le_refl _⟩
 ·(have e0_ : ((max (xs.length : Int) (ys.length : Int)) - 1) = ((((max xs.length ys.length) : Nat) : Int) - 1) := (by first | rfl | (omega)); exact (hs.cst [(0, rwU xs), (1, rwU ys), (5, vi ((((max xs.length ys.length) : Nat) : Int) - 1))] [] (by first | (rw [e0_]; done) | (simp only [e0_]; done) | rfl | (simp only [e0_]; rfl))).rm [] (by kernel_rfl))
 rintro k hJ a w hs
 obtain ⟨hj, hk⟩ := hJ
 rcases bt (decide (((k : Int) - 1) ≥ 0)) with b1 | b1
 ·skip
  have n1 := of_decide_eq_true b1
  rcases bt (decide ((rd xs ((k : Int) - 1)) < (rd ys ((k : Int) - 1)))) with b2 | b2
  ·skip
   have n2 := of_decide_eq_true b2
   refine wL hs hI [(4, ⟨[(2, ciV 175 [rwU xs, vi ((k : Int) - 1)] (.lit (.int .u64 (rd xs ((k : Int) - 1))))), (5, ciV 175 [rwU ys, vi ((k : Int) - 1)] (.lit (.int .u64 (rd ys ((k : Int) - 1)))))], [], []⟩)] [true, true] 29064849018878320788250 [ty b1, ty b2] .ret [(4, vi (-1))] [] ⟨⟨⟨ent175, con175 _ _ (by assumption) (by omega)⟩, ⟨ent175, con175 _ _ (by assumption) (by omega)⟩, tv⟩, tv⟩ ⟨b1, b2, tv⟩ fun a w hs => ?_
   refine then_ret ?_
   refine inb_ret ?_
   refine then_ret ?_
   exact rK (.val (vi (-1))) [] hs (by obtain ⟨j, rfl⟩ : ∃ j, k = j + 1 := ⟨k - 1, by omega⟩; have e1 : (((j + 1 : Nat) : Int) - 1) = (j : Int) := (by omega); have h1 := of_decide_eq_true b2; rw [e1] at h1; have := cmp_lt ha hb hj h1; unfold cmpV; rw [if_pos this])
  ·skip
   have n2 := of_decide_eq_false b2
   rcases bt (decide ((rd xs ((k : Int) - 1)) > (rd ys ((k : Int) - 1)))) with b3 | b3
   ·skip
    have n3 := of_decide_eq_true b3
    refine wL hs hI [(4, ⟨[(2, ciV 175 [rwU xs, vi ((k : Int) - 1)] (.lit (.int .u64 (rd xs ((k : Int) - 1))))), (5, ciV 175 [rwU ys, vi ((k : Int) - 1)] (.lit (.int .u64 (rd ys ((k : Int) - 1)))))], [], []⟩), (6, ⟨[(2, ciV 175 [rwU xs, vi ((k : Int) - 1)] (.lit (.int .u64 (rd xs ((k : Int) - 1))))), (5, ciV 175 [rwU ys, vi ((k : Int) - 1)] (.lit (.int .u64 (rd ys ((k : Int) - 1)))))], [], []⟩)] [true, false, true] 2774814049640906052425503558496569500 [ty b1, ty b2, ty b3] .ret [(4, vi 1)] [] ⟨⟨⟨ent175, con175 _ _ (by assumption) (by omega)⟩, ⟨ent175, con175 _ _ (by assumption) (by omega)⟩, tv⟩, ⟨⟨ent175, con175 _ _ (by assumption) (by omega)⟩, ⟨ent175, con175 _ _ (by assumption) (by omega)⟩, tv⟩, tv⟩ ⟨b1, b2, b3, tv⟩ fun a w hs => ?_
    refine then_ret ?_
    refine inb_ret ?_
    refine then_ret ?_
    exact rK (.val (vi 1)) [] hs (by obtain ⟨j, rfl⟩ : ∃ j, k = j + 1 := ⟨k - 1, by omega⟩; have e1 : (((j + 1 : Nat) : Int) - 1) = (j : Int) := (by omega); have h1 := of_decide_eq_true b3; rw [e1] at h1; have := cmp_lt hb ha hj.symm h1; unfold cmpV; rw [if_neg (by omega), if_pos this])
   ·skip
    have n3 := of_decide_eq_false b3
    refine wL hs hI [(4, ⟨[(2, ciV 175 [rwU xs, vi ((k : Int) - 1)] (.lit (.int .u64 (rd xs ((k : Int) - 1))))), (5, ciV 175 [rwU ys, vi ((k : Int) - 1)] (.lit (.int .u64 (rd ys ((k : Int) - 1)))))], [], []⟩), (6, ⟨[(2, ciV 175 [rwU xs, vi ((k : Int) - 1)] (.lit (.int .u64 (rd xs ((k : Int) - 1))))), (5, ciV 175 [rwU ys, vi ((k : Int) - 1)] (.lit (.int .u64 (rd ys ((k : Int) - 1)))))], [], []⟩)] [true, false, false] 1734204775232225426481798291034082507000 [ty b1, ty b2, ty b3, InR .i64 (((k : Int) - 1) - 1)] .norm [(0, rwU xs), (1, rwU ys), (5, vi (((k : Int) - 1) - 1))] [] ⟨⟨⟨ent175, con175 _ _ (by assumption) (by omega)⟩, ⟨ent175, con175 _ _ (by assumption) (by omega)⟩, tv⟩, ⟨⟨ent175, con175 _ _ (by assumption) (by omega)⟩, ⟨ent175, con175 _ _ (by assumption) (by omega)⟩, tv⟩, tv⟩ ⟨b1, b2, b3, (inR64 (by omega) (by omega)), tv⟩ fun a w hs => ?_
    refine then_norm ⟨k - 1, ⟨by obtain ⟨j, rfl⟩ : ∃ j, k = j + 1 := ⟨k - 1, by omega⟩; have e1 : (((j + 1 : Nat) : Int) - 1) = (j : Int) := (by omega); have h1 := of_decide_eq_false b2; have h2 := of_decide_eq_false b3; rw [e1] at h1 h2; show val (xs.drop j) = val (ys.drop j); rw [rd_drop j, rd_drop j, hj, show rd xs j = rd ys j by omega], by omega⟩, by omega, ?_⟩
    (have e0_ : (((k : Int) - 1) - 1) = ((((k - 1) : Nat) : Int) - 1) := (by first | rfl | (omega)); exact (hs.cst [(0, rwU xs), (1, rwU ys), (5, vi ((((k - 1) : Nat) : Int) - 1))] [] (by first | (rw [e0_]; done) | (simp only [e0_]; done) | rfl | (simp only [e0_]; rfl))).rm [] (by kernel_rfl))
 ·skip
  have n1 := of_decide_eq_false b1
  refine wN hs hI [false] 475750 [ty b1] (.exit 0) [] [] ⟨b1, tv⟩ fun a w hs => ?_
  refine then_exit ?_
  refine inb_hit ?_
  refine then_norm ?_
  refine wN hs hI [] 650 [] .ret [(4, vi 0)] [] tv fun a w hs => ?_
  exact rK (.val (vi 0)) [] hs (by obtain rfl : k = 0 := (by omega); rw [cmp_eq hj])
theorem con218_10 (l : List Int) (ha : Ok l) (hl : l.length < 1000000000) : Con Tryz.prog I0 218 [.row (.int .u32) l, .lit (.int .u32 10)] (.val (.tup [.row (.int .u32) (lim (val l / 10)), .lit (.int .u32 ((val l % 10 : Nat) : Int))])) := by
 refine con_of Tryz.func218 rfl (Nat.le_of_ble_eq_true rfl) stab (fun w0 fz a hI hs => ?_)
 refine wp_seq ?_
 refine wN hs hI [] 750 [] .norm [(0, rwU l), (1, .lit (.int .u32 10))] [] tv fun a w hs => ?_
 refine then_norm ?_
 refine wp_seq ?_
 refine wN hs hI [] 487550 [(l.length : Int) = (l.length : Int) ∧ 0 ≤ (l.length : Int) ∧ (4 : Nat) * (l.length : Int) ≤ 281474976710656 ∧ (l.length : Int) ≤ 9223372036854775807] .norm [(0, rwU l), (1, .lit (.int .u32 10)), (6, .own 2002)] [(2002, .sl 160 (.int .u32) (List.replicate l.length (dflt (.int .u32))))] ⟨(by omega), tv⟩ fun a w hs => ?_
 refine then_norm ?_
 refine wp_seq ?_
 refine wN hs hI [] 25 [] .norm [(0, rwU l), (1, .lit (.int .u32 10)), (6, .own 2002), (7, .lit (.int .u64 0))] [(2002, .sl 160 (.int .u32) (List.replicate l.length (dflt (.int .u32))))] tv fun a w hs => ?_
 refine then_norm ?_
 refine wp_seq ?_
 refine wp_seq ?_
 refine wN hs hI [] 487550 [InR .i64 ((l.length : Int) - 1)] .norm [(0, rwU l), (1, .lit (.int .u32 10)), (6, .own 2002), (7, .lit (.int .u64 0)), (8, vi ((l.length : Int) - 1))] [(2002, .sl 160 (.int .u32) (List.replicate l.length (dflt (.int .u32))))] ⟨(inR64 (by omega) (by omega)), tv⟩ fun a w hs => ?_
 refine then_norm ?_
 refine wp_block ?_
 refine loop_L (N := Tryz.f218.ntmps) (w0 := w0) (ow := noO fz) (α := Nat × List Int × Int) (fun p => [(0, rwU l), (1, .lit (.int .u32 10)), (6, .own 90000001), (7, .lit (.int .u64 p.2.2)), (8, vi (((p.1 : Nat) : Int) - 1))]) (fun p => [(90000001, .sl 160 (.int .u32) p.2.1)]) (fun p => SmallJ l 10 p.1 p.2.1 p.2.2) (fun p => p.1) (l.length, List.replicate l.length (dflt (.int .u32)), 0) ?_ ?_ ?_
 ·exact SmallJ.start (by decide)
 ·exact (hs.cst [(0, rwU l), (1, .lit (.int .u32 10)), (6, .own 2002), (7, .lit (.int .u64 0)), (8, vi (((l.length : Nat) : Int) - 1))] [(2002, .sl 160 (.int .u32) (List.replicate l.length (dflt (.int .u32))))] rfl).rm [(90000001, 2002)] (by kernel_rfl)
 rintro ⟨m, out, r⟩ hJ a w hs
 try dsimp only at hJ
 have hm := hJ.le
 have hln := hJ.len
 have hr0 := hJ.r0
 have hr1 := hJ.r1
 rcases bt (decide (((m : Int) - 1) ≥ 0)) with b1 | b1
 ·skip
  have n1 := of_decide_eq_true b1
  refine wN hs hI [true] 423389838810628482690334203662350769045410632000 [ty b1, 0 ≤ ((m : Int) - 1) ∧ ((m : Int) - 1) < l.length, 0 ≤ ((m : Int) - 1) ∧ ((m : Int) - 1) < out.length, ((m : Int) - 1).toNat < out.length, InR .i64 (((m : Int) - 1) - 1)] .norm [(0, rwU l), (1, .lit (.int .u32 10)), (6, .own 90000001), (7, .lit (.int .u64 ((IntKind.wrap .u64 ((IntKind.wrap .u64 (r * 2 ^ 32)) + (IntKind.wrap .u64 (l.getD (((m : Int) - 1).toNat) (dflt (.int .u32)))))).tmod 10))), (8, vi (((m : Int) - 1) - 1))] [(90000001, .sl 160 (.int .u32) (out.set (((m : Int) - 1).toNat) (IntKind.wrap .u32 (IntKind.wrap .u64 ((IntKind.wrap .u64 ((IntKind.wrap .u64 (r * 2 ^ 32)) + (IntKind.wrap .u64 (l.getD (((m : Int) - 1).toNat) (dflt (.int .u32)))))).tdiv 10)))))] ⟨b1, (by omega), (by omega), (by omega), (inR64 (by omega) (by omega)), tv⟩ fun a w hs => ?_
  refine then_norm ⟨(m - 1, out.set (((m : Int) - 1).toNat) (IntKind.wrap .u32 (IntKind.wrap .u64 ((IntKind.wrap .u64 ((IntKind.wrap .u64 (r * 2 ^ 32)) + (IntKind.wrap .u64 (l.getD (((m : Int) - 1).toNat) (dflt (.int .u32)))))).tdiv 10))), (IntKind.wrap .u64 ((IntKind.wrap .u64 (r * 2 ^ 32)) + (IntKind.wrap .u64 (l.getD (((m : Int) - 1).toNat) (dflt (.int .u32)))))).tmod 10), (by have h := hJ.step ha (by decide) (by decide) (by omega); have hx := ha.at ((m : Int) - 1).toNat; rw [stepX hr0 (by omega) hx.1 hx.2] at h; rw [stepA hr0 (by omega) hx.1 hx.2]; exact h), by omega, ?_⟩
  (have e0_ : ((IntKind.wrap .u64 ((IntKind.wrap .u64 (r * 2 ^ 32)) + (IntKind.wrap .u64 (l.getD (((m : Int) - 1).toNat) (dflt (.int .u32)))))).tmod 10) = (((IntKind.wrap .u64 ((IntKind.wrap .u64 (r * 2 ^ 32)) + (IntKind.wrap .u64 (l.getD (((m : Int) - 1).toNat) (dflt (.int .u32)))))).tmod 10)) := (by first | rfl | (omega)); have e1_ : (((m : Int) - 1) - 1) = ((((m - 1) : Nat) : Int) - 1) := (by first | rfl | (omega)); have e2_ : (out.set (((m : Int) - 1).toNat) (IntKind.wrap .u32 (IntKind.wrap .u64 ((IntKind.wrap .u64 ((IntKind.wrap .u64 (r * 2 ^ 32)) + (IntKind.wrap .u64 (l.getD (((m : Int) - 1).toNat) (dflt (.int .u32)))))).tdiv 10)))) = ((out.set (((m : Int) - 1).toNat) (IntKind.wrap .u32 (IntKind.wrap .u64 ((IntKind.wrap .u64 ((IntKind.wrap .u64 (r * 2 ^ 32)) + (IntKind.wrap .u64 (l.getD (((m : Int) - 1).toNat) (dflt (.int .u32)))))).tdiv 10))))) := (by first | rfl | (omega)); exact (hs.cst [(0, rwU l), (1, .lit (.int .u32 10)), (6, .own 90000001), (7, .lit (.int .u64 ((IntKind.wrap .u64 ((IntKind.wrap .u64 (r * 2 ^ 32)) + (IntKind.wrap .u64 (l.getD (((m : Int) - 1).toNat) (dflt (.int .u32)))))).tmod 10))), (8, vi ((((m - 1) : Nat) : Int) - 1))] [(90000001, .sl 160 (.int .u32) (out.set (((m : Int) - 1).toNat) (IntKind.wrap .u32 (IntKind.wrap .u64 ((IntKind.wrap .u64 ((IntKind.wrap .u64 (r * 2 ^ 32)) + (IntKind.wrap .u64 (l.getD (((m : Int) - 1).toNat) (dflt (.int .u32)))))).tdiv 10)))))] (by first | (rw [e0_, e1_, e2_]; done) | (simp only [e0_, e1_, e2_]; done) | rfl | (simp only [e0_, e1_, e2_]; rfl))).rm [(90000001, 90000001)] (by kernel_rfl))
 ·skip
  have n1 := of_decide_eq_false b1
  refine wN hs hI [false] 475750 [ty b1] (.exit 0) [(6, .own 90000001), (7, .lit (.int .u64 r))] [(90000001, .sl 160 (.int .u32) out)] ⟨b1, tv⟩ fun a w hs => ?_
  refine then_exit ?_
  refine inb_hit ?_
  refine then_norm ?_
  refine wL hs hI [(9, ⟨[(1, ciA 250 [rwU out] [] [90000001] (.own 160 (.int .u32) (trimF out)))], [], []⟩)] [] 6408671890 [] .ret [(4, .own 10001), (5, .lit (.int .u32 (IntKind.wrap .u32 r)))] [(10001, .sl 160 (.int .u32) (trimF out))] ⟨⟨⟨ent250, con250 _ (by have := hJ.len; omega)⟩, tv⟩, tv⟩ tv fun a w hs => ?_
  exact rK (.val (.tup [rwU (trimF out), .lit (.int .u32 (IntKind.wrap .u32 r))])) [10001] hs (by obtain rfl : m = 0 := (by omega); obtain ⟨h1, h2⟩ := hJ.stop ha (by decide); rw [h1, wrapU32 hr0 (by omega), h2]; rfl)
theorem con174 (n : Num) (ha : Ok n.m) (hl : n.m.length < 1000000000) : Con Tryz.prog I0 174 [.agg [vb n.neg, .row (.int .u32) n.m, vi n.e]] (.val (vb (checkN n))) := by
 refine con_of Tryz.func174 rfl (Nat.le_of_ble_eq_true rfl) stab (fun w0 fz a hI hs => ?_)
 rcases bt ((n.m.length : Int) == 0) with b1 | b1
 ·skip
  have n1 := eq_of_beq b1
  rcases bt (n.neg) with b2 | b2
  ·skip
   refine wL hs hI [(3, ⟨[], gg [] [4, 5, 6, 1007], []⟩)] [true] 7103608367983222050477597657000 [ty b1, ty (ng1 b2), ty (ng1 b2), ty (ng1 b2), ty (ng1 b2)] .ret [(2, vb false)] [] ⟨tv, tv⟩ ⟨b1, (ng1 b2), (ng1 b2), (ng1 b2), (ng1 b2), tv⟩ fun a w hs => ?_
   exact rK (.val (vb false)) [] hs (by rw [checkN, if_pos (by omega), b2]; rfl)
  ·skip
   refine wL hs hI [(3, ⟨[], gg [4, 5, 6, 1007] [], []⟩)] [true] 110993880753058086454911042783203875 [ty b1, ty (ng0 b2), ty (ng0 b2), ty (ng0 b2), ty (ng0 b2)] .ret [(2, vb (n.e == 0))] [] ⟨tv, tv⟩ ⟨b1, (ng0 b2), (ng0 b2), (ng0 b2), (ng0 b2), tv⟩ fun a w hs => ?_
   exact rK (.val (vb (n.e == 0))) [] hs (by rw [checkN, if_pos (by omega), b2]; rfl)
 ·skip
  have n1 := beq_eq_false_iff_ne.1 b1
  rcases bt (decide ((n.m.length : Int) > 90)) with b3 | b3
  ·skip
   have n3 := of_decide_eq_true b3
   refine wL hs hI [(4, ⟨[], gg [1010, 1015, 1020] [3, 4, 5, 6, 7, 8, 9, 12, 13, 14, 17, 18, 19], []⟩)] [false, true] 165427259157845465975529460591787937286419679257813250 [ty b1, ty b3, ty b3, ty b3, ty b3, ty b3, ty b3, ty b3, ty b3, true = true, true = true, true = true, true = true, true = true, true = true, true = true, true = true, true = true] .ret [(2, vb false)] [] ⟨tv, tv⟩ ⟨b1, b3, b3, b3, b3, b3, b3, b3, b3, rfl, rfl, rfl, rfl, rfl, rfl, rfl, rfl, rfl, tv⟩ fun a w hs => ?_
   exact rK (.val (vb false)) [] hs (by rw [checkN, if_neg (by omega), if_pos (by omega)])
  ·skip
   have n3 := of_decide_eq_false b3
   rcases bt ((n.m.getD (((n.m.length : Int) - 1).toNat) (dflt (.int .u32))) == 0) with b4 | b4
   ·skip
    have n4 := eq_of_beq b4
    refine wL hs hI [(4, ⟨[], gg [3, 4, 5, 6, 7, 8, 9, 1015, 1020] [1010, 12, 13, 14, 17, 18, 19], []⟩)] [false, true] 1009687861070834142917075973100153779196252192559761811826172625 [ty b1, ty b3, ty b3, ty b3, ty b3, InR .i64 ((n.m.length : Int) - 1), ty b3, 0 ≤ ((n.m.length : Int) - 1) ∧ ((n.m.length : Int) - 1) < n.m.length, ty b3, ty b3, ty b3, ty b4, ty b4, ty b4, ty b4, true = true, true = true, true = true, true = true, true = true] .ret [(2, vb false)] [] ⟨tv, tv⟩ ⟨b1, b3, b3, b3, b3, (inR64 (by omega) (by omega)), b3, (by omega), b3, b3, b3, b4, b4, b4, b4, rfl, rfl, rfl, rfl, rfl, tv⟩ fun a w hs => ?_
    exact rK (.val (vb false)) [] hs (by rw [checkN, if_neg (by omega), if_neg (by omega), if_pos (show rd n.m _ = 0 from eq_of_beq b4)])
   ·skip
    have n4 := beq_eq_false_iff_ne.1 b4
    rcases bt (decide (n.e < (-1200))) with b5 | b5
    ·skip
     have n5 := of_decide_eq_true b5
     refine wL hs hI [(4, ⟨[], gg [3, 4, 5, 6, 7, 8, 9, 12, 13, 14, 1020] [1010, 1015, 17, 18, 19], []⟩)] [false, true] 15776372829231783483079312084856845229315549649375680012513730469500 [ty b1, ty b3, ty b3, ty b3, ty b3, InR .i64 ((n.m.length : Int) - 1), ty b3, 0 ≤ ((n.m.length : Int) - 1) ∧ ((n.m.length : Int) - 1) < n.m.length, ty b3, ty b3, ty b3, ty b4, ty b4, ty b4, ty b4, ty b5, ty b5, ty b5, ty b5, true = true] .ret [(2, vb false)] [] ⟨tv, tv⟩ ⟨b1, b3, b3, b3, b3, (inR64 (by omega) (by omega)), b3, (by omega), b3, b3, b3, b4, b4, b4, b4, b5, b5, b5, b5, rfl, tv⟩ fun a w hs => ?_
     exact rK (.val (vb false)) [] hs (by rw [checkN, if_neg (by omega), if_neg (by omega), if_neg (show ¬ rd n.m _ = 0 from beq_eq_false_iff_ne.1 b4), if_pos (by omega)])
    ·skip
     have n5 := of_decide_eq_false b5
     rcases bt (decide (n.e > 1200)) with b6 | b6
     ·skip
      have n6 := of_decide_eq_true b6
      refine wL hs hI [(4, ⟨[], gg [3, 4, 5, 6, 7, 8, 9, 12, 13, 14, 17, 18, 19] [1010, 1015, 1020], []⟩)] [false, true] 246505825456746616923114251326533523841118740929222743216080476376953875 [ty b1, ty b3, ty b3, ty b3, ty b3, InR .i64 ((n.m.length : Int) - 1), ty b3, 0 ≤ ((n.m.length : Int) - 1) ∧ ((n.m.length : Int) - 1) < n.m.length, ty b3, ty b3, ty b3, ty b4, ty b4, ty b4, ty b4, ty b5, ty b5, ty b5, ty b5, ty b6] .ret [(2, vb false)] [] ⟨tv, tv⟩ ⟨b1, b3, b3, b3, b3, (inR64 (by omega) (by omega)), b3, (by omega), b3, b3, b3, b4, b4, b4, b4, b5, b5, b5, b5, b6, tv⟩ fun a w hs => ?_
      exact rK (.val (vb false)) [] hs (by rw [checkN, if_neg (by omega), if_neg (by omega), if_neg (show ¬ rd n.m _ = 0 from beq_eq_false_iff_ne.1 b4), if_neg (by omega), if_pos (by omega)])
     ·skip
      have n6 := of_decide_eq_false b6
      refine wL hs hI [(6, ⟨[(2, ciV 218 [rwU n.m, .lit (.int .u32 10)] (.tup [rwU (lim (val n.m / 10)), .lit (.int .u32 ((val n.m % 10 : Nat) : Int))]))], [], []⟩), (4, ⟨[], gg [3, 4, 5, 6, 7, 8, 9, 12, 13, 14, 17, 18, 19] [1010, 1015, 1020], []⟩)] [false, false] 14692925566668704801534027051606127322233637813797662204547596811598244312329103085938250 [ty b1, ty b3, ty b3, ty b3, ty b3, InR .i64 ((n.m.length : Int) - 1), ty b3, 0 ≤ ((n.m.length : Int) - 1) ∧ ((n.m.length : Int) - 1) < n.m.length, ty b3, ty b3, ty b3, ty b4, ty b4, ty b4, ty b4, ty b5, ty b5, ty b5, ty b5, ty b6] .ret [(2, vb (((val n.m % 10 : Nat) : Int) != 0))] [] ⟨⟨⟨ent218, con218_10 _ ha hl⟩, tv⟩, tv, tv⟩ ⟨b1, b3, b3, b3, b3, (inR64 (by omega) (by omega)), b3, (by omega), b3, b3, b3, b4, b4, b4, b4, b5, b5, b5, b5, b6, tv⟩ fun a w hs => ?_
      exact rK (.val (vb (((val n.m % 10 : Nat) : Int) != 0))) [] hs (by rw [checkN, if_neg (by omega), if_neg (by omega), if_neg (show ¬ rd n.m _ = 0 from beq_eq_false_iff_ne.1 b4), if_neg (by omega), if_neg (by omega)]; have e1 : (((val n.m % 10 : Nat) : Int) != 0) = decide (val n.m % 10 ≠ 0) := (by rw [Bool.eq_iff_iff, bne_iff_ne, decide_eq_true_iff]; omega); rw [e1])
theorem con123 (n : Num) (ha : Ok n.m) (hl : n.m.length < 1000000000) : Con Tryz.prog I0 123 [.agg [vb n.neg, .row (.int .u32) n.m, vi n.e]] (.val (.agg [vb ((isN n).neg), .row (.int .u32) ((isN n).m), vi ((isN n).e)])) := by
 refine con_of Tryz.func123 rfl (Nat.le_of_ble_eq_true rfl) stab (fun w0 fz a hI hs => ?_)
 rcases bt (checkN n) with b1 | b1
 ·skip
  refine wL hs hI [(1, ⟨[(1, ciV 174 [.agg [vb n.neg, rwU n.m, vi n.e]] (vb (checkN n)))], [], []⟩)] [true] 119055197703875 [ty b1] .ret [(2, .ptr 1001 0)] [(1001, .var [vb n.neg, rwU n.m, vi n.e])] ⟨⟨⟨ent174, con174 _ ha hl⟩, tv⟩, tv⟩ ⟨b1, tv⟩ fun a w hs => ?_
  exact rK (.val (.agg [vb n.neg, rwU n.m, vi n.e])) [] hs (by rw [isN, if_pos b1])
 ·skip
  refine wL hs hI [(1, ⟨[(1, ciV 174 [.agg [vb n.neg, rwU n.m, vi n.e]] (vb (checkN n)))], [], []⟩)] [false] 2960969504344500 [ty b1] .ret [(2, .ptr 1001 0)] [(1001, .var [vb false, nilv, vi 0])] ⟨⟨⟨ent174, con174 _ ha hl⟩, tv⟩, tv⟩ ⟨b1, tv⟩ fun a w hs => ?_
  exact rK (.val (.agg [vb false, rwU ([]), vi 0])) [] hs (by rw [isN, if_neg (by rw [b1]; decide)])
theorem con61 (n k : Num) (ha : Ok n.m) (hb : Ok k.m) (hl : n.m.length < 1000000000) (hm : k.m.length < 1000000000) : Con Tryz.prog I0 61 [.agg [vb n.neg, .row (.int .u32) n.m, vi n.e], .agg [vb k.neg, .row (.int .u32) k.m, vi k.e]] (.val (vb (sameN n k))) := by
 refine con_of Tryz.func61 rfl (Nat.le_of_ble_eq_true rfl) stab (fun w0 fz a hI hs => ?_)
 rcases bt (((isN n).neg) == ((isN k).neg)) with b1 | b1
 ·skip
  have n1 := eq_of_beq b1
  rcases bt (((isN n).e) == ((isN k).e)) with b2 | b2
  ·skip
   have n2 := eq_of_beq b2
   refine wL hs hI [(1, ⟨[(1, ciV 123 [.agg [vb n.neg, rwU n.m, vi n.e]] (.agg [vb ((isN n).neg), rwU ((isN n).m), vi ((isN n).e)])), (3, ciV 123 [.agg [vb k.neg, rwU k.m, vi k.e]] (.agg [vb ((isN k).neg), rwU ((isN k).m), vi ((isN k).e)]))], [], []⟩), (2, ⟨[(17, ciV 124 [rwU ((isN n).m), rwU ((isN k).m)] (vi (cmpV (val ((isN n).m)) (val ((isN k).m)))))], gg [6, 7, 8, 9, 10, 1011, 13, 14, 15, 16, 17, 18, 1019] [], []⟩)] [] 25081990253683114555426990461136268114235766232028603515655488125 [ty b1, ty b1, ty b1, ty b1, ty b1, ty b1, ty b2, ty b2, ty b2, ty b2, ty b2, ty b2, ty b2] .ret [(4, vb ((cmpV (val ((isN n).m)) (val ((isN k).m))) == 0))] [] ⟨⟨⟨ent123, con123 _ (by assumption) (by assumption)⟩, ⟨ent123, con123 _ (by assumption) (by assumption)⟩, tv⟩, ⟨⟨ent124, con124 _ _ (isN_ok ha) (isN_ok hb) (isN_len hl) (isN_len hm)⟩, tv⟩, tv⟩ ⟨b1, b1, b1, b1, b1, b1, b2, b2, b2, b2, b2, b2, b2, tv⟩ fun a w hs => ?_
   exact rK (.val (vb ((cmpV (val ((isN n).m)) (val ((isN k).m))) == 0))) [] hs (by simp only [sameN, cmpV_zero, b1, b2]; rfl)
  ·skip
   have n2 := beq_eq_false_iff_ne.1 b2
   refine wL hs hI [(1, ⟨[(1, ciV 123 [.agg [vb n.neg, rwU n.m, vi n.e]] (.agg [vb ((isN n).neg), rwU ((isN n).m), vi ((isN n).e)])), (3, ciV 123 [.agg [vb k.neg, rwU k.m, vi k.e]] (.agg [vb ((isN k).neg), rwU ((isN k).m), vi ((isN k).e)]))], [], []⟩), (2, ⟨[], gg [6, 7, 8, 9, 10, 1011] [13, 14, 15, 16, 17, 18, 1019], []⟩)] [] 102735832079086037218926818942084840498879551849395722500 [ty b1, ty b1, ty b1, ty b1, ty b1, ty b1, ty b2, ty b2, ty b2, ty b2, ty b2, ty b2, ty b2] .ret [(4, vb false)] [] ⟨⟨⟨ent123, con123 _ (by assumption) (by assumption)⟩, ⟨ent123, con123 _ (by assumption) (by assumption)⟩, tv⟩, tv, tv⟩ ⟨b1, b1, b1, b1, b1, b1, b2, b2, b2, b2, b2, b2, b2, tv⟩ fun a w hs => ?_
   exact rK (.val (vb false)) [] hs (by simp only [sameN, b1, b2]; rfl)
 ·skip
  have n1 := beq_eq_false_iff_ne.1 b1
  refine wL hs hI [(1, ⟨[(1, ciV 123 [.agg [vb n.neg, rwU n.m, vi n.e]] (.agg [vb ((isN n).neg), rwU ((isN n).m), vi ((isN n).e)])), (3, ciV 123 [.agg [vb k.neg, rwU k.m, vi k.e]] (.agg [vb ((isN k).neg), rwU ((isN k).m), vi ((isN k).e)]))], [], []⟩), (2, ⟨[], gg [] [6, 7, 8, 9, 10, 1011, 13, 14, 15, 16, 17, 18, 1019], []⟩)] [] 10520149204898410178543570509180441498718292206875 [ty b1, ty b1, ty b1, ty b1, ty b1, ty b1, false = false, false = false, false = false, false = false, false = false, false = false, false = false] .ret [(4, vb false)] [] ⟨⟨⟨ent123, con123 _ (by assumption) (by assumption)⟩, ⟨ent123, con123 _ (by assumption) (by assumption)⟩, tv⟩, tv, tv⟩ ⟨b1, b1, b1, b1, b1, b1, rfl, rfl, rfl, rfl, rfl, rfl, rfl, tv⟩ fun a w hs => ?_
  exact rK (.val (vb false)) [] hs (by simp only [sameN, b1]; rfl)
mutual
def sameT : Tree → Tree → Bool
 | .mk k b n s ks v, t => if k = t.kind then (if k = 2 then b == t.b else if k = 3 then sameN n t.n else if k = 4 ∨ k = 5 then (s.toList == t.s.toList) else if k = 6 then decide (v.length = t.v.length) && sameL v t.v else if k = 7 then decide (v.length = t.v.length) && (decide (ks.length = t.k.length) && (decide (ks = t.k) && sameL v t.v)) else true) else false
def sameL : List Tree → List Tree → Bool
 | [], _ => true
 | _ :: _, [] => false
 | x :: l, y :: m => sameT x y && sameL l m
end
theorem sameT_eq (t u : Tree) : sameT t u = if t.kind = u.kind then (if t.kind = 2 then t.b == u.b else if t.kind = 3 then sameN t.n u.n else if t.kind = 4 ∨ t.kind = 5 then (t.s.toList == u.s.toList) else if t.kind = 6 then decide (t.v.length = u.v.length) && sameL t.v u.v else if t.kind = 7 then decide (t.v.length = u.v.length) && (decide (t.k.length = u.k.length) && (decide (t.k = u.k) && sameL t.v u.v)) else true) else false := by cases t; rfl
theorem sameL_drop {v m : List Tree} {i : Nat} (hi : i < v.length) (hm : i < m.length) : sameL (v.drop i) (m.drop i) = (sameT (v.getD i (dflt .tree)) (m.getD i (dflt .tree)) && sameL (v.drop (i + 1)) (m.drop (i + 1))) := by
 rw [List.drop_eq_getElem_cons hi, List.drop_eq_getElem_cons hm, sameL]
 have e : v.getD i (dflt .tree) = v[i] := by rw [List.getD_eq_getElem?_getD, List.getElem?_eq_getElem hi]; rfl
 have e' : m.getD i (dflt .tree) = m[i] := by rw [List.getD_eq_getElem?_getD, List.getElem?_eq_getElem hm]; rfl
 rw [e, e']
theorem keys_eq {a b : List ByteArray} (hl : a.length = b.length) (h : ∀ j, j < a.length → a.getD j (dflt .str) = b.getD j (dflt .str)) : a = b := by
 refine List.ext_getElem hl (fun i h1 h2 => ?_)
 have := h i h1
 rw [List.getD_eq_getElem?_getD, List.getD_eq_getElem?_getD, List.getElem?_eq_getElem h1, List.getElem?_eq_getElem h2] at this
 exact this
theorem keys_ne {a b : List ByteArray} {i : Nat} (h : a.getD i (dflt .str) ≠ b.getD i (dflt .str)) : a ≠ b := fun e => h (by rw [e])
theorem con18_ : ∀ (n : Nat) (t u : Tree), nodes t < n → fineT t → fineT u → Con Tryz.prog I0 18 [.agg (encTree t), .agg (encTree u)] (.val (vb (sameT t u))) := by
 intro n
 induction n
 case zero => intro t u hn; omega
 rename_i n ih
 intro t u hn hft hfu
 obtain ⟨⟨hf1, hf2, hf3, hf4⟩, hf5⟩ := (fine_eq t).1 hft
 obtain ⟨⟨hg1, hg2, hg3, hg4⟩, hg5⟩ := (fine_eq u).1 hfu
 refine con_of Tryz.func18 rfl (Nat.le_of_ble_eq_true rfl) stab (fun w0 fz a hI hs => ?_)
 refine wp_seq ?_
 refine wN hs hI [] 19375 [] .norm [(2, .ptr 1000 0), (3, .ptr 1001 0)] [(1000, bTr (t)), (1001, bTr (u))] tv fun a w hs => ?_
 refine then_norm ?_
 refine wp_seq ?_
 rcases bt (t.kind != u.kind) with b1 | b1
 ·skip
  have n1 := bne_iff_ne.1 b1
  refine wN hs hI [true] 4736437984375 [ty b1] .ret [(4, vb false)] [] ⟨b1, tv⟩ fun a w hs => ?_
  refine then_ret ?_
  exact rK (.val (vb false)) [] hs (by rw [sameT_eq]; (repeat (first | rw [if_pos (by omega)] | rw [if_neg (by omega)])))
 ·skip
  have n1 := bne_eq_false_iff_eq.1 b1
  refine wN hs hI [false] 7434078125 [ty b1] .norm [(2, .ptr 1000 0), (3, .ptr 1001 0)] [(1000, bTr (t)), (1001, bTr (u))] ⟨b1, tv⟩ fun a w hs => ?_
  refine then_norm ?_
  refine wp_seq ?_
  refine wp_seq ?_
  refine wN hs hI [] 750 [] .norm [(2, .ptr 1000 0), (3, .ptr 1001 0), (13, vi t.kind)] [(1000, bTr (t)), (1001, bTr (u))] tv fun a w hs => ?_
  refine then_norm ?_
  refine wp_block ?_
  refine wp_seq ?_
  refine wN hs hI [] 750 [] .norm [(2, .ptr 1000 0), (3, .ptr 1001 0), (13, vi t.kind), (14, vb (t.kind == 2))] [(1000, bTr (t)), (1001, bTr (u))] tv fun a w hs => ?_
  refine then_norm ?_
  refine cond_L (c := 14) hs (b := t.kind == 2) rfl (fun hb => ?_) (fun hb => ?_)
  ·have b2 := hb
   clear hb
   have n2 := eq_of_beq b2
   refine wN hs hI [] 6408671875 [] .ret [(4, vb (t.b == u.b))] [] tv fun a w hs => ?_
   refine inb_ret ?_
   refine then_ret ?_
   exact rK (.val (vb (t.b == u.b))) [] hs (by rw [sameT_eq]; (repeat (first | rw [if_pos (by omega)] | rw [if_neg (by omega)])))
  ·have b3 := hb
   clear hb
   have n3 := beq_eq_false_iff_ne.1 b3
   refine wp_seq ?_
   refine wN hs hI [] 750 [] .norm [(2, .ptr 1000 0), (3, .ptr 1001 0), (13, vi t.kind), (21, vb (t.kind == 3))] [(1000, bTr (t)), (1001, bTr (u))] tv fun a w hs => ?_
   refine then_norm ?_
   refine cond_L (c := 21) hs (b := t.kind == 3) rfl (fun hb => ?_) (fun hb => ?_)
   ·have b4 := hb
    clear hb
    have n4 := eq_of_beq b4
    refine wL hs hI [(7, ⟨[(4, ciV 61 [.agg [vb t.n.neg, rwU t.n.m, vi t.n.e], .agg [vb u.n.neg, rwU u.n.m, vi u.n.e]] (vb (sameN t.n u.n)))], [], []⟩)] [] 6408673750 [] .ret [(4, vb (sameN t.n u.n))] [] ⟨⟨⟨ent61, con61 _ _ hf1 hg1 hf2 hg2⟩, tv⟩, tv⟩ tv fun a w hs => ?_
    refine inb_ret ?_
    refine then_ret ?_
    exact rK (.val (vb (sameN t.n u.n))) [] hs (by rw [sameT_eq]; (repeat (first | rw [if_pos (by omega)] | rw [if_neg (by omega)])))
   ·have b5 := hb
    clear hb
    have n5 := beq_eq_false_iff_ne.1 b5
    refine wp_seq ?_
    rcases bt (t.kind == 4) with b6 | b6
    ·skip
     have n6 := eq_of_beq b6
     refine wN hs hI [true] 475750 [ty b6] .norm [(2, .ptr 1000 0), (3, .ptr 1001 0), (13, vi t.kind), (28, vb (t.kind == 4))] [(1000, bTr (t)), (1001, bTr (u))] ⟨b6, tv⟩ fun a w hs => ?_
     refine then_norm ?_
     refine cond_L (c := 28) hs (b := t.kind == 4) rfl (fun hb => ?_) (fun hb => ?_)
     ·have b7 := hb
      clear hb
      have n7 := eq_of_beq b7
      refine wN hs hI [] 6408671875 [] .ret [(4, vb (t.s.toList == u.s.toList))] [] tv fun a w hs => ?_
      refine inb_ret ?_
      refine then_ret ?_
      exact rK (.val (vb (t.s.toList == u.s.toList))) [] hs (by rw [sameT_eq]; (repeat (first | rw [if_pos (by omega)] | rw [if_neg (by omega)])))
     ·exact absurd ((show (t.kind == 4) = true by exact b6).symm.trans hb) (by decide)
    ·skip
     have n6 := beq_eq_false_iff_ne.1 b6
     refine wN hs hI [false] 304694500 [ty b6] .norm [(2, .ptr 1000 0), (3, .ptr 1001 0), (13, vi t.kind), (28, vb (t.kind == 5))] [(1000, bTr (t)), (1001, bTr (u))] ⟨b6, tv⟩ fun a w hs => ?_
     refine then_norm ?_
     refine cond_L (c := 28) hs (b := t.kind == 5) rfl (fun hb => ?_) (fun hb => ?_)
     ·have b9 := hb
      clear hb
      have n9 := eq_of_beq b9
      refine wN hs hI [] 6408671875 [] .ret [(4, vb (t.s.toList == u.s.toList))] [] tv fun a w hs => ?_
      refine inb_ret ?_
      refine then_ret ?_
      exact rK (.val (vb (t.s.toList == u.s.toList))) [] hs (by rw [sameT_eq]; (repeat (first | rw [if_pos (by omega)] | rw [if_neg (by omega)])))
     ·have b10 := hb
      clear hb
      have n10 := beq_eq_false_iff_ne.1 b10
      refine wp_seq ?_
      rcases bt (t.kind == 6) with b11 | b11
      ·skip
       have n11 := eq_of_beq b11
       refine wN hs hI [true] 475750 [ty b11] .norm [(2, .ptr 1000 0), (3, .ptr 1001 0), (36, vb (t.kind == 6))] [(1000, bTr (t)), (1001, bTr (u))] ⟨b11, tv⟩ fun a w hs => ?_
       refine then_norm ?_
       refine cond_L (c := 36) hs (b := t.kind == 6) rfl (fun hb => ?_) (fun hb => ?_)
       ·have b12 := hb
        clear hb
        have n12 := eq_of_beq b12
        refine wp_seq ?_
        rcases bt ((t.v.length : Int) != (u.v.length : Int)) with b13 | b13
        ·skip
         have n13 := bne_iff_ne.1 b13
         refine wL hs hI [(13, ⟨[], gg [1020] [8, 9, 10, 11, 19], []⟩)] [true] 110278790543816285207500457885546875 [ty b13, ty b13, ty b13, ty b13, ty b13, ty b13, true = true] .ret [(4, vb false)] [] ⟨tv, tv⟩ ⟨b13, b13, b13, b13, b13, b13, rfl, tv⟩ fun a w hs => ?_
         refine then_ret ?_
         refine inb_ret ?_
         refine then_ret ?_
         exact rK (.val (vb false)) [] hs (by rw [sameT_eq]; (repeat (first | rw [if_pos (by omega)] | rw [if_neg (by omega)])); rw [decide_eq_false (by omega)]; rfl)
        ·skip
         have n13 := bne_eq_false_iff_eq.1 b13
         have b14 : (t.kind == 7) = false := by rw [show t.kind = 6 from eq_of_beq b11]; rfl
         refine wL hs hI [(13, ⟨[], gg [8, 9, 10, 11, 19] [12, 13, 14, 15, 16, 17, 18, 1019, 1020], []⟩)] [false] 1690314554991800832793861627515157031250 [ty b13, ty b13, ty b13, ty b13, ty b14, ty b14, ty b14, ty b14, ty b14, ty b14, ty b14, ty b13, ty b14, ty b13, false = false] .norm [(2, .ptr 1000 0), (3, .ptr 1001 0)] [(1000, bTr (t)), (1001, bTr (u))] ⟨tv, tv⟩ ⟨b13, b13, b13, b13, b14, b14, b14, b14, b14, b14, b14, b13, b14, b13, rfl, tv⟩ fun a w hs => ?_
         refine then_norm ?_
         refine wp_seq ?_
         refine wp_seq ?_
         refine wN hs hI [] 25 [] .norm [(2, .ptr 1000 0), (3, .ptr 1001 0), (5, vi 0)] [(1000, bTr (t)), (1001, bTr (u))] tv fun a w hs => ?_
         refine then_norm ?_
         refine wp_block ?_
         refine loop_L (N := Tryz.f18.ntmps) (w0 := w0) (ow := noO fz) (α := Nat) (fun p => [(2, .ptr 1000 0), (3, .ptr 1001 0), (5, vi (p : Int))]) (fun p => [(1000, bTr (t)), (1001, bTr (u))]) (fun p => p ≤ t.k.length ∧ ∀ j, j < p → t.k.getD j (dflt .str) = u.k.getD j (dflt .str)) (fun p => t.k.length - p) 0 ?_ ?_ ?_
         ·exact ⟨Nat.zero_le _, fun j hj => absurd hj (Nat.not_lt_zero _)⟩
         ·exact (hs.cst [(2, .ptr 1000 0), (3, .ptr 1001 0), (5, vi ((0 : Nat) : Int))] [(1000, bTr (t)), (1001, bTr (u))] rfl).rm [(1000, 1000), (1001, 1001)] (by kernel_rfl)
         rintro i hJ a w hs
         obtain ⟨hi, hall⟩ := hJ
         rcases bt (decide ((i : Int) < (t.k.length : Int))) with b15 | b15
         ·skip
          have n15 := of_decide_eq_true b15
          refine wL hs hI [(16, ⟨[], gg [6, 7, 8, 1009] [], []⟩)] [false] 1134350895880635578125 [ty b15, ty b15, ty b15, ty b15, ty b14] (.exit 1) [(2, .ptr 1000 0), (3, .ptr 1001 0)] [(1000, bTr (t)), (1001, bTr (u))] ⟨tv, tv⟩ ⟨b15, b15, b15, b15, b14, tv⟩ fun a w hs => ?_
          refine then_exit ?_
          refine inb_hit ?_
          refine then_norm ?_
          refine wp_seq ?_
          refine wN hs hI [] 25 [] .norm [(2, .ptr 1000 0), (3, .ptr 1001 0), (6, vi 0)] [(1000, bTr (t)), (1001, bTr (u))] tv fun a w hs => ?_
          refine then_norm ?_
          refine wp_block ?_
          refine loop_L (N := Tryz.f18.ntmps) (w0 := w0) (ow := noO fz) (α := Nat) (fun p => [(2, .ptr 1000 0), (3, .ptr 1001 0), (6, vi (p : Int))]) (fun p => [(1000, bTr (t)), (1001, bTr (u))]) (fun p => p ≤ t.v.length ∧ sameL (t.v.drop p) (u.v.drop p) = sameL t.v u.v) (fun p => t.v.length - p) 0 ?_ ?_ ?_
          ·exact ⟨Nat.zero_le _, rfl⟩
          ·exact (hs.cst [(2, .ptr 1000 0), (3, .ptr 1001 0), (6, vi ((0 : Nat) : Int))] [(1000, bTr (t)), (1001, bTr (u))] rfl).rm [(1000, 1000), (1001, 1001)] (by kernel_rfl)
          rintro i hJ a w hs
          obtain ⟨hi, hd⟩ := hJ
          rcases bt (decide ((i : Int) < (t.v.length : Int))) with b16 | b16
          ·skip
           have n16 := of_decide_eq_true b16
           rcases bt (sameT (t.v.getD i (dflt .tree)) (u.v.getD i (dflt .tree))) with b17 | b17
           ·skip
            refine wL hs hI [(23, ⟨[(10, ciV 18 [aTr ((t.v.getD i (dflt .tree))), aTr ((u.v.getD i (dflt .tree)))] (vb (sameT (t.v.getD i (dflt .tree)) (u.v.getD i (dflt .tree)))))], [], []⟩)] [true, false] 2774727611267735474729545600695796875 [ty b16, 0 ≤ (i : Int) ∧ (i : Int) < t.v.length, 0 ≤ (i : Int) ∧ (i : Int) < u.v.length, ty (ng1 b17), InR .i64 ((i : Int) + 1)] .norm [(2, .ptr 1000 0), (3, .ptr 1001 0), (6, vi ((i : Int) + 1))] [(1000, bTr (t)), (1001, bTr (u))] ⟨⟨⟨ent18, ih _ _ (by have h1 := nodes_eq t; have h2 := nodes_at (l := t.v) (i := i) (by omega); omega) (fine_at hft (by omega) _) (fine_at hfu (by omega) _)⟩, tv⟩, tv⟩ ⟨b16, (by omega), (by omega), (ng1 b17), (inR64 (by omega) (by omega)), tv⟩ fun a w hs => ?_
            refine then_norm ⟨i + 1, ⟨by omega, by rw [← hd, sameL_drop (i := i) (by omega) (by omega), b17]; rfl⟩, by omega, ?_⟩
            (have e0_ : ((i : Int) + 1) = ((((i + 1) : Nat) : Int)) := (by first | rfl | (omega)); exact (hs.cst [(2, .ptr 1000 0), (3, .ptr 1001 0), (6, vi (((i + 1) : Nat) : Int))] [(1000, bTr (t)), (1001, bTr (u))] (by first | (rw [e0_]; done) | (simp only [e0_]; done) | rfl | (simp only [e0_]; rfl))).rm [(1000, 1000), (1001, 1001)] (by kernel_rfl))
           ·skip
            refine wL hs hI [(23, ⟨[(10, ciV 18 [aTr ((t.v.getD i (dflt .tree))), aTr ((u.v.getD i (dflt .tree)))] (vb (sameT (t.v.getD i (dflt .tree)) (u.v.getD i (dflt .tree)))))], [], []⟩)] [true, true] 4434944003151022815711982531734375 [ty b16, 0 ≤ (i : Int) ∧ (i : Int) < t.v.length, 0 ≤ (i : Int) ∧ (i : Int) < u.v.length, ty (ng0 b17)] .ret [(4, vb false)] [] ⟨⟨⟨ent18, ih _ _ (by have h1 := nodes_eq t; have h2 := nodes_at (l := t.v) (i := i) (by omega); omega) (fine_at hft (by omega) _) (fine_at hfu (by omega) _)⟩, tv⟩, tv⟩ ⟨b16, (by omega), (by omega), (ng0 b17), tv⟩ fun a w hs => ?_
            refine then_ret ?_
            refine inb_ret ?_
            refine inb_ret ?_
            refine then_ret ?_
            exact rK (.val (vb false)) [] hs (by rw [sameT_eq]; (repeat (first | rw [if_pos (by omega)] | rw [if_neg (by omega)])); rw [decide_eq_true (by omega), ← hd, sameL_drop (i := i) (by omega) (by omega), b17]; rfl)
          ·skip
           have n16 := of_decide_eq_false b16
           refine wN hs hI [false] 7434078125 [ty b16] (.exit 3) [] [] ⟨b16, tv⟩ fun a w hs => ?_
           refine then_exit ?_
           refine inb_hit ?_
           refine inb_norm ?_
           refine then_norm ?_
           refine wN hs hI [] 650 [] .ret [(4, vb true)] [] tv fun a w hs => ?_
           exact rK (.val (vb true)) [] hs (by rw [sameT_eq]; (repeat (first | rw [if_pos (by omega)] | rw [if_neg (by omega)])); rw [decide_eq_true (by omega), ← hd, List.drop_of_length_le (by omega)]; rfl)
         ·skip
          have n15 := of_decide_eq_false b15
          refine wL hs hI [(16, ⟨[], gg [] [6, 7, 8, 1009], []⟩)] [false] 72598457329093750 [ty b15, ty b15, ty b15, ty b15, false = false] (.exit 1) [(2, .ptr 1000 0), (3, .ptr 1001 0)] [(1000, bTr (t)), (1001, bTr (u))] ⟨tv, tv⟩ ⟨b15, b15, b15, b15, rfl, tv⟩ fun a w hs => ?_
          refine then_exit ?_
          refine inb_hit ?_
          refine then_norm ?_
          refine wp_seq ?_
          refine wN hs hI [] 25 [] .norm [(2, .ptr 1000 0), (3, .ptr 1001 0), (6, vi 0)] [(1000, bTr (t)), (1001, bTr (u))] tv fun a w hs => ?_
          refine then_norm ?_
          refine wp_block ?_
          refine loop_L (N := Tryz.f18.ntmps) (w0 := w0) (ow := noO fz) (α := Nat) (fun p => [(2, .ptr 1000 0), (3, .ptr 1001 0), (6, vi (p : Int))]) (fun p => [(1000, bTr (t)), (1001, bTr (u))]) (fun p => p ≤ t.v.length ∧ sameL (t.v.drop p) (u.v.drop p) = sameL t.v u.v) (fun p => t.v.length - p) 0 ?_ ?_ ?_
          ·exact ⟨Nat.zero_le _, rfl⟩
          ·exact (hs.cst [(2, .ptr 1000 0), (3, .ptr 1001 0), (6, vi ((0 : Nat) : Int))] [(1000, bTr (t)), (1001, bTr (u))] rfl).rm [(1000, 1000), (1001, 1001)] (by kernel_rfl)
          rintro i hJ a w hs
          obtain ⟨hi, hd⟩ := hJ
          rcases bt (decide ((i : Int) < (t.v.length : Int))) with b18 | b18
          ·skip
           have n18 := of_decide_eq_true b18
           rcases bt (sameT (t.v.getD i (dflt .tree)) (u.v.getD i (dflt .tree))) with b19 | b19
           ·skip
            refine wL hs hI [(23, ⟨[(10, ciV 18 [aTr ((t.v.getD i (dflt .tree))), aTr ((u.v.getD i (dflt .tree)))] (vb (sameT (t.v.getD i (dflt .tree)) (u.v.getD i (dflt .tree)))))], [], []⟩)] [true, false] 2774727611267735474729545600695796875 [ty b18, 0 ≤ (i : Int) ∧ (i : Int) < t.v.length, 0 ≤ (i : Int) ∧ (i : Int) < u.v.length, ty (ng1 b19), InR .i64 ((i : Int) + 1)] .norm [(2, .ptr 1000 0), (3, .ptr 1001 0), (6, vi ((i : Int) + 1))] [(1000, bTr (t)), (1001, bTr (u))] ⟨⟨⟨ent18, ih _ _ (by have h1 := nodes_eq t; have h2 := nodes_at (l := t.v) (i := i) (by omega); omega) (fine_at hft (by omega) _) (fine_at hfu (by omega) _)⟩, tv⟩, tv⟩ ⟨b18, (by omega), (by omega), (ng1 b19), (inR64 (by omega) (by omega)), tv⟩ fun a w hs => ?_
            refine then_norm ⟨i + 1, ⟨by omega, by rw [← hd, sameL_drop (i := i) (by omega) (by omega), b19]; rfl⟩, by omega, ?_⟩
            (have e0_ : ((i : Int) + 1) = ((((i + 1) : Nat) : Int)) := (by first | rfl | (omega)); exact (hs.cst [(2, .ptr 1000 0), (3, .ptr 1001 0), (6, vi (((i + 1) : Nat) : Int))] [(1000, bTr (t)), (1001, bTr (u))] (by first | (rw [e0_]; done) | (simp only [e0_]; done) | rfl | (simp only [e0_]; rfl))).rm [(1000, 1000), (1001, 1001)] (by kernel_rfl))
           ·skip
            refine wL hs hI [(23, ⟨[(10, ciV 18 [aTr ((t.v.getD i (dflt .tree))), aTr ((u.v.getD i (dflt .tree)))] (vb (sameT (t.v.getD i (dflt .tree)) (u.v.getD i (dflt .tree)))))], [], []⟩)] [true, true] 4434944003151022815711982531734375 [ty b18, 0 ≤ (i : Int) ∧ (i : Int) < t.v.length, 0 ≤ (i : Int) ∧ (i : Int) < u.v.length, ty (ng0 b19)] .ret [(4, vb false)] [] ⟨⟨⟨ent18, ih _ _ (by have h1 := nodes_eq t; have h2 := nodes_at (l := t.v) (i := i) (by omega); omega) (fine_at hft (by omega) _) (fine_at hfu (by omega) _)⟩, tv⟩, tv⟩ ⟨b18, (by omega), (by omega), (ng0 b19), tv⟩ fun a w hs => ?_
            refine then_ret ?_
            refine inb_ret ?_
            refine inb_ret ?_
            refine then_ret ?_
            exact rK (.val (vb false)) [] hs (by rw [sameT_eq]; (repeat (first | rw [if_pos (by omega)] | rw [if_neg (by omega)])); rw [decide_eq_true (by omega), ← hd, sameL_drop (i := i) (by omega) (by omega), b19]; rfl)
          ·skip
           have n18 := of_decide_eq_false b18
           refine wN hs hI [false] 7434078125 [ty b18] (.exit 3) [] [] ⟨b18, tv⟩ fun a w hs => ?_
           refine then_exit ?_
           refine inb_hit ?_
           refine inb_norm ?_
           refine then_norm ?_
           refine wN hs hI [] 650 [] .ret [(4, vb true)] [] tv fun a w hs => ?_
           exact rK (.val (vb true)) [] hs (by rw [sameT_eq]; (repeat (first | rw [if_pos (by omega)] | rw [if_neg (by omega)])); rw [decide_eq_true (by omega), ← hd, List.drop_of_length_le (by omega)]; rfl)
       ·exact absurd ((show (t.kind == 6) = true by exact b11).symm.trans hb) (by decide)
      ·skip
       have n11 := beq_eq_false_iff_ne.1 b11
       refine wN hs hI [false] 304694500 [ty b11] .norm [(2, .ptr 1000 0), (3, .ptr 1001 0), (36, vb (t.kind == 7))] [(1000, bTr (t)), (1001, bTr (u))] ⟨b11, tv⟩ fun a w hs => ?_
       refine then_norm ?_
       refine cond_L (c := 36) hs (b := t.kind == 7) rfl (fun hb => ?_) (fun hb => ?_)
       ·have b21 := hb
        clear hb
        have n21 := eq_of_beq b21
        refine wp_seq ?_
        rcases bt ((t.v.length : Int) != (u.v.length : Int)) with b22 | b22
        ·skip
         have n22 := bne_iff_ne.1 b22
         refine wL hs hI [(13, ⟨[], gg [1020] [8, 9, 10, 11, 19], []⟩)] [true] 110278790543816285207500457885546875 [ty b22, ty b22, ty b22, ty b22, ty b22, ty b22, true = true] .ret [(4, vb false)] [] ⟨tv, tv⟩ ⟨b22, b22, b22, b22, b22, b22, rfl, tv⟩ fun a w hs => ?_
         refine then_ret ?_
         refine inb_ret ?_
         refine then_ret ?_
         exact rK (.val (vb false)) [] hs (by rw [sameT_eq]; (repeat (first | rw [if_pos (by omega)] | rw [if_neg (by omega)])); rw [decide_eq_false (by omega)]; rfl)
        ·skip
         have n22 := bne_eq_false_iff_eq.1 b22
         rcases bt ((t.k.length : Int) != (u.k.length : Int)) with b23 | b23
         ·skip
          have n23 := bne_iff_ne.1 b23
          refine wL hs hI [(13, ⟨[], gg [8, 9, 10, 11, 12, 13, 14, 15, 16, 17, 18, 19, 1019] [1020], []⟩)] [true] 6573128136623876405231214903236444418629010518359375 [ty b22, ty b22, ty b22, ty b22, ty b21, ty b21, ty b21, ty b21, ty b21, ty b21, ty b21, ty b22, ty b21, ty b22, ty b23] .ret [(4, vb false)] [] ⟨tv, tv⟩ ⟨b22, b22, b22, b22, b21, b21, b21, b21, b21, b21, b21, b22, b21, b22, b23, tv⟩ fun a w hs => ?_
          refine then_ret ?_
          refine inb_ret ?_
          refine then_ret ?_
          exact rK (.val (vb false)) [] hs (by rw [sameT_eq]; (repeat (first | rw [if_pos (by omega)] | rw [if_neg (by omega)])); rw [decide_eq_true (show t.v.length = u.v.length by omega), decide_eq_false (show ¬ t.k.length = u.k.length by omega)]; rfl)
         ·skip
          have n23 := bne_eq_false_iff_eq.1 b23
          refine wL hs hI [(13, ⟨[], gg [8, 9, 10, 11, 12, 13, 14, 15, 16, 17, 18, 19, 1019] [1020], []⟩)] [false] 10316861297557378129852167970578496654828389453125 [ty b22, ty b22, ty b22, ty b22, ty b21, ty b21, ty b21, ty b21, ty b21, ty b21, ty b21, ty b22, ty b21, ty b22, ty b23] .norm [(2, .ptr 1000 0), (3, .ptr 1001 0)] [(1000, bTr (t)), (1001, bTr (u))] ⟨tv, tv⟩ ⟨b22, b22, b22, b22, b21, b21, b21, b21, b21, b21, b21, b22, b21, b22, b23, tv⟩ fun a w hs => ?_
          refine then_norm ?_
          refine wp_seq ?_
          refine wp_seq ?_
          refine wN hs hI [] 25 [] .norm [(2, .ptr 1000 0), (3, .ptr 1001 0), (5, vi 0)] [(1000, bTr (t)), (1001, bTr (u))] tv fun a w hs => ?_
          refine then_norm ?_
          refine wp_block ?_
          refine loop_L (N := Tryz.f18.ntmps) (w0 := w0) (ow := noO fz) (α := Nat) (fun p => [(2, .ptr 1000 0), (3, .ptr 1001 0), (5, vi (p : Int))]) (fun p => [(1000, bTr (t)), (1001, bTr (u))]) (fun p => p ≤ t.k.length ∧ ∀ j, j < p → t.k.getD j (dflt .str) = u.k.getD j (dflt .str)) (fun p => t.k.length - p) 0 ?_ ?_ ?_
          ·exact ⟨Nat.zero_le _, fun j hj => absurd hj (Nat.not_lt_zero _)⟩
          ·exact (hs.cst [(2, .ptr 1000 0), (3, .ptr 1001 0), (5, vi ((0 : Nat) : Int))] [(1000, bTr (t)), (1001, bTr (u))] rfl).rm [(1000, 1000), (1001, 1001)] (by kernel_rfl)
          rintro i hJ a w hs
          obtain ⟨hi, hall⟩ := hJ
          rcases bt (decide ((i : Int) < (t.k.length : Int))) with b24 | b24
          ·skip
           have n24 := of_decide_eq_true b24
           rcases bt ((t.k.getD i (dflt .str)).toList == (u.k.getD i (dflt .str)).toList) with b25 | b25
           ·skip
            have n25 := eq_of_beq b25
            refine wL hs hI [(16, ⟨[], gg [6, 7, 8, 1009] [], []⟩)] [true, false] 16935593330491549299041508900001645087178546875 [ty b24, ty b24, ty b24, ty b24, ty b21, 0 ≤ (i : Int) ∧ (i : Int) < t.k.length, 0 ≤ (i : Int) ∧ (i : Int) < u.k.length, ty (ng1 b25), InR .i64 ((i : Int) + 1)] .norm [(2, .ptr 1000 0), (3, .ptr 1001 0), (5, vi ((i : Int) + 1))] [(1000, bTr (t)), (1001, bTr (u))] ⟨tv, tv⟩ ⟨b24, b24, b24, b24, b21, (by omega), (by omega), (ng1 b25), (inR64 (by omega) (by omega)), tv⟩ fun a w hs => ?_
            refine then_norm ⟨i + 1, ⟨by omega, fun j hj => by rcases Nat.lt_succ_iff_lt_or_eq.1 hj with h | h; exact hall j h; subst h; exact eqT_iff.1 b25⟩, by omega, ?_⟩
            (have e0_ : ((i : Int) + 1) = ((((i + 1) : Nat) : Int)) := (by first | rfl | (omega)); exact (hs.cst [(2, .ptr 1000 0), (3, .ptr 1001 0), (5, vi (((i + 1) : Nat) : Int))] [(1000, bTr (t)), (1001, bTr (u))] (by first | (rw [e0_]; done) | (simp only [e0_]; done) | rfl | (simp only [e0_]; rfl))).rm [(1000, 1000), (1001, 1001)] (by kernel_rfl))
           ·skip
            have n25 := beq_eq_false_iff_ne.1 b25
            refine wL hs hI [(16, ⟨[], gg [6, 7, 8, 1009] [], []⟩)] [true, true] 27068750019232087653364257887005804951984375 [ty b24, ty b24, ty b24, ty b24, ty b21, 0 ≤ (i : Int) ∧ (i : Int) < t.k.length, 0 ≤ (i : Int) ∧ (i : Int) < u.k.length, ty (ng0 b25)] .ret [(4, vb false)] [] ⟨tv, tv⟩ ⟨b24, b24, b24, b24, b21, (by omega), (by omega), (ng0 b25), tv⟩ fun a w hs => ?_
            refine then_ret ?_
            refine inb_ret ?_
            refine then_ret ?_
            refine inb_ret ?_
            refine then_ret ?_
            exact rK (.val (vb false)) [] hs (by rw [sameT_eq]; (repeat (first | rw [if_pos (by omega)] | rw [if_neg (by omega)])); rw [decide_eq_true (show t.v.length = u.v.length by omega), decide_eq_true (show t.k.length = u.k.length by omega), decide_eq_false (keys_ne (i := i) (eqT_ne.1 b25))]; rfl)
          ·skip
           have n24 := of_decide_eq_false b24
           refine wL hs hI [(16, ⟨[], gg [] [6, 7, 8, 1009], []⟩)] [false] 72598457329093750 [ty b24, ty b24, ty b24, ty b24, false = false] (.exit 1) [(2, .ptr 1000 0), (3, .ptr 1001 0)] [(1000, bTr (t)), (1001, bTr (u))] ⟨tv, tv⟩ ⟨b24, b24, b24, b24, rfl, tv⟩ fun a w hs => ?_
           refine then_exit ?_
           refine inb_hit ?_
           refine then_norm ?_
           refine wp_seq ?_
           refine wN hs hI [] 25 [] .norm [(2, .ptr 1000 0), (3, .ptr 1001 0), (6, vi 0)] [(1000, bTr (t)), (1001, bTr (u))] tv fun a w hs => ?_
           refine then_norm ?_
           refine wp_block ?_
           refine loop_L (N := Tryz.f18.ntmps) (w0 := w0) (ow := noO fz) (α := Nat) (fun p => [(2, .ptr 1000 0), (3, .ptr 1001 0), (6, vi (p : Int))]) (fun p => [(1000, bTr (t)), (1001, bTr (u))]) (fun p => p ≤ t.v.length ∧ sameL (t.v.drop p) (u.v.drop p) = sameL t.v u.v) (fun p => t.v.length - p) 0 ?_ ?_ ?_
           ·exact ⟨Nat.zero_le _, rfl⟩
           ·exact (hs.cst [(2, .ptr 1000 0), (3, .ptr 1001 0), (6, vi ((0 : Nat) : Int))] [(1000, bTr (t)), (1001, bTr (u))] rfl).rm [(1000, 1000), (1001, 1001)] (by kernel_rfl)
           rintro i hJ a w hs
           obtain ⟨hi, hd⟩ := hJ
           rcases bt (decide ((i : Int) < (t.v.length : Int))) with b26 | b26
           ·skip
            have n26 := of_decide_eq_true b26
            rcases bt (sameT (t.v.getD i (dflt .tree)) (u.v.getD i (dflt .tree))) with b27 | b27
            ·skip
             refine wL hs hI [(23, ⟨[(10, ciV 18 [aTr ((t.v.getD i (dflt .tree))), aTr ((u.v.getD i (dflt .tree)))] (vb (sameT (t.v.getD i (dflt .tree)) (u.v.getD i (dflt .tree)))))], [], []⟩)] [true, false] 2774727611267735474729545600695796875 [ty b26, 0 ≤ (i : Int) ∧ (i : Int) < t.v.length, 0 ≤ (i : Int) ∧ (i : Int) < u.v.length, ty (ng1 b27), InR .i64 ((i : Int) + 1)] .norm [(2, .ptr 1000 0), (3, .ptr 1001 0), (6, vi ((i : Int) + 1))] [(1000, bTr (t)), (1001, bTr (u))] ⟨⟨⟨ent18, ih _ _ (by have h1 := nodes_eq t; have h2 := nodes_at (l := t.v) (i := i) (by omega); omega) (fine_at hft (by omega) _) (fine_at hfu (by omega) _)⟩, tv⟩, tv⟩ ⟨b26, (by omega), (by omega), (ng1 b27), (inR64 (by omega) (by omega)), tv⟩ fun a w hs => ?_
             refine then_norm ⟨i + 1, ⟨by omega, by rw [← hd, sameL_drop (i := i) (by omega) (by omega), b27]; rfl⟩, by omega, ?_⟩
             (have e0_ : ((i : Int) + 1) = ((((i + 1) : Nat) : Int)) := (by first | rfl | (omega)); exact (hs.cst [(2, .ptr 1000 0), (3, .ptr 1001 0), (6, vi (((i + 1) : Nat) : Int))] [(1000, bTr (t)), (1001, bTr (u))] (by first | (rw [e0_]; done) | (simp only [e0_]; done) | rfl | (simp only [e0_]; rfl))).rm [(1000, 1000), (1001, 1001)] (by kernel_rfl))
            ·skip
             refine wL hs hI [(23, ⟨[(10, ciV 18 [aTr ((t.v.getD i (dflt .tree))), aTr ((u.v.getD i (dflt .tree)))] (vb (sameT (t.v.getD i (dflt .tree)) (u.v.getD i (dflt .tree)))))], [], []⟩)] [true, true] 4434944003151022815711982531734375 [ty b26, 0 ≤ (i : Int) ∧ (i : Int) < t.v.length, 0 ≤ (i : Int) ∧ (i : Int) < u.v.length, ty (ng0 b27)] .ret [(4, vb false)] [] ⟨⟨⟨ent18, ih _ _ (by have h1 := nodes_eq t; have h2 := nodes_at (l := t.v) (i := i) (by omega); omega) (fine_at hft (by omega) _) (fine_at hfu (by omega) _)⟩, tv⟩, tv⟩ ⟨b26, (by omega), (by omega), (ng0 b27), tv⟩ fun a w hs => ?_
             refine then_ret ?_
             refine inb_ret ?_
             refine inb_ret ?_
             refine then_ret ?_
             exact rK (.val (vb false)) [] hs (by rw [sameT_eq]; (repeat (first | rw [if_pos (by omega)] | rw [if_neg (by omega)])); rw [decide_eq_true (show t.v.length = u.v.length by omega), decide_eq_true (show t.k.length = u.k.length by omega), decide_eq_true (keys_eq (a := t.k) (b := u.k) (by omega) (fun j hj => hall j (by omega))), ← hd, sameL_drop (i := i) (by omega) (by omega), b27]; rfl)
           ·skip
            have n26 := of_decide_eq_false b26
            refine wN hs hI [false] 7434078125 [ty b26] (.exit 3) [] [] ⟨b26, tv⟩ fun a w hs => ?_
            refine then_exit ?_
            refine inb_hit ?_
            refine inb_norm ?_
            refine then_norm ?_
            refine wN hs hI [] 650 [] .ret [(4, vb true)] [] tv fun a w hs => ?_
            exact rK (.val (vb true)) [] hs (by rw [sameT_eq]; (repeat (first | rw [if_pos (by omega)] | rw [if_neg (by omega)])); rw [decide_eq_true (show t.v.length = u.v.length by omega), decide_eq_true (show t.k.length = u.k.length by omega), decide_eq_true (keys_eq (a := t.k) (b := u.k) (by omega) (fun j hj => hall j (by omega))), ← hd, List.drop_of_length_le (by omega)]; rfl)
       ·have b28 := hb
        clear hb
        have n28 := beq_eq_false_iff_ne.1 b28
        refine wN hs hI [] 0 [] .norm [] [] tv fun a w hs => ?_
        refine inb_norm ?_
        refine then_norm ?_
        refine wN hs hI [] 650 [] .ret [(4, vb true)] [] tv fun a w hs => ?_
        exact rK (.val (vb true)) [] hs (by rw [sameT_eq]; (repeat (first | rw [if_pos (by omega)] | rw [if_neg (by omega)])))
theorem con18 (t u : Tree) (ht : fineT t) (hu : fineT u) : Con Tryz.prog I0 18 [.agg (encTree t), .agg (encTree u)] (.val (vb (sameT t u))) := con18_ (nodes t + 1) t u (Nat.lt_succ_self _) ht hu
def validT (t : Tree) : Bool := (chk t 1 2000).1
theorem con57 (t : Tree) (hft : fineT t) : Con Tryz.prog I0 57 [.agg (encTree t)] (.val (vb (validT t))) := by
 refine con_of Tryz.func57 rfl (Nat.le_of_ble_eq_true rfl) stab (fun w0 fz a hI hs => ?_)
 refine wL hs hI [(2, ⟨[(1, ciB 117 [aTr (t), vi 1, .ptr 0 0] [] (.val (vb (validT t))) [(0, .var [vi 2000])] [(0, .var [vi ((chk t 1 2000).2)])] [(0, 2000)])], [], []⟩)] [] 118444973047625 [] .ret [(2, vb (validT t))] [] ⟨⟨⟨ent117, con117_ (nodes t + 1) t 1 2000 (Nat.lt_succ_self _) hft (by decide) (by decide) (by decide) (by decide)⟩, tv⟩, tv⟩ tv fun a w hs => ?_
 exact rK (.val (vb (validT t))) [] hs rfl
def normStep (out : List (List ByteArray)) (p : List ByteArray) : List (List ByteArray) :=
 if decide ((out.length : Int) > 0) = true then (if startsF (out.getD ((out.length : Int) - 1).toNat (dflt .strs)) p = true then out else out ++ [p]) else out ++ [p]
def normF (l : List (List ByteArray)) : List (List ByteArray) := (sortP l).foldl normStep []
theorem step_mem {out : List (List ByteArray)} {p q : List ByteArray} (h : q ∈ normStep out p) : q ∈ out ∨ q = p := by
 unfold normStep at h
 split at h
 ·split at h
  ·exact .inl h
  ·simpa using h
 ·simpa using h
theorem fold_mem : ∀ {s out : List (List ByteArray)} {q : List ByteArray}, q ∈ s.foldl normStep out → q ∈ out ∨ q ∈ s
 | [], out, q, h => .inl h
 | p :: s, out, q, h => by
  rcases fold_mem (s := s) h with h | h
  ·rcases step_mem h with h | rfl
   ·exact .inl h
   ·exact .inr (by simp)
  ·exact .inr (by simp [h])
theorem sortP_mem {l : List (List ByteArray)} {q : List ByteArray} : q ∈ sortP l ↔ q ∈ l := List.mem_mergeSort
theorem normF_mem {l : List (List ByteArray)} {q : List ByteArray} (h : q ∈ normF l) : q ∈ l := by
 rcases fold_mem h with h | h
 ·simp at h
 ·exact sortP_mem.1 h
def sumL (f : Tree → Nat) : List Tree → Nat
 | [] => 0
 | t :: l => f t + sumL f l
def sumM (f : Tree → Nat) : Mem → Nat
 | [] => 0
 | (_, t) :: l => f t + sumM f l
theorem sumM_map (f : Tree → Nat) : ∀ l : Mem, sumM f l = sumL f (l.map (·.2))
 | [] => rfl
 | (_, t) :: l => by simp [sumM, sumL, sumM_map f l]
structure Meas (f : Tree → Nat) : Prop where
 obj : ∀ l, f (objM l) = 1 + sumM f l
 cut : ∀ t, 1 + sumM f (mems t) ≤ f t
 zero : f Tree.zero = 1
section
variable {f : Tree → Nat}
theorem sum_put (x : ByteArray) (v : Tree) : ∀ l : Mem, sumM f (putA x v l) = sumM f l + f v
 | [] => by simp [putA, sumM]
 | (y, u) :: l => by
  simp only [putA]
  split
  ·simp only [sumM]; omega
  ·simp only [sumM, sum_put x v l]; omega
theorem sum_rep (x : ByteArray) (v : Tree) : ∀ {l : Mem} {o : Tree}, lookA x l = some o → sumM f (repA x v l) + f o = sumM f l + f v
 | [], o, h => by simp [lookA] at h
 | (y, u) :: l, o, h => by
  simp only [lookA] at h
  simp only [repA]
  split at h
  ·rename_i e
   simp only [Option.some.injEq] at h
   subst h
   rw [if_pos e]; simp only [sumM]; omega
  ·rename_i e
   rw [if_neg e]; simp only [sumM]
   have := sum_rep x v (l := l) h; omega
theorem sum_del (x : ByteArray) : ∀ l : Mem, sumM f (delA x l) ≤ sumM f l
 | [] => Nat.le_refl _
 | (y, u) :: l => by
  simp only [delA]
  split
  ·simp only [sumM]; omega
  ·simp only [sumM]; have := sum_del x l; omega
theorem set_more (hf : Meas f) (t : Tree) (x : ByteArray) (v : Tree) : f (setT t x v) ≤ f t + f v := by
 have h1 := hf.cut t
 unfold setT insA
 rw [hf.obj]
 split
 ·rename_i h
  obtain ⟨o, ho⟩ := Option.isSome_iff_exists.1 h
  have := sum_rep (f := f) x v ho; omega
 ·rw [sum_put]; omega
theorem set_there (hf : Meas f) {t : Tree} {x : ByteArray} (h : memB t x = true) (v : Tree) : f (setT t x v) + f (memV t x) ≤ f t + f v := by
 have h1 := hf.cut t
 rw [memB_look] at h
 obtain ⟨o, ho⟩ := Option.isSome_iff_exists.1 h
 rw [memV_look, ho]
 unfold setT insA
 rw [if_pos h, hf.obj]
 have := sum_rep (f := f) x v ho
 simp only [Option.getD_some]; omega
theorem unset_less (hf : Meas f) (t : Tree) (x : ByteArray) : f (unsetT t x) ≤ f t := by
 have h1 := hf.cut t
 unfold unsetT
 split
 ·rw [hf.obj]
  have := sum_del (f := f) x (mems t); omega
 ·exact Nat.le_refl _
theorem memV_zero {t : Tree} {x : ByteArray} (h : memB t x = false) : memV t x = Tree.zero := (memV_neg (of_decide_eq_false h)).1
end
theorem sumL_take (f : Tree → Nat) : ∀ (l : List Tree) (n : Nat), sumL f (l.take n) ≤ sumL f l
 | [], n => by simp [sumL]
 | t :: l, 0 => by simp [sumL]
 | t :: l, n + 1 => by simp only [List.take_succ_cons, sumL]; have := sumL_take f l n; omega
theorem nodesL_sum : ∀ l : List Tree, nodesL l = sumL nodes l
 | [] => rfl
 | t :: l => by simp [nodesL, sumL, nodesL_sum l]
theorem cut_sum (f : Tree → Nat) (t : Tree) : sumM f (mems t) ≤ sumL f t.v := by
 rw [sumM_map, mems_v]
 unfold cutV
 split
 ·exact sumL_take f t.v _
 ·simp [sumL]
theorem measNodes : Meas nodes := by
 refine ⟨fun l => ?_, fun t => ?_, by simp [Tree.zero, nodes, nodesL]⟩
 ·rw [nodes_eq, nodesL_sum, sumM_map]; rfl
 ·have h := cut_sum nodes t
  have h2 := nodes_eq t
  rw [nodesL_sum] at h2; omega
end Go.Proofs.YtondpnipoogoiaaGreatDoor.F
