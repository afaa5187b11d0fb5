import Derived.Test.YtondpnipoogoiaaGreatDoorE8
import Derived.Shelf.Strings.Builder1
import Derived.Test.YtondpnipoogoiaaGreatDoorProg
import Derived.LoopIn
import Derived.WalkMore
import Derived.Laws.RangeAny
import Derived.Test.YtondpnipoogoiaaGreatDoorE1
import Derived.Test.YtondpnipoogoiaaGreatDoorE5
import Derived.Test.YtondpnipoogoiaaGreatDoorE7
set_option maxRecDepth 100000
set_option linter.unusedVariables false
set_option linter.unusedSimpArgs false
namespace Go.Proofs.YtondpnipoogoiaaGreatDoor.F
open Go Go.RowKit Go.Proofs.Tryz
def zeroF (t : Tree) : Bool := t.kind == 0 && (!t.b && (!t.n.neg && ((t.n.m.length : Int) == 0 && (t.n.e == 0 && ((t.s.toList == (ba []).toList) && ((t.k.length : Int) == 0 && (t.v.length : Int) == 0))))))
def fromF (k : Int) : Bool := k == 4 || k == 5
def valueF (k : Int) : Bool := (k == 1 || k == 3) || k == 6
def wordsL : List ByteArray := [ba [97, 100, 100], ba [114, 101, 109, 111, 118, 101], ba [114, 101, 112, 108, 97, 99, 101], ba [109, 111, 118, 101], ba [99, 111, 112, 121], ba [116, 101, 115, 116]]
def memOk (t : Tree) (x : ByteArray) : Bool := memB t x && ((memV t x).kind == 4)
def exactF (t : Tree) (l : List ByteArray) : Bool := t.kind == 7 && decide (t.k = l)
def textT (s : ByteArray) : Tree := .mk 4 false ⟨false, [], 0⟩ s [] []
theorem con115  : Con Tryz.prog I0 115 [] (.val (.row .str wordsL)) := by
 refine con_of Tryz.func115 rfl (Nat.le_of_ble_eq_true rfl) stab (fun w0 fz a hI hs => ?_)
 refine wN hs hI [] 19820 [] .ret [(0, .own 2000)] [(2000, .sl 9 .str ([(ba [97, 100, 100]), (ba [114, 101, 109, 111, 118, 101]), (ba [114, 101, 112, 108, 97, 99, 101]), (ba [109, 111, 118, 101]), (ba [99, 111, 112, 121]), (ba [116, 101, 115, 116])]))] fun a w hs => ?_
 exact rK (.val (rwS ([(ba [97, 100, 100]), (ba [114, 101, 109, 111, 118, 101]), (ba [114, 101, 112, 108, 97, 99, 101]), (ba [109, 111, 118, 101]), (ba [99, 111, 112, 121]), (ba [116, 101, 115, 116])]))) [2000] hs rfl
theorem con113 (k : Int) : Con Tryz.prog I0 113 [vi k] (.val (vb (fromF k))) := by
 refine con_of Tryz.func113 rfl (Nat.le_of_ble_eq_true rfl) stab (fun w0 fz a hI hs => ?_)
 rcases bq (k) (4) with ⟨b1, n1⟩ | ⟨b1, n1⟩
 refine wL hs hI [(1, rg [] [1005] [3, 4])] [] 12961733820 [q1 b1, q1 b1, q1 b1] .ret [(2, vb true)] [] tv fun a w hs => ?_
 exact rK (.val (vb true)) [] hs (by simp only [fromF, b1]; first | done | rfl)
 refine wL hs hI [(1, rg [] [3, 4] [1005])] [] 12661777820 [q1 b1, q1 b1, q1 b1] .ret [(2, vb (k == 5))] [] tv fun a w hs => ?_
 exact rK (.val (vb (k == 5))) [] hs (by simp only [fromF, b1]; first | done | rfl)
theorem con116 (k : Int) : Con Tryz.prog I0 116 [vi k] (.val (vb (valueF k))) := by
 refine con_of Tryz.func116 rfl (Nat.le_of_ble_eq_true rfl) stab (fun w0 fz a hI hs => ?_)
 rcases bq (k) (1) with ⟨b1, n1⟩ | ⟨b1, n1⟩
 refine wL hs hI [(1, rg [] [1005, 1009] [3, 4, 7, 8])] [] 129661733733820 [q1 b1, q1 b1, q1 b1, q0 true, q0 true, q0 true] .ret [(2, vb true)] [] tv fun a w hs => ?_
 exact rK (.val (vb true)) [] hs (by simp only [valueF, b1]; first | done | rfl)
 rcases bq (k) (3) with ⟨b2, n2⟩ | ⟨b2, n2⟩
 refine wL hs hI [(1, rg [] [3, 4, 1009] [1005, 7, 8])] [] 126661733777820 [q1 b1, q1 b1, q1 b1, q1 b2, q1 b2, q1 b2] .ret [(2, vb true)] [] tv fun a w hs => ?_
 exact rK (.val (vb true)) [] hs (by simp only [valueF, b1, b2]; first | done | rfl)
 refine wL hs hI [(1, rg [] [3, 4, 7, 8] [1005, 1009])] [] 1296661777777820 [q1 b1, q1 b1, q1 b1, q1 b2, q1 b2, q1 b2] .ret [(2, vb (k == 6))] [] tv fun a w hs => ?_
 exact rK (.val (vb (k == 6))) [] hs (by simp only [valueF, b1, b2]; first | done | rfl)
theorem con106 (t : Tree) : Con Tryz.prog I0 106 [.agg (encTree t)] (.val (vb (zeroF t))) := by
 refine con_of Tryz.func106 rfl (Nat.le_of_ble_eq_true rfl) stab (fun w0 fz a hI hs => ?_)
 rcases bq (t.kind) (0) with ⟨b1, n1⟩ | ⟨b1, n1⟩
 rcases bt (t.b) with b2 | b2
 refine wL hs hI [(1, rg [] [4, 5, 6, 1007] [9, 10, 11, 12, 1013, 15, 16, 17, 18, 19, 1020, 22, 23, 24, 25, 1026, 28, 29, 30, 1031, 33, 34, 35, 36, 1037, 39, 40, 41, 42, 1043])] [] 1666666666666173333733337333733337333337333377771898 [q1 b1, q1 b1, q1 b1, q1 b1, q1 (ng1 b2), q1 (ng1 b2), q1 (ng1 b2), q1 (ng1 b2), q1 (ng1 b2), q0 false, q0 false, q0 false, q0 false, q0 false, q0 false, q0 false, q0 false, q0 false, q0 false, q0 false, q0 false, q0 false, q0 false, q0 false, q0 false, q0 false, q0 false, q0 false, q0 false, q0 false, q0 false, q0 false, q0 false, q0 false] .ret [(2, vb false)] [] tv fun a w hs => ?_
 exact rK (.val (vb false)) [] hs (by simp only [zeroF, b1, b2]; first | done | rfl)
 rcases bt (t.n.neg) with b3 | b3
 refine wL hs hI [(1, rg [] [4, 5, 6, 1007, 9, 10, 11, 12, 1013] [15, 16, 17, 18, 19, 1020, 22, 23, 24, 25, 1026, 28, 29, 30, 1031, 33, 34, 35, 36, 1037, 39, 40, 41, 42, 1043])] [] 16666666666666173333733337333733337333337777777771898 [q1 b1, q1 b1, q1 b1, q1 b1, q1 (ng0 b2), q1 (ng0 b2), q1 (ng0 b2), q1 (ng0 b2), q1 (ng0 b2), q1 (ng1 b3), q1 (ng1 b3), q1 (ng1 b3), q1 (ng1 b3), q1 (ng1 b3), q1 (ng1 b3), q0 false, q0 false, q0 false, q0 false, q0 false, q0 false, q0 false, q0 false, q0 false, q0 false, q0 false, q0 false, q0 false, q0 false, q0 false, q0 false, q0 false, q0 false, q0 false] .ret [(2, vb false)] [] tv fun a w hs => ?_
 exact rK (.val (vb false)) [] hs (by simp only [zeroF, b1, b2, b3]; first | done | rfl)
 rcases bq (t.n.m.length : Int) (0) with ⟨b4, n4⟩ | ⟨b4, n4⟩
 rcases bq (t.n.e) (0) with ⟨b5, n5⟩ | ⟨b5, n5⟩
 rcases bq (t.s.toList) ((ba []).toList) with ⟨b6, n6⟩ | ⟨b6, n6⟩
 rcases bq (t.k.length : Int) (0) with ⟨b7, n7⟩ | ⟨b7, n7⟩
 refine wL hs hI [(1, rg [] [4, 5, 6, 1007, 9, 10, 11, 12, 1013, 15, 16, 17, 18, 19, 1020, 22, 23, 24, 25, 1026, 28, 29, 30, 1031, 33, 34, 35, 36, 1037, 39, 40, 41, 42, 1043] [])] [] 1666666666666666666177777777777777777777777777777777771898 [q1 b1, q1 b1, q1 b1, q1 b1, q1 (ng0 b2), q1 (ng0 b2), q1 (ng0 b2), q1 (ng0 b2), q1 (ng0 b2), q1 (ng0 b3), q1 (ng0 b3), q1 (ng0 b3), q1 (ng0 b3), q1 (ng0 b3), q1 (ng0 b3), q1 b4, q1 b4, q1 b4, q1 b4, q1 b4, q1 b5, q1 b5, q1 b5, q1 b5, q1 b6, q1 b6, q1 b6, q1 b6, q1 b6, q1 b7, q1 b7, q1 b7, q1 b7, q1 b7] .ret [(2, vb ((t.v.length : Int) == 0))] [] tv fun a w hs => ?_
 exact rK (.val (vb ((t.v.length : Int) == 0))) [] hs (by simp only [zeroF, b1, b2, b3, b4, b5, b6, b7]; first | done | rfl)
 refine wL hs hI [(1, rg [] [4, 5, 6, 1007, 9, 10, 11, 12, 1013, 15, 16, 17, 18, 19, 1020, 22, 23, 24, 25, 1026, 28, 29, 30, 1031, 33, 34, 35, 36, 1037] [39, 40, 41, 42, 1043])] [] 166666666666666666173333777777777777777777777777777771898 [q1 b1, q1 b1, q1 b1, q1 b1, q1 (ng0 b2), q1 (ng0 b2), q1 (ng0 b2), q1 (ng0 b2), q1 (ng0 b2), q1 (ng0 b3), q1 (ng0 b3), q1 (ng0 b3), q1 (ng0 b3), q1 (ng0 b3), q1 (ng0 b3), q1 b4, q1 b4, q1 b4, q1 b4, q1 b4, q1 b5, q1 b5, q1 b5, q1 b5, q1 b6, q1 b6, q1 b6, q1 b6, q1 b6, q1 b7, q1 b7, q1 b7, q1 b7, q1 b7] .ret [(2, vb false)] [] tv fun a w hs => ?_
 exact rK (.val (vb false)) [] hs (by simp only [zeroF, b1, b2, b3, b4, b5, b6, b7]; first | done | rfl)
 refine wL hs hI [(1, rg [] [4, 5, 6, 1007, 9, 10, 11, 12, 1013, 15, 16, 17, 18, 19, 1020, 22, 23, 24, 25, 1026, 28, 29, 30, 1031] [33, 34, 35, 36, 1037, 39, 40, 41, 42, 1043])] [] 16666666666666666173333733337777777777777777777777771898 [q1 b1, q1 b1, q1 b1, q1 b1, q1 (ng0 b2), q1 (ng0 b2), q1 (ng0 b2), q1 (ng0 b2), q1 (ng0 b2), q1 (ng0 b3), q1 (ng0 b3), q1 (ng0 b3), q1 (ng0 b3), q1 (ng0 b3), q1 (ng0 b3), q1 b4, q1 b4, q1 b4, q1 b4, q1 b4, q1 b5, q1 b5, q1 b5, q1 b5, q1 b6, q1 b6, q1 b6, q1 b6, q1 b6, q0 false, q0 false, q0 false, q0 false, q0 false] .ret [(2, vb false)] [] tv fun a w hs => ?_
 exact rK (.val (vb false)) [] hs (by simp only [zeroF, b1, b2, b3, b4, b5, b6]; first | done | rfl)
 refine wL hs hI [(1, rg [] [4, 5, 6, 1007, 9, 10, 11, 12, 1013, 15, 16, 17, 18, 19, 1020, 22, 23, 24, 25, 1026] [28, 29, 30, 1031, 33, 34, 35, 36, 1037, 39, 40, 41, 42, 1043])] [] 12666666666666666173333733337333777777777777777777771898 [q1 b1, q1 b1, q1 b1, q1 b1, q1 (ng0 b2), q1 (ng0 b2), q1 (ng0 b2), q1 (ng0 b2), q1 (ng0 b2), q1 (ng0 b3), q1 (ng0 b3), q1 (ng0 b3), q1 (ng0 b3), q1 (ng0 b3), q1 (ng0 b3), q1 b4, q1 b4, q1 b4, q1 b4, q1 b4, q1 b5, q1 b5, q1 b5, q1 b5, q0 false, q0 false, q0 false, q0 false, q0 false, q0 false, q0 false, q0 false, q0 false, q0 false] .ret [(2, vb false)] [] tv fun a w hs => ?_
 exact rK (.val (vb false)) [] hs (by simp only [zeroF, b1, b2, b3, b4, b5]; first | done | rfl)
 refine wL hs hI [(1, rg [] [4, 5, 6, 1007, 9, 10, 11, 12, 1013, 15, 16, 17, 18, 19, 1020] [22, 23, 24, 25, 1026, 28, 29, 30, 1031, 33, 34, 35, 36, 1037, 39, 40, 41, 42, 1043])] [] 1266666666666666173333733337333733337777777777777771898 [q1 b1, q1 b1, q1 b1, q1 b1, q1 (ng0 b2), q1 (ng0 b2), q1 (ng0 b2), q1 (ng0 b2), q1 (ng0 b2), q1 (ng0 b3), q1 (ng0 b3), q1 (ng0 b3), q1 (ng0 b3), q1 (ng0 b3), q1 (ng0 b3), q1 b4, q1 b4, q1 b4, q1 b4, q1 b4, q0 false, q0 false, q0 false, q0 false, q0 false, q0 false, q0 false, q0 false, q0 false, q0 false, q0 false, q0 false, q0 false, q0 false] .ret [(2, vb false)] [] tv fun a w hs => ?_
 exact rK (.val (vb false)) [] hs (by simp only [zeroF, b1, b2, b3, b4]; first | done | rfl)
 refine wL hs hI [(1, rg [] [] [4, 5, 6, 1007, 9, 10, 11, 12, 1013, 15, 16, 17, 18, 19, 1020, 22, 23, 24, 25, 1026, 28, 29, 30, 1031, 33, 34, 35, 36, 1037, 39, 40, 41, 42, 1043])] [] 1266666666666173333733337333733337333337333373331898 [q1 b1, q1 b1, q1 b1, q1 b1, q0 false, q0 false, q0 false, q0 false, q0 false, q0 false, q0 false, q0 false, q0 false, q0 false, q0 false, q0 false, q0 false, q0 false, q0 false, q0 false, q0 false, q0 false, q0 false, q0 false, q0 false, q0 false, q0 false, q0 false, q0 false, q0 false, q0 false, q0 false, q0 false, q0 false] .ret [(2, vb false)] [] tv fun a w hs => ?_
 exact rK (.val (vb false)) [] hs (by simp only [zeroF, b1]; first | done | rfl)
theorem con210 (t : Tree) : Con Tryz.prog I0 210 [.agg (encTree t)] (.val (vb (zeroF t))) := by
 refine con_of Tryz.func210 rfl (Nat.le_of_ble_eq_true rfl) stab (fun w0 fz a hI hs => ?_)
 rcases bq (t.kind) (0) with ⟨b1, n1⟩ | ⟨b1, n1⟩
 rcases bt (t.b) with b2 | b2
 refine wL hs hI [(1, rg [] [4, 5, 6, 1007] [9, 10, 11, 12, 1013, 15, 16, 17, 18, 19, 1020, 22, 23, 24, 25, 1026, 28, 29, 30, 1031, 33, 34, 35, 36, 1037, 39, 40, 41, 42, 1043])] [] 1666666666666173333733337333733337333337333377771898 [q1 b1, q1 b1, q1 b1, q1 b1, q1 (ng1 b2), q1 (ng1 b2), q1 (ng1 b2), q1 (ng1 b2), q1 (ng1 b2), q0 false, q0 false, q0 false, q0 false, q0 false, q0 false, q0 false, q0 false, q0 false, q0 false, q0 false, q0 false, q0 false, q0 false, q0 false, q0 false, q0 false, q0 false, q0 false, q0 false, q0 false, q0 false, q0 false, q0 false, q0 false] .ret [(2, vb false)] [] tv fun a w hs => ?_
 exact rK (.val (vb false)) [] hs (by simp only [zeroF, b1, b2]; first | done | rfl)
 rcases bt (t.n.neg) with b3 | b3
 refine wL hs hI [(1, rg [] [4, 5, 6, 1007, 9, 10, 11, 12, 1013] [15, 16, 17, 18, 19, 1020, 22, 23, 24, 25, 1026, 28, 29, 30, 1031, 33, 34, 35, 36, 1037, 39, 40, 41, 42, 1043])] [] 16666666666666173333733337333733337333337777777771898 [q1 b1, q1 b1, q1 b1, q1 b1, q1 (ng0 b2), q1 (ng0 b2), q1 (ng0 b2), q1 (ng0 b2), q1 (ng0 b2), q1 (ng1 b3), q1 (ng1 b3), q1 (ng1 b3), q1 (ng1 b3), q1 (ng1 b3), q1 (ng1 b3), q0 false, q0 false, q0 false, q0 false, q0 false, q0 false, q0 false, q0 false, q0 false, q0 false, q0 false, q0 false, q0 false, q0 false, q0 false, q0 false, q0 false, q0 false, q0 false] .ret [(2, vb false)] [] tv fun a w hs => ?_
 exact rK (.val (vb false)) [] hs (by simp only [zeroF, b1, b2, b3]; first | done | rfl)
 rcases bq (t.n.m.length : Int) (0) with ⟨b4, n4⟩ | ⟨b4, n4⟩
 rcases bq (t.n.e) (0) with ⟨b5, n5⟩ | ⟨b5, n5⟩
 rcases bq (t.s.toList) ((ba []).toList) with ⟨b6, n6⟩ | ⟨b6, n6⟩
 rcases bq (t.k.length : Int) (0) with ⟨b7, n7⟩ | ⟨b7, n7⟩
 refine wL hs hI [(1, rg [] [4, 5, 6, 1007, 9, 10, 11, 12, 1013, 15, 16, 17, 18, 19, 1020, 22, 23, 24, 25, 1026, 28, 29, 30, 1031, 33, 34, 35, 36, 1037, 39, 40, 41, 42, 1043] [])] [] 1666666666666666666177777777777777777777777777777777771898 [q1 b1, q1 b1, q1 b1, q1 b1, q1 (ng0 b2), q1 (ng0 b2), q1 (ng0 b2), q1 (ng0 b2), q1 (ng0 b2), q1 (ng0 b3), q1 (ng0 b3), q1 (ng0 b3), q1 (ng0 b3), q1 (ng0 b3), q1 (ng0 b3), q1 b4, q1 b4, q1 b4, q1 b4, q1 b4, q1 b5, q1 b5, q1 b5, q1 b5, q1 b6, q1 b6, q1 b6, q1 b6, q1 b6, q1 b7, q1 b7, q1 b7, q1 b7, q1 b7] .ret [(2, vb ((t.v.length : Int) == 0))] [] tv fun a w hs => ?_
 exact rK (.val (vb ((t.v.length : Int) == 0))) [] hs (by simp only [zeroF, b1, b2, b3, b4, b5, b6, b7]; first | done | rfl)
 refine wL hs hI [(1, rg [] [4, 5, 6, 1007, 9, 10, 11, 12, 1013, 15, 16, 17, 18, 19, 1020, 22, 23, 24, 25, 1026, 28, 29, 30, 1031, 33, 34, 35, 36, 1037] [39, 40, 41, 42, 1043])] [] 166666666666666666173333777777777777777777777777777771898 [q1 b1, q1 b1, q1 b1, q1 b1, q1 (ng0 b2), q1 (ng0 b2), q1 (ng0 b2), q1 (ng0 b2), q1 (ng0 b2), q1 (ng0 b3), q1 (ng0 b3), q1 (ng0 b3), q1 (ng0 b3), q1 (ng0 b3), q1 (ng0 b3), q1 b4, q1 b4, q1 b4, q1 b4, q1 b4, q1 b5, q1 b5, q1 b5, q1 b5, q1 b6, q1 b6, q1 b6, q1 b6, q1 b6, q1 b7, q1 b7, q1 b7, q1 b7, q1 b7] .ret [(2, vb false)] [] tv fun a w hs => ?_
 exact rK (.val (vb false)) [] hs (by simp only [zeroF, b1, b2, b3, b4, b5, b6, b7]; first | done | rfl)
 refine wL hs hI [(1, rg [] [4, 5, 6, 1007, 9, 10, 11, 12, 1013, 15, 16, 17, 18, 19, 1020, 22, 23, 24, 25, 1026, 28, 29, 30, 1031] [33, 34, 35, 36, 1037, 39, 40, 41, 42, 1043])] [] 16666666666666666173333733337777777777777777777777771898 [q1 b1, q1 b1, q1 b1, q1 b1, q1 (ng0 b2), q1 (ng0 b2), q1 (ng0 b2), q1 (ng0 b2), q1 (ng0 b2), q1 (ng0 b3), q1 (ng0 b3), q1 (ng0 b3), q1 (ng0 b3), q1 (ng0 b3), q1 (ng0 b3), q1 b4, q1 b4, q1 b4, q1 b4, q1 b4, q1 b5, q1 b5, q1 b5, q1 b5, q1 b6, q1 b6, q1 b6, q1 b6, q1 b6, q0 false, q0 false, q0 false, q0 false, q0 false] .ret [(2, vb false)] [] tv fun a w hs => ?_
 exact rK (.val (vb false)) [] hs (by simp only [zeroF, b1, b2, b3, b4, b5, b6]; first | done | rfl)
 refine wL hs hI [(1, rg [] [4, 5, 6, 1007, 9, 10, 11, 12, 1013, 15, 16, 17, 18, 19, 1020, 22, 23, 24, 25, 1026] [28, 29, 30, 1031, 33, 34, 35, 36, 1037, 39, 40, 41, 42, 1043])] [] 12666666666666666173333733337333777777777777777777771898 [q1 b1, q1 b1, q1 b1, q1 b1, q1 (ng0 b2), q1 (ng0 b2), q1 (ng0 b2), q1 (ng0 b2), q1 (ng0 b2), q1 (ng0 b3), q1 (ng0 b3), q1 (ng0 b3), q1 (ng0 b3), q1 (ng0 b3), q1 (ng0 b3), q1 b4, q1 b4, q1 b4, q1 b4, q1 b4, q1 b5, q1 b5, q1 b5, q1 b5, q0 false, q0 false, q0 false, q0 false, q0 false, q0 false, q0 false, q0 false, q0 false, q0 false] .ret [(2, vb false)] [] tv fun a w hs => ?_
 exact rK (.val (vb false)) [] hs (by simp only [zeroF, b1, b2, b3, b4, b5]; first | done | rfl)
 refine wL hs hI [(1, rg [] [4, 5, 6, 1007, 9, 10, 11, 12, 1013, 15, 16, 17, 18, 19, 1020] [22, 23, 24, 25, 1026, 28, 29, 30, 1031, 33, 34, 35, 36, 1037, 39, 40, 41, 42, 1043])] [] 1266666666666666173333733337333733337777777777777771898 [q1 b1, q1 b1, q1 b1, q1 b1, q1 (ng0 b2), q1 (ng0 b2), q1 (ng0 b2), q1 (ng0 b2), q1 (ng0 b2), q1 (ng0 b3), q1 (ng0 b3), q1 (ng0 b3), q1 (ng0 b3), q1 (ng0 b3), q1 (ng0 b3), q1 b4, q1 b4, q1 b4, q1 b4, q1 b4, q0 false, q0 false, q0 false, q0 false, q0 false, q0 false, q0 false, q0 false, q0 false, q0 false, q0 false, q0 false, q0 false, q0 false] .ret [(2, vb false)] [] tv fun a w hs => ?_
 exact rK (.val (vb false)) [] hs (by simp only [zeroF, b1, b2, b3, b4]; first | done | rfl)
 refine wL hs hI [(1, rg [] [] [4, 5, 6, 1007, 9, 10, 11, 12, 1013, 15, 16, 17, 18, 19, 1020, 22, 23, 24, 25, 1026, 28, 29, 30, 1031, 33, 34, 35, 36, 1037, 39, 40, 41, 42, 1043])] [] 1266666666666173333733337333733337333337333373331898 [q1 b1, q1 b1, q1 b1, q1 b1, q0 false, q0 false, q0 false, q0 false, q0 false, q0 false, q0 false, q0 false, q0 false, q0 false, q0 false, q0 false, q0 false, q0 false, q0 false, q0 false, q0 false, q0 false, q0 false, q0 false, q0 false, q0 false, q0 false, q0 false, q0 false, q0 false, q0 false, q0 false, q0 false, q0 false] .ret [(2, vb false)] [] tv fun a w hs => ?_
 exact rK (.val (vb false)) [] hs (by simp only [zeroF, b1]; first | done | rfl)
theorem con56 (s : ByteArray) : Con Tryz.prog I0 56 [vs s] (.val (.agg (encTree (textT s)))) := by
 refine con_of Tryz.func56 rfl (Nat.le_of_ble_eq_true rfl) stab (fun w0 fz a hI hs => ?_)
 refine wN hs hI [] 1291820 [] .ret [(2, .ptr 1000 0)] [(1000, .var [vi 4, vb false, vb false, nilv, vi 0, vs s, nilv, nilv])] fun a w hs => ?_
 exact rK (.val (.agg [vi 4, vb false, vb false, rwU ([]), vi 0, vs s, rwS ([]), rwT ([])])) [] hs rfl
theorem con118y (b : Bool) (e : Int) (h : b = true) : Con Tryz.prog I0 118 [vb b, vi e] (.val (.tup [])) := by
 refine con_of Tryz.func118 rfl (Nat.le_of_ble_eq_true rfl) stab (fun w0 fz a hI hs => ?_)
 have b1 : (b) = true := by exact h
 refine wN hs hI (bz 1 0) 798 [q1 (ng1 b1)] .norm [] [] fun a w hs => ?_
 exact nK (.val (.tup [])) [] hs rfl
theorem con118n (b : Bool) (e : Int) (h : b = false) : Con Tryz.prog I0 118 [vb b, vi e] (.thr (.iface 38 (.int .i64 e))) := by
 refine con_of Tryz.func118 rfl (Nat.le_of_ble_eq_true rfl) stab (fun w0 fz a hI hs => ?_)
 have b1 : (b) = false := by exact h
 refine wN hs hI (bz 1 1) 11798 [q1 (ng0 b1)] (.thr (.iface 38 (.int .i64 e))) [] [] fun a w hs => ?_
 exact tK (.iface 38 (.int .i64 e)) hs rfl
theorem con121y (t : Tree) (x : ByteArray) (hk : (cutK t).length < 1000000000) (h : memOk t x = true) : Con Tryz.prog I0 121 [.agg (encTree t), vs x] (.val (vs ((memV t x).s))) := by
 have hm := h
 simp only [memOk, Bool.and_eq_true] at hm
 have h1 := hm.1
 have h2 := hm.2
 refine con_of Tryz.func121 rfl (Nat.le_of_ble_eq_true rfl) stab (fun w0 fz a hI hs => ?_)
 have b1 : (memB t x) = true := by exact h1
 have b2 : (((memV t x).kind) == 4) = true := by exact h2
 refine wL hs hI [(1, rc [(2, ciV 122 [aTr (t), vs x] (.tup [aTr ((memV t x)), vb (memB t x)]))]), (2, rg [(6, ciV 118 [vb (((memV t x).kind) == 4), vi 2] (.tup []))] [2, 3, 4, 1005] [])] [] 1291896614377702661884098 [q1 b1, q1 b1, q1 b1, q1 b1] .ret [(4, vs ((memV t x).s))] [] ⟨con122 _ _ (by omega), con118y _ _ (by first | rfl | assumption | (simp_all; done)), tv⟩ fun a w hs => ?_
 exact rK (.val (vs ((memV t x).s))) [] hs rfl
theorem con121n (t : Tree) (x : ByteArray) (hk : (cutK t).length < 1000000000) (h : memOk t x = false) : Con Tryz.prog I0 121 [.agg (encTree t), vs x] (.thr (.iface 38 (.int .i64 2))) := by
 refine con_of Tryz.func121 rfl (Nat.le_of_ble_eq_true rfl) stab (fun w0 fz a hI hs => ?_)
 refine wNs hs hI [] 8 [] [(1, vs x), (2, .ptr 1000 0)] [(1000, bTr (t))] fun a w hs => ?_
 refine wLs hs hI [(1, rc [(2, ciV 122 [aTr (t), vs x] (.tup [aTr ((memV t x)), vb (memB t x)]))])] [] 18840 [] [(5, .ptr 2006 0), (6, vb (memB t x))] [(2006, bTr ((memV t x)))] ⟨con122 _ _ (by omega), tv⟩ fun a w hs => ?_
 rcases bt (memB t x) with b1 | b1
 rcases bq ((memV t x).kind) (4) with ⟨b2, n2⟩ | ⟨b2, n2⟩
 exact absurd h (by simp [memOk, b1, b2])
 refine wL hs hI [(2, rg [(6, ciA 118 [vb (((memV t x).kind) == 4), vi 2] [] [] (.thr (.iface 38 (.int .i64 2))))] [2, 3, 4, 1005] [])] [] 437770 [q1 b1, q1 b1, q1 b1, q1 b1] (.thr (.iface 38 (.int .i64 2))) [] [] ⟨con118n _ _ (by first | rfl | assumption | (simp_all; done)), tv⟩ fun a w hs => ?_
 exact tK (.iface 38 (.int .i64 2)) hs rfl
 refine wL hs hI [(2, rg [(6, ciA 118 [vb false, vi 2] [] [] (.thr (.iface 38 (.int .i64 2))))] [] [2, 3, 4, 1005])] [] 433330 [q1 b1, q1 b1, q1 b1, q1 b1] (.thr (.iface 38 (.int .i64 2))) [] [] ⟨con118n _ _ (by first | rfl | assumption | (simp_all; done)), tv⟩ fun a w hs => ?_
 exact tK (.iface 38 (.int .i64 2)) hs rfl
theorem con120y (t : Tree) (l : List ByteArray) (hk : t.k.length < 1000000000) (hl : l.length < 1000000000) (h : exactF t l = true) : Con Tryz.prog I0 120 [.agg (encTree t), .row .str l] (.val (.tup [])) := by
 have hm := h
 simp only [exactF, Bool.and_eq_true] at hm
 have h1 := hm.1
 have h2 := hm.2
 refine con_of Tryz.func120 rfl (Nat.le_of_ble_eq_true rfl) stab (fun w0 fz a hI hs => ?_)
 have b1 : (t.kind == 7) = true := by exact h1
 have b2 : (decide (t.k = l)) = true := by exact h2
 refine wL hs hI [(1, rg [(7, ciV 134 [rwS t.k, rwS l] (vb (decide (t.k = l)))), (9, ciV 118 [vb (decide (t.k = l)), vi 2] (.tup []))] [4, 5, 6, 7, 1008] [])] [] 143437771820 [q1 b1, q1 b1, q1 b1, q1 b1, q1 b1] .norm [] [] ⟨con134 _ _ (by omega) (by omega), con118y _ _ (by first | rfl | assumption | (simp_all; done)), tv⟩ fun a w hs => ?_
 exact nK (.val (.tup [])) [] hs rfl
theorem con120n (t : Tree) (l : List ByteArray) (hk : t.k.length < 1000000000) (hl : l.length < 1000000000) (h : exactF t l = false) : Con Tryz.prog I0 120 [.agg (encTree t), .row .str l] (.thr (.iface 38 (.int .i64 2))) := by
 refine con_of Tryz.func120 rfl (Nat.le_of_ble_eq_true rfl) stab (fun w0 fz a hI hs => ?_)
 rcases bq (t.kind) (7) with ⟨b1, n1⟩ | ⟨b1, n1⟩
 rcases bd (t.k = l) with ⟨b2, n2⟩ | ⟨b2, n2⟩
 exact absurd h (by simp [exactF, b1, b2])
 refine wL hs hI [(1, rg [(7, ciV 134 [rwS t.k, rwS l] (vb (decide (t.k = l)))), (9, ciA 118 [vb (decide (t.k = l)), vi 2] [] [] (.thr (.iface 38 (.int .i64 2))))] [4, 5, 6, 7, 1008] [])] [] 43437771820 [q1 b1, q1 b1, q1 b1, q1 b1, q1 b1] (.thr (.iface 38 (.int .i64 2))) [] [] ⟨con134 _ _ (by omega) (by omega), con118n _ _ (by first | rfl | assumption | (simp_all; done)), tv⟩ fun a w hs => ?_
 exact tK (.iface 38 (.int .i64 2)) hs rfl
 refine wL hs hI [(1, rg [(9, ciA 118 [vb false, vi 2] [] [] (.thr (.iface 38 (.int .i64 2))))] [] [4, 5, 6, 7, 1008])] [] 4333331820 [q1 b1, q1 b1, q1 b1, q1 b1, q1 b1] (.thr (.iface 38 (.int .i64 2))) [] [] ⟨con118n _ _ (by first | rfl | assumption | (simp_all; done)), tv⟩ fun a w hs => ?_
 exact tK (.iface 38 (.int .i64 2)) hs rfl
def badTok (s : ByteArray) : Bool := decide ((s.size : Int) > 2000) || !X.validAt s s.size 0
def pathOk (p : List ByteArray) : Bool := decide ((p.length : Int) ≤ 63) && !(p.any badTok)
def oneF (x : Opn) : Bool :=
 if (x.op == 4 || x.op == 5) = true then pathOk x.path && (pathOk x.frm && zeroF x.value)
 else if ((x.op == 1 || x.op == 3) || x.op == 6) = true then pathOk x.path && ((x.frm.length : Int) == 0 && validT x.value)
 else if (x.op == 2) = true then pathOk x.path && ((x.frm.length : Int) == 0 && zeroF x.value) else false
def opsF (l : List Opn) : Bool := decide ((l.length : Int) ≤ 60) && !(l.any fun x => !oneF x)
def fineO (x : Opn) : Prop := x.path.length < 1000000000 ∧ x.frm.length < 1000000000 ∧ fineT x.value
theorem pathOk_in {p : List ByteArray} (h : pathOk p = true) : p.length ≤ 63 ∧ ∀ x ∈ p, badTok x = false := by
 simp only [pathOk, Bool.and_eq_true, decide_eq_true_eq, Bool.not_eq_true', List.any_eq_false] at h
 exact ⟨by omega, fun x hx => by have := h.2 x hx; simpa using this⟩
theorem badTok_size {s : ByteArray} (h : badTok s = false) : s.size ≤ 2000 := by
 simp only [badTok, Bool.or_eq_false_iff, decide_eq_false_iff_not] at h
 omega
theorem oneF_in {x : Opn} (h : oneF x = true) : (1 ≤ x.op ∧ x.op ≤ 6) ∧ (x.path.length ≤ 63 ∧ ∀ t ∈ x.path, t.size ≤ 2000) ∧ (x.frm.length ≤ 63 ∧ ∀ t ∈ x.frm, t.size ≤ 2000) := by
 unfold oneF at h
 have path : pathOk x.path = true → x.path.length ≤ 63 ∧ ∀ t ∈ x.path, t.size ≤ 2000 := fun h => ⟨(pathOk_in h).1, fun t ht => badTok_size ((pathOk_in h).2 t ht)⟩
 have nil : ((x.frm.length : Int) == 0) = true → x.frm.length ≤ 63 ∧ ∀ t ∈ x.frm, t.size ≤ 2000 := fun h => by
  have h1 : x.frm.length = 0 := by have := eq_of_beq h; omega
  refine ⟨by omega, fun t ht => ?_⟩
  rw [List.eq_nil_of_length_eq_zero h1] at ht; simp at ht
 split at h
 rename_i h1
 simp only [Bool.and_eq_true] at h
 simp only [Bool.or_eq_true, beq_iff_eq] at h1
 exact ⟨by omega, path h.1, (pathOk_in h.2.1).1, fun t ht => badTok_size ((pathOk_in h.2.1).2 t ht)⟩
 split at h
 rename_i h1
 simp only [Bool.and_eq_true] at h
 simp only [Bool.or_eq_true, beq_iff_eq] at h1
 exact ⟨by omega, path h.1, nil h.2.1⟩
 split at h
 rename_i h1
 simp only [Bool.and_eq_true] at h
 have h2 := eq_of_beq h1
 exact ⟨by omega, path h.1, nil h.2.1⟩
 cases h
theorem opsF_in {l : List Opn} (h : opsF l = true) : l.length ≤ 60 ∧ ∀ x ∈ l, oneF x = true := by
 simp only [opsF, Bool.and_eq_true, decide_eq_true_eq, Bool.not_eq_true', List.any_eq_false] at h
 exact ⟨by omega, fun x hx => by have := h.2 x hx; simpa using this⟩
theorem bad_in {s : ByteArray} (h : badTok s = false) : s.size ≤ 2000 ∧ X.validAt s s.size 0 = true := by
 refine ⟨badTok_size h, ?_⟩
 simp only [badTok, Bool.or_eq_false_iff] at h
 simpa using h.2
theorem oneF_all {x : Opn} (h : oneF x = true) : pathOk x.path = true ∧ (x.op = 4 ∨ x.op = 5 → pathOk x.frm = true ∧ zeroF x.value = true) ∧ (x.op = 1 ∨ x.op = 3 ∨ x.op = 6 → ((x.frm.length : Int) == 0) = true ∧ validT x.value = true) ∧ (x.op = 2 → ((x.frm.length : Int) == 0) = true ∧ zeroF x.value = true) := by
 unfold oneF at h
 split at h
 rename_i h1
 simp only [Bool.and_eq_true] at h
 simp only [Bool.or_eq_true, beq_iff_eq] at h1
 exact ⟨h.1, fun _ => h.2, fun _ => by omega, fun _ => by omega⟩
 rename_i h1
 simp only [Bool.or_eq_true, beq_iff_eq] at h1
 split at h
 rename_i h2
 simp only [Bool.and_eq_true] at h
 simp only [Bool.or_eq_true, beq_iff_eq] at h2
 exact ⟨h.1, fun _ => by omega, fun _ => h.2, fun _ => by omega⟩
 split at h
 rename_i h2
 simp only [Bool.and_eq_true] at h
 have h3 := eq_of_beq h2
 exact ⟨h.1, fun _ => by omega, fun _ => by omega, fun _ => h.2⟩
 cases h
theorem con248 (s : ByteArray) (h : badTok s = false) : Con Tryz.prog I0 248 [vs s] (.val (vb false)) := by
 refine con_of Tryz.func248 rfl (Nat.le_of_ble_eq_true rfl) stab (fun w0 fz a hI hs => ?_)
 have b1 : (decide ((s.size : Int) > 2000)) = false := by exact decide_eq_false (by have := (bad_in h).1; omega)
 refine wL hs hI [(1, rg [(5, ciV 249 [vs s] (vb true))] [4, 5, 6] [1007])] [] 16661774371820 [q1 b1, q1 b1, q1 b1, q1 b1] .ret [(2, vb false)] [] ⟨conValid _ (bad_in h).2, tv⟩ fun a w hs => ?_
 exact rK (.val (vb false)) [] hs rfl
theorem con140_248 (xs : List ByteArray) (h : ∀ x ∈ xs, badTok x = false) (hlen : xs.length < 4611686018427387904) : Con Tryz.prog I0 140 [.row .str xs, .lit (.func (.func 248) #[] #[])] (.val (vi (-1))) := by
 refine con_of Tryz.func140 rfl (Nat.le_of_ble_eq_true rfl) stab (fun w0 fz a hI hs => ?_)
 refine wNs hs hI [] 11 [] [(0, rwS xs), (1, .lit (.func (.func 248) #[] #[]))] [] fun a w hs => ?_
 refine wp_seq ?_
 refine wNs hs hI [] 18 [] [(0, rwS xs), (1, .lit (.func (.func 248) #[] #[])), (7, vi (xs.length : Int)), (8, vi 0)] [] fun a w hs => ?_
 refine wp_block ?_
 refine loop_L (N := Tryz.f140.ntmps) (w0 := w0) (ow := noO fz) (α := Nat) (fun p => [(0, rwS xs), (1, .lit (.func (.func 248) #[] #[])), (7, vi (xs.length : Int)), (8, vi (p : Int))]) (fun p => []) (fun p => p ≤ xs.length) (fun p => xs.length - p) 0 ?_ ?_ ?_
 exact Nat.zero_le _
 exact (hs.cst [(0, rwS xs), (1, .lit (.func (.func 248) #[] #[])), (7, vi (xs.length : Int)), (8, vi ((0 : Nat) : Int))] [] rfl).rk []
 rintro i hJ a w hs
 rcases bd ((i : Int) < (xs.length : Int)) with ⟨b1, n1⟩ | ⟨b1, n1⟩
 refine wL hs hI [(4, rc [(5, ciV 248 [vs (xs.getD i (dflt .str))] (vb false))])] (bz 2 1) 17297961478982720 [q1 b1, q4 (i : Int) xs.length, q0 false, q3 ((i : Int) + 1)] .norm [(0, rwS xs), (1, .lit (.func (.func 248) #[] #[])), (7, vi (xs.length : Int)), (8, vi ((i : Int) + 1))] [] ⟨con248 _ (h _ (getD_mem (by omega) _)), tv⟩ fun a w hs => ?_
 refine then_norm ⟨i + 1, by omega, by omega, ?_⟩
 exact hs.rk []
 refine wN hs hI (bz 1 0) 720 [q1 b1] (.exit 0) [] [] fun a w hs => ?_
 refine then_exit ?_
 refine inb_hit ?_
 refine then_norm ?_
 refine wN hs hI [] 120 [] .ret [(4, vi (-1))] [] fun a w hs => ?_
 exact rK (.val (vi (-1))) [] hs rfl
theorem con83_248 (xs : List ByteArray) (h : ∀ x ∈ xs, badTok x = false) (hlen : xs.length < 4611686018427387904) : Con Tryz.prog I0 83 [.row .str xs, .lit (.func (.func 248) #[] #[])] (.val (vb false)) := by
 refine con_of Tryz.func83 rfl (Nat.le_of_ble_eq_true rfl) stab (fun w0 fz a hI hs => ?_)
 refine wL hs hI [(1, rc [(2, ciV 140 [rwS xs, .lit (.func (.func 248) #[] #[])] (vi (-1)))])] [] 12684020 [] .ret [(4, vb false)] [] ⟨con140_248 _ h (by omega), tv⟩ fun a w hs => ?_
 exact rK (.val (vb false)) [] hs rfl
theorem con211 (ps : List ByteArray) (h : pathOk ps = true) : Con Tryz.prog I0 211 [.row .str ps] (.val (vb true)) := by
 refine con_of Tryz.func211 rfl (Nat.le_of_ble_eq_true rfl) stab (fun w0 fz a hI hs => ?_)
 have b1 : (decide ((ps.length : Int) ≤ 63)) = true := by exact decide_eq_true (by have := (pathOk_in h).1; omega)
 refine wL hs hI [(1, rg [(5, ciV 83 [rwS ps, .lit (.func (.func 248) #[] #[])] (vb false))] [4, 5, 6, 1007] [])] [] 16661774371820 [q1 b1, q1 b1, q1 b1, q1 b1] .ret [(2, vb true)] [] ⟨con83_248 _ (pathOk_in h).2 (by have := (pathOk_in h).1; omega), tv⟩ fun a w hs => ?_
 exact rK (.val (vb true)) [] hs rfl
theorem con163 (x : Opn) (h : fineO x) (hx : oneF x = true) : Con Tryz.prog I0 163 [.agg (enc .opn x)] (.val (vb true)) := by
 obtain ⟨h1, h2, hv⟩ := h
 have hop := (oneF_in hx).1
 obtain ⟨ho1, ho2, ho3, ho4⟩ := oneF_all hx
 refine con_of Tryz.func163 rfl (Nat.le_of_ble_eq_true rfl) stab (fun w0 fz a hI hs => ?_)
 refine wNs hs hI [] 8 [] [(1, .ptr 1000 0)] [(1000, .var (enc .opn x))] fun a w hs => ?_
 refine wLs hs hI [(1, rc [(6, ciV 210 [aTr (x.value)] (vb (zeroF x.value)))])] [] 8488 [] [(1, .ptr 1000 0), (3, vb ((x.frm.length : Int) == 0)), (4, vb (zeroF x.value))] [(1000, .var (enc .opn x))] ⟨con210 _, tv⟩ fun a w hs => ?_
 rcases bq (x.op) (4) with ⟨b1, n1⟩ | ⟨b1, n1⟩
 refine wL hs hI [(9, rc [(2, ciV 211 [rwS x.frm] (vb true))]), (12, rg [(2, ciV 211 [rwS x.path] (vb true))] [4, 1005, 7, 1008] [])] (bz 1 1) 1666177771402916040979898 [q1 b1, q0 true, q0 true, q0 true, q0 true] .ret [(2, vb (zeroF x.value))] [] ⟨con211 _ (ho2 (by omega)).1, con211 _ ho1, tv⟩ fun a w hs => ?_
 exact rK (.val (vb (zeroF x.value))) [] hs (by first | rfl | simp_all)
 rcases bq (x.op) (5) with ⟨b2, n2⟩ | ⟨b2, n2⟩
 refine wL hs hI [(9, rc [(2, ciV 211 [rwS x.frm] (vb true))]), (12, rg [(2, ciV 211 [rwS x.path] (vb true))] [4, 1005, 7, 1008] [])] (bz 2 2) 166617777140291604029798979898 [q1 b1, q1 b2, q0 true, q0 true, q0 true, q0 true] .ret [(2, vb (zeroF x.value))] [] ⟨con211 _ (ho2 (by omega)).1, con211 _ ho1, tv⟩ fun a w hs => ?_
 exact rK (.val (vb (zeroF x.value))) [] hs (by first | rfl | simp_all)
 rcases bq (x.op) (1) with ⟨b3, n3⟩ | ⟨b3, n3⟩
 have b4 : ((x.frm.length : Int) == 0) = true := by exact (ho3 (by omega)).1
 refine wL hs hI [(10, rc [(2, ciV 57 [aTr (x.value)] (vb (validT x.value)))]), (12, rg [(2, ciV 211 [rwS x.path] (vb true))] [4, 1005, 7, 1008] [])] (bz 4 12) 16661777714029160406797989798979898 [q1 b1, q1 b2, q1 b3, q1 b3, q0 true, q0 true, q1 b4, q1 b4] .ret [(2, vb (validT x.value))] [] ⟨con57 _ hv, con211 _ ho1, tv⟩ fun a w hs => ?_
 exact rK (.val (vb (validT x.value))) [] hs (by first | rfl | simp_all)
 rcases bq (x.op) (3) with ⟨b5, n5⟩ | ⟨b5, n5⟩
 have b6 : ((x.frm.length : Int) == 0) = true := by exact (ho3 (by omega)).1
 refine wL hs hI [(10, rc [(2, ciV 57 [aTr (x.value)] (vb (validT x.value)))]), (12, rg [(2, ciV 211 [rwS x.path] (vb true))] [4, 1005, 7, 1008] [])] (bz 5 24) 16661777714029160406767907989798979898 [q1 b1, q1 b2, q1 b3, q1 b5, q1 b5, q0 true, q0 true, q1 b6, q1 b6] .ret [(2, vb (validT x.value))] [] ⟨con57 _ hv, con211 _ ho1, tv⟩ fun a w hs => ?_
 exact rK (.val (vb (validT x.value))) [] hs (by first | rfl | simp_all)
 rcases bq (x.op) (6) with ⟨b7, n7⟩ | ⟨b7, n7⟩
 have b8 : ((x.frm.length : Int) == 0) = true := by exact (ho3 (by omega)).1
 refine wL hs hI [(10, rc [(2, ciV 57 [aTr (x.value)] (vb (validT x.value)))]), (12, rg [(2, ciV 211 [rwS x.path] (vb true))] [4, 1005, 7, 1008] [])] (bz 5 16) 1666177771402916040679607907989798979898 [q1 b1, q1 b2, q1 b3, q1 b5, q1 b7, q0 true, q0 true, q1 b8, q1 b8] .ret [(2, vb (validT x.value))] [] ⟨con57 _ hv, con211 _ ho1, tv⟩ fun a w hs => ?_
 exact rK (.val (vb (validT x.value))) [] hs (by first | rfl | simp_all)
 have b9 : (x.op == 2) = true := by simp only [beq_iff_eq]; omega
 have b10 : ((x.frm.length : Int) == 0) = true := by exact (ho4 (by omega)).1
 refine wL hs hI [(12, rg [(2, ciV 211 [rwS x.path] (vb true))] [4, 1005, 7, 1008] [])] (bz 6 32) 1666177771409126798979607907989798979898 [q1 b1, q1 b2, q1 b3, q1 b5, q1 b7, q1 b9, q0 true, q0 true, q1 b10, q1 b10] .ret [(2, vb (zeroF x.value))] [] ⟨con211 _ ho1, tv⟩ fun a w hs => ?_
 exact rK (.val (vb (zeroF x.value))) [] hs (by first | rfl | simp_all)
theorem con162 (x : Opn) (h : fineO x) (hx : oneF x = true) : Con Tryz.prog I0 162 [.agg (enc .opn x)] (.val (vb false)) := by
 refine con_of Tryz.func162 rfl (Nat.le_of_ble_eq_true rfl) stab (fun w0 fz a hI hs => ?_)
 refine wL hs hI [(1, rc [(1, ciV 163 [.agg (enc .opn x)] (vb true))])] [] 1684198 [] .ret [(2, vb false)] [] ⟨con163 _ h hx, tv⟩ fun a w hs => ?_
 exact rK (.val (vb false)) [] hs rfl
theorem con209 (xs : List Opn) (H : ∀ x ∈ xs, fineO x) (hx : ∀ x ∈ xs, oneF x = true) (hlen : xs.length < 4611686018427387904) : Con Tryz.prog I0 209 [.row .opn xs, .lit (.func (.func 162) #[] #[])] (.val (vi (-1))) := by
 refine con_of Tryz.func209 rfl (Nat.le_of_ble_eq_true rfl) stab (fun w0 fz a hI hs => ?_)
 refine wNs hs hI [] 11 [] [(0, .row .opn xs), (1, .lit (.func (.func 162) #[] #[]))] [] fun a w hs => ?_
 refine wp_seq ?_
 refine wNs hs hI [] 18 [] [(0, .row .opn xs), (1, .lit (.func (.func 162) #[] #[])), (7, vi (xs.length : Int)), (8, vi 0)] [] fun a w hs => ?_
 refine wp_block ?_
 refine loop_L (N := Tryz.f209.ntmps) (w0 := w0) (ow := noO fz) (α := Nat) (fun p => [(0, .row .opn xs), (1, .lit (.func (.func 162) #[] #[])), (7, vi (xs.length : Int)), (8, vi (p : Int))]) (fun p => []) (fun p => p ≤ xs.length) (fun p => xs.length - p) 0 ?_ ?_ ?_
 exact Nat.zero_le _
 exact (hs.cst [(0, .row .opn xs), (1, .lit (.func (.func 162) #[] #[])), (7, vi (xs.length : Int)), (8, vi ((0 : Nat) : Int))] [] rfl).rk []
 rintro i hJ a w hs
 rcases bd ((i : Int) < (xs.length : Int)) with ⟨b1, n1⟩ | ⟨b1, n1⟩
 refine wL hs hI [(4, rc [(5, ciV 162 [.agg (enc .opn (xs.getD i (dflt .opn)))] (vb false))])] (bz 2 1) 17297961478982720 [q1 b1, q4 (i : Int) xs.length, q0 false, q3 ((i : Int) + 1)] .norm [(0, .row .opn xs), (1, .lit (.func (.func 162) #[] #[])), (7, vi (xs.length : Int)), (8, vi ((i : Int) + 1))] [] ⟨con162 _ (H _ (getD_mem (by omega) _)) (hx _ (getD_mem (by omega) _)), tv⟩ fun a w hs => ?_
 refine then_norm ⟨i + 1, by omega, by omega, ?_⟩
 exact hs.rk []
 refine wN hs hI (bz 1 0) 720 [q1 b1] (.exit 0) [] [] fun a w hs => ?_
 refine then_exit ?_
 refine inb_hit ?_
 refine then_norm ?_
 refine wN hs hI [] 120 [] .ret [(4, vi (-1))] [] fun a w hs => ?_
 exact rK (.val (vi (-1))) [] hs rfl
theorem con161 (xs : List Opn) (H : ∀ x ∈ xs, fineO x) (hx : ∀ x ∈ xs, oneF x = true) (hlen : xs.length < 4611686018427387904) : Con Tryz.prog I0 161 [.row .opn xs, .lit (.func (.func 162) #[] #[])] (.val (vb false)) := by
 refine con_of Tryz.func161 rfl (Nat.le_of_ble_eq_true rfl) stab (fun w0 fz a hI hs => ?_)
 refine wL hs hI [(1, rc [(2, ciV 209 [.row .opn xs, .lit (.func (.func 162) #[] #[])] (vi (-1)))])] [] 12684020 [] .ret [(4, vb false)] [] ⟨con209 _ H hx (by omega), tv⟩ fun a w hs => ?_
 exact rK (.val (vb false)) [] hs rfl
theorem con107 (xs : List Opn) (H : ∀ x ∈ xs, fineO x) (hq : opsF xs = true) (hlen : xs.length < 4611686018427387904) : Con Tryz.prog I0 107 [.row .opn xs] (.val (vb true)) := by
 refine con_of Tryz.func107 rfl (Nat.le_of_ble_eq_true rfl) stab (fun w0 fz a hI hs => ?_)
 have b1 : (decide ((xs.length : Int) ≤ 60)) = true := by exact decide_eq_true (by have := (opsF_in hq).1; omega)
 refine wL hs hI [(1, rg [(5, ciV 161 [.row .opn xs, .lit (.func (.func 162) #[] #[])] (vb false))] [4, 5, 6, 1007] [])] [] 16661774371820 [q1 b1, q1 b1, q1 b1, q1 b1] .ret [(2, vb true)] [] ⟨con161 _ H (opsF_in hq).2 (by omega), tv⟩ fun a w hs => ?_
 exact rK (.val (vb true)) [] hs rfl
end Go.Proofs.YtondpnipoogoiaaGreatDoor.F
namespace Go.Proofs.YtondpnipoogoiaaGreatDoor.B1
open Go.Shelf
def ren : Go.Shelf.Ren := ⟨fun | 167 => 168 | 240 => 197 | 276 => 234 | 169 => 149 | n => n, fun | 0 => 0 | 3 => 3 | 4 => 4 | 5 => 5 | 9 => 9 | 20 => 20 | 37 => 140 | 70 => 139 | 72 => 142 | 75 => 145 | 80 => 148 | 164 => 216 | 127 => 187 | n => n, fun | n => n⟩
theorem lays167 : Go.Proofs.Lays.n167 Tryz.prog ren := {
 mixed := by kernel_rfl
 f167 := Tryz.func168.trans (congrArg some (by kernel_rfl))
 f240 := Tryz.func197.trans (congrArg some (by kernel_rfl))
 f276 := Tryz.func234.trans (congrArg some (by kernel_rfl))
 t0 := Tryz.underlying0
 a0 := Tryz.isAgg0
 z0 := Tryz.sizeOf0
 v0 := Tryz.zeroValue0
 t4 := Tryz.underlying4
 a4 := Tryz.isAgg4
 z4 := Tryz.sizeOf4
 v4 := Tryz.zeroValue4
 t5 := Tryz.underlying5
 a5 := Tryz.isAgg5
 z5 := Tryz.sizeOf5
 v5 := Tryz.zeroValue5
 t9 := Tryz.underlying9
 a9 := Tryz.isAgg9
 z9 := Tryz.sizeOf9
 v9 := Tryz.zeroValue9
 t20 := Tryz.underlying20
 a20 := Tryz.isAgg20
 z20 := Tryz.sizeOf20
 v20 := Tryz.zeroValue20
 t37 := Tryz.underlying140
 a37 := Tryz.isAgg140
 z37 := Tryz.sizeOf140
 v37 := Tryz.zeroValue140
 t70 := Tryz.underlying139
 a70 := Tryz.isAgg139
 z70 := Tryz.sizeOf139
 v70 := Tryz.zeroValue139
 t72 := Tryz.underlying142
 a72 := Tryz.isAgg142
 z72 := Tryz.sizeOf142
 v72 := Tryz.zeroValue142
 t75 := Tryz.underlying145
 a75 := Tryz.isAgg145
 z75 := Tryz.sizeOf145
 v75 := Tryz.zeroValue145
 t164 := Tryz.underlying216
 a164 := Tryz.isAgg216
 z164 := Tryz.sizeOf216
 v164 := Tryz.zeroValue216 }
theorem extra : Builder.Extra Tryz.prog ren := {
 sizeBuilder := by kernel_rfl
 liesBuilder := by kernel_rfl
 t5 := Tryz.underlying5
 a5 := Tryz.isAgg5
 z5 := Tryz.sizeOf5
 v5 := Tryz.zeroValue5
 infoByte := by kernel_rfl
 cellsByte := by kernel_rfl
 sizeByte := by kernel_rfl
 neB5 := by decide }
open Go.RowKit in
theorem WriteByte (B b : Nat) (bs : List Value) (c : Int) (w : World) (h : Lib.IsBuilder 142 5 B b bs w) (hlen : bs.length + 1 ≤ 140737488355328) (hBw : B ≤ w.heap.size) :
  Calls Tryz.prog 168 #[.pointer (some ⟨b, 0, none⟩), .int .u8 c] w fun e w' => e = .returned .nilIface ∧ (Lib.BuilderAt 142 5 B b (.pointer (some ⟨b, 0, none⟩)) (bs ++ [.int .u8 c]) w' ∧ Below B w w') := Any.Builder_WriteByte lays167 extra B b bs c w h hlen hBw
end Go.Proofs.YtondpnipoogoiaaGreatDoor.B1
namespace Go.Proofs.YtondpnipoogoiaaGreatDoor.X
open Go Go.RowKit
def tok : List UInt8 → Option (List UInt8)
 | [] => some []
 | [c] => if c = 126 then none else some [c]
 | c :: d :: r => if c = 126 then (if d = 48 then (tok r).map (126 :: ·) else if d = 49 then (tok r).map (47 :: ·) else none) else (tok (d :: r)).map (c :: ·)
theorem tok_plain (c : UInt8) (r : List UInt8) (h : c ≠ 126) : tok (c :: r) = (tok r).map (c :: ·) := by
 cases r with
 | nil => simp [tok, h]
 | cons d r => simp [tok, h]
theorem tok_none (r : List UInt8) (h0 : ∀ r', r ≠ 48 :: r') (h1 : ∀ r', r ≠ 49 :: r') : tok (126 :: r) = none := by
 cases r with
 | nil => simp [tok]
 | cons d r =>
  have a : d ≠ 48 := fun e => h0 r (by rw [e])
  have b : d ≠ 49 := fun e => h1 r (by rw [e])
  simp [tok, a, b]
def pointer_token.f (s : ByteArray) : Option (ByteArray × Bool) :=
 if s.size ≤ 140737488355328 then some (match tok s.data.toList with | some l => (⟨l.toArray⟩, true) | none => (ByteArray.empty, false)) else none
theorem cells_snoc (bs : List UInt8) (c : UInt8) : Lib.byteCells (bs ++ [c]) = Lib.byteCells bs ++ [.int .u8 c.toNat] := by simp [Lib.byteCells]
def TokRel (s : ByteArray) (w w' : World) (i : Nat) : Prop :=
 ∃ bs : List UInt8, Lib.IsBuilder 142 5 w.heap.size w.heap.size (Lib.byteCells bs) w' ∧ Below w.heap.size w w' ∧ bs.length ≤ i ∧ tok s.data.toList = (tok (s.data.toList.drop i)).map (bs ++ ·)
set_option maxHeartbeats 8000000 in
theorem pointer_token.calls (s : ByteArray) (r1 : ByteArray) (r2 : Bool) (w : World) (h : pointer_token.f s = some (r1, r2)) :
  Calls Tryz.prog 252 #[.string s] w fun e w' => e = .returned (.tuple #[.string r1, .bool r2]) ∧ Below w.heap.size w w' := by
 unfold pointer_token.f at h
 by_cases hc : s.size ≤ 140737488355328
 case neg => rw [if_neg hc] at h; exact absurd h (by simp)
 rw [if_pos hc] at h
 have HH := Hide0.mk (Option.some.inj h)
 clear h
 go_enter Tryz.func252, Tryz.ntmps252
 go_wp2
 refine wp_scope_straight ?_
 refine wp_seq ?_
 have HF : Hide0 (TokRel s w (w.alloc (.cells #[.pointer none, .slice none 0 0] 142)) 0) := ⟨[], Lib.fresh_isBuilder 142 5 w, (Below.refl _ _).alloc (Nat.le_refl _) _, Nat.le_refl _, by cases h : tok s.data.toList <;> simp [h]⟩
 go_wp2
 refine wp_label ?_
 go_wp2
 go_loopw [5] (fun n w' => ∃ i : Nat, i ≤ s.size ∧ n = .int .i64 i ∧ Hide0 (TokRel s w w' i)) (fun n _ => s.size - (intOf n).toNat)
 case atStart => exact ⟨0, Nat.zero_le _, rfl, HF⟩
 case round =>
  clear HF
  obtain ⟨i, hi, rfl, HR⟩ := hrel
  obtain ⟨bs, hI, hB, hlen, htok⟩ := HR.out
  have HI := Hide0.mk hI
  have HB := Hide0.mk hB
  have HT := Hide0.mk htok
  clear hI hB htok HR
  by_cases hlt : i < s.size
  ·obtain ⟨x, hx⟩ : ∃ x, s[i]'hlt = x := ⟨_, rfl⟩
   have hd : s.data.toList.drop i = x :: s.data.toList.drop (i + 1) := by
    have hl : i < s.data.toList.length := by rw [← Lib.size_eq]; exact hlt
    rw [List.drop_eq_getElem_cons hl, ← hx]
    rfl
   have hB5 : (Lib.byteCells bs).length + 1 ≤ 140737488355328 := by simp [Lib.byteCells]; omega
   by_cases hq : x = 126
   ·subst hq
    by_cases hl2 : i + 1 < s.size
    ·obtain ⟨y, hy⟩ : ∃ y, s[i + 1]'hl2 = y := ⟨_, rfl⟩
     have hd2 : s.data.toList.drop (i + 1) = y :: s.data.toList.drop (i + 1 + 1) := by
      have hl : i + 1 < s.data.toList.length := by rw [← Lib.size_eq]; exact hl2
      rw [List.drop_eq_getElem_cons hl, ← hy]
      rfl
     by_cases h48 : y = 48
     ·subst h48
      have HT2 := Hide0.mk (show tok s.data.toList = (tok (s.data.toList.drop (i + 1 + 1))).map ((bs ++ [126]) ++ ·) from by
       rw [HT.out, hd, hd2]; cases h : tok (s.data.toList.drop (i + 1 + 1)) <;> simp [tok, h])
      clear hd hd2 HT
      go_wp2_with fail
      refine (B1.WriteByte _ _ _ _ _ HI.out hB5 HB.out.size).mono ?_
      rintro e w2 ⟨rfl, hB2, hb2⟩
      have HR2 := Hide0.mk (show TokRel s w w2 (i + 1 + 1) from ⟨bs ++ [126], .inr (by rw [cells_snoc]; exact hB2), HB.out.trans hb2, by simp; omega, HT2.out⟩)
      clear hB2 hb2
      go_wp2
      go_round
      case rel => exact ⟨i + 1 + 1, by omega, by go_num, HR2⟩
      case measure => simp [intOf]; omega
     ·have h48' : ¬ ((y.toNat : Int) = 48) := fun e => h48 (UInt8.toNat_inj.1 (by simpa using (by omega : y.toNat = 48)))
      by_cases h49 : y = 49
      ·subst h49
       have HT2 := Hide0.mk (show tok s.data.toList = (tok (s.data.toList.drop (i + 1 + 1))).map ((bs ++ [47]) ++ ·) from by
        rw [HT.out, hd, hd2]; cases h : tok (s.data.toList.drop (i + 1 + 1)) <;> simp [tok, h])
       clear hd hd2 HT
       go_wp2_with fail
       refine (B1.WriteByte _ _ _ _ _ HI.out hB5 HB.out.size).mono ?_
       rintro e w2 ⟨rfl, hB2, hb2⟩
       have HR2 := Hide0.mk (show TokRel s w w2 (i + 1 + 1) from ⟨bs ++ [47], .inr (by rw [cells_snoc]; exact hB2), HB.out.trans hb2, by simp; omega, HT2.out⟩)
       clear hB2 hb2
       go_wp2
       go_round
       case rel => exact ⟨i + 1 + 1, by omega, by go_num, HR2⟩
       case measure => simp [intOf]; omega
      ·have h49' : ¬ ((y.toNat : Int) = 49) := fun e => h49 (UInt8.toNat_inj.1 (by simpa using (by omega : y.toNat = 49)))
       have hfin : tok s.data.toList = none := by rw [HT.out, hd, tok_none]; rfl; all_goals (intro r' e; rw [hd2] at e; injection e; contradiction)
       have H2 := HH.out
       rw [hfin] at H2
       obtain ⟨rfl, rfl⟩ := Prod.mk.inj H2
       clear HH H2 hd hd2 HT
       go_wp2
       (try rw [Exit.noGoto_ret])
       go_ret2
       exact ⟨rfl, HB.out⟩
    ·have hfin : tok s.data.toList = none := by
      rw [HT.out, hd, List.drop_of_length_le (by rw [← Lib.size_eq]; omega), tok_none]; rfl; all_goals (intro r' e; cases e)
     have H2 := HH.out
     rw [hfin] at H2
     obtain ⟨rfl, rfl⟩ := Prod.mk.inj H2
     clear HH H2 hd HT
     go_wp2
     (try rw [Exit.noGoto_ret])
     go_ret2
     exact ⟨rfl, HB.out⟩
   ·have hq' : ¬ ((x.toNat : Int) = 126) := fun e => hq (UInt8.toNat_inj.1 (by simpa using (by omega : x.toNat = 126)))
    have HT2 := Hide0.mk (show tok s.data.toList = (tok (s.data.toList.drop (i + 1))).map ((bs ++ [x]) ++ ·) from by
     rw [HT.out, hd, tok_plain _ _ hq]; cases h : tok (s.data.toList.drop (i + 1)) <;> simp [h])
    clear hd HT
    go_wp2_with fail
    refine (B1.WriteByte _ _ _ _ _ HI.out hB5 HB.out.size).mono ?_
    rintro e w2 ⟨rfl, hB2, hb2⟩
    have HR2 := Hide0.mk (show TokRel s w w2 (i + 1) from ⟨bs ++ [x], .inr (by rw [cells_snoc]; exact hB2), HB.out.trans hb2, by simp; omega, HT2.out⟩)
    clear hB2 hb2
    go_wp2
    go_round
    case rel => exact ⟨i + 1, by omega, by go_num, HR2⟩
    case measure => simp [intOf]; omega
  ·obtain rfl : i = s.size := by omega
   have hfin : tok s.data.toList = some bs := by
    rw [HT.out, List.drop_of_length_le (by rw [← Lib.size_eq]; exact Nat.le_refl _)]
    simp [tok]
   go_wp2_with fail
   refine (Tryz.Builder_String_any _ _ bs _ HI.out HB.out.size).mono ?_
   rintro e w3 ⟨rfl, hb3⟩
   have HW3 := Hide0.mk (HB.out.trans hb3)
   have H2 := HH.out
   rw [hfin] at H2
   obtain ⟨rfl, rfl⟩ := Prod.mk.inj H2
   clear hb3 HH H2
   go_wp2
   (try rw [Exit.noGoto_ret])
   go_ret2
   exact ⟨rfl, HW3.out⟩
end Go.Proofs.YtondpnipoogoiaaGreatDoor.X
namespace Go.Proofs.YtondpnipoogoiaaGreatDoor.F
open Go Go.RowKit Go.Proofs.Tryz
def tokF (s : ByteArray) : ByteArray × Bool := match X.tok s.data.toList with
 | some l => (⟨l.toArray⟩, true)
 | none => (ByteArray.empty, false)
theorem con252 (s : ByteArray) (h : s.size ≤ 140737488355328) : Con Tryz.prog I0 252 [vs s] (.val (.tup [vs (tokF s).1, vb (tokF s).2])) := by
 intro w fz vs hI hfz hR
 have hv : vs = #[Value.string s] := by
  refine Array.ext (by simpa using hR.1) (fun i h1 h2 => ?_)
  have h3 : i = 0 := by simpa using h2
  subst h3
  exact (hR.2 0 vs[0] (.lit (.string s)) (Array.getElem?_eq_getElem h1) rfl).lit_inv
 subst hv
 refine (X.pointer_token.calls s (tokF s).1 (tokF s).2 w (by unfold X.pointer_token.f; rw [if_pos h]; rfl)).mono fun e w' hh => ?_
 refine ⟨⟨_, hh.1, .tup _ _ rfl (fun j v a hv ha => ?_)⟩, hh.2⟩
 rcases j with _ | _ | j
 simp at hv ha; subst hv ha; exact .lit _
 simp at hv ha; subst hv ha; exact .lit _
 simp at ha
theorem str_pos {s : ByteArray} (h : (s.toList == (ba []).toList) = false) : 0 < s.size := by
 rcases Nat.eq_zero_or_pos s.size with h0 | h0
 exfalso
 have e : s = ba [] := by
  obtain ⟨⟨l⟩⟩ := s
  cases l with
  | nil => rfl
  | cons x l => simp [ByteArray.size] at h0
 subst e
 rw [beq_self_eq_true] at h
 cases h
 exact h0
def partsF (s : ByteArray) : List ByteArray := splitF (s.extract 1 s.size) 47
def pparseF (s : ByteArray) : List ByteArray × Int :=
 if (s.toList == (ba []).toList) = true then ([], 0)
 else if (byteAt s 0 != 47 || !X.validAt s s.size 0) = true then ([], 2)
 else if ((partsF s).any fun q => !(tokF q).2) = true then ([], 2)
 else if (((partsF s).length : Int) > 63) then ([], 4) else ((partsF s).map fun q => (tokF q).1, 0)
theorem parts_len (s : ByteArray) : (partsF s).length ≤ s.size + 1 := by
 have h := split_len (s.extract 1 s.size) 47
 rw [ByteArray.size_extract] at h
 unfold partsF; omega
theorem parts_size {s : ByteArray} {q : ByteArray} (h : q ∈ partsF s) : q.size ≤ s.size := by
 have h := split_size (s := s.extract 1 s.size) (c := 47) q h
 rw [ByteArray.size_extract] at h; omega
theorem pparse_bad {s : ByteArray} (h0 : (s.toList == (ba []).toList) = false) (h1 : (byteAt s 0 != 47 || !X.validAt s s.size 0) = true) : pparseF s = ([], 2) := by
 unfold pparseF; rw [if_neg (by rw [h0]; decide), if_pos h1]
theorem pparse_tok {s : ByteArray} {i : Nat} (h0 : (s.toList == (ba []).toList) = false) (h1 : (byteAt s 0 != 47 || !X.validAt s s.size 0) = false) (hi : i < (partsF s).length) (ht : (tokF ((partsF s).getD i (dflt .str))).2 = false) : pparseF s = ([], 2) := by
 unfold pparseF; rw [if_neg (by rw [h0]; decide), if_neg (by rw [h1]; decide), if_pos (List.any_eq_true.2 ⟨_, getD_mem hi (dflt .str), by rw [ht]; rfl⟩)]
theorem pparse_all {s : ByteArray} (h0 : (s.toList == (ba []).toList) = false) (h1 : (byteAt s 0 != 47 || !X.validAt s s.size 0) = false) (ht : ∀ j, j < (partsF s).length → (tokF ((partsF s).getD j (dflt .str))).2 = true) : pparseF s = if (((partsF s).length : Int) > 63) then ([], 4) else ((partsF s).map fun q => (tokF q).1, 0) := by
 have h2 : ((partsF s).any fun q => !(tokF q).2) = false := by
  rw [List.any_eq_false]
  intro x hx
  obtain ⟨j, hj, rfl⟩ := List.mem_iff_getElem.1 hx
  have := ht j hj
  rw [List.getD_eq_getElem?_getD, List.getElem?_eq_getElem hj] at this
  simpa using this
 unfold pparseF; rw [if_neg (by rw [h0]; decide), if_neg (by rw [h1]; decide), if_neg (by rw [h2]; decide)]
theorem con217 (s : ByteArray) (hs0 : s.size < 4294960000) : Con Tryz.prog I0 217 [vs s] (.val (.tup [.row .str ((pparseF s).1), vi ((pparseF s).2)])) := by
 refine con_of Tryz.func217 rfl (Nat.le_of_ble_eq_true rfl) stab (fun w0 fz a hI hs => ?_)
 refine wNs hs hI [] 8 [] [(0, vs s)] [] fun a w hs => ?_
 refine wp_seq ?_
 rcases bq (s.toList) ((ba []).toList) with ⟨b1, n1⟩ | ⟨b1, n1⟩
 refine wN hs hI (bz 1 1) 190798 [q1 b1] .ret [(2, nilv), (3, vi 0)] [] fun a w hs => ?_
 refine then_ret ?_
 exact rK (.val (.tup [rwS ([]), vi 0])) [] hs (by simp only [pparseF]; rw [if_pos b1])
 have hpos := str_pos b1
 refine wN hs hI (bz 1 0) 798 [q1 b1] .norm [(0, vs s)] [] fun a w hs => ?_
 refine then_norm ?_
 refine wp_seq ?_
 refine wp_seq ?_
 rcases bt ((byteAt s 0) != 47) with b2 | b2
 have n2 := bne_iff_ne.1 b2
 refine wL hs hI [(3, rg [] [1007] [4, 5, 6])] [] 7333171 [q4 (0 : Int) s.size, q1 b2, q1 b2, q1 b2, q1 b2] .norm [(0, vs s), (18, vb true)] [] tv fun a w hs => ?_
 refine then_norm ?_
 refine wN hs hI (bz 1 1) 1907 [q0 true] .ret [(2, nilv), (3, vi 2)] [] fun a w hs => ?_
 refine then_ret ?_
 exact rK (.val (.tup [rwS ([]), vi 2])) [] hs (by rw [pparse_bad b1 (by simp only [b2]; first | done | rfl)])
 have n2 := bne_eq_false_iff_eq.1 b2
 refine wL hs hI [(3, rg [(5, ciV 249 [vs s] (vb (X.validAt s s.size 0)))] [4, 5, 6] [1007])] [] 77437171 [q4 (0 : Int) s.size, q1 b2, q1 b2, q1 b2, q1 b2] .norm [(0, vs s), (18, vb (!(X.validAt s s.size 0)))] [] ⟨conValid _ rfl, tv⟩ fun a w hs => ?_
 refine then_norm ?_
 rcases bt (X.validAt s s.size 0) with b3 | b3
 refine wN hs hI (bz 1 0) 7 [q1 (ng1 b3)] .norm [(0, vs s)] [] fun a w hs => ?_
 refine then_norm ?_
 refine wNs hs hI [] 11 [] [(0, vs s), (4, nilv)] [] fun a w hs => ?_
 refine wp_seq ?_
 refine wLs hs hI [(6, rc [(2, ciA 82 [vs (s.extract 1 s.size), vs (ba [47])] [] [] (.own 9 .str (partsF s)))])] [] 8431 [⟨0 ≤ (1 : Int) ∧ (1 : Int) ≤ (s.size : Int) ∧ (s.size : Int) ≤ (s.size : Int), (by (repeat' apply And.intro) <;> (try split) <;> omega)⟩] [(4, nilv), (21, .own 7002), (22, vi ((partsF s).length : Int)), (23, vi 0)] [(7002, .sl 9 .str (partsF s))] ⟨conSplit _ _ (by rw [ByteArray.size_extract]; omega), tv⟩ fun a w hs => ?_
 refine wp_block ?_
 have h00 : (s.toList == (ba []).toList) = false := b1
 have h01 : (byteAt s 0 != 47 || !X.validAt s s.size 0) = false := by simp only [b2, b3]; first | done | rfl
 refine loop_L (N := Tryz.f217.ntmps) (w0 := w0) (ow := noO fz) (α := Nat) (fun p => [(4, .own 90000001), (21, .own 7002), (22, vi ((partsF s).length : Int)), (23, vi (p : Int))]) (fun p => [(7002, .sl 9 .str (partsF s)), (90000001, .sl 9 .str (((partsF s).take p).map (fun q => (tokF q).1)))]) (fun p => p ≤ (partsF s).length ∧ ∀ j, j < p → (tokF ((partsF s).getD j (dflt .str))).2 = true) (fun p => (partsF s).length - p) 0 ?_ ?_ ?_
 exact ⟨Nat.zero_le _, fun j hj => absurd hj (Nat.not_lt_zero _)⟩
 (have hs := (hs.nil 10000005 4 9 .str (by kernel_rfl) (by decide) (by kernel_rfl) (by kernel_rfl)).rmT [(4, .own 10000005), (21, .own 7002), (22, vi ((partsF s).length : Int)), (23, vi 0)] [(7002, .sl 9 .str (partsF s)), (10000005, .sl 9 .str ([]))] [(7002, 7002), (10000005, 10000005)] (by kernel_rfl); exact (hs.cst [(4, .own 10000005), (21, .own 7002), (22, vi ((partsF s).length : Int)), (23, vi ((0 : Nat) : Int))] [(7002, .sl 9 .str (partsF s)), (10000005, .sl 9 .str (((partsF s).take 0).map (fun q => (tokF q).1)))] rfl).rk [(7002, 7002), (90000001, 10000005)])
 rintro i hJ a w hs
 obtain ⟨hi, hall⟩ := hJ
 have hpl := parts_len s
 have htk := take_map_len (f := fun q => (tokF q).1) hi
 rcases bd ((i : Int) < ((partsF s).length : Int)) with ⟨b4, n4⟩ | ⟨b4, n4⟩
 rcases bt ((tokF ((partsF s).getD i (dflt .str))).2) with b5 | b5
 refine wL hs hI [(9, rc [(1, ciV 252 [vs ((partsF s).getD i (dflt .str))] (.tup [vs ((tokF ((partsF s).getD i (dflt .str))).1), vb ((tokF ((partsF s).getD i (dflt .str))).2)]))])] (bz 2 1) 176617897982968841291732720 [q1 b4, q4 (i : Int) ((partsF s).length), q2 (i < (partsF s).length), q1 (ng1 b5), q7 ((((partsF s).take i).map (fun q => (tokF q).1)).length) 1 16, q3 ((i : Int) + 1)] .norm [(4, .own 13003), (21, .own 7002), (22, vi ((partsF s).length : Int)), (23, vi ((i : Int) + 1))] [(7002, .sl 9 .str (partsF s)), (13003, .sl 9 .str ((((partsF s).take i).map (fun q => (tokF q).1)) ++ ([(tokF ((partsF s).getD i (dflt .str))).1])))] ⟨con252 _ (by have := parts_size (getD_mem (l := partsF s) (i := i) (by omega) (dflt .str)); omega), tv⟩ fun a w hs => ?_
 refine then_norm ⟨i + 1, ⟨by omega, fun j hj => by rcases Nat.lt_succ_iff_lt_or_eq.1 hj with h | h; exact hall j h; subst h; exact b5⟩, by omega, ?_⟩
 (have e0_ : ((i : Int) + 1) = ((((i + 1) : Nat) : Int)) := (by first | rfl | (omega)); have e1_ : ((((partsF s).take i).map (fun q => (tokF q).1)) ++ ([(tokF ((partsF s).getD i (dflt .str))).1])) = (((partsF s).take (i + 1)).map (fun q => (tokF q).1)) := (by exact take_map_succ (f := fun q => (tokF q).1) (by omega) _); exact (hs.cst [(4, .own 13003), (21, .own 7002), (22, vi ((partsF s).length : Int)), (23, vi (((i + 1) : Nat) : Int))] [(7002, .sl 9 .str (partsF s)), (13003, .sl 9 .str (((partsF s).take (i + 1)).map (fun q => (tokF q).1)))] (by first | (rw [e0_, e1_]; done) | (simp only [e0_, e1_]; done) | rfl | (simp only [e0_, e1_]; rfl))).rk [(7002, 7002), (90000001, 13003)])
 refine wL hs hI [(9, rc [(1, ciV 252 [vs ((partsF s).getD i (dflt .str))] (.tup [vs ((tokF ((partsF s).getD i (dflt .str))).1), vb ((tokF ((partsF s).getD i (dflt .str))).2)]))])] (bz 2 3) 1907982968841291732720 [q1 b4, q4 (i : Int) ((partsF s).length), q2 (i < (partsF s).length), q1 (ng0 b5)] .ret [(2, nilv), (3, vi 2)] [] ⟨con252 _ (by have := parts_size (getD_mem (l := partsF s) (i := i) (by omega) (dflt .str)); omega), tv⟩ fun a w hs => ?_
 refine then_ret ?_
 refine inb_ret ?_
 refine then_ret ?_
 exact rK (.val (.tup [rwS ([]), vi 2])) [] hs (by rw [pparse_tok (i := i) h00 h01 (by omega) b5])
 refine wN hs hI (bz 1 0) 720 [q1 b4] (.exit 0) [(4, .own 90000001)] [(90000001, .sl 9 .str (((partsF s).take i).map (fun q => (tokF q).1)))] fun a w hs => ?_
 refine then_exit ?_
 refine inb_hit ?_
 refine then_norm ?_
 rcases bd (((((partsF s).take i).map (fun q => (tokF q).1)).length : Int) > 63) with ⟨b6, n6⟩ | ⟨b6, n6⟩
 refine wN hs hI (bz 1 1) 19072918 [q1 b6] .ret [(2, nilv), (3, vi 4)] [] fun a w hs => ?_
 exact rK (.val (.tup [rwS ([]), vi 4])) [] hs (by obtain rfl : i = (partsF s).length := (by omega); rw [pparse_all h00 h01 (fun j hj => hall j hj), if_pos (by omega)])
 refine wN hs hI (bz 1 0) 12918972918 [q1 b6] .ret [(2, .own 90000001), (3, vi 0)] [(90000001, .sl 9 .str (((partsF s).take i).map (fun q => (tokF q).1)))] fun a w hs => ?_
 exact rK (.val (.tup [rwS (((partsF s).take i).map (fun q => (tokF q).1)), vi 0])) [90000001] hs (by obtain rfl : i = (partsF s).length := (by omega); rw [pparse_all h00 h01 (fun j hj => hall j hj), if_neg (by omega)]; rw [List.take_length])
 refine wN hs hI (bz 1 1) 1907 [q1 (ng0 b3)] .ret [(2, nilv), (3, vi 2)] [] fun a w hs => ?_
 refine then_ret ?_
 exact rK (.val (.tup [rwS ([]), vi 2])) [] hs (by rw [pparse_bad b1 (by simp only [b2, b3]; first | done | rfl)])
abbrev errN (e : Int) : Value := .iface 38 (.int .i64 e)
def outP (r : List ByteArray × Int) : COut := if (r.2 == 0) = true then .val (.row .str r.1) else .thr (errN r.2)
theorem outP_y {P : Program} {I : World → Prop} {f : FuncId} {xs : List AV} {r : List ByteArray × Int} (h : Con P I f xs (outP r)) (e : (r.2 == 0) = true) : Con P I f xs (.val (.row .str r.1)) := by
 rw [outP, if_pos e] at h; exact h
theorem outP_n {P : Program} {I : World → Prop} {f : FuncId} {xs : List AV} {r : List ByteArray × Int} (h : Con P I f xs (outP r)) (e : (r.2 == 0) = false) : Con P I f xs (.thr (errN r.2)) := by
 rw [outP, if_neg (by rw [e]; decide)] at h; exact h
def pathR (t : Tree) (x : ByteArray) : List ByteArray × Int := if memOk t x = true then pparseF (memV t x).s else ([], 2)
theorem pathR_no {t : Tree} {x : ByteArray} (h : memOk t x = false) : pathR t x = ([], 2) := if_neg (by rw [h]; decide)
theorem pathR_yes {t : Tree} {x : ByteArray} (h : memOk t x = true) : pathR t x = pparseF (memV t x).s := if_pos h
theorem con172 (t : Tree) (x : ByteArray) (hk : (cutK t).length < 1000000000) (hz : (memV t x).s.size < 4294960000) : Con Tryz.prog I0 172 [.agg (encTree t), vs x] (outP (pathR t x)) := by
 refine con_of Tryz.func172 rfl (Nat.le_of_ble_eq_true rfl) stab (fun w0 fz a hI hs => ?_)
 refine wNs hs hI [] 8 [] [(1, vs x), (2, .ptr 1000 0)] [(1000, bTr (t))] fun a w hs => ?_
 refine wp_seq ?_
 rcases bt (memOk t x) with b1 | b1
 refine wL hs hI [(1, rc [(2, ciV 121 [aTr (t), vs x] (vs ((memV t x).s))), (3, ciV 217 [vs ((memV t x).s)] (.tup [rwS ((pparseF ((memV t x).s)).1), vi ((pparseF ((memV t x).s)).2)]))])] [] 88440 [] .norm [(5, rwS ((pparseF ((memV t x).s)).1)), (6, vi ((pparseF ((memV t x).s)).2))] [] ⟨con121y _ _ hk (by assumption), con217 _ (by omega), tv⟩ fun a w hs => ?_
 refine then_norm ?_
 rcases bq ((pparseF ((memV t x).s)).2) (0) with ⟨b2, n2⟩ | ⟨b2, n2⟩
 refine wL hs hI [(2, rc [(3, ciV 118 [vb (((pparseF ((memV t x).s)).2) == 0), vi ((pparseF ((memV t x).s)).2)] (.tup []))])] [] 1986148 [] .ret [(4, rwS ((pparseF ((memV t x).s)).1))] [] ⟨con118y _ _ (by first | rfl | assumption | (simp_all; done)), tv⟩ fun a w hs => ?_
 exact rK (.val (rwS ((pparseF ((memV t x).s)).1))) [] hs (by rw [pathR_yes b1, outP, if_pos b2])
 refine wL hs hI [(2, rc [(3, ciA 118 [vb (((pparseF ((memV t x).s)).2) == 0), vi ((pparseF ((memV t x).s)).2)] [] [] (.thr (.iface 38 (.int .i64 ((pparseF ((memV t x).s)).2)))))])] [] 48 [] (.thr (.iface 38 (.int .i64 ((pparseF ((memV t x).s)).2)))) [] [] ⟨con118n _ _ (by first | rfl | assumption | (simp_all; done)), tv⟩ fun a w hs => ?_
 exact tK (.iface 38 (.int .i64 ((pparseF ((memV t x).s)).2))) hs (by rw [pathR_yes b1, outP, if_neg (by rw [b2]; decide)])
 refine wL hs hI [(1, rc [(2, ciA 121 [aTr (t), vs x] [] [] (.thr (.iface 38 (.int .i64 2))))])] [] 40 [] (.thr (.iface 38 (.int .i64 2))) [] [] ⟨con121n _ _ hk (by assumption), tv⟩ fun a w hs => ?_
 refine then_thr ?_
 exact tK (.iface 38 (.int .i64 2)) hs (by rw [pathR_no b1]; rfl)
abbrev nOp : ByteArray := ba [111, 112]
abbrev nPath : ByteArray := ba [112, 97, 116, 104]
abbrev nFrom : ByteArray := ba [102, 114, 111, 109]
abbrev nValue : ByteArray := ba [118, 97, 108, 117, 101]
def wordI (t : Tree) : Int := idxT (memV t nOp).s wordsL + 1
def exactO (t : Tree) : Bool := if fromF (wordI t) = true then exactF t [nFrom, nOp, nPath] else if valueF (wordI t) = true then exactF t [nOp, nPath, nValue] else exactF t [nOp, nPath]
def opO (t : Tree) (p f : List ByteArray) : Opn := ⟨wordI t, p, f, if (!fromF (wordI t) && valueF (wordI t)) = true then memV t nValue else Tree.zero⟩
def opR (t : Tree) : Opn × Int :=
  if (t.kind == 7) = true then
    (if memOk t nOp = true then
      (if decide (wordI t > 0) = true then
        (if exactO t = true then
          (if ((pathR t nPath).2 == 0) = true then
            (if fromF (wordI t) = true then
              (if ((pathR t nFrom).2 == 0) = true then (opO t (pathR t nPath).1 (pathR t nFrom).1, 0) else (opO t [] [], (pathR t nFrom).2))
             else (opO t (pathR t nPath).1 [], 0))
           else (opO t [] [], (pathR t nPath).2))
         else (opO t [] [], 2))
       else (opO t [] [], 2))
     else (opO t [] [], 2))
  else (opO t [] [], 2)
def outO (r : Opn × Int) : COut := if (r.2 == 0) = true then .val (.agg (enc .opn r.1)) else .thr (errN r.2)
theorem con119 (t : Tree) (hk : (cutK t).length < 1000000000) (hk2 : t.k.length < 1000000000) (hz : ∀ x, (memV t x).s.size < 4294960000) : Con Tryz.prog I0 119 [.agg (encTree t)] (outO (opR t)) := by
 have hx1 := idxT_in (memV t (ba [111, 112])).s wordsL
 have hw6 : wordsL.length = 6 := rfl
 refine con_of Tryz.func119 rfl (Nat.le_of_ble_eq_true rfl) stab (fun w0 fz a hI hs => ?_)
 refine wNs hs hI [] 8 [] [(1, .ptr 1000 0), (2, .ptr 1001 0)] [(1000, bTr (t)), (1001, .var [vi 0, nilv, nilv, vi 0, vb false, vb false, nilv, vi 0, vs (ba []), nilv, nilv])] fun a w hs => ?_
 refine wp_seq ?_
 rcases bq (t.kind) (7) with ⟨b1, n1⟩ | ⟨b1, n1⟩
 refine wL hs hI [(1, rc [(3, ciV 118 [vb (t.kind == 7), vi 2] (.tup []))])] [] 148 [] .norm [(1, .ptr 1000 0), (2, .ptr 1001 0)] [(1000, bTr (t)), (1001, .var [vi 0, nilv, nilv, vi 0, vb false, vb false, nilv, vi 0, vs (ba []), nilv, nilv])] ⟨con118y _ _ (by first | rfl | assumption | (simp_all; done)), tv⟩ fun a w hs => ?_
 refine then_norm ?_
 refine wp_seq ?_
 rcases bt (memOk t (ba [111, 112])) with b2 | b2
 refine wL hs hI [(2, rc [(0, ciV 115 [] (rwS wordsL)), (2, ciV 121 [aTr (t), vs (ba [111, 112])] (vs ((memV t (ba [111, 112])).s))), (3, ciV 171 [rwS wordsL, vs ((memV t (ba [111, 112])).s)] (vi (idxT ((memV t (ba [111, 112])).s) wordsL)))])] [] 874414 [q3 ((idxT ((memV t (ba [111, 112])).s) wordsL) + 1)] .norm [(1, .ptr 1000 0), (2, .ptr 1001 0), (3, .ptr 3006 0)] [(1000, bTr (t)), (1001, .var [vi 0, nilv, nilv, vi 0, vb false, vb false, nilv, vi 0, vs (ba []), nilv, nilv]), (3006, .var [vi ((idxT ((memV t (ba [111, 112])).s) wordsL) + 1), nilv, nilv, vi 0, vb false, vb false, nilv, vi 0, vs (ba []), nilv, nilv])] ⟨con115, con121y _ _ hk (by assumption), con171 _ _ (by decide), tv⟩ fun a w hs => ?_
 refine then_norm ?_
 refine wp_seq ?_
 rcases bd (((idxT ((memV t (ba [111, 112])).s) wordsL) + 1) > 0) with ⟨b3, n3⟩ | ⟨b3, n3⟩
 refine wL hs hI [(3, rc [(3, ciV 118 [vb (decide (((idxT ((memV t (ba [111, 112])).s) wordsL) + 1) > 0)), vi 2] (.tup []))])] [] 148 [] .norm [(1, .ptr 1000 0), (2, .ptr 1001 0), (3, .ptr 3006 0)] [(1000, bTr (t)), (1001, .var [vi 0, nilv, nilv, vi 0, vb false, vb false, nilv, vi 0, vs (ba []), nilv, nilv]), (3006, .var [vi ((idxT ((memV t (ba [111, 112])).s) wordsL) + 1), nilv, nilv, vi 0, vb false, vb false, nilv, vi 0, vs (ba []), nilv, nilv])] ⟨con118y _ _ (by first | rfl | assumption | (simp_all; done)), tv⟩ fun a w hs => ?_
 refine then_norm ?_
 refine wp_seq ?_
 rcases bt (fromF ((idxT ((memV t (ba [111, 112])).s) wordsL) + 1)) with b4 | b4
 rcases bt (exactF t ([(ba [102, 114, 111, 109]), (ba [111, 112]), (ba [112, 97, 116, 104])])) with b5 | b5
 refine wL hs hI [(5, rc [(2, ciV 113 [vi ((idxT ((memV t (ba [111, 112])).s) wordsL) + 1)] (vb (fromF ((idxT ((memV t (ba [111, 112])).s) wordsL) + 1))))]), (6, rc [(2, ciA 120 [aTr (t), rwS ([(ba [102, 114, 111, 109]), (ba [111, 112]), (ba [112, 97, 116, 104])])] [7001] [] (.val (.tup [])))])] (bz 1 1) 14176040 [q1 b4] .norm [(1, .ptr 1000 0), (2, .ptr 1001 0), (3, .ptr 3006 0)] [(1000, bTr (t)), (1001, .var [vi 0, nilv, nilv, vi 0, vb false, vb false, nilv, vi 0, vs (ba []), nilv, nilv]), (3006, .var [vi ((idxT ((memV t (ba [111, 112])).s) wordsL) + 1), nilv, nilv, vi 0, vb false, vb false, nilv, vi 0, vs (ba []), nilv, nilv])] ⟨con113 _, con120y _ _ hk2 (by decide) (by assumption), tv⟩ fun a w hs => ?_
 refine then_norm ?_
 rcases bq ((pathR t (ba [112, 97, 116, 104])).2) (0) with ⟨b6, n6⟩ | ⟨b6, n6⟩
 rcases bq ((pathR t (ba [102, 114, 111, 109])).2) (0) with ⟨b7, n7⟩ | ⟨b7, n7⟩
 refine wL hs hI [(10, rc [(1, ciV 172 [aTr (t), vs (ba [112, 97, 116, 104])] (rwS ((pathR t (ba [112, 97, 116, 104])).1)))]), (11, rc [(2, ciV 113 [vi ((idxT ((memV t (ba [111, 112])).s) wordsL) + 1)] (vb (fromF ((idxT ((memV t (ba [111, 112])).s) wordsL) + 1))))]), (12, rc [(1, ciV 172 [aTr (t), vs (ba [102, 114, 111, 109])] (rwS ((pathR t (ba [102, 114, 111, 109])).1)))])] (bz 1 1) 19896847291406841 [q1 b4] .ret [(2, .ptr 1001 0)] [(1001, .var [vi ((idxT ((memV t (ba [111, 112])).s) wordsL) + 1), rwS ((pathR t (ba [112, 97, 116, 104])).1), rwS ((pathR t (ba [102, 114, 111, 109])).1), vi 0, vb false, vb false, nilv, vi 0, vs (ba []), nilv, nilv])] ⟨outP_y (con172 _ _ hk (hz _)) (by assumption), con113 _, outP_y (con172 _ _ hk (hz _)) (by assumption), tv⟩ fun a w hs => ?_
 exact rK (.val (.agg [vi ((idxT ((memV t (ba [111, 112])).s) wordsL) + 1), rwS ((pathR t (ba [112, 97, 116, 104])).1), rwS ((pathR t (ba [102, 114, 111, 109])).1), vi 0, vb false, vb false, rwU ([]), vi 0, vs (ba []), rwS ([]), rwT ([])])) [] hs (by rw [opR, if_pos (show (t.kind == 7) = true from b1), if_pos (show memOk t nOp = true from b2), if_pos (show decide (wordI t > 0) = true from b3), if_pos (show exactO t = true from (by rw [exactO, if_pos (show fromF (wordI t) = true from b4)]; exact b5)), if_pos (show ((pathR t nPath).2 == 0) = true from b6), if_pos (show fromF (wordI t) = true from b4), if_pos (show ((pathR t nFrom).2 == 0) = true from b7), show opO t (pathR t nPath).1 (pathR t nFrom).1 = ⟨wordI t, (pathR t nPath).1, (pathR t nFrom).1, Tree.zero⟩ from by rw [opO, if_neg (by rw [show (!fromF (wordI t) && valueF (wordI t)) = false from by rw [show fromF (wordI t) = true from b4]; rfl]; decide)]]; rfl)
 refine wL hs hI [(10, rc [(1, ciV 172 [aTr (t), vs (ba [112, 97, 116, 104])] (rwS ((pathR t (ba [112, 97, 116, 104])).1)))]), (11, rc [(2, ciV 113 [vi ((idxT ((memV t (ba [111, 112])).s) wordsL) + 1)] (vb (fromF ((idxT ((memV t (ba [111, 112])).s) wordsL) + 1))))]), (12, rc [(1, ciA 172 [aTr (t), vs (ba [102, 114, 111, 109])] [] [] (.thr (.iface 38 (.int .i64 ((pathR t (ba [102, 114, 111, 109])).2)))))])] (bz 1 1) 47291406841 [q1 b4] (.thr (.iface 38 (.int .i64 ((pathR t (ba [102, 114, 111, 109])).2)))) [] [] ⟨outP_y (con172 _ _ hk (hz _)) (by assumption), con113 _, outP_n (con172 _ _ hk (hz _)) (by assumption), tv⟩ fun a w hs => ?_
 exact tK (.iface 38 (.int .i64 ((pathR t (ba [102, 114, 111, 109])).2))) hs (by rw [opR, if_pos (show (t.kind == 7) = true from b1), if_pos (show memOk t nOp = true from b2), if_pos (show decide (wordI t > 0) = true from b3), if_pos (show exactO t = true from (by rw [exactO, if_pos (show fromF (wordI t) = true from b4)]; exact b5)), if_pos (show ((pathR t nPath).2 == 0) = true from b6), if_pos (show fromF (wordI t) = true from b4), if_neg (by rw [show ((pathR t nFrom).2 == 0) = false from b7]; decide), outO, if_neg (by rw [b7]; decide)])
 refine wL hs hI [(10, rc [(1, ciA 172 [aTr (t), vs (ba [112, 97, 116, 104])] [] [] (.thr (.iface 38 (.int .i64 ((pathR t (ba [112, 97, 116, 104])).2)))))])] [] 41 [] (.thr (.iface 38 (.int .i64 ((pathR t (ba [112, 97, 116, 104])).2)))) [] [] ⟨outP_n (con172 _ _ hk (hz _)) (by assumption), tv⟩ fun a w hs => ?_
 exact tK (.iface 38 (.int .i64 ((pathR t (ba [112, 97, 116, 104])).2))) hs (by rw [opR, if_pos (show (t.kind == 7) = true from b1), if_pos (show memOk t nOp = true from b2), if_pos (show decide (wordI t > 0) = true from b3), if_pos (show exactO t = true from (by rw [exactO, if_pos (show fromF (wordI t) = true from b4)]; exact b5)), if_neg (by rw [show ((pathR t nPath).2 == 0) = false from b6]; decide), outO, if_neg (by rw [b6]; decide)])
 refine wL hs hI [(5, rc [(2, ciV 113 [vi ((idxT ((memV t (ba [111, 112])).s) wordsL) + 1)] (vb (fromF ((idxT ((memV t (ba [111, 112])).s) wordsL) + 1))))]), (6, rc [(2, ciA 120 [aTr (t), rwS ([(ba [102, 114, 111, 109]), (ba [111, 112]), (ba [112, 97, 116, 104])])] [7001] [] (.thr (.iface 38 (.int .i64 2))))])] (bz 1 1) 4176040 [q1 b4] (.thr (.iface 38 (.int .i64 2))) [] [] ⟨con113 _, con120n _ _ hk2 (by decide) (by assumption), tv⟩ fun a w hs => ?_
 refine then_thr ?_
 exact tK (.iface 38 (.int .i64 2)) hs (by rw [opR, if_pos (show (t.kind == 7) = true from b1), if_pos (show memOk t nOp = true from b2), if_pos (show decide (wordI t > 0) = true from b3), if_neg (by rw [show exactO t = false from (by rw [exactO, if_pos (show fromF (wordI t) = true from b4)]; exact b5)]; decide)]; rfl)
 rcases bt (valueF ((idxT ((memV t (ba [111, 112])).s) wordsL) + 1)) with b8 | b8
 rcases bt (exactF t ([(ba [111, 112]), (ba [112, 97, 116, 104]), (ba [118, 97, 108, 117, 101])])) with b9 | b9
 refine wL hs hI [(5, rc [(2, ciV 113 [vi ((idxT ((memV t (ba [111, 112])).s) wordsL) + 1)] (vb (fromF ((idxT ((memV t (ba [111, 112])).s) wordsL) + 1))))]), (7, rc [(2, ciV 116 [vi ((idxT ((memV t (ba [111, 112])).s) wordsL) + 1)] (vb (valueF ((idxT ((memV t (ba [111, 112])).s) wordsL) + 1))))]), (8, rc [(2, ciA 120 [aTr (t), rwS ([(ba [111, 112]), (ba [112, 97, 116, 104]), (ba [118, 97, 108, 117, 101])])] [9001] [] (.val (.tup [])))]), (9, rc [(1, ciV 122 [aTr (t), vs (ba [118, 97, 108, 117, 101])] (.tup [aTr ((memV t (ba [118, 97, 108, 117, 101]))), vb (memB t (ba [118, 97, 108, 117, 101]))]))])] (bz 2 2) 8841291417604176040 [q1 b4, q1 b8] .norm [(1, .ptr 1000 0), (2, .ptr 1001 0), (3, .ptr 3006 0)] [(1000, bTr (t)), (1001, .var [vi 0, nilv, nilv, vi 0, vb false, vb false, nilv, vi 0, vs (ba []), nilv, nilv]), (3006, .var (e8 [vi ((idxT ((memV t (ba [111, 112])).s) wordsL) + 1), nilv, nilv] ((memV t (ba [118, 97, 108, 117, 101]))) []))] ⟨con113 _, con116 _, con120y _ _ hk2 (by decide) (by assumption), con122 _ _ (by omega), tv⟩ fun a w hs => ?_
 refine then_norm ?_
 rcases bq ((pathR t (ba [112, 97, 116, 104])).2) (0) with ⟨b10, n10⟩ | ⟨b10, n10⟩
 refine wL hs hI [(10, rc [(1, ciV 172 [aTr (t), vs (ba [112, 97, 116, 104])] (rwS ((pathR t (ba [112, 97, 116, 104])).1)))]), (11, rc [(2, ciV 113 [vi ((idxT ((memV t (ba [111, 112])).s) wordsL) + 1)] (vb (fromF ((idxT ((memV t (ba [111, 112])).s) wordsL) + 1))))])] (bz 1 0) 19897291406841 [q1 b4] .ret [(2, .ptr 1001 0)] [(1001, .var (e8 [vi ((idxT ((memV t (ba [111, 112])).s) wordsL) + 1), rwS ((pathR t (ba [112, 97, 116, 104])).1), nilv] ((memV t (ba [118, 97, 108, 117, 101]))) []))] ⟨outP_y (con172 _ _ hk (hz _)) (by assumption), con113 _, tv⟩ fun a w hs => ?_
 exact rK (.val (.agg (e8 [vi ((idxT ((memV t (ba [111, 112])).s) wordsL) + 1), rwS ((pathR t (ba [112, 97, 116, 104])).1), rwS ([])] ((memV t (ba [118, 97, 108, 117, 101]))) []))) [] hs (by rw [opR, if_pos (show (t.kind == 7) = true from b1), if_pos (show memOk t nOp = true from b2), if_pos (show decide (wordI t > 0) = true from b3), if_pos (show exactO t = true from (by rw [exactO, if_neg (by rw [show fromF (wordI t) = false from b4]; decide), if_pos (show valueF (wordI t) = true from b8)]; exact b9)), if_pos (show ((pathR t nPath).2 == 0) = true from b10), if_neg (by rw [show fromF (wordI t) = false from b4]; decide), show opO t (pathR t nPath).1 [] = ⟨wordI t, (pathR t nPath).1, [], memV t nValue⟩ from by rw [opO, if_pos (by rw [show (!fromF (wordI t) && valueF (wordI t)) = true from by rw [show fromF (wordI t) = false from b4, show valueF (wordI t) = true from b8]; rfl])]]; rfl)
 refine wL hs hI [(10, rc [(1, ciA 172 [aTr (t), vs (ba [112, 97, 116, 104])] [] [] (.thr (.iface 38 (.int .i64 ((pathR t (ba [112, 97, 116, 104])).2)))))])] [] 41 [] (.thr (.iface 38 (.int .i64 ((pathR t (ba [112, 97, 116, 104])).2)))) [] [] ⟨outP_n (con172 _ _ hk (hz _)) (by assumption), tv⟩ fun a w hs => ?_
 exact tK (.iface 38 (.int .i64 ((pathR t (ba [112, 97, 116, 104])).2))) hs (by rw [opR, if_pos (show (t.kind == 7) = true from b1), if_pos (show memOk t nOp = true from b2), if_pos (show decide (wordI t > 0) = true from b3), if_pos (show exactO t = true from (by rw [exactO, if_neg (by rw [show fromF (wordI t) = false from b4]; decide), if_pos (show valueF (wordI t) = true from b8)]; exact b9)), if_neg (by rw [show ((pathR t nPath).2 == 0) = false from b10]; decide), outO, if_neg (by rw [b10]; decide)])
 refine wL hs hI [(5, rc [(2, ciV 113 [vi ((idxT ((memV t (ba [111, 112])).s) wordsL) + 1)] (vb (fromF ((idxT ((memV t (ba [111, 112])).s) wordsL) + 1))))]), (7, rc [(2, ciV 116 [vi ((idxT ((memV t (ba [111, 112])).s) wordsL) + 1)] (vb (valueF ((idxT ((memV t (ba [111, 112])).s) wordsL) + 1))))]), (8, rc [(2, ciA 120 [aTr (t), rwS ([(ba [111, 112]), (ba [112, 97, 116, 104]), (ba [118, 97, 108, 117, 101])])] [9001] [] (.thr (.iface 38 (.int .i64 2))))])] (bz 2 2) 417604176040 [q1 b4, q1 b8] (.thr (.iface 38 (.int .i64 2))) [] [] ⟨con113 _, con116 _, con120n _ _ hk2 (by decide) (by assumption), tv⟩ fun a w hs => ?_
 refine then_thr ?_
 exact tK (.iface 38 (.int .i64 2)) hs (by rw [opR, if_pos (show (t.kind == 7) = true from b1), if_pos (show memOk t nOp = true from b2), if_pos (show decide (wordI t > 0) = true from b3), if_neg (by rw [show exactO t = false from (by rw [exactO, if_neg (by rw [show fromF (wordI t) = false from b4]; decide), if_pos (show valueF (wordI t) = true from b8)]; exact b9)]; decide)]; rfl)
 rcases bt (exactF t ([(ba [111, 112]), (ba [112, 97, 116, 104])])) with b11 | b11
 refine wL hs hI [(5, rc [(2, ciV 113 [vi ((idxT ((memV t (ba [111, 112])).s) wordsL) + 1)] (vb (fromF ((idxT ((memV t (ba [111, 112])).s) wordsL) + 1))))]), (7, rc [(2, ciV 116 [vi ((idxT ((memV t (ba [111, 112])).s) wordsL) + 1)] (vb (valueF ((idxT ((memV t (ba [111, 112])).s) wordsL) + 1))))]), (4, rc [(2, ciA 120 [aTr (t), rwS ([(ba [111, 112]), (ba [112, 97, 116, 104])])] [5001] [] (.val (.tup [])))])] (bz 2 0) 1417604176040 [q1 b4, q1 b8] .norm [(1, .ptr 1000 0), (2, .ptr 1001 0), (3, .ptr 3006 0)] [(1000, bTr (t)), (1001, .var [vi 0, nilv, nilv, vi 0, vb false, vb false, nilv, vi 0, vs (ba []), nilv, nilv]), (3006, .var [vi ((idxT ((memV t (ba [111, 112])).s) wordsL) + 1), nilv, nilv, vi 0, vb false, vb false, nilv, vi 0, vs (ba []), nilv, nilv])] ⟨con113 _, con116 _, con120y _ _ hk2 (by decide) (by assumption), tv⟩ fun a w hs => ?_
 refine then_norm ?_
 rcases bq ((pathR t (ba [112, 97, 116, 104])).2) (0) with ⟨b12, n12⟩ | ⟨b12, n12⟩
 refine wL hs hI [(10, rc [(1, ciV 172 [aTr (t), vs (ba [112, 97, 116, 104])] (rwS ((pathR t (ba [112, 97, 116, 104])).1)))]), (11, rc [(2, ciV 113 [vi ((idxT ((memV t (ba [111, 112])).s) wordsL) + 1)] (vb (fromF ((idxT ((memV t (ba [111, 112])).s) wordsL) + 1))))])] (bz 1 0) 19897291406841 [q1 b4] .ret [(2, .ptr 1001 0)] [(1001, .var [vi ((idxT ((memV t (ba [111, 112])).s) wordsL) + 1), rwS ((pathR t (ba [112, 97, 116, 104])).1), nilv, vi 0, vb false, vb false, nilv, vi 0, vs (ba []), nilv, nilv])] ⟨outP_y (con172 _ _ hk (hz _)) (by assumption), con113 _, tv⟩ fun a w hs => ?_
 exact rK (.val (.agg [vi ((idxT ((memV t (ba [111, 112])).s) wordsL) + 1), rwS ((pathR t (ba [112, 97, 116, 104])).1), rwS ([]), vi 0, vb false, vb false, rwU ([]), vi 0, vs (ba []), rwS ([]), rwT ([])])) [] hs (by rw [opR, if_pos (show (t.kind == 7) = true from b1), if_pos (show memOk t nOp = true from b2), if_pos (show decide (wordI t > 0) = true from b3), if_pos (show exactO t = true from (by rw [exactO, if_neg (by rw [show fromF (wordI t) = false from b4]; decide), if_neg (by rw [show valueF (wordI t) = false from b8]; decide)]; exact b11)), if_pos (show ((pathR t nPath).2 == 0) = true from b12), if_neg (by rw [show fromF (wordI t) = false from b4]; decide), show opO t (pathR t nPath).1 [] = ⟨wordI t, (pathR t nPath).1, [], Tree.zero⟩ from by rw [opO, if_neg (by rw [show (!fromF (wordI t) && valueF (wordI t)) = false from by rw [show fromF (wordI t) = false from b4, show valueF (wordI t) = false from b8]; rfl]; decide)]]; rfl)
 refine wL hs hI [(10, rc [(1, ciA 172 [aTr (t), vs (ba [112, 97, 116, 104])] [] [] (.thr (.iface 38 (.int .i64 ((pathR t (ba [112, 97, 116, 104])).2)))))])] [] 41 [] (.thr (.iface 38 (.int .i64 ((pathR t (ba [112, 97, 116, 104])).2)))) [] [] ⟨outP_n (con172 _ _ hk (hz _)) (by assumption), tv⟩ fun a w hs => ?_
 exact tK (.iface 38 (.int .i64 ((pathR t (ba [112, 97, 116, 104])).2))) hs (by rw [opR, if_pos (show (t.kind == 7) = true from b1), if_pos (show memOk t nOp = true from b2), if_pos (show decide (wordI t > 0) = true from b3), if_pos (show exactO t = true from (by rw [exactO, if_neg (by rw [show fromF (wordI t) = false from b4]; decide), if_neg (by rw [show valueF (wordI t) = false from b8]; decide)]; exact b11)), if_neg (by rw [show ((pathR t nPath).2 == 0) = false from b12]; decide), outO, if_neg (by rw [b12]; decide)])
 refine wL hs hI [(5, rc [(2, ciV 113 [vi ((idxT ((memV t (ba [111, 112])).s) wordsL) + 1)] (vb (fromF ((idxT ((memV t (ba [111, 112])).s) wordsL) + 1))))]), (7, rc [(2, ciV 116 [vi ((idxT ((memV t (ba [111, 112])).s) wordsL) + 1)] (vb (valueF ((idxT ((memV t (ba [111, 112])).s) wordsL) + 1))))]), (4, rc [(2, ciA 120 [aTr (t), rwS ([(ba [111, 112]), (ba [112, 97, 116, 104])])] [5001] [] (.thr (.iface 38 (.int .i64 2))))])] (bz 2 0) 417604176040 [q1 b4, q1 b8] (.thr (.iface 38 (.int .i64 2))) [] [] ⟨con113 _, con116 _, con120n _ _ hk2 (by decide) (by assumption), tv⟩ fun a w hs => ?_
 refine then_thr ?_
 exact tK (.iface 38 (.int .i64 2)) hs (by rw [opR, if_pos (show (t.kind == 7) = true from b1), if_pos (show memOk t nOp = true from b2), if_pos (show decide (wordI t > 0) = true from b3), if_neg (by rw [show exactO t = false from (by rw [exactO, if_neg (by rw [show fromF (wordI t) = false from b4]; decide), if_neg (by rw [show valueF (wordI t) = false from b8]; decide)]; exact b11)]; decide)]; rfl)
 refine wL hs hI [(3, rc [(3, ciA 118 [vb (decide (((idxT ((memV t (ba [111, 112])).s) wordsL) + 1) > 0)), vi 2] [] [] (.thr (.iface 38 (.int .i64 2))))])] [] 48 [] (.thr (.iface 38 (.int .i64 2))) [] [] ⟨con118n _ _ (by first | rfl | assumption | (simp_all; done)), tv⟩ fun a w hs => ?_
 refine then_thr ?_
 exact tK (.iface 38 (.int .i64 2)) hs (by rw [opR, if_pos (show (t.kind == 7) = true from b1), if_pos (show memOk t nOp = true from b2), if_neg (by rw [show decide (wordI t > 0) = false from b3]; decide)]; rfl)
 refine wL hs hI [(2, ⟨[(0, ciV 115 [] (rwS wordsL)), (2, ciA 121 [aTr (t), vs (ba [111, 112])] [] [] (.thr (.iface 38 (.int .i64 2))))], [], [3, 4, 5, 7]⟩)] [] 11414 [] (.thr (.iface 38 (.int .i64 2))) [] [] ⟨con115, con121n _ _ hk (by assumption), tv⟩ fun a w hs => ?_
 refine then_thr ?_
 exact tK (.iface 38 (.int .i64 2)) hs (by rw [opR, if_pos (show (t.kind == 7) = true from b1), if_neg (by rw [show memOk t nOp = false from b2]; decide)]; rfl)
 refine wL hs hI [(1, rc [(3, ciA 118 [vb (t.kind == 7), vi 2] [] [] (.thr (.iface 38 (.int .i64 2))))])] [] 48 [] (.thr (.iface 38 (.int .i64 2))) [] [] ⟨con118n _ _ (by first | rfl | assumption | (simp_all; done)), tv⟩ fun a w hs => ?_
 refine then_thr ?_
 exact tK (.iface 38 (.int .i64 2)) hs (by rw [opR, if_neg (by rw [show (t.kind == 7) = false from b1]; decide)]; rfl)
structure Pat where
 lang : Int
 ops : List Opn
 value : Tree
 mask : List (List ByteArray)
def Pat.zero : Pat := ⟨0, [], Tree.zero, []⟩
def encP (p : Pat) : List AV := vi p.lang :: .row .opn p.ops :: encTree p.value ++ [.row .strs p.mask]
abbrev nMask : ByteArray := ba [109, 97, 115, 107]
def readOps : List Tree → List Opn × Int
 | [] => ([], 0)
 | x :: l => if ((opR x).2 == 0) = true then ((opR x).1 :: (readOps l).1, (readOps l).2) else ([], (opR x).2)
theorem readOps_all : ∀ {l : List Tree}, (∀ j, j < l.length → ((opR (l.getD j (dflt .tree))).2 == 0) = true) → readOps l = (l.map (fun x => (opR x).1), 0)
 | [], _ => rfl
 | x :: l, h => by
  have h0 : ((opR x).2 == 0) = true := h 0 (by simp)
  have ih := readOps_all (l := l) (fun j hj => h (j + 1) (by simpa using hj))
  rw [readOps, if_pos h0, ih]; rfl
theorem readOps_at : ∀ {l : List Tree} {i : Nat}, i < l.length → (∀ j, j < i → ((opR (l.getD j (dflt .tree))).2 == 0) = true) → ((opR (l.getD i (dflt .tree))).2 == 0) = false → (readOps l).2 = (opR (l.getD i (dflt .tree))).2
 | [], _, h, _, _ => by simp at h
 | x :: l, 0, _, _, h => by
  have h0 : ((opR x).2 == 0) = false := h
  rw [readOps, if_neg (by rw [h0]; decide)]; rfl
 | x :: l, i + 1, hi, ha, h => by
  have h0 : ((opR x).2 == 0) = true := ha 0 (Nat.succ_pos i)
  have ih := readOps_at (l := l) (i := i) (by simpa using hi) (fun j hj => ha (j + 1) (by omega)) h
  rw [readOps, if_pos h0]; exact ih
def readR (lang : Int) (t : Tree) : Pat × Int :=
  if (decide (lang ≥ 1) && (decide (lang ≤ 3) && validT t)) = true then
    (if (lang == 1) = true then
      (if (t.kind == 6) = true then (if decide ((t.v.length : Int) ≤ 60) = true then (⟨lang, (readOps t.v).1, Tree.zero, []⟩, (readOps t.v).2) else (Pat.zero, 4)) else (Pat.zero, 2))
     else if (lang == 3) = true then
      (if exactF t [nMask, nValue] = true then (if memOk t nMask = true then (if ((parseF (memV t nMask).s).2 == 0) = true then (⟨lang, [], memV t nValue, (parseF (memV t nMask).s).1⟩, 0) else (Pat.zero, (parseF (memV t nMask).s).2)) else (Pat.zero, 2)) else (Pat.zero, 2))
     else (⟨lang, [], t, []⟩, 0))
  else (Pat.zero, 1)
def outR (r : Pat × Int) : COut := if (r.2 == 0) = true then .val (.agg (encP r.1)) else .thr (errN r.2)
theorem outO_y {P : Program} {I : World → Prop} {f : FuncId} {xs : List AV} {r : Opn × Int} (h : Con P I f xs (outO r)) (e : (r.2 == 0) = true) : Con P I f xs (.val (.agg (enc .opn r.1))) := by
 rw [outO, if_pos e] at h; exact h
theorem outO_n {P : Program} {I : World → Prop} {f : FuncId} {xs : List AV} {r : Opn × Int} (h : Con P I f xs (outO r)) (e : (r.2 == 0) = false) : Con P I f xs (.thr (errN r.2)) := by
 rw [outO, if_neg (by rw [e]; decide)] at h; exact h
theorem own_size {t : Tree} (h : ownO t = true) : t.s.size ≤ 2000 := by
 simp only [ownO, Bool.and_eq_true] at h
 have h1 := h.2.2.2.1
 unfold textO at h1
 by_cases h4 : t.kind = 4
 rw [if_pos h4] at h1
 unfold textOk at h1
 rw [Bool.and_eq_true] at h1
 have := of_decide_eq_true h1.1; omega
 rw [if_neg h4] at h1
 by_cases h5 : t.kind = 5
 rw [if_pos h5] at h1
 have := of_decide_eq_true h1; omega
 rw [if_neg h5] at h1
 have e := eqT_iff.1 (show eqT t.s (ba []) = true from h1)
 rw [e]; decide
theorem chk_mem_own {v : List Tree} {d l : Int} {c : Tree} (h : (chkL v d l).1 = true) (hc : c ∈ v) : ownO c = true := by
 obtain ⟨l', h1⟩ := chkL_mem h hc
 exact (chk_own h1).1
theorem memV_size {t : Tree} {d l : Int} (h : (chk t d l).1 = true) (x : ByteArray) : (memV t x).s.size ≤ 2000 := by
 cases hb : memB t x with
 | true => exact own_size (chk_mem_own (chk_own h).2 (mem_cutV hb))
 | false => rw [memV_zero hb]; decide
theorem memV_size2 {t : Tree} (h : validT t = true) (x : ByteArray) : (memV t x).s.size ≤ 2000 := memV_size h x
theorem memV_item {t : Tree} (h : validT t = true) {i : Nat} (hi : i < t.v.length) (x : ByteArray) : (memV (t.v.getD i (dflt .tree)) x).s.size ≤ 2000 := by
 obtain ⟨l', h1⟩ := chkL_mem (chk_own h).2 (getD_mem hi (dflt .tree))
 exact memV_size h1 x
theorem cutK_k (t : Tree) : (cutK t).length ≤ t.k.length := by
 unfold cutK
 split
 rw [List.length_take]; omega
 exact Nat.zero_le _
theorem con59 (lang : Int) (t : Tree) (hft : fineT t) : Con Tryz.prog I0 59 [vi lang, .agg (encTree t)] (outR (readR lang t)) := by
 obtain ⟨⟨hf1, hf2, hf3, hf4⟩, hf5⟩ := (fine_eq t).1 hft
 refine con_of Tryz.func59 rfl (Nat.le_of_ble_eq_true rfl) stab (fun w0 fz a hI hs => ?_)
 refine wNs hs hI [] 8 [] [(0, vi lang), (3, .ptr 1000 0), (4, .ptr 1001 0)] [(1000, bTr (t)), (1001, .var [vi 0, nilv, vi 0, vb false, vb false, nilv, vi 0, vs (ba []), nilv, nilv, nilv])] fun a w hs => ?_
 refine wp_seq ?_
 rcases bd (lang ≥ 1) with ⟨b1, n1⟩ | ⟨b1, n1⟩
 rcases bd (lang ≤ 3) with ⟨b2, n2⟩ | ⟨b2, n2⟩
 rcases bt (validT t) with b3 | b3
 have hvt := b3
 refine wL hs hI [(1, rg [(8, ciV 57 [aTr (t)] (vb (validT t))), (10, ciV 118 [vb (validT t), vi 1] (.tup []))] [3, 4, 1005, 7, 8, 1009] [])] [] 1434377778 [q1 b1, q1 b1, q1 b1, q1 b2, q1 b2, q1 b2] .norm [(0, vi lang), (3, .ptr 1000 0), (4, .ptr 1001 0)] [(1000, bTr (t)), (1001, .var [vi 0, nilv, vi 0, vb false, vb false, nilv, vi 0, vs (ba []), nilv, nilv, nilv])] ⟨con57 _ hft, con118y _ _ (by first | rfl | assumption | (simp_all; done)), tv⟩ fun a w hs => ?_
 refine then_norm ?_
 refine wNs hs hI [] 88 [] [(0, vi lang), (3, .ptr 1000 0), (4, .ptr 1001 0), (5, .ptr 3003 0)] [(1000, bTr (t)), (1001, .var [vi 0, nilv, vi 0, vb false, vb false, nilv, vi 0, vs (ba []), nilv, nilv, nilv]), (3003, .var [vi lang, nilv, vi t.kind, vb t.b, vb t.n.neg, rwU t.n.m, vi t.n.e, vs t.s, rwS t.k, rwT t.v, nilv])] fun a w hs => ?_
 refine wp_seq ?_
 refine wNs hs hI [] 11 [] [(3, .ptr 1000 0), (4, .ptr 1001 0), (5, .ptr 3003 0), (24, vi lang)] [(1000, bTr (t)), (1001, .var [vi 0, nilv, vi 0, vb false, vb false, nilv, vi 0, vs (ba []), nilv, nilv, nilv]), (3003, .var [vi lang, nilv, vi t.kind, vb t.b, vb t.n.neg, rwU t.n.m, vi t.n.e, vs t.s, rwS t.k, rwT t.v, nilv])] fun a w hs => ?_
 refine wp_block ?_
 refine wNs hs hI [] 8 [] [(3, .ptr 1000 0), (4, .ptr 1001 0), (5, .ptr 3003 0), (24, vi lang), (25, vb (lang == 1))] [(1000, bTr (t)), (1001, .var [vi 0, nilv, vi 0, vb false, vb false, nilv, vi 0, vs (ba []), nilv, nilv, nilv]), (3003, .var [vi lang, nilv, vi t.kind, vb t.b, vb t.n.neg, rwU t.n.m, vi t.n.e, vs t.s, rwS t.k, rwT t.v, nilv])] fun a w hs => ?_
 refine cond_L (c := 25) hs (b := lang == 1) rfl (fun hb => ?_) (fun hb => ?_)
 have b4 := hb
 clear hb
 have n4 := eq_of_beq b4
 refine wNs hs hI [] 18 [] [(3, .ptr 1000 0), (4, .ptr 1001 0), (5, .ptr 3003 0)] [(1000, bTr (t)), (1001, .var [vi 0, nilv, vi 0, vb false, vb false, nilv, vi 0, vs (ba []), nilv, nilv, nilv]), (3003, .var [vi lang, nilv, vi 0, vb false, vb false, nilv, vi 0, vs (ba []), nilv, nilv, nilv])] fun a w hs => ?_
 refine wp_seq ?_
 rcases bq (t.kind) (6) with ⟨b5, n5⟩ | ⟨b5, n5⟩
 refine wL hs hI [(6, rc [(3, ciV 118 [vb (t.kind == 6), vi 2] (.tup []))])] [] 148 [] .norm [(3, .ptr 1000 0), (4, .ptr 1001 0), (5, .ptr 3003 0)] [(1000, bTr (t)), (1001, .var [vi 0, nilv, vi 0, vb false, vb false, nilv, vi 0, vs (ba []), nilv, nilv, nilv]), (3003, .var [vi lang, nilv, vi 0, vb false, vb false, nilv, vi 0, vs (ba []), nilv, nilv, nilv])] ⟨con118y _ _ (by first | rfl | assumption | (simp_all; done)), tv⟩ fun a w hs => ?_
 refine then_norm ?_
 refine wp_seq ?_
 rcases bd ((t.v.length : Int) ≤ 60) with ⟨b6, n6⟩ | ⟨b6, n6⟩
 refine wL hs hI [(7, rc [(4, ciV 118 [vb (decide ((t.v.length : Int) ≤ 60)), vi 4] (.tup []))])] [] 1418 [] .norm [(3, .ptr 1000 0), (4, .ptr 1001 0), (5, .ptr 3003 0)] [(1000, bTr (t)), (1001, .var [vi 0, nilv, vi 0, vb false, vb false, nilv, vi 0, vs (ba []), nilv, nilv, nilv]), (3003, .var [vi lang, nilv, vi 0, vb false, vb false, nilv, vi 0, vs (ba []), nilv, nilv, nilv])] ⟨con118y _ _ (by first | rfl | assumption | (simp_all; done)), tv⟩ fun a w hs => ?_
 refine then_norm ?_
 refine wNs hs hI [] 118 [] [(4, .ptr 1001 0), (5, .ptr 3003 0), (39, rwT t.v), (40, vi (t.v.length : Int)), (41, vi 0)] [(1001, .var [vi 0, nilv, vi 0, vb false, vb false, nilv, vi 0, vs (ba []), nilv, nilv, nilv]), (3003, .var [vi lang, nilv, vi 0, vb false, vb false, nilv, vi 0, vs (ba []), nilv, nilv, nilv])] fun a w hs => ?_
 refine wp_block ?_
 refine loop_L (N := Tryz.f59.ntmps) (w0 := w0) (ow := noO fz) (α := Nat) (fun p => [(4, .ptr 1001 0), (5, .ptr 90000001 0), (39, rwT t.v), (40, vi (t.v.length : Int)), (41, vi (p : Int))]) (fun p => [(1001, .var [vi 0, nilv, vi 0, vb false, vb false, nilv, vi 0, vs (ba []), nilv, nilv, nilv]), (90000001, .var [vi lang, .own 90000002, vi 0, vb false, vb false, nilv, vi 0, vs (ba []), nilv, nilv, nilv]), (90000002, .sl 80 .opn ((t.v.take p).map (fun x => (opR x).1)))]) (fun p => p ≤ t.v.length ∧ ∀ j, j < p → ((opR (t.v.getD j (dflt .tree))).2 == 0) = true) (fun p => t.v.length - p) 0 ?_ ?_ ?_
 exact ⟨Nat.zero_le _, fun j hj => absurd hj (Nat.not_lt_zero _)⟩
 (have hs := (hs.nilB 10000005 3003 1 80 .opn [vi lang, nilv, vi 0, vb false, vb false, nilv, vi 0, vs (ba []), nilv, nilv, nilv] (by kernel_rfl) (by kernel_rfl) (by decide) (by decide) (by kernel_rfl) (by kernel_rfl)).rmT [(4, .ptr 1001 0), (5, .ptr 3003 0), (39, rwT t.v), (40, vi (t.v.length : Int)), (41, vi 0)] [(1001, .var [vi 0, nilv, vi 0, vb false, vb false, nilv, vi 0, vs (ba []), nilv, nilv, nilv]), (3003, .var [vi lang, .own 10000005, vi 0, vb false, vb false, nilv, vi 0, vs (ba []), nilv, nilv, nilv]), (10000005, .sl 80 .opn ([]))] [(1001, 1001), (3003, 3003), (10000005, 10000005)] (by kernel_rfl); exact (hs.cst [(4, .ptr 1001 0), (5, .ptr 3003 0), (39, rwT t.v), (40, vi (t.v.length : Int)), (41, vi ((0 : Nat) : Int))] [(1001, .var [vi 0, nilv, vi 0, vb false, vb false, nilv, vi 0, vs (ba []), nilv, nilv, nilv]), (3003, .var [vi lang, .own 10000005, vi 0, vb false, vb false, nilv, vi 0, vs (ba []), nilv, nilv, nilv]), (10000005, .sl 80 .opn ((t.v.take 0).map (fun x => (opR x).1)))] rfl).rk [(1001, 1001), (90000001, 3003), (90000002, 10000005)])
 rintro i hJ a w hs
 obtain ⟨hi, hall⟩ := hJ
 have htk := take_map_len (f := fun x => (opR x).1) hi
 rcases bd ((i : Int) < (t.v.length : Int)) with ⟨b7, n7⟩ | ⟨b7, n7⟩
 rcases bq ((opR (t.v.getD i (dflt .tree))).2) (0) with ⟨b8, n8⟩ | ⟨b8, n8⟩
 refine wL hs hI [(11, rc [(3, ciV 119 [aTr ((t.v.getD i (dflt .tree)))] (.agg (enc .opn ((opR (t.v.getD i (dflt .tree))).1))))])] (bz 1 1) 17266071486872720 [q1 b7, q4 (i : Int) t.v.length, q7 (((t.v.take i).map (fun x => (opR x).1)).length) 1 176, q3 ((i : Int) + 1)] .norm [(4, .ptr 1001 0), (5, .ptr 90000001 0), (39, rwT t.v), (40, vi (t.v.length : Int)), (41, vi ((i : Int) + 1))] [(1001, .var [vi 0, nilv, vi 0, vb false, vb false, nilv, vi 0, vs (ba []), nilv, nilv, nilv]), (12005, .sl 80 .opn (((t.v.take i).map (fun x => (opR x).1)) ++ ([(⟨((opR (t.v.getD i (dflt .tree))).1).op, ((opR (t.v.getD i (dflt .tree))).1).path, ((opR (t.v.getD i (dflt .tree))).1).frm, (Tree.et (((opR (t.v.getD i (dflt .tree))).1).value))⟩ : Opn)]))), (90000001, .var [vi lang, .own 12005, vi 0, vb false, vb false, nilv, vi 0, vs (ba []), nilv, nilv, nilv])] ⟨outO_y (con119 _ (by have h1 := cutK_k (t.v.getD i (dflt .tree)); have h2 := (fine_eq _).1 (fine_at hft (i := i) (by omega) (dflt .tree)); have h3 := h2.1.2.2.1; omega) (by have h2 := (fine_eq _).1 (fine_at hft (i := i) (by omega) (dflt .tree)); exact h2.1.2.2.1) (fun x => by have := memV_item hvt (i := i) (by omega) x; omega)) (by assumption), tv⟩ fun a w hs => ?_
 refine then_norm ⟨i + 1, ⟨by omega, fun j hj => by rcases Nat.lt_succ_iff_lt_or_eq.1 hj with h | h; exact hall j h; subst h; exact b8⟩, by omega, ?_⟩
 (have e0_ : ((i : Int) + 1) = ((((i + 1) : Nat) : Int)) := (by first | rfl | (omega)); have e1_ : (((t.v.take i).map (fun x => (opR x).1)) ++ ([(⟨((opR (t.v.getD i (dflt .tree))).1).op, ((opR (t.v.getD i (dflt .tree))).1).path, ((opR (t.v.getD i (dflt .tree))).1).frm, (Tree.et (((opR (t.v.getD i (dflt .tree))).1).value))⟩ : Opn)])) = (((t.v.take (i + 1)).map (fun x => (opR x).1))) := (by rw [Tree.eta']; exact take_map_succ (f := fun x => (opR x).1) (by omega) (dflt .tree)); exact (hs.cst [(4, .ptr 1001 0), (5, .ptr 90000001 0), (39, rwT t.v), (40, vi (t.v.length : Int)), (41, vi (((i + 1) : Nat) : Int))] [(1001, .var [vi 0, nilv, vi 0, vb false, vb false, nilv, vi 0, vs (ba []), nilv, nilv, nilv]), (12005, .sl 80 .opn ((t.v.take (i + 1)).map (fun x => (opR x).1))), (90000001, .var [vi lang, .own 12005, vi 0, vb false, vb false, nilv, vi 0, vs (ba []), nilv, nilv, nilv])] (by first | (rw [e0_, e1_]; done) | (simp only [e0_, e1_]; done) | rfl | (simp only [e0_, e1_]; rfl))).rk [(1001, 1001), (90000001, 90000001), (90000002, 12005)])
 refine wL hs hI [(11, ⟨[(3, ciA 119 [aTr ((t.v.getD i (dflt .tree)))] [] [] (.thr (.iface 38 (.int .i64 ((opR (t.v.getD i (dflt .tree))).2)))))], [], [4, 5, 6, 7]⟩)] (bz 1 1) 1486872720 [q1 b7, q4 (i : Int) t.v.length] (.thr (.iface 38 (.int .i64 ((opR (t.v.getD i (dflt .tree))).2)))) [] [] ⟨outO_n (con119 _ (by have h1 := cutK_k (t.v.getD i (dflt .tree)); have h2 := (fine_eq _).1 (fine_at hft (i := i) (by omega) (dflt .tree)); have h3 := h2.1.2.2.1; omega) (by have h2 := (fine_eq _).1 (fine_at hft (i := i) (by omega) (dflt .tree)); exact h2.1.2.2.1) (fun x => by have := memV_item hvt (i := i) (by omega) x; omega)) (by assumption), tv⟩ fun a w hs => ?_
 refine then_thr ?_
 refine inb_thr ?_
 refine inb_thr ?_
 refine then_thr ?_
 exact tK (.iface 38 (.int .i64 ((opR (t.v.getD i (dflt .tree))).2))) hs (by rw [readR, if_pos (by simp only [b1, b2, b3]; first | done | decide | simp), if_pos (show (lang == 1) = true from b4), if_pos (show (t.kind == 6) = true from b5), if_pos (show decide ((t.v.length : Int) ≤ 60) = true from b6), outR]; rw [if_neg (by show ¬ ((readOps t.v).2 == 0) = true; rw [readOps_at (by omega) hall b8, b8]; decide)]; show _ = COut.thr (errN (readOps t.v).2); rw [readOps_at (by omega) hall b8])
 refine wN hs hI (bz 1 0) 720 [q1 b7] (.exit 1) [(4, .ptr 1001 0), (5, .ptr 90000001 0)] [(1001, .var [vi 0, nilv, vi 0, vb false, vb false, nilv, vi 0, vs (ba []), nilv, nilv, nilv]), (90000001, .var [vi lang, .own 90000002, vi 0, vb false, vb false, nilv, vi 0, vs (ba []), nilv, nilv, nilv]), (90000002, .sl 80 .opn ((t.v.take i).map (fun x => (opR x).1)))] fun a w hs => ?_
 refine then_exit ?_
 refine inb_hit ?_
 refine inb_norm ?_
 refine then_norm ?_
 refine wN hs hI [] 198 [] .ret [(4, .ptr 1001 0)] [(1001, .var [vi lang, .own 90000002, vi 0, vb false, vb false, nilv, vi 0, vs (ba []), nilv, nilv, nilv]), (90000002, .sl 80 .opn ((t.v.take i).map (fun x => (opR x).1)))] fun a w hs => ?_
 exact rK (.val (.agg [vi lang, .row .opn ((t.v.take i).map (fun x => (opR x).1)), vi 0, vb false, vb false, rwU ([]), vi 0, vs (ba []), rwS ([]), rwT ([]), .row .strs ([])])) [90000002] hs (by obtain rfl : i = t.v.length := (by omega); rw [readR, if_pos (by simp only [b1, b2, b3]; first | done | decide | simp), if_pos (show (lang == 1) = true from b4), if_pos (show (t.kind == 6) = true from b5), if_pos (show decide ((t.v.length : Int) ≤ 60) = true from b6), readOps_all hall, List.take_length]; rfl)
 refine wL hs hI [(7, rc [(4, ciA 118 [vb (decide ((t.v.length : Int) ≤ 60)), vi 4] [] [] (.thr (.iface 38 (.int .i64 4))))])] [] 418 [] (.thr (.iface 38 (.int .i64 4))) [] [] ⟨con118n _ _ (by first | rfl | assumption | (simp_all; done)), tv⟩ fun a w hs => ?_
 refine then_thr ?_
 refine inb_thr ?_
 refine then_thr ?_
 exact tK (.iface 38 (.int .i64 4)) hs (by rw [readR, if_pos (by simp only [b1, b2, b3]; first | done | decide | simp), if_pos (show (lang == 1) = true from b4), if_pos (show (t.kind == 6) = true from b5), if_neg (by rw [show decide ((t.v.length : Int) ≤ 60) = false from b6]; decide)]; rfl)
 refine wL hs hI [(6, rc [(3, ciA 118 [vb (t.kind == 6), vi 2] [] [] (.thr (.iface 38 (.int .i64 2))))])] [] 48 [] (.thr (.iface 38 (.int .i64 2))) [] [] ⟨con118n _ _ (by first | rfl | assumption | (simp_all; done)), tv⟩ fun a w hs => ?_
 refine then_thr ?_
 refine inb_thr ?_
 refine then_thr ?_
 exact tK (.iface 38 (.int .i64 2)) hs (by rw [readR, if_pos (by simp only [b1, b2, b3]; first | done | decide | simp), if_pos (show (lang == 1) = true from b4), if_neg (by rw [show (t.kind == 6) = false from b5]; decide)]; rfl)
 have b9 := hb
 clear hb
 have n9 := nB b9
 rcases bq (lang) (3) with ⟨b10, n10⟩ | ⟨b10, n10⟩
 rcases bt (exactF t ([(ba [109, 97, 115, 107]), (ba [118, 97, 108, 117, 101])])) with b11 | b11
 rcases bt (memOk t (ba [109, 97, 115, 107])) with b12 | b12
 rcases bq ((parseF ((memV t (ba [109, 97, 115, 107])).s)).2) (0) with ⟨b13, n13⟩ | ⟨b13, n13⟩
 refine wL hs hI [(14, rc [(2, ciA 120 [aTr (t), rwS ([(ba [109, 97, 115, 107]), (ba [118, 97, 108, 117, 101])])] [15001] [] (.val (.tup [])))]), (15, rc [(1, ciV 121 [aTr (t), vs (ba [109, 97, 115, 107])] (vs ((memV t (ba [109, 97, 115, 107])).s))), (2, ciV 31 [vs ((memV t (ba [109, 97, 115, 107])).s)] (.tup [.row .strs ((parseF ((memV t (ba [109, 97, 115, 107])).s)).1), vi ((parseF ((memV t (ba [109, 97, 115, 107])).s)).2)]))]), (16, rc [(3, ciV 118 [vb (((parseF ((memV t (ba [109, 97, 115, 107])).s)).2) == 0), vi ((parseF ((memV t (ba [109, 97, 115, 107])).s)).2)] (.tup []))]), (18, rc [(1, ciV 122 [aTr (t), vs (ba [118, 97, 108, 117, 101])] (.tup [aTr ((memV t (ba [118, 97, 108, 117, 101]))), vb (memB t (ba [118, 97, 108, 117, 101]))]))])] (bz 1 1) 884129186148668844129141798 [q1 b10] .norm [(4, .ptr 1001 0), (5, .ptr 3003 0)] [(1001, .var [vi 0, nilv, vi 0, vb false, vb false, nilv, vi 0, vs (ba []), nilv, nilv, nilv]), (3003, .var (e8 [vi lang, nilv] ((memV t (ba [118, 97, 108, 117, 101]))) [.row .strs ((parseF ((memV t (ba [109, 97, 115, 107])).s)).1)]))] ⟨con120y _ _ hf3 (by decide) (by assumption), con121y _ _ (by have h1 := cutK_k t; omega) (by assumption), con31 _ (by have := memV_size2 hvt (ba [109, 97, 115, 107]); omega), con118y _ _ (by first | rfl | assumption | (simp_all; done)), con122 _ _ (by have h1 := cutK_k t; omega), tv⟩ fun a w hs => ?_
 refine inb_norm ?_
 refine then_norm ?_
 refine wN hs hI [] 198 [] .ret [(4, .ptr 1001 0)] [(1001, .var (e8 [vi lang, nilv] ((memV t (ba [118, 97, 108, 117, 101]))) [.row .strs ((parseF ((memV t (ba [109, 97, 115, 107])).s)).1)]))] fun a w hs => ?_
 exact rK (.val (.agg (e8 [vi lang, .row .opn ([])] ((memV t (ba [118, 97, 108, 117, 101]))) [.row .strs ((parseF ((memV t (ba [109, 97, 115, 107])).s)).1)]))) [] hs (by rw [readR, if_pos (by simp only [b1, b2, b3]; first | done | decide | simp), if_neg (by rw [show (lang == 1) = false from b9]; decide), if_pos (show (lang == 3) = true from b10), if_pos (show exactF t [nMask, nValue] = true from b11), if_pos (show memOk t nMask = true from b12), if_pos (show ((parseF (memV t nMask).s).2 == 0) = true from b13)]; rfl)
 refine wL hs hI [(14, rc [(2, ciA 120 [aTr (t), rwS ([(ba [109, 97, 115, 107]), (ba [118, 97, 108, 117, 101])])] [15001] [] (.val (.tup [])))]), (15, rc [(1, ciV 121 [aTr (t), vs (ba [109, 97, 115, 107])] (vs ((memV t (ba [109, 97, 115, 107])).s))), (2, ciV 31 [vs ((memV t (ba [109, 97, 115, 107])).s)] (.tup [.row .strs ((parseF ((memV t (ba [109, 97, 115, 107])).s)).1), vi ((parseF ((memV t (ba [109, 97, 115, 107])).s)).2)]))]), (16, rc [(3, ciA 118 [vb (((parseF ((memV t (ba [109, 97, 115, 107])).s)).2) == 0), vi ((parseF ((memV t (ba [109, 97, 115, 107])).s)).2)] [] [] (.thr (.iface 38 (.int .i64 ((parseF ((memV t (ba [109, 97, 115, 107])).s)).2)))))])] (bz 1 1) 48668844129141798 [q1 b10] (.thr (.iface 38 (.int .i64 ((parseF ((memV t (ba [109, 97, 115, 107])).s)).2)))) [] [] ⟨con120y _ _ hf3 (by decide) (by assumption), con121y _ _ (by have h1 := cutK_k t; omega) (by assumption), con31 _ (by have := memV_size2 hvt (ba [109, 97, 115, 107]); omega), con118n _ _ (by first | rfl | assumption | (simp_all; done)), tv⟩ fun a w hs => ?_
 refine inb_thr ?_
 refine then_thr ?_
 exact tK (.iface 38 (.int .i64 ((parseF ((memV t (ba [109, 97, 115, 107])).s)).2))) hs (by rw [readR, if_pos (by simp only [b1, b2, b3]; first | done | decide | simp), if_neg (by rw [show (lang == 1) = false from b9]; decide), if_pos (show (lang == 3) = true from b10), if_pos (show exactF t [nMask, nValue] = true from b11), if_pos (show memOk t nMask = true from b12), if_neg (by rw [show ((parseF (memV t nMask).s).2 == 0) = false from b13]; decide), outR, if_neg (by rw [show ((parseF (memV t nMask).s).2 == 0) = false from b13]; decide)])
 refine wL hs hI [(14, rc [(2, ciA 120 [aTr (t), rwS ([(ba [109, 97, 115, 107]), (ba [118, 97, 108, 117, 101])])] [15001] [] (.val (.tup [])))]), (15, rc [(1, ciA 121 [aTr (t), vs (ba [109, 97, 115, 107])] [] [] (.thr (.iface 38 (.int .i64 2))))])] (bz 1 1) 4129141798 [q1 b10] (.thr (.iface 38 (.int .i64 2))) [] [] ⟨con120y _ _ hf3 (by decide) (by assumption), con121n _ _ (by have h1 := cutK_k t; omega) (by assumption), tv⟩ fun a w hs => ?_
 refine inb_thr ?_
 refine then_thr ?_
 exact tK (.iface 38 (.int .i64 2)) hs (by rw [readR, if_pos (by simp only [b1, b2, b3]; first | done | decide | simp), if_neg (by rw [show (lang == 1) = false from b9]; decide), if_pos (show (lang == 3) = true from b10), if_pos (show exactF t [nMask, nValue] = true from b11), if_neg (by rw [show memOk t nMask = false from b12]; decide)]; rfl)
 refine wL hs hI [(14, rc [(2, ciA 120 [aTr (t), rwS ([(ba [109, 97, 115, 107]), (ba [118, 97, 108, 117, 101])])] [15001] [] (.thr (.iface 38 (.int .i64 2))))])] (bz 1 1) 41798 [q1 b10] (.thr (.iface 38 (.int .i64 2))) [] [] ⟨con120n _ _ hf3 (by decide) (by assumption), tv⟩ fun a w hs => ?_
 refine inb_thr ?_
 refine then_thr ?_
 exact tK (.iface 38 (.int .i64 2)) hs (by rw [readR, if_pos (by simp only [b1, b2, b3]; first | done | decide | simp), if_neg (by rw [show (lang == 1) = false from b9]; decide), if_pos (show (lang == 3) = true from b10), if_neg (by rw [show exactF t [nMask, nValue] = false from b11]; decide)]; rfl)
 refine wN hs hI (bz 1 0) 798 [q1 b10] .norm [(4, .ptr 1001 0), (5, .ptr 3003 0)] [(1001, .var [vi 0, nilv, vi 0, vb false, vb false, nilv, vi 0, vs (ba []), nilv, nilv, nilv]), (3003, .var (e8 [vi lang, nilv] (t) [nilv]))] fun a w hs => ?_
 refine inb_norm ?_
 refine then_norm ?_
 refine wN hs hI [] 198 [] .ret [(4, .ptr 1001 0)] [(1001, .var (e8 [vi lang, nilv] (t) [nilv]))] fun a w hs => ?_
 exact rK (.val (.agg (e8 [vi lang, .row .opn ([])] (t) [.row .strs ([])]))) [] hs (by rw [readR, if_pos (by simp only [b1, b2, b3]; first | done | decide | simp), if_neg (by rw [show (lang == 1) = false from b9]; decide), if_neg (by rw [show (lang == 3) = false from b10]; decide)]; rfl)
 refine wL hs hI [(1, rg [(8, ciV 57 [aTr (t)] (vb (validT t))), (10, ciA 118 [vb (validT t), vi 1] [] [] (.thr (.iface 38 (.int .i64 1))))] [3, 4, 1005, 7, 8, 1009] [])] [] 434377778 [q1 b1, q1 b1, q1 b1, q1 b2, q1 b2, q1 b2] (.thr (.iface 38 (.int .i64 1))) [] [] ⟨con57 _ hft, con118n _ _ (by first | rfl | assumption | (simp_all; done)), tv⟩ fun a w hs => ?_
 refine then_thr ?_
 exact tK (.iface 38 (.int .i64 1)) hs (by rw [readR, if_neg (by simp only [b1, b2, b3]; first | done | decide | simp)]; rfl)
 refine wL hs hI [(1, rg [(10, ciA 118 [vb false, vi 1] [] [] (.thr (.iface 38 (.int .i64 1))))] [3, 4, 1005] [7, 8, 1009])] [] 43337778 [q1 b1, q1 b1, q1 b1, q1 b2, q1 b2, q1 b2] (.thr (.iface 38 (.int .i64 1))) [] [] ⟨con118n _ _ (by first | rfl | assumption | (simp_all; done)), tv⟩ fun a w hs => ?_
 refine then_thr ?_
 exact tK (.iface 38 (.int .i64 1)) hs (by rw [readR, if_neg (by simp only [b1, b2]; first | done | decide | simp)]; rfl)
 refine wL hs hI [(1, rg [(10, ciA 118 [vb false, vi 1] [] [] (.thr (.iface 38 (.int .i64 1))))] [] [3, 4, 1005, 7, 8, 1009])] [] 43337338 [q1 b1, q1 b1, q1 b1, q0 false, q0 false, q0 false] (.thr (.iface 38 (.int .i64 1))) [] [] ⟨con118n _ _ (by first | rfl | assumption | (simp_all; done)), tv⟩ fun a w hs => ?_
 refine then_thr ?_
 exact tK (.iface 38 (.int .i64 1)) hs (by rw [readR, if_neg (by simp only [b1]; first | done | decide | simp)]; rfl)
end Go.Proofs.YtondpnipoogoiaaGreatDoor.F
