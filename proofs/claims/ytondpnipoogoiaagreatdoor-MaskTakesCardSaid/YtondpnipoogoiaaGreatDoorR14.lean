/- MaskTakes -/
import Derived.Test.YtondpnipoogoiaaGreatDoorR13
import Derived.Test.YtondpnipoogoiaaGreatDoorR5
namespace Go.Proofs.YtondpnipoogoiaaGreatDoor.F
open Go Go.RowKit Go.Proofs.Tryz
set_option linter.unusedVariables false
set_option linter.unusedSimpArgs false
theorem nil_row {w : World} {fz : Nat → Prop} {η : Nat → Option Value} {v : Value} (τ : Ty) (h : R w fz η v nilv) : R w fz η v (.row τ []) := by
  rw [h.lit_inv]
  exact .row none 0 τ [] (fun _ _ => .bool false) (Nat.le_refl _) (Nat.zero_le _) (fun i x h => by simp at h) (fun i x j y h => by simp at h)
def Wk : List AV → List AV → Prop
  | [], [] => True
  | a :: l, b :: m => (a = b ∨ (a = nilv ∧ ∃ τ, b = .row τ []) ∨ ∃ l', a = .agg l' ∧ ∃ m', b = .agg m' ∧ Wk1 l' m') ∧ Wk l m
  | _, _ => False
where Wk1 : List AV → List AV → Prop
  | [], [] => True
  | a :: l, b :: m => (a = b ∨ (a = nilv ∧ ∃ τ, b = .row τ [])) ∧ Wk1 l m
  | _, _ => False
theorem wk1_len : ∀ {l m : List AV}, Wk.Wk1 l m → l.length = m.length
  | [], [], _ => rfl
  | _ :: _, _ :: _, h => by simp [wk1_len h.2]
theorem wk_len : ∀ {l m : List AV}, Wk l m → l.length = m.length
  | [], [], _ => rfl
  | _ :: _, _ :: _, h => by simp [wk_len h.2]
theorem wk1_at : ∀ {l m : List AV} {j : Nat} {b : AV}, Wk.Wk1 l m → m[j]? = some b → ∃ a, l[j]? = some a ∧ (a = b ∨ (a = nilv ∧ ∃ τ, b = .row τ []))
  | [], [], _, _, _, hb => by simp at hb
  | a :: l, b :: m, 0, _, h, hb => by
    simp only [List.getElem?_cons_zero, Option.some.injEq] at hb
    subst hb
    exact ⟨a, rfl, h.1⟩
  | a :: l, b :: m, j + 1, _, h, hb => by simpa using wk1_at h.2 (by simpa using hb)
theorem wk_at : ∀ {l m : List AV} {j : Nat} {b : AV}, Wk l m → m[j]? = some b → ∃ a, l[j]? = some a ∧ (a = b ∨ (a = nilv ∧ ∃ τ, b = .row τ []) ∨ ∃ l', a = .agg l' ∧ ∃ m', b = .agg m' ∧ Wk.Wk1 l' m')
  | [], [], _, _, _, hb => by simp at hb
  | a :: l, b :: m, 0, _, h, hb => by
    simp only [List.getElem?_cons_zero, Option.some.injEq] at hb
    subst hb
    exact ⟨a, rfl, h.1⟩
  | a :: l, b :: m, j + 1, _, h, hb => by simpa using wk_at h.2 (by simpa using hb)
theorem wk_R {w : World} {fz : Nat → Prop} {η : Nat → Option Value} {v : Value} {a b : AV} (hR : R w fz η v a) (h : a = b ∨ (a = nilv ∧ ∃ τ, b = .row τ []) ∨ ∃ l', a = .agg l' ∧ ∃ m', b = .agg m' ∧ Wk.Wk1 l' m') : R w fz η v b := by
  rcases h with rfl | ⟨rfl, τ, rfl⟩ | ⟨l', rfl, m', rfl, hw⟩
  · exact hR
  · exact nil_row τ hR
  · obtain ⟨vs, rfl, hl, hel⟩ := hR.agg_inv
    refine .agg vs m' (by rw [hl, wk1_len hw]) (fun j v b hv hb => ?_)
    obtain ⟨a, ha, hab⟩ := wk1_at hw hb
    have := hel j v a hv ha
    rcases hab with rfl | ⟨rfl, τ, rfl⟩
    · exact this
    · exact nil_row τ this
theorem Con.told {P : Program} {I : World → Prop} {f : FuncId} {args args' : List AV} {out : COut} (h : Con P I f args' out) (hw : Wk args args') : Con P I f args out := fun w fz vs hI hf hR => by
  refine h w fz vs hI hf ⟨by rw [hR.1, wk_len hw], fun j v b hv hb => ?_⟩
  obtain ⟨a, ha, hab⟩ := wk_at hw hb
  exact wk_R (hR.2 j v a hv ha) hab
def awT : Tree := .mk 7 false ⟨false, [], 0⟩ (ba []) [ba [97]] [.mk 7 false ⟨false, [], 0⟩ (ba []) [ba [98], ba [99]] [.mk 2 false ⟨false, [], 0⟩ (ba []) [] [], .mk 1 false ⟨false, [], 0⟩ (ba []) [] []]]
def awV : Tree := .mk 7 false ⟨false, [], 0⟩ (ba []) [] []
def awR : Tree := .mk 7 false ⟨false, [], 0⟩ (ba []) [ba [97]] [.mk 7 false ⟨false, [], 0⟩ (ba []) [ba [99]] [.mk 1 false ⟨false, [], 0⟩ (ba []) [] []]]
theorem fine_leaf {t : Tree} (h : Ok t.n.m ∧ t.n.m.length < 1000000000 ∧ t.k.length < 1000000000 ∧ t.v.length < 1000000000) (h2 : fineL t.v) : fineT t := (fine_eq t).2 ⟨h, h2⟩
theorem fine_awT : fineT awT := fine_leaf ⟨Ok.nil, by decide, by decide, by decide⟩ ⟨fine_leaf ⟨Ok.nil, by decide, by decide, by decide⟩ ⟨fine_leaf ⟨Ok.nil, by decide, by decide, by decide⟩ trivial, fine_leaf ⟨Ok.nil, by decide, by decide, by decide⟩ trivial, trivial⟩, trivial⟩
theorem fine_awV : fineT awV := fine_leaf ⟨Ok.nil, by decide, by decide, by decide⟩ trivial
theorem aw_norm : normF [[ba [97], ba [98]]] = [[ba [97], ba [98]]] := norm_keep (List.pairwise_singleton _ _) (List.pairwise_singleton _ _)
theorem aw_apply : applyF awT [[ba [97], ba [98]]] (normF [[ba [97], ba [98]]]) awV 100 = (awR, 0) := by rw [aw_norm]; kernel_rfl
theorem con26W : Con Tryz.prog I0 26 [.agg [vi 7, vb false, vb false, nilv, vi 0, vs (ba []), .row .str [ba [97]], .row .tree awT.v], .row .strs [[ba [97], ba [98]]], .agg [vi 7, vb false, vb false, nilv, vi 0, vs (ba []), nilv, nilv], vi 100] (.val (.tup [.agg [vi 7, vb false, vb false, .row (.int .u32) [], vi 0, vs (ba []), .row .str [ba [97]], .row .tree awR.v], vi 0])) := by
  have h := con26 awT awV [[ba [97], ba [98]]] 100 fine_awT fine_awV (smalls_of (by kernel_rfl)) (by decide)
  rw [aw_apply] at h
  exact Con.told h ⟨.inr (.inr ⟨_, rfl, _, rfl, .inl rfl, .inl rfl, .inl rfl, .inr ⟨rfl, _, rfl⟩, .inl rfl, .inl rfl, .inl rfl, .inl rfl, trivial⟩), .inl rfl, .inr (.inr ⟨_, rfl, _, rfl, .inl rfl, .inl rfl, .inl rfl, .inr ⟨rfl, _, rfl⟩, .inl rfl, .inl rfl, .inr ⟨rfl, _, rfl⟩, .inr ⟨rfl, _, rfl⟩, trivial⟩), .inl rfl, trivial⟩
theorem con37t : Con Tryz.prog I0 37 [vs (ba [95, 97, 49])] (.val (vb true)) := by
  have h := con37 (ba [95, 97, 49]) (by decide)
  rw [show nameF (ba [95, 97, 49]) = true by kernel_rfl] at h
  exact h
theorem con37f : Con Tryz.prog I0 37 [vs (ba [49, 97])] (.val (vb false)) := by
  have h := con37 (ba [49, 97]) (by decide)
  rw [show nameF (ba [49, 97]) = false by kernel_rfl] at h
  exact h
set_option maxRecDepth 100000 in
theorem con23  : Con Tryz.prog I0 23 [] (.val (vb true)) := by
 refine con_of Tryz.func23 rfl (Nat.le_of_ble_eq_true rfl) stab (fun w0 fz a hI hs => ?_)
 refine way_L (tt := tt) (rs := [(2, ⟨[(7, ciA 26 [.agg [vi 7, vb false, vb false, nilv, vi 0, vs (ba []), .row .str ([(ba [97])]), .row .tree ([(Tree.mk 7 false ⟨false, [], 0⟩ (ba []) ([(ba [98]), (ba [99])]) ([(Tree.mk 2 false ⟨false, [], 0⟩ (ba []) ([]) ([])), (Tree.mk 1 false ⟨false, [], 0⟩ (ba []) ([]) ([]))]))])], .row .strs ([[(ba [97]), (ba [98])]]), .agg [vi 7, vb false, vb false, nilv, vi 0, vs (ba []), nilv, nilv], vi 100] [] [3000, 3002, 3005] (.val (.tup [.agg [vi 7, vb false, vb false, .row (.int .u32) ([]), vi 0, vs (ba []), .row .str ([(ba [97])]), .row .tree ([(Tree.mk 7 false ⟨false, [], 0⟩ (ba []) ([(ba [99])]) ([(Tree.mk 1 false ⟨false, [], 0⟩ (ba []) ([]) ([]))]))])], vi 0])))], [], []⟩), (3, ⟨[(28, ciA 37 [vs (ba [95, 97, 49])] [] [] (.val (vb true))), (31, ciA 37 [vs (ba [49, 97])] [] [] (.val (vb false)))], [(3, true), (4, true), (5, true), (6, true), (1007, true), (9, true), (10, true), (11, true), (12, true), (13, true), (14, true), (15, true), (1016, true), (18, true), (19, true), (20, true), (21, true), (22, true), (23, true), (24, true), (25, true), (1026, true), (28, true), (1029, true), (31, true), (32, true), (1033, true)], []⟩)]) (bs := []) (tk := [0]) (bk := []) (C := (True ∧ True) ∧ ((tr 7 True) ∧ ((tr 7 ((okArgs [.agg [vi 7, vb false, vb false, nilv, vi 0, vs (ba []), .row .str ([(ba [97])]), .row .tree ([(Tree.mk 7 false ⟨false, [], 0⟩ (ba []) ([(ba [98]), (ba [99])]) ([(Tree.mk 2 false ⟨false, [], 0⟩ (ba []) ([]) ([])), (Tree.mk 1 false ⟨false, [], 0⟩ (ba []) ([]) ([]))]))])], .row .strs ([[(ba [97]), (ba [98])]]), .agg [vi 7, vb false, vb false, nilv, vi 0, vs (ba []), nilv, nilv], vi 100]) ∧ (tr 6 True))) ∧ ((tr 3 ((true = true) ∧ (True ∧ ((true = true) ∧ (True ∧ ((true = true) ∧ (True ∧ ((true = true) ∧ (True ∧ ((true = true) ∧ (True ∧ ((true = true) ∧ (True ∧ ((true = true) ∧ (True ∧ ((true = true) ∧ (((0 : Int) ≤ 0 ∧ (0 : Int) < ((1 : Nat) : Int)) ∧ ((true = true) ∧ (True ∧ ((true = true) ∧ (True ∧ ((true = true) ∧ (True ∧ ((true = true) ∧ (True ∧ ((true = true) ∧ (True ∧ ((true = true) ∧ (True ∧ ((true = true) ∧ (True ∧ ((true = true) ∧ (((0 : Int) ≤ 0 ∧ (0 : Int) < ((1 : Nat) : Int)) ∧ ((true = true) ∧ (True ∧ ((true = true) ∧ (True ∧ ((true = true) ∧ (((0 : Int) ≤ 0 ∧ (0 : Int) < ((1 : Nat) : Int)) ∧ ((true = true) ∧ (True ∧ ((true = true) ∧ (True ∧ ((true = true) ∧ (True ∧ ((true = true) ∧ ((okArgs [vs (ba [95, 97, 49])]) ∧ ((true = true) ∧ (True ∧ ((true = true) ∧ ((okArgs [vs (ba [49, 97])]) ∧ ((true = true) ∧ (True ∧ ((true = true) ∧ (True ∧ True))))))))))))))))))))))))))))))))))))))))))))))))))))))) ∧ True)))) (lv := .ret) (T' := [(0, vb true)]) (B' := []) mix hI hs ?_ ?_ ?_ ?_
 ·exact ⟨⟨⟨ent26, con26W⟩, trivial⟩, ⟨⟨ent37, con37t⟩, ⟨ent37, con37f⟩, trivial⟩, trivial⟩
 ·kernel_rfl
 ·exact ⟨⟨trivial, trivial⟩, tr_mk (trivial) 7, tr_mk (⟨rfl, tr_mk (trivial) 6⟩) 7, tr_mk (⟨rfl, trivial, rfl, trivial, rfl, trivial, rfl, trivial, rfl, trivial, rfl, trivial, rfl, trivial, rfl, (by decide), rfl, trivial, rfl, trivial, rfl, trivial, rfl, trivial, rfl, trivial, rfl, trivial, rfl, trivial, rfl, (by decide), rfl, trivial, rfl, trivial, rfl, (by decide), rfl, trivial, rfl, trivial, rfl, trivial, rfl, rfl, rfl, trivial, rfl, rfl, rfl, trivial, rfl, trivial, trivial⟩) 3, trivial⟩
 intro a w hs
 exact FnQ_cast (out := .val (vb true)) (rfl) (ret_ok [] hs ⟨by kernel_rfl, rfl⟩)
end Go.Proofs.YtondpnipoogoiaaGreatDoor.F
namespace Go.Proofs.YtondpnipoogoiaaGreatDoor.F
open Go Go.RowKit Go.Proofs.Tryz
set_option linter.unusedVariables false
set_option linter.unusedSimpArgs false
theorem con26M (l k m : List Int) : Con Tryz.prog I0 26 [.agg [vi ((madeT l).kind), vb ((madeT l).b), vb ((madeT l).n.neg), .row (.int .u32) ((madeT l).n.m), vi ((madeT l).n.e), vs ((madeT l).s), .row .str ((madeT l).k), .row .tree ((madeT l).v)], .row .strs (pM m), .agg [vi ((madeT k).kind), vb ((madeT k).b), vb ((madeT k).n.neg), .row (.int .u32) ((madeT k).n.m), vi ((madeT k).n.e), vs ((madeT k).s), .row .str ((madeT k).k), .row .tree ((madeT k).v)], vi 100000] (.val (.tup [.agg [vi ((aM l k m).kind), vb ((aM l k m).b), vb ((aM l k m).n.neg), .row (.int .u32) ((aM l k m).n.m), vi ((aM l k m).n.e), vs ((aM l k m).s), .row .str ((aM l k m).k), .row .tree ((aM l k m).v)], vi 0])) := by
  have h := con26 (madeT l) (madeT k) (pM m) 100000 (good_fine (good_madeT l)) (good_fine (good_madeT k)) (smalls_of (pM_check m)) (by have := pM_len m; omega)
  rw [apply_M] at h
  exact h
theorem con27T (l : List Int) (q : List ByteArray) (hq : q.length ≤ 3) : Con Tryz.prog I0 27 [.agg [vi ((madeT l).kind), vb ((madeT l).b), vb ((madeT l).n.neg), .row (.int .u32) ((madeT l).n.m), vi ((madeT l).n.e), vs ((madeT l).s), .row .str ((madeT l).k), .row .tree ((madeT l).v)], .row .str q] (.val (.tup [.agg [vi (((getF q (madeT l)).1).kind), vb (((getF q (madeT l)).1).b), vb (((getF q (madeT l)).1).n.neg), .row (.int .u32) (((getF q (madeT l)).1).n.m), vi (((getF q (madeT l)).1).n.e), vs (((getF q (madeT l)).1).s), .row .str (((getF q (madeT l)).1).k), .row .tree (((getF q (madeT l)).1).v)], vb (getF q (madeT l)).2])) := con27 (madeT l) q (by have := nodes_M l; omega) (by omega)
theorem con27A (l k m : List Int) (q : List ByteArray) (hq : q.length ≤ 3) : Con Tryz.prog I0 27 [.agg [vi ((aM l k m).kind), vb ((aM l k m).b), vb ((aM l k m).n.neg), .row (.int .u32) ((aM l k m).n.m), vi ((aM l k m).n.e), vs ((aM l k m).s), .row .str ((aM l k m).k), .row .tree ((aM l k m).v)], .row .str q] (.val (.tup [.agg [vi (((getF q (aM l k m)).1).kind), vb (((getF q (aM l k m)).1).b), vb (((getF q (aM l k m)).1).n.neg), .row (.int .u32) (((getF q (aM l k m)).1).n.m), vi (((getF q (aM l k m)).1).n.e), vs (((getF q (aM l k m)).1).s), .row .str (((getF q (aM l k m)).1).k), .row .tree (((getF q (aM l k m)).1).v)], vb (getF q (aM l k m)).2])) := con27 (aM l k m) q (by have := nodes_aM l k m; omega) (by omega)
theorem con27P (l k m : List Int) {i : Nat} (hi : i < (pM m).length) : Con Tryz.prog I0 27 [.agg [vi ((aM l k m).kind), vb ((aM l k m).b), vb ((aM l k m).n.neg), .row (.int .u32) ((aM l k m).n.m), vi ((aM l k m).n.e), vs ((aM l k m).s), .row .str ((aM l k m).k), .row .tree ((aM l k m).v)], .row .str ((pM m).getD i (dflt .strs))] (.val (.tup [.agg [vi (((getF ((pM m).getD i (dflt .strs)) (madeT k)).1).kind), vb (((getF ((pM m).getD i (dflt .strs)) (madeT k)).1).b), vb (((getF ((pM m).getD i (dflt .strs)) (madeT k)).1).n.neg), .row (.int .u32) (((getF ((pM m).getD i (dflt .strs)) (madeT k)).1).n.m), vi (((getF ((pM m).getD i (dflt .strs)) (madeT k)).1).n.e), vs (((getF ((pM m).getD i (dflt .strs)) (madeT k)).1).s), .row .str (((getF ((pM m).getD i (dflt .strs)) (madeT k)).1).k), .row .tree (((getF ((pM m).getD i (dflt .strs)) (madeT k)).1).v)], vb (getF ((pM m).getD i (dflt .strs)) (madeT k)).2])) := by
  have hm := getD_mem (l := pM m) hi (dflt .strs)
  have h := con27A l k m _ (pM_in hm).2
  rw [takes_M l k m hm] at h
  exact h
theorem con18S (k : List Int) (p : List ByteArray) : Con Tryz.prog I0 18 [.agg [vi (((getF p (madeT k)).1).kind), vb (((getF p (madeT k)).1).b), vb (((getF p (madeT k)).1).n.neg), .row (.int .u32) (((getF p (madeT k)).1).n.m), vi (((getF p (madeT k)).1).n.e), vs (((getF p (madeT k)).1).s), .row .str (((getF p (madeT k)).1).k), .row .tree (((getF p (madeT k)).1).v)], .agg [vi (((getF p (madeT k)).1).kind), vb (((getF p (madeT k)).1).b), vb (((getF p (madeT k)).1).n.neg), .row (.int .u32) (((getF p (madeT k)).1).n.m), vi (((getF p (madeT k)).1).n.e), vs (((getF p (madeT k)).1).s), .row .str (((getF p (madeT k)).1).k), .row .tree (((getF p (madeT k)).1).v)]] (.val (vb true)) := by
  have h := con18 _ _ (fine_get k p) (fine_get k p)
  rw [sameT_self] at h
  exact h
theorem con18Q (l k m : List Int) (q : List ByteArray) {n : Nat} (h : stM m q n = true) (hn : n = (pM m).length) : Con Tryz.prog I0 18 [.agg [vi (((getF q (madeT l)).1).kind), vb (((getF q (madeT l)).1).b), vb (((getF q (madeT l)).1).n.neg), .row (.int .u32) (((getF q (madeT l)).1).n.m), vi (((getF q (madeT l)).1).n.e), vs (((getF q (madeT l)).1).s), .row .str (((getF q (madeT l)).1).k), .row .tree (((getF q (madeT l)).1).v)], .agg [vi (((getF q (aM l k m)).1).kind), vb (((getF q (aM l k m)).1).b), vb (((getF q (aM l k m)).1).n.neg), .row (.int .u32) (((getF q (aM l k m)).1).n.m), vi (((getF q (aM l k m)).1).n.e), vs (((getF q (aM l k m)).1).s), .row .str (((getF q (aM l k m)).1).k), .row .tree (((getF q (aM l k m)).1).v)]] (.val (vb true)) := by
  rw [stays_M l k m h hn]
  have h := con18 _ _ (fine_get l q) (fine_get l q)
  rw [sameT_self] at h
  exact h
theorem qLen (x : Int) {j : Nat} (hj : j < (pathsF [x]).length) (d : List ByteArray) : ((pathsF [x]).getD j d).length ≤ 3 := (paths_in (getD_mem hj d)).2
theorem pLen (m : List Int) {j : Nat} (hj : j < (pM m).length) (d : List ByteArray) : ((pM m).getD j d).length ≤ 3 := (pM_in (getD_mem hj d)).2
set_option maxRecDepth 100000 in
theorem con5 (l k m : List Int) (other : Int) : Con Tryz.prog I0 5 [.row (.int .i64) l, .row (.int .i64) k, .row (.int .i64) m, vi other] (.val (vb true)) := by
 have hp1 := pth1 other
 have hpm := pM_len m
 refine con_of Tryz.func5 rfl (Nat.le_of_ble_eq_true rfl) stab (fun w0 fz a hI hs => ?_)
 refine wp_seq ?_
 refine way_L (tt := tt) (rs := []) (bs := []) (tk := [0, 1, 2, 3]) (bk := []) (C := True ∧ True) (lv := .norm) (T' := [(0, .row (.int .i64) l), (1, .row (.int .i64) k), (2, .row (.int .i64) m), (3, vi other)]) (B' := []) mix hI hs ?_ ?_ ?_ ?_
 ·exact trivial
 ·kernel_rfl
 ·exact ⟨trivial, trivial⟩
 intro a w hs
 refine then_norm ?_
 refine wp_seq ?_
 rcases Bool.eq_false_or_eq_true (decide ((l.length : Int) > 60)) with b1 | b1
 ·skip
  have n1 := of_decide_eq_true b1
  refine way_L (tt := tt) (rs := [(1, ⟨[], [(4, false), (5, false), (6, false), (1007, true)], []⟩), (2, ⟨[(0, ciA 23 [] [] [] (.val (vb true)))], [], []⟩)]) (bs := [true]) (tk := [8]) (bk := []) (C := (tr 4 (((decide ((l.length : Int) > 60)) = true) ∧ (((decide ((l.length : Int) > 60)) = true) ∧ (((decide ((l.length : Int) > 60)) = true) ∧ (((decide ((l.length : Int) > 60)) = true) ∧ True))))) ∧ ((true = true) ∧ (((okArgs []) ∧ (True ∧ True)) ∧ True))) (lv := .ret) (T' := [(8, vb true)]) (B' := []) mix hI hs ?_ ?_ ?_ ?_
  ·exact ⟨trivial, ⟨⟨ent23, con23⟩, trivial⟩, trivial⟩
  ·kernel_rfl
  ·exact ⟨tr_mk (⟨b1, b1, b1, b1, trivial⟩) 4, rfl, ⟨rfl, trivial, trivial⟩, trivial⟩
  intro a w hs
  refine then_ret ?_
  exact FnQ_cast (out := .val (vb true)) (rfl) (ret_ok [] hs ⟨by kernel_rfl, rfl⟩)
 ·skip
  have n1 := of_decide_eq_false b1
  rcases Bool.eq_false_or_eq_true (decide ((k.length : Int) > 60)) with b2 | b2
  ·skip
   have n2 := of_decide_eq_true b2
   refine way_L (tt := tt) (rs := [(1, ⟨[], [(4, true), (5, true), (6, true), (1007, false)], []⟩), (2, ⟨[(0, ciA 23 [] [] [] (.val (vb true)))], [], []⟩)]) (bs := [true]) (tk := [8]) (bk := []) (C := (tr 4 (((decide ((l.length : Int) > 60)) = false) ∧ (True ∧ (((decide ((l.length : Int) > 60)) = false) ∧ (True ∧ (((decide ((l.length : Int) > 60)) = false) ∧ (True ∧ (((decide ((l.length : Int) > 60)) = false) ∧ True)))))))) ∧ (((decide ((k.length : Int) > 60)) = true) ∧ (((okArgs []) ∧ (True ∧ True)) ∧ True))) (lv := .ret) (T' := [(8, vb true)]) (B' := []) mix hI hs ?_ ?_ ?_ ?_
   ·exact ⟨trivial, ⟨⟨ent23, con23⟩, trivial⟩, trivial⟩
   ·kernel_rfl
   ·exact ⟨tr_mk (⟨b1, trivial, b1, trivial, b1, trivial, b1, trivial⟩) 4, b2, ⟨rfl, trivial, trivial⟩, trivial⟩
   intro a w hs
   refine then_ret ?_
   exact FnQ_cast (out := .val (vb true)) (rfl) (ret_ok [] hs ⟨by kernel_rfl, rfl⟩)
  ·skip
   have n2 := of_decide_eq_false b2
   refine way_L (tt := tt) (rs := [(1, ⟨[], [(4, true), (5, true), (6, true), (1007, false)], []⟩)]) (bs := [false]) (tk := [0, 1, 2, 3]) (bk := []) (C := (tr 4 (((decide ((l.length : Int) > 60)) = false) ∧ (True ∧ (((decide ((l.length : Int) > 60)) = false) ∧ (True ∧ (((decide ((l.length : Int) > 60)) = false) ∧ (True ∧ (((decide ((l.length : Int) > 60)) = false) ∧ True)))))))) ∧ (((decide ((k.length : Int) > 60)) = false) ∧ True)) (lv := .norm) (T' := [(0, .row (.int .i64) l), (1, .row (.int .i64) k), (2, .row (.int .i64) m), (3, vi other)]) (B' := []) mix hI hs ?_ ?_ ?_ ?_
   ·exact ⟨trivial, trivial⟩
   ·kernel_rfl
   ·exact ⟨tr_mk (⟨b1, trivial, b1, trivial, b1, trivial, b1, trivial⟩) 4, b2, trivial⟩
   intro a w hs
   refine then_norm ?_
   refine wp_seq ?_
   refine way_L (tt := tt) (rs := [(3, ⟨[(1, ciA 13 [.row (.int .i64) l, vi 4] [] [] (.val (.agg (encTree (madeT l))))), (3, ciA 13 [.row (.int .i64) k, vi 4] [] [] (.val (.agg (encTree (madeT k)))))], [], []⟩)]) (bs := []) (tk := [2, 3, 9, 10]) (bk := [4004, 4005]) (C := True ∧ ((okArgs [.row (.int .i64) l, vi 4]) ∧ (True ∧ ((okArgs [.row (.int .i64) k, vi 4]) ∧ (tr 4 True))))) (lv := .norm) (T' := [(2, .row (.int .i64) m), (3, vi other), (9, .ptr 4004 0), (10, .ptr 4005 0)]) (B' := [(4004, .var [vi ((madeT l).kind), vb ((madeT l).b), vb ((madeT l).n.neg), .row (.int .u32) ((madeT l).n.m), vi ((madeT l).n.e), vs ((madeT l).s), .row .str ((madeT l).k), .row .tree ((madeT l).v)]), (4005, .var [vi ((madeT k).kind), vb ((madeT k).b), vb ((madeT k).n.neg), .row (.int .u32) ((madeT k).n.m), vi ((madeT k).n.e), vs ((madeT k).s), .row .str ((madeT k).k), .row .tree ((madeT k).v)])]) mix hI hs ?_ ?_ ?_ ?_
   ·exact ⟨⟨⟨ent13, con13 _⟩, ⟨ent13, con13 _⟩, trivial⟩, trivial⟩
   ·kernel_rfl
   ·exact ⟨trivial, rfl, trivial, rfl, tr_mk (trivial) 4⟩
   intro a w hs
   refine then_norm ?_
   refine wp_seq ?_
   refine way_L (tt := tt) (rs := [(4, ⟨[(1, ciA 25 [.row (.int .i64) m] [] [] (.val (.row .strs (pathsF m)))), (2, ciA 24 [.row .strs (pathsF m)] [] [] (.val (.row .strs (pM m))))], [], []⟩)]) (bs := []) (tk := [3, 9, 10, 11]) (bk := [4004, 4005]) (C := True ∧ ((okArgs [.row (.int .i64) m]) ∧ ((okArgs [.row .strs (pathsF m)]) ∧ (True ∧ True)))) (lv := .norm) (T' := [(3, vi other), (9, .ptr 4004 0), (10, .ptr 4005 0), (11, .row .strs (pM m))]) (B' := [(4004, .var [vi ((madeT l).kind), vb ((madeT l).b), vb ((madeT l).n.neg), .row (.int .u32) ((madeT l).n.m), vi ((madeT l).n.e), vs ((madeT l).s), .row .str ((madeT l).k), .row .tree ((madeT l).v)]), (4005, .var [vi ((madeT k).kind), vb ((madeT k).b), vb ((madeT k).n.neg), .row (.int .u32) ((madeT k).n.m), vi ((madeT k).n.e), vs ((madeT k).s), .row .str ((madeT k).k), .row .tree ((madeT k).v)])]) mix hI hs ?_ ?_ ?_ ?_
   ·exact ⟨⟨⟨ent25, (con25 _).frz⟩, ⟨ent24, (con24 _ (by have := paths_len m; omega) (fun p hp => by have := (paths_in hp).2; omega)).frz⟩, trivial⟩, trivial⟩
   ·kernel_rfl
   ·exact ⟨trivial, rfl, rfl, trivial, trivial⟩
   intro a w hs
   refine then_norm ?_
   refine wp_seq ?_
   refine way_L (tt := tt) (rs := [(5, ⟨[(3, ciA 26 [.agg (encTree (madeT l)), .row .strs (pM m), .agg (encTree (madeT k)), vi 100000] [] [] (.val (.tup [.agg (encTree (aM l k m)), vi 0])))], [], []⟩)]) (bs := []) (tk := [3, 9, 10, 11, 12, 13]) (bk := [4004, 4005, 6007]) (C := tr 3 ((okArgs [.agg (encTree (madeT l)), .row .strs (pM m), .agg (encTree (madeT k)), vi 100000]) ∧ (tr 6 True))) (lv := .norm) (T' := [(3, vi other), (9, .ptr 4004 0), (10, .ptr 4005 0), (11, .row .strs (pM m)), (12, .ptr 6007 0), (13, vi 0)]) (B' := [(4004, .var [vi ((madeT l).kind), vb ((madeT l).b), vb ((madeT l).n.neg), .row (.int .u32) ((madeT l).n.m), vi ((madeT l).n.e), vs ((madeT l).s), .row .str ((madeT l).k), .row .tree ((madeT l).v)]), (4005, .var [vi ((madeT k).kind), vb ((madeT k).b), vb ((madeT k).n.neg), .row (.int .u32) ((madeT k).n.m), vi ((madeT k).n.e), vs ((madeT k).s), .row .str ((madeT k).k), .row .tree ((madeT k).v)]), (6007, .var [vi ((aM l k m).kind), vb ((aM l k m).b), vb ((aM l k m).n.neg), .row (.int .u32) ((aM l k m).n.m), vi ((aM l k m).n.e), vs ((aM l k m).s), .row .str ((aM l k m).k), .row .tree ((aM l k m).v)])]) mix hI hs ?_ ?_ ?_ ?_
   ·exact ⟨⟨⟨ent26, con26M l k m⟩, trivial⟩, trivial⟩
   ·kernel_rfl
   ·exact tr_mk (⟨rfl, tr_mk (trivial) 6⟩) 3
   intro a w hs
   refine then_norm ?_
   refine wp_seq ?_
   refine way_L (tt := tt) (rs := []) (bs := [false]) (tk := [3, 9, 10, 11, 12]) (bk := [4004, 4005, 6007]) (C := (True ∧ (True ∧ True)) ∧ ((false = false) ∧ True)) (lv := .norm) (T' := [(3, vi other), (9, .ptr 4004 0), (10, .ptr 4005 0), (11, .row .strs (pM m)), (12, .ptr 6007 0)]) (B' := [(4004, .var [vi ((madeT l).kind), vb ((madeT l).b), vb ((madeT l).n.neg), .row (.int .u32) ((madeT l).n.m), vi ((madeT l).n.e), vs ((madeT l).s), .row .str ((madeT l).k), .row .tree ((madeT l).v)]), (4005, .var [vi ((madeT k).kind), vb ((madeT k).b), vb ((madeT k).n.neg), .row (.int .u32) ((madeT k).n.m), vi ((madeT k).n.e), vs ((madeT k).s), .row .str ((madeT k).k), .row .tree ((madeT k).v)]), (6007, .var [vi ((aM l k m).kind), vb ((aM l k m).b), vb ((aM l k m).n.neg), .row (.int .u32) ((aM l k m).n.m), vi ((aM l k m).n.e), vs ((aM l k m).s), .row .str ((aM l k m).k), .row .tree ((aM l k m).v)])]) mix hI hs ?_ ?_ ?_ ?_
   ·exact trivial
   ·kernel_rfl
   ·exact ⟨⟨trivial, trivial, trivial⟩, rfl, trivial⟩
   intro a w hs
   refine then_norm ?_
   refine wp_seq ?_
   refine way_L (tt := tt) (rs := [(8, ⟨[(2, ciA 25 [.row (.int .i64) ([other])] [] [9001] (.val (.row .strs (pathsF ([other])))))], [], []⟩)]) (bs := []) (tk := [9, 10, 11, 12, 14]) (bk := [4004, 4005, 6007]) (C := True ∧ (True ∧ ((okArgs [.row (.int .i64) ([other])]) ∧ ((0 ≤ (0 : Int) ∧ (0 : Int) < (pathsF ([other])).length) ∧ (True ∧ (True ∧ True)))))) (lv := .norm) (T' := [(9, .ptr 4004 0), (10, .ptr 4005 0), (11, .row .strs (pM m)), (12, .ptr 6007 0), (14, .row .str ((pathsF ([other])).getD 0 (dflt .strs)))]) (B' := [(4004, .var [vi ((madeT l).kind), vb ((madeT l).b), vb ((madeT l).n.neg), .row (.int .u32) ((madeT l).n.m), vi ((madeT l).n.e), vs ((madeT l).s), .row .str ((madeT l).k), .row .tree ((madeT l).v)]), (4005, .var [vi ((madeT k).kind), vb ((madeT k).b), vb ((madeT k).n.neg), .row (.int .u32) ((madeT k).n.m), vi ((madeT k).n.e), vs ((madeT k).s), .row .str ((madeT k).k), .row .tree ((madeT k).v)]), (6007, .var [vi ((aM l k m).kind), vb ((aM l k m).b), vb ((aM l k m).n.neg), .row (.int .u32) ((aM l k m).n.m), vi ((aM l k m).n.e), vs ((aM l k m).s), .row .str ((aM l k m).k), .row .tree ((aM l k m).v)])]) mix hI hs ?_ ?_ ?_ ?_
   ·exact ⟨⟨⟨ent25, (con25 _).frz⟩, trivial⟩, trivial⟩
   ·kernel_rfl
   ·exact ⟨trivial, trivial, rfl, ⟨by omega, by omega⟩, trivial, trivial, trivial⟩
   intro a w hs
   refine then_norm ?_
   refine wp_seq ?_
   refine way_L (tt := tt) (rs := []) (bs := []) (tk := [9, 10, 11, 12, 14, 15]) (bk := [4004, 4005, 6007]) (C := True ∧ True) (lv := .norm) (T' := [(9, .ptr 4004 0), (10, .ptr 4005 0), (11, .row .strs (pM m)), (12, .ptr 6007 0), (14, .row .str ((pathsF ([other])).getD 0 (dflt .strs))), (15, vb true)]) (B' := [(4004, .var [vi ((madeT l).kind), vb ((madeT l).b), vb ((madeT l).n.neg), .row (.int .u32) ((madeT l).n.m), vi ((madeT l).n.e), vs ((madeT l).s), .row .str ((madeT l).k), .row .tree ((madeT l).v)]), (4005, .var [vi ((madeT k).kind), vb ((madeT k).b), vb ((madeT k).n.neg), .row (.int .u32) ((madeT k).n.m), vi ((madeT k).n.e), vs ((madeT k).s), .row .str ((madeT k).k), .row .tree ((madeT k).v)]), (6007, .var [vi ((aM l k m).kind), vb ((aM l k m).b), vb ((aM l k m).n.neg), .row (.int .u32) ((aM l k m).n.m), vi ((aM l k m).n.e), vs ((aM l k m).s), .row .str ((aM l k m).k), .row .tree ((aM l k m).v)])]) mix hI hs ?_ ?_ ?_ ?_
   ·exact trivial
   ·kernel_rfl
   ·exact ⟨trivial, trivial⟩
   intro a w hs
   refine then_norm ?_
   refine wp_seq ?_
   refine wp_seq ?_
   refine way_L (tt := tt) (rs := []) (bs := []) (tk := [9, 10, 11, 12, 14, 15, 16]) (bk := [4004, 4005, 6007]) (C := True ∧ True) (lv := .norm) (T' := [(9, .ptr 4004 0), (10, .ptr 4005 0), (11, .row .strs (pM m)), (12, .ptr 6007 0), (14, .row .str ((pathsF ([other])).getD 0 (dflt .strs))), (15, vb true), (16, vi 0)]) (B' := [(4004, .var [vi ((madeT l).kind), vb ((madeT l).b), vb ((madeT l).n.neg), .row (.int .u32) ((madeT l).n.m), vi ((madeT l).n.e), vs ((madeT l).s), .row .str ((madeT l).k), .row .tree ((madeT l).v)]), (4005, .var [vi ((madeT k).kind), vb ((madeT k).b), vb ((madeT k).n.neg), .row (.int .u32) ((madeT k).n.m), vi ((madeT k).n.e), vs ((madeT k).s), .row .str ((madeT k).k), .row .tree ((madeT k).v)]), (6007, .var [vi ((aM l k m).kind), vb ((aM l k m).b), vb ((aM l k m).n.neg), .row (.int .u32) ((aM l k m).n.m), vi ((aM l k m).n.e), vs ((aM l k m).s), .row .str ((aM l k m).k), .row .tree ((aM l k m).v)])]) mix hI hs ?_ ?_ ?_ ?_
   ·exact trivial
   ·kernel_rfl
   ·exact ⟨trivial, trivial⟩
   intro a w hs
   refine then_norm ?_
   refine wp_block ?_
   refine loop_L (N := Tryz.f5.ntmps) (w0 := w0) (ow := noO fz) (α := Nat) (fun p => [(9, .ptr 4004 0), (10, .ptr 4005 0), (11, .row .strs (pM m)), (12, .ptr 6007 0), (14, .row .str ((pathsF ([other])).getD 0 (dflt .strs))), (15, vb (stM m ((pathsF ([other])).getD 0 (dflt .strs)) p)), (16, vi ((p : Nat) : Int))]) (fun p => [(4004, .var [vi ((madeT l).kind), vb ((madeT l).b), vb ((madeT l).n.neg), .row (.int .u32) ((madeT l).n.m), vi ((madeT l).n.e), vs ((madeT l).s), .row .str ((madeT l).k), .row .tree ((madeT l).v)]), (4005, .var [vi ((madeT k).kind), vb ((madeT k).b), vb ((madeT k).n.neg), .row (.int .u32) ((madeT k).n.m), vi ((madeT k).n.e), vs ((madeT k).s), .row .str ((madeT k).k), .row .tree ((madeT k).v)]), (6007, .var [vi ((aM l k m).kind), vb ((aM l k m).b), vb ((aM l k m).n.neg), .row (.int .u32) ((aM l k m).n.m), vi ((aM l k m).n.e), vs ((aM l k m).s), .row .str ((aM l k m).k), .row .tree ((aM l k m).v)])]) (fun p => p ≤ (pM m).length) (fun p => (pM m).length - p) 0 ?_ ?_ ?_
   ·exact Nat.zero_le _
   ·exact (SimL.cast hs (T' := [(9, .ptr 4004 0), (10, .ptr 4005 0), (11, .row .strs (pM m)), (12, .ptr 6007 0), (14, .row .str ((pathsF ([other])).getD 0 (dflt .strs))), (15, vb (stM m ((pathsF ([other])).getD 0 (dflt .strs)) 0)), (16, vi ((0 : Nat) : Int))]) (B' := [(4004, .var [vi ((madeT l).kind), vb ((madeT l).b), vb ((madeT l).n.neg), .row (.int .u32) ((madeT l).n.m), vi ((madeT l).n.e), vs ((madeT l).s), .row .str ((madeT l).k), .row .tree ((madeT l).v)]), (4005, .var [vi ((madeT k).kind), vb ((madeT k).b), vb ((madeT k).n.neg), .row (.int .u32) ((madeT k).n.m), vi ((madeT k).n.e), vs ((madeT k).s), .row .str ((madeT k).k), .row .tree ((madeT k).v)]), (6007, .var [vi ((aM l k m).kind), vb ((aM l k m).b), vb ((aM l k m).n.neg), .row (.int .u32) ((aM l k m).n.m), vi ((aM l k m).n.e), vs ((aM l k m).s), .row .str ((aM l k m).k), .row .tree ((aM l k m).v)])]) (by rfl) rfl).ren [(4004, 4004), (4005, 4005), (6007, 6007)] (by kernel_rfl) (by kernel_rfl) (by kernel_rfl)
   rintro i hJ a w hs
   rcases Bool.eq_false_or_eq_true (decide (((i : Nat) : Int) < ((pM m).length : Int))) with b3 | b3
   ·skip
    have n3 := of_decide_eq_true b3
    have b4 : (((getF ((pM m).getD i (dflt .strs)) (madeT k)).2) == ((getF ((pM m).getD i (dflt .strs)) (madeT k)).2)) = true := by simp
    rcases Bool.eq_false_or_eq_true (stM m ((pathsF ([other])).getD 0 (dflt .strs)) i) with b5 | b5
    ·skip
     rcases Bool.eq_false_or_eq_true (startsF ((pM m).getD i (dflt .strs)) ((pathsF ([other])).getD 0 (dflt .strs))) with b6 | b6
     ·skip
      refine way_L (tt := tt) (rs := [(13, ⟨[(5, ciA 27 [.agg (encTree (madeT k)), .row .str ((pM m).getD i (dflt .strs))] [] [] (.val (.tup [.agg (encTree ((getF ((pM m).getD i (dflt .strs)) (madeT k)).1)), vb ((getF ((pM m).getD i (dflt .strs)) (madeT k)).2)])))], [], []⟩), (14, ⟨[(5, ciA 27 [.agg (encTree (aM l k m)), .row .str ((pM m).getD i (dflt .strs))] [] [] (.val (.tup [.agg (encTree ((getF ((pM m).getD i (dflt .strs)) (madeT k)).1)), vb ((getF ((pM m).getD i (dflt .strs)) (madeT k)).2)])))], [], []⟩), (15, ⟨[(6, ciA 18 [.agg (encTree ((getF ((pM m).getD i (dflt .strs)) (madeT k)).1)), .agg (encTree ((getF ((pM m).getD i (dflt .strs)) (madeT k)).1))] [] [] (.val (vb true)))], [(4, true), (5, true), (6, true), (7, true), (1008, false)], []⟩), (17, ⟨[(7, ciA 28 [.row .str ((pM m).getD i (dflt .strs)), .row .str ((pathsF ([other])).getD 0 (dflt .strs))] [] [] (.val (vb (startsF ((pM m).getD i (dflt .strs)) ((pathsF ([other])).getD 0 (dflt .strs))))))], [(2, true), (3, true), (4, true), (5, true), (6, true), (7, true), (8, true), (1009, true), (11, false), (12, false), (13, false), (14, false), (15, false), (16, false), (17, false), (1018, false)], []⟩)]) (bs := [true, false]) (tk := [9, 10, 11, 12, 14, 15, 16]) (bk := [4004, 4005, 6007]) (C := ((tr 4 True) ∧ (((decide (((i : Nat) : Int) < ((pM m).length : Int))) = true) ∧ True)) ∧ (((tr 3 ((0 ≤ ((i : Nat) : Int) ∧ ((i : Nat) : Int) < (pM m).length) ∧ (True ∧ ((okArgs [.agg (encTree (madeT k)), .row .str ((pM m).getD i (dflt .strs))]) ∧ (tr 6 True))))) ∧ ((tr 3 ((0 ≤ ((i : Nat) : Int) ∧ ((i : Nat) : Int) < (pM m).length) ∧ (True ∧ ((okArgs [.agg (encTree (aM l k m)), .row .str ((pM m).getD i (dflt .strs))]) ∧ (tr 6 True))))) ∧ (((tr 4 (((!(((getF ((pM m).getD i (dflt .strs)) (madeT k)).2) == ((getF ((pM m).getD i (dflt .strs)) (madeT k)).2))) = false) ∧ (True ∧ (((!(((getF ((pM m).getD i (dflt .strs)) (madeT k)).2) == ((getF ((pM m).getD i (dflt .strs)) (madeT k)).2))) = false) ∧ (True ∧ (((!(((getF ((pM m).getD i (dflt .strs)) (madeT k)).2) == ((getF ((pM m).getD i (dflt .strs)) (madeT k)).2))) = false) ∧ ((okArgs [.agg (encTree ((getF ((pM m).getD i (dflt .strs)) (madeT k)).1)), .agg (encTree ((getF ((pM m).getD i (dflt .strs)) (madeT k)).1))]) ∧ (((!(((getF ((pM m).getD i (dflt .strs)) (madeT k)).2) == ((getF ((pM m).getD i (dflt .strs)) (madeT k)).2))) = false) ∧ (True ∧ (((!(((getF ((pM m).getD i (dflt .strs)) (madeT k)).2) == ((getF ((pM m).getD i (dflt .strs)) (madeT k)).2))) = false) ∧ True)))))))))) ∧ ((false = false) ∧ True)) ∧ (True ∧ (True ∧ (((stM m ((pathsF ([other])).getD 0 (dflt .strs)) i) = true) ∧ (True ∧ (((stM m ((pathsF ([other])).getD 0 (dflt .strs)) i) = true) ∧ (True ∧ (((stM m ((pathsF ([other])).getD 0 (dflt .strs)) i) = true) ∧ ((0 ≤ ((i : Nat) : Int) ∧ ((i : Nat) : Int) < (pM m).length) ∧ (((stM m ((pathsF ([other])).getD 0 (dflt .strs)) i) = true) ∧ (True ∧ (((stM m ((pathsF ([other])).getD 0 (dflt .strs)) i) = true) ∧ (True ∧ (((stM m ((pathsF ([other])).getD 0 (dflt .strs)) i) = true) ∧ ((okArgs [.row .str ((pM m).getD i (dflt .strs)), .row .str ((pathsF ([other])).getD 0 (dflt .strs))]) ∧ (((stM m ((pathsF ([other])).getD 0 (dflt .strs)) i) = true) ∧ (True ∧ (((stM m ((pathsF ([other])).getD 0 (dflt .strs)) i) = true) ∧ (True ∧ (((!(startsF ((pM m).getD i (dflt .strs)) ((pathsF ([other])).getD 0 (dflt .strs)))) = false) ∧ (((!(startsF ((pM m).getD i (dflt .strs)) ((pathsF ([other])).getD 0 (dflt .strs)))) = false) ∧ (((!(startsF ((pM m).getD i (dflt .strs)) ((pathsF ([other])).getD 0 (dflt .strs)))) = false) ∧ (((!(startsF ((pM m).getD i (dflt .strs)) ((pathsF ([other])).getD 0 (dflt .strs)))) = false) ∧ (((!(startsF ((pM m).getD i (dflt .strs)) ((pathsF ([other])).getD 0 (dflt .strs)))) = false) ∧ (((!(startsF ((pM m).getD i (dflt .strs)) ((pathsF ([other])).getD 0 (dflt .strs)))) = false) ∧ (((!(startsF ((pM m).getD i (dflt .strs)) ((pathsF ([other])).getD 0 (dflt .strs)))) = false) ∧ (((!(startsF ((pM m).getD i (dflt .strs)) ((pathsF ([other])).getD 0 (dflt .strs)))) = false) ∧ (True ∧ True)))))))))))))))))))))))))))))) ∧ (True ∧ ((InR .i64 (((i : Nat) : Int) + 1)) ∧ (True ∧ True))))) (lv := .norm) (T' := [(9, .ptr 4004 0), (10, .ptr 4005 0), (11, .row .strs (pM m)), (12, .ptr 6007 0), (14, .row .str ((pathsF ([other])).getD 0 (dflt .strs))), (15, vb false), (16, vi (((i : Nat) : Int) + 1))]) (B' := [(4004, .var [vi ((madeT l).kind), vb ((madeT l).b), vb ((madeT l).n.neg), .row (.int .u32) ((madeT l).n.m), vi ((madeT l).n.e), vs ((madeT l).s), .row .str ((madeT l).k), .row .tree ((madeT l).v)]), (4005, .var [vi ((madeT k).kind), vb ((madeT k).b), vb ((madeT k).n.neg), .row (.int .u32) ((madeT k).n.m), vi ((madeT k).n.e), vs ((madeT k).s), .row .str ((madeT k).k), .row .tree ((madeT k).v)]), (6007, .var [vi ((aM l k m).kind), vb ((aM l k m).b), vb ((aM l k m).n.neg), .row (.int .u32) ((aM l k m).n.m), vi ((aM l k m).n.e), vs ((aM l k m).s), .row .str ((aM l k m).k), .row .tree ((aM l k m).v)])]) mix hI hs ?_ ?_ ?_ ?_
      ·exact ⟨⟨⟨ent27, con27T _ _ (pLen m (by omega) _)⟩, trivial⟩, ⟨⟨ent27, con27P l k m (by omega)⟩, trivial⟩, ⟨⟨ent18, con18S k _⟩, trivial⟩, ⟨⟨ent28, con28 _ _ (by first | (have := qLen other (j := 0) (by have := pth1 other; omega) (dflt .strs); omega) | (have := pLen m (j := i) (by omega) (dflt .strs); omega)) (by first | (have := qLen other (j := 0) (by have := pth1 other; omega) (dflt .strs); omega) | (have := pLen m (j := i) (by omega) (dflt .strs); omega))⟩, trivial⟩, trivial⟩
      ·kernel_rfl
      ·exact ⟨⟨tr_mk (trivial) 4, b3, trivial⟩, ⟨tr_mk (⟨⟨by omega, by omega⟩, trivial, rfl, tr_mk (trivial) 6⟩) 3, tr_mk (⟨⟨by omega, by omega⟩, trivial, rfl, tr_mk (trivial) 6⟩) 3, ⟨tr_mk (⟨(by rw [b4]; rfl), trivial, (by rw [b4]; rfl), trivial, (by rw [b4]; rfl), rfl, (by rw [b4]; rfl), trivial, (by rw [b4]; rfl), trivial⟩) 4, rfl, trivial⟩, trivial, trivial, b5, trivial, b5, trivial, b5, ⟨by omega, by omega⟩, b5, trivial, b5, trivial, b5, rfl, b5, trivial, b5, trivial, (by rw [b6]; rfl), (by rw [b6]; rfl), (by rw [b6]; rfl), (by rw [b6]; rfl), (by rw [b6]; rfl), (by rw [b6]; rfl), (by rw [b6]; rfl), (by rw [b6]; rfl), trivial, trivial⟩, trivial, (inR64 (by omega) (by omega)), trivial, trivial⟩
      intro a w hs
      refine then_norm ⟨i + 1, by omega, by omega, ?_⟩
      (have e0_ : (false) = (stM m ((pathsF ([other])).getD 0 (dflt .strs)) (i + 1)) := (by first | rfl | (first | omega | (simp only [stM, b5, b6]; rfl))); have e1_ : (((i : Nat) : Int) + 1) = ((((i + 1) : Nat) : Int)) := (by first | rfl | (first | omega | (simp only [stM, b5, b6]; rfl))); exact (SimL.cast hs (T' := [(9, .ptr 4004 0), (10, .ptr 4005 0), (11, .row .strs (pM m)), (12, .ptr 6007 0), (14, .row .str ((pathsF ([other])).getD 0 (dflt .strs))), (15, vb (stM m ((pathsF ([other])).getD 0 (dflt .strs)) (i + 1))), (16, vi (((i + 1) : Nat) : Int))]) (B' := [(4004, .var [vi ((madeT l).kind), vb ((madeT l).b), vb ((madeT l).n.neg), .row (.int .u32) ((madeT l).n.m), vi ((madeT l).n.e), vs ((madeT l).s), .row .str ((madeT l).k), .row .tree ((madeT l).v)]), (4005, .var [vi ((madeT k).kind), vb ((madeT k).b), vb ((madeT k).n.neg), .row (.int .u32) ((madeT k).n.m), vi ((madeT k).n.e), vs ((madeT k).s), .row .str ((madeT k).k), .row .tree ((madeT k).v)]), (6007, .var [vi ((aM l k m).kind), vb ((aM l k m).b), vb ((aM l k m).n.neg), .row (.int .u32) ((aM l k m).n.m), vi ((aM l k m).n.e), vs ((aM l k m).s), .row .str ((aM l k m).k), .row .tree ((aM l k m).v)])]) (by first | rfl | (rw [e0_, e1_]; done) | (simp only [e0_, e1_]; done) | (simp only [e0_, e1_]; rfl)) (by first | rfl | (rw [e0_, e1_]; done) | (simp only [e0_, e1_]; done) | (simp only [e0_, e1_]; rfl))).ren [(4004, 4004), (4005, 4005), (6007, 6007)] (by kernel_rfl) (by kernel_rfl) (by kernel_rfl))
     ·skip
      refine way_L (tt := tt) (rs := [(13, ⟨[(5, ciA 27 [.agg (encTree (madeT k)), .row .str ((pM m).getD i (dflt .strs))] [] [] (.val (.tup [.agg (encTree ((getF ((pM m).getD i (dflt .strs)) (madeT k)).1)), vb ((getF ((pM m).getD i (dflt .strs)) (madeT k)).2)])))], [], []⟩), (14, ⟨[(5, ciA 27 [.agg (encTree (aM l k m)), .row .str ((pM m).getD i (dflt .strs))] [] [] (.val (.tup [.agg (encTree ((getF ((pM m).getD i (dflt .strs)) (madeT k)).1)), vb ((getF ((pM m).getD i (dflt .strs)) (madeT k)).2)])))], [], []⟩), (15, ⟨[(6, ciA 18 [.agg (encTree ((getF ((pM m).getD i (dflt .strs)) (madeT k)).1)), .agg (encTree ((getF ((pM m).getD i (dflt .strs)) (madeT k)).1))] [] [] (.val (vb true)))], [(4, true), (5, true), (6, true), (7, true), (1008, false)], []⟩), (17, ⟨[(7, ciA 28 [.row .str ((pM m).getD i (dflt .strs)), .row .str ((pathsF ([other])).getD 0 (dflt .strs))] [] [] (.val (vb (startsF ((pM m).getD i (dflt .strs)) ((pathsF ([other])).getD 0 (dflt .strs)))))), (16, ciA 28 [.row .str ((pathsF ([other])).getD 0 (dflt .strs)), .row .str ((pM m).getD i (dflt .strs))] [] [] (.val (vb (startsF ((pathsF ([other])).getD 0 (dflt .strs)) ((pM m).getD i (dflt .strs))))))], [(2, true), (3, true), (4, true), (5, true), (6, true), (7, true), (8, true), (1009, true), (11, true), (12, true), (13, true), (14, true), (15, true), (16, true), (17, true), (1018, true)], []⟩)]) (bs := [true, false]) (tk := [9, 10, 11, 12, 14, 15, 16]) (bk := [4004, 4005, 6007]) (C := ((tr 4 True) ∧ (((decide (((i : Nat) : Int) < ((pM m).length : Int))) = true) ∧ True)) ∧ (((tr 3 ((0 ≤ ((i : Nat) : Int) ∧ ((i : Nat) : Int) < (pM m).length) ∧ (True ∧ ((okArgs [.agg (encTree (madeT k)), .row .str ((pM m).getD i (dflt .strs))]) ∧ (tr 6 True))))) ∧ ((tr 3 ((0 ≤ ((i : Nat) : Int) ∧ ((i : Nat) : Int) < (pM m).length) ∧ (True ∧ ((okArgs [.agg (encTree (aM l k m)), .row .str ((pM m).getD i (dflt .strs))]) ∧ (tr 6 True))))) ∧ (((tr 4 (((!(((getF ((pM m).getD i (dflt .strs)) (madeT k)).2) == ((getF ((pM m).getD i (dflt .strs)) (madeT k)).2))) = false) ∧ (True ∧ (((!(((getF ((pM m).getD i (dflt .strs)) (madeT k)).2) == ((getF ((pM m).getD i (dflt .strs)) (madeT k)).2))) = false) ∧ (True ∧ (((!(((getF ((pM m).getD i (dflt .strs)) (madeT k)).2) == ((getF ((pM m).getD i (dflt .strs)) (madeT k)).2))) = false) ∧ ((okArgs [.agg (encTree ((getF ((pM m).getD i (dflt .strs)) (madeT k)).1)), .agg (encTree ((getF ((pM m).getD i (dflt .strs)) (madeT k)).1))]) ∧ (((!(((getF ((pM m).getD i (dflt .strs)) (madeT k)).2) == ((getF ((pM m).getD i (dflt .strs)) (madeT k)).2))) = false) ∧ (True ∧ (((!(((getF ((pM m).getD i (dflt .strs)) (madeT k)).2) == ((getF ((pM m).getD i (dflt .strs)) (madeT k)).2))) = false) ∧ True)))))))))) ∧ ((false = false) ∧ True)) ∧ (True ∧ (True ∧ (((stM m ((pathsF ([other])).getD 0 (dflt .strs)) i) = true) ∧ (True ∧ (((stM m ((pathsF ([other])).getD 0 (dflt .strs)) i) = true) ∧ (True ∧ (((stM m ((pathsF ([other])).getD 0 (dflt .strs)) i) = true) ∧ ((0 ≤ ((i : Nat) : Int) ∧ ((i : Nat) : Int) < (pM m).length) ∧ (((stM m ((pathsF ([other])).getD 0 (dflt .strs)) i) = true) ∧ (True ∧ (((stM m ((pathsF ([other])).getD 0 (dflt .strs)) i) = true) ∧ (True ∧ (((stM m ((pathsF ([other])).getD 0 (dflt .strs)) i) = true) ∧ ((okArgs [.row .str ((pM m).getD i (dflt .strs)), .row .str ((pathsF ([other])).getD 0 (dflt .strs))]) ∧ (((stM m ((pathsF ([other])).getD 0 (dflt .strs)) i) = true) ∧ (True ∧ (((stM m ((pathsF ([other])).getD 0 (dflt .strs)) i) = true) ∧ (True ∧ (((!(startsF ((pM m).getD i (dflt .strs)) ((pathsF ([other])).getD 0 (dflt .strs)))) = true) ∧ (True ∧ (((!(startsF ((pM m).getD i (dflt .strs)) ((pathsF ([other])).getD 0 (dflt .strs)))) = true) ∧ (True ∧ (((!(startsF ((pM m).getD i (dflt .strs)) ((pathsF ([other])).getD 0 (dflt .strs)))) = true) ∧ (True ∧ (((!(startsF ((pM m).getD i (dflt .strs)) ((pathsF ([other])).getD 0 (dflt .strs)))) = true) ∧ ((0 ≤ ((i : Nat) : Int) ∧ ((i : Nat) : Int) < (pM m).length) ∧ (((!(startsF ((pM m).getD i (dflt .strs)) ((pathsF ([other])).getD 0 (dflt .strs)))) = true) ∧ (True ∧ (((!(startsF ((pM m).getD i (dflt .strs)) ((pathsF ([other])).getD 0 (dflt .strs)))) = true) ∧ ((okArgs [.row .str ((pathsF ([other])).getD 0 (dflt .strs)), .row .str ((pM m).getD i (dflt .strs))]) ∧ (((!(startsF ((pM m).getD i (dflt .strs)) ((pathsF ([other])).getD 0 (dflt .strs)))) = true) ∧ (True ∧ (((!(startsF ((pM m).getD i (dflt .strs)) ((pathsF ([other])).getD 0 (dflt .strs)))) = true) ∧ (True ∧ True))))))))))))))))))))))))))))))))))))) ∧ (True ∧ ((InR .i64 (((i : Nat) : Int) + 1)) ∧ (True ∧ True))))) (lv := .norm) (T' := [(9, .ptr 4004 0), (10, .ptr 4005 0), (11, .row .strs (pM m)), (12, .ptr 6007 0), (14, .row .str ((pathsF ([other])).getD 0 (dflt .strs))), (15, vb (!(startsF ((pathsF ([other])).getD 0 (dflt .strs)) ((pM m).getD i (dflt .strs))))), (16, vi (((i : Nat) : Int) + 1))]) (B' := [(4004, .var [vi ((madeT l).kind), vb ((madeT l).b), vb ((madeT l).n.neg), .row (.int .u32) ((madeT l).n.m), vi ((madeT l).n.e), vs ((madeT l).s), .row .str ((madeT l).k), .row .tree ((madeT l).v)]), (4005, .var [vi ((madeT k).kind), vb ((madeT k).b), vb ((madeT k).n.neg), .row (.int .u32) ((madeT k).n.m), vi ((madeT k).n.e), vs ((madeT k).s), .row .str ((madeT k).k), .row .tree ((madeT k).v)]), (6007, .var [vi ((aM l k m).kind), vb ((aM l k m).b), vb ((aM l k m).n.neg), .row (.int .u32) ((aM l k m).n.m), vi ((aM l k m).n.e), vs ((aM l k m).s), .row .str ((aM l k m).k), .row .tree ((aM l k m).v)])]) mix hI hs ?_ ?_ ?_ ?_
      ·exact ⟨⟨⟨ent27, con27T _ _ (pLen m (by omega) _)⟩, trivial⟩, ⟨⟨ent27, con27P l k m (by omega)⟩, trivial⟩, ⟨⟨ent18, con18S k _⟩, trivial⟩, ⟨⟨ent28, con28 _ _ (by first | (have := qLen other (j := 0) (by have := pth1 other; omega) (dflt .strs); omega) | (have := pLen m (j := i) (by omega) (dflt .strs); omega)) (by first | (have := qLen other (j := 0) (by have := pth1 other; omega) (dflt .strs); omega) | (have := pLen m (j := i) (by omega) (dflt .strs); omega))⟩, ⟨ent28, con28 _ _ (by first | (have := qLen other (j := 0) (by have := pth1 other; omega) (dflt .strs); omega) | (have := pLen m (j := i) (by omega) (dflt .strs); omega)) (by first | (have := qLen other (j := 0) (by have := pth1 other; omega) (dflt .strs); omega) | (have := pLen m (j := i) (by omega) (dflt .strs); omega))⟩, trivial⟩, trivial⟩
      ·kernel_rfl
      ·exact ⟨⟨tr_mk (trivial) 4, b3, trivial⟩, ⟨tr_mk (⟨⟨by omega, by omega⟩, trivial, rfl, tr_mk (trivial) 6⟩) 3, tr_mk (⟨⟨by omega, by omega⟩, trivial, rfl, tr_mk (trivial) 6⟩) 3, ⟨tr_mk (⟨(by rw [b4]; rfl), trivial, (by rw [b4]; rfl), trivial, (by rw [b4]; rfl), rfl, (by rw [b4]; rfl), trivial, (by rw [b4]; rfl), trivial⟩) 4, rfl, trivial⟩, trivial, trivial, b5, trivial, b5, trivial, b5, ⟨by omega, by omega⟩, b5, trivial, b5, trivial, b5, rfl, b5, trivial, b5, trivial, (by rw [b6]; rfl), trivial, (by rw [b6]; rfl), trivial, (by rw [b6]; rfl), trivial, (by rw [b6]; rfl), ⟨by omega, by omega⟩, (by rw [b6]; rfl), trivial, (by rw [b6]; rfl), rfl, (by rw [b6]; rfl), trivial, (by rw [b6]; rfl), trivial, trivial⟩, trivial, (inR64 (by omega) (by omega)), trivial, trivial⟩
      intro a w hs
      refine then_norm ⟨i + 1, by omega, by omega, ?_⟩
      (have e0_ : (!(startsF ((pathsF ([other])).getD 0 (dflt .strs)) ((pM m).getD i (dflt .strs)))) = (stM m ((pathsF ([other])).getD 0 (dflt .strs)) (i + 1)) := (by first | rfl | (first | omega | (simp only [stM, b5, b6]; rfl))); have e1_ : (((i : Nat) : Int) + 1) = ((((i + 1) : Nat) : Int)) := (by first | rfl | (first | omega | (simp only [stM, b5, b6]; rfl))); exact (SimL.cast hs (T' := [(9, .ptr 4004 0), (10, .ptr 4005 0), (11, .row .strs (pM m)), (12, .ptr 6007 0), (14, .row .str ((pathsF ([other])).getD 0 (dflt .strs))), (15, vb (stM m ((pathsF ([other])).getD 0 (dflt .strs)) (i + 1))), (16, vi (((i + 1) : Nat) : Int))]) (B' := [(4004, .var [vi ((madeT l).kind), vb ((madeT l).b), vb ((madeT l).n.neg), .row (.int .u32) ((madeT l).n.m), vi ((madeT l).n.e), vs ((madeT l).s), .row .str ((madeT l).k), .row .tree ((madeT l).v)]), (4005, .var [vi ((madeT k).kind), vb ((madeT k).b), vb ((madeT k).n.neg), .row (.int .u32) ((madeT k).n.m), vi ((madeT k).n.e), vs ((madeT k).s), .row .str ((madeT k).k), .row .tree ((madeT k).v)]), (6007, .var [vi ((aM l k m).kind), vb ((aM l k m).b), vb ((aM l k m).n.neg), .row (.int .u32) ((aM l k m).n.m), vi ((aM l k m).n.e), vs ((aM l k m).s), .row .str ((aM l k m).k), .row .tree ((aM l k m).v)])]) (by first | rfl | (rw [e0_, e1_]; done) | (simp only [e0_, e1_]; done) | (simp only [e0_, e1_]; rfl)) (by first | rfl | (rw [e0_, e1_]; done) | (simp only [e0_, e1_]; done) | (simp only [e0_, e1_]; rfl))).ren [(4004, 4004), (4005, 4005), (6007, 6007)] (by kernel_rfl) (by kernel_rfl) (by kernel_rfl))
    ·skip
     refine way_L (tt := tt) (rs := [(13, ⟨[(5, ciA 27 [.agg (encTree (madeT k)), .row .str ((pM m).getD i (dflt .strs))] [] [] (.val (.tup [.agg (encTree ((getF ((pM m).getD i (dflt .strs)) (madeT k)).1)), vb ((getF ((pM m).getD i (dflt .strs)) (madeT k)).2)])))], [], []⟩), (14, ⟨[(5, ciA 27 [.agg (encTree (aM l k m)), .row .str ((pM m).getD i (dflt .strs))] [] [] (.val (.tup [.agg (encTree ((getF ((pM m).getD i (dflt .strs)) (madeT k)).1)), vb ((getF ((pM m).getD i (dflt .strs)) (madeT k)).2)])))], [], []⟩), (15, ⟨[(6, ciA 18 [.agg (encTree ((getF ((pM m).getD i (dflt .strs)) (madeT k)).1)), .agg (encTree ((getF ((pM m).getD i (dflt .strs)) (madeT k)).1))] [] [] (.val (vb true)))], [(4, true), (5, true), (6, true), (7, true), (1008, false)], []⟩), (17, ⟨[], [(2, false), (3, false), (4, false), (5, false), (6, false), (7, false), (8, false), (1009, false), (11, false), (12, false), (13, false), (14, false), (15, false), (16, false), (17, false), (1018, false)], []⟩)]) (bs := [true, false]) (tk := [9, 10, 11, 12, 14, 15, 16]) (bk := [4004, 4005, 6007]) (C := ((tr 4 True) ∧ (((decide (((i : Nat) : Int) < ((pM m).length : Int))) = true) ∧ True)) ∧ (((tr 3 ((0 ≤ ((i : Nat) : Int) ∧ ((i : Nat) : Int) < (pM m).length) ∧ (True ∧ ((okArgs [.agg (encTree (madeT k)), .row .str ((pM m).getD i (dflt .strs))]) ∧ (tr 6 True))))) ∧ ((tr 3 ((0 ≤ ((i : Nat) : Int) ∧ ((i : Nat) : Int) < (pM m).length) ∧ (True ∧ ((okArgs [.agg (encTree (aM l k m)), .row .str ((pM m).getD i (dflt .strs))]) ∧ (tr 6 True))))) ∧ (((tr 4 (((!(((getF ((pM m).getD i (dflt .strs)) (madeT k)).2) == ((getF ((pM m).getD i (dflt .strs)) (madeT k)).2))) = false) ∧ (True ∧ (((!(((getF ((pM m).getD i (dflt .strs)) (madeT k)).2) == ((getF ((pM m).getD i (dflt .strs)) (madeT k)).2))) = false) ∧ (True ∧ (((!(((getF ((pM m).getD i (dflt .strs)) (madeT k)).2) == ((getF ((pM m).getD i (dflt .strs)) (madeT k)).2))) = false) ∧ ((okArgs [.agg (encTree ((getF ((pM m).getD i (dflt .strs)) (madeT k)).1)), .agg (encTree ((getF ((pM m).getD i (dflt .strs)) (madeT k)).1))]) ∧ (((!(((getF ((pM m).getD i (dflt .strs)) (madeT k)).2) == ((getF ((pM m).getD i (dflt .strs)) (madeT k)).2))) = false) ∧ (True ∧ (((!(((getF ((pM m).getD i (dflt .strs)) (madeT k)).2) == ((getF ((pM m).getD i (dflt .strs)) (madeT k)).2))) = false) ∧ True)))))))))) ∧ ((false = false) ∧ True)) ∧ (True ∧ (True ∧ (((stM m ((pathsF ([other])).getD 0 (dflt .strs)) i) = false) ∧ (((stM m ((pathsF ([other])).getD 0 (dflt .strs)) i) = false) ∧ (((stM m ((pathsF ([other])).getD 0 (dflt .strs)) i) = false) ∧ (((stM m ((pathsF ([other])).getD 0 (dflt .strs)) i) = false) ∧ (((stM m ((pathsF ([other])).getD 0 (dflt .strs)) i) = false) ∧ (((stM m ((pathsF ([other])).getD 0 (dflt .strs)) i) = false) ∧ (((stM m ((pathsF ([other])).getD 0 (dflt .strs)) i) = false) ∧ (((stM m ((pathsF ([other])).getD 0 (dflt .strs)) i) = false) ∧ (True ∧ ((false = false) ∧ ((false = false) ∧ ((false = false) ∧ ((false = false) ∧ ((false = false) ∧ ((false = false) ∧ ((false = false) ∧ ((false = false) ∧ (True ∧ True))))))))))))))))))))))) ∧ (True ∧ ((InR .i64 (((i : Nat) : Int) + 1)) ∧ (True ∧ True))))) (lv := .norm) (T' := [(9, .ptr 4004 0), (10, .ptr 4005 0), (11, .row .strs (pM m)), (12, .ptr 6007 0), (14, .row .str ((pathsF ([other])).getD 0 (dflt .strs))), (15, vb false), (16, vi (((i : Nat) : Int) + 1))]) (B' := [(4004, .var [vi ((madeT l).kind), vb ((madeT l).b), vb ((madeT l).n.neg), .row (.int .u32) ((madeT l).n.m), vi ((madeT l).n.e), vs ((madeT l).s), .row .str ((madeT l).k), .row .tree ((madeT l).v)]), (4005, .var [vi ((madeT k).kind), vb ((madeT k).b), vb ((madeT k).n.neg), .row (.int .u32) ((madeT k).n.m), vi ((madeT k).n.e), vs ((madeT k).s), .row .str ((madeT k).k), .row .tree ((madeT k).v)]), (6007, .var [vi ((aM l k m).kind), vb ((aM l k m).b), vb ((aM l k m).n.neg), .row (.int .u32) ((aM l k m).n.m), vi ((aM l k m).n.e), vs ((aM l k m).s), .row .str ((aM l k m).k), .row .tree ((aM l k m).v)])]) mix hI hs ?_ ?_ ?_ ?_
     ·exact ⟨⟨⟨ent27, con27T _ _ (pLen m (by omega) _)⟩, trivial⟩, ⟨⟨ent27, con27P l k m (by omega)⟩, trivial⟩, ⟨⟨ent18, con18S k _⟩, trivial⟩, trivial, trivial⟩
     ·kernel_rfl
     ·exact ⟨⟨tr_mk (trivial) 4, b3, trivial⟩, ⟨tr_mk (⟨⟨by omega, by omega⟩, trivial, rfl, tr_mk (trivial) 6⟩) 3, tr_mk (⟨⟨by omega, by omega⟩, trivial, rfl, tr_mk (trivial) 6⟩) 3, ⟨tr_mk (⟨(by rw [b4]; rfl), trivial, (by rw [b4]; rfl), trivial, (by rw [b4]; rfl), rfl, (by rw [b4]; rfl), trivial, (by rw [b4]; rfl), trivial⟩) 4, rfl, trivial⟩, trivial, trivial, b5, b5, b5, b5, b5, b5, b5, b5, trivial, rfl, rfl, rfl, rfl, rfl, rfl, rfl, rfl, trivial, trivial⟩, trivial, (inR64 (by omega) (by omega)), trivial, trivial⟩
     intro a w hs
     refine then_norm ⟨i + 1, by omega, by omega, ?_⟩
     (have e0_ : (false) = (stM m ((pathsF ([other])).getD 0 (dflt .strs)) (i + 1)) := (by first | rfl | (first | omega | (simp only [stM, b5]; rfl))); have e1_ : (((i : Nat) : Int) + 1) = ((((i + 1) : Nat) : Int)) := (by first | rfl | (first | omega | (simp only [stM, b5]; rfl))); exact (SimL.cast hs (T' := [(9, .ptr 4004 0), (10, .ptr 4005 0), (11, .row .strs (pM m)), (12, .ptr 6007 0), (14, .row .str ((pathsF ([other])).getD 0 (dflt .strs))), (15, vb (stM m ((pathsF ([other])).getD 0 (dflt .strs)) (i + 1))), (16, vi (((i + 1) : Nat) : Int))]) (B' := [(4004, .var [vi ((madeT l).kind), vb ((madeT l).b), vb ((madeT l).n.neg), .row (.int .u32) ((madeT l).n.m), vi ((madeT l).n.e), vs ((madeT l).s), .row .str ((madeT l).k), .row .tree ((madeT l).v)]), (4005, .var [vi ((madeT k).kind), vb ((madeT k).b), vb ((madeT k).n.neg), .row (.int .u32) ((madeT k).n.m), vi ((madeT k).n.e), vs ((madeT k).s), .row .str ((madeT k).k), .row .tree ((madeT k).v)]), (6007, .var [vi ((aM l k m).kind), vb ((aM l k m).b), vb ((aM l k m).n.neg), .row (.int .u32) ((aM l k m).n.m), vi ((aM l k m).n.e), vs ((aM l k m).s), .row .str ((aM l k m).k), .row .tree ((aM l k m).v)])]) (by first | rfl | (rw [e0_, e1_]; done) | (simp only [e0_, e1_]; done) | (simp only [e0_, e1_]; rfl)) (by first | rfl | (rw [e0_, e1_]; done) | (simp only [e0_, e1_]; done) | (simp only [e0_, e1_]; rfl))).ren [(4004, 4004), (4005, 4005), (6007, 6007)] (by kernel_rfl) (by kernel_rfl) (by kernel_rfl))
   ·skip
    have n3 := of_decide_eq_false b3
    refine way_L (tt := tt) (rs := []) (bs := [false]) (tk := [9, 11, 12, 14, 15]) (bk := [4004, 6007]) (C := (tr 4 True) ∧ (((decide (((i : Nat) : Int) < ((pM m).length : Int))) = false) ∧ True)) (lv := .exit 0) (T' := [(9, .ptr 4004 0), (11, .row .strs (pM m)), (12, .ptr 6007 0), (14, .row .str ((pathsF ([other])).getD 0 (dflt .strs))), (15, vb (stM m ((pathsF ([other])).getD 0 (dflt .strs)) i))]) (B' := [(4004, .var [vi ((madeT l).kind), vb ((madeT l).b), vb ((madeT l).n.neg), .row (.int .u32) ((madeT l).n.m), vi ((madeT l).n.e), vs ((madeT l).s), .row .str ((madeT l).k), .row .tree ((madeT l).v)]), (6007, .var [vi ((aM l k m).kind), vb ((aM l k m).b), vb ((aM l k m).n.neg), .row (.int .u32) ((aM l k m).n.m), vi ((aM l k m).n.e), vs ((aM l k m).s), .row .str ((aM l k m).k), .row .tree ((aM l k m).v)])]) mix hI hs ?_ ?_ ?_ ?_
    ·exact trivial
    ·kernel_rfl
    ·exact ⟨tr_mk (trivial) 4, b3, trivial⟩
    intro a w hs
    refine then_exit ?_
    refine inb_hit ?_
    refine then_norm ?_
    rcases Bool.eq_false_or_eq_true (stM m ((pathsF ([other])).getD 0 (dflt .strs)) i) with b7 | b7
    ·skip
     rcases Bool.eq_false_or_eq_true ((getF ((pathsF ([other])).getD 0 (dflt .strs)) (madeT l)).2) with b8 | b8
     ·skip
      have b9 : ((getF ((pathsF ([other])).getD 0 (dflt .strs)) (aM l k m)).2) = true := by rw [stays_M l k m b7 (by omega)]; exact b8
      refine way_L (tt := tt) (rs := [(18, ⟨[(2, ciA 27 [.agg (encTree (madeT l)), .row .str ((pathsF ([other])).getD 0 (dflt .strs))] [] [] (.val (.tup [.agg (encTree ((getF ((pathsF ([other])).getD 0 (dflt .strs)) (madeT l)).1)), vb ((getF ((pathsF ([other])).getD 0 (dflt .strs)) (madeT l)).2)])))], [], []⟩), (19, ⟨[(2, ciA 27 [.agg (encTree (aM l k m)), .row .str ((pathsF ([other])).getD 0 (dflt .strs))] [] [] (.val (.tup [.agg (encTree ((getF ((pathsF ([other])).getD 0 (dflt .strs)) (aM l k m)).1)), vb ((getF ((pathsF ([other])).getD 0 (dflt .strs)) (aM l k m)).2)])))], [], []⟩), (20, ⟨[(11, ciA 18 [.agg (encTree ((getF ((pathsF ([other])).getD 0 (dflt .strs)) (madeT l)).1)), .agg (encTree ((getF ((pathsF ([other])).getD 0 (dflt .strs)) (aM l k m)).1))] [] [] (.val (vb true))), (21, ciA 23 [] [] [] (.val (vb true)))], [(3, true), (4, true), (1005, false), (7, true), (8, true), (9, true), (10, true), (11, true), (12, true), (1012, true), (1013, false), (15, false), (16, false), (17, false), (18, false), (1019, true), (21, true), (1022, true)], []⟩)]) (bs := []) (tk := [8]) (bk := []) (C := (True ∧ (True ∧ ((okArgs [.agg (encTree (madeT l)), .row .str ((pathsF ([other])).getD 0 (dflt .strs))]) ∧ (tr 6 True)))) ∧ ((True ∧ (True ∧ ((okArgs [.agg (encTree (aM l k m)), .row .str ((pathsF ([other])).getD 0 (dflt .strs))]) ∧ (tr 6 True)))) ∧ ((tr 3 (((!(stM m ((pathsF ([other])).getD 0 (dflt .strs)) i)) = false) ∧ (True ∧ (((!(stM m ((pathsF ([other])).getD 0 (dflt .strs)) i)) = false) ∧ (True ∧ (((!(stM m ((pathsF ([other])).getD 0 (dflt .strs)) i)) = false) ∧ (True ∧ (((!((getF ((pathsF ([other])).getD 0 (dflt .strs)) (madeT l)).2)) = false) ∧ (True ∧ (((!((getF ((pathsF ([other])).getD 0 (dflt .strs)) (madeT l)).2)) = false) ∧ (True ∧ ((((getF ((pathsF ([other])).getD 0 (dflt .strs)) (aM l k m)).2) = true) ∧ (True ∧ ((((getF ((pathsF ([other])).getD 0 (dflt .strs)) (aM l k m)).2) = true) ∧ (True ∧ ((((getF ((pathsF ([other])).getD 0 (dflt .strs)) (aM l k m)).2) = true) ∧ ((okArgs [.agg (encTree ((getF ((pathsF ([other])).getD 0 (dflt .strs)) (madeT l)).1)), .agg (encTree ((getF ((pathsF ([other])).getD 0 (dflt .strs)) (aM l k m)).1))]) ∧ (((!((getF ((pathsF ([other])).getD 0 (dflt .strs)) (madeT l)).2)) = false) ∧ ((((getF ((pathsF ([other])).getD 0 (dflt .strs)) (aM l k m)).2) = true) ∧ (((!((getF ((pathsF ([other])).getD 0 (dflt .strs)) (madeT l)).2)) = false) ∧ (True ∧ ((true = true) ∧ ((true = true) ∧ ((true = true) ∧ ((true = true) ∧ ((true = true) ∧ (True ∧ ((true = true) ∧ ((okArgs []) ∧ ((true = true) ∧ (True ∧ True))))))))))))))))))))))))))))))) ∧ True))) (lv := .ret) (T' := [(8, vb true)]) (B' := []) mix hI hs ?_ ?_ ?_ ?_
      ·exact ⟨⟨⟨ent27, con27T _ _ (qLen other (by have := pth1 other; omega) _)⟩, trivial⟩, ⟨⟨ent27, con27A l k m _ (qLen other (by have := pth1 other; omega) _)⟩, trivial⟩, ⟨⟨ent18, con18Q l k m _ (by assumption) (by omega)⟩, ⟨ent23, con23⟩, trivial⟩, trivial⟩
      ·kernel_rfl
      ·exact ⟨⟨trivial, trivial, rfl, tr_mk (trivial) 6⟩, ⟨trivial, trivial, rfl, tr_mk (trivial) 6⟩, tr_mk (⟨(by rw [b7]; rfl), trivial, (by rw [b7]; rfl), trivial, (by rw [b7]; rfl), trivial, (by rw [b8]; rfl), trivial, (by rw [b8]; rfl), trivial, b9, trivial, b9, trivial, b9, rfl, (by rw [b8]; rfl), b9, (by rw [b8]; rfl), trivial, rfl, rfl, rfl, rfl, rfl, trivial, rfl, rfl, rfl, trivial, trivial⟩) 3, trivial⟩
      intro a w hs
      exact FnQ_cast (out := .val (vb true)) (rfl) (ret_ok [] hs ⟨by kernel_rfl, rfl⟩)
     ·skip
      refine way_L (tt := tt) (rs := [(18, ⟨[(2, ciA 27 [.agg (encTree (madeT l)), .row .str ((pathsF ([other])).getD 0 (dflt .strs))] [] [] (.val (.tup [.agg (encTree ((getF ((pathsF ([other])).getD 0 (dflt .strs)) (madeT l)).1)), vb ((getF ((pathsF ([other])).getD 0 (dflt .strs)) (madeT l)).2)])))], [], []⟩), (19, ⟨[(2, ciA 27 [.agg (encTree (aM l k m)), .row .str ((pathsF ([other])).getD 0 (dflt .strs))] [] [] (.val (.tup [.agg (encTree ((getF ((pathsF ([other])).getD 0 (dflt .strs)) (aM l k m)).1)), vb ((getF ((pathsF ([other])).getD 0 (dflt .strs)) (aM l k m)).2)])))], [], []⟩), (20, ⟨[(21, ciA 23 [] [] [] (.val (vb true)))], [(3, true), (4, true), (1005, false), (7, false), (8, false), (12, false), (1013, true), (15, false), (16, false), (17, false), (18, false), (1019, true), (21, true), (1022, true)], []⟩)]) (bs := []) (tk := [8]) (bk := []) (C := (True ∧ (True ∧ ((okArgs [.agg (encTree (madeT l)), .row .str ((pathsF ([other])).getD 0 (dflt .strs))]) ∧ (tr 6 True)))) ∧ ((True ∧ (True ∧ ((okArgs [.agg (encTree (aM l k m)), .row .str ((pathsF ([other])).getD 0 (dflt .strs))]) ∧ (tr 6 True)))) ∧ ((tr 3 (((!(stM m ((pathsF ([other])).getD 0 (dflt .strs)) i)) = false) ∧ (True ∧ (((!(stM m ((pathsF ([other])).getD 0 (dflt .strs)) i)) = false) ∧ (True ∧ (((!(stM m ((pathsF ([other])).getD 0 (dflt .strs)) i)) = false) ∧ (True ∧ (((!((getF ((pathsF ([other])).getD 0 (dflt .strs)) (madeT l)).2)) = true) ∧ (((!((getF ((pathsF ([other])).getD 0 (dflt .strs)) (madeT l)).2)) = true) ∧ (tr 3 (((!((getF ((pathsF ([other])).getD 0 (dflt .strs)) (madeT l)).2)) = true) ∧ (((!((getF ((pathsF ([other])).getD 0 (dflt .strs)) (madeT l)).2)) = true) ∧ (True ∧ ((true = true) ∧ ((true = true) ∧ ((true = true) ∧ ((true = true) ∧ ((true = true) ∧ (True ∧ ((true = true) ∧ ((okArgs []) ∧ ((true = true) ∧ (True ∧ True))))))))))))))))))))))) ∧ True))) (lv := .ret) (T' := [(8, vb true)]) (B' := []) mix hI hs ?_ ?_ ?_ ?_
      ·exact ⟨⟨⟨ent27, con27T _ _ (qLen other (by have := pth1 other; omega) _)⟩, trivial⟩, ⟨⟨ent27, con27A l k m _ (qLen other (by have := pth1 other; omega) _)⟩, trivial⟩, ⟨⟨ent23, con23⟩, trivial⟩, trivial⟩
      ·kernel_rfl
      ·exact ⟨⟨trivial, trivial, rfl, tr_mk (trivial) 6⟩, ⟨trivial, trivial, rfl, tr_mk (trivial) 6⟩, tr_mk (⟨(by rw [b7]; rfl), trivial, (by rw [b7]; rfl), trivial, (by rw [b7]; rfl), trivial, (by rw [b8]; rfl), (by rw [b8]; rfl), tr_mk (⟨(by rw [b8]; rfl), (by rw [b8]; rfl), trivial, rfl, rfl, rfl, rfl, rfl, trivial, rfl, rfl, rfl, trivial, trivial⟩) 3⟩) 3, trivial⟩
      intro a w hs
      exact FnQ_cast (out := .val (vb true)) (rfl) (ret_ok [] hs ⟨by kernel_rfl, rfl⟩)
    ·skip
     refine way_L (tt := tt) (rs := [(18, ⟨[(2, ciA 27 [.agg (encTree (madeT l)), .row .str ((pathsF ([other])).getD 0 (dflt .strs))] [] [] (.val (.tup [.agg (encTree ((getF ((pathsF ([other])).getD 0 (dflt .strs)) (madeT l)).1)), vb ((getF ((pathsF ([other])).getD 0 (dflt .strs)) (madeT l)).2)])))], [], []⟩), (19, ⟨[(2, ciA 27 [.agg (encTree (aM l k m)), .row .str ((pathsF ([other])).getD 0 (dflt .strs))] [] [] (.val (.tup [.agg (encTree ((getF ((pathsF ([other])).getD 0 (dflt .strs)) (aM l k m)).1)), vb ((getF ((pathsF ([other])).getD 0 (dflt .strs)) (aM l k m)).2)])))], [], []⟩), (20, ⟨[(21, ciA 23 [] [] [] (.val (vb true)))], [(3, false), (4, false), (1005, true), (7, false), (8, false), (12, false), (1013, true), (15, false), (16, false), (17, false), (18, false), (1019, true), (21, true), (1022, true)], []⟩)]) (bs := []) (tk := [8]) (bk := []) (C := (True ∧ (True ∧ ((okArgs [.agg (encTree (madeT l)), .row .str ((pathsF ([other])).getD 0 (dflt .strs))]) ∧ (tr 6 True)))) ∧ ((True ∧ (True ∧ ((okArgs [.agg (encTree (aM l k m)), .row .str ((pathsF ([other])).getD 0 (dflt .strs))]) ∧ (tr 6 True)))) ∧ ((tr 3 (((!(stM m ((pathsF ([other])).getD 0 (dflt .strs)) i)) = true) ∧ (((!(stM m ((pathsF ([other])).getD 0 (dflt .strs)) i)) = true) ∧ (((!(stM m ((pathsF ([other])).getD 0 (dflt .strs)) i)) = true) ∧ (True ∧ ((true = true) ∧ ((true = true) ∧ (tr 3 ((true = true) ∧ ((true = true) ∧ (True ∧ ((true = true) ∧ ((true = true) ∧ ((true = true) ∧ ((true = true) ∧ ((true = true) ∧ (True ∧ ((true = true) ∧ ((okArgs []) ∧ ((true = true) ∧ (True ∧ True))))))))))))))))))))) ∧ True))) (lv := .ret) (T' := [(8, vb true)]) (B' := []) mix hI hs ?_ ?_ ?_ ?_
     ·exact ⟨⟨⟨ent27, con27T _ _ (qLen other (by have := pth1 other; omega) _)⟩, trivial⟩, ⟨⟨ent27, con27A l k m _ (qLen other (by have := pth1 other; omega) _)⟩, trivial⟩, ⟨⟨ent23, con23⟩, trivial⟩, trivial⟩
     ·kernel_rfl
     ·exact ⟨⟨trivial, trivial, rfl, tr_mk (trivial) 6⟩, ⟨trivial, trivial, rfl, tr_mk (trivial) 6⟩, tr_mk (⟨(by rw [b7]; rfl), (by rw [b7]; rfl), (by rw [b7]; rfl), trivial, rfl, rfl, tr_mk (⟨rfl, rfl, trivial, rfl, rfl, rfl, rfl, rfl, trivial, rfl, rfl, rfl, trivial, trivial⟩) 3⟩) 3, trivial⟩
     intro a w hs
     exact FnQ_cast (out := .val (vb true)) (rfl) (ret_ok [] hs ⟨by kernel_rfl, rfl⟩)
theorem law_MaskTakes (l k m : List Int) (other : Int) : Con Tryz.prog I0 5 [.row (.int .i64) l, .row (.int .i64) k, .row (.int .i64) m, vi other] (.val (vb true)) := con5 l k m other
end Go.Proofs.YtondpnipoogoiaaGreatDoor.F
namespace Go.Proofs.YtondpnipoogoiaaGreatDoor.X
open Go.ChangeShapes Go.WideShapes Go.ChangeAt Go.RowKit
set_option linter.unusedSimpArgs false
theorem rl_maskTakes {W : World} {fz : Nat → Prop} {η : Nat → Option Value} {v0 : Value} {l0 : List Int} (y0 : Go.Proofs.YtondpnipoogoiaaGreatDoor.F.R W fz η v0 (.row (.int .i64) l0)) {v1 : Value} {l1 : List Int} (y1 : Go.Proofs.YtondpnipoogoiaaGreatDoor.F.R W fz η v1 (.row (.int .i64) l1)) {v2 : Value} {l2 : List Int} (y2 : Go.Proofs.YtondpnipoogoiaaGreatDoor.F.R W fz η v2 (.row (.int .i64) l2)) {a3 : Int} : Go.Proofs.YtondpnipoogoiaaGreatDoor.F.RL W fz η #[v0, v1, v2, .int .i64 a3] [.row (.int .i64) l0, .row (.int .i64) l1, .row (.int .i64) l2, .lit (.int .i64 a3)] := by
  refine ⟨rfl, fun j v a hv ha => ?_⟩
  rcases j with _ | j
  · simp only [List.getElem?_toArray, List.getElem?_cons_zero, List.getElem?_cons_succ, Option.some.injEq] at hv ha
    subst hv ha
    exact y0
  rcases j with _ | j
  · simp only [List.getElem?_toArray, List.getElem?_cons_zero, List.getElem?_cons_succ, Option.some.injEq] at hv ha
    subst hv ha
    exact y1
  rcases j with _ | j
  · simp only [List.getElem?_toArray, List.getElem?_cons_zero, List.getElem?_cons_succ, Option.some.injEq] at hv ha
    subst hv ha
    exact y2
  rcases j with _ | j
  · simp only [List.getElem?_toArray, List.getElem?_cons_zero, List.getElem?_cons_succ, Option.some.injEq] at hv ha
    subst hv ha
    exact .lit _
  · simp at ha
set_option maxRecDepth 100000 in
theorem contractMaskTakes (H : Type) (enc : TypeId × Value → H) (W : World) (base : Nat) (args : Array Value) (ds gs : List (DataW H)) (before : List MemPlace)
    (hval : ∀ (j : Nat) t v, Tryz.f5.params[j]? = some t → args[j]? = some v → Value.okWide Tryz.prog W .any base t v)
    (hW : DataW.Whole enc Tryz.prog Tryz.f5.params.toList Rows.maskTakesSpec.vars false W args.toList ds gs before) (hL : laidMetH Tryz.prog Rows.maskTakesRow.laid W) (hS : W.ShapedOpen Tryz.prog) :
    Calls Tryz.prog 5 args W fun e W' => ∃ v, e = .returned v ∧ Rows.maskTakesSpec.post enc Tryz.prog Tryz.f5 false true false false W args v W' := by
  have hW' := hW
  obtain ⟨p, q, hA0, hV, rfl, hfz, hnd⟩ := hW
  have hA : DataW.TrodAll enc Tryz.prog W 0 (fun _ => true) true Tryz.f5.params.toList args.toList ds p := hA0
  rw [Tryz.params5] at hA hval
  obtain ⟨v0, vs0, d0, ds0, p0, q0, hargs, rfl, rfl, h0, r0⟩ := trodAll_cons hA
  obtain ⟨v1, vs1, d1, ds1, p1, q1, rfl, rfl, rfl, h1, r1⟩ := trodAll_cons r0
  obtain ⟨v2, vs2, d2, ds2, p2, q2, rfl, rfl, rfl, h2, r2⟩ := trodAll_cons r1
  obtain ⟨v3, vs3, d3, ds3, p3, q3, rfl, rfl, rfl, h3, r3⟩ := trodAll_cons r2
  obtain ⟨rfl, rfl, rfl⟩ := trodAll_nil r3
  obtain rfl : args = #[v0, v1, v2, v3] := by cases args; simp_all
  obtain ⟨rfl, rfl⟩ := trodVars_none hV
  have k0 := h0
  have lt0 : ∀ x ∈ p0, x.block < W.heap.size := by obtain ⟨m, hm⟩ := k0; exact DataW.trod_lt m _ _ _ hm
  obtain ⟨a0, y0⟩ := open_rowI (hval 0 22 v0 rfl rfl) h0
  have k1 := h1
  have lt1 : ∀ x ∈ p1, x.block < W.heap.size := by obtain ⟨m, hm⟩ := k1; exact DataW.trod_lt m _ _ _ hm
  obtain ⟨a1, y1⟩ := open_rowI (hval 1 22 v1 rfl rfl) h1
  have k2 := h2
  have lt2 : ∀ x ∈ p2, x.block < W.heap.size := by obtain ⟨m, hm⟩ := k2; exact DataW.trod_lt m _ _ _ hm
  obtain ⟨a2, y2⟩ := open_rowI (hval 2 22 v2 rfl rfl) h2
  obtain ⟨a3, rfl, rfl, rfl, w3⟩ := open_int Tryz.underlying3 (hval 3 3 v3 rfl rfl) h3
  clear hA0
  have hv1 : Go.Proofs.YtondpnipoogoiaaGreatDoor.F.RL W (fun k => k < W.heap.size) Go.Proofs.YtondpnipoogoiaaGreatDoor.F.noη #[v0, v1, v2, .int .i64 a3] [.row (.int .i64) a0, .row (.int .i64) a1, .row (.int .i64) a2, .lit (.int .i64 a3)] := rl_maskTakes y0 y1 y2
  refine (Go.Proofs.YtondpnipoogoiaaGreatDoor.F.law_MaskTakes a0 a1 a2 a3 W _ _ (laid_of hL hS) (fun k h => h) hv1).mono fun e W' hp => ?_
  obtain ⟨⟨v, rfl, hR⟩, bel⟩ := hp
  obtain rfl := hR.lit_inv
  exact ⟨_, rfl, _, _, _, [], _, [], hW', trodAll_mk1 (shut_bool Tryz.underlying4 _), (trodAll_cons_mk (Below.trod laidOut (by kernel_rfl) (of_decide_eq_true (by kernel_rfl)) k0 bel lt0) (trodAll_cons_mk (Below.trod laidOut (by kernel_rfl) (of_decide_eq_true (by kernel_rfl)) k1 bel lt1) (trodAll_cons_mk (Below.trod laidOut (by kernel_rfl) (of_decide_eq_true (by kernel_rfl)) k2 bel lt2) (trodAll_cons_mk (shut_int Tryz.underlying3 w3) trodAll_mk0)))), rfl, bel.frame _, fun h => by cases h⟩
theorem readsMaskTakes (os : Os) {H : Type} (enc : TypeId × Value → H) : ∃ places, DataW.whole enc Tryz.prog ((laidWorld os).forCall (fun _ _ => 0) ⟨#[], #[.slice none 0 0, .slice none 0 0, .slice none 0 0, .int .i64 0], []⟩).memory Tryz.f5.params.toList Rows.maskTakesSpec.vars false #[Value.slice none 0 0, Value.slice none 0 0, Value.slice none 0 0, Value.int .i64 0].toList 8 = some ([.nil, .nil, .nil, .lit (.int .i64 0)], [], places) :=
  ⟨[], by kernel_rfl⟩
set_option maxRecDepth 100000 in
theorem metMaskTakes (os : Os) : laidMet Tryz.prog Rows.maskTakesRow.laid ((laidWorld os).forCall (fun _ _ => 0) ⟨#[], #[.slice none 0 0, .slice none 0 0, .slice none 0 0, .int .i64 0], []⟩).memory :=
  laidMet_of_run' 8 (by kernel_rfl) (by kernel_rfl)
set_option maxRecDepth 100000 in
theorem liftedMaskTakes (os : Os) (started : os.Started) (H : Type) (enc : TypeId × Value → H) (F : Stop.Interp) :
    ReturnsInHanded {} Tryz.checked os 5 .any ((OpenSpec.ofChange Rows.maskTakesSpec).preRow enc Tryz.prog Tryz.f5 Rows.maskTakesRow.domain false Rows.maskTakesRow.laid) (((OpenSpec.ofChange Rows.maskTakesSpec).at F).post enc Tryz.prog Tryz.f5 false true false false) := by
  obtain ⟨places, hx⟩ := readsMaskTakes os enc
  refine returnsInHanded_of_row (C := Tryz.checked) (s := OpenSpec.ofChange Rows.maskTakesSpec) own started (by kernel_rfl) Tryz.func5
    (witness_row_at (enc := enc) (C := Tryz.checked) false (laidWorld os) #[.slice none 0 0, .slice none 0 0, .slice none 0 0, .int .i64 0] rfl (by kernel_rfl) (by kernel_rfl) (by kernel_rfl)
      (OpenSpec.preRow_of_cond 8 hx (by kernel_rfl) (fun k hk => by cases hk) (by kernel_rfl) (metMaskTakes os))) ?_
  intro W base args ds gs before hval hW _ _ _ hL hS _
  exact contractMaskTakes H enc W base args ds gs before hval hW hL hS
theorem saidMaskTakes : Rows.MaskTakesSaid :=
  OpenClaim.holds_of_cond 5 Tryz.f5 rfl rfl rfl rfl rfl rfl rfl ⟨rfl, rfl, rfl, rfl, rfl⟩ rfl rfl rfl rfl rfl (by kernel_rfl) Tryz.func5 (by kernel_rfl)
    (of_decide_eq_true (by kernel_rfl)) (by unfold Func.isWrapper; first | (rw [if_pos (by decide +kernel)]; kernel_rfl) | (rw [if_neg (by decide +kernel)]; exact ⟨rfl, rfl⟩))
    (fun os started H enc _ F => by rw [OpenClaim.pre_eq_preRow]; exact liftedMaskTakes os started H enc F)
theorem plainMaskTakes (f : FuncId) (fn : Func) (hf : Tryz.pinned.checked.prog.funcNamed "erratum/erratumlaw17.MaskTakes" = some f) (hfn : Tryz.pinned.checked.prog.funcs[f]? = some fn) :
    true = Tryz.pinned.checked.prog.looks [] ∧ ∀ (j : Nat) t, fn.params[j]? = some t → Tryz.pinned.checked.prog.wantsStandIn t = false := by
  obtain rfl : f = 5 := Option.some.inj ((show Tryz.prog.funcNamed "erratum/erratumlaw17.MaskTakes" = some 5 by kernel_rfl).symm.trans hf) |>.symm
  obtain rfl : fn = Tryz.f5 := (Option.some.inj (Tryz.func5.symm.trans hfn)).symm
  refine ⟨by kernel_rfl, fun j t ht => ?_⟩
  rw [Tryz.params5] at ht
  have hm : t = 22 ∨ t = 22 ∨ t = 22 ∨ t = 3 := by simpa using Array.mem_of_getElem? ht
  rcases hm with rfl | rfl | rfl | rfl
  · exact (show Tryz.prog.wantsStandIn 22 = false by kernel_rfl)
  · exact (show Tryz.prog.wantsStandIn 22 = false by kernel_rfl)
  · exact (show Tryz.prog.wantsStandIn 22 = false by kernel_rfl)
  · exact (show Tryz.prog.wantsStandIn 3 = false by kernel_rfl)
theorem cardMaskTakes : Rows.MaskTakesCardSaid :=
  Claim7.holds_tied_plain_at .later [] _ _ _ _ saidMaskTakes (fun _ h => by cases h) (by kernel_rfl) (fun _ h => by cases h) maskTakes_row_tie rfl ⟨rfl, rfl⟩ (by kernel_rfl) rfl plainMaskTakes (by kernel_rfl)
end Go.Proofs.YtondpnipoogoiaaGreatDoor.X
