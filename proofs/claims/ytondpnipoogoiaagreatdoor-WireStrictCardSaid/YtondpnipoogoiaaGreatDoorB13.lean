/- For all lists of numbers and any two numbers: an operation of a written JSON patch with one thing wrong is not read. -/
import Derived.Test.YtondpnipoogoiaaGreatDoorB12
import Derived.Test.YtondpnipoogoiaaGreatDoorB7
import Derived.Test.YtondpnipoogoiaaGreatDoorB4
import Derived.Recover
import Derived.Test.YtondpnipoogoiaaGreatDoorB10
import Derived.Test.YtondpnipoogoiaaGreatDoorB8
import Derived.Laws.RangeString
import Derived.Test.YtondpnipoogoiaaGreatDoorB9
set_option maxRecDepth 100000
set_option linter.unusedVariables false
set_option linter.unusedSimpArgs false
namespace Go.Proofs.YtondpnipoogoiaaGreatDoor.F
open Go Go.RowKit Go.Proofs.Tryz
def wT (p : Pat) : Tree := if (p.lang == 1) = true then arrT (p.ops.map objT) else if (p.lang == 3) = true then pairT (textF p.mask) p.value else p.value
def WriteR (p : Pat) : Tree × Int := if checkP p = true then (if validT (wT p) = true then (wT p, 0) else (Tree.zero, 4)) else (Tree.zero, 1)
theorem pathOk_in {p : List ByteArray} (h : pathOk p = true) : p.length ≤ 63 ∧ ∀ x ∈ p, badTok x = false := by
 simp only [pathOk, Bool.and_eq_true, decide_eq_true_eq, Bool.not_eq_true', List.any_eq_false] at h
 exact ⟨by omega, fun x hx => by have := h.2 x hx; simpa using this⟩
theorem badTok_size {s : ByteArray} (h : badTok s = false) : s.size ≤ 2000 := by
 simp only [badTok, Bool.or_eq_false_iff, decide_eq_false_iff_not] at h
 omega
theorem oneF_in {x : Opn} (h : oneF x = true) : (1 ≤ x.op ∧ x.op ≤ 6) ∧ (x.path.length ≤ 63 ∧ ∀ t ∈ x.path, t.size ≤ 2000) ∧ (x.frm.length ≤ 63 ∧ ∀ t ∈ x.frm, t.size ≤ 2000) := by
 unfold oneF at h
 have path : pathOk x.path = true → x.path.length ≤ 63 ∧ ∀ t ∈ x.path, t.size ≤ 2000 := fun h => ⟨(pathOk_in h).1, fun t ht => badTok_size ((pathOk_in h).2 t ht)⟩
 have nil : ((x.frm.length : Int) == 0) = true → x.frm.length ≤ 63 ∧ ∀ t ∈ x.frm, t.size ≤ 2000 := fun h => by
  have h1 : x.frm.length = 0 := by have := eq_of_beq h; omega
  refine ⟨by omega, fun t ht => ?_⟩
  rw [List.eq_nil_of_length_eq_zero h1] at ht; simp at ht
 split at h
 ·rename_i h1
  simp only [Bool.and_eq_true] at h
  simp only [Bool.or_eq_true, beq_iff_eq] at h1
  exact ⟨by omega, path h.1, (pathOk_in h.2.1).1, fun t ht => badTok_size ((pathOk_in h.2.1).2 t ht)⟩
 ·split at h
  ·rename_i h1
   simp only [Bool.and_eq_true] at h
   simp only [Bool.or_eq_true, beq_iff_eq] at h1
   exact ⟨by omega, path h.1, nil h.2.1⟩
  ·split at h
   ·rename_i h1
    simp only [Bool.and_eq_true] at h
    have h2 := eq_of_beq h1
    exact ⟨by omega, path h.1, nil h.2.1⟩
   ·cases h
theorem opsF_in {l : List Opn} (h : opsF l = true) : l.length ≤ 60 ∧ ∀ x ∈ l, oneF x = true := by
 simp only [opsF, Bool.and_eq_true, decide_eq_true_eq, Bool.not_eq_true', List.any_eq_false] at h
 exact ⟨by omega, fun x hx => by have := h.2 x hx; simpa using this⟩
theorem fine_text (s : ByteArray) : fineT (textT s) := (fine_eq _).2 ⟨⟨Ok.nil, by show (0:Nat) < _; decide, by show (0:Nat) < _; decide, by show (0:Nat) < _; decide⟩, trivial⟩
theorem fine_obj {x : Opn} (h : fineO x) : fineT (objT x) := by
 have hk : (objK x).length ≤ 4 := by unfold objK; split <;> split <;> simp
 have hv : (objV x).length ≤ 4 := by unfold objV; split <;> split <;> simp
 refine (fine_eq _).2 ⟨⟨Ok.nil, by show (0:Nat) < _; decide, by show (objK x).length < _; omega, by show (objV x).length < _; omega⟩, fineL_of (fun u hu => ?_)⟩
 have hu : u ∈ objV x := hu
 unfold objV at hu
 simp only [List.mem_append, List.mem_singleton] at hu
 rcases hu with ((hu | rfl) | rfl) | hu
 ·split at hu
  ·simp only [List.mem_singleton] at hu; subst hu; exact fine_text _
  ·simp at hu
 ·exact fine_text _
 ·exact fine_text _
 ·split at hu
  ·simp only [List.mem_singleton] at hu; subst hu; exact h.2.2
  ·simp at hu
theorem fine_arr {l : List Opn} (hl : l.length < 1000000000) (h : ∀ x ∈ l, fineO x) : fineT (arrT (l.map objT)) := by
 refine (fine_eq _).2 ⟨⟨Ok.nil, by show (0:Nat) < _; decide, by show (0:Nat) < _; decide, by show (l.map objT).length < _; rw [List.length_map]; exact hl⟩, fineL_of (fun u hu => ?_)⟩
 obtain ⟨x, hx, rfl⟩ := List.mem_map.1 (show u ∈ l.map objT from hu)
 exact fine_obj (h x hx)
theorem fine_pair {s : ByteArray} {v : Tree} (h : fineT v) : fineT (pairT s v) := (fine_eq _).2 ⟨⟨Ok.nil, by show (0:Nat) < _; decide, by show (2:Nat) < _; decide, by show (2:Nat) < _; decide⟩, fineL_of (fun u hu => by
 rcases List.mem_cons.1 (show u ∈ [textT s, v] from hu) with rfl | hu
 ·exact fine_text _
 ·simp only [List.mem_singleton] at hu; subst hu; exact h)⟩
theorem con14 (pq : Pat) (hv : fineT pq.value) (hms : ∀ x ∈ pq.mask, smalls x) (hml : pq.mask.length < 1000000000) (hops : ∀ x ∈ pq.ops, fineO x) (hol : pq.ops.length < 1000000000) : Con Tryz.prog I0 14 [.agg [vi pq.lang, .row .opn pq.ops, vi pq.value.kind, vb pq.value.b, vb pq.value.n.neg, .row (.int .u32) pq.value.n.m, vi pq.value.n.e, vs pq.value.s, .row .str pq.value.k, .row .tree pq.value.v, .row .strs pq.mask]] (.val (.tup [.agg (encTree (WriteR pq).1), vi (WriteR pq).2])) := by
 refine con_of Tryz.func14 rfl (Nat.le_of_ble_eq_true rfl) stab (fun w0 fz a hI hs => ?_)
 refine wp_seq ?_
 refine wN hs hI [] 19375 [] .norm [(1, .ptr 1000 0), (2, .ptr 1001 0)] [(1000, .var [vi pq.lang, .row .opn pq.ops, vi pq.value.kind, vb pq.value.b, vb pq.value.n.neg, rwU pq.value.n.m, vi pq.value.n.e, vs pq.value.s, rwS pq.value.k, rwT pq.value.v, .row .strs pq.mask]), (1001, .var zTr)] tv fun a w hs => ?_
 refine then_norm ?_
 refine wp_seq ?_
 rcases bt (checkP pq) with b1 | b1
 ·skip
  have hck := b1
  refine wL hs hI [(1, ⟨[(1, ciV 51 [.agg [vi pq.lang, .row .opn pq.ops, vi pq.value.kind, vb pq.value.b, vb pq.value.n.neg, rwU pq.value.n.m, vi pq.value.n.e, vs pq.value.s, rwS pq.value.k, rwT pq.value.v, .row .strs pq.mask]] (vb (checkP pq)))], [], []⟩)] [false] 11894390 [ty (ng1 b1)] .norm [(1, .ptr 1000 0), (2, .ptr 1001 0)] [(1000, .var [vi pq.lang, .row .opn pq.ops, vi pq.value.kind, vb pq.value.b, vb pq.value.n.neg, rwU pq.value.n.m, vi pq.value.n.e, vs pq.value.s, rwS pq.value.k, rwT pq.value.v, .row .strs pq.mask]), (1001, .var zTr)] ⟨⟨⟨ent51, con51 _ hv hms hml hops hol⟩, tv⟩, tv⟩ ⟨(ng1 b1), tv⟩ fun a w hs => ?_
  refine then_norm ?_
  refine wp_seq ?_
  refine wN hs hI [] 487500 [] .norm [(1, .ptr 1000 0), (2, .ptr 1001 0), (4, .ptr 4002 0)] [(1000, .var [vi pq.lang, .row .opn pq.ops, vi pq.value.kind, vb pq.value.b, vb pq.value.n.neg, rwU pq.value.n.m, vi pq.value.n.e, vs pq.value.s, rwS pq.value.k, rwT pq.value.v, .row .strs pq.mask]), (1001, .var zTr), (4002, bTr (pq.value))] tv fun a w hs => ?_
  refine then_norm ?_
  refine wp_seq ?_
  refine wp_seq ?_
  refine wN hs hI [] 750 [] .norm [(1, .ptr 1000 0), (2, .ptr 1001 0), (4, .ptr 4002 0), (14, vi pq.lang)] [(1000, .var [vi pq.lang, .row .opn pq.ops, vi pq.value.kind, vb pq.value.b, vb pq.value.n.neg, rwU pq.value.n.m, vi pq.value.n.e, vs pq.value.s, rwS pq.value.k, rwT pq.value.v, .row .strs pq.mask]), (1001, .var zTr), (4002, bTr (pq.value))] tv fun a w hs => ?_
  refine then_norm ?_
  refine wp_block ?_
  refine wp_seq ?_
  refine wN hs hI [] 750 [] .norm [(1, .ptr 1000 0), (2, .ptr 1001 0), (4, .ptr 4002 0), (14, vi pq.lang), (15, vb (pq.lang == 1))] [(1000, .var [vi pq.lang, .row .opn pq.ops, vi pq.value.kind, vb pq.value.b, vb pq.value.n.neg, rwU pq.value.n.m, vi pq.value.n.e, vs pq.value.s, rwS pq.value.k, rwT pq.value.v, .row .strs pq.mask]), (1001, .var zTr), (4002, bTr (pq.value))] tv fun a w hs => ?_
  refine then_norm ?_
  refine cond_L (c := 15) hs (b := pq.lang == 1) rfl (fun hb => ?_) (fun hb => ?_)
  ·have b2 := hb
   clear hb
   have n2 := eq_of_beq b2
   have hone : ∀ i, i < pq.ops.length → _ := fun i hi => oneF_in ((opsF_in (by have h1 := hck; rw [checkP, if_pos b2, Bool.and_eq_true] at h1; exact h1.1)).2 _ (getD_mem hi (dflt .opn)))
   refine wp_seq ?_
   refine wN hs hI [] 750 [] .norm [(1, .ptr 1000 0), (2, .ptr 1001 0), (4, .ptr 4002 0)] [(1000, .var [vi pq.lang, .row .opn pq.ops, vi pq.value.kind, vb pq.value.b, vb pq.value.n.neg, rwU pq.value.n.m, vi pq.value.n.e, vs pq.value.s, rwS pq.value.k, rwT pq.value.v, .row .strs pq.mask]), (1001, .var zTr), (4002, .var [vi 6, vb false, vb false, nilv, vi 0, vs (ba []), nilv, nilv])] tv fun a w hs => ?_
   refine then_norm ?_
   refine wp_seq ?_
   refine wN hs hI [] 487500 [] .norm [(2, .ptr 1001 0), (4, .ptr 4002 0), (19, .row .opn pq.ops), (20, vi (pq.ops.length : Int)), (21, vi 0)] [(1001, .var zTr), (4002, .var [vi 6, vb false, vb false, nilv, vi 0, vs (ba []), nilv, nilv])] tv fun a w hs => ?_
   refine then_norm ?_
   refine wp_block ?_
   refine loop_L (N := Tryz.f14.ntmps) (w0 := w0) (ow := noO fz) (α := Nat) (fun p => [(2, .ptr 1001 0), (4, .ptr 90000001 0), (19, .row .opn pq.ops), (20, vi (pq.ops.length : Int)), (21, vi (p : Int))]) (fun p => [(1001, .var zTr), (90000001, .var [vi 6, vb false, vb false, nilv, vi 0, vs (ba []), nilv, .own 90000002]), (90000002, .sl 29 .tree ((pq.ops.take p).map objT))]) (fun p => p ≤ pq.ops.length) (fun p => pq.ops.length - p) 0 ?_ ?_ ?_
   ·exact Nat.zero_le _
   ·(have hs := (hs.nilB 10000005 4002 7 29 .tree [vi 6, vb false, vb false, nilv, vi 0, vs (ba []), nilv, nilv] (by kernel_rfl) (by kernel_rfl) (by decide) (by decide) (by kernel_rfl) (by kernel_rfl)).rmT [(2, .ptr 1001 0), (4, .ptr 4002 0), (19, .row .opn pq.ops), (20, vi (pq.ops.length : Int)), (21, vi 0)] [(1001, .var zTr), (4002, .var [vi 6, vb false, vb false, nilv, vi 0, vs (ba []), nilv, .own 10000005]), (10000005, .sl 29 .tree ([]))] [(1001, 1001), (4002, 4002), (10000005, 10000005)] (by kernel_rfl); exact (hs.cst [(2, .ptr 1001 0), (4, .ptr 4002 0), (19, .row .opn pq.ops), (20, vi (pq.ops.length : Int)), (21, vi ((0 : Nat) : Int))] [(1001, .var zTr), (4002, .var [vi 6, vb false, vb false, nilv, vi 0, vs (ba []), nilv, .own 10000005]), (10000005, .sl 29 .tree ((pq.ops.take 0).map objT))] rfl).rm [(1001, 1001), (90000001, 4002), (90000002, 10000005)] (by kernel_rfl))
   rintro i hJ a w hs
   have hi := hJ
   have htk := take_map_len (f := objT) hi
   rcases bt (decide ((i : Int) < (pq.ops.length : Int))) with b3 | b3
   ·skip
    have n3 := of_decide_eq_true b3
    refine wL hs hI [(10, ⟨[(3, ciV 55 [.agg (enc .opn (pq.ops.getD i (dflt .opn)))] (aTr ((objT (pq.ops.getD i (dflt .opn))))))], [], []⟩)] [true] 11365307727813922889697300275 [ty b3, 0 ≤ (i : Int) ∧ (i : Int) < pq.ops.length, ((((pq.ops.take i).map objT).length + 1) * 120 : Nat) ≤ 140737488355328 ∧ ((pq.ops.take i).map objT).length + 1 ≤ 140737488355328, InR .i64 ((i : Int) + 1)] .norm [(2, .ptr 1001 0), (4, .ptr 90000001 0), (19, .row .opn pq.ops), (20, vi (pq.ops.length : Int)), (21, vi ((i : Int) + 1))] [(1001, .var zTr), (11005, .sl 29 .tree (((pq.ops.take i).map objT) ++ ([(Tree.et (objT (pq.ops.getD i (dflt .opn))))]))), (90000001, .var [vi 6, vb false, vb false, nilv, vi 0, vs (ba []), nilv, .own 11005])] ⟨⟨⟨ent55, con55 _ (hone i (by omega)).1 (by have := (hone i (by omega)).2.1.1; omega) (by have := (hone i (by omega)).2.2.1; omega) (hone i (by omega)).2.1.2 (hone i (by omega)).2.2.2⟩, tv⟩, tv⟩ ⟨b3, (by omega), (by omega), (inR64 (by omega) (by omega)), tv⟩ fun a w hs => ?_
    refine then_norm ⟨i + 1, by omega, by omega, ?_⟩
    (have e0_ : ((i : Int) + 1) = ((((i + 1) : Nat) : Int)) := (by first | rfl | (omega)); have e1_ : (((pq.ops.take i).map objT) ++ ([(Tree.et (objT (pq.ops.getD i (dflt .opn))))])) = (((pq.ops.take (i + 1)).map objT)) := (by first | exact take_map_succ (f := objT) (by omega) (dflt .opn) | (rw [Tree.eta']; exact take_map_succ (f := objT) (by omega) (dflt .opn))); exact (hs.cst [(2, .ptr 1001 0), (4, .ptr 90000001 0), (19, .row .opn pq.ops), (20, vi (pq.ops.length : Int)), (21, vi (((i + 1) : Nat) : Int))] [(1001, .var zTr), (11005, .sl 29 .tree ((pq.ops.take (i + 1)).map objT)), (90000001, .var [vi 6, vb false, vb false, nilv, vi 0, vs (ba []), nilv, .own 11005])] (by first | (rw [e0_, e1_]; done) | (simp only [e0_, e1_]; done) | rfl | (simp only [e0_, e1_]; rfl))).rm [(1001, 1001), (90000001, 90000001), (90000002, 11005)] (by kernel_rfl))
   ·skip
    have n3 := of_decide_eq_false b3
    refine wN hs hI [false] 19025 [ty b3] (.exit 1) [(2, .ptr 1001 0), (4, .ptr 90000001 0)] [(1001, .var zTr), (90000001, .var [vi 6, vb false, vb false, nilv, vi 0, vs (ba []), nilv, .own 90000002]), (90000002, .sl 29 .tree ((pq.ops.take i).map objT))] ⟨b3, tv⟩ fun a w hs => ?_
    refine then_exit ?_
    refine inb_hit ?_
    refine inb_norm ?_
    refine then_norm ?_
    rcases bt (validT (Tree.mk 6 false ⟨false, [], 0⟩ (ba []) ([]) ((pq.ops.take i).map objT))) with b4 | b4
    ·skip
     refine wL hs hI [(14, ⟨[(1, ciA 57 [aTr ((Tree.mk 6 false ⟨false, [], 0⟩ (ba []) ([]) ((pq.ops.take i).map objT)))] [90000002] [] (.val (vb (validT (Tree.mk 6 false ⟨false, [], 0⟩ (ba []) ([]) ((pq.ops.take i).map objT))))))], [], []⟩)] [false] 115386974785015 [ty (ng1 b4)] .ret [(2, .ptr 1001 0), (3, vi 0)] [(1001, .var [vi 6, vb false, vb false, nilv, vi 0, vs (ba []), nilv, .own 90000002]), (90000002, .sl 29 .tree ((pq.ops.take i).map objT))] ⟨⟨⟨ent57, con57 _ (by first | exact hv | ((try simp only [Tree.eta']); exact fine_pair hv) | (exact fine_arr (l := pq.ops.take i) (by rw [List.length_take]; omega) (fun x hx => hops x (List.mem_of_mem_take hx))))⟩, tv⟩, tv⟩ ⟨(ng1 b4), tv⟩ fun a w hs => ?_
     exact rK (.val (.tup [.agg [vi 6, vb false, vb false, rwU ([]), vi 0, vs (ba []), rwS ([]), rwT ((pq.ops.take i).map objT)], vi 0])) [90000002] hs (by obtain rfl : i = pq.ops.length := (by omega); rw [List.take_length] at *; have hw : wT pq = arrT (pq.ops.map objT) := (by rw [wT, if_pos (show (pq.lang == 1) = true from b2)]); have hva : validT (arrT (pq.ops.map objT)) = true := (by have h9 := b4; (try simp only [Tree.eta'] at h9); exact h9); rw [WriteR, if_pos b1, hw, if_pos hva] <;> first | rfl | (simp only [Tree.eta']; rfl))
    ·skip
     refine wL hs hI [(14, ⟨[(1, ciA 57 [aTr ((Tree.mk 6 false ⟨false, [], 0⟩ (ba []) ([]) ((pq.ops.take i).map objT)))] [90000002] [] (.val (vb (validT (Tree.mk 6 false ⟨false, [], 0⟩ (ba []) ([]) ((pq.ops.take i).map objT))))))], [], []⟩)] [true] 4737793144390 [ty (ng0 b4)] .ret [(2, .ptr 1001 0), (3, vi 4)] [(1001, .var zTr)] ⟨⟨⟨ent57, con57 _ (by first | exact hv | ((try simp only [Tree.eta']); exact fine_pair hv) | (exact fine_arr (l := pq.ops.take i) (by rw [List.length_take]; omega) (fun x hx => hops x (List.mem_of_mem_take hx))))⟩, tv⟩, tv⟩ ⟨(ng0 b4), tv⟩ fun a w hs => ?_
     exact rK (.val (.tup [.agg [vi 0, vb false, vb false, rwU ([]), vi 0, vs (ba []), rwS ([]), rwT ([])], vi 4])) [] hs (by obtain rfl : i = pq.ops.length := (by omega); rw [List.take_length] at *; have hw : wT pq = arrT (pq.ops.map objT) := (by rw [wT, if_pos (show (pq.lang == 1) = true from b2)]); have hva : validT (arrT (pq.ops.map objT)) = false := (by have h9 := b4; (try simp only [Tree.eta'] at h9); exact h9); rw [WriteR, if_pos b1, hw, if_neg (by rw [hva]; decide)] <;> first | rfl | (simp only [Tree.eta']; rfl))
  ·have b5 := hb
   clear hb
   have n5 := beq_eq_false_iff_ne.1 b5
   rcases bt (pq.lang == 3) with b6 | b6
   ·skip
    have n6 := eq_of_beq b6
    refine wL hs hI [(13, ⟨[(3, ciV 41 [.row .strs pq.mask] (vs (textF pq.mask))), (4, ciV 56 [vs (textF pq.mask)] (aTr ((textT (textF pq.mask)))))], [], []⟩)] [true] 46566128540074225750 [ty b6] .norm [(2, .ptr 1001 0), (4, .ptr 4002 0)] [(1001, .var zTr), (4002, .var [vi 7, vb false, vb false, nilv, vi 0, vs (ba []), .own 14000, .own 14007]), (14000, .sl 9 .str ([(ba [109, 97, 115, 107]), (ba [118, 97, 108, 117, 101])])), (14007, .sl 29 .tree ([(Tree.et (textT (textF pq.mask))), (Tree.et pq.value)]))] ⟨⟨⟨ent41, con41 _ hms (by omega)⟩, ⟨ent56, con56 _⟩, tv⟩, tv⟩ ⟨b6, tv⟩ fun a w hs => ?_
    refine inb_norm ?_
    refine then_norm ?_
    rcases bt (validT (Tree.mk 7 false ⟨false, [], 0⟩ (ba []) ([(ba [109, 97, 115, 107]), (ba [118, 97, 108, 117, 101])]) ([(Tree.et (textT (textF pq.mask))), (Tree.et pq.value)]))) with b7 | b7
    ·skip
     refine wL hs hI [(14, ⟨[(1, ciA 57 [aTr ((Tree.mk 7 false ⟨false, [], 0⟩ (ba []) ([(ba [109, 97, 115, 107]), (ba [118, 97, 108, 117, 101])]) ([(Tree.et (textT (textF pq.mask))), (Tree.et pq.value)])))] [14000, 14007] [] (.val (vb (validT (Tree.mk 7 false ⟨false, [], 0⟩ (ba []) ([(ba [109, 97, 115, 107]), (ba [118, 97, 108, 117, 101])]) ([(Tree.et (textT (textF pq.mask))), (Tree.et pq.value)]))))))], [], []⟩)] [false] 115386974785015 [ty (ng1 b7)] .ret [(2, .ptr 1001 0), (3, vi 0)] [(1001, .var [vi 7, vb false, vb false, nilv, vi 0, vs (ba []), .own 14000, .own 14007]), (14000, .sl 9 .str ([(ba [109, 97, 115, 107]), (ba [118, 97, 108, 117, 101])])), (14007, .sl 29 .tree ([(Tree.et (textT (textF pq.mask))), (Tree.et pq.value)]))] ⟨⟨⟨ent57, con57 _ (by first | exact hv | ((try simp only [Tree.eta']); exact fine_pair hv) | (exact fine_arr (l := pq.ops.take i) (by rw [List.length_take]; omega) (fun x hx => hops x (List.mem_of_mem_take hx))))⟩, tv⟩, tv⟩ ⟨(ng1 b7), tv⟩ fun a w hs => ?_
     exact rK (.val (.tup [.agg [vi 7, vb false, vb false, rwU ([]), vi 0, vs (ba []), rwS ([(ba [109, 97, 115, 107]), (ba [118, 97, 108, 117, 101])]), rwT ([(Tree.et (textT (textF pq.mask))), (Tree.et pq.value)])], vi 0])) [14000, 14007] hs (by have hw : wT pq = pairT (textF pq.mask) pq.value := (by rw [wT, if_neg (show ¬ (pq.lang == 1) = true by rw [b5]; decide), if_pos (show (pq.lang == 3) = true from b6)]); have hva : validT (pairT (textF pq.mask) pq.value) = true := (by have h9 := b7; (try simp only [Tree.eta'] at h9); exact h9); rw [WriteR, if_pos b1, hw, if_pos hva] <;> first | rfl | (simp only [Tree.eta']; rfl))
    ·skip
     refine wL hs hI [(14, ⟨[(1, ciA 57 [aTr ((Tree.mk 7 false ⟨false, [], 0⟩ (ba []) ([(ba [109, 97, 115, 107]), (ba [118, 97, 108, 117, 101])]) ([(Tree.et (textT (textF pq.mask))), (Tree.et pq.value)])))] [14000, 14007] [] (.val (vb (validT (Tree.mk 7 false ⟨false, [], 0⟩ (ba []) ([(ba [109, 97, 115, 107]), (ba [118, 97, 108, 117, 101])]) ([(Tree.et (textT (textF pq.mask))), (Tree.et pq.value)]))))))], [], []⟩)] [true] 4737793144390 [ty (ng0 b7)] .ret [(2, .ptr 1001 0), (3, vi 4)] [(1001, .var zTr)] ⟨⟨⟨ent57, con57 _ (by first | exact hv | ((try simp only [Tree.eta']); exact fine_pair hv) | (exact fine_arr (l := pq.ops.take i) (by rw [List.length_take]; omega) (fun x hx => hops x (List.mem_of_mem_take hx))))⟩, tv⟩, tv⟩ ⟨(ng0 b7), tv⟩ fun a w hs => ?_
     exact rK (.val (.tup [.agg [vi 0, vb false, vb false, rwU ([]), vi 0, vs (ba []), rwS ([]), rwT ([])], vi 4])) [] hs (by have hw : wT pq = pairT (textF pq.mask) pq.value := (by rw [wT, if_neg (show ¬ (pq.lang == 1) = true by rw [b5]; decide), if_pos (show (pq.lang == 3) = true from b6)]); have hva : validT (pairT (textF pq.mask) pq.value) = false := (by have h9 := b7; (try simp only [Tree.eta'] at h9); exact h9); rw [WriteR, if_pos b1, hw, if_neg (by rw [hva]; decide)] <;> first | rfl | (simp only [Tree.eta']; rfl))
   ·skip
    have n6 := beq_eq_false_iff_ne.1 b6
    refine wN hs hI [false] 475750 [ty b6] .norm [(2, .ptr 1001 0), (4, .ptr 4002 0)] [(1001, .var zTr), (4002, bTr (pq.value))] ⟨b6, tv⟩ fun a w hs => ?_
    refine inb_norm ?_
    refine then_norm ?_
    rcases bt (validT pq.value) with b8 | b8
    ·skip
     refine wL hs hI [(14, ⟨[(1, ciV 57 [aTr (pq.value)] (vb (validT pq.value)))], [], []⟩)] [false] 115386974785015 [ty (ng1 b8)] .ret [(2, .ptr 1001 0), (3, vi 0)] [(1001, bTr (pq.value))] ⟨⟨⟨ent57, con57 _ (by first | exact hv | ((try simp only [Tree.eta']); exact fine_pair hv) | (exact fine_arr (l := pq.ops.take i) (by rw [List.length_take]; omega) (fun x hx => hops x (List.mem_of_mem_take hx))))⟩, tv⟩, tv⟩ ⟨(ng1 b8), tv⟩ fun a w hs => ?_
     exact rK (.val (.tup [aTr (pq.value), vi 0])) [] hs (by have hw : wT pq = pq.value := (by rw [wT, if_neg (show ¬ (pq.lang == 1) = true by rw [b5]; decide), if_neg (show ¬ (pq.lang == 3) = true by rw [b6]; decide)]); have hva : validT (pq.value) = true := (by have h9 := b8; (try simp only [Tree.eta'] at h9); exact h9); rw [WriteR, if_pos b1, hw, if_pos hva] <;> first | rfl | (simp only [Tree.eta']; rfl))
    ·skip
     refine wL hs hI [(14, ⟨[(1, ciV 57 [aTr (pq.value)] (vb (validT pq.value)))], [], []⟩)] [true] 4737793144390 [ty (ng0 b8)] .ret [(2, .ptr 1001 0), (3, vi 4)] [(1001, .var zTr)] ⟨⟨⟨ent57, con57 _ (by first | exact hv | ((try simp only [Tree.eta']); exact fine_pair hv) | (exact fine_arr (l := pq.ops.take i) (by rw [List.length_take]; omega) (fun x hx => hops x (List.mem_of_mem_take hx))))⟩, tv⟩, tv⟩ ⟨(ng0 b8), tv⟩ fun a w hs => ?_
     exact rK (.val (.tup [.agg [vi 0, vb false, vb false, rwU ([]), vi 0, vs (ba []), rwS ([]), rwT ([])], vi 4])) [] hs (by have hw : wT pq = pq.value := (by rw [wT, if_neg (show ¬ (pq.lang == 1) = true by rw [b5]; decide), if_neg (show ¬ (pq.lang == 3) = true by rw [b6]; decide)]); have hva : validT (pq.value) = false := (by have h9 := b8; (try simp only [Tree.eta'] at h9); exact h9); rw [WriteR, if_pos b1, hw, if_neg (by rw [hva]; decide)] <;> first | rfl | (simp only [Tree.eta']; rfl))
 ·skip
  refine wL hs hI [(1, ⟨[(1, ciV 51 [.agg [vi pq.lang, .row .opn pq.ops, vi pq.value.kind, vb pq.value.b, vb pq.value.n.neg, rwU pq.value.n.m, vi pq.value.n.e, vs pq.value.s, rwS pq.value.k, rwT pq.value.v, .row .strs pq.mask]] (vb (checkP pq)))], [], []⟩)] [true] 4737793144390 [ty (ng0 b1)] .ret [(2, .ptr 1001 0), (3, vi 1)] [(1001, .var zTr)] ⟨⟨⟨ent51, con51 _ hv hms hml hops hol⟩, tv⟩, tv⟩ ⟨(ng0 b1), tv⟩ fun a w hs => ?_
  refine then_ret ?_
  exact rK (.val (.tup [.agg [vi 0, vb false, vb false, rwU ([]), vi 0, vs (ba []), rwS ([]), rwT ([])], vi 1])) [] hs (by rw [WriteR, if_neg (by rw [b1]; decide)]; rfl)
abbrev thrown (v : Value) : PanicEntry := { v, recovered := false }
abbrev caught (v : Value) : PanicEntry := { v, recovered := true }
def CloD (P : Program) (I : World → Prop) (f : FuncId) (args : List AV) (v : Value) (bi bo : BL) : Prop :=
 ∀ (w : World) (fz : Nat → Prop) (η : Nat → Option Value) (vs : Array Value), (∀ w', Fr (ownB fz η) w w' → I w') → (∀ k, fz k → k < w.heap.size) → (∀ b u, η b = some u → (lkp bi b).isSome = true) → (∀ b B, lkp bi b = some B → ∃ u, η b = some u ∧ BoxR w fz η u B) →
  (∀ b u k, η b = some u → blk u = some k → k < w.heap.size ∧ ¬ fz k) → (∀ b b' u u' k, η b = some u → η b' = some u' → blk u = some k → blk u' = some k → b = b') → RL w fz η vs args →
  CallsD P f vs (.panicking [thrown v]) w fun e u' w' => u' = .panicking [caught v] ∧ PostB w fz η bi w' e (.val (.tup [])) bo
def CloI (P : Program) (I : World → Prop) (f : FuncId) (n : Nat) : Prop :=
 ∀ (w : World) (vs : Array Value), (∀ w', Below w.heap.size w w' → I w') → vs.size = n → CallsD P f vs .returning w fun e u' w' => (∃ v, e = .returned v) ∧ u' = .returning ∧ Below w.heap.size w w'
def dO (fz : Nat → Prop) (us : List Value) (d : Deferred) : Own := ⟨fun _ => False, fz, fun b => if 900 ≤ b ∧ b < 1000 then us[b - 900]? else none, [d]⟩
def FnD (P : Program) (fn : Func) (w0 : World) (fz : Nat → Prop) (out : COut) : Exit → Act → World → Prop := bodyPostD P fn (fun e w' => Post w0 fz w' e out ∧ Below w0.heap.size w0 w')
def DefOk (P : Program) (f : FuncId) (us : List Value) (d : Deferred) : Prop := (∃ fv cap, d.target = .fn fv cap) ∧ ∀ w, (invoke d.target d.args).run P w = .ok (.enter f us.toArray) w
section
variable {P : Program} {I : World → Prop} {w w' w0 : World} {fz : Nat → Prop} {N : Nat} {T : TL} {B : BL} {a : Act}
theorem rec_region {Q : Exit → Act → List Frame → World → Prop} {id : Nat} {o1 o2 : Oper} {t5 t2 : Nat} {cs cs' : List Frame} {v : Value} (h1 : o1.op = .call { callee := .builtin .recover, args := #[], argTypes := #[] }) (d1 : o1.dst = some t5) (g1 : o1.guard = none)
  (h2 : o2.op = .assign (.tmp t5)) (d2 : o2.dst = some t2) (g2 : o2.guard = none) (hl : t5 < a.tmps.size) (hr : (match recoverD cs with | some p => p | none => (Value.nilIface, cs)) = (v, cs')) (hk : Q .normal ((a.put (some t5) v).put (some t2) v) cs' w) : (Code.region id #[o1, o2] false).wpS P Q a cs w := by
 refine wpS_region ?_
 show wpOpsS P #[o1, o2] Q [0, 1] a cs w
 have e1 : (execOp a.eval o1).run P w = .ok .recover w := by simp [execOp, h1, resolve, invoke, builtin]
 have e2 : (execOp (a.put (some t5) v).eval o2).run P w = .ok (.value v) w := by
  have hv : (a.put (some t5) v).eval (.tmp t5) = v := by simp [Act.eval, Act.put, hl]
  simp [execOp, h2, hv]
 have two : ∀ cs2, Q .normal ((a.put (some t5) v).put (some t2) v) cs2 w → wpOpsS P #[o1, o2] Q [1] (a.put (some t5) v) cs2 w := by
  intro cs2 hq
  rw [wpOpsS]
  rw [show (#[o1, o2] : Array Oper)[1]? = some o2 from rfl]
  simp only
  rw [if_pos (by simp [Region.wanted, g2]), e2]
  simp only [Oper.upon, d2]
  exact hq
 rw [wpOpsS]
 rw [show (#[o1, o2] : Array Oper)[0]? = some o1 from rfl]
 simp only
 rw [if_pos (by simp [Region.wanted, g1]), e1]
 simp only [d1]
 split
 ·rename_i v1 cs1 hrec
  rw [hrec] at hr
  simp only [Prod.mk.injEq] at hr
  obtain ⟨rfl, rfl⟩ := hr
  exact two cs1 hk
 ·rename_i hrec
  rw [hrec] at hr
  simp only [Prod.mk.injEq] at hr
  obtain ⟨rfl, rfl⟩ := hr
  exact two _ hk
theorem lkp_upd2 {T : TL} {t5 t2 : Nat} {v : Value} : upd (upd (lkp T) (some t5) (some (.lit v))) (some t2) (some (.lit v)) = lkp ((t2, .lit v) :: (t5, .lit v) :: T) := by
 funext t
 simp only [upd, lkp, Option.some.injEq]
 by_cases h2 : t = t2
 ·simp [h2]
 ·rw [if_neg (fun h => h2 h.symm), if_neg h2]
  by_cases h5 : t = t5
  ·simp [h5]
  ·rw [if_neg (fun h => h5 h.symm), if_neg h5]
theorem cloD_of {f : FuncId} {fn : Func} {c : Code} {id : Nat} {o1 o2 : Oper} {t5 t2 : Nat} {args : List AV} {v : Value} {bi bo : BL} (hf : P.funcs[f]? = some fn) (hb : fn.body = some (.seq (.region id #[o1, o2] false) c)) (h1 : o1.op = .call { callee := .builtin .recover, args := #[], argTypes := #[] }) (d1 : o1.dst = some t5) (g1 : o1.guard = none)
  (h2 : o2.op = .assign (.tmp t5)) (d2 : o2.dst = some t2) (g2 : o2.guard = none) (hN : args.length ≤ fn.ntmps) (h5 : t5 < fn.ntmps) (h2n : t2 < fn.ntmps) (hk : (bi.map (·.1)).all (· < 1000) = true)
  (h : ∀ (w0 : World) (fz : Nat → Prop) (η : Nat → Option Value) (a : Act), (∀ w', Fr (ownB fz η) w0 w' → I w') → SimL fn.ntmps w0 (ownB fz η) ((t2, .lit v) :: (t5, .lit v) :: num 0 args) bi a w0 → c.wp P (FnQB P fn w0 fz η bi (.val (.tup [])) bo) a w0) : CloD P I f args v bi bo := by
 intro w fz η vs hI hfz hd hbx hnew hap hR
 have hun : ∀ k, fz k → k < w.heap.size → Fz (Amb w (ownB fz η)) η k := fun k h1 _ => ⟨.inl h1, fun b u hb hk => (hnew b u k hb hk).2 h1⟩
 have s0 : Sim fn.ntmps w (ownB fz η) η (lkp (num 0 args)) (lkp bi) { tmps := vs ++ Array.replicate (fn.ntmps - vs.size) undef, defers := [] } w := by
  refine ⟨?_, rfl, Fr.refl _ _, fun t av ht => ?_, fun b B h => ?_, fun b u k h1 h2 => ⟨(hnew b u k h1 h2).1, .inr ⟨b, u, h1, h2⟩⟩, hap, fun b u u' h1 h2 => ?_, fun b u h => ?_⟩
  ·have := hR.1; simp; omega
  ·obtain ⟨_, h1⟩ := num_at ht
   rw [Nat.sub_zero] at h1
   have hlt : t < vs.size := by have := (List.getElem?_eq_some_iff.1 h1).1; have := hR.1; omega
   refine ⟨vs[t], ?_, ?_⟩
   ·show (vs ++ Array.replicate (fn.ntmps - vs.size) undef)[t]? = some vs[t]
    rw [Array.getElem?_append_left hlt]; exact Array.getElem?_eq_getElem hlt
   ·exact (hR.2 t _ av (Array.getElem?_eq_getElem hlt) h1).step (Nat.le_refl _) (fun _ _ _ => rfl) hun (fun b u _ h => h)
  ·obtain ⟨u, hu, hr⟩ := hbx b B h
   exact ⟨u, hu, BoxR_up hun (fun _ _ _ h => h) hr⟩
  ·have h1' : η b = some u := h1
   rw [h2] at h1'; injection h1'
  ·obtain ⟨X, hX⟩ := Option.isSome_iff_exists.1 (hd b u h)
   have := List.all_eq_true.1 hk b (List.mem_map.2 ⟨(b, X), lkp_mem hX, rfl⟩)
   simpa using this
 have s1 := (s0.put (d := some t5) (v := v) (av := some (.lit v)) (fun t ht => by injection ht with ht; omega) (fun x hx => by injection hx with hx; subst hx; exact .lit _)).put (d := some t2) (v := v) (av := some (.lit v)) (fun t ht => by injection ht with ht; omega) (fun x hx => by injection hx with hx; subst hx; exact .lit _)
 rw [lkp_upd2] at s1
 have hw := h w fz η _ hI ⟨η, s1⟩
 refine callsD_of_wpS hf hb fun c₀ cs hu => ?_
 refine wpS_seq (rec_region h1 d1 g1 h2 d2 g2 (by rw [s0.size]; exact h5) (v := v) (cs' := { c₀ with mode := .panicking [caught v] } :: cs) (by simp only [recoverD, hu]) ?_)
 refine wpS_of_wp (wp_mono hw (fun e a w' he => ?_))
 cases e with
 | normal => exact ⟨he.1, _, rfl, he.2.elim fun x hx => ⟨x, hx.1, rfl, hx.2⟩⟩
 | ret => exact ⟨he.1, _, rfl, he.2.elim fun x hx => ⟨x, hx.1, rfl, hx.2⟩⟩
 | panic ch => exact ⟨he.1, _, rfl, rfl, he.2⟩
 | outgrown => exact ⟨_, rfl, he⟩
 | exit id => exact he
 | goto l => exact he
theorem cloI_of {f : FuncId} {fn : Func} {c : Code} {id n : Nat} {o1 o2 : Oper} {t5 t2 : Nat} (hf : P.funcs[f]? = some fn) (hb : fn.body = some (.seq (.region id #[o1, o2] false) c)) (h1 : o1.op = .call { callee := .builtin .recover, args := #[], argTypes := #[] }) (d1 : o1.dst = some t5) (g1 : o1.guard = none)
  (h2 : o2.op = .assign (.tmp t5)) (d2 : o2.dst = some t2) (g2 : o2.guard = none) (hN : n ≤ fn.ntmps) (h5 : t5 < fn.ntmps) (h2n : t2 < fn.ntmps)
  (h : ∀ (w0 : World) (fz : Nat → Prop) (a : Act), (∀ w', Fr (noO fz) w0 w' → I w') → SimL fn.ntmps w0 (noO fz) [(t2, .lit .nilIface), (t5, .lit .nilIface)] [] a w0 → c.wp P (FnQ P fn w0 (noO fz) (.val (.tup []))) a w0) : CloI P I f n := by
 intro w vs hI hn
 have s0 : Sim fn.ntmps w (noO fun _ => False) noη (lkp []) (lkp []) { tmps := vs ++ Array.replicate (fn.ntmps - vs.size) undef, defers := [] } w :=
  ⟨by simp; omega, rfl, Fr.refl _ _, (fun t av ht => by cases ht), (fun b B h => by cases h), (fun b u k h => by cases h), (fun b b' u u' k h => by cases h), (fun b u u' h => by cases h), (fun b u h => by cases h)⟩
 have s1 := (s0.put (d := some t5) (v := .nilIface) (av := some (.lit .nilIface)) (fun t ht => by injection ht with ht; omega) (fun x hx => by injection hx with hx; subst hx; exact .lit _)).put (d := some t2) (v := .nilIface) (av := some (.lit .nilIface)) (fun t ht => by injection ht with ht; omega) (fun x hx => by injection hx with hx; subst hx; exact .lit _)
 rw [lkp_upd2] at s1
 have hw := h w (fun _ => False) _ (fun w' hfr => hI w' (hfr.below (fun _ h => h))) ⟨noη, s1⟩
 refine callsD_of_wpS hf hb fun c₀ cs hu => ?_
 refine wpS_seq (rec_region h1 d1 g1 h2 d2 g2 (by rw [s0.size]; exact h5) (v := .nilIface) (cs' := c₀ :: cs) (by simp only [recoverD, hu]) ?_)
 have hc : ({ c₀ with mode := .returning } : Frame) = c₀ := by cases c₀; simp only at hu; subst hu; rfl
 refine wpS_of_wp (wp_mono hw (fun e a w' he => ?_))
 cases e with
 | normal => exact ⟨he.1, .returning, by rw [hc], he.2.elim fun x hx => ⟨x, hx.1, ⟨x, rfl⟩, rfl, hx.2.2⟩⟩
 | ret => exact ⟨he.1, .returning, by rw [hc], he.2.elim fun x hx => ⟨x, hx.1, ⟨x, rfl⟩, rfl, hx.2.2⟩⟩
 | panic ch => obtain ⟨_, ⟨x, hx, _⟩, _⟩ := he; cases hx
 | outgrown => obtain ⟨⟨x, hx, _⟩, _⟩ := he; cases hx
 | exit id => exact he
 | goto l => exact he
theorem con_ofD {f : FuncId} {fn : Func} {c : Code} {args : List AV} {out : COut} (hf : P.funcs[f]? = some fn) (hb : fn.body = some c) (hN : args.length ≤ fn.ntmps) (hI0 : ∀ w w', I w → Below w.heap.size w w' → I w')
  (h : ∀ (w0 : World) (fz : Nat → Prop) (a : Act), (∀ w', Fr (noO fz) w0 w' → I w') → SimL fn.ntmps w0 (noO fz) (num 0 args) [] a w0 → c.wp P (FnD P fn w0 fz out) a w0) : Con P I f args out := by
 intro w fz vs hI hfz hR
 refine calls_of_wp_defers hf hb (h w fz _ (fun w' hfr => hI0 w w' hI (hfr.below (fun _ h => h))) ⟨noη, ?_⟩)
 refine ⟨?_, rfl, Fr.refl _ _, fun t av ht => ?_, (fun b B h => by cases h), (fun b u k h => by cases h), (fun b b' u u' k h => by cases h), (fun b u u' h => by cases h), (fun b u h => by cases h)⟩
 ·have := hR.1; simp; omega
 ·obtain ⟨_, h1⟩ := num_at ht
  rw [Nat.sub_zero] at h1
  have hlt : t < vs.size := by have := (List.getElem?_eq_some_iff.1 h1).1; have := hR.1; omega
  refine ⟨vs[t], ?_, ?_⟩
  ·show (vs ++ Array.replicate (fn.ntmps - vs.size) undef)[t]? = some vs[t]
   rw [Array.getElem?_append_left hlt]; exact Array.getElem?_eq_getElem hlt
  ·exact (hR.2 t _ av (Array.getElem?_eq_getElem hlt) h1).step (Nat.le_refl _) (fun _ _ _ => rfl) (fun k hk _ => ⟨.inl hk, fun b u h => by cases h⟩) (fun b u _ h => h)
end
def isLit : AV → Bool
 | .lit _ => true
 | _ => false
def isJunk : AV → Bool
 | .junk => true
 | _ => false
def biOk (bi B : BL) : Bool := bi.all fun p => match p.2, lkp B (900 + p.1) with
 | .var l, some (.var m) => l.all isJunk && m.length == l.length
 | _, _ => false
def boOk (n : Nat) (bo : BL) : Bool := bo.all fun p => decide (p.1 < n) && (match p.2 with
 | .var l => l.all isLit
 | _ => false)
def up9 (bo : BL) : BL := bo.map fun p => (900 + p.1, p.2)
def isPtr9 (n : Nat) : AV → Bool
 | .ptr b _ => decide (900 ≤ b) && decide (b < 900 + n)
 | _ => false
theorem lkp_up9 : ∀ {bo : BL} {b : Nat} {X : Box}, lkp (up9 bo) b = some X → 900 ≤ b ∧ lkp bo (b - 900) = some X
 | [], b, X, h => by cases h
 | (i, Y) :: bo, b, X, h => by
  simp only [up9, List.map_cons, lkp] at h
  split at h
  ·rename_i e
   subst e
   refine ⟨by omega, ?_⟩
   simp only [lkp]
   rw [if_pos (by omega)]; exact h
  ·rename_i e
   obtain ⟨h1, h2⟩ := lkp_up9 (bo := bo) h
   refine ⟨h1, ?_⟩
   simp only [lkp]
   rw [if_neg (by omega)]; exact h2
section
variable {P : Program} {I : World → Prop} {w w' w0 : World} {fz : Nat → Prop} {N : Nat} {T : TL} {B : BL} {a : Act} {ow : Own}
theorem ret_core {fn : Func} {out : COut} (del : List Nat) (hs : SimL N w0 ow T B a w) (ho : ∀ k, ¬ ow.o k) (h : retOk P fn T B del out) : ∃ v, (results fn a.tmps).run P w = .ok v w ∧ Post w0 ow.f w (.returned v) out ∧ Below w0.heap.size w0 w := by
 obtain ⟨η, s⟩ := hs
 have hbel : Below w0.heap.size w0 w := s.frame.below ho
 have amb : ∀ k, Amb w0 ow k → ow.f k ∨ w0.heap.size ≤ k := fun k hk => by
  rcases hk with h | h | h
  ·exact .inl h
  ·exact (ho k h).elim
  ·exact .inr h
 cases out with
 | val r =>
  obtain ⟨h1, h2⟩ := h
  rw [Option.map_eq_some_iff] at h1
  obtain ⟨x, hx, hr⟩ := h1
  obtain ⟨v, hrun, hR⟩ := resA_ok s hx
  refine ⟨v, hrun, ⟨v, rfl, ?_⟩, hbel⟩
  have h3 := R_fit2 (b := r) (R_frz2 s hR del)
  rw [hr] at h3
  exact h3.step (Nat.le_refl _) (fun _ _ _ => rfl) (fun k hk _ => amb k hk.1) (fun b u hb _ => by rw [ment_none h2] at hb; cases hb)
 | own e τ xs =>
  rcases h with ⟨b, h1, h2⟩ | ⟨h1, rfl⟩
  ·obtain ⟨v, hrun, hR⟩ := resA_ok s h1
   obtain ⟨u, hu, cs, q1, q2⟩ := s.dom b _ h2
   have hv := hR.own_inv hu
   subst hv
   refine ⟨v, hrun, ⟨v, rfl, fun k hk => ?_, cs, q1, fun i x j y hx hy => ?_⟩, hbel⟩
   ·obtain ⟨h3, h4⟩ := s.new b v k hu hk
    exact ⟨h4.resolve_right (ho k), h3⟩
   ·obtain ⟨vv, h3, h4⟩ := q2 i x j y hx hy
    exact ⟨vv, h3, h4.step (Nat.le_refl _) (fun _ _ _ => rfl) (fun k hk _ => ⟨amb k hk.1, fun he => hk.2 b v hu he⟩) (fun b u hb _ => by rw [enc_ment' hy] at hb; cases hb)⟩
  ·obtain ⟨v, hrun, hR⟩ := resA_ok s h1
   have hv := hR.lit_inv
   subst hv
   exact ⟨_, hrun, ⟨_, rfl, fun k hk => by simp [blk] at hk, [], World.ownsRow_nil w 0 e _, fun i x j y hx => by simp at hx⟩, hbel⟩
 | thr v => exact h.elim
theorem SimL.ren0 {T' : TL} {B' : BL} (hs : SimL N w0 (noO fz) T B a w) (ρ : List (Nat × Nat)) (hok : (injOk ρ && T'.all (fun p => plain ρ p.2) && B'.all (fun p => (lkp ρ p.1).isSome && plainB ρ p.2)) = true) (hT : T'.map (fun p => lkp T p.1) = T'.map (fun p => some (rn ρ p.2))) (hB : B'.map (fun p => lkp B (rnk ρ p.1)) = B'.map (fun p => some (rnB ρ p.2))) : SimL N w0 (noO fz) T' B' a w := by
 obtain ⟨η, s⟩ := hs
 simp only [Bool.and_eq_true] at hok
 obtain ⟨⟨h1, h2⟩, h3⟩ := hok
 have hinj : (ρ.map (·.2)).Nodup := by simpa [injOk] using h1
 have map_at : ∀ {α β : Type} (l : List (Nat × α)) (f g : Nat × α → β), l.map f = l.map g → ∀ p ∈ l, f p = g p := fun l f g h p hp => by
  induction l with
  | nil => simp at hp
  | cons q l ih =>
   simp only [List.map_cons, List.cons.injEq] at h
   rcases List.mem_cons.1 hp with rfl | hp
   ·exact h.1
   ·exact ih h.2 hp
 have sub : ∀ b u, rnη ρ η b = some u → ∃ c, lkp ρ b = some c ∧ η c = some u := fun b u h => by
  simp only [rnη] at h
  split at h
  ·rename_i c hc; exact ⟨c, hc, h⟩
  ·cases h
 have hf : ∀ k, Fz (Amb w0 (noO fz)) η k → k < w.heap.size → Fz (Amb w0 (noO fz)) (rnη ρ η) k := fun k hk _ => ⟨hk.1, fun b u hb => by
  obtain ⟨c, _, hc⟩ := sub b u hb
  exact hk.2 c u hc⟩
 refine ⟨rnη ρ η, s.size, s.nod, s.frame, fun t av ht => ?_, fun b Bx hBx => ?_, fun b u k hb hk => ?_, fun b b' u u' k hb hb' hk hk' => ?_, (fun b u u' hp hb => by cases hp), s.pinlt⟩
 ·have hm := lkp_mem ht
  have he := map_at T' _ _ hT (t, av) hm
  obtain ⟨v, hv, hr⟩ := s.tmp t _ he
  exact ⟨v, hv, R_rn hf (List.all_eq_true.1 h2 (t, av) hm) hr⟩
 ·have hm := lkp_mem hBx
  have he := map_at B' _ _ hB (b, Bx) hm
  have hp := List.all_eq_true.1 h3 (b, Bx) hm
  simp only [Bool.and_eq_true] at hp
  obtain ⟨c, hc⟩ := Option.isSome_iff_exists.1 hp.1
  have hrk : rnk ρ b = c := by simp [rnk, hc]
  simp only [hrk] at he
  obtain ⟨u, hu, hr⟩ := s.dom c _ he
  refine ⟨u, by simp [rnη, hc, hu], ?_⟩
  cases Bx with
  | any => exact hr
  | var l =>
   obtain ⟨g, C, e, rfl, q1, q2, q3⟩ := hr
   refine ⟨g, C, e, rfl, q1, by simpa using q2, fun j v x hv hx => ?_⟩
   exact R_rn1 hf (List.all_eq_true.1 hp.2 x (List.mem_of_getElem? hx)) (q3 j v _ hv (by rw [List.getElem?_map, hx]; rfl))
  | sl e τ xs =>
   obtain ⟨cs, q1, q2⟩ := hr
   refine ⟨cs, q1, fun i x j y hx hy => ?_⟩
   obtain ⟨v, hv, hr⟩ := q2 i x j y hx hy
   exact ⟨v, hv, hr.step (Nat.le_refl _) (fun _ _ _ => rfl) hf (fun b u hb _ => by rw [enc_ment' hy] at hb; cases hb)⟩
  | full e τ xs =>
   obtain ⟨⟨cs, q1, q2⟩, qc⟩ := hr
   refine ⟨⟨cs, q1, fun i x j y hx hy => ?_⟩, qc⟩
   obtain ⟨v, hv, hr⟩ := q2 i x j y hx hy
   exact ⟨v, hv, hr.step (Nat.le_refl _) (fun _ _ _ => rfl) hf (fun b u hb _ => by rw [enc_ment' hy] at hb; cases hb)⟩
 ·obtain ⟨c, _, hc⟩ := sub b u hb
  exact s.new c u k hc hk
 ·obtain ⟨c, hbc, hc⟩ := sub b u hb
  obtain ⟨c', hbc', hc'⟩ := sub b' u' hb'
  have := s.apart c c' u u' k hc hc' hk hk'
  subst this
  exact nodup_inj hinj hbc hbc'
theorem SimL.defer {d : Deferred} {us : List Value} {a' : Act} (hs : SimL N w0 (noO fz) T B a w) (n : Nat) (hn : us.length = n) (hu : ∀ i, i < n → ∃ x u, lkp T x = some (.ptr (900 + i) 0) ∧ us[i]? = some u ∧ a.tmps[x]? = some u) (hB : (List.range n).all (fun i => match lkp B (900 + i) with | some (.var _) => true | _ => false) = true)
  (hsz : a'.tmps.size = a.tmps.size) (hd : a'.defers = [d]) (ht : ∀ t av, lkp T t = some av → a'.tmps[t]? = a.tmps[t]?) : SimL N w0 (dO fz us d) T B a' w := by
 obtain ⟨η, s⟩ := hs
 have key : ∀ i, i < n → ∃ u, us[i]? = some u ∧ η (900 + i) = some u := fun i hi => by
  obtain ⟨x, u, hx, h1, h2⟩ := hu i hi
  have h3 := List.all_eq_true.1 hB i (by simp [hi])
  split at h3
  ·rename_i l hl
   obtain ⟨u', hu', g, C, e, rfl, _⟩ := s.dom _ _ hl
   obtain ⟨v, hv, hr⟩ := s.tmp x _ hx
   obtain ⟨g', hg, rfl⟩ := hr.ptr_inv hu'
   rw [h2] at hv
   injection hv with hv
   injection hg with hg
   injection hg with hg
   injection hg with hg
   subst hg hv
   exact ⟨_, h1, hu'⟩
  ·cases h3
 refine ⟨η, hsz.trans s.size, hd, ⟨s.frame.os, s.frame.tape, s.frame.output, s.frame.size, s.frame.block⟩, fun t av h => ?_, s.dom, s.new, s.apart, fun b u u' hp hb => ?_, fun b u hp => ?_⟩
 ·obtain ⟨v, hv, hr⟩ := s.tmp t av h
  exact ⟨v, by rw [ht t av h]; exact hv, hr⟩
 ·simp only [dO] at hp
  split at hp
  ·rename_i hb9
   have hlt : b - 900 < n := by have := (List.getElem?_eq_some_iff.1 hp).1; omega
   obtain ⟨u2, h1, h2⟩ := key (b - 900) hlt
   rw [show 900 + (b - 900) = b by omega, hb] at h2
   rw [hp] at h1
   injection h1 with h1
   injection h2 with h2
   rw [h1, h2]
  ·cases hp
 ·simp only [dO] at hp
  split at hp
  ·rename_i hb9; exact hb9.2
  ·cases hp
theorem defer_L {id t6 : Nat} {o1 o2 : Oper} {f : FuncId} {tys : Array TypeId} {Q : Exit → Act → World → Prop} (xs : List Nat) (hs : SimL N w0 (noO fz) T B a w) (hent : Ent P f) (h1 : o1.op = .makeFunc (.func f) #[] (xs.map Operand.tmp).toArray) (d1 : o1.dst = some t6) (g1 : o1.guard = none) (h2 : o2.op = .defer { callee := .value (.tmp t6), args := #[], argTypes := tys }) (d2 : o2.dst = none) (g2 : o2.guard = none)
  (h6 : t6 < N) (hx : xs.map (fun x => lkp T x) = (List.range xs.length).map (fun i => some (.ptr (900 + i) 0))) (hB : (List.range xs.length).all (fun i => match lkp B (900 + i) with | some (.var _) => true | _ => false) = true) (hT6 : lkp T t6 = none)
  (h : ∀ us d a, us.length = xs.length → DefOk P f us d → SimL N w0 (dO fz us d) T B a w → Q .normal a w) : (Code.region id #[o1, o2] false).wp P Q a w := by
 have hsz : a.tmps.size = N := by obtain ⟨η, s⟩ := hs; exact s.size
 have hnod : a.defers = [] := by obtain ⟨η, s⟩ := hs; exact s.nod
 refine wp_region_list ?_
 show wpList P #[o1, o2] Q [o1, o2] a w
 obtain ⟨us, hus⟩ : ∃ us, us = xs.map (fun x => a.eval (.tmp x)) := ⟨_, rfl⟩
 have e1 : (execOp a.eval o1).run P w = .ok (.value (.func (.func f) #[] us.toArray)) w := by
  simp [execOp, h1, Instr.makeFunc, hus, Function.comp_def]
 rw [wpList, if_pos (by simp [Region.wanted, g1])]
 refine .inl ?_
 unfold Oper.wp
 rw [e1]
 simp only [Oper.upon, d1]
 have hv : (a.put (some t6) (.func (.func f) #[] us.toArray)).eval (.tmp t6) = .func (.func f) #[] us.toArray := by simp [Act.eval, Act.put, hsz, h6]
 have e2 : (execOp (a.put (some t6) (.func (.func f) #[] us.toArray)).eval o2).run P w = .ok (.defer { target := .fn (.func f) us.toArray, args := #[] }) w := by
  simp [execOp, h2, resolve, hv, Deferred.ofValue]
 rw [wpList, if_pos (by simp [Region.wanted, g2])]
 refine .inl ?_
 unfold Oper.wp
 rw [e2]
 simp only [Oper.upon, d2]
 rw [wpList]
 have he := hent
 have hlen : us.length = xs.length := by rw [hus, List.length_map]
 refine h us { target := .fn (.func f) us.toArray, args := #[] } _ hlen ⟨⟨_, _, rfl⟩, fun w => by have := hent us.toArray w; simp [invoke, this]⟩ (hs.defer xs.length hlen (fun i hi => ?_) hB ?_ ?_ ?_)
 ·have hxi : xs[i]? = some xs[i] := List.getElem?_eq_getElem hi
  have h5 : (xs.map (fun x => lkp T x))[i]? = some (lkp T xs[i]) := by rw [List.getElem?_map, hxi]; rfl
  rw [hx, List.getElem?_map, List.getElem?_range hi] at h5
  simp only [Option.map_some, Option.some.injEq] at h5
  obtain ⟨η, s⟩ := hs
  obtain ⟨v, hv2, _⟩ := s.tmp _ _ h5.symm
  refine ⟨xs[i], v, h5.symm, ?_, hv2⟩
  rw [hus, List.getElem?_map, hxi]
  simp [Act.eval, hv2]
 ·simp [Act.put]
 ·simp [Act.put, hnod]
 ·intro t av ht
  have hne : t6 ≠ t := fun e => by rw [e, ht] at hT6; cases hT6
  simp only [Act.put]
  rw [Array.getElem?_setIfInBounds_ne hne]
theorem ret_okD {fn : Func} {f : FuncId} {us : List Value} {d : Deferred} {out : COut} (del : List Nat) (hs : SimL N w0 (dO fz us d) T B a w) (n : Nat) (hn : us.length = n) (hd : DefOk P f us d) (hi : CloI P I f n) (hI : ∀ w', Fr (dO fz us d) w0 w' → I w') (h : retOk P fn T B del out) : FnD P fn w0 fz out .ret a w := by
 obtain ⟨η, s⟩ := hs
 have hnod : a.defers = [d] := s.nod
 show Leaves P fn a.tmps _ a.defers .returning w
 rw [hnod]
 obtain ⟨⟨fv, cap, ht⟩, hinv⟩ := hd
 refine ⟨by simp, fv, cap, f, us.toArray, ht, hinv w, (hi w _ (fun w' hb => hI w' ⟨hb.os.trans s.frame.os, hb.tape.trans s.frame.tape, hb.output.trans s.frame.output, Nat.le_trans s.frame.size hb.size, fun k hk ho => (hb.block k (Nat.lt_of_lt_of_le hk s.frame.size)).trans (s.frame.block k hk ho)⟩) (by simpa using hn)).mono ?_⟩
 rintro e u' w' ⟨⟨v, rfl⟩, rfl, hb⟩
 exact ret_core del ⟨η, s.below hb⟩ (fun _ h => h) h
theorem FnD_cast {fn : Func} {out out' : COut} {e : Exit} (h : out = out') (hq : FnD P fn w0 fz out e a w) : FnD P fn w0 fz out' e a w := h ▸ hq
theorem thr_okD {fn : Func} {f : FuncId} {us : List Value} {d : Deferred} {out : COut} {v : Value} {bi bo : BL} (T2 : TL) (hs : SimL N w0 (dO fz us d) T B a w) (n : Nat) (hn : us.length = n) (hn2 : n < 100) (hd : DefOk P f us d) (hc : CloD P I f ((List.range n).map fun i => .ptr i 0) v bi bo) (hI : ∀ w', Fr (dO fz us d) w0 w' → I w')
  (hbk : bi.map (·.1) = List.range n) (hbi : biOk bi B = true) (hbo : boOk n bo = true) (hT : T2.map (fun p => lkp T p.1) = T2.map (fun p => some p.2)) (hTp : T2.all (fun p => isPtr9 n p.2) = true) (h : retOk P fn T2 (up9 bo) [] out) : FnD P fn w0 fz out (.panic [{ v, recovered := false }]) a w := by
 obtain ⟨η, s⟩ := hs
 have hnod : a.defers = [d] := s.nod
 show Leaves P fn a.tmps _ a.defers (.panicking [thrown v]) w
 rw [hnod]
 obtain ⟨⟨fv, cap, ht⟩, hinv⟩ := hd
 have inbi : ∀ i, i < n → ∃ X, lkp bi i = some X := fun i hi => by
  have h1 : i ∈ bi.map (·.1) := by rw [hbk]; simpa using hi
  obtain ⟨⟨j, X⟩, hm, rfl⟩ := List.mem_map.1 h1
  have h2 := lkp_isSome hm
  exact Option.isSome_iff_exists.1 h2
 have bilt : ∀ i X, lkp bi i = some X → i < n := fun i X h => by
  have : i ∈ bi.map (·.1) := List.mem_map.2 ⟨(i, X), lkp_mem h, rfl⟩
  rw [hbk] at this; simpa using this
 have key : ∀ i X, lkp bi i = some X → ∃ l m g C e, X = .var l ∧ l.all isJunk = true ∧ us[i]? = some (.pointer (some ⟨g, 0, none⟩)) ∧ η (900 + i) = some (.pointer (some ⟨g, 0, none⟩)) ∧ w.heap[g]? = some (.cells C e (0, 0)) ∧ C.size = m ∧ m = l.length := fun i X hX => by
  have h1 := List.all_eq_true.1 hbi (i, X) (lkp_mem hX)
  cases X with
  | var l =>
   cases hm : lkp B (900 + i) with
   | none => simp [hm] at h1
   | some Y =>
    cases Y with
    | var m =>
     simp only [hm, Bool.and_eq_true, beq_iff_eq] at h1
     obtain ⟨u, hu, g, C, e, rfl, q1, q2, _⟩ := s.dom _ _ hm
     have hi := bilt i _ hX
     have hui : us[i]? = some us[i] := List.getElem?_eq_getElem (by omega)
     have hp : (dO fz us d).pin (900 + i) = some us[i] := by
      simp only [dO]
      rw [if_pos (by omega), show 900 + i - 900 = i by omega]; exact hui
     have h3 := s.pin _ _ _ hp hu
     exact ⟨l, m.length, g, C, e, rfl, h1.1, by rw [hui, ← h3], hu, q1, q2, h1.2⟩
    | _ => simp [hm] at h1
  | _ => simp at h1
 obtain ⟨ηc, hηc⟩ : ∃ ηc : Nat → Option Value, ∀ b, ηc b = if (lkp bi b).isSome then us[b]? else none := ⟨_, fun _ => rfl⟩
 have ηc_some : ∀ b u, ηc b = some u → ∃ X g, lkp bi b = some X ∧ u = .pointer (some ⟨g, 0, none⟩) ∧ η (900 + b) = some u := fun b u hb => by
  rw [hηc] at hb
  split at hb
  ·rename_i h1
   obtain ⟨X, hX⟩ := Option.isSome_iff_exists.1 h1
   obtain ⟨l, m, g, C, e, _, _, h4, h5, _⟩ := key b X hX
   rw [h4] at hb
   injection hb with hb
   subst hb
   exact ⟨X, g, hX, rfl, h5⟩
  ·cases hb
 have ηc_of : ∀ i X u, lkp bi i = some X → us[i]? = some u → ηc i = some u := fun i X u hX hu => by rw [hηc, hX]; exact hu
 have hcall := hc w (fun _ => False) ηc us.toArray (fun w' hfr => hI w' ⟨hfr.os.trans s.frame.os, hfr.tape.trans s.frame.tape, hfr.output.trans s.frame.output, Nat.le_trans s.frame.size hfr.size, fun k hk ho => by
   rw [← s.frame.block k hk ho]
   refine hfr.block k (Nat.lt_of_lt_of_le hk s.frame.size) ?_
   rintro ⟨b, u, hb, hbk2⟩
   obtain ⟨X, g, _, _, h5⟩ := ηc_some b u hb
   rcases (s.new _ u k h5 hbk2).2 with h6 | h6
   ·omega
   ·exact h6⟩) (fun k hk => hk.elim) (fun b u hb => by obtain ⟨X, _, hX, _⟩ := ηc_some b u hb; rw [hX]; rfl) (fun b X hX => by
   obtain ⟨l, m, g, C, e, rfl, hl, h4, h5, q1, q2, q3⟩ := key b X hX
   refine ⟨_, ηc_of b _ _ hX h4, g, C, e, rfl, q1, by omega, fun j v x hv hx => ?_⟩
   have hj := List.all_eq_true.1 hl x (List.mem_of_getElem? hx)
   cases x <;> simp [isJunk] at hj
   exact .junk _) (fun b u k hb hk => by
   obtain ⟨X, g, _, _, h5⟩ := ηc_some b u hb
   exact ⟨(s.new _ u k h5 hk).1, fun h => h⟩) (fun b b' u u' k hb hb' hk hk' => by
   obtain ⟨_, _, _, _, h5⟩ := ηc_some b u hb
   obtain ⟨_, _, _, _, h6⟩ := ηc_some b' u' hb'
   have := s.apart _ _ u u' k h5 h6 hk hk'
   omega) ⟨by simp [hn], fun j u y hu hy => by
   have hjn : j < n := by have := (List.getElem?_eq_some_iff.1 hy).1; simpa using this
   rw [List.getElem?_map, List.getElem?_range hjn] at hy
   simp only [Option.map_some, Option.some.injEq] at hy
   subst hy
   refine .ptr _ _ _ (fun u' hu' => ?_)
   obtain ⟨X, g, hX, rfl, _⟩ := ηc_some j u' hu'
   have h7 : us[j]? = some u := by rw [← hu]; simp
   have := ηc_of j X u hX h7
   rw [hu'] at this
   injection this with this
   exact ⟨g, rfl, this.symm⟩⟩
 refine ⟨by simp, fv, cap, f, us.toArray, ht, hinv w, hcall.mono ?_⟩
 rintro e u' w' ⟨rfl, ⟨p1, p2, p3, p4, p5⟩, hpost⟩
 rcases hpost with ⟨vt, hout, _⟩ | ⟨η', r1, r2, r3, r4, r5, r6⟩
 ·cases hout
 obtain ⟨vr, rfl, _⟩ := r6
 have back : ∀ i u, i < n → η' i = some u → ηc i = some u ∧ η (900 + i) = some u := fun i u hi hu => by
  obtain ⟨X, hX⟩ := inbi i hi
  obtain ⟨l, m, g, C, e, _, _, h4, h5, _⟩ := key i X hX
  have h6 := ηc_of i X _ hX h4
  have := r2 i (by rw [hX]; rfl) _ _ h6 hu
  subst this
  exact ⟨h6, h5⟩
 obtain ⟨η2, hη2⟩ : ∃ η2 : Nat → Option Value, ∀ b, η2 b = if 900 ≤ b ∧ b < 900 + n then η' (b - 900) else none := ⟨_, fun _ => rfl⟩
 have η2_some : ∀ b u, η2 b = some u → 900 ≤ b ∧ b < 900 + n ∧ η' (b - 900) = some u ∧ ηc (b - 900) = some u ∧ η b = some u := fun b u hb => by
  rw [hη2] at hb
  split at hb
  ·rename_i h9
   obtain ⟨h1, h2⟩ := back (b - 900) u (by omega) hb
   rw [show 900 + (b - 900) = b by omega] at h2
   exact ⟨h9.1, h9.2, hb, h1, h2⟩
  ·cases hb
 have map_at : ∀ (l : TL) (f g : Nat × AV → Option AV), l.map f = l.map g → ∀ p ∈ l, f p = g p := fun l f g h p hp => by
  induction l with
  | nil => simp at hp
  | cons q l ih =>
   simp only [List.map_cons, List.cons.injEq] at h
   rcases List.mem_cons.1 hp with rfl | hp
   ·exact h.1
   ·exact ih h.2 hp
 refine ret_core [] (T := T2) (B := up9 bo) (ow := dO fz us d) (N := N) ⟨η2, s.size, s.nod, ⟨p1.trans s.frame.os, p2.trans s.frame.tape, p3.trans s.frame.output, Nat.le_trans s.frame.size p4, fun k hk ho => ?_⟩, fun t av htv => ?_, fun b X hX => ?_, fun b u k hb hk => ?_, fun b b' u u' k hb hb' hk hk' => ?_, fun b u u' hp hb => ?_, s.pinlt⟩ (fun _ h => h) h
 ·rw [← s.frame.block k hk ho]
  refine p5 k (Nat.lt_of_lt_of_le hk s.frame.size) ?_
  rintro ⟨b, u, hb, hbk2⟩
  obtain ⟨X, g, _, _, h5⟩ := ηc_some b u hb
  rcases (s.new _ u k h5 hbk2).2 with h6 | h6
  ·omega
  ·exact h6
 ·have hm := lkp_mem htv
  have he := map_at T2 _ _ hT (t, av) hm
  have hp := List.all_eq_true.1 hTp (t, av) hm
  obtain ⟨v0, hv0, hr⟩ := s.tmp t _ he
  refine ⟨v0, hv0, ?_⟩
  cases av <;> simp [isPtr9] at hp
  exact .ptr _ _ _ (fun u hu => hr.ptr_inv (η2_some _ u hu).2.2.2.2)
 ·obtain ⟨h1, h2⟩ := lkp_up9 hX
  have h3 := List.all_eq_true.1 hbo (b - 900, X) (lkp_mem h2)
  simp only [Bool.and_eq_true, decide_eq_true_eq] at h3
  obtain ⟨u, hu, hr⟩ := r5 _ _ h2
  refine ⟨u, by rw [hη2, if_pos ⟨h1, by omega⟩]; exact hu, ?_⟩
  have h4 := h3.2
  cases X with
  | var l =>
   simp only at h4
   obtain ⟨g, C, e, rfl, q1, q2, q3⟩ := hr
   refine ⟨g, C, e, rfl, q1, q2, fun j v x hv hx => ?_⟩
   have hj := List.all_eq_true.1 h4 x (List.mem_of_getElem? hx)
   cases x <;> simp [isLit] at hj
   have := (q3 j v _ hv hx).lit_inv
   subst this
   exact .lit _
  | _ => simp at h4
 ·obtain ⟨_, _, _, _, h5⟩ := η2_some b u hb
  obtain ⟨h6, h7⟩ := s.new b u k h5 hk
  exact ⟨Nat.lt_of_lt_of_le h6 p4, h7⟩
 ·exact s.apart b b' u u' k (η2_some b u hb).2.2.2.2 (η2_some b' u' hb').2.2.2.2 hk hk'
 ·exact s.pin b u u' hp (η2_some b u' hb).2.2.2.2
end
def ReadR (lang : Int) (t : Tree) : Pat × Int := if ((readR lang t).2 == 0) = true then ((readR lang t).1, 0) else (Pat.zero, (readR lang t).2)
theorem outR_y {f : FuncId} {xs : List AV} {r : Pat × Int} (h : Con Tryz.prog I0 f xs (outR r)) (e : (r.2 == 0) = true) : Con Tryz.prog I0 f xs (.val (.agg (encP r.1))) := by
 rw [outR, if_pos e] at h; exact h
theorem outR_n {f : FuncId} {xs : List AV} {r : Pat × Int} (h : Con Tryz.prog I0 f xs (outR r)) (e : (r.2 == 0) = false) : Con Tryz.prog I0 f xs (.thr (errN r.2)) := by
 rw [outR, if_neg (by rw [e]; decide)] at h; exact h
theorem clD58 (c : Int) : CloD Tryz.prog I0 58 [.ptr 0 0, .ptr 1 0] (.iface 38 (.int .i64 c)) [(0, .var [.junk, .junk, .junk, .junk, .junk, .junk, .junk, .junk, .junk, .junk, .junk]), (1, .var [.junk])] [(0, .var [vi 0, nilv, vi 0, vb false, vb false, nilv, vi 0, vs (ba []), nilv, nilv, nilv]), (1, .var [vi c])] := by
 refine cloD_of Tryz.func58 rfl rfl rfl rfl rfl rfl rfl (Nat.le_of_ble_eq_true rfl) (Nat.le_of_ble_eq_true rfl) (Nat.le_of_ble_eq_true rfl) (by kernel_rfl) (fun w0 fz η a hI hs => ?_)
 refine wN hs hI [true, false] 284216366935134053228759772625 [true = true, false = false] .norm [] [(0, .var [vi 0, nilv, vi 0, vb false, vb false, nilv, vi 0, vs (ba []), nilv, nilv, nilv]), (1, .var [vi c])] ⟨rfl, rfl, tv⟩ fun a w hs => ?_
 exact FnQB_cast (out := .val (.tup [])) (bo := [(0, .var [vi 0, nilv, vi 0, vb false, vb false, nilv, vi 0, vs (ba []), nilv, nilv, nilv]), (1, .var [vi c])]) (rfl) (rfl) (norm_okB _ hs (by kernel_rfl) (by kernel_rfl))
theorem clI58 : CloI Tryz.prog I0 58 2 := by
 refine cloI_of Tryz.func58 rfl rfl rfl rfl rfl rfl rfl (Nat.le_of_ble_eq_true rfl) (Nat.le_of_ble_eq_true rfl) (Nat.le_of_ble_eq_true rfl) (fun w0 fz a hI hs => ?_)
 refine wN hs hI [false] 475750 [false = false] .norm [] [] ⟨rfl, tv⟩ fun a w hs => ?_
 exact nK (.val (.tup [])) [] hs rfl
theorem con15 (lg : Int) (t : Tree) (hft : fineT t) : Con Tryz.prog I0 15 [vi lg, .agg (encTree t)] (.val (.tup [.agg (encP (ReadR lg t).1), vi (ReadR lg t).2])) := by
 refine con_ofD Tryz.func15 rfl (Nat.le_of_ble_eq_true rfl) stab (fun w0 fz a hI hs => ?_)
 refine wp_seq ?_
 refine wN hs hI [] 19375 [] .norm [(0, vi lg), (3, .ptr 1000 0), (4, .ptr 1001 0), (5, .ptr 1002 0)] [(1000, bTr (t)), (1001, .var [vi 0, nilv, vi 0, vb false, vb false, nilv, vi 0, vs (ba []), nilv, nilv, nilv]), (1002, .var [vi 0])] tv fun a w hs => ?_
 refine then_norm ?_
 refine wp_seq ?_
 have hs := hs.ren0 (T' := [(0, vi lg), (3, .ptr 1000 0), (4, .ptr 900 0), (5, .ptr 901 0)]) (B' := [(900, .var [vi 0, nilv, vi 0, vb false, vb false, nilv, vi 0, vs (ba []), nilv, nilv, nilv]), (901, .var [vi 0]), (1000, bTr (t))]) [(1000, 1000), (900, 1001), (901, 1002)] (by kernel_rfl) rfl rfl
 refine defer_L [4, 5] hs ent58 rfl rfl rfl rfl rfl rfl (Nat.le_of_ble_eq_true rfl) rfl rfl rfl (fun us d a hus hd hs => ?_)
 have hI : ∀ w', Fr (dO fz us d) w0 w' → I0 w' := fun w' h => hI w' ⟨h.os, h.tape, h.output, h.size, h.block⟩
 refine then_norm ?_
 rcases bt ((readR lg t).2 == 0) with b1 | b1
 ·skip
  have n1 := eq_of_beq b1
  refine wL hs hI [(2, ⟨[(2, ciV 59 [vi lg, aTr (t)] (.agg [vi ((readR lg t).1.lang), .row .opn ((readR lg t).1.ops), vi (((readR lg t).1.value).kind), vb (((readR lg t).1.value).b), vb (((readR lg t).1.value).n.neg), rwU (((readR lg t).1.value).n.m), vi (((readR lg t).1.value).n.e), vs (((readR lg t).1.value).s), rwS (((readR lg t).1.value).k), rwT (((readR lg t).1.value).v), .row .strs ((readR lg t).1.mask)]))], [], []⟩)] [] 256343825 [] .ret [(4, .ptr 900 0), (5, .ptr 901 0)] [(900, .var [vi ((readR lg t).1.lang), .row .opn ((readR lg t).1.ops), vi (((readR lg t).1.value).kind), vb (((readR lg t).1.value).b), vb (((readR lg t).1.value).n.neg), rwU (((readR lg t).1.value).n.m), vi (((readR lg t).1.value).n.e), vs (((readR lg t).1.value).s), rwS (((readR lg t).1.value).k), rwT (((readR lg t).1.value).v), .row .strs ((readR lg t).1.mask)]), (901, .var [vi 0])] ⟨⟨⟨ent59, outR_y (con59 lg t hft) (by first | assumption | (simp_all; done))⟩, tv⟩, tv⟩ tv fun a w hs => ?_
  exact FnD_cast (out := .val (.tup [.agg [vi ((readR lg t).1.lang), .row .opn ((readR lg t).1.ops), vi (((readR lg t).1.value).kind), vb (((readR lg t).1.value).b), vb (((readR lg t).1.value).n.neg), rwU (((readR lg t).1.value).n.m), vi (((readR lg t).1.value).n.e), vs (((readR lg t).1.value).s), rwS (((readR lg t).1.value).k), rwT (((readR lg t).1.value).v), .row .strs ((readR lg t).1.mask)], vi 0])) (by rw [ReadR, if_pos b1]; rfl) (ret_okD [] hs 2 hus hd clI58 hI ⟨by kernel_rfl, rfl⟩)
 ·skip
  have n1 := beq_eq_false_iff_ne.1 b1
  refine wL hs hI [(2, ⟨[(2, ciA 59 [vi lg, aTr (t)] [] [] (.thr (errN (readR lg t).2)))], [], []⟩)] [] 825 [] (.thr (errN (readR lg t).2)) [(4, .ptr 900 0), (5, .ptr 901 0)] [(900, .var [vi 0, nilv, vi 0, vb false, vb false, nilv, vi 0, vs (ba []), nilv, nilv, nilv]), (901, .var [vi 0])] ⟨⟨⟨ent59, outR_n (con59 lg t hft) (by first | assumption | (simp_all; done))⟩, tv⟩, tv⟩ tv fun a w hs => ?_
  exact FnD_cast (out := .val (.tup [.agg [vi 0, .row .opn ([]), vi 0, vb false, vb false, rwU ([]), vi 0, vs (ba []), rwS ([]), rwT ([]), .row .strs ([])], vi ((readR lg t).2)])) (by rw [ReadR, if_neg (by rw [b1]; decide)]; rfl) (thr_okD [(4, .ptr 900 0), (5, .ptr 901 0)] hs 2 hus (by decide) hd (clD58 _) hI rfl (by kernel_rfl) (by kernel_rfl) rfl (by kernel_rfl) ⟨by kernel_rfl, rfl⟩)
theorem valid_ascii (s : ByteArray) (h : ∀ i (hi : i < s.size), (s[i]'hi).toNat < 128) : ∀ b i, X.validAt s b i = true
 | 0, _ => rfl
 | b + 1, i => by
  unfold X.validAt
  by_cases hi : i < s.size
  ·rw [if_pos hi, decode_ascii s i hi (h i hi)]
   have := h i hi
   rw [if_neg (by show ¬ ((s[i]'hi).toNat = 65533); omega)]
   exact valid_ascii s h b _
  ·rw [if_neg hi]
theorem valid_asc {s : ByteArray} (h : ∀ c ∈ s.data.toList, c.toNat < 128) : X.validAt s s.size 0 = true :=
 valid_ascii s (fun i hi => h _ (by rw [Array.mem_toList_iff]; exact Array.getElem_mem hi)) _ _
theorem kS_in {x : ByteArray} (h : kS x = true) : x.size ≤ 3 ∧ ∀ c ∈ x.data.toList, c.toNat < 128 := by
 unfold kS at h
 rw [Bool.and_eq_true, decide_eq_true_eq, List.all_eq_true] at h
 exact ⟨h.1, fun c hc => of_decide_eq_true (h.2 c hc)⟩
theorem kS_bad {x : ByteArray} (h : kS x = true) : badTok x = false := by
 have := kS_in h
 unfold badTok
 rw [valid_asc this.2, decide_eq_false (by omega)]; rfl
theorem tok_esc : ∀ s : List UInt8, X.tok (escL s) = some s
 | [] => rfl
 | c :: s => by
  have e : escL (c :: s) = escC c ++ escL s := by unfold escL; rw [List.flatMap_cons]
  rw [e]
  unfold escC
  split
  ·rename_i h; subst h
   show X.tok (126 :: 48 :: escL s) = _
   simp [X.tok, tok_esc s]
  ·rename_i h1
   split
   ·rename_i h; subst h
    show X.tok (126 :: 49 :: escL s) = _
    simp [X.tok, tok_esc s]
   ·show X.tok (c :: escL s) = _
    rw [X.tok_plain c _ h1, tok_esc s]; rfl
theorem esc_mem {s : List UInt8} {d : UInt8} (h : d ∈ escL s) : d = 126 ∨ d = 48 ∨ d = 49 ∨ (d ∈ s ∧ d ≠ 47) := by
 unfold escL at h
 obtain ⟨c, hc, h⟩ := List.mem_flatMap.1 h
 unfold escC at h
 split at h
 ·simp at h; rcases h with h | h
  ·exact .inl h
  ·exact .inr (.inl h)
 ·split at h
  ·simp at h; rcases h with h | h
   ·exact .inl h
   ·exact .inr (.inr (.inl h))
  ·rename_i h1
   rw [List.mem_singleton] at h
   subst h
   exact .inr (.inr (.inr ⟨hc, h1⟩))
theorem esc_no (s : List UInt8) : (47 : UInt8) ∉ escL s := fun h => by
 rcases esc_mem h with h | h | h | h
 ·exact absurd h (by decide)
 ·exact absurd h (by decide)
 ·exact absurd h (by decide)
 ·exact h.2 rfl
abbrev escB (t : ByteArray) : List UInt8 := escL t.data.toList
theorem ptxt_jt (p : List ByteArray) : (ptxt p).data.toList = jt 47 (p.map escB) := by
 unfold ptxt jt
 rw [List.map_map]; rfl
theorem parts_ptxt (x : ByteArray) (r : List ByteArray) : partsF (ptxt (x :: r)) = (x :: r).map (fun t => ba (escB t)) := by
 have hx : ((ptxt (x :: r)).extract 1 (ptxt (x :: r)).size).data.toList = escB x ++ jt 47 (r.map escB) := by
  rw [Lib.extract_data, List.take_of_length_le (by rw [List.length_drop, ← Lib.size_eq]; omega), ptxt_jt, List.map_cons, jt_cons]; rfl
 unfold partsF
 rw [← ba_of ((ptxt (x :: r)).extract 1 (ptxt (x :: r)).size), hx, splitF_spl, spl_jt _ _ (esc_no _) (fun y hy => by obtain ⟨z, _, rfl⟩ := List.mem_map.1 hy; exact esc_no _)]
 rw [← List.map_cons (f := escB), List.map_map]; rfl
theorem tokF_esc (t : ByteArray) : tokF (ba (escB t)) = (t, true) := by
 unfold tokF
 rw [ba_data, tok_esc]
theorem ptxt_ne (x : ByteArray) (r : List ByteArray) : ((ptxt (x :: r)).toList == (ba []).toList) = false := by
 rw [Lib.toList_data, Lib.toList_data, ptxt_jt, List.map_cons, jt_cons]; rfl
theorem ptxt_0 (x : ByteArray) (r : List ByteArray) : byteAt (ptxt (x :: r)) 0 = 47 := by
 unfold byteAt
 have h : (ptxt (x :: r)).data.toList[0]? = some 47 := by rw [ptxt_jt, List.map_cons, jt_cons]; rfl
 rw [show ((0 : Int).toNat) = 0 from rfl, ← Array.getElem?_toList, h]; rfl
theorem pparse_ptxt {p : List ByteArray} (hl : p.length ≤ 63) (hv : X.validAt (ptxt p) (ptxt p).size 0 = true) : pparseF (ptxt p) = (p, 0) := by
 cases p with
 | nil => unfold pparseF; rw [if_pos (by kernel_rfl)]
 | cons x r =>
  have hat : ∀ j, j < (partsF (ptxt (x :: r))).length → (tokF ((partsF (ptxt (x :: r))).getD j (dflt .str))).2 = true := fun j hj => by
   have := getD_mem hj (dflt .str)
   generalize (partsF (ptxt (x :: r))).getD j (dflt .str) = q at this
   rw [parts_ptxt] at this
   obtain ⟨z, _, rfl⟩ := List.mem_map.1 this
   rw [tokF_esc]
  rw [pparse_all (ptxt_ne x r) (by rw [ptxt_0, hv]; rfl) hat, parts_ptxt, if_neg (by rw [List.length_map]; omega), List.map_map]
  refine Prod.ext ?_ rfl
  show ((x :: r).map fun t => (tokF (ba (escB t))).1) = x :: r
  exact (List.map_congr_left (fun t _ => by rw [tokF_esc]; rfl)).trans (List.map_id _)
theorem flat_len {p : List ByteArray} (h : ∀ x ∈ p, x.size ≤ 3) : (p.flatMap fun t => 47 :: escL t.data.toList).length ≤ 7 * p.length := by
 induction p with
 | nil => simp
 | cons x p ih =>
  have h1 := h x (List.mem_cons_self ..)
  have h2 := escL_len x.data.toList
  have h3 := ih (fun y hy => h y (List.mem_cons_of_mem _ hy))
  rw [Lib.size_eq] at h1
  simp only [List.flatMap_cons, List.length_append, List.length_cons]; omega
theorem ptxt_asc {p : List ByteArray} (h : ∀ x ∈ p, kS x = true) : ∀ c ∈ (ptxt p).data.toList, c.toNat < 128 := fun c hc => by
 rw [ptxt_jt] at hc
 unfold jt at hc
 obtain ⟨l, hl, hc⟩ := List.mem_flatten.1 hc
 obtain ⟨y, hy, rfl⟩ := List.mem_map.1 hl
 obtain ⟨x, hx, rfl⟩ := List.mem_map.1 hy
 rcases List.mem_cons.1 hc with rfl | hc
 ·decide
 ·rcases esc_mem hc with rfl | rfl | rfl | h1
  ·decide
  ·decide
  ·decide
  ·exact (kS_in (h x hx)).2 c h1.1
theorem ptxt_ok {p : List ByteArray} (hl : p.length ≤ 4) (h : ∀ x ∈ p, kS x = true) : textOk (ptxt p) = true := by
 have h1 := flat_len (fun x hx => (kS_in (h x hx)).1)
 have h2 : (ptxt p).size ≤ 7 * p.length := by rw [Lib.size_eq]; exact h1
 unfold textOk
 rw [valid_asc (ptxt_asc h), decide_eq_true (by omega)]; rfl
theorem ptxt_back {p : List ByteArray} (hl : p.length ≤ 4) (h : ∀ x ∈ p, kS x = true) : pparseF (ptxt p) = (p, 0) := pparse_ptxt (by omega) (valid_asc (ptxt_asc h))
def objL (x : Opn) : Mem := (((if fromF x.op = true then [(nFrom, textT (ptxt x.frm))] else []) ++ [(nOp, textT (wordF x.op))]) ++ [(nPath, textT (ptxt x.path))]) ++ (if valueF x.op = true then [(nValue, x.value)] else [])
theorem objT_L (x : Opn) : objT x = objM (objL x) := by
 unfold objT objM objK objV objL
 by_cases h1 : fromF x.op = true <;> by_cases h2 : valueF x.op = true <;> simp [h1, h2]
theorem good_text {n d : Nat} {s : ByteArray} (h : textOk s = true) : GoodN n (d + 1) (textT s) :=
 ⟨⟨by simp [textT, ownO, truthO, numO, ownN, textO, keysO, itemsO, Tree.kind, Tree.b, Tree.n, Tree.s, Tree.k, Tree.v, h], Ok.nil, Nat.zero_le _, Nat.zero_le _, so_leaf rfl, te_leaf rfl⟩, Nat.zero_le _, fun u hu => by simp [textT, Tree.v] at hu⟩
theorem word_ok (k : Int) : textOk (wordF k) = true := by
 unfold wordF
 generalize (k - 1).toNat = i
 rcases i with _ | _ | _ | _ | _ | _ | i
 ·kernel_rfl
 ·kernel_rfl
 ·kernel_rfl
 ·kernel_rfl
 ·kernel_rfl
 ·kernel_rfl
 ·rw [List.getD_eq_getElem?_getD, List.getElem?_eq_none (by simp [wordsL])]; kernel_rfl
theorem obj_mem {x : Opn} {p : ByteArray × Tree} (h : p ∈ objL x) : p = (nFrom, textT (ptxt x.frm)) ∨ p = (nOp, textT (wordF x.op)) ∨ p = (nPath, textT (ptxt x.path)) ∨ (valueF x.op = true ∧ p = (nValue, x.value)) := by
 unfold objL at h
 simp only [List.mem_append, List.mem_singleton] at h
 rcases h with ((h | h) | h) | h
 ·split at h
  ·exact .inl (List.mem_singleton.1 h)
  ·simp at h
 ·exact .inr (.inl h)
 ·exact .inr (.inr (.inl h))
 ·split at h
  ·rename_i hv
   exact .inr (.inr (.inr ⟨hv, List.mem_singleton.1 h⟩))
  ·simp at h
theorem obj_len (x : Opn) : (objL x).length ≤ 4 := by unfold objL; split <;> split <;> simp
theorem obj_sorted (x : Opn) : ((objL x).map (·.1)).Pairwise ltB := by
 have l1 : ltB nFrom nOp := ltB_less.1 (by kernel_rfl)
 have l2 : ltB nFrom nPath := ltB_less.1 (by kernel_rfl)
 have l3 : ltB nFrom nValue := ltB_less.1 (by kernel_rfl)
 have l4 : ltB nOp nPath := ltB_less.1 (by kernel_rfl)
 have l5 : ltB nOp nValue := ltB_less.1 (by kernel_rfl)
 have l6 : ltB nPath nValue := ltB_less.1 (by kernel_rfl)
 unfold objL
 by_cases h1 : fromF x.op = true <;> by_cases h2 : valueF x.op = true <;> simp [h1, h2, l1, l2, l3, l4, l5, l6]
theorem value_op {k : Int} (h : valueF k = true) : k = 1 ∨ k = 3 ∨ k = 6 := by
 unfold valueF at h
 simp only [Bool.or_eq_true, beq_iff_eq] at h
 omega
theorem good_obj {x : Opn} (h : OpE x) : GoodN 200 21 (objT x) := by
 rw [objT_L]
 refine obj_goodN (by decide) (Nat.le_trans (obj_len x) (by decide)) (obj_sorted x) (fun p hp => ?_)
 rcases obj_mem hp with rfl | rfl | rfl | ⟨hv, rfl⟩
 ·exact ⟨by kernel_rfl, good_text (ptxt_ok h.frm.1 h.frm.2)⟩
 ·exact ⟨by kernel_rfl, good_text (word_ok _)⟩
 ·exact ⟨by kernel_rfl, good_text (ptxt_ok h.path.1 h.path.2)⟩
 ·exact ⟨by kernel_rfl, (h.val (value_op hv)).1⟩
theorem text_nodes (s : ByteArray) : nodes (textT s) = 1 := by rw [nodes_eq]; rfl
theorem obj_nodes {x : Opn} (h : OpE x) : nodes (objT x) ≤ 44 := by
 have hb : nodesL (objT x).v ≤ 43 := by
  show nodesL (objV x) ≤ 43
  unfold objV
  rw [nodesL_app, nodesL_app, nodesL_app]
  have h1 : nodesL (if fromF x.op = true then [textT (ptxt x.frm)] else []) ≤ 1 := by
   split
   ·simp only [nodesL, text_nodes]; omega
   ·simp [nodesL]
  by_cases hv : valueF x.op = true
  ·have hf : fromF x.op = false := by
    rcases value_op hv with e | e | e <;> rw [e] <;> rfl
   rw [if_pos hv, hf]
   have h2 := (h.val (value_op hv)).2
   simp only [nodesL, text_nodes, Bool.false_eq_true, if_false]; omega
  ·rw [if_neg hv]
   simp only [nodesL, text_nodes]; omega
 rw [nodes_eq]; omega
theorem opR_ok {t : Tree} {p f : List ByteArray} (h7 : (t.kind == 7) = true) (hm : memOk t nOp = true) (hw : decide (wordI t > 0) = true) (hx : exactO t = true) (hp : pathR t nPath = (p, 0)) (hf : fromF (wordI t) = true → pathR t nFrom = (f, 0)) : opR t = (opO t p (if fromF (wordI t) = true then f else []), 0) := by
 rw [opR, if_pos h7, if_pos hm, if_pos hw, if_pos hx, hp, if_pos (show (((p, (0 : Int)).2 == 0) = true) from rfl)]
 split
 ·rename_i h
  rw [hf h, if_pos (show (((f, (0 : Int)).2 == 0) = true) from rfl)]
 ·rfl
theorem opR_obj {o : Opn} (ho : 1 ≤ o.op ∧ o.op ≤ 6) (hp : pparseF (ptxt o.path) = (o.path, 0)) (hf : pparseF (ptxt o.frm) = (o.frm, 0)) (hnf : o.op ≠ 4 → o.op ≠ 5 → o.frm = []) (hnv : o.op ≠ 1 → o.op ≠ 3 → o.op ≠ 6 → o.value = Tree.zero) : opR (objT o) = (o, 0) := by
 obtain ⟨k, p, f, v⟩ := o
 replace ho : 1 ≤ k ∧ k ≤ 6 := ho
 replace hnf : k ≠ 4 → k ≠ 5 → f = [] := hnf
 replace hnv : k ≠ 1 → k ≠ 3 → k ≠ 6 → v = Tree.zero := hnv
 have hk : k = 1 ∨ k = 2 ∨ k = 3 ∨ k = 4 ∨ k = 5 ∨ k = 6 := by omega
 have hP : pathR (objT ⟨k, p, f, v⟩) nPath = (p, 0) := by
  refine (pathR_yes ?_).trans (Eq.trans (congrArg pparseF ?_) hp)
  ·rcases hk with rfl | rfl | rfl | rfl | rfl | rfl <;> kernel_rfl
  ·rcases hk with rfl | rfl | rfl | rfl | rfl | rfl <;> kernel_rfl
 rcases hk with rfl | rfl | rfl | rfl | rfl | rfl
 ·obtain rfl : f = [] := hnf (by decide) (by decide)
  exact (opR_ok (f := []) (by kernel_rfl) (by kernel_rfl) (by kernel_rfl) (by kernel_rfl) hP (fun h => nomatch (show false = fromF (wordI (objT ⟨1, p, [], v⟩)) from by kernel_rfl).trans h)).trans (by kernel_rfl)
 ·obtain rfl : f = [] := hnf (by decide) (by decide)
  obtain rfl : v = Tree.zero := hnv (by decide) (by decide) (by decide)
  exact (opR_ok (f := []) (by kernel_rfl) (by kernel_rfl) (by kernel_rfl) (by kernel_rfl) hP (fun h => nomatch (show false = fromF (wordI (objT ⟨2, p, [], Tree.zero⟩)) from by kernel_rfl).trans h)).trans (by kernel_rfl)
 ·obtain rfl : f = [] := hnf (by decide) (by decide)
  exact (opR_ok (f := []) (by kernel_rfl) (by kernel_rfl) (by kernel_rfl) (by kernel_rfl) hP (fun h => nomatch (show false = fromF (wordI (objT ⟨3, p, [], v⟩)) from by kernel_rfl).trans h)).trans (by kernel_rfl)
 ·obtain rfl : v = Tree.zero := hnv (by decide) (by decide) (by decide)
  exact (opR_ok (f := f) (by kernel_rfl) (by kernel_rfl) (by kernel_rfl) (by kernel_rfl) hP (fun h => (pathR_yes (by kernel_rfl)).trans (Eq.trans (congrArg pparseF (by kernel_rfl)) hf))).trans (by kernel_rfl)
 ·obtain rfl : v = Tree.zero := hnv (by decide) (by decide) (by decide)
  exact (opR_ok (f := f) (by kernel_rfl) (by kernel_rfl) (by kernel_rfl) (by kernel_rfl) hP (fun h => (pathR_yes (by kernel_rfl)).trans (Eq.trans (congrArg pparseF (by kernel_rfl)) hf))).trans (by kernel_rfl)
 ·obtain rfl : f = [] := hnf (by decide) (by decide)
  exact (opR_ok (f := []) (by kernel_rfl) (by kernel_rfl) (by kernel_rfl) (by kernel_rfl) hP (fun h => nomatch (show false = fromF (wordI (objT ⟨6, p, [], v⟩)) from by kernel_rfl).trans h)).trans (by kernel_rfl)
theorem opR_E {o : Opn} (h : OpE o) : opR (objT o) = (o, 0) := opR_obj h.op (ptxt_back h.path.1 h.path.2) (ptxt_back h.frm.1 h.frm.2) h.nofrm h.noval
abbrev nMore : ByteArray := ba [109, 111, 114, 101]
abbrev nPut : ByteArray := ba [112, 117, 116]
def wrongT (h : Int) (t : Tree) : Tree :=
 if (h == 0) = true then unsetT t nOp else if (h == 1) = true then unsetT t nPath else if (h == 2) = true then setT t nMore nul
 else if (h == 3) = true then setT t nOp (textT nPut) else if (h == 4) = true then setT t nPath (textT (ba [97])) else nul
theorem wrong_at {k : Int} (hk : k = 1 ∨ k = 2 ∨ k = 3 ∨ k = 4 ∨ k = 5 ∨ k = 6) (p f : List ByteArray) (v : Tree) : (opR (unsetT (objT ⟨k, p, f, v⟩) nOp)).2 = 2 ∧ (opR (unsetT (objT ⟨k, p, f, v⟩) nPath)).2 = 2 ∧ (opR (setT (objT ⟨k, p, f, v⟩) nMore nul)).2 = 2 ∧ (opR (setT (objT ⟨k, p, f, v⟩) nOp (textT nPut))).2 = 2 ∧ (opR (setT (objT ⟨k, p, f, v⟩) nPath (textT (ba [97])))).2 = 2 := by
 rcases hk with rfl | rfl | rfl | rfl | rfl | rfl <;> exact ⟨by kernel_rfl, by kernel_rfl, by kernel_rfl, by kernel_rfl, by kernel_rfl⟩
theorem wrong_nul : (opR nul).2 = 2 := by kernel_rfl
theorem wrong_op {o : Opn} (ho : 1 ≤ o.op ∧ o.op ≤ 6) (h : Int) : (opR (wrongT h (objT o))).2 = 2 := by
 obtain ⟨k, p, f, v⟩ := o
 replace ho : 1 ≤ k ∧ k ≤ 6 := ho
 obtain ⟨h1, h2, h3, h4, h5⟩ := wrong_at (show k = 1 ∨ k = 2 ∨ k = 3 ∨ k = 4 ∨ k = 5 ∨ k = 6 by omega) p f v
 unfold wrongT
 split
 ·exact h1
 ·split
  ·exact h2
  ·split
   ·exact h3
   ·split
    ·exact h4
    ·split
     ·exact h5
     ·exact wrong_nul
theorem nul_good {n d : Nat} : GoodN n (d + 1) nul := ⟨⟨one_nul.own, one_nul.ok, one_nul.len, Nat.zero_le _, one_nul.sorted, one_nul.texts⟩, Nat.zero_le _, fun u hu => by simp [nul, Tree.v] at hu⟩
theorem wrong_good {t : Tree} (ht : GoodN 200 21 t) (h : Int) : GoodN 201 21 (wrongT h t) := by
 have up : ∀ {u : Tree}, GoodN 200 21 u → GoodN 201 21 u := fun h => goodN_mono (by decide) (Nat.le_refl _) h
 have set : ∀ {x : ByteArray} {u : Tree}, textOk x = true → GoodN 201 20 u → GoodN 201 21 (setT t x u) := fun hx hu => setN (n := 200) (d := 20) (by decide) hx (goodN_mem ht) hu
 unfold wrongT
 split
 ·exact up (unsetN (by decide) ht)
 ·split
  ·exact up (unsetN (by decide) ht)
  ·split
   ·exact set (by kernel_rfl) nul_good
   ·split
    ·exact set (by kernel_rfl) (good_text (by kernel_rfl))
    ·split
     ·exact set (by kernel_rfl) (good_text (by kernel_rfl))
     ·exact nul_good
theorem wrong_nodes (t : Tree) (h : Int) : nodes (wrongT h t) ≤ nodes t + 1 := by
 have hp := nodes_pos t
 have n1 : nodes nul = 1 := by rw [nodes_eq]; rfl
 have set : ∀ {x : ByteArray} {u : Tree}, nodes u = 1 → nodes (setT t x u) ≤ nodes t + 1 := fun {x u} hu => by have := set_nodes t x u; omega
 have uns : ∀ x, nodes (unsetT t x) ≤ nodes t + 1 := fun x => Nat.le_succ_of_le (unset_less measNodes t x)
 unfold wrongT
 split
 ·exact uns _
 ·split
  ·exact uns _
  ·split
   ·exact set n1
   ·split
    ·exact set (text_nodes _)
    ·split
     ·exact set (text_nodes _)
     ·omega
theorem arr_valid {l : List Tree} (hl : l.length ≤ 13) (h : ∀ u ∈ l, GoodN 201 21 u ∧ nodes u ≤ 45) : validT (arrT l) = true := by
 have hg : GoodN 201 22 (arrT l) := good_items (by decide) (by omega) (fun u hu => (h u hu).1)
 have hn := nodesL_B (B := 45) (fun u hu => (h u hu).2)
 have hn2 : nodes (arrT l) = 1 + nodesL l := by rw [nodes_eq]; rfl
 have : l.length * 45 ≤ 13 * 45 := Nat.mul_le_mul_right _ hl
 exact (chk_goodN hg (by decide) (by omega)).1
theorem obj_in {ops : List Opn} (h : ∀ o ∈ ops, OpE o) : ∀ u ∈ ops.map objT, GoodN 200 21 u ∧ nodes u ≤ 44 := fun u hu => by
 obtain ⟨o, ho, rfl⟩ := List.mem_map.1 hu
 exact ⟨good_obj (h o ho), obj_nodes (h o ho)⟩
theorem oneF_E {o : Opn} (h : OpE o) : oneF o = true := by
 have pk : ∀ {p : List ByteArray}, p.length ≤ 4 ∧ (∀ x ∈ p, kS x = true) → pathOk p = true := fun {p} hp => by
  unfold pathOk
  rw [decide_eq_true (by omega), Bool.true_and, Bool.not_eq_true', List.any_eq_false]
  exact fun x hx => by rw [kS_bad (hp.2 x hx)]; decide
 have vk : o.op = 1 ∨ o.op = 3 ∨ o.op = 6 → validT o.value = true := fun hv => by
  have := h.val hv
  exact (chk_goodN this.1 (by decide) (by omega)).1
 have z0 : zeroF Tree.zero = true := by kernel_rfl
 have ho := h.op
 unfold oneF
 split
 ·rename_i h45
  simp only [Bool.or_eq_true, beq_iff_eq] at h45
  rw [pk h.path, pk h.frm, h.noval (by omega) (by omega) (by omega), z0]; rfl
 ·rename_i h45
  simp only [Bool.or_eq_true, beq_iff_eq, not_or] at h45
  split
  ·rename_i hv
   simp only [Bool.or_eq_true, beq_iff_eq] at hv
   rw [pk h.path, h.nofrm h45.1 h45.2, vk (by omega)]; rfl
  ·rename_i hv
   simp only [Bool.or_eq_true, beq_iff_eq, not_or] at hv
   rw [if_pos (by rw [beq_iff_eq]; omega), pk h.path, h.nofrm h45.1 h45.2, h.noval hv.1.1 hv.1.2 hv.2, z0]; rfl
theorem opsF_E {ops : List Opn} (hl : ops.length ≤ 13) (h : ∀ o ∈ ops, OpE o) : opsF ops = true := by
 unfold opsF
 rw [decide_eq_true (by omega), Bool.true_and, Bool.not_eq_true', List.any_eq_false]
 exact fun x hx => by rw [oneF_E (h x hx)]; decide
abbrev patE (ops : List Opn) : Pat := ⟨1, ops, Tree.zero, []⟩
theorem check_E {ops : List Opn} (hl : ops.length ≤ 13) (h : ∀ o ∈ ops, OpE o) : checkP (patE ops) = true := by
 unfold checkP
 rw [if_pos (show ((patE ops).lang == 1) = true from rfl), opsF_E hl h, show zeroF Tree.zero = true from by kernel_rfl]; rfl
theorem write_E {ops : List Opn} (hl : ops.length ≤ 13) (h : ∀ o ∈ ops, OpE o) : WriteR (patE ops) = (arrT (ops.map objT), 0) := by
 have hw : wT (patE ops) = arrT (ops.map objT) := by unfold wT; rw [if_pos (show ((patE ops).lang == 1) = true from rfl)]
 unfold WriteR
 rw [if_pos (check_E hl h), hw, if_pos (arr_valid (by rw [List.length_map]; exact hl) (fun u hu => ⟨goodN_mono (by decide) (Nat.le_refl _) (obj_in h u hu).1, Nat.le_succ_of_le (obj_in h u hu).2⟩))]
theorem read_1 {l : List Tree} (hv : validT (arrT l) = true) (hl : l.length ≤ 60) : readR 1 (arrT l) = (⟨1, (readOps l).1, Tree.zero, []⟩, (readOps l).2) := by
 unfold readR
 rw [if_pos (by rw [hv]; rfl), if_pos (by decide), if_pos (show ((arrT l).kind == 6) = true from rfl), if_pos (show decide (((arrT l).v.length : Int) ≤ 60) = true from decide_eq_true (by show (l.length : Int) ≤ 60; omega))]; rfl
theorem getD_map {α β : Type} {f : α → β} {l : List α} {i : Nat} (h : i < l.length) (a : α) (b : β) : (l.map f).getD i b = f (l.getD i a) := by
 rw [List.getD_eq_getElem?_getD, List.getD_eq_getElem?_getD, List.getElem?_map, List.getElem?_eq_getElem h]; rfl
theorem set_at {l : List Tree} {i j : Nat} (u : Tree) (hj : j < l.length) : (l.set i u).getD j (dflt .tree) = if i = j then u else l.getD j (dflt .tree) := by
 rw [List.getD_eq_getElem?_getD, List.getElem?_set, List.getD_eq_getElem?_getD]
 by_cases h : i = j
 ·subst h; rw [if_pos rfl, if_pos hj, if_pos rfl]; rfl
 ·rw [if_neg h, if_neg h]
theorem read_bad {ops : List Opn} (hl : ops.length ≤ 13) (h : ∀ o ∈ ops, OpE o) {i : Nat} (hi : i < ops.length) (k : Int) : ReadR 1 (arrT ((ops.map objT).set i (wrongT k ((ops.map objT).getD i (dflt .tree))))) = (Pat.zero, 2) := by
 have hlen : (ops.map objT).length = ops.length := List.length_map ..
 have hoi := h _ (getD_mem hi (dflt .opn))
 have hg : (ops.map objT).getD i (dflt .tree) = objT (ops.getD i (dflt .opn)) := getD_map hi _ _
 have hv := arr_valid (l := (ops.map objT).set i (wrongT k ((ops.map objT).getD i (dflt .tree)))) (by rw [List.length_set, hlen]; exact hl) (fun u hu => by
  rcases List.mem_or_eq_of_mem_set hu with hu | rfl
  ·exact ⟨goodN_mono (by decide) (Nat.le_refl _) (obj_in h u hu).1, Nat.le_succ_of_le (obj_in h u hu).2⟩
  ·rw [hg]
   have := wrong_nodes (objT (ops.getD i (dflt .opn))) k
   have := obj_nodes hoi
   exact ⟨wrong_good (good_obj hoi) k, by omega⟩)
 have hw : (opR (((ops.map objT).set i (wrongT k ((ops.map objT).getD i (dflt .tree)))).getD i (dflt .tree))).2 = 2 := by
  rw [set_at _ (by rw [hlen]; exact hi), if_pos rfl, hg]
  exact wrong_op hoi.op k
 have hr := readOps_at (l := (ops.map objT).set i (wrongT k ((ops.map objT).getD i (dflt .tree)))) (i := i) (by rw [List.length_set, hlen]; exact hi) (fun j hj => by
  rw [set_at _ (by rw [hlen]; omega), if_neg (by omega), getD_map (by omega) (dflt .opn), opR_E (h _ (getD_mem (by omega) _))]; rfl) (by rw [hw]; rfl)
 unfold ReadR
 rw [read_1 hv (by rw [List.length_set, hlen]; omega), hr, hw]; rfl
theorem con20B (t : Tree) (hft : fineT t) : ConB Tryz.prog I0 20 [.agg (encTree t)] [] (.val (.agg [vi t.kind, vb t.b, vb t.n.neg, .row (.int .u32) t.n.m, vi t.n.e, vs t.s, .row .str t.k, .own 90000002])) [(1001, .var [vi t.kind, vb t.b, vb t.n.neg, .row (.int .u32) t.n.m, vi t.n.e, vs t.s, .row .str t.k, .own 90000002]), (90000002, .sl 29 .tree t.v)] := by
 obtain ⟨⟨hf1, hf2, hf3, hf4⟩, hf5⟩ := (fine_eq t).1 hft
 refine con_ofB Tryz.func20 rfl (Nat.le_of_ble_eq_true rfl) (by kernel_rfl) (fun w0 fz η a hI hs => ?_)
 refine wp_seq ?_
 refine wN hs hI [] 750 [] .norm [(1, .ptr 1000 0), (2, .ptr 1001 0)] [(1000, bTr (t)), (1001, .var zTr)] tv fun a w hs => ?_
 refine then_norm ?_
 refine wp_seq ?_
 refine wL hs hI [(1, ⟨[(6, ciV 67 [.agg [vb t.n.neg, rwU t.n.m, vi t.n.e]] (.agg [vb t.n.neg, rwU t.n.m, vi t.n.e])), (11, ciV 68 [rwS t.k] (rwS t.k))], [], []⟩)] [] 1164153218231347703125 [] .norm [(1, .ptr 1000 0), (2, .ptr 1001 0), (3, .ptr 2013 0)] [(1000, bTr (t)), (1001, .var zTr), (2013, .var [vi t.kind, vb t.b, vb t.n.neg, rwU t.n.m, vi t.n.e, vs t.s, rwS t.k, nilv])] ⟨⟨⟨ent67, con67 t.n (by omega)⟩, ⟨ent68, (con68 _ (by omega)).frz⟩, tv⟩, tv⟩ tv fun a w hs => ?_
 refine then_norm ?_
 refine wp_seq ?_
 refine wp_seq ?_
 refine wN hs hI [] 25 [] .norm [(1, .ptr 1000 0), (2, .ptr 1001 0), (3, .ptr 2013 0), (4, vi 0)] [(1000, bTr (t)), (1001, .var zTr), (2013, .var [vi t.kind, vb t.b, vb t.n.neg, rwU t.n.m, vi t.n.e, vs t.s, rwS t.k, nilv])] tv fun a w hs => ?_
 refine then_norm ?_
 refine wp_block ?_
 refine loop_L (N := Tryz.f20.ntmps) (w0 := w0) (ow := ownB fz η) (α := Nat) (fun p => [(1, .ptr 1000 0), (2, .ptr 1001 0), (3, .ptr 90000001 0), (4, vi (p : Int))]) (fun p => [(1000, bTr (t)), (1001, .var zTr), (90000001, .var [vi t.kind, vb t.b, vb t.n.neg, rwU t.n.m, vi t.n.e, vs t.s, rwS t.k, .own 90000002]), (90000002, .sl 29 .tree (t.v.take p))]) (fun p => p ≤ t.v.length) (fun p => t.v.length - p) 0 ?_ ?_ ?_
 ·exact Nat.zero_le _
 ·(have hs := (hs.nilB 10000005 2013 7 29 .tree [vi t.kind, vb t.b, vb t.n.neg, rwU t.n.m, vi t.n.e, vs t.s, rwS t.k, nilv] (by kernel_rfl) (by kernel_rfl) (by decide) (by decide) (by kernel_rfl) (by kernel_rfl)).rmT [(1, .ptr 1000 0), (2, .ptr 1001 0), (3, .ptr 2013 0), (4, vi 0)] [(1000, bTr (t)), (1001, .var zTr), (2013, .var [vi t.kind, vb t.b, vb t.n.neg, rwU t.n.m, vi t.n.e, vs t.s, rwS t.k, .own 10000005]), (10000005, .sl 29 .tree ([]))] [(1000, 1000), (1001, 1001), (2013, 2013), (10000005, 10000005)] (by kernel_rfl); exact (hs.cst [(1, .ptr 1000 0), (2, .ptr 1001 0), (3, .ptr 2013 0), (4, vi ((0 : Nat) : Int))] [(1000, bTr (t)), (1001, .var zTr), (2013, .var [vi t.kind, vb t.b, vb t.n.neg, rwU t.n.m, vi t.n.e, vs t.s, rwS t.k, .own 10000005]), (10000005, .sl 29 .tree (t.v.take 0))] rfl).rm [(1000, 1000), (1001, 1001), (90000001, 2013), (90000002, 10000005)] (by kernel_rfl))
 rintro i hJ a w hs
 have htl : (t.v.take i).length ≤ 1000000000 := by rw [List.length_take]; omega
 rcases bt (decide ((i : Int) < (t.v.length : Int))) with b1 | b1
 ·skip
  have n1 := of_decide_eq_true b1
  refine wL hs hI [(5, ⟨[(7, ciV 20 [aTr ((t.v.getD i (dflt .tree)))] (aTr ((t.v.getD i (dflt .tree)))))], [], []⟩)] [true] 4439564236236028499794013781734375 [ty b1, 0 ≤ (i : Int) ∧ (i : Int) < t.v.length, (((t.v.take i).length + 1) * 120 : Nat) ≤ 140737488355328 ∧ (t.v.take i).length + 1 ≤ 140737488355328, InR .i64 ((i : Int) + 1)] .norm [(1, .ptr 1000 0), (2, .ptr 1001 0), (3, .ptr 90000001 0), (4, vi ((i : Int) + 1))] [(1000, bTr (t)), (1001, .var zTr), (6009, .sl 29 .tree ((t.v.take i) ++ ([(Tree.et (t.v.getD i (dflt .tree)))]))), (90000001, .var [vi t.kind, vb t.b, vb t.n.neg, rwU t.n.m, vi t.n.e, vs t.s, rwS t.k, .own 6009])] ⟨⟨⟨ent20, con20 _ (fine_at hft (by omega) _)⟩, tv⟩, tv⟩ ⟨b1, (by omega), (by omega), (inR64 (by omega) (by omega)), tv⟩ fun a w hs => ?_
  refine then_norm ⟨i + 1, by omega, by omega, ?_⟩
  (have e0_ : ((i : Int) + 1) = ((((i + 1) : Nat) : Int)) := (by first | rfl | (omega)); have e1_ : ((t.v.take i) ++ ([(Tree.et (t.v.getD i (dflt .tree)))])) = (t.v.take (i + 1)) := (by first | rfl | (first | omega | (rw [Tree.eta', take_snoc (by omega)]))); exact (hs.cst [(1, .ptr 1000 0), (2, .ptr 1001 0), (3, .ptr 90000001 0), (4, vi (((i + 1) : Nat) : Int))] [(1000, bTr (t)), (1001, .var zTr), (6009, .sl 29 .tree (t.v.take (i + 1))), (90000001, .var [vi t.kind, vb t.b, vb t.n.neg, rwU t.n.m, vi t.n.e, vs t.s, rwS t.k, .own 6009])] (by first | (rw [e0_, e1_]; done) | (simp only [e0_, e1_]; done) | rfl | (simp only [e0_, e1_]; rfl))).rm [(1000, 1000), (1001, 1001), (90000001, 90000001), (90000002, 6009)] (by kernel_rfl))
 ·skip
  have n1 := of_decide_eq_false b1
  refine wN hs hI [false] 7434078125 [ty b1] (.exit 0) [(2, .ptr 1001 0), (3, .ptr 90000001 0)] [(1001, .var zTr), (90000001, .var [vi t.kind, vb t.b, vb t.n.neg, rwU t.n.m, vi t.n.e, vs t.s, rwS t.k, .own 90000002]), (90000002, .sl 29 .tree (t.v.take i))] ⟨b1, tv⟩ fun a w hs => ?_
  refine then_exit ?_
  refine inb_hit ?_
  refine then_norm ?_
  refine wN hs hI [] 16375 [] .ret [(2, .ptr 1001 0)] [(1001, .var [vi t.kind, vb t.b, vb t.n.neg, rwU t.n.m, vi t.n.e, vs t.s, rwS t.k, .own 90000002]), (90000002, .sl 29 .tree (t.v.take i))] tv fun a w hs => ?_
  exact FnQB_cast (out := .val (.agg [vi t.kind, vb t.b, vb t.n.neg, rwU t.n.m, vi t.n.e, vs t.s, rwS t.k, .own 90000002])) (bo := [(1001, .var [vi t.kind, vb t.b, vb t.n.neg, rwU t.n.m, vi t.n.e, vs t.s, rwS t.k, .own 90000002]), (90000002, .sl 29 .tree (t.v.take i))]) (rfl) (by have h2 : t.v.take i = t.v := List.take_of_length_le (by omega); rw [h2]) (ret_okB _ hs (by kernel_rfl) (by kernel_rfl))
abbrev eL (l k : List Int) : List Opn := editsF (madeF 4 l).1 k
def xL (l k : List Int) : List Tree := (eL l k).map objT
theorem eL_len (l k : List Int) : (eL l k).length ≤ 13 := edits_len _ k
theorem xL_len (l k : List Int) : (xL l k).length = (eL l k).length := List.length_map _
theorem fineO_E {x : Opn} (h : OpE x) : fineO x := by
 refine ⟨by have := h.path.1; omega, by have := h.frm.1; omega, ?_⟩
 by_cases hv : x.op = 1 ∨ x.op = 3 ∨ x.op = 6
 ·exact goodN_fine (by decide) (h.val hv).1
 ·rw [h.noval (by omega) (by omega) (by omega)]; exact fine_zero
theorem fine_xL (l k : List Int) : fineT (arrT (xL l k)) := fine_arr (by have := eL_len l k; omega) (fun x hx => fineO_E (edits_E l k x hx))
theorem con19L (l k : List Int) (hk : k.length ≤ 100) : Con Tryz.prog I0 19 [.agg (encTree (madeF 4 l).1), .row (.int .i64) k] (.val (.row .opn (eL l k))) := (con19 _ k (made_E l).1 (by omega)).frz
theorem con14L (l k : List Int) : Con Tryz.prog I0 14 [.agg [vi 1, .row .opn (eL l k), vi 0, vb false, vb false, .row (.int .u32) [], vi 0, vs (ba []), .row .str [], .row .tree [], .row .strs []]] (.val (.tup [.agg (encTree (arrT (xL l k))), vi 0])) := by
 have h := con14 (patE (eL l k)) fine_zero (fun x hx => by simp at hx) (show (0 : Nat) < 1000000000 by decide) (fun x hx => fineO_E (edits_E l k x hx)) (by have := eL_len l k; show (eL l k).length < _; omega)
 rw [write_E (eL_len l k) (edits_E l k)] at h
 exact h
theorem con20L (l k : List Int) : ConB Tryz.prog I0 20 [.agg (encTree (arrT (xL l k)))] [] (.val (.agg [vi 6, vb false, vb false, .row (.int .u32) [], vi 0, vs (ba []), .row .str [], .own 90000002])) [(1001, .var [vi 6, vb false, vb false, .row (.int .u32) [], vi 0, vs (ba []), .row .str [], .own 90000002]), (90000002, .sl 29 .tree (xL l k))] := con20B _ (fine_xL l k)
theorem wrI (how : Int) (t : Tree) {c : Int} (h : (placeF how 6 == c) = true) : wrongT (placeF how 6) t = wrongT c t := by rw [eq_of_beq h]
theorem wrE {v : Int} (t : Tree) (h0 : (v == 0) = false) (h1 : (v == 1) = false) (h2 : (v == 2) = false) (h3 : (v == 3) = false) (h4 : (v == 4) = false) : wrongT v t = nul := by
 unfold wrongT
 rw [if_neg (by rw [h0]; decide), if_neg (by rw [h1]; decide), if_neg (by rw [h2]; decide), if_neg (by rw [h3]; decide), if_neg (by rw [h4]; decide)]
theorem con15L (l k : List Int) {i : Nat} {u : Tree} (h : Int) (hi : i < (xL l k).length) (hu : u = wrongT h ((xL l k).getD i (dflt .tree))) : Con Tryz.prog I0 15 [vi 1, .agg [vi 6, vb false, vb false, .row (.int .u32) [], vi 0, vs (ba []), .row .str [], .row .tree ((xL l k).set i u)]] (.val (.tup [.agg [vi 0, .row .opn [], vi 0, vb false, vb false, .row (.int .u32) [], vi 0, vs (ba []), .row .str [], .row .tree [], .row .strs []], vi 2])) := by
 have hi' : i < (eL l k).length := by rw [← xL_len]; exact hi
 have he := read_bad (eL_len l k) (edits_E l k) hi' h
 have hf : fineT (arrT ((xL l k).set i u)) := by
  have hx := ((fine_eq _).1 (fine_xL l k)).2
  refine (fine_eq _).2 ⟨⟨Ok.nil, by show (0 : Nat) < _; decide, by show (0 : Nat) < _; decide, by show ((xL l k).set i u).length < _; rw [List.length_set, xL_len]; have := eL_len l k; omega⟩, fineL_of (fun v hv => ?_)⟩
  rcases List.mem_or_eq_of_mem_set (show v ∈ (xL l k).set i u from hv) with hv | rfl
  ·exact fine_mem hx hv
  ·rw [hu]
   have hg : (xL l k).getD i (dflt .tree) = objT ((eL l k).getD i (dflt .opn)) := getD_map hi' _ _
   rw [hg]
   exact goodN_fine (by decide) (wrong_good (good_obj (edits_E l k _ (getD_mem hi' _))) h)
 have hc := con15 1 (arrT ((xL l k).set i u)) hf
 rw [hu, show ReadR 1 (arrT ((xL l k).set i (wrongT h ((xL l k).getD i (dflt .tree))))) = (Pat.zero, 2) from he] at hc
 rw [hu]
 exact hc
theorem fine_Z : fineP Pat.zero := ⟨fine_zero, by decide, fun x hx => by simp [Pat.zero] at hx, fun x hx => by simp [Pat.zero] at hx, by decide⟩
theorem con16Z : Con Tryz.prog I0 16 [.agg [vi 0, .row .opn [], vi 0, vb false, vb false, .row (.int .u32) [], vi 0, vs (ba []), .row .str [], .row .tree [], .row .strs []], .agg [vi 0, .row .opn [], vi 0, vb false, vb false, .row (.int .u32) [], vi 0, vs (ba []), .row .str [], .row .tree [], .row .strs []]] (.val (vb true)) := con16S Pat.zero fine_Z
def awA : Tree := arrT [.mk 7 false ⟨false, [], 0⟩ (ba []) [ba [111, 112]] [.mk 4 false ⟨false, [], 0⟩ (ba [97, 100, 100]) [] []]]
def awB : Tree := .mk 2 true ⟨false, [], 0⟩ (ba []) [] []
theorem fine_awA : fineT awA := goodN_fine (n := 300) (d := 3) (by decide) (good_items (by decide) (by decide) (fun u hu => by
 rw [List.mem_singleton.1 hu]
 refine obj_goodN (L := [(ba [111, 112], textT (ba [97, 100, 100]))]) (by decide) (by decide) (List.pairwise_singleton _ _) (fun p hp => ?_)
 rw [List.mem_singleton.1 hp]
 exact ⟨by kernel_rfl, good_text (by kernel_rfl)⟩))
theorem fine_awB : fineT awB := ⟨⟨Ok.nil, by decide, by decide, by decide⟩, trivial⟩
theorem con15A : Con Tryz.prog I0 15 [vi 1, .agg (encTree awA)] (.val (.tup [.agg [vi 0, .row .opn [], vi 0, vb false, vb false, .row (.int .u32) [], vi 0, vs (ba []), .row .str [], .row .tree [], .row .strs []], vi 2])) := by
 have h := con15 1 awA fine_awA
 rw [show ReadR 1 awA = (Pat.zero, 2) from by kernel_rfl] at h
 exact h
def patB : Pat := ⟨2, [], awB, []⟩
theorem con15B : Con Tryz.prog I0 15 [vi 2, .agg (encTree awB)] (.val (.tup [.agg (encP patB), vi 0])) := by
 have h := con15 2 awB fine_awB
 rw [show ReadR 2 awB = (patB, 0) from by kernel_rfl] at h
 exact h
theorem con51B : Con Tryz.prog I0 51 [.agg (encP patB)] (.val (vb true)) := by
 have h := con51 patB fine_awB (fun x hx => by simp [patB] at hx) (by decide) (fun x hx => by simp [patB] at hx) (by decide)
 rw [show checkP patB = true from by kernel_rfl] at h
 exact h
theorem con11  : Con Tryz.prog I0 11 [] (.val (vb true)) := by
 refine con_of Tryz.func11 rfl (Nat.le_of_ble_eq_true rfl) stab (fun w0 fz a hI hs => ?_)
 refine wL hs hI [(1, ⟨[(6, ciA 15 [vi 1, .agg [vi 6, vb false, vb false, nilv, vi 0, vs (ba []), nilv, rwT ([(Tree.mk 7 false ⟨false, [], 0⟩ (ba []) ([(ba [111, 112])]) ([(Tree.mk 4 false ⟨false, [], 0⟩ (ba [97, 100, 100]) ([]) ([]))]))])]] [] [2004] (.val (.tup [.agg [vi 0, .row .opn ([]), vi 0, vb false, vb false, rwU ([]), vi 0, vs (ba []), rwS ([]), rwT ([]), .row .strs ([])], vi 2])))], [], []⟩), (2, ⟨[(1, ciV 15 [vi 2, .agg [vi 2, vb true, vb false, nilv, vi 0, vs (ba []), nilv, nilv]] (.tup [.agg [vi 2, .row .opn ([]), vi 2, vb true, vb false, rwU ([]), vi 0, vs (ba []), rwS ([]), rwT ([]), .row .strs ([])], vi 0]))], [], []⟩), (3, ⟨[(13, ciV 51 [.agg [vi 2, .row .opn ([]), vi 2, vb true, vb false, rwU ([]), vi 0, vs (ba []), rwS ([]), rwT ([]), .row .strs ([])]] (vb true))], gg [3, 4, 1005, 7, 8, 9, 1010, 12, 13, 1014] [], []⟩)] [] 393925581631164455140722013215652985884673398700775578617858892578150 [true = true, true = true, true = true, true = true, true = true, true = true, true = true, true = true, true = true, true = true] .ret [(0, vb true)] [] ⟨⟨⟨ent15, Con.told (con15A) ⟨.inl rfl, .inr (.inr ⟨_, rfl, _, rfl, .inl rfl, .inl rfl, .inl rfl, .inr ⟨rfl, _, rfl⟩, .inl rfl, .inl rfl, .inr ⟨rfl, _, rfl⟩, .inl rfl, trivial⟩), trivial⟩⟩, tv⟩, ⟨⟨ent15, Con.told (con15B) ⟨.inl rfl, .inr (.inr ⟨_, rfl, _, rfl, .inl rfl, .inl rfl, .inl rfl, .inr ⟨rfl, _, rfl⟩, .inl rfl, .inl rfl, .inr ⟨rfl, _, rfl⟩, .inr ⟨rfl, _, rfl⟩, trivial⟩), trivial⟩⟩, tv⟩, ⟨⟨ent51, con51B⟩, tv⟩, tv⟩ ⟨rfl, rfl, rfl, rfl, rfl, rfl, rfl, rfl, rfl, rfl, tv⟩ fun a w hs => ?_
 exact rK (.val (vb true)) [] hs rfl
theorem objv_len (l k : List Int) {i : Nat} (hi : i < (xL l k).length) : ((xL l k).getD i (dflt .tree)).v.length < 100000000 := by
 have hi' : i < (eL l k).length := by rw [← xL_len]; exact hi
 rw [show (xL l k).getD i (dflt .tree) = objT ((eL l k).getD i (dflt .opn)) from getD_map hi' _ _]
 show (objV _).length < _
 unfold objV
 split <;> split <;> simp
theorem con4 (l k : List Int) (at_ how : Int) : Con Tryz.prog I0 4 [.row (.int .i64) l, .row (.int .i64) k, vi at_, vi how] (.val (vb true)) := by
 refine con_of Tryz.func4 rfl (Nat.le_of_ble_eq_true rfl) stab (fun w0 fz a hI hs => ?_)
 refine wp_seq ?_
 refine wN hs hI [] 25 [] .norm [(0, .row (.int .i64) l), (1, .row (.int .i64) k), (2, vi at_), (3, vi how)] [] tv fun a w hs => ?_
 refine then_norm ?_
 refine wp_seq ?_
 rcases bt (decide ((l.length : Int) > 60)) with b1 | b1
 ·skip
  have n1 := of_decide_eq_true b1
  refine wL hs hI [(2, ⟨[(0, ciV 11 [] (vb true))], [], []⟩), (1, ⟨[], gg [1007] [4, 5, 6], []⟩)] [true] 1850618171691601250 [ty b1, ty b1, ty b1, ty b1, true = true] .ret [(8, vb true)] [] ⟨⟨⟨ent11, con11⟩, tv⟩, tv, tv⟩ ⟨b1, b1, b1, b1, rfl, tv⟩ fun a w hs => ?_
  refine then_ret ?_
  exact rK (.val (vb true)) [] hs rfl
 ·skip
  have n1 := of_decide_eq_false b1
  rcases bt (decide ((k.length : Int) > 100)) with b2 | b2
  ·skip
   have n2 := of_decide_eq_true b2
   refine wL hs hI [(2, ⟨[(0, ciV 11 [] (vb true))], [], []⟩), (1, ⟨[], gg [4, 5, 6] [1007], []⟩)] [true] 28915908932685811360625 [ty b1, ty b1, ty b1, ty b1, ty b2] .ret [(8, vb true)] [] ⟨⟨⟨ent11, con11⟩, tv⟩, tv, tv⟩ ⟨b1, b1, b1, b1, b2, tv⟩ fun a w hs => ?_
   refine then_ret ?_
   exact rK (.val (vb true)) [] hs rfl
  ·skip
   have n2 := of_decide_eq_false b2
   refine wL hs hI [(1, ⟨[], gg [4, 5, 6] [1007], []⟩)] [false] 1814961433369954375 [ty b1, ty b1, ty b1, ty b1, ty b2] .norm [(0, .row (.int .i64) l), (1, .row (.int .i64) k), (2, vi at_), (3, vi how)] [] ⟨tv, tv⟩ ⟨b1, b1, b1, b1, b2, tv⟩ fun a w hs => ?_
   refine then_norm ?_
   refine wp_seq ?_
   refine wL hs hI [(3, ⟨[(1, ciV 13 [.row (.int .i64) l, vi 4] (aTr (((madeF 4 l).1)))), (3, ciV 19 [aTr (((madeF 4 l).1)), .row (.int .i64) k] (.row .opn (eL l k)))], [], []⟩)] [] 7629297265 [] .norm [(2, vi at_), (3, vi how), (9, .ptr 4005 0)] [(4005, .var [vi 1, .row .opn (eL l k), vi 0, vb false, vb false, nilv, vi 0, vs (ba []), nilv, nilv, nilv])] ⟨⟨⟨ent13, con13d 4 (by decide) l⟩, ⟨ent19, con19L l k (by omega)⟩, tv⟩, tv⟩ tv fun a w hs => ?_
   refine then_norm ?_
   refine wp_seq ?_
   refine wL hs hI [(4, ⟨[(1, ciV 14 [.agg [vi 1, .row .opn (eL l k), vi 0, vb false, vb false, nilv, vi 0, vs (ba []), nilv, nilv, nilv]] (.tup [aTr ((arrT (xL l k))), vi 0]))], [], []⟩)] [] 190734375015 [] .norm [(2, vi at_), (3, vi how), (9, .ptr 4005 0), (10, .ptr 5005 0), (11, vi 0)] [(4005, .var [vi 1, .row .opn (eL l k), vi 0, vb false, vb false, nilv, vi 0, vs (ba []), nilv, nilv, nilv]), (5005, bTr ((arrT (xL l k))))] ⟨⟨⟨ent14, Con.told (con14L l k) ⟨.inr (.inr ⟨_, rfl, _, rfl, .inl rfl, .inl rfl, .inl rfl, .inl rfl, .inl rfl, .inr ⟨rfl, _, rfl⟩, .inl rfl, .inl rfl, .inr ⟨rfl, _, rfl⟩, .inr ⟨rfl, _, rfl⟩, .inr ⟨rfl, _, rfl⟩, trivial⟩), trivial⟩⟩, tv⟩, tv⟩ tv fun a w hs => ?_
   refine then_norm ?_
   refine wp_seq ?_
   have b3 : ((((arrT (xL l k)).v).length : Int) != ((eL l k).length : Int)) = false := by show (((xL l k).length : Int) != ((eL l k).length : Int)) = false; rw [xL_len]; simp
   refine wL hs hI [(5, ⟨[], gg [3, 4, 5, 6, 7, 8, 9] [1010], []⟩)] [false] 11077645467594262758890787750 [false = false, false = false, false = false, false = false, false = false, false = false, false = false, false = false, ty b3] .norm [(2, vi at_), (3, vi how), (10, .ptr 5005 0)] [(5005, bTr ((arrT (xL l k))))] ⟨tv, tv⟩ ⟨rfl, rfl, rfl, rfl, rfl, rfl, rfl, rfl, b3, tv⟩ fun a w hs => ?_
   refine then_norm ?_
   refine wp_seq ?_
   rcases bt ((((arrT (xL l k)).v).length : Int) == 0) with b4 | b4
   ·skip
    have n4 := eq_of_beq b4
    refine wL hs hI [(8, ⟨[(0, ciV 11 [] (vb true))], [], []⟩)] [true] 4737582518750 [ty b4] .ret [(8, vb true)] [] ⟨⟨⟨ent11, con11⟩, tv⟩, tv⟩ ⟨b4, tv⟩ fun a w hs => ?_
    refine then_ret ?_
    exact rK (.val (vb true)) [] hs rfl
   ·skip
    have n4 := beq_eq_false_iff_ne.1 b4
    have hpl := placeF_in at_ ((arrT (xL l k)).v.length : Int) (by omega)
    have hvl : (arrT (xL l k)).v.length = (eL l k).length := xL_len l k
    have hxl := xL_len l k
    have hel := eL_len l k
    refine wN hs hI [false] 297362500 [ty b4] .norm [(2, vi at_), (3, vi how), (10, .ptr 5005 0)] [(5005, bTr ((arrT (xL l k))))] ⟨b4, tv⟩ fun a w hs => ?_
    refine then_norm ?_
    refine wp_seq ?_
    refine wL hs hI [(9, ⟨[(4, ciV 17 [vi at_, vi (((arrT (xL l k)).v).length : Int)] (vi (placeF at_ (((arrT (xL l k)).v).length : Int))))], [], []⟩)] [] 305158125 [] .norm [(3, vi how), (10, .ptr 5005 0), (12, vi (placeF at_ (((arrT (xL l k)).v).length : Int)))] [(5005, bTr ((arrT (xL l k))))] ⟨⟨⟨ent17, con17 _ _ (by first | decide | omega) (by first | decide | (have := eL_len l k; omega))⟩, tv⟩, tv⟩ tv fun a w hs => ?_
    refine then_norm ?_
    refine wp_seq ?_
    refine wL hs hI [(10, ⟨[(1, ciB 20 [aTr ((arrT (xL l k)))] [] (.val (.agg [vi 6, vb false, vb false, rwU ([]), vi 0, vs (ba []), rwS ([]), .own 90000002])) [] [(1001, .var [vi 6, vb false, vb false, rwU ([]), vi 0, vs (ba []), rwS ([]), .own 90000002]), (90000002, .sl 29 .tree (xL l k))] [(1001, 1011001), (90000002, 11001)])], [], []⟩)] [] 487515 [] .norm [(3, vi how), (12, vi (placeF at_ (((arrT (xL l k)).v).length : Int))), (13, .ptr 11002 0)] [(11001, .sl 29 .tree (xL l k)), (11002, .var [vi 6, vb false, vb false, rwU ([]), vi 0, vs (ba []), rwS ([]), .own 11001])] ⟨⟨⟨ent20, con20L l k⟩, tv⟩, tv⟩ tv fun a w hs => ?_
    refine then_norm ?_
    refine wp_seq ?_
    refine wN hs hI [] 7629298375 [0 ≤ (placeF at_ (((arrT (xL l k)).v).length : Int)) ∧ (placeF at_ (((arrT (xL l k)).v).length : Int)) < (xL l k).length, (placeF at_ (((arrT (xL l k)).v).length : Int)).toNat < (xL l k).length] .norm [(3, vi how), (12, vi (placeF at_ (((arrT (xL l k)).v).length : Int))), (13, .ptr 11002 0), (14, .ptr 12005 0)] [(11001, .sl 29 .tree (xL l k)), (11002, .var [vi 6, vb false, vb false, rwU ([]), vi 0, vs (ba []), rwS ([]), .own 11001]), (12005, bTr (((xL l k).getD ((placeF at_ (((arrT (xL l k)).v).length : Int)).toNat) (dflt .tree))))] ⟨(by omega), (by omega), tv⟩ fun a w hs => ?_
    refine then_norm ?_
    refine wp_cut (N := Tryz.f4.ntmps) (w0 := w0) (ow := noO fz) (T := [(12, vi (placeF at_ (((arrT (xL l k)).v).length : Int))), (13, .ptr 11002 0), (14, .ptr 12005 0)]) (B := [(11001, .sl 29 .tree (xL l k)), (11002, .var [vi 6, vb false, vb false, rwU ([]), vi 0, vs (ba []), rwS ([]), .own 11001]), (12005, bTr ((wrongT (placeF how 6) ((xL l k).getD ((placeF at_ (((arrT (xL l k)).v).length : Int)).toNat) (dflt .tree)))))]) (True) ?_ ?_
    ·skip
     rcases bt ((placeF how 6) == 0) with b5 | b5
     ·skip
      have n5 := eq_of_beq b5
      refine wL hs hI [(12, ⟨[(1, ciV 17 [vi how, vi 6] (vi (placeF how 6)))], [], []⟩), (15, ⟨[(1, ciV 21 [aTr (((xL l k).getD ((placeF at_ (((arrT (xL l k)).v).length : Int)).toNat) (dflt .tree))), vs (ba [111, 112])] (aTr ((unsetT ((xL l k).getD ((placeF at_ (((arrT (xL l k)).v).length : Int)).toNat) (dflt .tree)) (ba [111, 112])))))], [], []⟩)] [true] 119202414453890 [ty b5] .norm [(12, vi (placeF at_ (((arrT (xL l k)).v).length : Int))), (13, .ptr 11002 0), (14, .ptr 12005 0)] [(11001, .sl 29 .tree (xL l k)), (11002, .var [vi 6, vb false, vb false, rwU ([]), vi 0, vs (ba []), rwS ([]), .own 11001]), (12005, bTr ((unsetT ((xL l k).getD ((placeF at_ (((arrT (xL l k)).v).length : Int)).toNat) (dflt .tree)) (ba [111, 112]))))] ⟨⟨⟨ent17, con17 _ _ (by first | decide | omega) (by first | decide | (have := eL_len l k; omega))⟩, tv⟩, ⟨⟨ent21, con21 _ _ (objv_len l k (by omega))⟩, tv⟩, tv⟩ ⟨b5, tv⟩ fun a w hs => ?_
      refine then_norm ⟨trivial, ?_⟩
      exact (hs.cst [(12, vi (placeF at_ (((arrT (xL l k)).v).length : Int))), (13, .ptr 11002 0), (14, .ptr 12005 0)] [(11001, .sl 29 .tree (xL l k)), (11002, .var [vi 6, vb false, vb false, rwU ([]), vi 0, vs (ba []), rwS ([]), .own 11001]), (12005, bTr ((wrongT (placeF how 6) ((xL l k).getD ((placeF at_ (((arrT (xL l k)).v).length : Int)).toNat) (dflt .tree)))))] (by rw [wrI _ _ b5]; rfl)).rm [(11001, 11001), (11002, 11002), (12005, 12005)] (by kernel_rfl)
     ·skip
      have n5 := beq_eq_false_iff_ne.1 b5
      rcases bt ((placeF how 6) == 1) with b6 | b6
      ·skip
       have n6 := eq_of_beq b6
       refine wL hs hI [(12, ⟨[(1, ciV 17 [vi how, vi 6] (vi (placeF how 6)))], [], []⟩), (17, ⟨[(1, ciV 21 [aTr (((xL l k).getD ((placeF at_ (((arrT (xL l k)).v).length : Int)).toNat) (dflt .tree))), vs (ba [112, 97, 116, 104])] (aTr ((unsetT ((xL l k).getD ((placeF at_ (((arrT (xL l k)).v).length : Int)).toNat) (dflt .tree)) (ba [112, 97, 116, 104])))))], [], []⟩)] [false, true] 46566021307394922640 [ty b5, ty b6] .norm [(12, vi (placeF at_ (((arrT (xL l k)).v).length : Int))), (13, .ptr 11002 0), (14, .ptr 12005 0)] [(11001, .sl 29 .tree (xL l k)), (11002, .var [vi 6, vb false, vb false, rwU ([]), vi 0, vs (ba []), rwS ([]), .own 11001]), (12005, bTr ((unsetT ((xL l k).getD ((placeF at_ (((arrT (xL l k)).v).length : Int)).toNat) (dflt .tree)) (ba [112, 97, 116, 104]))))] ⟨⟨⟨ent17, con17 _ _ (by first | decide | omega) (by first | decide | (have := eL_len l k; omega))⟩, tv⟩, ⟨⟨ent21, con21 _ _ (objv_len l k (by omega))⟩, tv⟩, tv⟩ ⟨b5, b6, tv⟩ fun a w hs => ?_
       refine then_norm ⟨trivial, ?_⟩
       exact (hs.cst [(12, vi (placeF at_ (((arrT (xL l k)).v).length : Int))), (13, .ptr 11002 0), (14, .ptr 12005 0)] [(11001, .sl 29 .tree (xL l k)), (11002, .var [vi 6, vb false, vb false, rwU ([]), vi 0, vs (ba []), rwS ([]), .own 11001]), (12005, bTr ((wrongT (placeF how 6) ((xL l k).getD ((placeF at_ (((arrT (xL l k)).v).length : Int)).toNat) (dflt .tree)))))] (by rw [wrI _ _ b6]; rfl)).rm [(11001, 11001), (11002, 11002), (12005, 12005)] (by kernel_rfl)
      ·skip
       have n6 := beq_eq_false_iff_ne.1 b6
       rcases bt ((placeF how 6) == 2) with b7 | b7
       ·skip
        have n7 := eq_of_beq b7
        refine wL hs hI [(12, ⟨[(1, ciV 17 [vi how, vi 6] (vi (placeF how 6)))], [], []⟩), (19, ⟨[(2, ciV 22 [aTr (((xL l k).getD ((placeF at_ (((arrT (xL l k)).v).length : Int)).toNat) (dflt .tree))), vs (ba [109, 111, 114, 101]), .agg [vi 1, vb false, vb false, nilv, vi 0, vs (ba []), nilv, nilv]] (aTr ((setT ((xL l k).getD ((placeF at_ (((arrT (xL l k)).v).length : Int)).toNat) (dflt .tree)) (ba [109, 111, 114, 101]) (Tree.mk 1 false ⟨false, [], 0⟩ (ba []) ([]) ([]))))))], [], []⟩)] [false, false, true] 454747342472648962424219515 [ty b5, ty b6, ty b7] .norm [(12, vi (placeF at_ (((arrT (xL l k)).v).length : Int))), (13, .ptr 11002 0), (14, .ptr 12005 0)] [(11001, .sl 29 .tree (xL l k)), (11002, .var [vi 6, vb false, vb false, rwU ([]), vi 0, vs (ba []), rwS ([]), .own 11001]), (12005, bTr ((setT ((xL l k).getD ((placeF at_ (((arrT (xL l k)).v).length : Int)).toNat) (dflt .tree)) (ba [109, 111, 114, 101]) (Tree.mk 1 false ⟨false, [], 0⟩ (ba []) ([]) ([])))))] ⟨⟨⟨ent17, con17 _ _ (by first | decide | omega) (by first | decide | (have := eL_len l k; omega))⟩, tv⟩, ⟨⟨ent22, Con.told (con22 _ _ _ (objv_len l k (by omega))) ⟨.inl rfl, .inl rfl, .inr (.inr ⟨_, rfl, _, rfl, .inl rfl, .inl rfl, .inl rfl, .inr ⟨rfl, _, rfl⟩, .inl rfl, .inl rfl, .inr ⟨rfl, _, rfl⟩, .inr ⟨rfl, _, rfl⟩, trivial⟩), trivial⟩⟩, tv⟩, tv⟩ ⟨b5, b6, b7, tv⟩ fun a w hs => ?_
        refine then_norm ⟨trivial, ?_⟩
        exact (hs.cst [(12, vi (placeF at_ (((arrT (xL l k)).v).length : Int))), (13, .ptr 11002 0), (14, .ptr 12005 0)] [(11001, .sl 29 .tree (xL l k)), (11002, .var [vi 6, vb false, vb false, rwU ([]), vi 0, vs (ba []), rwS ([]), .own 11001]), (12005, bTr ((wrongT (placeF how 6) ((xL l k).getD ((placeF at_ (((arrT (xL l k)).v).length : Int)).toNat) (dflt .tree)))))] (by rw [wrI _ _ b7]; rfl)).rm [(11001, 11001), (11002, 11002), (12005, 12005)] (by kernel_rfl)
       ·skip
        have n7 := beq_eq_false_iff_ne.1 b7
        rcases bt ((placeF how 6) == 3) with b8 | b8
        ·skip
         have n8 := eq_of_beq b8
         refine wL hs hI [(12, ⟨[(1, ciV 17 [vi how, vi 6] (vi (placeF how 6)))], [], []⟩), (21, ⟨[(2, ciV 22 [aTr (((xL l k).getD ((placeF at_ (((arrT (xL l k)).v).length : Int)).toNat) (dflt .tree))), vs (ba [111, 112]), .agg [vi 4, vb false, vb false, nilv, vi 0, vs (ba [112, 117, 116]), nilv, nilv]] (aTr ((setT ((xL l k).getD ((placeF at_ (((arrT (xL l k)).v).length : Int)).toNat) (dflt .tree)) (ba [111, 112]) (Tree.mk 4 false ⟨false, [], 0⟩ (ba [112, 117, 116]) ([]) ([]))))))], [], []⟩)] [false, false, false, true] 177635683808559184646948264063265 [ty b5, ty b6, ty b7, ty b8] .norm [(12, vi (placeF at_ (((arrT (xL l k)).v).length : Int))), (13, .ptr 11002 0), (14, .ptr 12005 0)] [(11001, .sl 29 .tree (xL l k)), (11002, .var [vi 6, vb false, vb false, rwU ([]), vi 0, vs (ba []), rwS ([]), .own 11001]), (12005, bTr ((setT ((xL l k).getD ((placeF at_ (((arrT (xL l k)).v).length : Int)).toNat) (dflt .tree)) (ba [111, 112]) (Tree.mk 4 false ⟨false, [], 0⟩ (ba [112, 117, 116]) ([]) ([])))))] ⟨⟨⟨ent17, con17 _ _ (by first | decide | omega) (by first | decide | (have := eL_len l k; omega))⟩, tv⟩, ⟨⟨ent22, Con.told (con22 _ _ _ (objv_len l k (by omega))) ⟨.inl rfl, .inl rfl, .inr (.inr ⟨_, rfl, _, rfl, .inl rfl, .inl rfl, .inl rfl, .inr ⟨rfl, _, rfl⟩, .inl rfl, .inl rfl, .inr ⟨rfl, _, rfl⟩, .inr ⟨rfl, _, rfl⟩, trivial⟩), trivial⟩⟩, tv⟩, tv⟩ ⟨b5, b6, b7, b8, tv⟩ fun a w hs => ?_
         refine then_norm ⟨trivial, ?_⟩
         exact (hs.cst [(12, vi (placeF at_ (((arrT (xL l k)).v).length : Int))), (13, .ptr 11002 0), (14, .ptr 12005 0)] [(11001, .sl 29 .tree (xL l k)), (11002, .var [vi 6, vb false, vb false, rwU ([]), vi 0, vs (ba []), rwS ([]), .own 11001]), (12005, bTr ((wrongT (placeF how 6) ((xL l k).getD ((placeF at_ (((arrT (xL l k)).v).length : Int)).toNat) (dflt .tree)))))] (by rw [wrI _ _ b8]; rfl)).rm [(11001, 11001), (11002, 11002), (12005, 12005)] (by kernel_rfl)
        ·skip
         have n8 := beq_eq_false_iff_ne.1 b8
         rcases bt ((placeF how 6) == 4) with b9 | b9
         ·skip
          have n9 := eq_of_beq b9
          refine wL hs hI [(12, ⟨[(1, ciV 17 [vi how, vi 6] (vi (placeF how 6)))], [], []⟩), (23, ⟨[(2, ciV 22 [aTr (((xL l k).getD ((placeF at_ (((arrT (xL l k)).v).length : Int)).toNat) (dflt .tree))), vs (ba [112, 97, 116, 104]), .agg [vi 4, vb false, vb false, nilv, vi 0, vs (ba [97]), nilv, nilv]] (aTr ((setT ((xL l k).getD ((placeF at_ (((arrT (xL l k)).v).length : Int)).toNat) (dflt .tree)) (ba [112, 97, 116, 104]) (Tree.mk 4 false ⟨false, [], 0⟩ (ba [97]) ([]) ([]))))))], [], []⟩)] [false, false, false, false, true] 69388939037018129685526466711447657015 [ty b5, ty b6, ty b7, ty b8, ty b9] .norm [(12, vi (placeF at_ (((arrT (xL l k)).v).length : Int))), (13, .ptr 11002 0), (14, .ptr 12005 0)] [(11001, .sl 29 .tree (xL l k)), (11002, .var [vi 6, vb false, vb false, rwU ([]), vi 0, vs (ba []), rwS ([]), .own 11001]), (12005, bTr ((setT ((xL l k).getD ((placeF at_ (((arrT (xL l k)).v).length : Int)).toNat) (dflt .tree)) (ba [112, 97, 116, 104]) (Tree.mk 4 false ⟨false, [], 0⟩ (ba [97]) ([]) ([])))))] ⟨⟨⟨ent17, con17 _ _ (by first | decide | omega) (by first | decide | (have := eL_len l k; omega))⟩, tv⟩, ⟨⟨ent22, Con.told (con22 _ _ _ (objv_len l k (by omega))) ⟨.inl rfl, .inl rfl, .inr (.inr ⟨_, rfl, _, rfl, .inl rfl, .inl rfl, .inl rfl, .inr ⟨rfl, _, rfl⟩, .inl rfl, .inl rfl, .inr ⟨rfl, _, rfl⟩, .inr ⟨rfl, _, rfl⟩, trivial⟩), trivial⟩⟩, tv⟩, tv⟩ ⟨b5, b6, b7, b8, b9, tv⟩ fun a w hs => ?_
          refine then_norm ⟨trivial, ?_⟩
          exact (hs.cst [(12, vi (placeF at_ (((arrT (xL l k)).v).length : Int))), (13, .ptr 11002 0), (14, .ptr 12005 0)] [(11001, .sl 29 .tree (xL l k)), (11002, .var [vi 6, vb false, vb false, rwU ([]), vi 0, vs (ba []), rwS ([]), .own 11001]), (12005, bTr ((wrongT (placeF how 6) ((xL l k).getD ((placeF at_ (((arrT (xL l k)).v).length : Int)).toNat) (dflt .tree)))))] (by rw [wrI _ _ b9]; rfl)).rm [(11001, 11001), (11002, 11002), (12005, 12005)] (by kernel_rfl)
         ·skip
          have n9 := beq_eq_false_iff_ne.1 b9
          refine wL hs hI [(12, ⟨[(1, ciV 17 [vi how, vi 6] (vi (placeF how 6)))], [], []⟩)] [false, false, false, false, false] 111022302372870118921375616476953890 [ty b5, ty b6, ty b7, ty b8, ty b9] .norm [(12, vi (placeF at_ (((arrT (xL l k)).v).length : Int))), (13, .ptr 11002 0), (14, .ptr 12005 0)] [(11001, .sl 29 .tree (xL l k)), (11002, .var [vi 6, vb false, vb false, rwU ([]), vi 0, vs (ba []), rwS ([]), .own 11001]), (12005, .var [vi 1, vb false, vb false, nilv, vi 0, vs (ba []), nilv, nilv])] ⟨⟨⟨ent17, con17 _ _ (by first | decide | omega) (by first | decide | (have := eL_len l k; omega))⟩, tv⟩, tv⟩ ⟨b5, b6, b7, b8, b9, tv⟩ fun a w hs => ?_
          refine then_norm ⟨trivial, ?_⟩
          (have hs := (hs.rowB 12005 3 (.int .u32) [vi 1, vb false, vb false, nilv, vi 0, vs (ba []), nilv, nilv] (by kernel_rfl) (by kernel_rfl)).rmT [(12, vi (placeF at_ (((arrT (xL l k)).v).length : Int))), (13, .ptr 11002 0), (14, .ptr 12005 0)] [(11001, .sl 29 .tree (xL l k)), (11002, .var [vi 6, vb false, vb false, rwU ([]), vi 0, vs (ba []), rwS ([]), .own 11001]), (12005, .var [vi 1, vb false, vb false, rwU ([]), vi 0, vs (ba []), nilv, nilv])] [(11001, 11001), (11002, 11002), (12005, 12005)] (by kernel_rfl); have hs := (hs.rowB 12005 6 .str [vi 1, vb false, vb false, rwU ([]), vi 0, vs (ba []), nilv, nilv] (by kernel_rfl) (by kernel_rfl)).rmT [(12, vi (placeF at_ (((arrT (xL l k)).v).length : Int))), (13, .ptr 11002 0), (14, .ptr 12005 0)] [(11001, .sl 29 .tree (xL l k)), (11002, .var [vi 6, vb false, vb false, rwU ([]), vi 0, vs (ba []), rwS ([]), .own 11001]), (12005, .var [vi 1, vb false, vb false, rwU ([]), vi 0, vs (ba []), rwS ([]), nilv])] [(11001, 11001), (11002, 11002), (12005, 12005)] (by kernel_rfl); have hs := (hs.rowB 12005 7 .tree [vi 1, vb false, vb false, rwU ([]), vi 0, vs (ba []), rwS ([]), nilv] (by kernel_rfl) (by kernel_rfl)).rmT [(12, vi (placeF at_ (((arrT (xL l k)).v).length : Int))), (13, .ptr 11002 0), (14, .ptr 12005 0)] [(11001, .sl 29 .tree (xL l k)), (11002, .var [vi 6, vb false, vb false, rwU ([]), vi 0, vs (ba []), rwS ([]), .own 11001]), (12005, .var [vi 1, vb false, vb false, rwU ([]), vi 0, vs (ba []), rwS ([]), rwT ([])])] [(11001, 11001), (11002, 11002), (12005, 12005)] (by kernel_rfl); exact (hs.cst [(12, vi (placeF at_ (((arrT (xL l k)).v).length : Int))), (13, .ptr 11002 0), (14, .ptr 12005 0)] [(11001, .sl 29 .tree (xL l k)), (11002, .var [vi 6, vb false, vb false, rwU ([]), vi 0, vs (ba []), rwS ([]), .own 11001]), (12005, bTr ((wrongT (placeF how 6) ((xL l k).getD ((placeF at_ (((arrT (xL l k)).v).length : Int)).toNat) (dflt .tree)))))] (by rw [wrE _ b5 b6 b7 b8 b9]; rfl)).rm [(11001, 11001), (11002, 11002), (12005, 12005)] (by kernel_rfl))
    ·intro hF a w hs
     refine wL hs hI [(25, ⟨[(1, ciA 15 [vi 1, .agg [vi 6, vb false, vb false, rwU ([]), vi 0, vs (ba []), rwS ([]), rwT ((xL l k).set ((placeF at_ (((arrT (xL l k)).v).length : Int)).toNat) (Tree.et (wrongT (placeF how 6) ((xL l k).getD ((placeF at_ (((arrT (xL l k)).v).length : Int)).toNat) (dflt .tree)))))]] [] [11001] (.val (.tup [.agg [vi 0, .row .opn ([]), vi 0, vb false, vb false, rwU ([]), vi 0, vs (ba []), rwS ([]), rwT ([]), .row .strs ([])], vi 2])))], [], []⟩), (26, ⟨[(5, ciV 16 [.agg [vi 0, .row .opn ([]), vi 0, vb false, vb false, rwU ([]), vi 0, vs (ba []), rwS ([]), rwT ([]), .row .strs ([])], .agg [vi 0, nilv, vi 0, vb false, vb false, nilv, vi 0, vs (ba []), nilv, nilv, nilv]] (vb true)), (8, ciV 11 [] (vb true))], gg [3, 4, 5, 1006, 8, 1009] [], []⟩)] [] 673289549113465778070036554708480853576648125 [0 ≤ (placeF at_ (((arrT (xL l k)).v).length : Int)) ∧ (placeF at_ (((arrT (xL l k)).v).length : Int)) < (xL l k).length, (placeF at_ (((arrT (xL l k)).v).length : Int)).toNat < (xL l k).length, true = true, true = true, true = true, true = true, true = true, true = true] .ret [(8, vb true)] [] ⟨⟨⟨ent15, con15L l k (placeF how 6) (by omega) (Tree.eta' _)⟩, tv⟩, ⟨⟨ent16, Con.told (con16Z) ⟨.inl rfl, .inr (.inr ⟨_, rfl, _, rfl, .inl rfl, .inr ⟨rfl, _, rfl⟩, .inl rfl, .inl rfl, .inl rfl, .inr ⟨rfl, _, rfl⟩, .inl rfl, .inl rfl, .inr ⟨rfl, _, rfl⟩, .inr ⟨rfl, _, rfl⟩, .inr ⟨rfl, _, rfl⟩, trivial⟩), trivial⟩⟩, ⟨ent11, con11⟩, tv⟩, tv⟩ ⟨(by omega), (by omega), rfl, rfl, rfl, rfl, rfl, rfl, tv⟩ fun a w hs => ?_
     exact rK (.val (vb true)) [] hs rfl
theorem law_WireStrict (l k : List Int) (at_ how : Int) : Con Tryz.prog I0 4 [.row (.int .i64) l, .row (.int .i64) k, vi at_, vi how] (.val (vb true)) := con4 l k at_ how
end Go.Proofs.YtondpnipoogoiaaGreatDoor.F
namespace Go.Proofs.YtondpnipoogoiaaGreatDoor.X
open Go.ChangeShapes Go.WideShapes Go.ChangeAt Go.RowKit
theorem rl_wireStrict {W : World} {fz : Nat → Prop} {η : Nat → Option Value} {v0 : Value} {l0 : List Int} (y0 : Go.Proofs.YtondpnipoogoiaaGreatDoor.F.R W fz η v0 (.row (.int .i64) l0)) {v1 : Value} {l1 : List Int} (y1 : Go.Proofs.YtondpnipoogoiaaGreatDoor.F.R W fz η v1 (.row (.int .i64) l1)) {a2 : Int} {a3 : Int} : Go.Proofs.YtondpnipoogoiaaGreatDoor.F.RL W fz η #[v0, v1, .int .i64 a2, .int .i64 a3] [.row (.int .i64) l0, .row (.int .i64) l1, .lit (.int .i64 a2), .lit (.int .i64 a3)] := by
 refine ⟨rfl, fun j v a hv ha => ?_⟩
 rcases j with _ | j
 ·simp only [List.getElem?_toArray, List.getElem?_cons_zero, List.getElem?_cons_succ, Option.some.injEq] at hv ha
  subst hv ha
  exact y0
 rcases j with _ | j
 ·simp only [List.getElem?_toArray, List.getElem?_cons_zero, List.getElem?_cons_succ, Option.some.injEq] at hv ha
  subst hv ha
  exact y1
 rcases j with _ | j
 ·simp only [List.getElem?_toArray, List.getElem?_cons_zero, List.getElem?_cons_succ, Option.some.injEq] at hv ha
  subst hv ha
  exact .lit _
 rcases j with _ | j
 ·simp only [List.getElem?_toArray, List.getElem?_cons_zero, List.getElem?_cons_succ, Option.some.injEq] at hv ha
  subst hv ha
  exact .lit _
 ·simp at ha
theorem contractWireStrict (H : Type) (enc : TypeId × Value → H) (W : World) (base : Nat) (args : Array Value) (ds gs : List (DataW H)) (before : List MemPlace)
  (hval : ∀ (j : Nat) t v, Tryz.f4.params[j]? = some t → args[j]? = some v → Value.okWide Tryz.prog W .any base t v)
  (hW : DataW.Whole enc Tryz.prog Tryz.f4.params.toList Rows.wireStrictSpec.vars false W args.toList ds gs before) (hL : laidMetH Tryz.prog Rows.wireStrictRow.laid W) (hS : W.ShapedOpen Tryz.prog) :
  Calls Tryz.prog 4 args W fun e W' => ∃ v, e = .returned v ∧ Rows.wireStrictSpec.post enc Tryz.prog Tryz.f4 false true false false W args v W' := by
 have hW' := hW
 obtain ⟨p, q, hA0, hV, rfl, hfz, hnd⟩ := hW
 have hA : DataW.TrodAll enc Tryz.prog W 0 (fun _ => true) true Tryz.f4.params.toList args.toList ds p := hA0
 rw [Tryz.params4] at hA hval
 obtain ⟨v0, vs0, d0, ds0, p0, q0, hargs, rfl, rfl, h0, r0⟩ := trodAll_cons hA
 obtain ⟨v1, vs1, d1, ds1, p1, q1, rfl, rfl, rfl, h1, r1⟩ := trodAll_cons r0
 obtain ⟨v2, vs2, d2, ds2, p2, q2, rfl, rfl, rfl, h2, r2⟩ := trodAll_cons r1
 obtain ⟨v3, vs3, d3, ds3, p3, q3, rfl, rfl, rfl, h3, r3⟩ := trodAll_cons r2
 obtain ⟨rfl, rfl, rfl⟩ := trodAll_nil r3
 obtain rfl : args = #[v0, v1, v2, v3] := by cases args; simp_all
 obtain ⟨rfl, rfl⟩ := trodVars_none hV
 have k0 := h0
 have lt0 : ∀ x ∈ p0, x.block < W.heap.size := by obtain ⟨m, hm⟩ := k0; exact DataW.trod_lt m _ _ _ hm
 obtain ⟨a0, y0⟩ := open_rowI (hval 0 22 v0 rfl rfl) h0
 have k1 := h1
 have lt1 : ∀ x ∈ p1, x.block < W.heap.size := by obtain ⟨m, hm⟩ := k1; exact DataW.trod_lt m _ _ _ hm
 obtain ⟨a1, y1⟩ := open_rowI (hval 1 22 v1 rfl rfl) h1
 obtain ⟨a2, rfl, rfl, rfl, w2⟩ := open_int Tryz.underlying3 (hval 2 3 v2 rfl rfl) h2
 obtain ⟨a3, rfl, rfl, rfl, w3⟩ := open_int Tryz.underlying3 (hval 3 3 v3 rfl rfl) h3
 clear hA0
 have hv1 : Go.Proofs.YtondpnipoogoiaaGreatDoor.F.RL W (fun k => k < W.heap.size) Go.Proofs.YtondpnipoogoiaaGreatDoor.F.noη #[v0, v1, .int .i64 a2, .int .i64 a3] [.row (.int .i64) a0, .row (.int .i64) a1, .lit (.int .i64 a2), .lit (.int .i64 a3)] := rl_wireStrict y0 y1
 refine (Go.Proofs.YtondpnipoogoiaaGreatDoor.F.law_WireStrict a0 a1 a2 a3 W _ _ (laid_of hL hS) (fun k h => h) hv1).mono fun e W' hp => ?_
 obtain ⟨⟨v, rfl, hR⟩, bel⟩ := hp
 obtain rfl := hR.lit_inv
 exact ⟨_, rfl, _, _, _, [], _, [], hW', trodAll_mk1 (shut_bool Tryz.underlying4 _), (trodAll_cons_mk (Below.trod laidOut (by kernel_rfl) (of_decide_eq_true (by kernel_rfl)) k0 bel lt0) (trodAll_cons_mk (Below.trod laidOut (by kernel_rfl) (of_decide_eq_true (by kernel_rfl)) k1 bel lt1) (trodAll_cons_mk (shut_int Tryz.underlying3 w2) (trodAll_cons_mk (shut_int Tryz.underlying3 w3) trodAll_mk0)))), rfl, bel.frame _, fun h => by cases h⟩
theorem readsWireStrict (os : Os) {H : Type} (enc : TypeId × Value → H) : ∃ places, DataW.whole enc Tryz.prog ((laidWorld os).forCall (fun _ _ => 0) ⟨#[], #[.slice none 0 0, .slice none 0 0, .int .i64 0, .int .i64 0], []⟩).memory Tryz.f4.params.toList Rows.wireStrictSpec.vars false #[Value.slice none 0 0, Value.slice none 0 0, Value.int .i64 0, Value.int .i64 0].toList 8 = some ([.nil, .nil, .lit (.int .i64 0), .lit (.int .i64 0)], [], places) :=
 ⟨[], by kernel_rfl⟩
theorem metWireStrict (os : Os) : laidMet Tryz.prog Rows.wireStrictRow.laid ((laidWorld os).forCall (fun _ _ => 0) ⟨#[], #[.slice none 0 0, .slice none 0 0, .int .i64 0, .int .i64 0], []⟩).memory :=
 laidMet_of_run' 8 (by kernel_rfl) (by kernel_rfl)
theorem liftedWireStrict (os : Os) (started : os.Started) (H : Type) (enc : TypeId × Value → H) (F : Stop.Interp) :
  ReturnsInHanded {} Tryz.checked os 4 .any ((OpenSpec.ofChange Rows.wireStrictSpec).preRow enc Tryz.prog Tryz.f4 Rows.wireStrictRow.domain false Rows.wireStrictRow.laid) (((OpenSpec.ofChange Rows.wireStrictSpec).at F).post enc Tryz.prog Tryz.f4 false true false false) := by
 obtain ⟨places, hx⟩ := readsWireStrict os enc
 refine returnsInHanded_of_row (C := Tryz.checked) (s := OpenSpec.ofChange Rows.wireStrictSpec) own started (by kernel_rfl) Tryz.func4
  (witness_row_at (enc := enc) (C := Tryz.checked) false (laidWorld os) #[.slice none 0 0, .slice none 0 0, .int .i64 0, .int .i64 0] rfl (by kernel_rfl) (by kernel_rfl) (by kernel_rfl)
   (OpenSpec.preRow_of_cond 8 hx (by kernel_rfl) (fun k hk => by cases hk) (by kernel_rfl) (metWireStrict os))) ?_
 intro W base args ds gs before hval hW _ _ _ hL hS _
 exact contractWireStrict H enc W base args ds gs before hval hW hL hS
theorem saidWireStrict : Rows.WireStrictSaid :=
 OpenClaim.holds_of_cond 4 Tryz.f4 rfl rfl rfl rfl rfl rfl rfl ⟨rfl, rfl, rfl, rfl, rfl⟩ rfl rfl rfl rfl rfl (by kernel_rfl) Tryz.func4 (by kernel_rfl)
  (of_decide_eq_true (by kernel_rfl)) (by unfold Func.isWrapper; first | (rw [if_pos (by decide +kernel)]; kernel_rfl) | (rw [if_neg (by decide +kernel)]; exact ⟨rfl, rfl⟩))
  (fun os started H enc _ F => by rw [OpenClaim.pre_eq_preRow]; exact liftedWireStrict os started H enc F)
theorem plainWireStrict (f : FuncId) (fn : Func) (hf : Tryz.pinned.checked.prog.funcNamed "erratum/erratumlaw18.WireStrict" = some f) (hfn : Tryz.pinned.checked.prog.funcs[f]? = some fn) :
  true = Tryz.pinned.checked.prog.looks [] ∧ ∀ (j : Nat) t, fn.params[j]? = some t → Tryz.pinned.checked.prog.wantsStandIn t = false := by
 obtain rfl : f = 4 := Option.some.inj ((show Tryz.prog.funcNamed "erratum/erratumlaw18.WireStrict" = some 4 by kernel_rfl).symm.trans hf) |>.symm
 obtain rfl : fn = Tryz.f4 := (Option.some.inj (Tryz.func4.symm.trans hfn)).symm
 refine ⟨by kernel_rfl, fun j t ht => ?_⟩
 rw [Tryz.params4] at ht
 have hm : t = 22 ∨ t = 22 ∨ t = 3 ∨ t = 3 := by simpa using Array.mem_of_getElem? ht
 rcases hm with rfl | rfl | rfl | rfl
 ·exact (show Tryz.prog.wantsStandIn 22 = false by kernel_rfl)
 ·exact (show Tryz.prog.wantsStandIn 22 = false by kernel_rfl)
 ·exact (show Tryz.prog.wantsStandIn 3 = false by kernel_rfl)
 ·exact (show Tryz.prog.wantsStandIn 3 = false by kernel_rfl)
theorem cardWireStrict : Rows.WireStrictCardSaid :=
 Claim7.holds_tied_plain_at .later [] _ _ _ _ saidWireStrict (fun _ h => by cases h) (by kernel_rfl) (fun _ h => by cases h) wireStrict_row_tie rfl ⟨rfl, rfl⟩ (by kernel_rfl) rfl plainWireStrict (by kernel_rfl)
end Go.Proofs.YtondpnipoogoiaaGreatDoor.X
