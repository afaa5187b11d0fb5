import Derived.Test.YtfimffgfnhplkaaGreatDoorS7
import Derived.Test.YtfimffgfnhplkaaGreatDoorS5
import Derived.Lib.SplitLaws
set_option maxRecDepth 100000
set_option linter.unusedVariables false
set_option linter.unusedSimpArgs false
namespace Go.Proofs.YtfimffgfnhplkaaGreatDoor.F
open Go Go.RowKit
structure OneOk (t : Tree) : Prop where
 own : ownO t = true
 bulk : bulk t ≤ 10
 ok : Ok t.n.m
 len : t.n.m.length ≤ 3
 k : t.k.length ≤ 3
 nd : Nodup (mems t)
 sorted : ((mems t).map (·.1)).Pairwise ltB
 texts : ∀ p ∈ mems t, textOk p.1 = true
def GoodT : Nat → Tree → Prop
 | 0, _ => False
 | d + 1, t => OneOk t ∧ t.v.length ≤ 3 ∧ ∀ u ∈ t.v, GoodT d u
theorem good_fine : ∀ {d : Nat} {t : Tree}, GoodT d t → fineT t
 | 0, _, h => h.elim
 | d + 1, t, ⟨h1, h2, h3⟩ => by
  have hl : ∀ l : List Tree, (∀ u ∈ l, fineT u) → fineL l := by
   intro l
   induction l with
   | nil => intro _; trivial
   | cons x l ih => exact fun h => ⟨h x (by simp), ih (fun u hu => h u (by simp [hu]))⟩
  rw [fine_eq]
  exact ⟨⟨h1.ok, by have := h1.len; omega, by have := h1.k; omega, by omega⟩, hl _ (fun u hu => good_fine (h3 u hu))⟩
theorem nodesL_B {B : Nat} : ∀ {l : List Tree}, (∀ u ∈ l, nodes u ≤ B) → nodesL l ≤ l.length * B
 | [], _ => by simp [nodesL]
 | x :: l, h => by
  have h1 := h x (by simp)
  have h2 := nodesL_B (l := l) (fun u hu => h u (by simp [hu]))
  simp only [nodesL, List.length_cons, Nat.succ_mul]; omega
def mostN : Nat → Nat
 | 0 => 0
 | d + 1 => 1 + 3 * mostN d
theorem good_nodes : ∀ {d : Nat} {t : Tree}, GoodT d t → nodes t ≤ mostN d
 | 0, _, h => h.elim
 | d + 1, t, ⟨h1, h2, h3⟩ => by
  have h := nodesL_B (fun u hu => good_nodes (h3 u hu))
  have h4 := nodes_eq t
  have h5 : t.v.length * mostN d ≤ 3 * mostN d := Nat.mul_le_mul_right _ h2
  simp only [mostN]; omega
theorem chk_good : ∀ {d : Nat} {t : Tree} {e l : Int}, GoodT d t → e + d ≤ 65 → (nodes t : Int) ≤ l → (chk t e l).1 = true ∧ (chk t e l).2 = l - nodes t
 | 0, _, _, _, h, _, _ => h.elim
 | d + 1, t, e, l, ⟨h1, h2, h3⟩, he, hl => by
  have hn := nodes_eq t
  have key : ∀ (v : List Tree) (l : Int), (∀ u ∈ v, GoodT d u) → (nodesL v : Int) ≤ l → (chkL v (e + 1) l).1 = true ∧ (chkL v (e + 1) l).2 = l - nodesL v := by
   intro v
   induction v with
   | nil => intro l _ _; simp [chkL, nodesL]
   | cons x v ih =>
    intro l hv hl
    simp only [nodesL] at hl
    have hx := chk_good (e := e + 1) (l := l) (hv x (by simp)) (by omega) (by omega)
    simp only [chkL]
    rw [if_pos hx.1, hx.2]
    have := ih (l - nodes x) (fun u hu => hv u (by simp [hu])) (by omega)
    simp only [nodesL]
    exact ⟨this.1, by rw [this.2]; omega⟩
  rw [chk_eq, if_neg (by
   rintro (h | h | h)
   ·omega
   ·omega
   ·rw [h1.own] at h; cases h)]
  have := key t.v (l - 1) h3 (by omega)
  exact ⟨this.1, by rw [this.2]; omega⟩
theorem good_valid {d : Nat} {t : Tree} (h : GoodT d t) (hd : d ≤ 5) : validT t = true := by
 have hn := good_nodes h
 have hm : mostN d ≤ 121 := by
  have : ∀ d, d ≤ 5 → mostN d ≤ 121 := by decide
  exact this d hd
 exact (chk_good h (by omega) (by omega)).1
theorem mem_cutV {t : Tree} {x : ByteArray} (h : memB t x = true) : memV t x ∈ t.v := by
 have h0 : idxT x (cutK t) ≥ 0 := of_decide_eq_true h
 have h1 := idxT_in x (cutK t)
 have h2 := cut_len t
 rw [(memV_pos h0).1]
 have h3 : (idxT x (cutK t)).toNat < (cutV t).length := by omega
 refine cutV_sub ?_
 rw [List.getD_eq_getElem?_getD, List.getElem?_eq_getElem h3]
 exact List.getElem_mem h3
theorem leaf {d : Nat} {t : Tree} (h : OneOk t) (hv : t.v = []) : GoodT (d + 1) t := ⟨h, by rw [hv]; decide, fun u hu => by rw [hv] at hu; simp at hu⟩
theorem nd_leaf {t : Tree} (h : t.v = []) : Nodup (mems t) := by
 have : (mems t).length = 0 := by
  have h1 : ((mems t).map (·.2)).length = (cutV t).length := by rw [mems_v]
  rw [List.length_map] at h1
  rw [h1]; unfold cutV
  split
  rw [h, List.take_nil]; rfl
  rfl
 rw [List.eq_nil_of_length_eq_zero this]; exact List.nodup_nil
theorem no_mems {t : Tree} (h : t.v = []) : mems t = [] := by
 have : (mems t).length = 0 := by
  have h1 : ((mems t).map (·.2)).length = (cutV t).length := by rw [mems_v]
  rw [List.length_map] at h1
  rw [h1]; unfold cutV
  split
  rw [h, List.take_nil]; rfl
  rfl
 exact List.eq_nil_of_length_eq_zero this
theorem so_leaf {t : Tree} (h : t.v = []) : ((mems t).map (·.1)).Pairwise ltB := by rw [no_mems h]; exact List.Pairwise.nil
theorem te_leaf {t : Tree} (h : t.v = []) : ∀ p ∈ mems t, textOk p.1 = true := by rw [no_mems h]; intro p hp; simp at hp
theorem one_nul : OneOk nul := ⟨by kernel_rfl, by decide, Ok.nil, Nat.zero_le _, Nat.zero_le _, nd_leaf rfl, so_leaf rfl, te_leaf rfl⟩
theorem one_bool (b : Bool) : OneOk (.mk 2 b ⟨false, [], 0⟩ (ba []) [] []) := ⟨by cases b <;> kernel_rfl, by cases b <;> decide, Ok.nil, Nat.zero_le _, Nat.zero_le _, nd_leaf rfl, so_leaf rfl, te_leaf rfl⟩
theorem one_num {n : Num} (h : FineN n) : OneOk (.mk 3 false n (ba []) [] []) := by
 refine ⟨?_, ?_, h.ok, h.len, Nat.zero_le _, nd_leaf rfl, so_leaf rfl, te_leaf rfl⟩
 simp [ownO, truthO, numO, textO, keysO, itemsO, Tree.kind, Tree.b, Tree.n, Tree.s, Tree.k, Tree.v, h.check]
 have := h.len
 rw [bulk_3 rfl]; show 1 + n.m.length ≤ 10; omega
theorem one_text {s : ByteArray} (h : textOk s = true) (h2 : s.size ≤ 9) : OneOk (.mk 4 false ⟨false, [], 0⟩ s [] []) := by
 refine ⟨?_, ?_, Ok.nil, Nat.zero_le _, Nat.zero_le _, nd_leaf rfl, so_leaf rfl, te_leaf rfl⟩
 simp [ownO, truthO, numO, ownN, textO, keysO, itemsO, Tree.kind, Tree.b, Tree.n, Tree.s, Tree.k, Tree.v, h]
 rw [bulk_4 rfl]; show 1 + s.size ≤ 10; omega
theorem one_bytes {s : ByteArray} (h2 : s.size ≤ 9) : OneOk (.mk 5 false ⟨false, [], 0⟩ s [] []) := by
 refine ⟨?_, ?_, Ok.nil, Nat.zero_le _, Nat.zero_le _, nd_leaf rfl, so_leaf rfl, te_leaf rfl⟩
 simp [ownO, truthO, numO, ownN, textO, keysO, itemsO, Tree.kind, Tree.b, Tree.n, Tree.s, Tree.k, Tree.v]; exact decide_eq_true (by omega)
 rw [bulk_5 rfl]; show 1 + s.size ≤ 10; omega
theorem one_arr {v : List Tree} (h : v.length ≤ 3) : OneOk (.mk 6 false ⟨false, [], 0⟩ (ba []) [] v) := by
 have hm : mems (.mk 6 false ⟨false, [], 0⟩ (ba []) [] v) = [] := mems_none (by show ¬ (6 : Int) = 7; decide)
 refine ⟨?_, (by rw [bulk_0 (by show ¬ (6 : Int) = 3; decide) (by show ¬ (6 : Int) = 4; decide) (by show ¬ (6 : Int) = 5; decide)]; decide), Ok.nil, Nat.zero_le _, Nat.zero_le _, ?_, by rw [hm]; exact List.Pairwise.nil, by rw [hm]; intro p hp; simp at hp⟩
 simp [ownO, truthO, numO, ownN, textO, keysO, itemsO, Tree.kind, Tree.b, Tree.n, Tree.s, Tree.k, Tree.v]; exact decide_eq_true (by omega)
 rw [mems_none (by show ¬ (6 : Int) = 7; decide)]; exact List.nodup_nil
theorem txtM_ok {v : Int} (h : VF v) : textOk (txtM v) = true ∧ (txtM v).size ≤ 9 := by
 have h9 := h.m9
 unfold txtM
 generalize hx : ((v.tdiv 12).tmod 9).toNat * 1 = n
 have hn : n < 9 := by omega
 clear hx
 revert hn; revert n; decide +kernel
theorem bytM_ok {v : Int} (h : VF v) : (bytM v).size ≤ 9 := by
 have h5 := h.m5
 unfold bytM
 generalize hx : ((v.tdiv 12).tmod 5).toNat = n
 have hn : n < 5 := by omega
 clear hx
 revert hn; revert n; decide +kernel
theorem nmM_ok {v : Int} (h : VF v) (i : Nat) : textOk (nmM v i) = true := by
 have h8 := nm8 h i
 unfold nmM
 generalize hx : (((v.tdiv 48) + 3 * (i : Int)).tmod 8).toNat = n
 have hn : n < 8 := by omega
 clear hx
 revert hn; revert n; decide +kernel
theorem gtB_iff {a b : ByteArray} : gtB a b = true ↔ ltB b a := by
 unfold gtB
 rcases ltB_tri a b with h | h | h
 rw [ltB_less.2 h]; simp; exact fun h2 => ltB_irrefl _ (ltB_trans h h2)
 subst h; simp [ltB_irrefl]
 have h1 : Op.bytesLess a.toList b.toList = false := by
  cases hb : Op.bytesLess a.toList b.toList with
  | false => rfl
  | true => exact absurd (ltB_trans h (ltB_less.1 hb)) (ltB_irrefl _)
 have h2 : (a.toList == b.toList) = false := by
  cases hb : a.toList == b.toList with
  | false => rfl
  | true => have := toList_inj (eq_of_beq hb); subst this; exact absurd h (ltB_irrefl _)
 rw [h1, h2]; simp [h]
theorem put_mem {x : ByteArray} {v : Tree} {p : ByteArray × Tree} : ∀ {l : Mem}, p ∈ putA x v l → p = (x, v) ∨ p ∈ l
 | [], h => by simp [putA] at h; exact .inl h
 | (y, u) :: l, h => by
  simp only [putA] at h
  split at h
  rcases List.mem_cons.1 h with h | h
  exact .inl h
  exact .inr h
  rcases List.mem_cons.1 h with h | h
  exact .inr (by simp [h])
  rcases put_mem h with h | h
  exact .inl h
  exact .inr (by simp [h])
theorem rep_mem {x : ByteArray} {v : Tree} {p : ByteArray × Tree} : ∀ {l : Mem}, p ∈ repA x v l → p = (x, v) ∨ p ∈ l
 | [], h => by simp [repA] at h
 | (y, u) :: l, h => by
  simp only [repA] at h
  split at h
  rename_i he
  rw [eqT_iff] at he
  subst he
  rcases List.mem_cons.1 h with h | h
  exact .inl h
  exact .inr (by simp [h])
  rcases List.mem_cons.1 h with h | h
  exact .inr (by simp [h])
  rcases rep_mem h with h | h
  exact .inl h
  exact .inr (by simp [h])
theorem ins_mem {x : ByteArray} {v : Tree} {p : ByteArray × Tree} {l : Mem} (h : p ∈ insA x v l) : p = (x, v) ∨ p ∈ l := by
 unfold insA at h
 split at h
 exact rep_mem h
 exact put_mem h
theorem put_sorted {x : ByteArray} {v : Tree} : ∀ {l : Mem}, x ∉ l.map (·.1) → (l.map (·.1)).Pairwise ltB → ((putA x v l).map (·.1)).Pairwise ltB
 | [], _, _ => by simp [putA]
 | (y, u) :: l, hx, h => by
  have hall := h
  simp only [List.map_cons, List.mem_cons, not_or] at hx
  rw [List.map_cons, List.pairwise_cons] at h
  simp only [putA]
  split
  rename_i hg
  rw [gtB_iff] at hg
  rw [List.map_cons, List.pairwise_cons]
  refine ⟨fun z hz => ?_, hall⟩
  rw [List.map_cons, List.mem_cons] at hz
  rcases hz with rfl | hz
  exact hg
  exact ltB_trans hg (h.1 z hz)
  rename_i hg
  rw [List.map_cons, List.pairwise_cons]
  refine ⟨fun z hz => ?_, put_sorted hx.2 h.2⟩
  obtain ⟨p, hp, rfl⟩ := List.mem_map.1 hz
  rcases put_mem hp with rfl | hp
  rcases ltB_tri y x with h3 | h3 | h3
  exact h3
  exact absurd h3.symm hx.1
  exact absurd (gtB_iff.2 h3) hg
  exact h.1 _ (List.mem_map.2 ⟨p, hp, rfl⟩)
theorem ins_sorted {x : ByteArray} {v : Tree} {l : Mem} (h : (l.map (·.1)).Pairwise ltB) : ((insA x v l).map (·.1)).Pairwise ltB := by
 unfold insA
 split
 rw [keys_rep]; exact h
 rename_i hn
 exact put_sorted (fun hm => hn (look_in hm)) h
theorem names_ok {l : List ByteArray} (h1 : ∀ x ∈ l, textOk x = true) (h2 : l.Pairwise ltB) (h3 : l.length ≤ 300) : namesOk l = true := by
 unfold namesOk
 rw [decide_eq_true (by omega), Bool.and_true]
 refine all_yes' (fun j hj => ?_)
 unfold nmOk
 have e : ∀ i (hi : i < l.length), l.getD i (dflt .str) = l[i] := fun i hi => by rw [List.getD_eq_getElem?_getD, List.getElem?_eq_getElem hi]; rfl
 rw [e j hj, h1 _ (List.getElem_mem hj), Bool.true_and]
 cases j with
 | zero => rfl
 | succ j =>
  rw [show ((((j + 1 : Nat) : Int)) - 1).toNat = j by omega, e j (by omega), ltB_less.2 (List.pairwise_iff_getElem.1 h2 j (j + 1) (by omega) hj (by omega)), Bool.or_true]
theorem nodup_sorted {l : List ByteArray} (h : l.Pairwise ltB) : l.Nodup := h.imp (fun h e => by subst e; exact ltB_irrefl _ h)
theorem own_obj {L : Mem} (hl : L.length ≤ 300) (hs : (L.map (·.1)).Pairwise ltB) (ht : ∀ p ∈ L, textOk p.1 = true) : ownO (objM L) = true := by
 have hn : namesOk (L.map (·.1)) = true := names_ok (fun x hx => by obtain ⟨p, hp, rfl⟩ := List.mem_map.1 hx; exact ht p hp) hs (by rw [List.length_map]; omega)
 simp [ownO, truthO, numO, ownN, textO, keysO, itemsO, objM, Tree.kind, Tree.b, Tree.n, Tree.s, Tree.k, Tree.v, hn]; omega
theorem one_obj {L : Mem} (hl : L.length ≤ 3) (hs : (L.map (·.1)).Pairwise ltB) (ht : ∀ p ∈ L, textOk p.1 = true) : OneOk (objM L) := by
 have hn : namesOk (L.map (·.1)) = true := names_ok (fun x hx => by obtain ⟨p, hp, rfl⟩ := List.mem_map.1 hx; exact ht p hp) hs (by rw [List.length_map]; omega)
 refine ⟨?_, ?_, Ok.nil, Nat.zero_le _, by show (L.map (·.1)).length ≤ 3; rw [List.length_map]; exact hl, by unfold Nodup; rw [mems_objM]; exact nodup_sorted hs, by rw [mems_objM]; exact hs, by rw [mems_objM]; exact ht⟩
 simp [ownO, truthO, numO, ownN, textO, keysO, itemsO, objM, Tree.kind, Tree.b, Tree.n, Tree.s, Tree.k, Tree.v, hn]; omega
 rw [bulk_0 (by show ¬ (7 : Int) = 3; decide) (by show ¬ (7 : Int) = 4; decide) (by show ¬ (7 : Int) = 5; decide)]; decide
theorem itO_good {f : List Int → Tree × List Int} {v : Int} {d : Nat} (hv : VF v) (hf : ∀ l, GoodT d (f l).1) : ∀ (n : Nat) (l : List Int), ∃ L : Mem, (itO f v n l).1 = objM L ∧ L.length ≤ n ∧ (L.map (·.1)).Pairwise ltB ∧ (∀ p ∈ L, textOk p.1 = true ∧ GoodT d p.2)
 | 0, l => ⟨[], rfl, Nat.le_refl _, List.Pairwise.nil, fun p hp => by simp at hp⟩
 | n + 1, l => by
  obtain ⟨L, h1, h2, h3, h4⟩ := itO_good hv hf n l
  refine ⟨insA (nmM v n) (f (itO f v n l).2).1 L, ?_, ?_, ins_sorted h3, fun p hp => ?_⟩
  show setT (itO f v n l).1 _ _ = _
  unfold setT; rw [h1, mems_objM]
  have := keys_ins (nmM v n) (f (itO f v n l).2).1 L; omega
  rcases ins_mem hp with rfl | hp
  exact ⟨nmM_ok hv n, hf _⟩
  exact h4 p hp
theorem itA_good {f : List Int → Tree × List Int} {d : Nat} (hf : ∀ l, GoodT d (f l).1) : ∀ (n : Nat) (l : List Int), ∀ u ∈ (itA f n l).1, GoodT d u
 | 0, l, u, h => by simp [itA] at h
 | n + 1, l, u, h => by
  simp only [itA, List.mem_append, List.mem_singleton] at h
  rcases h with h | rfl
  exact itA_good hf n l u h
  exact hf _
theorem good_G {f : List Int → Tree × List Int} {d : Nat} (hf : 0 < d → ∀ l, GoodT d (f l).1) (l : List Int) : GoodT (d + 1) (madeG f d l).1 := by
 unfold madeG
 split
 exact leaf one_nul rfl
 have hv := vF_ok (vM_in l)
 have hc := hv.c.2
 generalize vM l = v at hv hc
 unfold madeV
 split
 exact leaf one_nul rfl
 split
 exact leaf (one_bool _) rfl
 split
 exact leaf (one_num (fineN_number _)) rfl
 split
 exact leaf (one_text (txtM_ok hv).1 (txtM_ok hv).2) rfl
 split
 exact leaf (one_bytes (bytM_ok hv)) rfl
 split
 rename_i ha
 have h0 := dM_a hv d ha
 have hlen : (itA f (cM v) (l.drop 1)).1.length ≤ 3 := by rw [itA_len]; omega
 exact ⟨one_arr hlen, hlen, itA_good (hf h0) _ _⟩
 rename_i h0 h1 h2 h4 h5 h6
 have hd := dM_o hv d h0 h1 (by simpa using h2) h4 h5
 obtain ⟨L, e1, e2, e3, e4⟩ := itO_good hv (hf hd) (cM v) (l.drop 1)
 rw [e1]
 refine ⟨one_obj (by omega) e3 (fun p hp => (e4 p hp).1), ?_, fun u hu => ?_⟩
 show (L.map (·.2)).length ≤ 3; rw [List.length_map]; omega
 obtain ⟨p, hp, rfl⟩ := List.mem_map.1 (show u ∈ L.map (·.2) from hu)
 exact (e4 p hp).2
theorem good_made : ∀ (d : Nat) (l : List Int), GoodT (d + 1) (madeF d l).1
 | 0, l => good_G (f := fun _ => (nul, [])) (d := 0) (fun h => absurd h (Nat.lt_irrefl _)) l
 | d + 1, l => good_G (f := madeF d) (d := d + 1) (fun _ l => good_made d l) l
theorem mems_in {t : Tree} {p : ByteArray × Tree} (h : p ∈ mems t) : p.2 ∈ t.v := by
 refine cutV_sub ?_
 rw [← mems_v]
 exact List.mem_map.2 ⟨p, h, rfl⟩
theorem mems_lev (t : Tree) : (mems t).length ≤ t.v.length := by
 have h : ((mems t).map (·.2)).length = (cutV t).length := by rw [mems_v]
 rw [List.length_map] at h
 rw [h]; unfold cutV
 split
 rw [List.length_take]; omega
 exact Nat.zero_le _
theorem all_more {f : Tree → Nat} (hf : Meas f) (v : Tree) : ∀ (s : List (List ByteArray)) (t : Tree), (∀ p ∈ s, p.length ≤ 3) → f (apAll t s v) ≤ f t + s.length * (f v + 3)
 | [], t, _ => by simp [apAll]
 | p :: s, t, h => by
  have h1 := apStep_more hf v t p
  have h2 := all_more hf v s (apStep v t p) (fun q hq => h q (by simp [hq]))
  have h3 := h p (by simp)
  show f (apAll (apStep v t p) s v) ≤ _
  rw [List.length_cons, Nat.succ_mul]; omega
theorem sameN_self (n : Num) : sameN n n = true := by simp [sameN]
mutual
theorem sameT_self : ∀ t : Tree, sameT t t = true
 | .mk k b n s ks v => by
  have h := sameL_self v
  rw [sameT_eq]
  simp only [Tree.kind, Tree.b, Tree.n, Tree.s, Tree.k, Tree.v, if_true, sameN_self, h, beq_self_eq_true, decide_true, Bool.and_self]
  repeat' split
  all_goals rfl
theorem sameL_self : ∀ l : List Tree, sameL l l = true
 | [] => rfl
 | t :: l => by simp only [sameL]; rw [sameT_self t, sameL_self l]; rfl
end
theorem fold_sub : ∀ (s out : List (List ByteArray)), ∃ r, s.foldl normStep out = out ++ r ∧ r.Sublist s
 | [], out => ⟨[], by simp, List.Sublist.refl _⟩
 | p :: s, out => by
  obtain ⟨r, h1, h2⟩ := fold_sub s (normStep out p)
  rw [List.foldl_cons, h1]
  unfold normStep
  split
  split
  exact ⟨r, rfl, h2.cons _⟩
  exact ⟨p :: r, by simp, h2.cons_cons _⟩
  exact ⟨p :: r, by simp, h2.cons_cons _⟩
theorem normF_sorted (l : List (List ByteArray)) : (normF l).Pairwise Le := by
 obtain ⟨r, h1, h2⟩ := fold_sub (sortP l) []
 unfold normF
 rw [h1, List.nil_append]
 exact (sortP_le l).sublist h2
open Go.Proofs.Tryz
def letB (b : Int) : Bool := (decide (b ≥ 97) && decide (b ≤ 122)) || ((decide (b ≥ 65) && decide (b ≤ 90)) || b == 95)
def byOk (s : ByteArray) (i : Nat) : Bool := letB (byteAt s (i : Int)) || (!((i : Int) == 0) && (!decide (byteAt s (i : Int) < 48) && !decide (byteAt s (i : Int) > 57)))
theorem byteAt_in (s : ByteArray) (n : Int) : 0 ≤ byteAt s n ∧ byteAt s n < 256 := by
 unfold byteAt
 cases s.data[n.toNat]? with
 | none => decide
 | some b => have := b.toNat_lt; simp; omega
theorem let_or (b : Int) (h : 0 ≤ b ∧ b < 256) : ((decide (bitsOr .u8 b 32 ≥ 97) && decide (bitsOr .u8 b 32 ≤ 122)) || b == 95) = letB b := by
 obtain ⟨n, rfl⟩ : ∃ n : Nat, b = n := ⟨b.toNat, by omega⟩
 have hn : n < 256 := by omega
 clear h
 revert hn; revert n
 decide +kernel
theorem byOk_eq (s : ByteArray) (i : Nat) : nameOk s i = byOk s i := by
 unfold nameOk byOk
 rw [let_or _ (byteAt_in s i)]
theorem con38 (s : ByteArray) (hs0 : s.size < 4294967281) : Con Tryz.prog I0 76 [vs s] (.val (vb (nameF s))) := by
 refine con_of Tryz.func76 rfl (Nat.le_of_ble_eq_true rfl) stab (fun w0 fz a hI hs => ?_)
 refine wNs hs hI [] 11 [] [(0, vs s)] [] fun a w hs => ?_
 refine wp_seq ?_
 refine wNs hs hI [] 11 [] [(0, vs s), (3, vi 0)] [] fun a w hs => ?_
 refine wp_block ?_
 refine loop_L (N := Tryz.f76.ntmps) (w0 := w0) (ow := noO fz) (α := Nat) (fun p => [(0, vs s), (3, vi (p : Int))]) (fun p => []) (fun p => p ≤ s.size ∧ ∀ j, j < p → nameOk s j = true) (fun p => s.size - p) 0 ?_ ?_ ?_
 exact ⟨Nat.zero_le _, fun j hj => absurd hj (Nat.not_lt_zero _)⟩
 exact hs.rk []
 rintro i hJ a w hs
 obtain ⟨hi, hall⟩ := hJ
 refine wp_seq ?_
 rcases bd ((i : Int) < (s.size : Int)) with ⟨b1, n1⟩ | ⟨b1, n1⟩
 refine wN hs hI (bz 1 1) 7608 [q1 b1] .norm [(0, vs s), (3, vi (i : Int))] [] fun a w hs => ?_
 refine then_norm ?_
 refine wp_seq ?_
 refine wp_block ?_
 refine wNs hs hI [] 170 [q4 (i : Int) s.size] [(0, vs s), (3, vi (i : Int)), (4, .lit (.int .u8 (byteAt s (i : Int))))] [] fun a w hs => ?_
 refine wp_cut (N := Tryz.f76.ntmps) (w0 := w0) (ow := noO fz) (T := [(0, vs s), (3, vi (i : Int)), (4, .lit (.int .u8 (byteAt s (i : Int)))), (5, vb (letB (byteAt s (i : Int))))]) (B := []) (True) ?_ ?_
 rcases bd ((byteAt s (i : Int)) ≥ 97) with ⟨b2, n2⟩ | ⟨b2, n2⟩
 rcases bd ((byteAt s (i : Int)) ≤ 122) with ⟨b3, n3⟩ | ⟨b3, n3⟩
 refine wL hs hI [(5, rg [] [3, 4, 1005, 1013, 1017] [7, 8, 9, 12, 15, 16])] [] 17337317337778 [q1 b2, q1 b2, q1 b2, q1 b3, q1 b3, q1 b3, q1 b3, q1 b3, q0 true, q0 true, q0 true] .norm [(0, vs s), (3, vi (i : Int)), (4, .lit (.int .u8 (byteAt s (i : Int)))), (5, vb true)] [] tv fun a w hs => ?_
 refine then_norm ⟨trivial, ?_⟩
 (have e0_ : (true) = (letB (byteAt s (i : Int))) := (by first | rfl | (simp only [letB, b2, b3]; rfl)); exact (hs.cst [(0, vs s), (3, vi (i : Int)), (4, .lit (.int .u8 (byteAt s (i : Int)))), (5, vb (letB (byteAt s (i : Int))))] [] (by first | (rw [e0_]; done) | (simp only [e0_]; done) | rfl | (simp only [e0_]; rfl))).rk [])
 rcases bd ((byteAt s (i : Int)) ≥ 65) with ⟨b4, n4⟩ | ⟨b4, n4⟩
 rcases bd ((byteAt s (i : Int)) ≤ 90) with ⟨b5, n5⟩ | ⟨b5, n5⟩
 refine wL hs hI [(5, rg [] [3, 4, 1005, 7, 8, 9, 10, 11, 12, 1012, 1017] [1013, 15, 16])] [] 1733733777777778 [q1 b2, q1 b2, q1 b2, q1 b3, q1 b3, q1 b3, q1 b4, q1 b4, q1 b3, q1 b4, q1 b3, q1 b5, q1 b5, q1 b5] .norm [(0, vs s), (3, vi (i : Int)), (4, .lit (.int .u8 (byteAt s (i : Int)))), (5, vb true)] [] tv fun a w hs => ?_
 refine then_norm ⟨trivial, ?_⟩
 (have e0_ : (true) = (letB (byteAt s (i : Int))) := (by first | rfl | (simp only [letB, b2, b3, b4, b5]; rfl)); exact (hs.cst [(0, vs s), (3, vi (i : Int)), (4, .lit (.int .u8 (byteAt s (i : Int)))), (5, vb (letB (byteAt s (i : Int))))] [] (by first | (rw [e0_]; done) | (simp only [e0_]; done) | rfl | (simp only [e0_]; rfl))).rk [])
 refine wL hs hI [(5, rg [] [3, 4, 1005, 7, 8, 9, 10, 11, 12, 1012, 15, 16] [1013, 1017])] [] 1777733777777778 [q1 b2, q1 b2, q1 b2, q1 b3, q1 b3, q1 b3, q1 b4, q1 b4, q1 b3, q1 b4, q1 b3, q1 b5, q1 b5, q1 b5] .norm [(0, vs s), (3, vi (i : Int)), (4, .lit (.int .u8 (byteAt s (i : Int)))), (5, vb ((byteAt s (i : Int)) == 95))] [] tv fun a w hs => ?_
 refine then_norm ⟨trivial, ?_⟩
 (have e0_ : ((byteAt s (i : Int)) == 95) = (letB (byteAt s (i : Int))) := (by first | rfl | (simp only [letB, b2, b3, b4, b5]; rfl)); exact (hs.cst [(0, vs s), (3, vi (i : Int)), (4, .lit (.int .u8 (byteAt s (i : Int)))), (5, vb (letB (byteAt s (i : Int))))] [] (by first | (rw [e0_]; done) | (simp only [e0_]; done) | rfl | (simp only [e0_]; rfl))).rk [])
 refine wL hs hI [(5, rg [] [3, 4, 1005, 7, 8, 9, 12, 15, 16] [10, 11, 1012, 1013, 1017])] [] 1777733337777778 [q1 b2, q1 b2, q1 b2, q1 b3, q1 b3, q1 b3, q1 b4, q1 b4, q1 b3, q1 b4, q1 b3, q0 false, q0 false, q0 false] .norm [(0, vs s), (3, vi (i : Int)), (4, .lit (.int .u8 (byteAt s (i : Int)))), (5, vb ((byteAt s (i : Int)) == 95))] [] tv fun a w hs => ?_
 refine then_norm ⟨trivial, ?_⟩
 (have e0_ : ((byteAt s (i : Int)) == 95) = (letB (byteAt s (i : Int))) := (by first | rfl | (simp only [letB, b2, b3, b4]; rfl)); exact (hs.cst [(0, vs s), (3, vi (i : Int)), (4, .lit (.int .u8 (byteAt s (i : Int)))), (5, vb (letB (byteAt s (i : Int))))] [] (by first | (rw [e0_]; done) | (simp only [e0_]; done) | rfl | (simp only [e0_]; rfl))).rk [])
 rcases bd ((byteAt s (i : Int)) ≥ 65) with ⟨b6, n6⟩ | ⟨b6, n6⟩
 rcases bd ((byteAt s (i : Int)) ≤ 90) with ⟨b7, n7⟩ | ⟨b7, n7⟩
 refine wL hs hI [(5, rg [] [7, 8, 9, 10, 11, 12, 1012, 1017] [3, 4, 1005, 1013, 15, 16])] [] 1733733777777338 [q1 b2, q1 b2, q1 b2, q0 false, q0 false, q0 false, q1 b6, q1 b6, q0 false, q1 b6, q0 false, q1 b7, q1 b7, q1 b7] .norm [(0, vs s), (3, vi (i : Int)), (4, .lit (.int .u8 (byteAt s (i : Int)))), (5, vb true)] [] tv fun a w hs => ?_
 refine then_norm ⟨trivial, ?_⟩
 (have e0_ : (true) = (letB (byteAt s (i : Int))) := (by first | rfl | (simp only [letB, b2, b6, b7]; rfl)); exact (hs.cst [(0, vs s), (3, vi (i : Int)), (4, .lit (.int .u8 (byteAt s (i : Int)))), (5, vb (letB (byteAt s (i : Int))))] [] (by first | (rw [e0_]; done) | (simp only [e0_]; done) | rfl | (simp only [e0_]; rfl))).rk [])
 refine wL hs hI [(5, rg [] [7, 8, 9, 10, 11, 12, 1012, 15, 16] [3, 4, 1005, 1013, 1017])] [] 1777733777777338 [q1 b2, q1 b2, q1 b2, q0 false, q0 false, q0 false, q1 b6, q1 b6, q0 false, q1 b6, q0 false, q1 b7, q1 b7, q1 b7] .norm [(0, vs s), (3, vi (i : Int)), (4, .lit (.int .u8 (byteAt s (i : Int)))), (5, vb ((byteAt s (i : Int)) == 95))] [] tv fun a w hs => ?_
 refine then_norm ⟨trivial, ?_⟩
 (have e0_ : ((byteAt s (i : Int)) == 95) = (letB (byteAt s (i : Int))) := (by first | rfl | (simp only [letB, b2, b6, b7]; rfl)); exact (hs.cst [(0, vs s), (3, vi (i : Int)), (4, .lit (.int .u8 (byteAt s (i : Int)))), (5, vb (letB (byteAt s (i : Int))))] [] (by first | (rw [e0_]; done) | (simp only [e0_]; done) | rfl | (simp only [e0_]; rfl))).rk [])
 refine wL hs hI [(5, rg [] [7, 8, 9, 12, 15, 16] [3, 4, 1005, 10, 11, 1012, 1013, 1017])] [] 1777733337777338 [q1 b2, q1 b2, q1 b2, q0 false, q0 false, q0 false, q1 b6, q1 b6, q0 false, q1 b6, q0 false, q0 false, q0 false, q0 false] .norm [(0, vs s), (3, vi (i : Int)), (4, .lit (.int .u8 (byteAt s (i : Int)))), (5, vb ((byteAt s (i : Int)) == 95))] [] tv fun a w hs => ?_
 refine then_norm ⟨trivial, ?_⟩
 (have e0_ : ((byteAt s (i : Int)) == 95) = (letB (byteAt s (i : Int))) := (by first | rfl | (simp only [letB, b2, b6]; rfl)); exact (hs.cst [(0, vs s), (3, vi (i : Int)), (4, .lit (.int .u8 (byteAt s (i : Int)))), (5, vb (letB (byteAt s (i : Int))))] [] (by first | (rw [e0_]; done) | (simp only [e0_]; done) | rfl | (simp only [e0_]; rfl))).rk [])
 intro hF a w hs
 rcases bt (letB (byteAt s (i : Int))) with b8 | b8
 refine wL hs hI [(6, rg [] [] [3, 4, 5, 8, 9, 12, 1013])] (bz 1 0) 796667317317338 [q1 (ng1 b8), q1 (ng1 b8), q1 (ng1 b8), q1 (ng1 b8), q1 (ng1 b8), q1 (ng1 b8), q1 (ng1 b8), q0 false] .norm [(0, vs s), (3, vi (i : Int))] [] tv fun a w hs => ?_
 refine inb_norm ?_
 refine then_norm ?_
 refine wN hs hI [] 171 [q3 ((i : Int) + 1)] .norm [(0, vs s), (3, vi ((i : Int) + 1))] [] fun a w hs => ?_
 refine then_norm ⟨i + 1, ⟨by omega, fun j hj => by rcases Nat.lt_succ_iff_lt_or_eq.1 hj with h | rfl; exact hall j h; rw [byOk_eq]; simp only [byOk, b8]; rfl⟩, by omega, ?_⟩
 exact hs.rk []
 rcases bq (i : Int) (0) with ⟨b9, n9⟩ | ⟨b9, n9⟩
 refine wL hs hI [(6, rg [] [3, 4, 5, 8, 1008, 9, 12, 1012, 1013] [6, 7, 10, 11])] (bz 1 1) 12176666673333733337778 [q1 (ng0 b8), q1 (ng0 b8), q1 (ng0 b8), q1 b9, q1 b9, q1 (ng0 b8), q1 b9, q1 (ng0 b8), q0 true, q0 true, q1 (ng0 b8), q0 true, q1 (ng0 b8), q0 true] .ret [(2, vb false)] [] tv fun a w hs => ?_
 refine inb_ret ?_
 refine then_ret ?_
 refine then_ret ?_
 refine inb_ret ?_
 refine then_ret ?_
 exact rK (.val (vb false)) [] hs (by rw [nameF_no (s := s) (i := i) (by omega) (by rw [byOk_eq]; simp only [byOk, b8, b9]; rfl)])
 rcases bd ((byteAt s (i : Int)) < 48) with ⟨b10, n10⟩ | ⟨b10, n10⟩
 refine wL hs hI [(6, rg [] [3, 4, 5, 6, 7, 8, 9, 12, 1012, 1013] [1008, 10, 11])] (bz 1 1) 121796666673333733777778 [q1 (ng0 b8), q1 (ng0 b8), q1 (ng0 b8), q1 b9, q1 b9, q1 (ng0 b8), q1 b9, q1 (ng0 b8), q1 b10, q1 b10, q1 (ng0 b8), q1 b10, q1 (ng0 b8), q0 true] .ret [(2, vb false)] [] tv fun a w hs => ?_
 refine inb_ret ?_
 refine then_ret ?_
 refine then_ret ?_
 refine inb_ret ?_
 refine then_ret ?_
 exact rK (.val (vb false)) [] hs (by rw [nameF_no (s := s) (i := i) (by omega) (by rw [byOk_eq]; simp only [byOk, b8, b9, b10]; rfl)])
 rcases bd ((byteAt s (i : Int)) > 57) with ⟨b11, n11⟩ | ⟨b11, n11⟩
 refine wL hs hI [(6, rg [] [3, 4, 5, 6, 7, 8, 9, 10, 11, 12, 1013] [1008, 1012])] (bz 1 1) 121766666673377733777778 [q1 (ng0 b8), q1 (ng0 b8), q1 (ng0 b8), q1 b9, q1 b9, q1 (ng0 b8), q1 b9, q1 (ng0 b8), q1 b10, q1 b10, q1 (ng0 b8), q1 b10, q1 (ng0 b8), q1 b11] .ret [(2, vb false)] [] tv fun a w hs => ?_
 refine inb_ret ?_
 refine then_ret ?_
 refine then_ret ?_
 refine inb_ret ?_
 refine then_ret ?_
 exact rK (.val (vb false)) [] hs (by rw [nameF_no (s := s) (i := i) (by omega) (by rw [byOk_eq]; simp only [byOk, b8, b9, b10, b11]; rfl)])
 refine wL hs hI [(6, rg [] [3, 4, 5, 6, 7, 8, 9, 10, 11, 12, 1013] [1008, 1012])] (bz 1 0) 766666673377733777778 [q1 (ng0 b8), q1 (ng0 b8), q1 (ng0 b8), q1 b9, q1 b9, q1 (ng0 b8), q1 b9, q1 (ng0 b8), q1 b10, q1 b10, q1 (ng0 b8), q1 b10, q1 (ng0 b8), q1 b11] .norm [(0, vs s), (3, vi (i : Int))] [] tv fun a w hs => ?_
 refine inb_norm ?_
 refine then_norm ?_
 refine wN hs hI [] 171 [q3 ((i : Int) + 1)] .norm [(0, vs s), (3, vi ((i : Int) + 1))] [] fun a w hs => ?_
 refine then_norm ⟨i + 1, ⟨by omega, fun j hj => by rcases Nat.lt_succ_iff_lt_or_eq.1 hj with h | rfl; exact hall j h; rw [byOk_eq]; simp only [byOk, b8, b9, b10, b11]; rfl⟩, by omega, ?_⟩
 exact hs.rk []
 refine wN hs hI (bz 1 0) 7608 [q1 b1] (.exit 0) [(0, vs s)] [] fun a w hs => ?_
 refine then_exit ?_
 refine then_exit ?_
 refine inb_hit ?_
 refine then_norm ?_
 rcases bd ((s.size : Int) ≥ 1) with ⟨b12, n12⟩ | ⟨b12, n12⟩
 refine wL hs hI [(8, rg [] [4, 5, 6, 1007] [])] [] 16661777718 [q1 b12, q1 b12, q1 b12, q1 b12] .ret [(2, vb (decide ((s.size : Int) ≤ 2000)))] [] tv fun a w hs => ?_
 exact rK (.val (vb (decide ((s.size : Int) ≤ 2000)))) [] hs (by rw [nameF_yes (s := s) (fun j hj => hall j (by omega))]; first | (rw [decide_eq_true (by omega), decide_eq_true (by omega)]; rfl) | (rw [decide_eq_false (by omega)]; rfl) | (rw [decide_eq_true (by omega), decide_eq_false (by omega)]; rfl) | (rw [decide_eq_true (show s.size ≠ 0 by omega)]; simp))
 refine wL hs hI [(8, rg [] [] [4, 5, 6, 1007])] [] 12661733318 [q1 b12, q1 b12, q1 b12, q1 b12] .ret [(2, vb false)] [] tv fun a w hs => ?_
 exact rK (.val (vb false)) [] hs (by rw [nameF_yes (s := s) (fun j hj => hall j (by omega))]; first | (rw [decide_eq_true (by omega), decide_eq_true (by omega)]; rfl) | (rw [decide_eq_false (by omega)]; rfl) | (rw [decide_eq_true (by omega), decide_eq_false (by omega)]; rfl) | (rw [decide_eq_true (show s.size ≠ 0 by omega)]; simp))
theorem bad_short {p : List ByteArray} (h : ¬ (1 ≤ p.length ∧ p.length ≤ 63)) : badPath p = true := by
 unfold badPath
 by_cases h0 : p.length = 0
 simp [h0]
 rw [decide_eq_true (show (p.length : Int) > 63 by omega)]; simp
theorem bad_name {p : List ByteArray} {j : Nat} (hj : j < p.length) (h : nameF (p.getD j (dflt .str)) = false) : badPath p = true := by
 have : (p.any fun n => !nameF n) = true := List.any_eq_true.2 ⟨_, getD_mem hj (dflt .str), by rw [h]; rfl⟩
 unfold badPath; rw [this]; simp
theorem bad_not {p : List ByteArray} (h : 1 ≤ p.length ∧ p.length ≤ 63) (hn : ∀ j, j < p.length → nameF (p.getD j (dflt .str)) = true) : badPath p = false := by
 have h2 : (p.any fun n => !nameF n) = false := by
  rw [List.any_eq_false]
  intro x hx
  obtain ⟨j, hj, rfl⟩ := List.mem_iff_getElem.1 hx
  have := hn j hj
  rw [List.getD_eq_getElem?_getD, List.getElem?_eq_getElem hj] at this
  simpa using this
 have h1 : ((p.length : Int) == 0) = false := by simp; intro e; subst e; simp at h
 unfold badPath; rw [h1, h2, decide_eq_false (by omega)]; rfl
theorem chk_no {l : List (List ByteArray)} {i : Nat} (hi : i < l.length) (h : badPath (l.getD i (dflt .strs)) = true) : checkF l = false := by
 unfold checkF
 rw [List.any_eq_true.2 ⟨_, getD_mem hi (dflt .strs), h⟩]; simp
theorem chk_yes {l : List (List ByteArray)} (h : ∀ j, j < l.length → badPath (l.getD j (dflt .strs)) = false) : checkF l = decide ((l.length : Int) ≤ 60) := by
 have h2 : l.any badPath = false := by
  rw [List.any_eq_false]
  intro x hx
  obtain ⟨j, hj, rfl⟩ := List.mem_iff_getElem.1 hx
  have := h j hj
  rw [List.getD_eq_getElem?_getD, List.getElem?_eq_getElem hj] at this
  simpa using this
 unfold checkF; rw [h2]; simp
theorem con40 (l : List (List ByteArray)) (hsm : ∀ p ∈ l, ∀ x ∈ p, x.size < 4294967281) (hll : l.length < 4294967296) (hlp : ∀ p ∈ l, p.length < 4294967296) : Con Tryz.prog I0 92 [.row .strs l] (.val (vb (checkF l))) := by
 refine con_of Tryz.func92 rfl (Nat.le_of_ble_eq_true rfl) stab (fun w0 fz a hI hs => ?_)
 refine wNs hs hI [] 11 [] [(0, .row .strs l)] [] fun a w hs => ?_
 refine wp_seq ?_
 refine wNs hs hI [] 11 [] [(0, .row .strs l), (3, vi 0)] [] fun a w hs => ?_
 refine wp_block ?_
 refine loop_L (N := Tryz.f92.ntmps) (w0 := w0) (ow := noO fz) (α := Nat) (fun p => [(0, .row .strs l), (3, vi (p : Int))]) (fun p => []) (fun p => p ≤ l.length ∧ ∀ j, j < p → badPath (l.getD j (dflt .strs)) = false) (fun p => l.length - p) 0 ?_ ?_ ?_
 exact ⟨Nat.zero_le _, fun j hj => absurd hj (Nat.not_lt_zero _)⟩
 exact hs.rk []
 rintro i hJ a w hs
 obtain ⟨hi, hall⟩ := hJ
 refine wp_seq ?_
 rcases bd ((i : Int) < (l.length : Int)) with ⟨b1, n1⟩ | ⟨b1, n1⟩
 refine wN hs hI (bz 1 1) 7608 [q1 b1] .norm [(0, .row .strs l), (3, vi (i : Int))] [] fun a w hs => ?_
 refine then_norm ?_
 refine wp_seq ?_
 refine wp_block ?_
 refine wp_seq ?_
 refine wp_seq ?_
 rcases bd (((l.getD i (dflt .strs)).length : Int) < 1) with ⟨b2, n2⟩ | ⟨b2, n2⟩
 refine wL hs hI [(4, rg [] [1013] [7, 8, 9, 10, 11, 12])] [] 7333333870 [q4 (i : Int) l.length, q1 b2, q1 b2, q1 b2, q1 b2, q1 b2, q1 b2, q1 b2] .norm [(0, .row .strs l), (3, vi (i : Int)), (24, vb true)] [] tv fun a w hs => ?_
 refine then_norm ?_
 refine wN hs hI (bz 1 1) 1217 [q0 true] .ret [(2, vb false)] [] fun a w hs => ?_
 refine then_ret ?_
 refine inb_ret ?_
 refine then_ret ?_
 refine then_ret ?_
 refine inb_ret ?_
 refine then_ret ?_
 exact rK (.val (vb false)) [] hs (by rw [chk_no (i := i) (by omega) (bad_short (by omega))])
 refine wL hs hI [(4, rg [] [7, 8, 9, 10, 11, 12] [1013])] [] 77773377870 [q4 (i : Int) l.length, q1 b2, q1 b2, q1 b2, q4 (i : Int) l.length, q1 b2, q1 b2, q1 b2, q1 b2] .norm [(0, .row .strs l), (3, vi (i : Int)), (24, vb (decide (((l.getD i (dflt .strs)).length : Int) > 63)))] [] tv fun a w hs => ?_
 refine then_norm ?_
 rcases bd (((l.getD i (dflt .strs)).length : Int) > 63) with ⟨b3, n3⟩ | ⟨b3, n3⟩
 refine wN hs hI (bz 1 1) 1217 [q1 b3] .ret [(2, vb false)] [] fun a w hs => ?_
 refine then_ret ?_
 refine inb_ret ?_
 refine then_ret ?_
 refine then_ret ?_
 refine inb_ret ?_
 refine then_ret ?_
 exact rK (.val (vb false)) [] hs (by rw [chk_no (i := i) (by omega) (bad_short (by omega))])
 refine wN hs hI (bz 1 0) 7 [q1 b3] .norm [(0, .row .strs l), (3, vi (i : Int))] [] fun a w hs => ?_
 refine then_norm ?_
 refine wNs hs hI [] 11 [] [(0, .row .strs l), (3, vi (i : Int)), (4, vi 0)] [] fun a w hs => ?_
 refine wp_block ?_
 refine loop_L (N := Tryz.f92.ntmps) (w0 := w0) (ow := noO fz) (α := Nat) (fun p => [(0, .row .strs l), (3, vi (i : Int)), (4, vi (p : Int))]) (fun p => []) (fun p => p ≤ (l.getD i (dflt .strs)).length ∧ ∀ j, j < p → nameF ((l.getD i (dflt .strs)).getD j (dflt .str)) = true) (fun p => (l.getD i (dflt .strs)).length - p) 0 ?_ ?_ ?_
 exact ⟨Nat.zero_le _, fun j hj => absurd hj (Nat.not_lt_zero _)⟩
 exact hs.rk []
 rintro k hJ a w hs
 obtain ⟨hk, hin⟩ := hJ
 refine wp_seq ?_
 rcases bd ((k : Int) < ((l.getD i (dflt .strs)).length : Int)) with ⟨b4, n4⟩ | ⟨b4, n4⟩
 refine wN hs hI (bz 1 1) 7296878 [q4 (i : Int) l.length, q1 b4] .norm [(0, .row .strs l), (3, vi (i : Int)), (4, vi (k : Int))] [] fun a w hs => ?_
 refine then_norm ?_
 rcases bt (nameF ((l.getD i (dflt .strs)).getD k (dflt .str))) with b5 | b5
 refine wL hs hI [(9, rc [(7, ciV 76 [vs ((l.getD i (dflt .strs)).getD k (dflt .str))] (vb (nameF ((l.getD i (dflt .strs)).getD k (dflt .str)))))])] (bz 1 0) 17197266047170 [q4 (i : Int) l.length, q4 (k : Int) ((l.getD i (dflt .strs)).length), q1 (ng1 b5), q3 ((k : Int) + 1)] .norm [(0, .row .strs l), (3, vi (i : Int)), (4, vi ((k : Int) + 1))] [] ⟨con38 _ (by have := hsm _ (getD_mem (l := l) (i := i) (by omega) (dflt .strs)); exact this _ (getD_mem (by omega) _)), tv⟩ fun a w hs => ?_
 refine then_norm ⟨k + 1, ⟨by omega, fun j hj => by rcases Nat.lt_succ_iff_lt_or_eq.1 hj with h | h; exact hin j h; subst h; exact b5⟩, by omega, ?_⟩
 exact hs.rk []
 refine wL hs hI [(9, rc [(7, ciV 76 [vs ((l.getD i (dflt .strs)).getD k (dflt .str))] (vb (nameF ((l.getD i (dflt .strs)).getD k (dflt .str)))))])] (bz 1 1) 1217266047170 [q4 (i : Int) l.length, q4 (k : Int) ((l.getD i (dflt .strs)).length), q1 (ng0 b5)] .ret [(2, vb false)] [] ⟨con38 _ (by have := hsm _ (getD_mem (l := l) (i := i) (by omega) (dflt .strs)); exact this _ (getD_mem (by omega) _)), tv⟩ fun a w hs => ?_
 refine then_ret ?_
 refine inb_ret ?_
 refine inb_ret ?_
 refine then_ret ?_
 refine then_ret ?_
 refine inb_ret ?_
 refine then_ret ?_
 exact rK (.val (vb false)) [] hs (by rw [chk_no (i := i) (by omega) (bad_name (j := k) (by omega) b5)])
 refine wN hs hI (bz 1 0) 7296878 [q4 (i : Int) l.length, q1 b4] (.exit 2) [(0, .row .strs l), (3, vi (i : Int))] [] fun a w hs => ?_
 refine then_exit ?_
 refine then_exit ?_
 refine inb_hit ?_
 refine inb_norm ?_
 refine then_norm ?_
 refine wN hs hI [] 171 [q3 ((i : Int) + 1)] .norm [(0, .row .strs l), (3, vi ((i : Int) + 1))] [] fun a w hs => ?_
 refine then_norm ⟨i + 1, ⟨by omega, fun j hj => by rcases Nat.lt_succ_iff_lt_or_eq.1 hj with h | h; exact hall j h; subst h; exact bad_not (by omega) (fun j hj => hin j (by omega))⟩, by omega, ?_⟩
 exact hs.rk []
 refine wN hs hI (bz 1 0) 7608 [q1 b1] (.exit 0) [(0, .row .strs l)] [] fun a w hs => ?_
 refine then_exit ?_
 refine then_exit ?_
 refine inb_hit ?_
 refine then_norm ?_
 refine wN hs hI [] 1608 [] .ret [(2, vb (decide ((l.length : Int) ≤ 60)))] [] fun a w hs => ?_
 exact rK (.val (vb (decide ((l.length : Int) ≤ 60)))) [] hs (by rw [chk_yes (fun j hj => hall j (by omega))])
theorem step_keep {out : List (List ByteArray)} {p q : List ByteArray} (h : q ∈ out) : q ∈ normStep out p := by
 unfold normStep
 split
 split
 exact h
 exact List.mem_append_left _ h
 exact List.mem_append_left _ h
theorem fold_stay : ∀ (s : List (List ByteArray)) {out : List (List ByteArray)} {q : List ByteArray}, q ∈ out → q ∈ s.foldl normStep out
 | [], _, _, h => h
 | p :: s, _, _, h => fold_stay s (step_keep h)
theorem step_cover (out : List (List ByteArray)) (p : List ByteArray) : ∃ o ∈ normStep out p, startsF o p = true := by
 unfold normStep
 split
 rename_i h
 split
 rename_i h2
 exact ⟨_, getD_mem (by have := of_decide_eq_true h; omega) _, h2⟩
 exact ⟨p, by simp, starts_self p⟩
 exact ⟨p, by simp, starts_self p⟩
theorem fold_cover : ∀ (s : List (List ByteArray)) (out : List (List ByteArray)) {p : List ByteArray}, p ∈ s → ∃ o ∈ s.foldl normStep out, startsF o p = true
 | [], _, _, h => by simp at h
 | q :: s, out, p, h => by
  rcases List.mem_cons.1 h with rfl | h
  obtain ⟨o, h1, h2⟩ := step_cover out p
  exact ⟨o, fold_stay s h1, h2⟩
  exact fold_cover s _ h
theorem norm_cover {l : List (List ByteArray)} {p : List ByteArray} (h : p ∈ l) : ∃ o ∈ normF l, startsF o p = true := fold_cover _ _ (sortP_mem.2 h)
theorem starts_trans {a b c : List ByteArray} (h1 : startsF a b = true) (h2 : startsF b c = true) : startsF a c = true := starts_iff.2 ((starts_iff.1 h1).trans (starts_iff.1 h2))
theorem starts_anti {a b : List ByteArray} (h1 : startsF a b = true) (h2 : startsF b a = true) : a = b := (starts_iff.1 h1).eq_of_length_le (starts_iff.1 h2).length_le
theorem pw_mem {α : Type} {r : α → α → Prop} (hs : ∀ a b, r a b → r b a) : ∀ {l : List α}, l.Pairwise r → ∀ {x y : α}, x ∈ l → y ∈ l → x ≠ y → r x y
 | [], _, _, _, h, _, _ => by simp at h
 | a :: l, h, x, y, hx, hy, hne => by
  rw [List.pairwise_cons] at h
  rcases List.mem_cons.1 hx with rfl | hx'
  rcases List.mem_cons.1 hy with rfl | hy'
  exact absurd rfl hne
  exact h.1 y hy'
  rcases List.mem_cons.1 hy with rfl | hy'
  exact hs _ _ (h.1 x hx')
  exact pw_mem hs h.2 hx' hy' hne
theorem norm_iff {l : List (List ByteArray)} {x : List ByteArray} : x ∈ normF l ↔ x ∈ l ∧ ∀ y ∈ l, startsF y x = true → y = x := by
 constructor
 intro h
 refine ⟨normF_mem h, fun y hy hs => ?_⟩
 obtain ⟨o, h1, h2⟩ := norm_cover hy
 have h3 := starts_trans h2 hs
 have h4 : o = x := by
  by_cases e : o = x
  exact e
  have := pw_mem (fun a b h => Inc.symm h) (normF_inc l) h1 h e
  rw [this.no] at h3; cases h3
 subst h4
 exact starts_anti hs h2
 rintro ⟨h1, h2⟩
 obtain ⟨o, h3, h4⟩ := norm_cover h1
 rw [← h2 o (normF_mem h3) h4]; exact h3
theorem norm_nodup (l : List (List ByteArray)) : (normF l).Nodup := (normF_inc l).imp (fun h e => by subst e; have := h.no; rw [starts_self] at this; cases this)
def Can (t : Tree) : Prop := ∀ q, (getF q t).1.kind = 7 → objM (mems (getF q t).1) = (getF q t).1
theorem can_zero : Can Tree.zero := fun q h => by rw [getF_zero] at h; exact absurd h (by decide)
theorem can_memV {t : Tree} (h : Can t) (x : ByteArray) : Can (memV t x) := by
 cases hb : memB t x with
 | true => intro q; have := h (x :: q); rw [getF_cons, if_pos hb] at this; exact this
 | false => rw [memV_zero hb]; exact can_zero
theorem can_get {v : Tree} (h : Can v) : ∀ (p : List ByteArray), Can (getF p v).1
 | [] => h
 | x :: p => by
  rw [getF_cons]
  split
  exact can_get (can_memV h x) p
  exact can_zero
theorem can_set {t u : Tree} (h : Can t) (hu : Can u) (x : ByteArray) : Can (setT t x u) := by
 intro q
 cases q with
 | nil => intro _; show objM (mems (setT t x u)) = setT t x u; unfold setT; rw [mems_objM]
 | cons y q =>
  rw [getF_cons, memB_set, memV_set]
  by_cases he : eqT y x = true
  simp only [he, if_true]; exact hu q
  simp only [he]
  have := h (y :: q)
  rw [getF_cons] at this
  simpa using this
theorem can_unset {t : Tree} (h : Can t) (hn : ND t) (x : ByteArray) : Can (unsetT t x) := by
 intro q
 cases q with
 | nil =>
  show (unsetT t x).kind = 7 → objM (mems (unsetT t x)) = unsetT t x
  unfold unsetT
  split
  ·intro _; rw [mems_objM]
  ·exact h []
 | cons y q =>
  rw [getF_cons]
  by_cases he : eqT y x = true
  ·rw [eqT_iff] at he
   subst he
   rw [memB_look, look_unsetT_self (t := t) (hn [])]
   exact fun h => absurd (show (0 : Int) = 7 from h) (by decide)
  ·have he' : eqT y x = false := by simpa using he
   rw [memB_unset_ne he', memV_unset_ne he']
   have := h (y :: q)
   rwa [getF_cons] at this
theorem can_setP {v : Tree} (hv : Can v) : ∀ (p : List ByteArray) {t : Tree}, Can t → Can (setP p t v)
 | [], t, h => hv
 | x :: p, t, h => can_set h (can_setP hv p (can_memV h x)) x
theorem can_unsetP : ∀ (p : List ByteArray) {t : Tree}, Can t → ND t → Can (unsetP p t)
 | [], t, h, _ => h
 | [x], t, h, hn => can_unset h hn x
 | x :: m :: p, t, h, hn => by
  rw [unsetP]
  split
  exact can_set h (can_unsetP (m :: p) (can_memV h x) (nd_memV hn x)) x
  exact h
theorem can_all {v : Tree} (hv : Can v) (hn : ND v) : ∀ (s : List (List ByteArray)) {t : Tree}, Can t → ND t → Can (apAll t s v)
 | [], t, h, _ => h
 | p :: s, t, h, h2 => can_all hv hn s (t := apStep v t p) (by
  unfold apStep
  split
  ·exact can_setP (can_get hv p) p h
  ·exact can_unsetP p h h2) (nd_step hn h2 p)
theorem rep_self {x : ByteArray} : ∀ {l : Mem} {u : Tree}, lookA x l = some u → repA x u l = l
 | [], _, h => by simp [lookA] at h
 | (y, z) :: l, u, h => by
  simp only [lookA] at h
  simp only [repA]
  split at h
  rename_i he
  rw [if_pos he, Option.some.inj h]
  rename_i he
  rw [if_neg he, rep_self h]
theorem mem_kind {t : Tree} {x : ByteArray} (h : memB t x = true) : t.kind = 7 := by
 by_cases hk : t.kind = 7
 exact hk
 rw [memB_look, mems_none hk] at h; simp [lookA] at h
theorem set_self {t : Tree} (hc : Can t) {x : ByteArray} (h : memB t x = true) : setT t x (memV t x) = t := by
 have hk := mem_kind h
 rw [memB_look] at h
 obtain ⟨u, hu⟩ := Option.isSome_iff_exists.1 h
 have hv : memV t x = u := by rw [memV_look, hu]; rfl
 unfold setT insA
 rw [if_pos h, hv, rep_self hu]
 exact hc [] hk
theorem unsetP_self : ∀ {p : List ByteArray} {t : Tree}, Can t → p ≠ [] → (getF p t).2 = false → unsetP p t = t
 | [], t, _, h, _ => absurd rfl h
 | [x], t, hc, _, h => by
  rw [getF_cons] at h
  split at h
  cases h
  rename_i hb
  rw [unsetP]; unfold unsetT; rw [if_neg hb]
 | x :: m :: p, t, hc, _, h => by
  rw [unsetP]
  split
  rename_i hb
  rw [getF_cons, if_pos hb] at h
  rw [unsetP_self (can_memV hc x) (by simp) h, set_self hc hb]
  rfl
theorem less_at {xs ys : List ByteArray} {i : Nat} (hi : i < xs.length) (hj : i < ys.length) (hne : ((xs.getD i (dflt .str)).toList == (ys.getD i (dflt .str)).toList) = false) : decide (cmpS (xs.drop i) (ys.drop i) < 0) = Op.bytesLess (xs.getD i (dflt .str)).toList (ys.getD i (dflt .str)).toList := by
 have h := eqT_ne.1 (show eqT (xs.getD i (dflt .str)) (ys.getD i (dflt .str)) = false from hne)
 rw [cmpS_go hi hj, if_neg (fun e => h (cmpB_zero.1 e))]
 generalize xs.getD i (dflt .str) = x at *
 generalize ys.getD i (dflt .str) = y at *
 cases hb : Op.bytesLess x.toList y.toList with
 | true => rw [cmpB_of_lt (ltB_less.1 hb)]; rfl
 | false =>
  rcases ltB_tri x y with h1 | h1 | h1
  rw [ltB_less.2 h1] at hb; cases hb
  exact absurd h1 h
  rw [cmpB_of_gt h1]; rfl
theorem less_on {xs ys : List ByteArray} {i : Nat} (hi : i < xs.length) (hj : i < ys.length) (he : ((xs.getD i (dflt .str)).toList == (ys.getD i (dflt .str)).toList) = true) : cmpS (xs.drop i) (ys.drop i) = cmpS (xs.drop (i + 1)) (ys.drop (i + 1)) := by
 rw [cmpS_go hi hj, if_pos (cmpB_zero.2 (eqT_iff.1 he))]
theorem less_end {xs ys : List ByteArray} {i : Nat} (h : ¬ (i < xs.length ∧ i < ys.length)) (h1 : i ≤ xs.length) (h2 : i ≤ ys.length) : decide (cmpS (xs.drop i) (ys.drop i) < 0) = decide ((xs.length : Int) < (ys.length : Int)) := by
 by_cases a : i < xs.length
 rw [cmpS_gt a (fun b => h ⟨a, b⟩), decide_eq_false (show ¬ (xs.length : Int) < ys.length by omega)]; rfl
 by_cases b : i < ys.length
 rw [cmpS_lt a b, decide_eq_true (show (xs.length : Int) < ys.length by omega)]; rfl
 rw [cmpS_nil a b, decide_eq_false (show ¬ (xs.length : Int) < ys.length by omega)]; rfl
theorem con94 (xs ys : List ByteArray) (h : xs.length < 1000000000) : Con Tryz.prog I0 150 [.row .str xs, .row .str ys] (.val (vb (decide (cmpS xs ys < 0)))) := by
 refine con_of Tryz.func150 rfl (Nat.le_of_ble_eq_true rfl) stab (fun w0 fz a hI hs => ?_)
 refine wNs hs hI [] 11 [] [(0, rwS xs), (1, rwS ys)] [] fun a w hs => ?_
 refine wp_seq ?_
 refine wNs hs hI [] 11 [] [(0, rwS xs), (1, rwS ys), (5, vi 0)] [] fun a w hs => ?_
 refine wp_block ?_
 refine loop_L (N := Tryz.f150.ntmps) (w0 := w0) (ow := noO fz) (α := Nat) (fun p => [(0, rwS xs), (1, rwS ys), (5, vi (p : Int))]) (fun p => []) (fun p => (p ≤ xs.length ∧ p ≤ ys.length) ∧ cmpS (xs.drop p) (ys.drop p) = cmpS xs ys) (fun p => xs.length - p) 0 ?_ ?_ ?_
 exact ⟨⟨Nat.zero_le _, Nat.zero_le _⟩, rfl⟩
 exact hs.rk []
 rintro i hJ a w hs
 obtain ⟨⟨hi, hi2⟩, hd⟩ := hJ
 refine wp_seq ?_
 rcases bd ((i : Int) < (xs.length : Int)) with ⟨b1, n1⟩ | ⟨b1, n1⟩
 rcases bd ((i : Int) < (ys.length : Int)) with ⟨b2, n2⟩ | ⟨b2, n2⟩
 refine wL hs hI [(2, rg [] [5, 6, 7, 8, 1009] [])] (bz 1 1) 796667777708 [q1 b1, q1 b1, q1 b1, q1 b1, q1 b1, q1 b2] .norm [(0, rwS xs), (1, rwS ys), (5, vi (i : Int))] [] tv fun a w hs => ?_
 refine then_norm ?_
 rcases bq ((xs.getD i (dflt .str)).toList) ((ys.getD i (dflt .str)).toList) with ⟨b3, n3⟩ | ⟨b3, n3⟩
 refine wN hs hI (bz 1 0) 1719726607070 [q4 (i : Int) xs.length, q4 (i : Int) ys.length, q1 (ng1 b3), q3 ((i : Int) + 1)] .norm [(0, rwS xs), (1, rwS ys), (5, vi ((i : Int) + 1))] [] fun a w hs => ?_
 refine then_norm ⟨i + 1, ⟨⟨by omega, by omega⟩, by rw [← less_on (by omega) (by omega) b3]; exact hd⟩, by omega, ?_⟩
 exact hs.rk []
 refine wN hs hI (bz 1 1) 196687071726607070 [q4 (i : Int) xs.length, q4 (i : Int) ys.length, q1 (ng0 b3), q4 (i : Int) xs.length, q4 (i : Int) ys.length] .ret [(4, vb (Op.bytesLess (xs.getD i (dflt .str)).toList (ys.getD i (dflt .str)).toList))] [] fun a w hs => ?_
 refine then_ret ?_
 refine inb_ret ?_
 refine then_ret ?_
 exact rK (.val (vb (Op.bytesLess (xs.getD i (dflt .str)).toList (ys.getD i (dflt .str)).toList))) [] hs (by rw [← hd, less_at (by omega) (by omega) b3])
 refine wL hs hI [(2, rg [] [5, 6, 7, 8, 1009] [])] (bz 1 0) 796667777708 [q1 b1, q1 b1, q1 b1, q1 b1, q1 b1, q1 b2] (.exit 0) [(0, rwS xs), (1, rwS ys)] [] tv fun a w hs => ?_
 refine then_exit ?_
 refine then_exit ?_
 refine inb_hit ?_
 refine then_norm ?_
 refine wN hs hI [] 196188 [] .ret [(4, vb (decide ((xs.length : Int) < (ys.length : Int))))] [] fun a w hs => ?_
 exact rK (.val (vb (decide ((xs.length : Int) < (ys.length : Int))))) [] hs (by rw [← hd, less_end (by omega) (by omega) (by omega)])
 refine wL hs hI [(2, rg [] [] [5, 6, 7, 8, 1009])] (bz 1 0) 79667333308 [q1 b1, q1 b1, q1 b1, q1 b1, q1 b1, q0 false] (.exit 0) [(0, rwS xs), (1, rwS ys)] [] tv fun a w hs => ?_
 refine then_exit ?_
 refine then_exit ?_
 refine inb_hit ?_
 refine then_norm ?_
 refine wN hs hI [] 196188 [] .ret [(4, vb (decide ((xs.length : Int) < (ys.length : Int))))] [] fun a w hs => ?_
 exact rK (.val (vb (decide ((xs.length : Int) < (ys.length : Int))))) [] hs (by rw [← hd, less_end (by omega) (by omega) (by omega)])
theorem con93 (xs ys : List ByteArray) (h : xs.length < 1000000000) (h2 : ys.length < 1000000000) : Con Tryz.prog I0 124 [.row .str xs, .row .str ys] (.val (vb (startsF xs ys))) := by
 refine con_of Tryz.func124 rfl (Nat.le_of_ble_eq_true rfl) stab (fun w0 fz a hI hs => ?_)
 refine wNs hs hI [] 11 [] [(0, rwS xs), (1, rwS ys)] [] fun a w hs => ?_
 refine wp_seq ?_
 rcases bd ((ys.length : Int) < (xs.length : Int)) with ⟨b1, n1⟩ | ⟨b1, n1⟩
 refine wN hs hI (bz 1 1) 12172688 [q1 b1] .ret [(4, vb false)] [] fun a w hs => ?_
 refine then_ret ?_
 exact rK (.val (vb false)) [] hs (by rw [starts_len (by omega)])
 refine wN hs hI (bz 1 0) 72688 [q1 b1] .norm [(0, rwS xs), (1, rwS ys)] [] fun a w hs => ?_
 refine then_norm ?_
 refine wp_seq ?_
 refine wNs hs hI [] 11 [] [(0, rwS xs), (1, rwS ys), (5, vi 0)] [] fun a w hs => ?_
 refine wp_block ?_
 refine loop_L (N := Tryz.f124.ntmps) (w0 := w0) (ow := noO fz) (α := Nat) (fun p => [(0, rwS xs), (1, rwS ys), (5, vi (p : Int))]) (fun p => []) (fun p => p ≤ xs.length ∧ ∀ j, j < p → eqT (xs.getD j (dflt .str)) (ys.getD j (dflt .str)) = true) (fun p => xs.length - p) 0 ?_ ?_ ?_
 exact ⟨Nat.zero_le _, fun j hj => absurd hj (Nat.not_lt_zero _)⟩
 exact hs.rk []
 rintro i hJ a w hs
 obtain ⟨hi, hall⟩ := hJ
 rcases bd ((i : Int) < (xs.length : Int)) with ⟨b2, n2⟩ | ⟨b2, n2⟩
 rcases bq ((xs.getD i (dflt .str)).toList) ((ys.getD i (dflt .str)).toList) with ⟨b3, n3⟩ | ⟨b3, n3⟩
 refine wN hs hI (bz 2 1) 171972660707097608 [q1 b2, q4 (i : Int) xs.length, q4 (i : Int) ys.length, q1 (ng1 b3), q3 ((i : Int) + 1)] .norm [(0, rwS xs), (1, rwS ys), (5, vi ((i : Int) + 1))] [] fun a w hs => ?_
 refine then_norm ⟨i + 1, ⟨by omega, fun j hj => by rcases Nat.lt_succ_iff_lt_or_eq.1 hj with h | h; exact hall j h; subst h; exact b3⟩, by omega, ?_⟩
 exact hs.rk []
 refine wN hs hI (bz 2 3) 12172660707097608 [q1 b2, q4 (i : Int) xs.length, q4 (i : Int) ys.length, q1 (ng0 b3)] .ret [(4, vb false)] [] fun a w hs => ?_
 refine then_ret ?_
 refine inb_ret ?_
 refine then_ret ?_
 exact rK (.val (vb false)) [] hs (by rw [starts_no (i := i) (by omega) (by omega) b3])
 refine wN hs hI (bz 1 0) 7608 [q1 b2] (.exit 0) [] [] fun a w hs => ?_
 refine then_exit ?_
 refine inb_hit ?_
 refine then_norm ?_
 refine wN hs hI [] 120 [] .ret [(4, vb true)] [] fun a w hs => ?_
 exact rK (.val (vb true)) [] hs (by rw [starts_yes (by omega) (fun j hj => hall j (by omega))])
theorem con141_ (v : Tree) : ∀ (n : Nat) (q : List ByteArray) (t : Tree), q.length < n → nodes t < 100000000 → Con Tryz.prog I0 130 [.agg (encTree t), .row .str q, .agg (encTree v)] (.val (.agg (encTree (setP q t v)))) := by
 intro n
 induction n
 case zero => intro q t hn ht; omega
 rename_i n ih
 intro q t hn ht
 refine con_of Tryz.func130 rfl (Nat.le_of_ble_eq_true rfl) stab (fun w0 fz a hI hs => ?_)
 rcases bq (q.length : Int) (0) with ⟨b1, n1⟩ | ⟨b1, n1⟩
 refine wN hs hI (bz 1 1) 190729182918 [q1 b1] .ret [(6, .ptr 1002 0)] [(1002, bTr (v))] fun a w hs => ?_
 exact rK (.val (aTr (v))) [] hs (by have h0 : q = [] := List.eq_nil_of_length_eq_zero (by omega); rw [h0]; rfl)
 refine wL hs hI [(3, rc [(4, ciV 24 [aTr (t), vs (q.getD 0 (dflt .str))] (.tup [aTr ((memV t (q.getD 0 (dflt .str)))), vb (memB t (q.getD 0 (dflt .str)))]))]), (4, rc [(8, ciV 130 [aTr ((memV t (q.getD 0 (dflt .str)))), rwS (q.drop 1), aTr (v)] (aTr ((setP (q.drop 1) (memV t (q.getD 0 (dflt .str))) v)))), (9, ciV 25 [aTr (t), vs (q.getD 0 (dflt .str)), aTr ((setP (q.drop 1) (memV t (q.getD 0 (dflt .str))) v))] (aTr ((setT t (q.getD 0 (dflt .str)) (setP (q.drop 1) (memV t (q.getD 0 (dflt .str))) v)))))])] (bz 1 0) 12966044707029661884709729182918 [q1 b1, q4 (0 : Int) q.length, q4 (0 : Int) q.length, ⟨0 ≤ (1 : Int) ∧ (1 : Int) ≤ (q.length : Int) ∧ (q.length : Int) ≤ (q.length : Int) ∧ (q.length : Int) ≤ (q.length : Int), (by (repeat' apply And.intro) <;> (try split) <;> omega)⟩] .ret [(6, .ptr 1002 0)] [(1002, bTr ((setT t (q.getD 0 (dflt .str)) (setP (q.drop 1) (memV t (q.getD 0 (dflt .str))) v))))] ⟨con69 _ _ (by have h1 := nodes_eq t; have h2 := nodesL_len t.v; omega), ih _ _ (by rw [List.length_drop]; omega) (by have := memV_nodes' t (q.getD 0 (dflt .str)); omega), con22 _ _ _ (by have h1 := nodes_eq t; have h2 := nodesL_len t.v; omega), tv⟩ fun a w hs => ?_
 exact rK (.val (aTr ((setT t (q.getD 0 (dflt .str)) (setP (q.drop 1) (memV t (q.getD 0 (dflt .str))) v))))) [] hs (by rw [setP_at (q := q) (by omega)])
def restD (x : ByteArray) (done : Bool) (l : Mem) : Mem := if done = true then l else delA x l
structure DelJ (t : Tree) (x : ByteArray) (i : Nat) (acc : Mem) (done : Bool) : Prop where
 eq : acc ++ restD x done ((mems t).drop i) = delA x (mems t)
 len : acc.length ≤ i
theorem DelJ.start (t : Tree) (x : ByteArray) : DelJ t x 0 [] false := ⟨by simp [restD], Nat.zero_le _⟩
section
variable {t : Tree} {x : ByteArray} {i : Nat} {acc : Mem} {done : Bool} (J : DelJ t x i acc done) (hk : t.kind = 7) (h1 : i < t.k.length) (h2 : i < t.v.length)
include J hk h1 h2
theorem DelJ.hit (hd : done = false) (h : eqT (t.k.getD i (dflt .str)) x = true) : DelJ t x (i + 1) acc true := by
 refine ⟨?_, by have := J.len; omega⟩
 have he := J.eq
 rw [mems_drop hk h1 h2, hd] at he
 rw [← he]
 have e : delA x ((t.k.getD i (dflt .str), t.v.getD i (dflt .tree)) :: (mems t).drop (i + 1)) = (mems t).drop (i + 1) := by
  simp only [delA]; rw [if_pos (by rw [eqT_comm]; exact h)]
 show acc ++ (mems t).drop (i + 1) = acc ++ delA x _
 rw [e]
theorem DelJ.on (h : done = true ∨ eqT (t.k.getD i (dflt .str)) x = false) : DelJ t x (i + 1) (acc ++ [(t.k.getD i (dflt .str), t.v.getD i (dflt .tree))]) done := by
 refine ⟨?_, by have := J.len; simp; omega⟩
 have he := J.eq
 rw [mems_drop hk h1 h2] at he
 rw [← he]
 rcases h with rfl | h
 simp [restD]
 have e : delA x ((t.k.getD i (dflt .str), t.v.getD i (dflt .tree)) :: (mems t).drop (i + 1)) = (t.k.getD i (dflt .str), t.v.getD i (dflt .tree)) :: delA x ((mems t).drop (i + 1)) := by
  simp only [delA]; rw [if_neg (by rw [eqT_comm, h]; decide)]
 cases done with
 | true => simp [restD]
 | false =>
  show (acc ++ [_]) ++ delA x _ = acc ++ delA x _
  rw [e]; simp
end
theorem DelJ.fin {t : Tree} {x : ByteArray} {i : Nat} {acc : Mem} {done : Bool} (J : DelJ t x i acc done) (hb : memB t x = true) (he : (mems t).drop i = []) : unsetT t x = objM acc := by
 have h := J.eq
 rw [he] at h
 have e : restD x done [] = [] := by cases done <;> rfl
 rw [e, List.append_nil] at h
 unfold unsetT; rw [if_pos hb, ← h]
theorem con21 (t : Tree) (x : ByteArray) (hv : t.v.length < 100000000) : Con Tryz.prog I0 54 [.agg (encTree t), vs x] (.val (.agg (encTree (unsetT t x)))) := by
 refine con_of Tryz.func54 rfl (Nat.le_of_ble_eq_true rfl) stab (fun w0 fz a hI hs => ?_)
 refine wNs hs hI [] 8 [] [(1, vs x), (2, .ptr 1000 0), (4, .ptr 1001 0)] [(1000, bTr (t)), (1001, .var zTr)] fun a w hs => ?_
 refine wp_seq ?_
 rcases bt (memB t x) with b1 | b1
 refine wL hs hI [(1, rc [(2, ciV 24 [aTr (t), vs x] (.tup [aTr ((memV t x)), vb (memB t x)]))])] (bz 1 0) 79826618840 [q1 (ng1 b1)] .norm [(1, vs x), (2, .ptr 1000 0), (4, .ptr 1001 0)] [(1000, bTr (t)), (1001, .var zTr)] ⟨con69 _ _ (by omega), tv⟩ fun a w hs => ?_
 refine then_norm ?_
 refine wNs hs hI [] 18 [] [(1, vs x), (2, .ptr 1000 0), (4, .ptr 1001 0), (7, .ptr 5001 0)] [(1000, bTr (t)), (1001, .var zTr), (5001, .var [vi 7, vb false, vb false, nilv, vi 0, vs (ba []), nilv, nilv])] fun a w hs => ?_
 refine wNs hs hI [] 11 [] [(1, vs x), (2, .ptr 1000 0), (4, .ptr 1001 0), (7, .ptr 5001 0), (8, vb false)] [(1000, bTr (t)), (1001, .var zTr), (5001, .var [vi 7, vb false, vb false, nilv, vi 0, vs (ba []), nilv, nilv])] fun a w hs => ?_
 refine wp_seq ?_
 refine wNs hs hI [] 11 [] [(1, vs x), (2, .ptr 1000 0), (4, .ptr 1001 0), (7, .ptr 5001 0), (8, vb false), (9, vi 0)] [(1000, bTr (t)), (1001, .var zTr), (5001, .var [vi 7, vb false, vb false, nilv, vi 0, vs (ba []), nilv, nilv])] fun a w hs => ?_
 refine wp_block ?_
 have hk7 := mem_kind (t := t) (x := x) (by assumption)
 have hbx : memB t x = true := by assumption
 refine loop_L (N := Tryz.f54.ntmps) (w0 := w0) (ow := noO fz) (α := Nat × Mem × Bool) (fun p => [(1, vs x), (2, .ptr 1000 0), (4, .ptr 1001 0), (7, .ptr 90000001 0), (8, vb p.2.2), (9, vi ((p.1 : Nat) : Int))]) (fun p => [(1000, bTr (t)), (1001, .var zTr), (90000001, .var [vi 7, vb false, vb false, nilv, vi 0, vs (ba []), .own 90000002, .own 90000003]), (90000002, .sl 9 .str (mK p.2.1)), (90000003, .sl 28 .tree (mV p.2.1))]) (fun p => (p.1 ≤ t.k.length ∧ p.1 ≤ t.v.length) ∧ DelJ t x p.1 p.2.1 p.2.2) (fun p => t.k.length - p.1) (0, [], false) ?_ ?_ ?_
 exact ⟨⟨Nat.zero_le _, Nat.zero_le _⟩, DelJ.start t x⟩
 (have hs := ((hs.nilB 10000003 5001 6 9 .str [vi 7, vb false, vb false, nilv, vi 0, vs (ba []), nilv, nilv] (by kernel_rfl) (by kernel_rfl) (by decide) (by decide) (by kernel_rfl) (by kernel_rfl)).nilB 10000004 5001 7 28 .tree [vi 7, vb false, vb false, nilv, vi 0, vs (ba []), .own 10000003, nilv] (by kernel_rfl) (by kernel_rfl) (by decide) (by decide) (by kernel_rfl) (by kernel_rfl)).rmT [(1, vs x), (2, .ptr 1000 0), (4, .ptr 1001 0), (7, .ptr 5001 0), (8, vb false), (9, vi 0)] [(1000, bTr (t)), (1001, .var zTr), (5001, .var [vi 7, vb false, vb false, nilv, vi 0, vs (ba []), .own 10000003, .own 10000004]), (10000003, .sl 9 .str ([])), (10000004, .sl 28 .tree ([]))] [(1000, 1000), (1001, 1001), (5001, 5001), (10000003, 10000003), (10000004, 10000004)] (by kernel_rfl); exact (hs.cst [(1, vs x), (2, .ptr 1000 0), (4, .ptr 1001 0), (7, .ptr 5001 0), (8, vb false), (9, vi ((0 : Nat) : Int))] [(1000, bTr (t)), (1001, .var zTr), (5001, .var [vi 7, vb false, vb false, nilv, vi 0, vs (ba []), .own 10000003, .own 10000004]), (10000003, .sl 9 .str (mK ([]))), (10000004, .sl 28 .tree (mV ([])))] rfl).rk [(1000, 1000), (1001, 1001), (90000001, 5001), (90000002, 10000003), (90000003, 10000004)])
 rintro ⟨i, acc, done⟩ hJ a w hs
 try dsimp only at hJ
 obtain ⟨⟨hi, hi2⟩, hJ⟩ := hJ
 have hln := hJ.len
 have hl1 : (mK acc).length = acc.length := List.length_map _
 have hl2 : (mV acc).length = acc.length := List.length_map _
 refine wp_seq ?_
 rcases bd ((i : Int) < (t.k.length : Int)) with ⟨b2, n2⟩ | ⟨b2, n2⟩
 rcases bd ((i : Int) < (t.v.length : Int)) with ⟨b3, n3⟩ | ⟨b3, n3⟩
 refine wL hs hI [(7, rg [] [6, 7, 8, 9, 10, 1011] [])] (bz 1 1) 72666677777788 [q1 b2, q1 b2, q1 b2, q1 b2, q1 b2, q1 b2, q1 b3] .norm [(1, vs x), (2, .ptr 1000 0), (4, .ptr 1001 0), (7, .ptr 90000001 0), (8, vb done), (9, vi (i : Int))] [(1000, bTr (t)), (1001, .var zTr), (90000001, .var [vi 7, vb false, vb false, nilv, vi 0, vs (ba []), .own 90000002, .own 90000003]), (90000002, .sl 9 .str (mK acc)), (90000003, .sl 28 .tree (mV acc))] tv fun a w hs => ?_
 refine then_norm ?_
 rcases bt (done) with b4 | b4
 refine wL hs hI [(9, rg [] [] [3, 4, 5, 6, 7, 8, 9, 1010])] (bz 1 0) 1712966666187171871708972966733333338 [q1 (ng1 b4), q1 (ng1 b4), q1 (ng1 b4), q1 (ng1 b4), q1 (ng1 b4), q1 (ng1 b4), q1 (ng1 b4), q1 (ng1 b4), q0 false, q4 (i : Int) t.k.length, q7 ((mK acc).length) 1 16, q4 (i : Int) t.v.length, q7 ((mV acc).length) 1 120, q3 ((i : Int) + 1)] .norm [(1, vs x), (2, .ptr 1000 0), (4, .ptr 1001 0), (7, .ptr 90000001 0), (8, vb done), (9, vi ((i : Int) + 1))] [(1000, bTr (t)), (1001, .var zTr), (12008, .sl 9 .str ((mK acc) ++ ([(t.k.getD i (dflt .str))]))), (12017, .sl 28 .tree ((mV acc) ++ ([(Tree.et (t.v.getD i (dflt .tree)))]))), (90000001, .var [vi 7, vb false, vb false, nilv, vi 0, vs (ba []), .own 12008, .own 12017])] tv fun a w hs => ?_
 refine then_norm ⟨(i + 1, acc ++ [(t.k.getD i (dflt .str), t.v.getD i (dflt .tree))], done), ⟨⟨by omega, by omega⟩, hJ.on hk7 (by omega) (by omega) (.inl b4)⟩, by omega, ?_⟩
 (have e0_ : ((i : Int) + 1) = ((((i + 1) : Nat) : Int)) := (by first | rfl | (first | rfl | (simp only [mK_add, mV_add, Tree.eta']; rfl) | (simp [mK, mV, Tree.eta']; done))); have e1_ : ((mK acc) ++ ([(t.k.getD i (dflt .str))])) = (mK (acc ++ [(t.k.getD i (dflt .str), t.v.getD i (dflt .tree))])) := (by first | rfl | (first | rfl | (simp only [mK_add, mV_add, Tree.eta']; rfl) | (simp [mK, mV, Tree.eta']; done))); have e2_ : ((mV acc) ++ ([(Tree.et (t.v.getD i (dflt .tree)))])) = (mV (acc ++ [(t.k.getD i (dflt .str), t.v.getD i (dflt .tree))])) := (by first | rfl | (first | rfl | (simp only [mK_add, mV_add, Tree.eta']; rfl) | (simp [mK, mV, Tree.eta']; done))); exact (hs.cst [(1, vs x), (2, .ptr 1000 0), (4, .ptr 1001 0), (7, .ptr 90000001 0), (8, vb done), (9, vi (((i + 1) : Nat) : Int))] [(1000, bTr (t)), (1001, .var zTr), (12008, .sl 9 .str (mK (acc ++ [(t.k.getD i (dflt .str), t.v.getD i (dflt .tree))]))), (12017, .sl 28 .tree (mV (acc ++ [(t.k.getD i (dflt .str), t.v.getD i (dflt .tree))]))), (90000001, .var [vi 7, vb false, vb false, nilv, vi 0, vs (ba []), .own 12008, .own 12017])] (by first | (rw [e0_, e1_, e2_]; done) | (simp only [e0_, e1_, e2_]; done) | rfl | (simp only [e0_, e1_, e2_]; rfl))).rk [(1000, 1000), (1001, 1001), (90000001, 90000001), (90000002, 12008), (90000003, 12017)])
 rcases bq ((t.k.getD i (dflt .str)).toList) (x.toList) with ⟨b5, n5⟩ | ⟨b5, n5⟩
 refine wL hs hI [(9, rg [] [3, 4, 5, 6, 7, 8, 9, 1010] [])] (bz 1 1) 171291217966667777337778 [q1 (ng0 b4), q1 (ng0 b4), q1 (ng0 b4), q1 (ng0 b4), q4 (i : Int) t.k.length, q1 (ng0 b4), q1 (ng0 b4), q1 (ng0 b4), q1 (ng0 b4), q1 b5, q3 ((i : Int) + 1)] .norm [(1, vs x), (2, .ptr 1000 0), (4, .ptr 1001 0), (7, .ptr 90000001 0), (8, vb true), (9, vi ((i : Int) + 1))] [(1000, bTr (t)), (1001, .var zTr), (90000001, .var [vi 7, vb false, vb false, nilv, vi 0, vs (ba []), .own 90000002, .own 90000003]), (90000002, .sl 9 .str (mK acc)), (90000003, .sl 28 .tree (mV acc))] tv fun a w hs => ?_
 refine then_norm ⟨(i + 1, acc, true), ⟨⟨by omega, by omega⟩, hJ.hit hk7 (by omega) (by omega) b4 b5⟩, by omega, ?_⟩
 exact hs.rk [(1000, 1000), (1001, 1001), (90000001, 90000001), (90000002, 90000002), (90000003, 90000003)]
 refine wL hs hI [(9, rg [] [3, 4, 5, 6, 7, 8, 9, 1010] [])] (bz 1 0) 171296666618717187170897966667777337778 [q1 (ng0 b4), q1 (ng0 b4), q1 (ng0 b4), q1 (ng0 b4), q4 (i : Int) t.k.length, q1 (ng0 b4), q1 (ng0 b4), q1 (ng0 b4), q1 (ng0 b4), q1 b5, q4 (i : Int) t.k.length, q7 ((mK acc).length) 1 16, q4 (i : Int) t.v.length, q7 ((mV acc).length) 1 120, q3 ((i : Int) + 1)] .norm [(1, vs x), (2, .ptr 1000 0), (4, .ptr 1001 0), (7, .ptr 90000001 0), (8, vb done), (9, vi ((i : Int) + 1))] [(1000, bTr (t)), (1001, .var zTr), (12008, .sl 9 .str ((mK acc) ++ ([(t.k.getD i (dflt .str))]))), (12017, .sl 28 .tree ((mV acc) ++ ([(Tree.et (t.v.getD i (dflt .tree)))]))), (90000001, .var [vi 7, vb false, vb false, nilv, vi 0, vs (ba []), .own 12008, .own 12017])] tv fun a w hs => ?_
 refine then_norm ⟨(i + 1, acc ++ [(t.k.getD i (dflt .str), t.v.getD i (dflt .tree))], done), ⟨⟨by omega, by omega⟩, hJ.on hk7 (by omega) (by omega) (.inr b5)⟩, by omega, ?_⟩
 (have e0_ : ((i : Int) + 1) = ((((i + 1) : Nat) : Int)) := (by first | rfl | (first | rfl | (simp only [mK_add, mV_add, Tree.eta']; rfl) | (simp [mK, mV, Tree.eta']; done))); have e1_ : ((mK acc) ++ ([(t.k.getD i (dflt .str))])) = (mK (acc ++ [(t.k.getD i (dflt .str), t.v.getD i (dflt .tree))])) := (by first | rfl | (first | rfl | (simp only [mK_add, mV_add, Tree.eta']; rfl) | (simp [mK, mV, Tree.eta']; done))); have e2_ : ((mV acc) ++ ([(Tree.et (t.v.getD i (dflt .tree)))])) = (mV (acc ++ [(t.k.getD i (dflt .str), t.v.getD i (dflt .tree))])) := (by first | rfl | (first | rfl | (simp only [mK_add, mV_add, Tree.eta']; rfl) | (simp [mK, mV, Tree.eta']; done))); exact (hs.cst [(1, vs x), (2, .ptr 1000 0), (4, .ptr 1001 0), (7, .ptr 90000001 0), (8, vb done), (9, vi (((i + 1) : Nat) : Int))] [(1000, bTr (t)), (1001, .var zTr), (12008, .sl 9 .str (mK (acc ++ [(t.k.getD i (dflt .str), t.v.getD i (dflt .tree))]))), (12017, .sl 28 .tree (mV (acc ++ [(t.k.getD i (dflt .str), t.v.getD i (dflt .tree))]))), (90000001, .var [vi 7, vb false, vb false, nilv, vi 0, vs (ba []), .own 12008, .own 12017])] (by first | (rw [e0_, e1_, e2_]; done) | (simp only [e0_, e1_, e2_]; done) | rfl | (simp only [e0_, e1_, e2_]; rfl))).rk [(1000, 1000), (1001, 1001), (90000001, 90000001), (90000002, 12008), (90000003, 12017)])
 refine wL hs hI [(7, rg [] [6, 7, 8, 9, 10, 1011] [])] (bz 1 0) 72666677777788 [q1 b2, q1 b2, q1 b2, q1 b2, q1 b2, q1 b2, q1 b3] (.exit 0) [(4, .ptr 1001 0), (7, .ptr 90000001 0)] [(1001, .var zTr), (90000001, .var [vi 7, vb false, vb false, nilv, vi 0, vs (ba []), .own 90000002, .own 90000003]), (90000002, .sl 9 .str (mK acc)), (90000003, .sl 28 .tree (mV acc))] tv fun a w hs => ?_
 refine then_exit ?_
 refine then_exit ?_
 refine inb_hit ?_
 refine then_norm ?_
 refine wN hs hI [] 198 [] .ret [(4, .ptr 1001 0)] [(1001, .var [vi 7, vb false, vb false, nilv, vi 0, vs (ba []), .own 90000002, .own 90000003]), (90000002, .sl 9 .str (mK acc)), (90000003, .sl 28 .tree (mV acc))] fun a w hs => ?_
 exact rK (.val (.agg [vi 7, vb false, vb false, rwU ([]), vi 0, vs (ba []), rwS (mK acc), rwT (mV acc)])) [90000002, 90000003] hs (by rw [hJ.fin hbx (mems_end (by omega))]; rfl)
 refine wL hs hI [(7, rg [] [] [6, 7, 8, 9, 10, 1011])] (bz 1 0) 766673333388 [q1 b2, q1 b2, q1 b2, q1 b2, q1 b2, q1 b2, q0 false] (.exit 0) [(4, .ptr 1001 0), (7, .ptr 90000001 0)] [(1001, .var zTr), (90000001, .var [vi 7, vb false, vb false, nilv, vi 0, vs (ba []), .own 90000002, .own 90000003]), (90000002, .sl 9 .str (mK acc)), (90000003, .sl 28 .tree (mV acc))] tv fun a w hs => ?_
 refine then_exit ?_
 refine then_exit ?_
 refine inb_hit ?_
 refine then_norm ?_
 refine wN hs hI [] 198 [] .ret [(4, .ptr 1001 0)] [(1001, .var [vi 7, vb false, vb false, nilv, vi 0, vs (ba []), .own 90000002, .own 90000003]), (90000002, .sl 9 .str (mK acc)), (90000003, .sl 28 .tree (mV acc))] fun a w hs => ?_
 exact rK (.val (.agg [vi 7, vb false, vb false, rwU ([]), vi 0, vs (ba []), rwS (mK acc), rwT (mV acc)])) [90000002, 90000003] hs (by rw [hJ.fin hbx (mems_end (by omega))]; rfl)
 refine wL hs hI [(1, rc [(2, ciV 24 [aTr (t), vs x] (.tup [aTr ((memV t x)), vb (memB t x)]))])] (bz 1 1) 19079826618840 [q1 (ng0 b1)] .ret [(4, .ptr 1001 0)] [(1001, bTr (t))] ⟨con69 _ _ (by omega), tv⟩ fun a w hs => ?_
 refine then_ret ?_
 exact rK (.val (aTr (t))) [] hs (by unfold unsetT; rw [if_neg (by rw [b1]; decide)])
theorem unsetP_none {q : List ByteArray} {t : Tree} (h : 0 < q.length) (hb : memB t (q.getD 0 (dflt .str)) = false) : unsetP q t = t := by
 by_cases h1 : q.length = 1
 rw [unsetP_one h1]; unfold unsetT; rw [if_neg (by rw [hb]; decide)]
 exact unsetP_no (by omega) hb
theorem con142_ : ∀ (n : Nat) (q : List ByteArray) (t : Tree), q.length < n → 0 < q.length → nodes t < 100000000 → Con Tryz.prog I0 131 [.agg (encTree t), .row .str q] (.val (.agg (encTree (unsetP q t)))) := by
 intro n
 induction n
 case zero => intro q t hn hp ht; omega
 rename_i n ih
 intro q t hn hp ht
 refine con_of Tryz.func131 rfl (Nat.le_of_ble_eq_true rfl) stab (fun w0 fz a hI hs => ?_)
 refine wNs hs hI [] 8 [] [(1, rwS q), (2, .ptr 1000 0), (4, .ptr 1001 0)] [(1000, bTr (t)), (1001, .var zTr)] fun a w hs => ?_
 refine wLs hs hI [(1, rc [(4, ciV 24 [aTr (t), vs (q.getD 0 (dflt .str))] (.tup [aTr ((memV t (q.getD 0 (dflt .str)))), vb (memB t (q.getD 0 (dflt .str)))]))])] [] 188470 [q4 (0 : Int) q.length] [(1, rwS q), (2, .ptr 1000 0), (4, .ptr 1001 0), (5, .ptr 2008 0), (6, vb (memB t (q.getD 0 (dflt .str))))] [(1000, bTr (t)), (1001, .var zTr), (2008, bTr ((memV t (q.getD 0 (dflt .str)))))] ⟨con69 _ _ (by have h1 := nodes_eq t; have h2 := nodesL_len t.v; omega), tv⟩ fun a w hs => ?_
 rcases bt (memB t (q.getD 0 (dflt .str))) with b1 | b1
 rcases bq (q.length : Int) (1) with ⟨b2, n2⟩ | ⟨b2, n2⟩
 refine wL hs hI [(5, rc [(4, ciV 54 [aTr (t), vs (q.getD 0 (dflt .str))] (aTr ((unsetT t (q.getD 0 (dflt .str))))))])] (bz 2 2) 1960471761872918 [q1 (ng1 b1), q1 b2, q4 (0 : Int) q.length] .ret [(4, .ptr 1001 0)] [(1001, bTr ((unsetT t (q.getD 0 (dflt .str)))))] ⟨con21 _ _ (by have h1 := nodes_eq t; have h2 := nodesL_len t.v; omega), tv⟩ fun a w hs => ?_
 exact rK (.val (aTr ((unsetT t (q.getD 0 (dflt .str)))))) [] hs (by rw [unsetP_one (by omega)])
 refine wL hs hI [(6, rc [(7, ciV 131 [aTr ((memV t (q.getD 0 (dflt .str)))), rwS (q.drop 1)] (aTr ((unsetP (q.drop 1) (memV t (q.getD 0 (dflt .str))))))), (8, ciV 25 [aTr (t), vs (q.getD 0 (dflt .str)), aTr ((unsetP (q.drop 1) (memV t (q.getD 0 (dflt .str)))))] (aTr ((setT t (q.getD 0 (dflt .str)) (unsetP (q.drop 1) (memV t (q.getD 0 (dflt .str))))))))])] (bz 2 0) 196604430706761872918 [q1 (ng1 b1), q1 b2, q4 (0 : Int) q.length, ⟨0 ≤ (1 : Int) ∧ (1 : Int) ≤ (q.length : Int) ∧ (q.length : Int) ≤ (q.length : Int) ∧ (q.length : Int) ≤ (q.length : Int), (by (repeat' apply And.intro) <;> (try split) <;> omega)⟩] .ret [(4, .ptr 1001 0)] [(1001, bTr ((setT t (q.getD 0 (dflt .str)) (unsetP (q.drop 1) (memV t (q.getD 0 (dflt .str)))))))] ⟨ih _ _ (by rw [List.length_drop]; omega) (by rw [List.length_drop]; omega) (by have := memV_nodes' t (q.getD 0 (dflt .str)); omega), con22 _ _ _ (by have h1 := nodes_eq t; have h2 := nodesL_len t.v; omega), tv⟩ fun a w hs => ?_
 exact rK (.val (aTr ((setT t (q.getD 0 (dflt .str)) (unsetP (q.drop 1) (memV t (q.getD 0 (dflt .str)))))))) [] hs (by rw [unsetP_yes (by omega) b1])
 refine wN hs hI (bz 1 1) 19072918 [q1 (ng0 b1)] .ret [(4, .ptr 1001 0)] [(1001, bTr (t))] fun a w hs => ?_
 exact rK (.val (aTr (t))) [] hs (by rw [unsetP_none hp b1])
abbrev pAt (l : List (List ByteArray)) (i : Nat) : List ByteArray := l.getD i (dflt .strs)
def coverB (l : List (List ByteArray)) (i k : Nat) : Bool := startsF (pAt l k) (pAt l i) && (decide (((pAt l k).length : Int) < ((pAt l i).length : Int)) || decide ((k : Int) < (i : Int)))
def keepF (l : List (List ByteArray)) (i : Nat) : Bool := (List.range l.length).all fun k => !coverB l i k
def keepTo (l : List (List ByteArray)) (i k : Nat) : Bool := (List.range k).all fun j => !coverB l i j
theorem keepTo_succ (l : List (List ByteArray)) (i k : Nat) : keepTo l i (k + 1) = (keepTo l i k && !coverB l i k) := by
 unfold keepTo; rw [List.range_succ, List.all_append]; simp
theorem keepTo_end {l : List (List ByteArray)} {i k : Nat} (h : k = l.length) : keepTo l i k = keepF l i := by subst h; rfl
structure NrmJ (l : List (List ByteArray)) (i : Nat) (m : List (List ByteArray)) : Prop where
 le : i ≤ l.length
 srt : m.Pairwise Le
 nd : m.Nodup
 mem : ∀ x, x ∈ m ↔ ∃ j, j < i ∧ keepF l j = true ∧ pAt l j = x
 len : m.length ≤ i
theorem NrmJ.start (l : List (List ByteArray)) : NrmJ l 0 [] := ⟨Nat.zero_le _, List.Pairwise.nil, List.nodup_nil, fun x => ⟨fun h => by simp at h, fun ⟨j, h, _⟩ => absurd h (Nat.not_lt_zero _)⟩, Nat.le_refl _⟩
theorem NrmJ.skip {l : List (List ByteArray)} {i : Nat} {m : List (List ByteArray)} (h : NrmJ l i m) (hi : i < l.length) (hk : keepF l i = false) : NrmJ l (i + 1) m := by
 refine ⟨by omega, h.srt, h.nd, fun x => ?_, by have := h.len; omega⟩
 rw [h.mem x]
 refine ⟨fun ⟨j, h1, h2, h3⟩ => ⟨j, by omega, h2, h3⟩, fun ⟨j, h1, h2, h3⟩ => ⟨j, ?_, h2, h3⟩⟩
 rcases Nat.lt_succ_iff_lt_or_eq.1 h1 with h4 | h4
 exact h4
 subst h4; rw [hk] at h2; cases h2
theorem keep_yes {l : List (List ByteArray)} {i : Nat} (h : keepF l i = true) {k : Nat} (hk : k < l.length) (hs : startsF (pAt l k) (pAt l i) = true) : ¬ (pAt l k).length < (pAt l i).length ∧ ¬ k < i := by
 have h1 := List.all_eq_true.1 h k (by simpa using hk)
 unfold coverB at h1
 rw [hs, Bool.true_and, Bool.not_eq_true', Bool.or_eq_false_iff] at h1
 have h2 := of_decide_eq_false h1.1
 have h3 := of_decide_eq_false h1.2
 omega
structure InsJ (x : List ByteArray) (m : List (List ByteArray)) (k : Nat) : Prop where
 le : k ≤ m.length
 up : ∀ j, k ≤ j → j < m.length → cmpS x (pAt m j) < 0
theorem InsJ.start (x : List ByteArray) (m : List (List ByteArray)) : InsJ x m m.length := ⟨Nat.le_refl _, fun j h1 h2 => absurd h2 (by omega)⟩
theorem InsJ.on {x : List ByteArray} {m : List (List ByteArray)} {k : Nat} (h : InsJ x m k) (hk : 0 < k) (hl : cmpS x (pAt m (k - 1)) < 0) : InsJ x m (k - 1) := by
 refine ⟨by have := h.le; omega, fun j h1 h2 => ?_⟩
 rcases Nat.lt_or_ge j k with h3 | h3
 rw [show j = k - 1 by omega]; exact hl
 exact h.up j h3 h2
theorem getD_at {m : List (List ByteArray)} {j : Nat} (h : j < m.length) : pAt m j = m[j] := by
 unfold pAt; rw [List.getD_eq_getElem?_getD, List.getElem?_eq_getElem h]; rfl
theorem le_last {m : List (List ByteArray)} (hs : m.Pairwise Le) {j k : Nat} (h : j ≤ k) (hk : k < m.length) : Le (pAt m j) (pAt m k) := by
 rcases Nat.lt_or_eq_of_le h with h1 | h1
 rw [getD_at hk, getD_at (show j < m.length by omega)]
 exact List.pairwise_iff_getElem.1 hs j k (by omega) hk h1
 subst h1; exact Le.refl _
theorem insP_sorted {x : List ByteArray} {m : List (List ByteArray)} {k : Nat} (hs : m.Pairwise Le) (h : InsJ x m k) (h0 : k = 0 ∨ ¬ cmpS x (pAt m (k - 1)) < 0) : (m.take k ++ [x] ++ m.drop k).Pairwise Le := by
 have hle := h.le
 have h1 : ∀ a ∈ m.take k, Le a x := fun a ha => by
  obtain ⟨j, hj, rfl⟩ := List.mem_iff_getElem.1 ha
  rw [List.length_take] at hj
  rcases h0 with h0 | h0
  omega
  have h2 := le_last hs (j := j) (k := k - 1) (by omega) (by omega)
  rw [List.getElem_take, ← getD_at (show j < m.length by omega)]
  exact h2.trans h0
 have h2 : ∀ b ∈ m.drop k, Le x b := fun b hb => by
  obtain ⟨j, hj, rfl⟩ := List.mem_iff_getElem.1 hb
  rw [List.length_drop] at hj
  rw [List.getElem_drop, ← getD_at (show k + j < m.length by omega)]
  have h3 := h.up (k + j) (by omega) (by omega)
  intro h4
  have h5 := cmpS_trans h3 h4
  rw [cmpS_self] at h5
  exact absurd h5 (by decide)
 have hm := hs
 rw [← List.take_append_drop k m, List.pairwise_append] at hm
 rw [List.append_assoc, List.pairwise_append]
 refine ⟨hm.1, ?_, fun a ha b hb => ?_⟩
 rw [List.singleton_append, List.pairwise_cons]
 exact ⟨h2, hm.2.1⟩
 rw [List.singleton_append, List.mem_cons] at hb
 rcases hb with rfl | hb
 exact h1 a ha
 exact hm.2.2 a ha b hb
theorem insP_perm (x : List ByteArray) (m : List (List ByteArray)) (k : Nat) : (m.take k ++ [x] ++ m.drop k).Perm (x :: m) := by
 rw [List.append_assoc, List.singleton_append]
 refine List.perm_middle.trans ?_
 rw [List.take_append_drop]
theorem NrmJ.put {l : List (List ByteArray)} {i k : Nat} {m : List (List ByteArray)} (h : NrmJ l i m) (hi : i < l.length) (hk : keepF l i = true) (hins : InsJ (pAt l i) m k) (h0 : k = 0 ∨ ¬ cmpS (pAt l i) (pAt m (k - 1)) < 0) : NrmJ l (i + 1) (m.take k ++ [pAt l i] ++ m.drop k) := by
 have hp := insP_perm (pAt l i) m k
 refine ⟨by omega, insP_sorted h.srt hins h0, hp.nodup_iff.2 (List.nodup_cons.2 ⟨fun hm => ?_, h.nd⟩), fun x => ?_, by rw [hp.length_eq, List.length_cons]; have := h.len; omega⟩
 obtain ⟨j, h1, h2, h3⟩ := (h.mem _).1 hm
 exact (keep_yes hk (k := j) (by omega) (by rw [h3]; exact starts_self _)).2 h1
 rw [hp.mem_iff, List.mem_cons, h.mem x]
 constructor
 rintro (rfl | ⟨j, h1, h2, h3⟩)
 exact ⟨i, by omega, hk, rfl⟩
 exact ⟨j, by omega, h2, h3⟩
 rintro ⟨j, h1, h2, h3⟩
 rcases Nat.lt_succ_iff_lt_or_eq.1 h1 with h4 | h4
 exact .inr ⟨j, h4, h2, h3⟩
 subst h4; exact .inl h3.symm
theorem first_of {l : List (List ByteArray)} {x : List ByteArray} (h : x ∈ l) : ∃ i, i < l.length ∧ pAt l i = x ∧ ∀ j, j < i → pAt l j ≠ x := by
 induction l with
 | nil => simp at h
 | cons y l ih =>
  by_cases he : y = x
  exact ⟨0, by simp, he, fun j hj => absurd hj (Nat.not_lt_zero _)⟩
  obtain ⟨i, h1, h2, h3⟩ := ih (by rcases List.mem_cons.1 h with h | h; exact absurd h.symm he; exact h)
  refine ⟨i + 1, by simp; omega, h2, fun j hj => ?_⟩
  rcases j with _ | j
  exact he
  exact h3 j (by omega)
theorem NrmJ.fin {l : List (List ByteArray)} {i : Nat} {m : List (List ByteArray)} (h : NrmJ l i m) (hi : i = l.length) : m = normF l := by
 subst hi
 refine List.Perm.eq_of_pairwise (le := Le) (fun a b _ _ h1 h2 => cmpS_anti h2 h1) h.srt (normF_sorted l) ?_
 rw [List.perm_ext_iff_of_nodup h.nd (norm_nodup l)]
 intro x
 rw [h.mem x, norm_iff]
 constructor
 rintro ⟨j, h1, h2, rfl⟩
 refine ⟨getD_mem h1 _, fun y hy hs => ?_⟩
 obtain ⟨k, hk, rfl⟩ := List.mem_iff_getElem.1 hy
 rw [← getD_at hk] at hs ⊢
 have h3 := keep_yes h2 hk hs
 exact (starts_iff.1 hs).eq_of_length_le (by omega)
 rintro ⟨h1, h2⟩
 obtain ⟨j, h3, h4, h5⟩ := first_of h1
 refine ⟨j, h3, ?_, h4⟩
 refine all_yes' (fun k hk => ?_)
 cases hc : coverB l j k with
 | false => rfl
 | true =>
  exfalso
  unfold coverB at hc
  rw [Bool.and_eq_true, h4] at hc
  have h6 := h2 _ (getD_mem hk (dflt .strs)) hc.1
  have h7 := hc.2
  rw [show pAt l k = x from h6] at h7
  simp at h7
  exact h5 k (by omega) h6
structure OneN (n : Nat) (t : Tree) : Prop where
 own : ownO t = true
 ok : Ok t.n.m
 len : t.n.m.length ≤ 3
 k : t.k.length ≤ n
 sorted : ((mems t).map (·.1)).Pairwise ltB
 texts : ∀ p ∈ mems t, textOk p.1 = true
def GoodN (n : Nat) : Nat → Tree → Prop
 | 0, _ => False
 | d + 1, t => OneN n t ∧ t.v.length ≤ n ∧ ∀ u ∈ t.v, GoodN n d u
def MemN (n d : Nat) (t : Tree) : Prop := (mems t).length ≤ n ∧ ((mems t).map (·.1)).Pairwise ltB ∧ ∀ p ∈ mems t, textOk p.1 = true ∧ GoodN n d p.2
theorem goodN_T : ∀ {d : Nat} {t : Tree}, GoodT d t → GoodN 3 d t
 | 0, _, h => h.elim
 | d + 1, t, ⟨h1, h2, h3⟩ => ⟨⟨h1.own, h1.ok, h1.len, h1.k, h1.sorted, h1.texts⟩, h2, fun u hu => goodN_T (h3 u hu)⟩
theorem goodN_mono {n m : Nat} (hn : n ≤ m) : ∀ {d e : Nat} {t : Tree}, d ≤ e → GoodN n d t → GoodN m e t
 | 0, _, _, _, h => h.elim
 | d + 1, 0, _, hd, _ => absurd hd (Nat.not_succ_le_zero d)
 | d + 1, e + 1, t, hd, ⟨h1, h2, h3⟩ => ⟨⟨h1.own, h1.ok, h1.len, Nat.le_trans h1.k hn, h1.sorted, h1.texts⟩, Nat.le_trans h2 hn, fun u hu => goodN_mono hn (Nat.le_of_succ_le_succ hd) (h3 u hu)⟩
theorem goodN_fine {n : Nat} (hn : n < 1000000000) : ∀ {d : Nat} {t : Tree}, GoodN n d t → fineT t
 | 0, _, h => h.elim
 | d + 1, t, ⟨h1, h2, h3⟩ => by
  have hl : ∀ l : List Tree, (∀ u ∈ l, fineT u) → fineL l := by
   intro l
   induction l with
   | nil => intro _; trivial
   | cons x l ih => exact fun h => ⟨h x (by simp), ih (fun u hu => h u (by simp [hu]))⟩
  rw [fine_eq]
  exact ⟨⟨h1.ok, by have := h1.len; omega, by have := h1.k; omega, by omega⟩, hl _ (fun u hu => goodN_fine hn (h3 u hu))⟩
theorem chk_goodN {n : Nat} : ∀ {d : Nat} {t : Tree} {e l : Int}, GoodN n d t → e + d ≤ 65 → (nodes t : Int) ≤ l → (chk t e l).1 = true ∧ (chk t e l).2 = l - nodes t
 | 0, _, _, _, h, _, _ => h.elim
 | d + 1, t, e, l, ⟨h1, h2, h3⟩, he, hl => by
  have hn := nodes_eq t
  have key : ∀ (v : List Tree) (l : Int), (∀ u ∈ v, GoodN n d u) → (nodesL v : Int) ≤ l → (chkL v (e + 1) l).1 = true ∧ (chkL v (e + 1) l).2 = l - nodesL v := by
   intro v
   induction v with
   | nil => intro l _ _; simp [chkL, nodesL]
   | cons x v ih =>
    intro l hv hl
    simp only [nodesL] at hl
    have hx := chk_goodN (e := e + 1) (l := l) (hv x (by simp)) (by omega) (by omega)
    simp only [chkL]
    rw [if_pos hx.1, hx.2]
    have := ih (l - nodes x) (fun u hu => hv u (by simp [hu])) (by omega)
    simp only [nodesL]
    exact ⟨this.1, by rw [this.2]; omega⟩
  rw [chk_eq, if_neg (by
   rintro (h | h | h)
   ·omega
   ·omega
   ·rw [h1.own] at h; cases h)]
  have := key t.v (l - 1) h3 (by omega)
  exact ⟨this.1, by rw [this.2]; omega⟩
theorem goodN_mem {n d : Nat} {t : Tree} (h : GoodN n (d + 1) t) : MemN n d t := ⟨by have := mems_lev t; have := h.2.1; omega, h.1.sorted, fun p hp => ⟨h.1.texts p hp, h.2.2 _ (mems_in hp)⟩⟩
theorem mem_zeroN (n d : Nat) : MemN n d Tree.zero := by
 have : mems Tree.zero = [] := no_mems rfl
 exact ⟨by rw [this]; exact Nat.zero_le _, by rw [this]; exact List.Pairwise.nil, by rw [this]; intro p hp; simp at hp⟩
theorem look_mem {x : ByteArray} : ∀ {l : Mem} {u : Tree}, lookA x l = some u → (x, u) ∈ l
 | [], _, h => by simp [lookA] at h
 | (y, z) :: l, u, h => by
  simp only [lookA] at h
  split at h
  rename_i he
  rw [eqT_iff] at he
  subst he
  rw [Option.some.inj h]; exact List.mem_cons_self ..
  exact List.mem_cons_of_mem _ (look_mem h)
theorem memN_V {n d : Nat} {t : Tree} {x : ByteArray} (h : MemN n (d + 1) t) : MemN n d (memV t x) := by
 cases hb : memB t x with
 | true =>
  rw [memB_look] at hb
  obtain ⟨u, hu⟩ := Option.isSome_iff_exists.1 hb
  rw [memV_look, hu]
  exact goodN_mem (h.2.2 _ (look_mem hu)).2
 | false => rw [memV_zero hb]; exact mem_zeroN n d
theorem obj_goodN {n d : Nat} {L : Mem} (hn : n ≤ 300) (h1 : L.length ≤ n) (h2 : (L.map (·.1)).Pairwise ltB) (h3 : ∀ p ∈ L, textOk p.1 = true ∧ GoodN n d p.2) : GoodN n (d + 1) (objM L) := by
 refine ⟨⟨own_obj (by omega) h2 (fun p hp => (h3 p hp).1), Ok.nil, Nat.zero_le _, ?_, by rw [mems_objM]; exact h2, by rw [mems_objM]; exact fun p hp => (h3 p hp).1⟩, ?_, fun u hu => ?_⟩
 show (L.map (·.1)).length ≤ n; rw [List.length_map]; exact h1
 show (L.map (·.2)).length ≤ n; rw [List.length_map]; exact h1
 obtain ⟨p, hp, rfl⟩ := List.mem_map.1 (show u ∈ L.map (·.2) from hu)
 exact (h3 p hp).2
theorem setN {n d : Nat} {t u : Tree} {x : ByteArray} (hn : n + 1 ≤ 300) (hx : textOk x = true) (h : MemN n d t) (hu : GoodN (n + 1) d u) : GoodN (n + 1) (d + 1) (setT t x u) := by
 unfold setT
 refine obj_goodN hn ?_ (ins_sorted h.2.1) (fun p hp => ?_)
 have := keys_ins x u (mems t)
 have := h.1; omega
 rcases ins_mem hp with rfl | hp
 exact ⟨hx, hu⟩
 have := h.2.2 p hp
 exact ⟨this.1, goodN_mono (Nat.le_succ n) (Nat.le_refl _) this.2⟩
theorem unsetN {n d : Nat} {t : Tree} {x : ByteArray} (hn : n ≤ 300) (h : GoodN n d t) : GoodN n d (unsetT t x) := by
 unfold unsetT
 split
 cases d with
 | zero => exact h.elim
 | succ d =>
  have hm := goodN_mem h
  have hs := del_sub x (mems t)
  refine obj_goodN hn (Nat.le_trans hs.length_le hm.1) (hm.2.1.sublist (hs.map _)) (fun p hp => hm.2.2 p (hs.subset hp))
 exact h
theorem setPN {n E : Nat} {v : Tree} (hn : n + 1 ≤ 300) (hv : GoodN n E v) : ∀ (p : List ByteArray) {D : Nat} {t : Tree}, (∀ x ∈ p, textOk x = true) → p ≠ [] → MemN n D t → p.length + E ≤ D + 1 → GoodN (n + 1) (D + 1) (setP p t v)
 | [], _, _, _, h, _, _ => absurd rfl h
 | [x], D, t, hx, _, ht, h => by
  rw [setP]
  exact setN hn (hx x (by simp)) ht (goodN_mono (Nat.le_succ n) (by simp at h; omega) hv)
 | x :: y :: p, 0, t, hx, _, ht, h => by
  have := (show 0 < E from by cases E with | zero => exact hv.elim | succ E => exact Nat.succ_pos E)
  simp only [List.length_cons] at h; omega
 | x :: y :: p, D + 1, t, hx, _, ht, h => by
  rw [setP]
  simp only [List.length_cons] at h
  exact setN hn (hx x (by simp)) ht (setPN hn hv (y :: p) (fun z hz => hx z (by simp only [List.mem_cons] at hz ⊢; exact .inr hz)) (by simp) (memN_V ht) (by simp only [List.length_cons]; omega))
theorem unsetPN {n : Nat} (hn : n + 1 ≤ 300) : ∀ (p : List ByteArray) {D : Nat} {t : Tree}, (∀ x ∈ p, textOk x = true) → GoodN n D t → GoodN (n + 1) D (unsetP p t)
 | [], D, t, _, h => goodN_mono (Nat.le_succ n) (Nat.le_refl _) h
 | [x], D, t, _, h => goodN_mono (Nat.le_succ n) (Nat.le_refl _) (unsetN (by omega) h)
 | x :: m :: p, 0, t, _, h => h.elim
 | x :: m :: p, D + 1, t, hx, h => by
  rw [unsetP]
  split
  rename_i hb
  exact setN hn (hx x (by simp)) (goodN_mem h) (unsetPN hn (m :: p) (fun z hz => hx z (by simp only [List.mem_cons] at hz ⊢; exact .inr hz)) (h.2.2 _ (mem_cutV hb)))
  exact goodN_mono (Nat.le_succ n) (Nat.le_refl _) h
theorem getN {n : Nat} : ∀ (p : List ByteArray) {E : Nat} {v : Tree}, GoodN n E v → (getF p v).2 = true → GoodN n E (getF p v).1
 | [], E, v, h, _ => h
 | x :: p, 0, v, h, _ => h.elim
 | x :: p, E + 1, v, h, hb => by
  rw [getF_cons] at hb ⊢
  split
  rename_i hm
  rw [if_pos hm] at hb
  exact goodN_mono (Nat.le_refl _) (Nat.le_succ E) (getN p (h.2.2 _ (mem_cutV hm)) hb)
  rename_i hm
  rw [if_neg hm] at hb; cases hb
theorem stepN {n D E : Nat} {v t : Tree} (hn : n + 1 ≤ 300) (hv : GoodN n E v) (ht : GoodN n (D + 1) t) (p : List ByteArray) (hx : ∀ x ∈ p, textOk x = true) (hp : p ≠ []) (h : p.length + E ≤ D + 1) : GoodN (n + 1) (D + 1) (apStep v t p) := by
 unfold apStep
 split
 rename_i hb; exact setPN hn (getN p hv hb) p hx hp (goodN_mem ht) h
 exact unsetPN hn p hx ht
theorem allN {D E : Nat} {v : Tree} : ∀ (s : List (List ByteArray)) {n : Nat} {t : Tree}, n + s.length ≤ 300 → GoodN n E v → GoodN n (D + 1) t → (∀ p ∈ s, (∀ x ∈ p, textOk x = true) ∧ p ≠ [] ∧ p.length + E ≤ D + 1) → GoodN (n + s.length) (D + 1) (apAll t s v)
 | [], n, t, _, _, h, _ => h
 | p :: s, n, t, hn, hv, h, hs => by
  simp only [List.length_cons] at hn
  have h1 := hs p (by simp)
  have := allN s (by omega) (goodN_mono (Nat.le_succ n) (Nat.le_refl _) hv) (stepN (by omega) hv h p h1.1 h1.2.1 h1.2.2) (fun q hq => hs q (by simp [hq]))
  rw [List.length_cons, show n + (s.length + 1) = n + 1 + s.length by omega]
  exact this
theorem own_can {t : Tree} (h : ownO t = true) (hk : t.kind = 7) : objM (mems t) = t := by
 have hkm := mems_k t
 have hvm := mems_v t
 obtain ⟨kind, b, n, s, k, v⟩ := t
 obtain rfl : kind = 7 := hk
 simp only [ownO, truthO, numO, ownN, textO, keysO, itemsO, Tree.kind, Tree.b, Tree.n, Tree.s, Tree.k, Tree.v, Bool.and_eq_true, decide_eq_true_eq] at h
 simp at h
 obtain ⟨hb, ⟨hn1, hn2, hn3⟩, hs, ⟨_, hl⟩, _⟩ := h
 unfold cutK at hkm
 unfold cutV at hvm
 simp only [Tree.kind, Tree.k, Tree.v, if_true] at hkm hvm
 rw [List.take_of_length_le (by omega)] at hkm hvm
 unfold objM
 rw [hkm, hvm]
 obtain ⟨neg, m, e⟩ := n
 subst hb
 simp at hn1 hn2 hn3
 subst hn1 hn2 hn3
 have hs' : s = ba [] := toList_inj (by simpa using hs)
 subst hs'
 rfl
def delB (b : Nat) (B : BL) : BL := B.filter fun p => !(p.1 == b)
theorem lkp_delB (b : Nat) : ∀ (B : BL) (c : Nat), lkp (delB b B) c = if c = b then none else lkp B c
 | [], c => by simp [delB, lkp]
 | (k, X) :: B, c => by
  have ih := lkp_delB b B c
  unfold delB at ih ⊢
  by_cases hk : k = b
  subst hk
  rw [List.filter_cons_of_neg (by simp), ih]
  simp only [lkp]
  by_cases hc : c = k
  simp [hc]
  simp [hc]
  rw [List.filter_cons_of_pos (by simpa using hk)]
  simp only [lkp, ih]
  by_cases hc : c = k
  subst hc; simp [hk]
  simp [hc]
section
variable {N : Nat} {w0 : World} {T : TL} {B : BL} {a : Act} {w : World}
theorem SimL.letgo {ow : Own} (hs : SimL N w0 ow T B a w) (t b : Nat) (e : TypeId) (τ : Ty) (xs : List (El τ)) (ht : lkp T t = some (.own b)) (hb : lkp B b = some (.sl e τ xs)) : SimL N w0 ow ((t, .row τ xs) :: T) (delB b B) a w := by
 obtain ⟨η, s⟩ := hs
 have s2 := s.drop [b]
 have hb2 : updB (lkp B) [b] [] = lkp (delB b B) := by
  funext c
  rw [lkp_delB]
  simp only [updB, lkp, List.contains_cons, List.contains_nil, Bool.or_false, beq_iff_eq]
 rw [hb2] at s2
 obtain ⟨v, hv, hR⟩ := s.tmp t _ ht
 have h2 := R_frz1 s hR [b]
 simp only [frz1, List.contains_cons, List.contains_nil, Bool.or_false, beq_self_eq_true, if_true, hb] at h2
 refine ⟨_, s2.size, s2.nod, s2.frame, fun t' av h => ?_, s2.dom, s2.new, s2.apart, s2.pin, s2.pinlt⟩
 simp only [lkp] at h
 split at h
 rename_i he
 simp only [Option.some.injEq] at h
 subst h he
 exact ⟨v, hv, h2⟩
 exact s2.tmp t' av h
end
theorem con43 (l : List (List ByteArray)) (hl : l.length < 1000000) (hp : ∀ p ∈ l, p.length < 1000000) : Con Tryz.prog I0 128 [.row .strs l] (.val (.row .strs (normF l))) := by
 refine con_of Tryz.func128 rfl (Nat.le_of_ble_eq_true rfl) stab (fun w0 fz a hI hs => ?_)
 refine wNs hs hI [] 11 [] [(0, .row .strs l)] [] fun a w hs => ?_
 refine wNs hs hI [] 11 [] [(0, .row .strs l), (3, nilv)] [] fun a w hs => ?_
 refine wp_seq ?_
 refine wNs hs hI [] 11 [] [(0, .row .strs l), (3, nilv), (4, vi 0)] [] fun a w hs => ?_
 refine wp_block ?_
 refine loop_L (N := Tryz.f128.ntmps) (w0 := w0) (ow := noO fz) (α := Nat × List (List ByteArray)) (fun p => [(0, .row .strs l), (3, .row .strs p.2), (4, vi ((p.1 : Nat) : Int))]) (fun p => []) (fun p => NrmJ l p.1 p.2) (fun p => l.length - p.1) (0, []) ?_ ?_ ?_
 exact NrmJ.start l
 (have hs := ((hs.nil 10000003 3 26 .strs (by kernel_rfl) (by decide) (by kernel_rfl) (by kernel_rfl)).letgo 3 10000003 26 .strs ([]) (by kernel_rfl) (by kernel_rfl)).rmT [(0, .row .strs l), (3, .row .strs ([])), (4, vi 0)] [] [] (by kernel_rfl); exact (hs.cst [(0, .row .strs l), (3, .row .strs ([])), (4, vi ((0 : Nat) : Int))] [] rfl).rk [])
 rintro ⟨i, m⟩ hJ a w hs
 try dsimp only at hJ
 have hN := hJ
 clear hJ
 have hNl := hN.len
 have hNi := hN.le
 have hpi : i < l.length → (l.getD i (dflt .strs)).length < 1000000 := fun h => hp _ (getD_mem h _)
 refine wp_seq ?_
 rcases bd ((i : Int) < (l.length : Int)) with ⟨b1, n1⟩ | ⟨b1, n1⟩
 refine wN hs hI (bz 1 1) 7608 [q1 b1] .norm [(0, .row .strs l), (3, .row .strs m), (4, vi (i : Int))] [] fun a w hs => ?_
 refine then_norm ?_
 refine wp_seq ?_
 refine wp_block ?_
 refine wNs hs hI [] 11 [] [(0, .row .strs l), (3, .row .strs m), (4, vi (i : Int)), (5, vb true)] [] fun a w hs => ?_
 refine wp_seq ?_
 refine wNs hs hI [] 11 [] [(0, .row .strs l), (3, .row .strs m), (4, vi (i : Int)), (5, vb true), (6, vi 0)] [] fun a w hs => ?_
 refine wp_block ?_
 refine loop_L (N := Tryz.f128.ntmps) (w0 := w0) (ow := noO fz) (α := Nat) (fun p => [(0, .row .strs l), (3, .row .strs m), (4, vi (i : Int)), (5, vb (keepTo l i p)), (6, vi (p : Int))]) (fun p => []) (fun p => p ≤ l.length) (fun p => l.length - p) 0 ?_ ?_ ?_
 exact Nat.zero_le _
 exact (hs.cst [(0, .row .strs l), (3, .row .strs m), (4, vi (i : Int)), (5, vb (keepTo l i 0)), (6, vi ((0 : Nat) : Int))] [] rfl).rk []
 rintro k hJ a w hs
 have hkl := hJ
 clear hJ
 refine wp_seq ?_
 rcases bd ((k : Int) < (l.length : Int)) with ⟨b2, n2⟩ | ⟨b2, n2⟩
 refine wN hs hI (bz 1 1) 7608 [q1 b2] .norm [(0, .row .strs l), (3, .row .strs m), (4, vi (i : Int)), (5, vb (keepTo l i k)), (6, vi (k : Int))] [] fun a w hs => ?_
 refine then_norm ?_
 rcases bt (startsF (l.getD k (dflt .strs)) (l.getD i (dflt .strs))) with b3 | b3
 rcases bd (((l.getD k (dflt .strs)).length : Int) < ((l.getD i (dflt .strs)).length : Int)) with ⟨b4, n4⟩ | ⟨b4, n4⟩
 refine wL hs hI [(9, rg [(8, ciV 124 [rwS (l.getD k (dflt .strs)), rwS (l.getD i (dflt .strs))] (vb (startsF (l.getD k (dflt .strs)) (l.getD i (dflt .strs)))))] [10, 11, 12, 13, 14, 15, 16, 17, 18, 19, 20, 21, 25, 1025, 1026] [22, 23, 24])] (bz 1 1) 171291729666666723333327272727233272727272332727147070 [q4 (k : Int) l.length, q4 (i : Int) l.length, q1 b3, q1 b3, q1 b3, q4 (k : Int) l.length, q1 b3, q1 b3, q1 b3, q1 b3, q1 b3, q4 (i : Int) l.length, q1 b3, q1 b3, q1 b3, q1 b3, q1 b4, q1 b4, q1 b4, q1 b3, q1 b4, q1 b3, q0 true, q3 ((k : Int) + 1)] .norm [(0, .row .strs l), (3, .row .strs m), (4, vi (i : Int)), (5, vb false), (6, vi ((k : Int) + 1))] [] ⟨con93 _ _ (by have := hp _ (getD_mem (l := l) (i := k) (by omega) (dflt .strs)); omega) (by have := hp _ (getD_mem (l := l) (i := i) (by omega) (dflt .strs)); omega), tv⟩ fun a w hs => ?_
 refine then_norm ⟨k + 1, by omega, by omega, ?_⟩
 (have e0_ : (false) = (keepTo l i (k + 1)) := (by first | rfl | (first | omega | (rw [keepTo_succ, show coverB l i k = true from by first | (simp only [coverB, pAt, b3, b4]; done) | (simp only [coverB, pAt, b3, b4]; rfl)]; simp))); have e1_ : ((k : Int) + 1) = ((((k + 1) : Nat) : Int)) := (by first | rfl | (first | omega | (rw [keepTo_succ, show coverB l i k = true from by first | (simp only [coverB, pAt, b3, b4]; done) | (simp only [coverB, pAt, b3, b4]; rfl)]; simp))); exact (hs.cst [(0, .row .strs l), (3, .row .strs m), (4, vi (i : Int)), (5, vb (keepTo l i (k + 1))), (6, vi (((k + 1) : Nat) : Int))] [] (by first | (rw [e0_, e1_]; done) | (simp only [e0_, e1_]; done) | rfl | (simp only [e0_, e1_]; rfl))).rk [])
 rcases bd ((k : Int) < (i : Int)) with ⟨b5, n5⟩ | ⟨b5, n5⟩
 refine wL hs hI [(9, rg [(8, ciV 124 [rwS (l.getD k (dflt .strs)), rwS (l.getD i (dflt .strs))] (vb (startsF (l.getD k (dflt .strs)) (l.getD i (dflt .strs)))))] [10, 11, 12, 13, 14, 15, 16, 17, 18, 19, 20, 21, 22, 23, 24, 25, 1026] [1025])] (bz 1 1) 171291729666666723327272727272727233272727272332727147070 [q4 (k : Int) l.length, q4 (i : Int) l.length, q1 b3, q1 b3, q1 b3, q4 (k : Int) l.length, q1 b3, q1 b3, q1 b3, q1 b3, q1 b3, q4 (i : Int) l.length, q1 b3, q1 b3, q1 b3, q1 b3, q1 b4, q1 b4, q1 b4, q1 b3, q1 b4, q1 b3, q1 b5, q3 ((k : Int) + 1)] .norm [(0, .row .strs l), (3, .row .strs m), (4, vi (i : Int)), (5, vb false), (6, vi ((k : Int) + 1))] [] ⟨con93 _ _ (by have := hp _ (getD_mem (l := l) (i := k) (by omega) (dflt .strs)); omega) (by have := hp _ (getD_mem (l := l) (i := i) (by omega) (dflt .strs)); omega), tv⟩ fun a w hs => ?_
 refine then_norm ⟨k + 1, by omega, by omega, ?_⟩
 (have e0_ : (false) = (keepTo l i (k + 1)) := (by first | rfl | (first | omega | (rw [keepTo_succ, show coverB l i k = true from by first | (simp only [coverB, pAt, b3, b4, b5]; done) | (simp only [coverB, pAt, b3, b4, b5]; rfl)]; simp))); have e1_ : ((k : Int) + 1) = ((((k + 1) : Nat) : Int)) := (by first | rfl | (first | omega | (rw [keepTo_succ, show coverB l i k = true from by first | (simp only [coverB, pAt, b3, b4, b5]; done) | (simp only [coverB, pAt, b3, b4, b5]; rfl)]; simp))); exact (hs.cst [(0, .row .strs l), (3, .row .strs m), (4, vi (i : Int)), (5, vb (keepTo l i (k + 1))), (6, vi (((k + 1) : Nat) : Int))] [] (by first | (rw [e0_, e1_]; done) | (simp only [e0_, e1_]; done) | rfl | (simp only [e0_, e1_]; rfl))).rk [])
 refine wL hs hI [(9, rg [(8, ciV 124 [rwS (l.getD k (dflt .strs)), rwS (l.getD i (dflt .strs))] (vb (startsF (l.getD k (dflt .strs)) (l.getD i (dflt .strs)))))] [10, 11, 12, 13, 14, 15, 16, 17, 18, 19, 20, 21, 22, 23, 24, 25, 1026] [1025])] (bz 1 0) 1719729666666723327272727272727233272727272332727147070 [q4 (k : Int) l.length, q4 (i : Int) l.length, q1 b3, q1 b3, q1 b3, q4 (k : Int) l.length, q1 b3, q1 b3, q1 b3, q1 b3, q1 b3, q4 (i : Int) l.length, q1 b3, q1 b3, q1 b3, q1 b3, q1 b4, q1 b4, q1 b4, q1 b3, q1 b4, q1 b3, q1 b5, q3 ((k : Int) + 1)] .norm [(0, .row .strs l), (3, .row .strs m), (4, vi (i : Int)), (5, vb (keepTo l i k)), (6, vi ((k : Int) + 1))] [] ⟨con93 _ _ (by have := hp _ (getD_mem (l := l) (i := k) (by omega) (dflt .strs)); omega) (by have := hp _ (getD_mem (l := l) (i := i) (by omega) (dflt .strs)); omega), tv⟩ fun a w hs => ?_
 refine then_norm ⟨k + 1, by omega, by omega, ?_⟩
 (have e0_ : (keepTo l i k) = (keepTo l i (k + 1)) := (by first | rfl | (first | omega | (rw [keepTo_succ, show coverB l i k = false from by first | (simp only [coverB, pAt, b3, b4, b5]; done) | (simp only [coverB, pAt, b3, b4, b5]; rfl)]; simp))); have e1_ : ((k : Int) + 1) = ((((k + 1) : Nat) : Int)) := (by first | rfl | (first | omega | (rw [keepTo_succ, show coverB l i k = false from by first | (simp only [coverB, pAt, b3, b4, b5]; done) | (simp only [coverB, pAt, b3, b4, b5]; rfl)]; simp))); exact (hs.cst [(0, .row .strs l), (3, .row .strs m), (4, vi (i : Int)), (5, vb (keepTo l i (k + 1))), (6, vi (((k + 1) : Nat) : Int))] [] (by first | (rw [e0_, e1_]; done) | (simp only [e0_, e1_]; done) | rfl | (simp only [e0_, e1_]; rfl))).rk [])
 refine wL hs hI [(9, rg [(8, ciV 124 [rwS (l.getD k (dflt .strs)), rwS (l.getD i (dflt .strs))] (vb (startsF (l.getD k (dflt .strs)) (l.getD i (dflt .strs)))))] [] [10, 11, 12, 13, 14, 15, 16, 17, 18, 19, 20, 21, 25, 1026])] (bz 1 0) 1719729666666730733333333333147070 [q4 (k : Int) l.length, q4 (i : Int) l.length, q1 b3, q1 b3, q1 b3, q1 b3, q1 b3, q1 b3, q1 b3, q1 b3, q1 b3, q1 b3, q1 b3, q1 b3, q1 b3, q1 b3, q0 false, q3 ((k : Int) + 1)] .norm [(0, .row .strs l), (3, .row .strs m), (4, vi (i : Int)), (5, vb (keepTo l i k)), (6, vi ((k : Int) + 1))] [] ⟨con93 _ _ (by have := hp _ (getD_mem (l := l) (i := k) (by omega) (dflt .strs)); omega) (by have := hp _ (getD_mem (l := l) (i := i) (by omega) (dflt .strs)); omega), tv⟩ fun a w hs => ?_
 refine then_norm ⟨k + 1, by omega, by omega, ?_⟩
 (have e0_ : (keepTo l i k) = (keepTo l i (k + 1)) := (by first | rfl | (first | omega | (rw [keepTo_succ, show coverB l i k = false from by first | (simp only [coverB, pAt, b3]; done) | (simp only [coverB, pAt, b3]; rfl)]; simp))); have e1_ : ((k : Int) + 1) = ((((k + 1) : Nat) : Int)) := (by first | rfl | (first | omega | (rw [keepTo_succ, show coverB l i k = false from by first | (simp only [coverB, pAt, b3]; done) | (simp only [coverB, pAt, b3]; rfl)]; simp))); exact (hs.cst [(0, .row .strs l), (3, .row .strs m), (4, vi (i : Int)), (5, vb (keepTo l i (k + 1))), (6, vi (((k + 1) : Nat) : Int))] [] (by first | (rw [e0_, e1_]; done) | (simp only [e0_, e1_]; done) | rfl | (simp only [e0_, e1_]; rfl))).rk [])
 refine wN hs hI (bz 1 0) 7608 [q1 b2] (.exit 2) [(0, .row .strs l), (3, .row .strs m), (4, vi (i : Int)), (5, vb (keepTo l i k))] [] fun a w hs => ?_
 refine then_exit ?_
 refine then_exit ?_
 refine inb_hit ?_
 refine then_norm ?_
 refine wp_seq ?_
 rcases bt (keepTo l i k) with b6 | b6
 refine wN hs hI (bz 1 0) 798 [q1 (ng1 b6)] .norm [(0, .row .strs l), (3, .row .strs m), (4, vi (i : Int))] [] fun a w hs => ?_
 refine then_norm ?_
 refine wNs hs hI [] 18 [] [(0, .row .strs l), (3, .row .strs m), (4, vi (i : Int)), (7, vi (m.length : Int))] [] fun a w hs => ?_
 refine wp_seq ?_
 refine wp_block ?_
 refine loop_L (N := Tryz.f128.ntmps) (w0 := w0) (ow := noO fz) (α := Nat) (fun p => [(0, .row .strs l), (3, .row .strs m), (4, vi (i : Int)), (7, vi (p : Int))]) (fun p => []) (fun p => InsJ (pAt l i) m p) (fun p => p) m.length ?_ ?_ ?_
 exact InsJ.start _ _
 exact (hs.cst [(0, .row .strs l), (3, .row .strs m), (4, vi (i : Int)), (7, vi ((m.length : Nat) : Int))] [] rfl).rk []
 rintro q hJ a w hs
 have hins := hJ
 clear hJ
 have hil := hins.le
 rcases bd ((q : Int) > 0) with ⟨b7, n7⟩ | ⟨b7, n7⟩
 rcases bd (cmpS (l.getD i (dflt .strs)) (m.getD (((q : Int) - 1).toNat) (dflt .strs)) < 0) with ⟨b8, n8⟩ | ⟨b8, n8⟩
 refine wL hs hI [(13, rg [(12, ciV 150 [rwS (l.getD i (dflt .strs)), rwS (m.getD (((q : Int) - 1).toNat) (dflt .strs))] (vb (decide (cmpS (l.getD i (dflt .strs)) (m.getD (((q : Int) - 1).toNat) (dflt .strs)) < 0))))] [3, 4, 5, 6, 7, 8, 9, 10, 11, 12, 1013] [])] (bz 1 1) 17197966672432723323327272723327278 [q1 b7, q1 b7, q1 b7, q4 (i : Int) l.length, q1 b7, q1 b7, q1 b7, q1 b7, q3 ((q : Int) - 1), q1 b7, q4 ((q : Int) - 1) m.length, q1 b7, q1 b7, q1 b7, q1 b8, q3 ((q : Int) - 1)] .norm [(0, .row .strs l), (3, .row .strs m), (4, vi (i : Int)), (7, vi ((q : Int) - 1))] [] ⟨con94 _ _ (by omega), tv⟩ fun a w hs => ?_
 refine then_norm ⟨q - 1, hins.on (by omega) (by have := of_decide_eq_true b8; rwa [show ((q : Int) - 1).toNat = q - 1 by omega] at this), by omega, ?_⟩
 (have e0_ : ((q : Int) - 1) = ((((q - 1) : Nat) : Int)) := (by first | rfl | (omega)); exact (hs.cst [(0, .row .strs l), (3, .row .strs m), (4, vi (i : Int)), (7, vi (((q - 1) : Nat) : Int))] [] (by first | (rw [e0_]; done) | (simp only [e0_]; done) | rfl | (simp only [e0_]; rfl))).rk [])
 refine wL hs hI [(13, rg [(12, ciV 150 [rwS (l.getD i (dflt .strs)), rwS (m.getD (((q : Int) - 1).toNat) (dflt .strs))] (vb (decide (cmpS (l.getD i (dflt .strs)) (m.getD (((q : Int) - 1).toNat) (dflt .strs)) < 0))))] [3, 4, 5, 6, 7, 8, 9, 10, 11, 12, 1013] [])] (bz 1 0) 7966672432723323327272723327278 [q1 b7, q1 b7, q1 b7, q4 (i : Int) l.length, q1 b7, q1 b7, q1 b7, q1 b7, q3 ((q : Int) - 1), q1 b7, q4 ((q : Int) - 1) m.length, q1 b7, q1 b7, q1 b7, q1 b8] (.exit 4) [(0, .row .strs l), (3, .row .strs m), (4, vi (i : Int)), (7, vi (q : Int))] [] ⟨con94 _ _ (by omega), tv⟩ fun a w hs => ?_
 refine then_exit ?_
 refine inb_hit ?_
 refine then_norm ?_
 refine wN hs hI [] 17317778261730 [⟨0 ≤ (0 : Int) ∧ (0 : Int) ≤ (q : Int) ∧ (q : Int) ≤ (m.length : Int) ∧ (m.length : Int) ≤ (m.length : Int), (by (repeat' apply And.intro) <;> (try split) <;> omega)⟩, ⟨((m.take q).length * 24 : Nat) ≤ 140737488355328 ∧ (m.take q).length ≤ 140737488355328, (by skip; (try simp only [List.length_append, List.length_take, List.length_drop, List.length_cons, List.length_nil]); omega)⟩, q4 (i : Int) l.length, ⟨((l.getD i (dflt .strs)).length * 16 : Nat) ≤ 140737488355328 ∧ (l.getD i (dflt .strs)).length ≤ 140737488355328, (by skip; (try simp only [List.length_append, List.length_take, List.length_drop, List.length_cons, List.length_nil]); omega)⟩, ⟨(((m.take q).length + 1) * 24 : Nat) ≤ 140737488355328 ∧ (m.take q).length + 1 ≤ 140737488355328, (by skip; (try simp only [List.length_append, List.length_take, List.length_drop, List.length_cons, List.length_nil]); omega)⟩, ⟨0 ≤ (q : Int) ∧ (q : Int) ≤ (m.length : Int) ∧ (m.length : Int) ≤ (m.length : Int) ∧ (m.length : Int) ≤ (m.length : Int), (by (repeat' apply And.intro) <;> (try split) <;> omega)⟩, ⟨((((m.take q) ++ ([(l.getD i (dflt .strs))])).length + (m.drop q).length) * 24 : Nat) ≤ 140737488355328 ∧ ((m.take q) ++ ([(l.getD i (dflt .strs))])).length + (m.drop q).length ≤ 140737488355328, (by skip; (try simp only [List.length_append, List.length_take, List.length_drop, List.length_cons, List.length_nil]); omega)⟩] .norm [(0, .row .strs l), (3, .own 17011), (4, vi (i : Int))] [(17011, .sl 25 .strs (((m.take q) ++ ([(l.getD i (dflt .strs))])) ++ (m.drop q)))] fun a w hs => ?_
 refine inb_norm ?_
 refine then_norm ?_
 refine wN hs hI [] 171 [q3 ((i : Int) + 1)] .norm [(0, .row .strs l), (3, .own 17011), (4, vi ((i : Int) + 1))] [(17011, .sl 25 .strs (((m.take q) ++ ([(l.getD i (dflt .strs))])) ++ (m.drop q)))] fun a w hs => ?_
 refine then_norm ⟨(i + 1, ((m.take q) ++ ([(l.getD i (dflt .strs))])) ++ (m.drop q)), hN.put (by omega) (by rw [← keepTo_end (k := k) (by omega)]; exact b6) hins (.inr (by have := of_decide_eq_false b8; rwa [show ((q : Int) - 1).toNat = q - 1 by omega] at this)), by omega, ?_⟩
 (have hs := (hs.letgo 3 17011 25 .strs (((m.take q) ++ ([(l.getD i (dflt .strs))])) ++ (m.drop q)) (by kernel_rfl) (by kernel_rfl)).rmT [(0, .row .strs l), (3, .row .strs (((m.take q) ++ ([(l.getD i (dflt .strs))])) ++ (m.drop q))), (4, vi ((i : Int) + 1))] [] [] (by kernel_rfl); have e0_ : (((m.take q) ++ ([(l.getD i (dflt .strs))])) ++ (m.drop q)) = ((((m.take q) ++ ([(l.getD i (dflt .strs))])) ++ (m.drop q))) := (by first | rfl | (first | rfl | omega)); have e1_ : ((i : Int) + 1) = ((((i + 1) : Nat) : Int)) := (by first | rfl | (first | rfl | omega)); exact (hs.cst [(0, .row .strs l), (3, .row .strs (((m.take q) ++ ([(l.getD i (dflt .strs))])) ++ (m.drop q))), (4, vi (((i + 1) : Nat) : Int))] [] (by first | (rw [e0_, e1_]; done) | (simp only [e0_, e1_]; done) | rfl | (simp only [e0_, e1_]; rfl))).rk [])
 refine wL hs hI [(13, rg [] [] [3, 4, 5, 6, 7, 8, 9, 10, 11, 12, 1013])] (bz 1 0) 79666733333333338 [q1 b7, q1 b7, q1 b7, q1 b7, q1 b7, q1 b7, q1 b7, q1 b7, q1 b7, q1 b7, q1 b7, q0 false] (.exit 4) [(0, .row .strs l), (3, .row .strs m), (4, vi (i : Int)), (7, vi (q : Int))] [] tv fun a w hs => ?_
 refine then_exit ?_
 refine inb_hit ?_
 refine then_norm ?_
 refine wN hs hI [] 17317778261730 [⟨0 ≤ (0 : Int) ∧ (0 : Int) ≤ (q : Int) ∧ (q : Int) ≤ (m.length : Int) ∧ (m.length : Int) ≤ (m.length : Int), (by (repeat' apply And.intro) <;> (try split) <;> omega)⟩, ⟨((m.take q).length * 24 : Nat) ≤ 140737488355328 ∧ (m.take q).length ≤ 140737488355328, (by skip; (try simp only [List.length_append, List.length_take, List.length_drop, List.length_cons, List.length_nil]); omega)⟩, q4 (i : Int) l.length, ⟨((l.getD i (dflt .strs)).length * 16 : Nat) ≤ 140737488355328 ∧ (l.getD i (dflt .strs)).length ≤ 140737488355328, (by skip; (try simp only [List.length_append, List.length_take, List.length_drop, List.length_cons, List.length_nil]); omega)⟩, ⟨(((m.take q).length + 1) * 24 : Nat) ≤ 140737488355328 ∧ (m.take q).length + 1 ≤ 140737488355328, (by skip; (try simp only [List.length_append, List.length_take, List.length_drop, List.length_cons, List.length_nil]); omega)⟩, ⟨0 ≤ (q : Int) ∧ (q : Int) ≤ (m.length : Int) ∧ (m.length : Int) ≤ (m.length : Int) ∧ (m.length : Int) ≤ (m.length : Int), (by (repeat' apply And.intro) <;> (try split) <;> omega)⟩, ⟨((((m.take q) ++ ([(l.getD i (dflt .strs))])).length + (m.drop q).length) * 24 : Nat) ≤ 140737488355328 ∧ ((m.take q) ++ ([(l.getD i (dflt .strs))])).length + (m.drop q).length ≤ 140737488355328, (by skip; (try simp only [List.length_append, List.length_take, List.length_drop, List.length_cons, List.length_nil]); omega)⟩] .norm [(0, .row .strs l), (3, .own 17011), (4, vi (i : Int))] [(17011, .sl 25 .strs (((m.take q) ++ ([(l.getD i (dflt .strs))])) ++ (m.drop q)))] fun a w hs => ?_
 refine inb_norm ?_
 refine then_norm ?_
 refine wN hs hI [] 171 [q3 ((i : Int) + 1)] .norm [(0, .row .strs l), (3, .own 17011), (4, vi ((i : Int) + 1))] [(17011, .sl 25 .strs (((m.take q) ++ ([(l.getD i (dflt .strs))])) ++ (m.drop q)))] fun a w hs => ?_
 refine then_norm ⟨(i + 1, ((m.take q) ++ ([(l.getD i (dflt .strs))])) ++ (m.drop q)), hN.put (by omega) (by rw [← keepTo_end (k := k) (by omega)]; exact b6) hins (.inl (by omega)), by omega, ?_⟩
 (have hs := (hs.letgo 3 17011 25 .strs (((m.take q) ++ ([(l.getD i (dflt .strs))])) ++ (m.drop q)) (by kernel_rfl) (by kernel_rfl)).rmT [(0, .row .strs l), (3, .row .strs (((m.take q) ++ ([(l.getD i (dflt .strs))])) ++ (m.drop q))), (4, vi ((i : Int) + 1))] [] [] (by kernel_rfl); have e0_ : (((m.take q) ++ ([(l.getD i (dflt .strs))])) ++ (m.drop q)) = ((((m.take q) ++ ([(l.getD i (dflt .strs))])) ++ (m.drop q))) := (by first | rfl | (first | rfl | omega)); have e1_ : ((i : Int) + 1) = ((((i + 1) : Nat) : Int)) := (by first | rfl | (first | rfl | omega)); exact (hs.cst [(0, .row .strs l), (3, .row .strs (((m.take q) ++ ([(l.getD i (dflt .strs))])) ++ (m.drop q))), (4, vi (((i + 1) : Nat) : Int))] [] (by first | (rw [e0_, e1_]; done) | (simp only [e0_, e1_]; done) | rfl | (simp only [e0_, e1_]; rfl))).rk [])
 refine wN hs hI (bz 1 1) 798 [q1 (ng0 b6)] (.exit 1) [(0, .row .strs l), (3, .row .strs m), (4, vi (i : Int))] [] fun a w hs => ?_
 refine then_exit ?_
 refine inb_hit ?_
 refine then_norm ?_
 refine wN hs hI [] 171 [q3 ((i : Int) + 1)] .norm [(0, .row .strs l), (3, .row .strs m), (4, vi ((i : Int) + 1))] [] fun a w hs => ?_
 refine then_norm ⟨(i + 1, m), hN.skip (by omega) (by rw [← keepTo_end (k := k) (by omega)]; exact b6), by omega, ?_⟩
 exact hs.rk []
 refine wN hs hI (bz 1 0) 7608 [q1 b1] (.exit 0) [(3, .row .strs m)] [] fun a w hs => ?_
 refine then_exit ?_
 refine then_exit ?_
 refine inb_hit ?_
 refine then_norm ?_
 refine wN hs hI [] 198 [] .ret [(2, .row .strs m)] [] fun a w hs => ?_
 exact rK (.val (.row .strs m)) [] hs (by rw [hN.fin (by omega)])
theorem chk_own {t : Tree} {d l : Int} (h : (chk t d l).1 = true) : ownO t = true ∧ (chkL t.v (d + 1) (l - 1)).1 = true := by
 rw [chk_eq] at h
 split at h
 cases h
 rename_i hc
 refine ⟨?_, h⟩
 cases ho : ownO t with
 | true => rfl
 | false => exact absurd (.inr (.inr ho)) hc
theorem chkL_mem : ∀ {v : List Tree} {d l : Int} {c : Tree}, (chkL v d l).1 = true → c ∈ v → ∃ l', (chk c d l').1 = true
 | [], _, _, _, _, h => by simp at h
 | x :: v, d, l, c, h, hc => by
  simp only [chkL] at h
  split at h
  rename_i h1
  rcases List.mem_cons.1 hc with rfl | hc
  exact ⟨l, h1⟩
  exact chkL_mem h hc
  cases h
theorem chk_get : ∀ (q : List ByteArray) {t : Tree} {d l : Int}, (chk t d l).1 = true → (getF q t).2 = true → ownO (getF q t).1 = true
 | [], t, d, l, h, _ => (chk_own h).1
 | x :: q, t, d, l, h, hb => by
  rw [getF_cons] at hb ⊢
  split
  rename_i hm
  rw [if_pos hm] at hb
  obtain ⟨l', h1⟩ := chkL_mem (chk_own h).2 (mem_cutV hm)
  exact chk_get q h1 hb
  rename_i hm
  rw [if_neg hm] at hb; cases hb
theorem can_valid {t : Tree} (h : validT t = true) : Can t := fun q hk => by
 cases hb : (getF q t).2 with
 | true => exact own_can (chk_get q h hb) hk
 | false => rw [getF_miss hb] at hk; exact absurd hk (by decide)
theorem names_step {l : List ByteArray} (h : namesOk l = true) {i : Nat} (hi : i + 1 < l.length) : ltB (l.getD i (dflt .str)) (l.getD (i + 1) (dflt .str)) := by
 unfold namesOk at h
 rw [Bool.and_eq_true] at h
 have h1 := List.all_eq_true.1 h.1 (i + 1) (by simpa using hi)
 unfold nmOk at h1
 rw [Bool.and_eq_true, Bool.or_eq_true] at h1
 rcases h1.2 with h2 | h2
 simp at h2
 rw [show ((((i + 1 : Nat) : Int) - 1)).toNat = i by omega] at h2
 exact ltB_less.1 h2
theorem names_lt {l : List ByteArray} (h : namesOk l = true) (i : Nat) : ∀ n, i + 1 + n < l.length → ltB (l.getD i (dflt .str)) (l.getD (i + 1 + n) (dflt .str))
 | 0, hn => names_step h hn
 | n + 1, hn => ltB_trans (names_lt h i n (by omega)) (names_step h (i := i + 1 + n) hn)
theorem names_nodup {l : List ByteArray} (h : namesOk l = true) : l.Nodup := by
 refine List.pairwise_iff_getElem.2 (fun i j hi hj hij e => ?_)
 have h1 := names_lt h i (j - i - 1) (by omega)
 rw [show i + 1 + (j - i - 1) = j by omega] at h1
 have e1 : l.getD i (dflt .str) = l[i] := by rw [List.getD_eq_getElem?_getD, List.getElem?_eq_getElem hi]; rfl
 have e2 : l.getD j (dflt .str) = l[j] := by rw [List.getD_eq_getElem?_getD, List.getElem?_eq_getElem hj]; rfl
 rw [e1, e2, e] at h1
 exact ltB_irrefl _ h1
theorem own_nodup {t : Tree} (h : ownO t = true) : Nodup (mems t) := by
 unfold Nodup
 rw [mems_k]
 by_cases hk : t.kind = 7
 unfold cutK
 simp only [ownO, Bool.and_eq_true] at h
 have h1 := h.2.2.2.2.1
 unfold keysO at h1
 rw [if_pos hk, Bool.and_eq_true] at h1
 rw [if_pos hk]
 exact (names_nodup h1.1).sublist (List.take_sublist _ _)
 unfold cutK; rw [if_neg hk]; exact List.nodup_nil
theorem nd_valid {t : Tree} (h : validT t = true) : ND t := fun q => by
 cases hb : (getF q t).2 with
 | true => exact own_nodup (chk_get q h hb)
 | false => rw [getF_miss hb]; exact nd_zero []
theorem can_to {t v : Tree} (ht : validT t = true) (hv : validT v = true) (s : List (List ByteArray)) (i : Nat) : Can (apTo v t s i) := can_all (can_valid hv) (nd_valid hv) (s.take i) (can_valid ht) (nd_valid ht)
theorem do_set {t v : Tree} {s : List (List ByteArray)} {i : Nat} (hi : i < s.length) (h : (getF (s.getD i (dflt .strs)) v).2 = true) : setP (s.getD i (dflt .strs)) (apTo v t s i) (getF (s.getD i (dflt .strs)) v).1 = apTo v t s (i + 1) := by rw [apTo_yes hi h]
theorem do_clear {t v : Tree} {s : List (List ByteArray)} {i : Nat} (hi : i < s.length) (h : (getF (s.getD i (dflt .strs)) v).2 = false) : unsetP (s.getD i (dflt .strs)) (apTo v t s i) = apTo v t s (i + 1) := by rw [apTo_no hi h]
theorem do_stay {t v : Tree} {s : List (List ByteArray)} {i : Nat} (hi : i < s.length) (ht : validT t = true) (hv : validT v = true) (hp : s.getD i (dflt .strs) ≠ []) (h : (getF (s.getD i (dflt .strs)) v).2 = false) (h2 : (getF (s.getD i (dflt .strs)) (apTo v t s i)).2 = false) : apTo v t s i = apTo v t s (i + 1) := by
 rw [apTo_no hi h, unsetP_self (can_to ht hv s i) hp h2]
theorem fineL_of : ∀ {l : List Tree}, (∀ u ∈ l, fineT u) → fineL l
 | [], _ => trivial
 | x :: l, h => ⟨h x (by simp), fineL_of (fun u hu => h u (by simp [hu]))⟩
theorem fine_objM {l : Mem} (hl : l.length < 1000000000) (h : ∀ p ∈ l, fineT p.2) : fineT (objM l) := by
 rw [fine_eq]
 refine ⟨⟨Ok.nil, by show (0 : Nat) < 1000000000; decide, ?_, ?_⟩, fineL_of (fun u hu => ?_)⟩
 show (l.map (·.1)).length < _; rw [List.length_map]; exact hl
 show (l.map (·.2)).length < _; rw [List.length_map]; exact hl
 obtain ⟨p, hp, rfl⟩ := List.mem_map.1 (show u ∈ l.map (·.2) from hu)
 exact h p hp
theorem mems_nodes (t : Tree) : (mems t).length ≤ nodes t := by
 have h1 := mems_lev t
 have h2 := nodes_eq t
 have h3 := nodesL_len t.v; omega
theorem fine_memV {t : Tree} (h : fineT t) (x : ByteArray) : fineT (memV t x) := by
 cases hb : memB t x with
 | true => exact fine_mem ((fine_eq t).1 h).2 (mem_cutV hb)
 | false => rw [memV_zero hb]; exact (fine_eq _).2 ⟨⟨Ok.nil, by decide, by decide, by decide⟩, trivial⟩
theorem fine_setT {t v : Tree} (ht : fineT t) (hv : fineT v) (hn : nodes t < 100000000) (x : ByteArray) : fineT (setT t x v) := by
 have h1 := keys_ins x v (mems t)
 have h2 := mems_nodes t
 refine fine_objM (by omega) (fun p hp => ?_)
 rcases ins_mem hp with rfl | hp
 exact hv
 exact fine_mem ((fine_eq t).1 ht).2 (mems_in hp)
theorem fine_unsetT {t : Tree} (ht : fineT t) (hn : nodes t < 100000000) (x : ByteArray) : fineT (unsetT t x) := by
 unfold unsetT
 split
 have h1 := (del_sub x (mems t)).length_le
 have h2 := mems_nodes t
 exact fine_objM (by omega) (fun p hp => fine_mem ((fine_eq t).1 ht).2 (mems_in ((del_sub x _).subset hp)))
 exact ht
theorem to_nodes {t v : Tree} {l : List (List ByteArray)} (ht : validT t = true) (hv : validT v = true) (hc : checkF l = true) (i : Nat) (hi : i ≤ (normF l).length) : nodes (apTo v t (normF l) i) ≤ 200000 := by
 have h1 := apTo_more measNodes v t (normF l) (fun p hp => ((check_paths hc).2 p (normF_mem hp)).2) i
 have h2 := (valid_nodes ht).1
 have h3 := (valid_nodes hv).1
 have h4 := normF_len l
 have h5 := (check_paths hc).1
 have h6 : i * (nodes v + 63) ≤ 60 * (2000 + 63) := Nat.mul_le_mul (by omega) (by omega)
 omega
theorem to_weight {t v : Tree} {l : List (List ByteArray)} (ht : validT t = true) (hv : validT v = true) (hc : checkF l = true) (i : Nat) (hi : i ≤ (normF l).length) : weight (apTo v t (normF l) i) ≤ 1000000000 := by
 have h1 := apTo_more measWeight v t (normF l) (fun p hp => ((check_paths hc).2 p (normF_mem hp)).2) i
 have h2 := valid_weight ht
 have h3 := valid_weight hv
 have h4 := normF_len l
 have h5 := (check_paths hc).1
 have h6 : i * (weight v + 63) ≤ 60 * (4002000 + 63) := Nat.mul_le_mul (by omega) (by omega)
 omega
def walkF (t : Tree) (d n : Int) : Int := if (chk t d (2000 - n)).1 = true then 2000 - (chk t d (2000 - n)).2 else -1
structure WalkJ (v : List Tree) (d n0 : Int) (i : Nat) (n : Int) : Prop where
 le : i ≤ v.length
 lo : -1 ≤ n
 hi : n ≤ 2000
 eq : if n ≥ 0 then chkL (v.drop i) (d + 1) (2000 - n) = chkL v (d + 1) (2000 - n0) else (chkL v (d + 1) (2000 - n0)).1 = false
theorem WalkJ.start {v : List Tree} {d n : Int} (h0 : 0 ≤ n) (h1 : n ≤ 2000) : WalkJ v d n 0 n := ⟨Nat.zero_le _, by omega, h1, by rw [if_pos h0]; rfl⟩
theorem walkF_in (t : Tree) {d n : Int} (h : n ≤ 2000) (h0 : 0 ≤ n) : -1 ≤ walkF t d n ∧ walkF t d n ≤ 2000 := by
 unfold walkF
 have h1 := chk_le t d (2000 - n) (by omega)
 split
 rename_i hc
 have := h1.2 hc; omega
 omega
theorem WalkJ.on {v : List Tree} {d n0 n : Int} {i : Nat} (h : WalkJ v d n0 i n) (hi : i < v.length) (hn : n ≥ 0) : WalkJ v d n0 (i + 1) (walkF (v.getD i (dflt .tree)) (d + 1) n) := by
 have hq := walkF_in (v.getD i (dflt .tree)) (d := d + 1) h.hi hn
 refine ⟨by omega, hq.1, hq.2, ?_⟩
 have he := h.eq
 rw [if_pos hn] at he
 unfold walkF
 by_cases hc : (chk (v.getD i (dflt .tree)) (d + 1) (2000 - n)).1 = true
 have h1 := chk_le (v.getD i (dflt .tree)) (d + 1) (2000 - n) (by have := h.hi; omega)
 have h2 := h.hi
 rw [if_pos hc, if_pos (by omega), show 2000 - (2000 - (chk (v.getD i (dflt .tree)) (d + 1) (2000 - n)).2) = (chk (v.getD i (dflt .tree)) (d + 1) (2000 - n)).2 by omega, ← chkL_yes hi hc]
 exact he
 rw [if_neg hc, if_neg (by omega), ← he, chkL_no hi (by simpa using hc)]
theorem WalkJ.fin {t : Tree} {d n0 n : Int} {i : Nat} (h : WalkJ t.v d (n0 + 1) i n) (hi : ¬ (i < t.v.length ∧ n ≥ 0)) (h1 : n0 + 1 ≤ 2000) (h2 : d ≤ 64) (h3 : ownO t = true) : n = walkF t d n0 := by
 have he := h.eq
 unfold walkF
 rw [chk_eq, if_neg (c := 2000 - n0 - 1 < 0 ∨ d > 64 ∨ ownO t = false) (by rintro (a | a | a); omega; omega; rw [h3] at a; cases a), show 2000 - n0 - 1 = 2000 - (n0 + 1) by omega]
 by_cases hn : n ≥ 0
 rw [if_pos hn, List.drop_of_length_le (by omega), chkL] at he
 rw [← he, if_pos rfl]; show n = 2000 - (2000 - n); omega
 rw [if_neg hn] at he
 rw [if_neg (by rw [he]; decide)]
 have := h.lo; omega
theorem walk_no {t : Tree} {d n : Int} (h : n + 1 > 2000 ∨ d > 64 ∨ ownO t = false) : walkF t d n = -1 := by
 unfold walkF
 rw [chk_eq, if_pos (c := 2000 - n - 1 < 0 ∨ d > 64 ∨ ownO t = false) (by rcases h with h | h | h; exact .inl (by omega); exact .inr (.inl h); exact .inr (.inr h))]
 rfl
theorem walk_valid (t : Tree) : decide (walkF t 1 0 ≥ 0) = validT t := by
 unfold walkF validT
 have h := chk_le t 1 2000 (by decide)
 rw [show (2000 : Int) - 0 = 2000 from rfl]
 cases hc : (chk t 1 2000).1 with
 | true => rw [if_pos rfl, decide_eq_true (by omega)]
 | false => rw [if_neg (by decide)]; rfl
def bN (s : ByteArray) (i : Nat) : Nat := ((s.data[i]?).getD 0).toNat
theorem byteAt_bN (s : ByteArray) (i : Nat) : byteAt s (i : Int) = (bN s i : Int) := rfl
theorem bN_lt (s : ByteArray) (i : Nat) : bN s i < 256 := by unfold bN; exact UInt8.toNat_lt _
theorem bN_get (s : ByteArray) (i : Nat) : (s.get! i).toNat = bN s i := by
 unfold bN
 show (s.data[i]!).toNat = _
 rw [getElem!_def]
 cases h : s.data[i]? <;> rfl
def contB (s : ByteArray) (i : Nat) : Bool := decide (i < s.size) && (bN s i / 64 == 2)
def rune2 (s : ByteArray) (i : Nat) : Nat := bN s i % 32 * 64 + bN s (i + 1) % 64
def rune3 (s : ByteArray) (i : Nat) : Nat := bN s i % 16 * 4096 + bN s (i + 1) % 64 * 64 + bN s (i + 2) % 64
def rune4 (s : ByteArray) (i : Nat) : Nat := bN s i % 8 * 262144 + bN s (i + 1) % 64 * 4096 + bN s (i + 2) % 64 * 64 + bN s (i + 3) % 64
def c2B (s : ByteArray) (i : Nat) : Bool := decide ((bN s i : Int) ≥ 194) && (decide ((bN s i : Int) < 224) && contB s (i + 1))
def c3B (s : ByteArray) (i : Nat) : Bool := decide ((bN s i : Int) ≥ 224) && (decide ((bN s i : Int) < 240) && (contB s (i + 1) && contB s (i + 2)))
def c4B (s : ByteArray) (i : Nat) : Bool := decide ((bN s i : Int) ≥ 240) && (decide ((bN s i : Int) < 245) && (contB s (i + 1) && (contB s (i + 2) && contB s (i + 3))))
def runeF (s : ByteArray) (i : Nat) : Int × Int :=
 if bN s i < 128 then ((bN s i : Int), 1)
 else if c2B s i = true then ((rune2 s i : Int), 2)
 else if c3B s i = true then (if 2048 ≤ rune3 s i ∧ (rune3 s i < 55296 ∨ 57343 < rune3 s i) then ((rune3 s i : Int), 3) else (-1, 1))
 else if c4B s i = true then (if 65536 ≤ rune4 s i ∧ rune4 s i ≤ 1114111 then ((rune4 s i : Int), 4) else (-1, 1))
 else (-1, 1)
theorem rune_in (s : ByteArray) (i : Nat) : 1 ≤ (runeF s i).2 ∧ (runeF s i).2 ≤ 4 := by
 unfold runeF
 (repeat' split) <;> simp
theorem rune_dec (s : ByteArray) (i : Nat) (h : i < s.size) : (runeF s i).2 = ((Utf8.decode s i).2 : Int) ∧ ((runeF s i).1 < 0 ↔ (Utf8.decode s i).1 = 65533 ∧ (Utf8.decode s i).2 = 1) := by
 have b0 := bN_lt s i
 unfold runeF c2B c3B c4B Utf8.decode rune2 rune3 rune4 contB
 simp only [bN_get, Nat.add_zero, Utf8.runeError, Utf8.valid]
 rw [show (decide ((bN s i : Int) ≥ 194)) = decide (194 ≤ bN s i) from by simp; omega, show (decide ((bN s i : Int) < 224)) = decide (bN s i < 224) from by simp; omega, show (decide ((bN s i : Int) ≥ 224)) = decide (224 ≤ bN s i) from by simp; omega, show (decide ((bN s i : Int) < 240)) = decide (bN s i < 240) from by simp; omega, show (decide ((bN s i : Int) ≥ 240)) = decide (240 ≤ bN s i) from by simp; omega, show (decide ((bN s i : Int) < 245)) = decide (bN s i < 245) from by simp; omega]
 generalize bN s i = x at *
 generalize bN s (i + 1) = y at *
 generalize bN s (i + 2) = z at *
 generalize bN s (i + 3) = u at *
 generalize hA : (decide (i + 1 < s.size) && y / 64 == 2) = A at *
 generalize hB : (decide (i + 2 < s.size) && z / 64 == 2) = B at *
 generalize hC : (decide (i + 3 < s.size) && u / 64 == 2) = C at *
 clear hA hB hC h
 have e2 : ∀ (p q : Prop) [Decidable p] [Decidable q] (D : Bool), ((decide p && (decide q && D)) = true) = (p ∧ q ∧ D = true) := by intros; simp
 simp only [e2]
 by_cases h0 : x < 128
 rw [if_pos h0, if_pos h0]
 refine ⟨rfl, ⟨fun h => ?_, fun h => ?_⟩⟩
 simp at h; omega
 simp at h; omega
 rw [if_neg h0, if_neg h0]
 cases A
 simp
 by_cases h2 : x / 32 = 6
 by_cases h3 : 194 ≤ x
 rw [if_pos ⟨h3, by omega, rfl⟩, if_pos (by simpa using h2), if_pos (by omega)]
 refine ⟨rfl, ⟨fun h => ?_, fun h => ?_⟩⟩
 simp at h; omega
 simp at h
 rw [if_neg (by omega), if_neg (by omega), if_neg (by omega), if_pos (by simpa using h2), if_neg (by omega)]
 simp
 rw [if_neg (by omega), if_neg (c := ((x / 32 == 6 && true) = true)) (by simpa using h2)]
 cases B
 simp
 by_cases h4 : x / 16 = 14
 rw [if_pos ⟨by omega, by omega, rfl⟩, if_pos (c := ((x / 16 == 14 && true && true) = true)) (by simpa using h4)]
 by_cases h5 : 2048 ≤ x % 16 * 4096 + y % 64 * 64 + z % 64 ∧ (x % 16 * 4096 + y % 64 * 64 + z % 64 < 55296 ∨ 57343 < x % 16 * 4096 + y % 64 * 64 + z % 64)
 rw [if_pos h5, if_pos (by simp; omega)]
 refine ⟨rfl, ⟨fun h => ?_, fun h => ?_⟩⟩
 simp at h; omega
 simp at h
 rw [if_neg h5, if_neg (by simp; omega)]
 simp
 rw [if_neg (by omega), if_neg (c := ((x / 16 == 14 && true && true) = true)) (by simpa using h4)]
 cases C
 simp
 by_cases h6 : x / 8 = 30
 rw [if_pos (c := ((x / 8 == 30 && true && true && true) = true)) (by simpa using h6)]
 by_cases h7 : x < 245
 rw [if_pos ⟨by omega, h7, rfl⟩]
 by_cases h8 : 65536 ≤ x % 8 * 262144 + y % 64 * 4096 + z % 64 * 64 + u % 64 ∧ x % 8 * 262144 + y % 64 * 4096 + z % 64 * 64 + u % 64 ≤ 1114111
 rw [if_pos h8, if_pos (by simp; omega)]
 refine ⟨rfl, ⟨fun h => ?_, fun h => ?_⟩⟩
 simp at h; omega
 simp at h
 rw [if_neg h8, if_neg (by simp; omega)]
 simp
 rw [if_neg (by omega), if_neg (by simp; omega)]
 simp
 rw [if_neg (by omega), if_neg (c := ((x / 8 == 30 && true && true && true) = true)) (by simpa using h6)]
 simp
def runesF (s : ByteArray) : Nat → Nat → List Int
 | 0, _ => []
 | b + 1, i => if i < s.size then (runeF s i).1 :: runesF s b (i + (runeF s i).2.toNat) else []
theorem runes_end (s : ByteArray) (b i : Nat) (h : ¬ i < s.size) : runesF s b i = [] := by
 cases b with
 | zero => rfl
 | succ b => rw [runesF, if_neg h]
theorem runes_valid (s : ByteArray) : ∀ b i, ((runesF s b i).all fun r => decide (0 ≤ r)) = X.validAt s b i
 | 0, i => rfl
 | b + 1, i => by
  rw [runesF, X.validAt]
  split
  ·rename_i h
   obtain ⟨h1, h2⟩ := rune_dec s i h
   have e : (runeF s i).2.toNat = (Utf8.decode s i).2 := by omega
   rw [List.all_cons, e, runes_valid s b]
   by_cases hr : (Utf8.decode s i).1 = 65533
   ·rw [if_pos hr]
    by_cases hk : (Utf8.decode s i).2 = 1
    ·rw [if_pos hk, decide_eq_false (by have := h2.2 ⟨hr, hk⟩; omega)]; rfl
    ·rw [if_neg hk, decide_eq_true (by
      by_cases hq : (runeF s i).1 < 0
      ·exact absurd (h2.1 hq).2 hk
      ·omega)]; rfl
   ·rw [if_neg hr, decide_eq_true (by
     by_cases hq : (runeF s i).1 < 0
     ·exact absurd (h2.1 hq).1 hr
     ·omega)]; rfl
  ·rfl
structure RunJ (s : ByteArray) (i : Nat) (acc : List Int) : Prop where
 len : acc.length ≤ i
 le : i ≤ s.size + 4
 eq : ∃ b, acc ++ runesF s b i = runesF s s.size 0 ∧ s.size ≤ i + b
theorem RunJ.start (s : ByteArray) : RunJ s 0 [] := ⟨Nat.zero_le _, Nat.zero_le _, s.size, rfl, by omega⟩
theorem RunJ.on {s : ByteArray} {i : Nat} {acc : List Int} (h : RunJ s i acc) (hi : i < s.size) : RunJ s (i + (runeF s i).2.toNat) (acc ++ [(runeF s i).1]) := by
 obtain ⟨h1, h2, b, h3, h4⟩ := h
 have hr := rune_in s i
 obtain ⟨c, rfl⟩ : ∃ c, b = c + 1 := ⟨b - 1, by omega⟩
 refine ⟨by simp; omega, by omega, c, ?_, by omega⟩
 rw [runesF, if_pos hi] at h3
 rw [List.append_assoc]; exact h3
theorem RunJ.fin {s : ByteArray} {i : Nat} {acc : List Int} (h : RunJ s i acc) (hi : ¬ i < s.size) : acc = runesF s s.size 0 := by
 obtain ⟨_, _, b, h3, _⟩ := h
 rw [runes_end s b i hi, List.append_nil] at h3; exact h3
theorem runes_len (s : ByteArray) : ∀ b i, (runesF s b i).length ≤ b
 | 0, i => Nat.le_refl _
 | b + 1, i => by
  rw [runesF]
  split
  have := runes_len s b (i + (runeF s i).2.toNat); simp; omega
  simp
theorem valid_no {s : ByteArray} {j : Nat} (hj : j < (runesF s s.size 0).length) (h : (runesF s s.size 0).getD j (dflt (.int .i32)) < 0) : X.validAt s s.size 0 = false := by
 rw [← runes_valid, List.all_eq_false]
 exact ⟨_, getD_mem hj (dflt (.int .i32)), by simpa using h⟩
theorem valid_yes {s : ByteArray} (h : ∀ j, j < (runesF s s.size 0).length → ¬ (runesF s s.size 0).getD j (dflt (.int .i32)) < 0) : X.validAt s s.size 0 = true := by
 rw [← runes_valid, List.all_eq_true]
 intro x hx
 obtain ⟨j, hj, rfl⟩ := List.mem_iff_getElem.1 hx
 have h1 := h j hj
 rw [List.getD_eq_getElem?_getD, List.getElem?_eq_getElem hj] at h1
 simp only [Option.getD_some] at h1
 simp; omega
theorem wrap32 {n : Int} (h0 : 0 ≤ n) (h1 : n < 2147483648) : IntKind.wrap .i32 n = n := by
 simp only [IntKind.wrap, IntKind.bits, IntKind.signed]
 simp; omega
theorem or32 (k : Nat) {a b : Nat} (hb : b < 2 ^ k) (h : a * 2 ^ k + b < 2147483648) : bitsOr .i32 ((a * 2 ^ k : Nat) : Int) (b : Int) = ((a * 2 ^ k + b : Nat) : Int) := by
 unfold bitsOr
 have hb' : IntKind.bits .i32 = 32 := rfl
 rw [hb']
 have e2 : (BitVec.ofInt 32 ((a * 2 ^ k : Nat) : Int) ||| BitVec.ofInt 32 (b : Int)).toNat = a * 2 ^ k + b := by
  rw [BitVec.ofInt_natCast, BitVec.ofInt_natCast, BitVec.toNat_or, BitVec.toNat_ofNat, BitVec.toNat_ofNat, Nat.mod_eq_of_lt (by omega), Nat.mod_eq_of_lt (by omega)]
  have := Nat.shiftLeft_add_eq_or_of_lt (i := k) (b := b) hb a
  rw [Nat.shiftLeft_eq] at this
  exact this.symm
 rw [e2, wrap32 (by omega) (by omega)]
theorem and_i32 : ∀ b : Nat, b < 256 → bitsAnd .i32 (b : Int) 31 = ((b % 32 : Nat) : Int) ∧ bitsAnd .i32 (b : Int) 15 = ((b % 16 : Nat) : Int) ∧ bitsAnd .i32 (b : Int) 7 = ((b % 8 : Nat) : Int) := by decide +kernel
theorem and_u8 : ∀ b : Nat, b < 256 → bitsAnd .u8 (b : Int) 63 = ((b % 64 : Nat) : Int) ∧ (bitsAnd .u8 (b : Int) 192 == 128) = (b / 64 == 2) := by decide +kernel
theorem shl32 {x : Nat} (k : Nat) (h : x * 2 ^ k < 2147483648) : IntKind.wrap .i32 ((x : Int) * 2 ^ k) = ((x * 2 ^ k : Nat) : Int) := by
 have e : ((x : Int) * 2 ^ k) = ((x * 2 ^ k : Nat) : Int) := by simp
 rw [e, wrap32 (by omega) (by omega)]
end Go.Proofs.YtfimffgfnhplkaaGreatDoor.F
