/- FnExactTransformOver over plain functions: at all changes and rows of changes the program's TransformOver and the reference's give one answer, the changes stay, and the answer is the call's own; no condition. -/
import Derived.Test.YtoagljlnfakgjaaPFnExactTransformOverx14
import Derived.Test.YtoagljlnfakgjaaBase
import Derived.Test.YtoagljlnfakgjaaMk
namespace Go.Proofs.Ytoagljlnfakgjaa.Pure
open Go.RowKit Go.Proofs.Ytoagljlnfakgjaa.PFnExactTransformOver Go.Proofs.YtoagljlnfakgjaaW.PrintWords Go.Proofs.YtoagljlnfakgjaaW.PrintLast Go.Proofs.Ytoagljlnfakgjaa.Base Go.Proofs.Ytoagljlnfakgjaa.Mk
set_option linter.unusedVariables false
set_option linter.unusedSimpArgs false
abbrev IP := S60
def izP : IP := z60
theorem rd_ip (l : List IP) (i : Nat) : rd_T60 l (i : Int) = gt izP l i := rfl
theorem toList_nil (s : ByteArray) : s.toList = ([] : List UInt8) ↔ s.size = 0 := by
 rw [← List.length_eq_zero_iff]
 have := data_length s
 rw [ByteArray.toList_eq, this]
theorem laws_eqPart_self (m : IP) : laws_eqPart.f m.f0 m.f1 m.f2 m.f0 m.f1 m.f2 = some true := by
 unfold laws_eqPart.f; rw [if_pos rfl]; rw [if_pos rfl]; rw [if_pos rfl]
theorem laws_eqPartS_l (l : List IP) (hl : l.length ≤ 4611686018427387904) (d : Nat) : ∀ i : Nat, i + d = l.length → Ev (fun k => laws_eqPartS.l0 k l l (i : Int)) true := by
 induction d with
 | zero => exact fun i hi => Ev.step (fun k => by rw [laws_eqPartS.l0]) (ev_neg (by omega) (ev_ret rfl))
 | succ d ih =>
  intro i hi
  refine Ev.step (fun k => by rw [laws_eqPartS.l0]) ?_
  refine ev_pos (by omega) (ev_pos (by omega) (ev_pos (by omega) (ev_eq (laws_eqPart_self _) (ev_pos rfl ?_))))
  rw [wrap_succ i (by omega)]
  exact ih (i + 1) (by omega)
theorem laws_eqPartS_f (l : List IP) (hl : l.length ≤ 4611686018427387904) : Ev (fun k => laws_eqPartS.f k l l) true := by
 unfold laws_eqPartS.f
 exact ev_pos rfl (laws_eqPartS_l l hl l.length 0 (by omega))
abbrev LP := S58
def cvP (x : LP) : IP := ⟨x.f0, x.f1, x.f2⟩
def lzP : LP := z58
theorem rd_lp (l : List LP) (i : Nat) : rd_T58 l (i : Int) = gt lzP l i := rfl
def szP (l : List LP) : List Nat := l.map (fun x => x.f1.size + x.f2.size)
theorem laws_szPartS_l (l : List LP) (hl : l.length ≤ 1048576) (hw : ∀ x ∈ l, x.f1.size ≤ 9223372036854775807 ∧ x.f2.size ≤ 9223372036854775807) (d : Nat) :
  ∀ (i : Nat) (left : Int), i + d = l.length → 0 ≤ left → left ≤ 1048576 → Ev (fun k => laws_szPartS.l0 k l left (i : Int)) (szF left (szP (l.drop i))) := by
 induction d with
 | zero =>
  intro i left hi h0 h1
  refine Ev.step (fun k => by rw [laws_szPartS.l0]) ?_
  refine ev_neg (by omega) (ev_ret ?_)
  rw [List.drop_eq_nil_of_le (by omega)]; rfl
 | succ d ih =>
  intro i left hi h0 h1
  have hm := hw _ (gt_mem lzP l i (by omega))
  refine Ev.step (fun k => by rw [laws_szPartS.l0]) ?_
  refine ev_pos (by omega) (ev_pos (by omega) ?_)
  rw [gt_drop lzP l i (by omega), rd_lp]
  generalize gt lzP l i = m at hm ⊢
  obtain ⟨hm1, hm2⟩ := hm
  have e : wrap64 (left - (m.f1.size : Int)) = left - (m.f1.size : Int) := wrap_id (by omega) (by omega)
  show Ev _ (if left - ((m.f1.size + m.f2.size : Nat) : Int) < 0 then -1 else szF (left - ((m.f1.size + m.f2.size : Nat) : Int)) (szP (l.drop (i + 1))))
  by_cases c1 : left - (m.f1.size : Int) < 0
  ·rw [if_pos (show left - ((m.f1.size + m.f2.size : Nat) : Int) < 0 by omega)]
   refine ev_eq (a := -1) (by unfold laws_szPart.f; rw [e, if_pos c1]) (ev_pos (by omega) (ev_ret rfl))
  have e2 : wrap64 (left - (m.f1.size : Int) - (m.f2.size : Int)) = left - ((m.f1.size + m.f2.size : Nat) : Int) := by rw [wrap_id (by omega) (by omega)]; omega
  by_cases c : left - ((m.f1.size + m.f2.size : Nat) : Int) < 0
  ·rw [if_pos c]
   refine ev_eq (a := -1) (by unfold laws_szPart.f; rw [e, if_neg c1, e2, if_pos c]) (ev_pos (by omega) (ev_ret rfl))
  ·rw [if_neg c]
   refine ev_eq (a := left - ((m.f1.size + m.f2.size : Nat) : Int)) (by unfold laws_szPart.f; rw [e, if_neg c1, e2, if_neg c]) (ev_neg (by omega) ?_)
   rw [wrap_succ i (by omega)]
   exact ih (i + 1) _ (by omega) (by omega) (by omega)
theorem laws_toPartS_l (l : List LP) (hl : l.length ≤ 1048576) (d : Nat) :
  ∀ i : Nat, i + d = l.length → Ev (fun k => laws_toPartS.l0 k l ((l.take i).map cvP ++ List.replicate (l.length - i) izP) (i : Int)) (l.map cvP) := by
 induction d with
 | zero =>
  intro i hi
  refine Ev.step (fun k => by rw [laws_toPartS.l0]) ?_
  refine ev_neg (by omega) (ev_ret ?_)
  have : l.length - i = 0 := by omega
  rw [List.take_of_length_le (by omega), this]; simp
 | succ d ih =>
  intro i hi
  refine Ev.step (fun k => by rw [laws_toPartS.l0]) ?_
  refine ev_pos (by omega) (ev_pos (by omega) (ev_eq rfl (ev_pos (by simp; omega) ?_)))
  rw [wrap_succ i (by omega)]
  have ih' := ih (i + 1) (by omega)
  have e : ((l.take i).map cvP ++ List.replicate (l.length - i) izP).set (i : Int).toNat (⟨(rd_T58 l (i : Int)).f0, (rd_T58 l (i : Int)).f1, (rd_T58 l (i : Int)).f2⟩ : IP) = (l.take (i + 1)).map cvP ++ List.replicate (l.length - (i + 1)) izP := by
   rw [Int.toNat_natCast, set_next _ _ _ _ _ (by simp; omega) (by omega), rd_lp, gt_take lzP l i (by omega), List.map_append]
   rfl
  exact e ▸ ih'
theorem laws_toPartS_f (l : List LP) (hl : l.length ≤ 1048576) : Ev (fun k => laws_toPartS.f k l) (l.map cvP) := by
 unfold laws_toPartS.f
 refine ev_pos (by omega) (ev_pos (by omega) ?_)
 exact laws_toPartS_l l hl l.length 0 (by omega)
theorem szF_le : ∀ (l : List Nat) (left : Int), 0 ≤ left → szF left l ≤ left
 | [], left, _ => by unfold szF; omega
 | n :: r, left, h => by
  unfold szF
  split
  ·omega
  ·rename_i c
   exact Int.le_trans (szF_le r _ (by omega)) (by omega)
theorem laws_markText_l (m : Nat) : ∀ (n : Nat) (t : ByteArray), n ≤ m → n ≤ 2305843009213693952 → t.size + n ≤ 2305843009213693952 → ∃ r, Ev (fun k => laws_markText.l0 k (n : Int) t) r := by
 induction m with
 | zero =>
  intro n t h0 h1 h2
  obtain rfl : n = 0 := by omega
  exact ⟨_, Ev.step (fun k => by rw [laws_markText.l0]) (ev_neg (by omega) (ev_pos (by omega) (ev_ret rfl)))⟩
 | succ m ih =>
  intro n t h0 h1 h2
  by_cases hn : n = 0
  ·subst hn
   exact ⟨_, Ev.step (fun k => by rw [laws_markText.l0]) (ev_neg (by omega) (ev_pos (by omega) (ev_ret rfl)))⟩
  ·have e : wrap64 (Int.tdiv (n : Int) 10) = ((n / 10 : Nat) : Int) := by
    rw [Int.tdiv_eq_ediv_of_nonneg (by omega)]; unfold wrap64; omega
   have hs : ∀ x : Int, (strOfNums [x]).size = 1 := fun x => rfl
   obtain ⟨r, hr⟩ := ih (n / 10) (strOfNums [(wrap64 (48 + (Int.tmod (n : Int) 10))) % 256] ++ t) (by omega) (by omega) (by rw [ByteArray.size_append, hs]; omega)
   refine ⟨r, ?_⟩
   refine Ev.step (fun k => by rw [laws_markText.l0]) ?_
   refine ev_pos (by omega) (ev_some ?_)
   refine ev_pos (by rw [hs]; omega) ?_
   rw [e]; exact hr
noncomputable def MT (n : Int) : ByteArray := @Classical.epsilon ByteArray ⟨ByteArray.empty⟩ (fun r => Ev (fun k => laws_markText.f k n) r)
theorem MT_ev (n : Int) (h0 : 0 ≤ n) (h1 : n ≤ 1152921504606846990) : Ev (fun k => laws_markText.f k n) (MT n) := by
 refine @Classical.epsilon_spec ByteArray (fun r => Ev (fun k => laws_markText.f k n) r) ?_
 obtain ⟨m, rfl⟩ := Int.eq_ofNat_of_zero_le h0
 by_cases hm : m = 0
 ·subst hm
  exact ⟨_, by unfold laws_markText.f; exact ev_pos (by omega) (ev_ret rfl)⟩
 ·obtain ⟨r, hr⟩ := laws_markText_l m m ⟨#[]⟩ (Nat.le_refl _) (by omega) (by show 0 + m ≤ _; omega)
  exact ⟨r, by unfold laws_markText.f; exact ev_neg (by omega) hr⟩
noncomputable def mvPart (kk : Int) : IP := (⟨kk, (MT (kk + 1)), (MT (kk + 2))⟩ : IP)
noncomputable def mkPart (kk : Int) (n : Nat) : List IP := (List.range n).map (fun (i : Nat) => mvPart (kk + 3 * (i : Int)))
theorem mkPart_len (kk : Int) (n : Nat) : (mkPart kk n).length = n := by simp [mkPart]
theorem mkPart_succ (kk : Int) (n : Nat) : mkPart kk (n + 1) = mkPart kk n ++ [mvPart (kk + 3 * (n : Int))] := by simp [mkPart, List.range_succ]
theorem mkPart_gt (kk : Int) (n i : Nat) (h : i < n) : gt izP (mkPart kk n) i = mvPart (kk + 3 * (i : Int)) := by
 unfold gt mkPart; rw [List.getD_eq_getElem?_getD, List.getElem?_map, List.getElem?_range h]; rfl
theorem laws_markPartS_r (x0 : List IP) (kk : Int) (i : Nat) (hi : i < x0.length) (hx : x0.length ≤ 1152921504606846976) (h0 : 0 ≤ kk) (h1 : kk ≤ 1152921504606846976) {r : Int × List IP}
  (h : Ev (fun k => laws_markPartS.l0 k (x0.set i (mvPart kk)) (kk + 3) ((i + 1 : Nat) : Int)) r) : Ev (fun k => laws_markPartS.l0 k x0 kk (i : Int)) r := by
 have w1 : wrap64 (kk + 1) = kk + 1 := by unfold wrap64; omega
 have w2 : wrap64 ((kk + 1) + 1) = kk + 2 := by unfold wrap64; omega
 have w3 : wrap64 ((kk + 2) + 1) = kk + 3 := by unfold wrap64; omega
 refine Ev.step (fun k => by rw [laws_markPartS.l0]) ?_
 refine ev_pos (by omega) ?_
 simp only [w1, w2, w3, wrap_succ i (by omega)]
 refine ev_pos (by omega) ?_
 refine ev_some ?_
 refine Ev.bind (MT_ev _ (by omega) (by omega)) ?_
 refine ev_some ?_
 refine Ev.bind (MT_ev _ (by omega) (by omega)) ?_
 refine ev_val' ?_ h; intro k; simp [rd_ip, gt_set, List.set_set, hi, mvPart]
theorem laws_markPartS_l (l : List IP) (kk : Int) (hl : l.length ≤ 1073741824) (h0 : 0 ≤ kk) (h1 : kk ≤ 1073741824) (d : Nat) : ∀ i : Nat, i + d = l.length →
  Ev (fun k => laws_markPartS.l0 k (mkPart kk i ++ l.drop i) (kk + 3 * (i : Int)) (i : Int)) (kk + 3 * (l.length : Int), mkPart kk l.length) := by
 induction d with
 | zero =>
  intro i hi
  refine Ev.step (fun k => by rw [laws_markPartS.l0]) ?_
  refine ev_neg (by simp [mkPart_len]; omega) (ev_ret ?_)
  have : i = l.length := by omega
  subst this; simp
 | succ d ih =>
  intro i hi
  refine laws_markPartS_r _ _ i (by simp [mkPart_len]; omega) (by simp [mkPart_len]; omega) (by omega) (by omega) ?_
  have e : (mkPart kk i ++ l.drop i).set i (mvPart (kk + 3 * (i : Int))) = mkPart kk (i + 1) ++ l.drop (i + 1) := by
   rw [gt_drop izP l i (by omega), List.set_append_right _ _ (by simp [mkPart_len]), mkPart_len, Nat.sub_self, mkPart_succ]; simp
  have e2 : kk + 3 * (i : Int) + 3 = kk + 3 * ((i + 1 : Nat) : Int) := by omega
  rw [e, e2]
  exact ih (i + 1) (by omega)
theorem laws_markPartS_f (l : List IP) (kk : Int) (hl : l.length ≤ 1073741824) (h0 : 0 ≤ kk) (h1 : kk ≤ 1073741824) :
  Ev (fun k => laws_markPartS.f k l kk) (kk + 3 * (l.length : Int), mkPart kk l.length) := by
 unfold laws_markPartS.f
 have := laws_markPartS_l l kk hl h0 h1 l.length 0 (by omega)
 have e0 : mkPart kk 0 ++ l.drop 0 = l := by simp [mkPart]
 have e1 : kk + 3 * ((0 : Nat) : Int) = kk := by omega
 rw [e0, e1] at this
 exact this
theorem laws_heldPartS_l (kk : Int) (n : Nat) (hl : n ≤ 1073741824) (h0 : 0 ≤ kk) (h1 : kk ≤ 1073741824) (d : Nat) : ∀ i : Nat, i + d = n →
  Ev (fun k => laws_heldPartS.l0 k (mkPart kk n) (kk + 3 * (i : Int)) (i : Int)) (kk + 3 * (n : Int)) := by
 induction d with
 | zero =>
  intro i hi
  refine Ev.step (fun k => by rw [laws_heldPartS.l0]) ?_
  refine ev_neg (by rw [mkPart_len]; omega) (ev_ret ?_)
  have : i = n := by omega
  subst this; rfl
 | succ d ih =>
  intro i hi
  have hn : i < n := by omega
  have ih' := ih (i + 1) (by omega)
  refine Ev.step (fun k => by rw [laws_heldPartS.l0]) ?_
  refine ev_pos (by rw [mkPart_len]; omega) (ev_pos (by omega) ?_)
  have e2 : kk + 3 * ((i + 1 : Nat) : Int) = kk + 3 * (i : Int) + 3 := by omega
  rw [e2] at ih'
  have g0 : 0 ≤ kk + 3 * (i : Int) := by omega
  have g1 : kk + 3 * (i : Int) ≤ 1152921504606846976 := by omega
  simp only [rd_ip, mkPart_gt _ _ _ hn]
  generalize kk + 3 * (i : Int) = kk at g0 g1 ih' ⊢
  have w1 : wrap64 (kk + 1) = kk + 1 := by unfold wrap64; omega
  have w2 : wrap64 ((kk + 1) + 1) = kk + 2 := by unfold wrap64; omega
  have w3 : wrap64 ((kk + 2) + 1) = kk + 3 := by unfold wrap64; omega
  simp only [w1, w2, w3, wrap_succ i (by omega)]
  refine ev_pos rfl ?_
  refine Ev.bind (MT_ev _ (by omega) (by omega)) ?_
  refine ev_pos rfl ?_
  refine Ev.bind (MT_ev _ (by omega) (by omega)) ?_
  refine ev_pos rfl ?_
  exact ih'
theorem laws_heldPartS_f (kk : Int) (n : Nat) (hl : n ≤ 1073741824) (h0 : 0 ≤ kk) (h1 : kk ≤ 1073741824) :
  Ev (fun k => laws_heldPartS.f k (mkPart kk n) kk) (kk + 3 * (n : Int)) := by
 unfold laws_heldPartS.f
 have := laws_heldPartS_l kk n hl h0 h1 n 0 (by omega)
 have e1 : kk + 3 * ((0 : Nat) : Int) = kk := by omega
 rw [e1] at this
 exact this
theorem ba_nil {s : ByteArray} (h : s.size = 0) : s = (⟨#[]⟩ : ByteArray) := by
 obtain ⟨d⟩ := s
 have h' : d.size = 0 := h
 rw [Array.size_eq_zero_iff.1 h']
theorem ba_app (s : ByteArray) : s ++ (⟨#[]⟩ : ByteArray) = s := by
 apply ByteArray.ext; rw [ByteArray.data_append]; simp
theorem ba_len_app (a b : ByteArray) : (a ++ b).size = a.size + b.size := ByteArray.size_append
/-- A part with one side at most. -/
def One (p : IP) : Prop := 0 ≤ p.f0 ∧ p.f0 ≤ 300 ∧ p.f1.size ≤ 300 ∧ p.f2.size ≤ 300 ∧ (p.f0 = 0 ∨ (p.f1.size = 0 ∧ p.f2.size = 0)) ∧ (p.f1.size = 0 ∨ p.f2.size = 0)
theorem set_last (m : List IP) (z v : IP) : (m ++ [z]).set m.length v = m ++ [v] := by
 rw [List.set_append_right _ _ (Nat.le_refl _), Nat.sub_self]; rfl
theorem set_last2 (m : List IP) (y z v : IP) : (m ++ [y, z]).set m.length v = m ++ [v, z] := by
 rw [List.set_append_right _ _ (Nat.le_refl _), Nat.sub_self]; rfl
theorem gt_app_2 (m : List IP) (y z : IP) : gt izP (m ++ [y, z]) m.length = y := by
 unfold gt; rw [List.getD_eq_getElem?_getD, List.getElem?_append_right (Nat.le_refl _)]; simp
theorem gt_app_1 (m : List IP) (z : IP) : gt izP (m ++ [z]) m.length = z := by
 unfold gt; rw [List.getD_eq_getElem?_getD, List.getElem?_append_right (Nat.le_refl _)]; simp
theorem len_m1 (m : List IP) (z : IP) (h : m.length ≤ 100000) : wrap64 (((m ++ [z]).length : Int) - 1) = (m.length : Int) := by
 rw [List.length_append, List.length_singleton, wrap_id (by omega) (by omega)]; omega
/-- Nothing is put behind. -/
theorem add_none (l : List IP) (p : IP) (h0 : p.f0 = 0) (h1 : p.f1.size = 0) (h2 : p.f2.size = 0) : Ev (fun k => spec_l3Add.f k l p.f0 p.f1 p.f2) l := by
 unfold spec_l3Add.f
 rw [beq_iff_eq.2 ((toList_nil _).2 h2)]
 refine ev_pos h0 (ev_pos ((toList_nil _).2 h1) ?_)
 refine Ev.step (fun k => by rw [spec_l3Add.j0]) ?_
 exact ev_pos rfl (ev_ret rfl)
/-- Where the part is one, the walk begins at j0. -/
theorem add_start (l : List IP) (p : IP) (h : p.f0 ≠ 0 ∨ p.f1.size ≠ 0 ∨ p.f2.size ≠ 0) {r : List IP} (hr : Ev (fun k => spec_l3Add.j0 k l (l.length : Int) false p.f0 p.f1 p.f2) r) : Ev (fun k => spec_l3Add.f k l p.f0 p.f1 p.f2) r := by
 unfold spec_l3Add.f
 refine ev_if (fun h0 => ev_if (fun h1 => ?_) (fun _ => hr)) (fun _ => hr)
 rw [toList_nil] at h1
 have h2 : ¬ p.f2.toList = ([] : List UInt8) := by rw [toList_nil]; omega
 rw [beq_eq_false_iff_ne.2 h2]; exact hr
theorem add_first (p : IP) (h : p.f0 ≠ 0 ∨ p.f1.size ≠ 0 ∨ p.f2.size ≠ 0) : Ev (fun k => spec_l3Add.f k [] p.f0 p.f1 p.f2) [p] := by
 refine add_start [] p h ?_
 refine Ev.step (fun k => by rw [spec_l3Add.j0]) ?_
 exact ev_neg (by simp) (ev_pos (by simp) (ev_pos (by simp) (ev_ret rfl)))
theorem add_j1 (m : List IP) (z p : IP) (hm : m.length ≤ 100000) (h : p.f0 ≠ 0 ∨ p.f1.size ≠ 0 ∨ p.f2.size ≠ 0) {r : List IP}
  (hr : Ev (fun k => spec_l3Add.j1 k (m ++ [z]) ((m ++ [z]).length : Int) (decide (p.f0 > 0 ∧ z.f0 > 0)) p.f0 p.f1 p.f2 z.f0 z.f1 z.f2) r) : Ev (fun k => spec_l3Add.f k (m ++ [z]) p.f0 p.f1 p.f2) r := by
 refine add_start _ p h ?_
 refine Ev.step (fun k => by rw [spec_l3Add.j0]) ?_
 rw [len_m1 m z hm, rd_ip, gt_app_1]
 have hl : (m ++ [z]).length = m.length + 1 := by rw [List.length_append, List.length_singleton]
 refine ev_neg (by simp) (ev_neg (by omega) (ev_pos (by omega) (ev_pos (by omega) (ev_if (fun c => ?_) (fun c => ?_)))))
 ·simp only [c, true_and] at hr; exact hr
 ·rw [decide_eq_false (fun q => c q.1)] at hr; exact hr
theorem add_j2 (m : List IP) (z p : IP) (hm : m.length ≤ 100000) (h : p.f0 ≠ 0 ∨ p.f1.size ≠ 0 ∨ p.f2.size ≠ 0) (h1 : ¬ (p.f0 > 0 ∧ z.f0 > 0)) {r : List IP}
  (hr : Ev (fun k => spec_l3Add.j2 k (m ++ [z]) ((m ++ [z]).length : Int) (decide (p.f2.size ≠ 0 ∧ z.f2.size ≠ 0)) p.f0 p.f1 p.f2 z.f0 z.f1 z.f2) r) : Ev (fun k => spec_l3Add.f k (m ++ [z]) p.f0 p.f1 p.f2) r := by
 refine add_j1 m z p hm h ?_
 rw [decide_eq_false h1]
 refine Ev.step (fun k => by rw [spec_l3Add.j1]) ?_
 refine ev_neg (by simp) (ev_if (fun c => ?_) (fun c => ?_))
 ·rw [toList_nil] at c
  rw [decide_eq_false (fun q => q.1 c)] at hr; exact hr
 ·rw [toList_nil] at c
  have e : (z.f2.toList != ([] : List UInt8)) = decide (p.f2.size ≠ 0 ∧ z.f2.size ≠ 0) := by
   by_cases q : z.f2.size = 0
   ·rw [decide_eq_false (fun x => x.2 q), bne_eq_false_iff_eq]; exact (toList_nil _).2 q
   ·rw [decide_eq_true ⟨c, q⟩, bne_iff_ne]; exact fun x => q ((toList_nil _).1 x)
  rw [e]; exact hr
theorem add_j3 (m : List IP) (z p : IP) (hm : m.length ≤ 100000) (h : p.f0 ≠ 0 ∨ p.f1.size ≠ 0 ∨ p.f2.size ≠ 0) (h1 : ¬ (p.f0 > 0 ∧ z.f0 > 0)) (h2 : ¬ (p.f2.size ≠ 0 ∧ z.f2.size ≠ 0)) {r : List IP}
  (hr : Ev (fun k => spec_l3Add.j3 k (m ++ [z]) ((m ++ [z]).length : Int) (decide (p.f1.size ≠ 0 ∧ z.f1.size ≠ 0)) p.f0 p.f1 p.f2 z.f0 z.f1 z.f2) r) : Ev (fun k => spec_l3Add.f k (m ++ [z]) p.f0 p.f1 p.f2) r := by
 refine add_j2 m z p hm h h1 ?_
 rw [decide_eq_false h2]
 refine Ev.step (fun k => by rw [spec_l3Add.j2]) ?_
 refine ev_neg (by simp) (ev_if (fun c => ?_) (fun c => ?_))
 ·rw [toList_nil] at c
  rw [decide_eq_false (fun q => q.1 c)] at hr; exact hr
 ·rw [toList_nil] at c
  have e : (z.f1.toList != ([] : List UInt8)) = decide (p.f1.size ≠ 0 ∧ z.f1.size ≠ 0) := by
   by_cases q : z.f1.size = 0
   ·rw [decide_eq_false (fun x => x.2 q), bne_eq_false_iff_eq]; exact (toList_nil _).2 q
   ·rw [decide_eq_true ⟨c, q⟩, bne_iff_ne]; exact fun x => q ((toList_nil _).1 x)
  rw [e]; exact hr
theorem add_j4 (m : List IP) (z p : IP) (hm : m.length ≤ 100000) (h : p.f0 ≠ 0 ∨ p.f1.size ≠ 0 ∨ p.f2.size ≠ 0) (h1 : ¬ (p.f0 > 0 ∧ z.f0 > 0)) (h2 : ¬ (p.f2.size ≠ 0 ∧ z.f2.size ≠ 0)) (h3 : ¬ (p.f1.size ≠ 0 ∧ z.f1.size ≠ 0)) {r : List IP}
  (hr : Ev (fun k => spec_l3Add.j4 k (m ++ [z]) ((m ++ [z]).length : Int) (decide (p.f1.size ≠ 0 ∧ z.f2.size ≠ 0)) p.f0 p.f1 p.f2 z.f0 z.f1 z.f2) r) : Ev (fun k => spec_l3Add.f k (m ++ [z]) p.f0 p.f1 p.f2) r := by
 refine add_j3 m z p hm h h1 h2 ?_
 rw [decide_eq_false h3]
 refine Ev.step (fun k => by rw [spec_l3Add.j3]) ?_
 refine ev_neg (by simp) (ev_if (fun c => ?_) (fun c => ?_))
 ·rw [toList_nil] at c
  rw [decide_eq_false (fun q => q.1 c)] at hr; exact hr
 ·rw [toList_nil] at c
  have e : (z.f2.toList != ([] : List UInt8)) = decide (p.f1.size ≠ 0 ∧ z.f2.size ≠ 0) := by
   by_cases q : z.f2.size = 0
   ·rw [decide_eq_false (fun x => x.2 q), bne_eq_false_iff_eq]; exact (toList_nil _).2 q
   ·rw [decide_eq_true ⟨c, q⟩, bne_iff_ne]; exact fun x => q ((toList_nil _).1 x)
  rw [e]; exact hr
/-- Both keep. -/
theorem add_keep (m : List IP) (z p : IP) (hm : m.length ≤ 100000) (h1 : p.f0 > 0 ∧ z.f0 > 0) : Ev (fun k => spec_l3Add.f k (m ++ [z]) p.f0 p.f1 p.f2) (m ++ [⟨wrap64 (z.f0 + p.f0), z.f1, z.f2⟩]) := by
 refine add_j1 m z p hm (.inl (by omega)) ?_
 rw [decide_eq_true h1]
 refine Ev.step (fun k => by rw [spec_l3Add.j1]) ?_
 rw [len_m1 m z hm, rd_ip, gt_app_1, Int.toNat_natCast, set_last]
 exact ev_pos rfl (ev_pos (by omega) (ev_pos (by rw [List.length_append, List.length_singleton]; omega) (ev_ret rfl)))
/-- Both drop. -/
theorem add_drop (m : List IP) (z p : IP) (hm : m.length ≤ 100000) (h1 : ¬ (p.f0 > 0 ∧ z.f0 > 0)) (h2 : p.f2.size ≠ 0 ∧ z.f2.size ≠ 0) (hs : z.f2.size + p.f2.size ≤ 9223372036854775807) : Ev (fun k => spec_l3Add.f k (m ++ [z]) p.f0 p.f1 p.f2) (m ++ [⟨z.f0, z.f1, z.f2 ++ p.f2⟩]) := by
 refine add_j2 m z p hm (.inr (.inr h2.1)) h1 ?_
 rw [decide_eq_true h2]
 refine Ev.step (fun k => by rw [spec_l3Add.j2]) ?_
 rw [len_m1 m z hm, rd_ip, gt_app_1, Int.toNat_natCast, set_last]
 exact ev_pos rfl (ev_pos (by omega) (ev_pos (by rw [List.length_append, List.length_singleton]; omega) (ev_pos hs (ev_ret rfl))))
/-- Both put. -/
theorem add_put (m : List IP) (z p : IP) (hm : m.length ≤ 100000) (h1 : ¬ (p.f0 > 0 ∧ z.f0 > 0)) (h2 : ¬ (p.f2.size ≠ 0 ∧ z.f2.size ≠ 0)) (h3 : p.f1.size ≠ 0 ∧ z.f1.size ≠ 0) (hs : z.f1.size + p.f1.size ≤ 9223372036854775807) : Ev (fun k => spec_l3Add.f k (m ++ [z]) p.f0 p.f1 p.f2) (m ++ [⟨z.f0, z.f1 ++ p.f1, z.f2⟩]) := by
 refine add_j3 m z p hm (.inr (.inl h3.1)) h1 h2 ?_
 rw [decide_eq_true h3]
 refine Ev.step (fun k => by rw [spec_l3Add.j3]) ?_
 rw [len_m1 m z hm, rd_ip, gt_app_1, Int.toNat_natCast, set_last]
 exact ev_pos rfl (ev_pos (by omega) (ev_pos (by rw [List.length_append, List.length_singleton]; omega) (ev_pos hs (ev_ret rfl))))
/-- Nothing joins. -/
theorem add_apart (m : List IP) (z p : IP) (hm : m.length ≤ 100000) (h : p.f0 ≠ 0 ∨ p.f1.size ≠ 0 ∨ p.f2.size ≠ 0) (h1 : ¬ (p.f0 > 0 ∧ z.f0 > 0)) (h2 : ¬ (p.f2.size ≠ 0 ∧ z.f2.size ≠ 0)) (h3 : ¬ (p.f1.size ≠ 0 ∧ z.f1.size ≠ 0)) (h4 : ¬ (p.f1.size ≠ 0 ∧ z.f2.size ≠ 0)) : Ev (fun k => spec_l3Add.f k (m ++ [z]) p.f0 p.f1 p.f2) (m ++ [z, p]) := by
 refine add_j4 m z p hm h h1 h2 h3 ?_
 rw [decide_eq_false h4]
 refine Ev.step (fun k => by rw [spec_l3Add.j4]) ?_
 exact ev_neg (by simp) (ev_pos (by rw [List.length_append, List.length_singleton]; omega) (ev_ret (by rw [List.append_assoc]; rfl)))
/-- A put goes ahead of a drop. -/
theorem add_ahead1 (z p : IP) (h1 : ¬ (p.f0 > 0 ∧ z.f0 > 0)) (h2 : ¬ (p.f2.size ≠ 0 ∧ z.f2.size ≠ 0)) (h3 : ¬ (p.f1.size ≠ 0 ∧ z.f1.size ≠ 0)) (h4 : p.f1.size ≠ 0 ∧ z.f2.size ≠ 0) : Ev (fun k => spec_l3Add.f k [z] p.f0 p.f1 p.f2) [p, z] := by
 refine add_j4 [] z p (by simp) (.inr (.inl h4.1)) h1 h2 h3 ?_
 rw [decide_eq_true h4]
 refine Ev.step (fun k => by rw [spec_l3Add.j4]) ?_
 rw [len_m1 [] z (by simp), Int.toNat_natCast, set_last]
 exact ev_pos rfl (ev_neg (by simp) (ev_pos (by simp) (ev_pos (by simp) (ev_eq rfl (ev_pos (by simp) (ev_ret rfl))))))
theorem len_m2 (m : List IP) (y z : IP) (h : m.length ≤ 90000) : wrap64 (((m ++ [y, z]).length : Int) - 2) = (m.length : Int) := by
 have : (m ++ [y, z]).length = m.length + 2 := by rw [List.length_append]; rfl
 rw [this, wrap_id (by omega) (by omega)]; omega
theorem add_ahead2 (m : List IP) (y z p : IP) (hm : m.length ≤ 90000) (h1 : ¬ (p.f0 > 0 ∧ z.f0 > 0)) (h2 : ¬ (p.f2.size ≠ 0 ∧ z.f2.size ≠ 0)) (h3 : ¬ (p.f1.size ≠ 0 ∧ z.f1.size ≠ 0)) (h4 : p.f1.size ≠ 0 ∧ z.f2.size ≠ 0) (hs : y.f1.size + p.f1.size ≤ 9223372036854775807) :
  Ev (fun k => spec_l3Add.f k (m ++ [y, z]) p.f0 p.f1 p.f2) (if y.f1.size = 0 then m ++ [y, p, z] else m ++ [⟨y.f0, y.f1 ++ p.f1, y.f2⟩, z]) := by
 have em : m ++ [y, z] = (m ++ [y]) ++ [z] := by rw [List.append_assoc]; rfl
 have hl1 : (m ++ [y]).length = m.length + 1 := by rw [List.length_append, List.length_singleton]
 have hl2 : (m ++ [y, z]).length = m.length + 2 := by rw [List.length_append]; rfl
 rw [em]
 refine add_j4 (m ++ [y]) z p (by omega) (.inr (.inl h4.1)) h1 h2 h3 ?_
 rw [decide_eq_true h4]
 refine Ev.step (fun k => by rw [spec_l3Add.j4]) ?_
 rw [len_m1 (m ++ [y]) z (by omega), Int.toNat_natCast, set_last]
 rw [← em, len_m2 m y z hm, rd_ip, gt_app_2, Int.toNat_natCast, set_last2]
 refine ev_pos rfl (ev_pos (by omega) (ev_pos (by omega) (ev_pos (by omega) (ev_if (fun c => ?_) (fun c => ?_)))))
 ·rw [toList_nil] at c
  rw [if_pos c]
  refine ev_pos (by omega) (ev_pos (by omega) (ev_eq rfl (ev_pos (by rw [List.length_append, List.length_singleton]; omega) (ev_ret ?_))))
  rw [List.append_assoc, List.append_assoc]; rfl
 ·rw [toList_nil] at c
  rw [if_neg c]
  exact ev_pos hs (ev_ret rfl)
/-- The state of the maker is that of the reference: the parts so far, and what is held back. -/
structure Fit (n : Nat) (s : List Pt × ByteArray × ByteArray) : Prop where
 last : s.1 = [] ∨ ∃ m x, s.1 = m ++ [(x, (⟨#[]⟩ : ByteArray), (⟨#[]⟩ : ByteArray))] ∧ 0 < x ∧ x ≤ 300 * (n : Int)
 len : s.1.length ≤ 3 * n
 put : s.2.1.size ≤ 300 * n
 drop : s.2.2.size ≤ 300 * n
def allP (s : List Pt × ByteArray × ByteArray) : List IP := (s.1 ++ endL s.2.1 s.2.2).map ofP
theorem endL_00 {a b : ByteArray} (ha : a.size = 0) (hb : b.size = 0) : endL a b = [] := by
 unfold endL; rw [if_pos ((toList_nil _).2 ha), if_pos ((toList_nil _).2 hb)]; rfl
theorem endL_10 {a b : ByteArray} (ha : a.size ≠ 0) (hb : b.size = 0) : endL a b = [(0, a, ⟨#[]⟩)] := by
 unfold endL; rw [if_neg (fun e => ha ((toList_nil _).1 e)), if_pos ((toList_nil _).2 hb)]; rfl
theorem endL_01 {a b : ByteArray} (ha : a.size = 0) (hb : b.size ≠ 0) : endL a b = [(0, ⟨#[]⟩, b)] := by
 unfold endL; rw [if_pos ((toList_nil _).2 ha), if_neg (fun e => hb ((toList_nil _).1 e))]; rfl
theorem endL_11 {a b : ByteArray} (ha : a.size ≠ 0) (hb : b.size ≠ 0) : endL a b = [(0, a, ⟨#[]⟩), (0, ⟨#[]⟩, b)] := by
 unfold endL; rw [if_neg (fun e => ha ((toList_nil _).1 e)), if_neg (fun e => hb ((toList_nil _).1 e))]; rfl
theorem endL_len (a b : ByteArray) : (endL a b).length ≤ 2 := by unfold endL; rw [List.length_append]; split <;> split <;> simp
theorem sz0 : (⟨#[]⟩ : ByteArray).size = 0 := rfl
theorem keepA_app (m : List Pt) (q : Pt) (x : Int) : keepA (m ++ [q]) x = if q.1 > 0 then m ++ [(wrap64 (q.1 + x), q.2.1, q.2.2)] else m ++ [q, (x, ⟨#[]⟩, ⟨#[]⟩)] := by
 unfold keepA
 rw [List.getLast?_append]
 simp only [List.getLast?_singleton, Option.some_or]
 split
 ·rw [List.dropLast_concat]
 ·rw [List.append_assoc]; rfl
/-- One part more, by the maker and by the reference. -/
theorem add_step (n : Nat) (s : List Pt × ByteArray × ByteArray) (p : IP) (hn : n ≤ 1000) (hf : Fit n s) (hp : One p) :
  Ev (fun k => spec_l3Add.f k (allP s) p.f0 p.f1 p.f2) (allP (takeP s (toP p))) ∧ Fit (n + 1) (takeP s (toP p)) := by
 obtain ⟨l, a, b⟩ := s
 obtain ⟨f1, f2, f3, f4⟩ := hf
 obtain ⟨p0, p1, p2⟩ := p
 obtain ⟨q1, q2, q3, q4, q5, q6⟩ := hp
 simp only at f1 f2 f3 f4 q1 q2 q3 q4 q5 q6
 have hel := endL_len a b
 by_cases h0 : p0 = 0
 ·-- nothing is kept
  subst h0
  have et : takeP (l, a, b) (toP ⟨0, p1, p2⟩) = (l, a ++ p1, b ++ p2) := rfl
  rw [et]
  refine ⟨?_, ?_⟩
  ·unfold allP
   simp only
   by_cases h1 : p1.size = 0
   ·by_cases h2 : p2.size = 0
    ·rw [ba_nil h1, ba_nil h2, ba_app, ba_app]
     exact add_none _ ⟨0, ⟨#[]⟩, ⟨#[]⟩⟩ rfl rfl rfl
    ·rw [ba_nil h1, ba_app]
     by_cases hb : b.size = 0
     ·rw [ba_nil hb, show (⟨#[]⟩ : ByteArray) ++ p2 = p2 by apply ByteArray.ext; rw [ByteArray.data_append]; simp]
      by_cases ha : a.size = 0
      ·rw [endL_00 ha sz0, endL_01 ha h2, List.append_nil, List.map_append]
       rcases f1 with e | ⟨m, x, e, hx, _⟩
       ·rw [e]; exact add_first ⟨0, ⟨#[]⟩, p2⟩ (.inr (.inr h2))
       ·rw [e, List.map_append]
        have := add_apart (m.map ofP) (ofP (x, ⟨#[]⟩, ⟨#[]⟩)) ⟨0, ⟨#[]⟩, p2⟩ (by rw [e] at f2; simp at f2 ⊢; omega) (.inr (.inr h2)) (by simp) (by simp [ofP, sz0]) (by simp [sz0]) (by simp [sz0])
        rw [List.append_assoc]; exact this
      ·rw [endL_10 ha sz0, endL_11 ha h2, List.map_append, List.map_append]
       exact add_apart (l.map ofP) (ofP (0, a, ⟨#[]⟩)) ⟨0, ⟨#[]⟩, p2⟩ (by rw [List.length_map]; omega) (.inr (.inr h2)) (by simp) (by simp [ofP, sz0]) (by simp [sz0]) (by simp [sz0])
     ·have hb2 : (b ++ p2).size ≠ 0 := by rw [ba_len_app]; omega
      by_cases ha : a.size = 0
      ·rw [endL_01 ha hb, endL_01 ha hb2, List.map_append, List.map_append]
       exact add_drop (l.map ofP) (ofP (0, ⟨#[]⟩, b)) ⟨0, ⟨#[]⟩, p2⟩ (by rw [List.length_map]; omega) (by simp) ⟨h2, hb⟩ (by simp only [ofP]; omega)
      ·rw [endL_11 ha hb, endL_11 ha hb2, List.map_append, List.map_append]
       have := add_drop (l.map ofP ++ [ofP (0, a, ⟨#[]⟩)]) (ofP (0, ⟨#[]⟩, b)) ⟨0, ⟨#[]⟩, p2⟩ (by rw [List.length_append, List.length_map, List.length_singleton]; omega) (by simp) ⟨h2, hb⟩ (by simp only [ofP]; omega)
       rw [List.append_assoc, List.append_assoc] at this; exact this
   ·have h2 : p2.size = 0 := by omega
    rw [ba_nil h2, ba_app]
    by_cases ha : a.size = 0
    ·rw [ba_nil ha, show (⟨#[]⟩ : ByteArray) ++ p1 = p1 by apply ByteArray.ext; rw [ByteArray.data_append]; simp]
     by_cases hb : b.size = 0
     ·rw [endL_00 sz0 hb, endL_10 h1 hb, List.append_nil, List.map_append]
      rcases f1 with e | ⟨m, x, e, hx, _⟩
      ·rw [e]; exact add_first ⟨0, p1, ⟨#[]⟩⟩ (.inr (.inl h1))
      ·rw [e, List.map_append]
       have := add_apart (m.map ofP) (ofP (x, ⟨#[]⟩, ⟨#[]⟩)) ⟨0, p1, ⟨#[]⟩⟩ (by rw [e] at f2; simp at f2 ⊢; omega) (.inr (.inl h1)) (by simp) (by simp [ofP, sz0]) (by simp [ofP, sz0]) (by simp [ofP, sz0])
       rw [List.append_assoc]; exact this
     ·rw [endL_01 sz0 hb, endL_11 h1 hb, List.map_append, List.map_append]
      rcases f1 with e | ⟨m, x, e, hx, _⟩
      ·rw [e]; exact add_ahead1 (ofP (0, ⟨#[]⟩, b)) ⟨0, p1, ⟨#[]⟩⟩ (by simp) (by simp [sz0]) (by simp [ofP, sz0]) ⟨h1, hb⟩
      ·rw [e, List.map_append]
       have := add_ahead2 (m.map ofP) (ofP (x, ⟨#[]⟩, ⟨#[]⟩)) (ofP (0, ⟨#[]⟩, b)) ⟨0, p1, ⟨#[]⟩⟩ (by rw [e] at f2; simp at f2 ⊢; omega) (by simp) (by simp [sz0]) (by simp [ofP, sz0]) ⟨h1, hb⟩ (by simp only [ofP, sz0]; omega)
       rw [if_pos (by rfl)] at this
       rw [List.append_assoc, List.append_assoc]; exact this
    ·have ha2 : (a ++ p1).size ≠ 0 := by rw [ba_len_app]; omega
     by_cases hb : b.size = 0
     ·rw [endL_10 ha hb, endL_10 ha2 hb, List.map_append, List.map_append]
      exact add_put (l.map ofP) (ofP (0, a, ⟨#[]⟩)) ⟨0, p1, ⟨#[]⟩⟩ (by rw [List.length_map]; omega) (by simp) (by simp [sz0]) ⟨h1, ha⟩ (by simp only [ofP]; omega)
     ·rw [endL_11 ha hb, endL_11 ha2 hb, List.map_append, List.map_append]
      have := add_ahead2 (l.map ofP) (ofP (0, a, ⟨#[]⟩)) (ofP (0, ⟨#[]⟩, b)) ⟨0, p1, ⟨#[]⟩⟩ (by rw [List.length_map]; omega) (by simp) (by simp [sz0]) (by simp [ofP, sz0]) ⟨h1, hb⟩ (by simp only [ofP]; omega)
      rw [if_neg (by simp only [ofP]; exact ha)] at this
      exact this
  ·refine ⟨?_, by show l.length ≤ _; omega, by show (a ++ p1).size ≤ _; rw [ba_len_app]; omega, by show (b ++ p2).size ≤ _; rw [ba_len_app]; omega⟩
   rcases f1 with e | ⟨m, x, e, hx, hx2⟩
   ·exact .inl e
   ·exact .inr ⟨m, x, e, hx, by omega⟩
 ·-- bytes are kept
  obtain ⟨h1, h2⟩ := q5.resolve_left h0
  have hk : keepS l a b p0 = (keepA (l ++ endL a b) p0, ⟨#[]⟩, ⟨#[]⟩) := by unfold keepS; rw [if_neg h0]
  have et : takeP (l, a, b) (toP ⟨p0, p1, p2⟩) = (keepA (l ++ endL a b) p0, ⟨#[]⟩, ⟨#[]⟩) := by
   unfold takeP toP
   simp only [hk]
   rw [ba_nil h1, ba_nil h2, ba_app]
  rw [et, ba_nil h1, ba_nil h2]
  have hq : ∀ (M : List Pt) (q : Pt), l ++ endL a b = M ++ [q] → q.1 ≤ 300 * (n : Int) → (q.1 > 0 → q.2.1 = ⟨#[]⟩ ∧ q.2.2 = ⟨#[]⟩) →
    Ev (fun k => spec_l3Add.f k (allP (l, a, b)) p0 ⟨#[]⟩ ⟨#[]⟩) (allP (keepA (l ++ endL a b) p0, ⟨#[]⟩, ⟨#[]⟩)) ∧ Fit (n + 1) (keepA (l ++ endL a b) p0, ⟨#[]⟩, ⟨#[]⟩) := by
   intro M q e hq1 hq2
   have hML : M.length + 1 ≤ 3 * n + 2 := by
    have := congrArg List.length e
    rw [List.length_append, List.length_append, List.length_singleton] at this
    omega
   unfold allP
   simp only
   rw [endL_00 sz0 sz0, List.append_nil, e, keepA_app]
   by_cases hx : q.1 > 0
   ·rw [if_pos hx, List.map_append, List.map_append]
    refine ⟨add_keep (M.map ofP) (ofP q) ⟨p0, ⟨#[]⟩, ⟨#[]⟩⟩ (by rw [List.length_map]; omega) ⟨by simp only; omega, hx⟩, ?_⟩
    rw [wrap_id (by omega) (by omega)]
    obtain ⟨e1, e2⟩ := hq2 hx
    refine ⟨.inr ⟨M, q.1 + p0, by rw [e1, e2], by omega, by omega⟩, ?_, Nat.zero_le _, Nat.zero_le _⟩
    simp only [List.length_append, List.length_cons, List.length_nil]; omega
   ·rw [if_neg hx, List.map_append, List.map_append]
    refine ⟨add_apart (M.map ofP) (ofP q) ⟨p0, ⟨#[]⟩, ⟨#[]⟩⟩ (by rw [List.length_map]; omega) (.inl (by simp only; omega)) (fun c => hx c.2) (by simp [sz0]) (by simp [sz0]) (by simp [sz0]), ?_⟩
    refine ⟨.inr ⟨M ++ [q], p0, by rw [List.append_assoc]; rfl, by omega, by omega⟩, ?_, Nat.zero_le _, Nat.zero_le _⟩
    simp only [List.length_append, List.length_cons, List.length_nil]; omega
  by_cases ha : a.size = 0
  ·by_cases hb : b.size = 0
   ·rcases f1 with e | ⟨m, x, e, hx, hx2⟩
    ·subst e
     unfold allP
     rw [endL_00 ha hb]
     simp only [List.nil_append, List.map_nil]
     rw [endL_00 sz0 sz0]
     refine ⟨add_first ⟨p0, ⟨#[]⟩, ⟨#[]⟩⟩ (.inl h0), ⟨.inr ⟨[], p0, rfl, by omega, by omega⟩, by show 1 ≤ _; omega, Nat.zero_le _, Nat.zero_le _⟩⟩
    ·exact hq m (x, ⟨#[]⟩, ⟨#[]⟩) (by rw [endL_00 ha hb, List.append_nil]; exact e) (by simp only; omega) (fun _ => ⟨rfl, rfl⟩)
   ·exact hq l (0, ⟨#[]⟩, b) (by rw [endL_01 ha hb]) (by simp only; omega) (fun c => absurd c (by simp))
  ·by_cases hb : b.size = 0
   ·exact hq l (0, a, ⟨#[]⟩) (by rw [endL_10 ha hb]) (by simp only; omega) (fun c => absurd c (by simp))
   ·exact hq (l ++ [(0, a, ⟨#[]⟩)]) (0, ⟨#[]⟩, b) (by rw [endL_11 ha hb, List.append_assoc]; rfl) (by simp only; omega) (fun c => absurd c (by simp))
theorem fit_zero : Fit 0 ([], (⟨#[]⟩ : ByteArray), (⟨#[]⟩ : ByteArray)) := ⟨.inl rfl, Nat.le_refl _, Nat.le_refl _, Nat.le_refl _⟩
def normI (l : List IP) : List IP := (normP (l.map toP)).map ofP
theorem one_guard (l : List IP) (hl : l.length ≤ 60) (hp : ∀ p ∈ l, One p) : l.length ≤ 60 ∧ (l.all fun x => decide (x.f1.size ≤ 300 ∧ x.f2.size ≤ 300)) = true :=
 ⟨hl, List.all_eq_true.2 fun x hx => decide_eq_true ⟨(hp x hx).2.2.1, (hp x hx).2.2.2.1⟩⟩
theorem impl_normal_f (l : List IP) (hl : l.length ≤ 60) (hp : ∀ p ∈ l, One p) : impl_normal.f l = some (normI l) := by
 unfold impl_normal.f
 rw [if_pos (one_guard l hl hp)]; rfl
theorem spec_l1In_f (a b c : Int) : spec_l1In.f a b c = some (decide (b ≤ a ∧ a ≤ c)) := by
 unfold spec_l1In.f; split <;> simp <;> omega
theorem spec_l1Open_f (c : Int) : spec_l1Open.f c = some (openB c) := by
 unfold spec_l1Open.f openB; split <;> simp <;> omega
theorem spec_l1Plain_f (c : Int) : spec_l1Plain.f c = some (plainB c) := by
 unfold spec_l1Plain.f plainB
 repeat' split
 all_goals (rw [Option.some.injEq, Bool.eq_iff_iff]; simp only [Bool.or_eq_true, decide_eq_true_eq, beq_iff_eq, true_iff]; omega)
theorem spec_l1Text_l (s : ByteArray) (hs : s.size ≤ 140737488351232) (d : Nat) : ∀ i : Nat, i + d = s.size → Ev (fun k => spec_l1Text.l0 k s (i : Int)) (textB ((bytesOf s).drop i)) := by
 induction d with
 | zero =>
  intro i hi
  refine Ev.step (fun k => by rw [spec_l1Text.l0]) ?_
  refine ev_neg (by omega) (ev_ret ?_)
  rw [drop_end s i (by omega)]; rfl
 | succ d ih =>
  intro i hi
  refine Ev.step (fun k => by rw [spec_l1Text.l0]) ?_
  refine ev_pos (by omega) (ev_pos (by omega) (ev_eq (spec_l1Open_f _) ?_))
  rw [drop_bytes s i (by omega), wrap_succ i (by omega)]
  have ih' := ih (i + 1) (by omega)
  refine ev_if (fun h => ev_val ih' (by simp [textB, okB, h])) (fun h => ?_)
  refine ev_eq (spec_l1Plain_f _) (ev_if (fun h2 => ev_val ih' (by simp [textB, okB, h2])) (fun h2 => ?_))
  refine ev_if (fun h3 => ev_val ih' (by simp [textB, okB, h3])) (fun h3 => ev_ret ?_)
  simp [textB, okB, h, h2, h3]
theorem spec_l1Text_f (s : ByteArray) (hs : s.size ≤ 140737488351232) : Ev (fun k => spec_l1Text.f k s) (textB (bytesOf s)) :=
 spec_l1Text_l s hs s.size 0 (by omega)
theorem spec_GoodText_f (s : ByteArray) (hs : s.size ≤ 140737488351232) : Ev (fun k => spec_GoodText.f k s) (goodB (bytesOf s)) := by
 unfold spec_GoodText.f goodB
 refine Ev.bind (spec_l1Text_f s hs) (ev_if (fun h => ev_ret ?_) (fun h => ev_ret ?_))
 ·rw [h, bytesOf_length, Bool.true_and]; congr 1; simp; omega
 ·simp at h; simp [h]
theorem impl_isName_f (c : Int) : impl_isName.f c = some (openB c) := by
 unfold impl_isName.f openB; split <;> simp <;> omega
theorem impl_isPlain_f (c : Int) : impl_isPlain.f c = some (plainB c) := by
 unfold impl_isPlain.f plainB
 repeat' split
 all_goals (rw [Option.some.injEq, Bool.eq_iff_iff]; simp only [Bool.or_eq_true, decide_eq_true_eq, beq_iff_eq, true_iff]; omega)
theorem impl_GoodText_l (s : ByteArray) (hs : s.size ≤ 140737488351232) (d : Nat) : ∀ i : Nat, i + d = s.size → Ev (fun k => impl_GoodText.l0 k s (s.size : Int) (i : Int)) (textB ((bytesOf s).drop i) && decide (s.size ≤ 300)) := by
 induction d with
 | zero =>
  intro i hi
  refine Ev.step (fun k => by rw [impl_GoodText.l0]) ?_
  refine ev_neg (by omega) (ev_ret ?_)
  rw [drop_end s i (by omega)]; simp [textB]; omega
 | succ d ih =>
  intro i hi
  refine Ev.step (fun k => by rw [impl_GoodText.l0]) ?_
  refine ev_pos (by omega) (ev_pos (by omega) (ev_pos (by omega) (ev_eq (impl_isName_f _) ?_)))
  rw [drop_bytes s i (by omega), wrap_succ i (by omega)]
  have ih' := ih (i + 1) (by omega)
  refine ev_if (fun h => ev_val ih' (by simp [textB, okB, h])) (fun h => ?_)
  refine ev_eq (impl_isPlain_f _) (ev_if (fun h2 => ev_val ih' (by simp [textB, okB, h2])) (fun h2 => ?_))
  refine ev_if (fun h3 => ev_val ih' (by simp [textB, okB, h3])) (fun h3 => ev_ret ?_)
  simp [textB, okB, h, h2, h3]
theorem impl_GoodText_f (s : ByteArray) (hs : s.size ≤ 140737488351232) : Ev (fun k => impl_GoodText.f k s) (goodB (bytesOf s)) := by
 unfold impl_GoodText.f
 refine ev_val (impl_GoodText_l s hs s.size 0 (by omega)) ?_
 simp [goodB, bytesOf_length]
def partB (p : IP) : Bool := if p.f0 = 0 then (if p.f1.toList = ([] : List UInt8) then (if p.f2.toList = ([] : List UInt8) then false else goodB (bytesOf p.f2)) else (if p.f2.toList = ([] : List UInt8) then goodB (bytesOf p.f1) else false)) else (decide (1 ≤ p.f0 ∧ p.f0 ≤ 300) && (decide (p.f1.toList = ([] : List UInt8)) && (p.f2.toList == ([] : List UInt8))))
theorem spec_l3Part_f (p : IP) (h1 : p.f1.size ≤ 140737488351232) (h2 : p.f2.size ≤ 140737488351232) : Ev (fun k => spec_l3Part.f k p.f0 p.f1 p.f2) (partB p) := by
 unfold spec_l3Part.f partB
 by_cases c0 : p.f0 = 0
 ·rw [if_pos c0]
  refine ev_pos c0 ?_
  by_cases c1 : p.f1.toList = ([] : List UInt8)
  ·rw [if_pos c1]
   refine ev_pos c1 ?_
   by_cases c2 : p.f2.toList = ([] : List UInt8)
   ·rw [if_pos c2]; exact ev_pos c2 (ev_ret rfl)
   ·rw [if_neg c2]; exact ev_neg c2 (Ev.bind (spec_GoodText_f _ h2) (ev_ret rfl))
  ·rw [if_neg c1]
   refine ev_neg c1 ?_
   by_cases c2 : p.f2.toList = ([] : List UInt8)
   ·rw [if_pos c2]; exact ev_pos c2 (Ev.bind (spec_GoodText_f _ h1) (ev_ret rfl))
   ·rw [if_neg c2]; exact ev_neg c2 (ev_ret rfl)
 ·rw [if_neg c0]
  refine ev_neg c0 (ev_eq (spec_l1In_f _ _ _) ?_)
  refine ev_if (fun h => ?_) (fun h => ev_ret (by rw [Bool.not_eq_true] at h; rw [h]; rfl))
  rw [h, Bool.true_and]
  exact ev_if (fun h1 => ev_ret (by rw [decide_eq_true h1, Bool.true_and])) (fun h1 => ev_ret (by rw [decide_eq_false h1]; rfl))
theorem impl_Part_isPart_f (p : IP) (h1 : p.f1.size ≤ 140737488351232) (h2 : p.f2.size ≤ 140737488351232) : Ev (fun k => impl_Part_isPart.f k p.f0 p.f1 p.f2) (partB p) := by
 unfold impl_Part_isPart.f partB
 by_cases c0 : p.f0 = 0
 ·rw [if_pos c0]
  refine ev_pos c0 ?_
  by_cases c1 : p.f1.toList = ([] : List UInt8)
  ·rw [if_pos c1]
   refine ev_pos c1 ?_
   by_cases c2 : p.f2.toList = ([] : List UInt8)
   ·rw [if_pos c2]; exact ev_pos c2 (ev_ret rfl)
   ·rw [if_neg c2]; exact ev_neg c2 (Ev.bind (impl_GoodText_f _ h2) (ev_ret rfl))
  ·rw [if_neg c1]
   refine ev_neg c1 ?_
   by_cases c2 : p.f2.toList = ([] : List UInt8)
   ·rw [if_pos c2]; exact ev_pos c2 (Ev.bind (impl_GoodText_f _ h1) (ev_ret rfl))
   ·rw [if_neg c2]; exact ev_neg c2 (ev_ret rfl)
 ·rw [if_neg c0]
  refine ev_neg c0 ?_
  refine ev_if (fun h => ?_) (fun h => ev_ret (by rw [decide_eq_false (by omega)]; rfl))
  refine ev_if (fun h' => ?_) (fun h' => ev_ret (by rw [decide_eq_false (by omega)]; rfl))
  rw [decide_eq_true (show 1 ≤ p.f0 ∧ p.f0 ≤ 300 from ⟨h, h'⟩), Bool.true_and]
  exact ev_if (fun h1 => ev_ret (by rw [decide_eq_true h1, Bool.true_and])) (fun h1 => ev_ret (by rw [decide_eq_false h1]; rfl))
def tkS : List IP → Int → Int
 | [], a => a
 | p :: r, a => tkS r (wrap64 (a + wrap64 (p.f0 + (p.f2.size : Int))))
def mkS : List IP → Int → Int
 | [], a => a
 | p :: r, a => mkS r (wrap64 (a + wrap64 (p.f0 + (p.f1.size : Int))))
theorem spec_l3Sizes_l (l : List IP) (hl : l.length ≤ 1048576) (d : Nat) : ∀ (i : Nat) (a b : Int), i + d = l.length →
  Ev (fun k => spec_l3Sizes.l0 k a b l (l.length : Int) (i : Int)) (tkS (l.drop i) a, mkS (l.drop i) b) := by
 induction d with
 | zero =>
  intro i a b hi
  refine Ev.step (fun k => by rw [spec_l3Sizes.l0]) ?_
  refine ev_neg (by omega) (ev_ret ?_)
  rw [List.drop_eq_nil_of_le (by omega)]; rfl
 | succ d ih =>
  intro i a b hi
  refine Ev.step (fun k => by rw [spec_l3Sizes.l0]) ?_
  refine ev_pos (by omega) (ev_pos (by omega) (ev_pos (by omega) ?_))
  rw [gt_drop izP l i (by omega), wrap_succ i (by omega)]
  exact ih (i + 1) _ _ (by omega)
theorem spec_l3Sizes_f (l : List IP) (hl : l.length ≤ 1048576) : Ev (fun k => spec_l3Sizes.f k l) (tkS l 0, mkS l 0) := by
 unfold spec_l3Sizes.f
 exact spec_l3Sizes_l l hl l.length 0 0 0 (by omega)
theorem impl_sizes_l (l : List IP) (hl : l.length ≤ 1048576) (d : Nat) : ∀ (i : Nat) (a b : Int), i + d = l.length →
  Ev (fun k => impl_sizes.l0 k a b l (l.length : Int) (i : Int)) (tkS (l.drop i) a, mkS (l.drop i) b) := by
 induction d with
 | zero =>
  intro i a b hi
  refine Ev.step (fun k => by rw [impl_sizes.l0]) ?_
  refine ev_neg (by omega) (ev_ret ?_)
  rw [List.drop_eq_nil_of_le (by omega)]; rfl
 | succ d ih =>
  intro i a b hi
  refine Ev.step (fun k => by rw [impl_sizes.l0]) ?_
  refine ev_pos (by omega) (ev_pos (by omega) (ev_pos (by omega) ?_))
  rw [gt_drop izP l i (by omega), wrap_succ i (by omega)]
  exact ih (i + 1) _ _ (by omega)
theorem impl_sizes_f (l : List IP) (hl : l.length ≤ 1048576) : Ev (fun k => impl_sizes.f k l) (tkS l 0, mkS l 0) := by
 unfold impl_sizes.f
 exact impl_sizes_l l hl l.length 0 0 0 (by omega)
def goodO (l : List IP) : Bool := decide (l.length ≤ 60) && (l.all partB && decide (tkS l 0 ≤ 300 ∧ mkS l 0 ≤ 300))
theorem goodO_len {l : List IP} (h : ¬ l.length ≤ 60) : goodO l = false := by unfold goodO; rw [decide_eq_false h]; rfl
theorem goodO_part {l : List IP} {p : IP} (hp : p ∈ l) (h : partB p = false) : goodO l = false := by
 unfold goodO
 have : l.all partB = false := by
  rw [Bool.eq_false_iff]; intro e
  rw [List.all_eq_true] at e
  rw [e p hp] at h; cases h
 rw [this]; simp
theorem spec_GoodOp_l (l : List IP) (hl : l.length ≤ 60) (hw : ∀ x ∈ l, x.f1.size ≤ 1048576 ∧ x.f2.size ≤ 1048576) (d : Nat) : ∀ i : Nat, i + d = l.length →
  (l.take i).all partB = true → Ev (fun k => spec_GoodOp.l0 k l l (l.length : Int) (i : Int)) (goodO l) := by
 induction d with
 | zero =>
  intro i hi hg
  refine Ev.step (fun k => by rw [spec_GoodOp.l0]) ?_
  rw [List.take_of_length_le (by omega)] at hg
  have e : goodO l = decide (tkS l 0 ≤ 300 ∧ mkS l 0 ≤ 300) := by unfold goodO; rw [hg, decide_eq_true hl]; rfl
  rw [e]
  refine ev_neg (by omega) (Ev.bind (spec_l3Sizes_f l (by omega)) ?_)
  exact ev_if (fun h => ev_ret (decide_eq_decide.2 (by constructor <;> intro q; exact ⟨h, q⟩; exact q.2))) (fun h => ev_ret (by rw [decide_eq_false (fun q => h q.1)]))
 | succ d ih =>
  intro i hi hg
  have hm := hw _ (gt_mem izP l i (by omega))
  refine Ev.step (fun k => by rw [spec_GoodOp.l0]) ?_
  refine ev_pos (by omega) (ev_pos (by omega) (ev_pos (by omega) ?_))
  rw [wrap_succ i (by omega)]
  simp only [rd_ip]
  refine Ev.bind (spec_l3Part_f _ (by omega) (by omega)) (ev_if (fun h => ?_) (fun h => ev_ret (goodO_part (gt_mem izP l i (by omega)) (by simpa using h)).symm))
  refine ih (i + 1) (by omega) ?_
  rw [gt_take izP l i (by omega), List.all_append, hg]
  simp [h]
theorem spec_GoodOp_f (l : List IP) (hw : ∀ x ∈ l, x.f1.size ≤ 1048576 ∧ x.f2.size ≤ 1048576) : Ev (fun k => spec_GoodOp.f k l) (goodO l) := by
 unfold spec_GoodOp.f
 refine ev_if (fun h => ev_ret (goodO_len (by omega)).symm) (fun h => ?_)
 exact spec_GoodOp_l l (by omega) hw l.length 0 (by omega) rfl
theorem idxBad_f (l : List IP) (hw : ∀ x ∈ l, x.f1.size ≤ 1048576 ∧ x.f2.size ≤ 1048576) : ∀ n : Int, 0 ≤ n → ∃ v : Int, Ev (fun k => idxBad k l n) v ∧ (v ≥ 0 ↔ l.all partB = false) := by
 induction l with
 | nil => exact fun n _ => ⟨-1, by unfold idxBad; exact ev_ret rfl, by simp⟩
 | cons p r ih =>
  intro n hn
  have hm := hw p (List.mem_cons_self ..)
  obtain ⟨v, hv, hb⟩ := ih (fun x hx => hw x (List.mem_cons_of_mem _ hx)) (n + 1) (by omega)
  have hp : Ev (fun k => impl_GoodOp_1.f k p.f0 p.f1 p.f2) (!(partB p)) := by unfold impl_GoodOp_1.f; exact Ev.bind (impl_Part_isPart_f p (by omega) (by omega)) (ev_ret rfl)
  by_cases c : partB p = true
  ·refine ⟨v, ?_, by rw [hb, List.all_cons, c, Bool.true_and]⟩
   unfold idxBad
   refine Ev.bind hp (ev_neg (by rw [c]; simp) hv)
  ·rw [Bool.not_eq_true] at c
   refine ⟨n, ?_, by rw [List.all_cons, c]; simp; omega⟩
   unfold idxBad
   exact Ev.bind hp (ev_pos (by rw [c]; rfl) (ev_ret rfl))
theorem impl_GoodOp_f (l : List IP) (hw : ∀ x ∈ l, x.f1.size ≤ 1048576 ∧ x.f2.size ≤ 1048576) : Ev (fun k => impl_GoodOp.f k l) (goodO l) := by
 unfold impl_GoodOp.f
 refine ev_if (fun h => ev_ret (goodO_len (by omega)).symm) (fun h => ?_)
 obtain ⟨v, hv, hb⟩ := idxBad_f l hw 0 (by omega)
 refine Ev.bind hv (ev_if (fun c => ev_ret ?_) (fun c => Ev.bind (impl_sizes_f l (by omega)) ?_))
 ·unfold goodO; rw [hb.1 c]; simp
 ·have hg : l.all partB = true := by
   by_cases q : l.all partB = true
   ·exact q
   ·exact absurd (hb.2 (by simpa using q)) c
  have e : goodO l = decide (tkS l 0 ≤ 300 ∧ mkS l 0 ≤ 300) := by unfold goodO; rw [hg, decide_eq_true (by omega : l.length ≤ 60)]; rfl
  rw [e]
  exact ev_if (fun h => ev_ret (decide_eq_decide.2 (by constructor <;> intro q; exact ⟨h, q⟩; exact q.2))) (fun h => ev_ret (by rw [decide_eq_false (fun q => h q.1)]))
theorem goodB_size' {s : ByteArray} (h : goodB (bytesOf s) = true) : s.size ≤ 300 := by
 unfold goodB at h
 rw [Bool.and_eq_true, bytesOf_length] at h
 exact of_decide_eq_true h.2
theorem part_facts {p : IP} (h : partB p = true) : 0 ≤ p.f0 ∧ p.f0 ≤ 300 ∧ p.f1.size ≤ 300 ∧ p.f2.size ≤ 300 ∧ (p.f0 = 0 ∨ p.f2.size = 0) := by
 unfold partB at h
 by_cases c0 : p.f0 = 0
 ·rw [if_pos c0] at h
  by_cases c1 : p.f1.toList = ([] : List UInt8)
  ·rw [if_pos c1] at h
   rw [toList_nil] at c1
   by_cases c2 : p.f2.toList = ([] : List UInt8)
   ·rw [if_pos c2] at h; cases h
   ·rw [if_neg c2] at h
    have := goodB_size' h
    exact ⟨by omega, by omega, by omega, by omega, Or.inl c0⟩
  ·rw [if_neg c1] at h
   by_cases c2 : p.f2.toList = ([] : List UInt8)
   ·rw [if_pos c2] at h
    rw [toList_nil] at c2
    have := goodB_size' h
    exact ⟨by omega, by omega, by omega, by omega, Or.inl c0⟩
   ·rw [if_neg c2] at h; cases h
 ·rw [if_neg c0, Bool.and_eq_true, Bool.and_eq_true] at h
  obtain ⟨a, b, c⟩ := h
  have a := of_decide_eq_true a
  have b := (toList_nil _).1 (of_decide_eq_true b)
  have c := (toList_nil _).1 (by simpa using c)
  exact ⟨by omega, by omega, by omega, by omega, Or.inr c⟩
theorem goodO_facts {l : List IP} (h : goodO l = true) : l.length ≤ 60 ∧ (∀ p ∈ l, partB p = true) ∧ tkS l 0 ≤ 300 ∧ mkS l 0 ≤ 300 := by
 unfold goodO at h
 rw [Bool.and_eq_true, Bool.and_eq_true, List.all_eq_true] at h
 have a := of_decide_eq_true h.1
 have b := of_decide_eq_true h.2.2
 exact ⟨a, h.2.1, b.1, b.2⟩
theorem part_one {p : IP} (h : partB p = true) : One p := by
 obtain ⟨a1, a2, a3, a4, a5⟩ := part_facts h
 refine ⟨a1, a2, a3, a4, ?_, ?_⟩
 ·unfold partB at h
  by_cases c0 : p.f0 = 0
  ·exact .inl c0
  ·rw [if_neg c0, Bool.and_eq_true, Bool.and_eq_true] at h
   exact .inr ⟨(toList_nil _).1 (of_decide_eq_true h.2.1), a5.resolve_left c0⟩
 ·unfold partB at h
  by_cases c0 : p.f0 = 0
  ·rw [if_pos c0] at h
   by_cases c1 : p.f1.toList = ([] : List UInt8)
   ·exact .inl ((toList_nil _).1 c1)
   ·rw [if_neg c1] at h
    by_cases c2 : p.f2.toList = ([] : List UInt8)
    ·exact .inr ((toList_nil _).1 c2)
    ·rw [if_neg c2] at h; cases h
  ·exact .inr (a5.resolve_left c0)
def dropL : List IP → List Int
 | [] => []
 | p :: r => (List.replicate p.f0.toNat 0 ++ bytesOf p.f2) ++ dropL r
theorem dropL_len : ∀ (l : List IP), (∀ p ∈ l, partB p = true) → (dropL l).length ≤ 600 * l.length
 | [], _ => by simp [dropL]
 | p :: r, h => by
  obtain ⟨f1, f2, f3, f4, f5⟩ := part_facts (h p (List.mem_cons_self ..))
  have := dropL_len r (fun x hx => h x (List.mem_cons_of_mem _ hx))
  simp only [dropL, List.length_append, List.length_replicate, bytesOf_length, List.length_cons]
  omega
abbrev Seg := ByteArray × ByteArray × Int
/-- A normal change, by what it keeps: what is put and dropped ahead of each. -/
def flatS (l : List Seg) : List Pt := l.flatMap (fun s => endL s.1 s.2.1 ++ [(s.2.2, (⟨#[]⟩ : ByteArray), (⟨#[]⟩ : ByteArray))])
def byteS (l : List Seg) : List Int := l.flatMap (fun s => bytesOf s.2.1 ++ List.replicate s.2.2.toNat 0)
theorem flatS_app (a b : List Seg) : flatS (a ++ b) = flatS a ++ flatS b := by simp [flatS]
theorem flatS_cons (s : Seg) (b : List Seg) : flatS (s :: b) = endL s.1 s.2.1 ++ (s.2.2, (⟨#[]⟩ : ByteArray), (⟨#[]⟩ : ByteArray)) :: flatS b := by simp [flatS]
theorem bytesOf_app (a b : ByteArray) : bytesOf (a ++ b) = bytesOf a ++ bytesOf b := by unfold bytesOf; rw [ByteArray.data_append]; simp
theorem bytesOf_nil {s : ByteArray} (h : s.size = 0) : bytesOf s = [] := by
 rw [← List.length_eq_zero_iff, bytesOf_length]; exact h
def NZ (s : ByteArray) : Prop := ∀ x ∈ bytesOf s, x ≠ 0
structure SegOk (n : Nat) (s : Seg) : Prop where
 put : s.1.size ≤ 300 * n
 drop : s.2.1.size ≤ 300 * n
 nz : NZ s.2.1
 pos : 0 < s.2.2
 top : s.2.2 ≤ 300 * (n : Int)
theorem SegOk.more {n : Nat} {s : Seg} (h : SegOk n s) : SegOk (n + 1) s := by
 obtain ⟨a, b, c, d, e⟩ := h
 exact ⟨by omega, by omega, c, d, by omega⟩
structure SegIs (n : Nat) (l : List IP) (s : List Pt × ByteArray × ByteArray) (g : List Seg) : Prop where
 flat : s.1 = flatS g
 ok : ∀ x ∈ g, SegOk n x
 put : s.2.1.size ≤ 300 * n
 drop : s.2.2.size ≤ 300 * n
 nz : NZ s.2.2
 bytes : byteS g ++ bytesOf s.2.2 = dropL l
 len : g.length ≤ n
theorem keepA_end (L : List Pt) (a b : ByteArray) (x : Int) (h : a.size ≠ 0 ∨ b.size ≠ 0) : keepA (L ++ endL a b) x = L ++ (endL a b ++ [(x, (⟨#[]⟩ : ByteArray), (⟨#[]⟩ : ByteArray))]) := by
 have z : ∀ (M : List Pt) (q : Pt), q.1 = 0 → keepA (M ++ [q]) x = M ++ ([q] ++ [(x, (⟨#[]⟩ : ByteArray), (⟨#[]⟩ : ByteArray))]) := fun M q hq => by rw [keepA_app, if_neg (by omega)]; rfl
 by_cases ha : a.size = 0
 ·have hb : b.size ≠ 0 := by omega
  rw [endL_01 ha hb]; exact z L _ rfl
 ·by_cases hb : b.size = 0
  ·rw [endL_10 ha hb]; exact z L _ rfl
  ·rw [endL_11 ha hb]
   have := z (L ++ [(0, a, ⟨#[]⟩)]) (0, ⟨#[]⟩, b) rfl
   rw [List.append_assoc, List.append_assoc] at this
   exact this
def nP (p : IP) : Nat := p.f0.toNat + p.f2.size
def tsum : List IP → Nat
 | [] => 0
 | p :: r => nP p + tsum r
theorem nP_le {p : IP} (h : partB p = true) : nP p ≤ 600 := by
 obtain ⟨f1, f2, f3, f4, f5⟩ := part_facts h
 unfold nP; omega
theorem wrap_nP {p : IP} (h : partB p = true) : wrap64 (p.f0 + (p.f2.size : Int)) = (nP p : Int) := by
 obtain ⟨f1, f2, f3, f4, f5⟩ := part_facts h
 rw [wrap_id (by omega) (by omega)]; unfold nP; omega
theorem tkS_is : ∀ (l : List IP), (∀ p ∈ l, partB p = true) → ∀ a : Nat, a + 600 * l.length ≤ 4611686018427387904 → tkS l (a : Int) = ((a + tsum l : Nat) : Int)
 | [], _, a, _ => by simp [tkS, tsum]
 | p :: r, h, a, hb => by
  have hp := h p (List.mem_cons_self ..)
  have hn := nP_le hp
  rw [List.length_cons] at hb
  unfold tkS tsum
  rw [wrap_nP hp, show wrap64 ((a : Int) + (nP p : Int)) = ((a + nP p : Nat) : Int) by rw [wrap_id (by omega) (by omega)]; omega, tkS_is r (fun x hx => h x (List.mem_cons_of_mem _ hx)) (a + nP p) (by omega), Nat.add_assoc]
/-- A part turned round. (Where the program's inverted is walked, its text has this too: leave this block out there.) -/
def swS (x : IP) : IP := ⟨x.f0, x.f2, x.f1⟩
abbrev GS := List Seg × ByteArray × ByteArray
/-- One keep more, behind what is put and dropped. -/
def addG (g : List Seg) (a b : ByteArray) (k : Int) : List Seg :=
 if a.size = 0 ∧ b.size = 0 then (match g.getLast? with | some s => g.dropLast ++ [(s.1, s.2.1, s.2.2 + k)] | none => [(a, b, k)]) else g ++ [(a, b, k)]
def stepG (s : GS) (p : IP) : GS := if p.f0 = 0 then (s.1, s.2.1 ++ p.f1, s.2.2 ++ p.f2) else (addG s.1 s.2.1 s.2.2 p.f0, ⟨#[]⟩, ⟨#[]⟩)
def foldG (l : List IP) : GS := l.foldl stepG ([], ⟨#[]⟩, ⟨#[]⟩)
theorem addG_nil {a b : ByteArray} (h : a.size = 0 ∧ b.size = 0) (k : Int) : addG [] a b k = [(a, b, k)] := by unfold addG; rw [if_pos h]; rfl
theorem addG_join {a b : ByteArray} (h : a.size = 0 ∧ b.size = 0) (g : List Seg) (s : Seg) (k : Int) : addG (g ++ [s]) a b k = g ++ [(s.1, s.2.1, s.2.2 + k)] := by
 unfold addG; rw [if_pos h]; simp
theorem addG_new {a b : ByteArray} (h : ¬ (a.size = 0 ∧ b.size = 0)) (g : List Seg) (k : Int) : addG g a b k = g ++ [(a, b, k)] := by unfold addG; rw [if_neg h]
def BdG (B : Int) (g : List Seg) : Prop := ∀ x ∈ g, 0 < x.2.2 ∧ x.2.2 ≤ B
theorem bd_add {B : Int} {g : List Seg} (h : BdG B g) (hB : 0 ≤ B) (a b : ByteArray) (k : Int) (hk : 0 < k) (hk2 : k ≤ 300) : BdG (B + 300) (addG g a b k) := by
 have h' : BdG (B + 300) g := fun x hx => by have := h x hx; omega
 have hn : ∀ u v : ByteArray, 0 < (u, v, k).2.2 ∧ (u, v, k).2.2 ≤ B + 300 := fun u v => by dsimp only; omega
 by_cases c : a.size = 0 ∧ b.size = 0
 ·rcases List.eq_nil_or_concat g with e | ⟨g0, s0, e⟩
  ·subst e
   rw [addG_nil c]
   intro x hx; rw [List.mem_singleton.1 hx]; exact hn _ _
  ·rw [List.concat_eq_append] at e
   subst e
   rw [addG_join c]
   intro x hx
   rcases List.mem_append.1 hx with q | q
   ·exact h' x (List.mem_append_left _ q)
   ·rw [List.mem_singleton.1 q]
    have := h s0 (by simp)
    dsimp only; omega
 ·rw [addG_new c]
  intro x hx
  rcases List.mem_append.1 hx with q | q
  ·exact h' x q
  ·rw [List.mem_singleton.1 q]; exact hn _ _
theorem sim_step {B : Int} {g : List Seg} (h : BdG B g) (hB : 0 ≤ B) (hB2 : B ≤ 1000000000) (a b : ByteArray) (p : IP) (hp : One p) :
  takeP (flatS g, a, b) (toP p) = (flatS (stepG (g, a, b) p).1, (stepG (g, a, b) p).2) ∧ BdG (B + 300) (stepG (g, a, b) p).1 := by
 obtain ⟨p0, p1, p2⟩ := p
 obtain ⟨q1, q2, q3, q4, q5, q6⟩ := hp
 simp only at q1 q2 q3 q4 q5 q6
 by_cases h0 : p0 = 0
 ·subst h0
  exact ⟨rfl, fun x hx => by have := h x hx; omega⟩
 ·obtain ⟨h1, h2⟩ := q5.resolve_left h0
  have es : stepG (g, a, b) ⟨p0, p1, p2⟩ = (addG g a b p0, ⟨#[]⟩, ⟨#[]⟩) := by unfold stepG; rw [if_neg h0]
  have hk : keepS (flatS g) a b p0 = (keepA (flatS g ++ endL a b) p0, ⟨#[]⟩, ⟨#[]⟩) := by unfold keepS; rw [if_neg h0]
  have et : takeP (flatS g, a, b) (toP ⟨p0, p1, p2⟩) = (keepA (flatS g ++ endL a b) p0, ⟨#[]⟩, ⟨#[]⟩) := by
   unfold takeP toP
   simp only [hk]
   rw [ba_nil h1, ba_nil h2, ba_app]
  rw [et, es]
  refine ⟨?_, bd_add h hB a b p0 (by omega) q2⟩
  congr 1
  by_cases c : a.size = 0 ∧ b.size = 0
  ·rw [endL_00 c.1 c.2, List.append_nil]
   rcases List.eq_nil_or_concat g with e | ⟨g0, s0, e⟩
   ·subst e
    rw [addG_nil c, flatS_cons, endL_00 c.1 c.2]; rfl
   ·rw [List.concat_eq_append] at e
    subst e
    have hs := h s0 (by simp)
    rw [addG_join c, flatS_app, flatS_app, flatS_cons, flatS_cons]
    have e1 : flatS g0 ++ (endL s0.1 s0.2.1 ++ (s0.2.2, (⟨#[]⟩ : ByteArray), (⟨#[]⟩ : ByteArray)) :: flatS []) = (flatS g0 ++ endL s0.1 s0.2.1) ++ [(s0.2.2, (⟨#[]⟩ : ByteArray), (⟨#[]⟩ : ByteArray))] := by rw [List.append_assoc]; rfl
    rw [e1, keepA_app, if_pos hs.1, wrap_id (by dsimp only; omega) (by dsimp only; omega), List.append_assoc]; rfl
  ·rw [addG_new c, flatS_app, flatS_cons, keepA_end _ _ _ _ (by omega)]; rfl
theorem sim_fold : ∀ (l : List IP) (g : List Seg) (a b : ByteArray) (B : Int), (∀ p ∈ l, One p) → BdG B g → 0 ≤ B → B + 300 * (l.length : Int) ≤ 1000000000 →
  (l.map toP).foldl takeP (flatS g, a, b) = (flatS (l.foldl stepG (g, a, b)).1, (l.foldl stepG (g, a, b)).2) ∧ BdG (B + 300 * (l.length : Int)) (l.foldl stepG (g, a, b)).1
 | [], g, a, b, B, _, h, hB, hB2 => ⟨rfl, by simpa using h⟩
 | p :: r, g, a, b, B, hp, h, hB, hB2 => by
  rw [List.length_cons] at hB2 ⊢
  obtain ⟨e1, e2⟩ := sim_step h hB (by omega) a b p (hp p (List.mem_cons_self ..))
  obtain ⟨e3, e4⟩ := sim_fold r _ (stepG (g, a, b) p).2.1 (stepG (g, a, b) p).2.2 (B + 300) (fun x hx => hp x (List.mem_cons_of_mem _ hx)) e2 (by omega) (by omega)
  rw [List.map_cons, List.foldl_cons, e1, List.foldl_cons]
  refine ⟨e3, ?_⟩
  have : B + 300 + 300 * (r.length : Int) = B + 300 * ((r.length + 1 : Nat) : Int) := by omega
  rw [← this]; exact e4
/-- The normal change is the fold, laid flat. -/
theorem norm_fold (l : List IP) (hl : l.length ≤ 1000) (hp : ∀ p ∈ l, One p) : normI l = (flatS (foldG l).1 ++ endL (foldG l).2.1 (foldG l).2.2).map ofP ∧ BdG 300000 (foldG l).1 := by
 obtain ⟨e, h⟩ := sim_fold l [] ⟨#[]⟩ ⟨#[]⟩ 0 hp (fun x hx => by cases hx) (Int.le_refl _) (by omega)
 refine ⟨?_, fun x hx => by have := h x hx; omega⟩
 have e0 : flatS [] = [] := rfl
 rw [e0] at e
 unfold normI normP foldG
 rw [e]
def swG (s : GS) : GS := (s.1.map (fun x => (x.2.1, x.1, x.2.2)), s.2.2, s.2.1)
theorem add_sw (g : List Seg) (a b : ByteArray) (k : Int) : addG (g.map (fun x => (x.2.1, x.1, x.2.2))) b a k = (addG g a b k).map (fun x => (x.2.1, x.1, x.2.2)) := by
 by_cases c : a.size = 0 ∧ b.size = 0
 ·have c' : b.size = 0 ∧ a.size = 0 := ⟨c.2, c.1⟩
  rcases List.eq_nil_or_concat g with e | ⟨g0, s0, e⟩
  ·subst e; rw [addG_nil c, List.map_nil, addG_nil c']; rfl
  ·rw [List.concat_eq_append] at e
   subst e
   rw [addG_join c, List.map_append, List.map_append]
   exact addG_join c' _ _ _
 ·rw [addG_new c, addG_new (fun q => c ⟨q.2, q.1⟩), List.map_append]; rfl
theorem step_sw (s : GS) (p : IP) : stepG (swG s) (swS p) = swG (stepG s p) := by
 unfold stepG
 by_cases h0 : p.f0 = 0
 ·rw [if_pos h0, if_pos (show (swS p).f0 = 0 from h0)]; rfl
 ·rw [if_neg h0, if_neg (show ¬ (swS p).f0 = 0 from h0)]
  show (addG (s.1.map _) s.2.2 s.2.1 p.f0, _) = _
  rw [add_sw]; rfl
theorem fold_sw : ∀ (l : List IP) (s : GS), (l.map swS).foldl stepG (swG s) = swG (l.foldl stepG s)
 | [], s => rfl
 | p :: r, s => by rw [List.map_cons, List.foldl_cons, step_sw, fold_sw r, List.foldl_cons]
/-- Turned round, the fold is turned round. -/
theorem foldG_sw (l : List IP) : foldG (l.map swS) = swG (foldG l) := fold_sw l ([], ⟨#[]⟩, ⟨#[]⟩)
theorem partB_sw (p : IP) : partB (swS p) = partB p := by
 obtain ⟨p0, p1, p2⟩ := p
 unfold partB swS
 dsimp only
 by_cases h0 : p0 = 0
 ·rw [if_pos h0, if_pos h0]
  by_cases h1 : p1.toList = ([] : List UInt8)
  ·by_cases h2 : p2.toList = ([] : List UInt8)
   ·simp [h1, h2]
   ·simp [h1, h2]
  ·by_cases h2 : p2.toList = ([] : List UInt8)
   ·simp [h1, h2]
   ·simp [h1, h2]
 ·rw [if_neg h0, if_neg h0]
  by_cases h1 : p1.toList = ([] : List UInt8)
  ·by_cases h2 : p2.toList = ([] : List UInt8)
   ·simp [h1, h2]
   ·simp [h1, h2]
  ·by_cases h2 : p2.toList = ([] : List UInt8)
   ·simp [h1, h2]
   ·simp [h1, h2]
theorem tkS_sw : ∀ (l : List IP) (a : Int), tkS (l.map swS) a = mkS l a
 | [], a => rfl
 | p :: r, a => by rw [List.map_cons]; unfold tkS mkS; exact tkS_sw r _
theorem tsum_cons (p : IP) (r : List IP) : tsum (p :: r) = nP p + tsum r := rfl
theorem tsum_nil : tsum [] = 0 := rfl
theorem tsum_app : ∀ (a b : List IP), tsum (a ++ b) = tsum a + tsum b
 | [], b => by rw [List.nil_append, tsum_nil]; omega
 | p :: r, b => by rw [List.cons_append, tsum_cons, tsum_cons, tsum_app r b]; omega
def flI (g : List Seg) : List IP := (flatS g).map ofP
def enI (a b : ByteArray) : List IP := (endL a b).map ofP
theorem flI_app (g h : List Seg) : flI (g ++ h) = flI g ++ flI h := by unfold flI; rw [flatS_app, List.map_append]
theorem flI_one (s : Seg) : flI [s] = enI s.1 s.2.1 ++ [⟨s.2.2, ⟨#[]⟩, ⟨#[]⟩⟩] := by unfold flI enI; rw [flatS_cons, List.map_append]; rfl
theorem tsum_en (a b : ByteArray) : tsum (enI a b) = b.size := by
 unfold enI
 by_cases ha : a.size = 0
 ·by_cases hb : b.size = 0
  ·rw [endL_00 ha hb, hb]; rfl
  ·rw [endL_01 ha hb]; show (0 : Int).toNat + b.size + 0 = _; omega
 ·by_cases hb : b.size = 0
  ·rw [endL_10 ha hb, hb]; rfl
  ·rw [endL_11 ha hb]; show (0 : Int).toNat + 0 + ((0 : Int).toNat + b.size + 0) = _; omega
theorem tsum_sen (a b : ByteArray) : tsum ((enI a b).map swS) = a.size := by
 unfold enI
 by_cases ha : a.size = 0
 ·by_cases hb : b.size = 0
  ·rw [endL_00 ha hb, ha]; rfl
  ·rw [endL_01 ha hb, ha]; rfl
 ·by_cases hb : b.size = 0
  ·rw [endL_10 ha hb]; show (0 : Int).toNat + a.size + 0 = _; omega
  ·rw [endL_11 ha hb]; show (0 : Int).toNat + a.size + ((0 : Int).toNat + 0 + 0) = _; omega
theorem tsum_keep (k : Int) : tsum [⟨k, ⟨#[]⟩, ⟨#[]⟩⟩] = k.toNat := by show k.toNat + 0 + 0 = _; omega
theorem len_en (a b : ByteArray) : (enI a b).length = (if a.size = 0 then 0 else 1) + (if b.size = 0 then 0 else 1) := by
 unfold enI
 rw [List.length_map]
 by_cases ha : a.size = 0
 ·by_cases hb : b.size = 0
  ·rw [endL_00 ha hb, if_pos ha, if_pos hb]; rfl
  ·rw [endL_01 ha hb, if_pos ha, if_neg hb]; rfl
 ·by_cases hb : b.size = 0
  ·rw [endL_10 ha hb, if_neg ha, if_pos hb]; rfl
  ·rw [endL_11 ha hb, if_neg ha, if_neg hb]; rfl
theorem add_sum {B : Int} {g : List Seg} (h : BdG B g) (a b : ByteArray) (k : Int) (hk : 0 < k) : tsum (flI (addG g a b k)) = tsum (flI g) + b.size + k.toNat ∧ (flI (addG g a b k)).length ≤ (flI g).length + (enI a b).length + 1 := by
 by_cases c : a.size = 0 ∧ b.size = 0
 ·rcases List.eq_nil_or_concat g with e | ⟨g0, s0, e⟩
  ·subst e
   rw [addG_nil c, flI_one, tsum_app, tsum_en, tsum_keep, List.length_append]
   refine ⟨?_, ?_⟩
   ·show b.size + k.toNat = 0 + b.size + k.toNat; omega
   ·show _ ≤ 0 + _ + _; simp only [List.length_singleton]; omega
  ·rw [List.concat_eq_append] at e
   subst e
   have hs := (h s0 (by simp)).1
   rw [addG_join c, flI_app, flI_app, flI_one, flI_one, tsum_app, tsum_app, tsum_app, tsum_app, tsum_keep, tsum_keep]
   refine ⟨by dsimp only; omega, ?_⟩
   simp only [List.length_append, List.length_singleton]; omega
 ·rw [addG_new c, flI_app, flI_one, tsum_app, tsum_app, tsum_en, tsum_keep]
  refine ⟨by dsimp only; omega, ?_⟩
  simp only [List.length_append, List.length_singleton]; omega
def TxB (s : ByteArray) : Prop := textB (bytesOf s) = true
theorem txB_app {a b : ByteArray} (ha : TxB a) (hb : TxB b) : TxB (a ++ b) := by
 unfold TxB textB at ha hb ⊢
 rw [bytesOf_app, List.all_append, ha, hb]; rfl
theorem txB_nil {a : ByteArray} (h : a.size = 0) : TxB a := by unfold TxB; rw [bytesOf_nil h]; rfl
theorem goodB_tx {s : ByteArray} (h : goodB (bytesOf s) = true) : TxB s := by
 unfold goodB at h; rw [Bool.and_eq_true] at h; exact h.1
theorem tx_goodB {s : ByteArray} (h : TxB s) (hs : s.size ≤ 300) : goodB (bytesOf s) = true := by
 unfold goodB; rw [Bool.and_eq_true, bytesOf_length]; exact ⟨h, decide_eq_true hs⟩
theorem part_tx {p : IP} (h : partB p = true) : TxB p.f1 ∧ TxB p.f2 := by
 unfold partB at h
 by_cases c0 : p.f0 = 0
 ·rw [if_pos c0] at h
  by_cases c1 : p.f1.toList = ([] : List UInt8)
  ·rw [if_pos c1] at h
   by_cases c2 : p.f2.toList = ([] : List UInt8)
   ·rw [if_pos c2] at h; cases h
   ·rw [if_neg c2] at h; exact ⟨txB_nil ((toList_nil _).1 c1), goodB_tx h⟩
  ·rw [if_neg c1] at h
   by_cases c2 : p.f2.toList = ([] : List UInt8)
   ·rw [if_pos c2] at h; exact ⟨goodB_tx h, txB_nil ((toList_nil _).1 c2)⟩
   ·rw [if_neg c2] at h; cases h
 ·rw [if_neg c0, Bool.and_eq_true, Bool.and_eq_true] at h
  exact ⟨txB_nil ((toList_nil _).1 (of_decide_eq_true h.2.1)), txB_nil ((toList_nil _).1 (by simpa using h.2.2))⟩
structure GI (n : Nat) (T : Nat) (s : GS) : Prop where
 bd : BdG (300 * (n : Int)) s.1
 sum : tsum (flI s.1) + s.2.2.size = T
 len : (flI s.1).length + (enI s.2.1 s.2.2).length ≤ n
 txt : ∀ x ∈ s.1, TxB x.1 ∧ TxB x.2.1
 txa : TxB s.2.1
 txb : TxB s.2.2
theorem gi_step {n T : Nat} {s : GS} (h : GI n T s) (p : IP) (hg : partB p = true) : GI (n + 1) (T + nP p) (stepG s p) := by
 obtain ⟨g, a, b⟩ := s
 obtain ⟨i1, i2, i3, i4, i5, i6⟩ := h
 obtain ⟨q1, q2, q3, q4, q5, q6⟩ := part_one hg
 obtain ⟨t1, t2⟩ := part_tx hg
 dsimp only at i1 i2 i3 i4 i5 i6
 have hn : nP p = p.f0.toNat + p.f2.size := rfl
 by_cases h0 : p.f0 = 0
 ·have e : stepG (g, a, b) p = (g, a ++ p.f1, b ++ p.f2) := by unfold stepG; rw [if_pos h0]
  rw [e]
  refine ⟨fun x hx => by have := i1 x hx; omega, ?_, ?_, i4, txB_app i5 t1, txB_app i6 t2⟩
  ·dsimp only; rw [ba_len_app]; omega
  ·dsimp only
   rw [len_en] at i3 ⊢
   rw [ba_len_app, ba_len_app]
   rcases q6 with c | c
   ·rw [c, Nat.add_zero]
    split <;> split <;> split at i3 <;> omega
   ·rw [c, Nat.add_zero]
    split <;> split <;> split at i3 <;> omega
 ·obtain ⟨h1, h2⟩ := q5.resolve_left h0
  have e : stepG (g, a, b) p = (addG g a b p.f0, ⟨#[]⟩, ⟨#[]⟩) := by unfold stepG; rw [if_neg h0]
  rw [e]
  obtain ⟨u1, u2⟩ := add_sum i1 a b p.f0 (by omega)
  have e0 : (enI (⟨#[]⟩ : ByteArray) (⟨#[]⟩ : ByteArray)).length = 0 := by rw [len_en]; rfl
  refine ⟨?_, ?_, ?_, ?_, txB_nil rfl, txB_nil rfl⟩
  ·have := bd_add i1 (by omega) a b p.f0 (by omega) q2
   intro x hx; have := this x hx; omega
  ·dsimp only; rw [u1, sz0]; omega
  ·dsimp only; rw [e0]; omega
  ·dsimp only
   by_cases c : a.size = 0 ∧ b.size = 0
   ·rcases List.eq_nil_or_concat g with e | ⟨g0, s0, e⟩
    ·subst e
     rw [addG_nil c]
     intro x hx; rw [List.mem_singleton.1 hx]; exact ⟨i5, i6⟩
    ·rw [List.concat_eq_append] at e
     subst e
     rw [addG_join c]
     intro x hx
     rcases List.mem_append.1 hx with q | q
     ·exact i4 x (List.mem_append_left _ q)
     ·rw [List.mem_singleton.1 q]; exact i4 s0 (by simp)
   ·rw [addG_new c]
    intro x hx
    rcases List.mem_append.1 hx with q | q
    ·exact i4 x q
    ·rw [List.mem_singleton.1 q]; exact ⟨i5, i6⟩
theorem gi_fold : ∀ (l : List IP) (n T : Nat) (s : GS), (∀ p ∈ l, partB p = true) → GI n T s → GI (n + l.length) (T + tsum l) (l.foldl stepG s)
 | [], n, T, s, _, h => h
 | p :: r, n, T, s, hp, h => by
  have := gi_fold r (n + 1) (T + nP p) (stepG s p) (fun x hx => hp x (List.mem_cons_of_mem _ hx)) (gi_step h p (hp p (List.mem_cons_self ..)))
  rw [List.foldl_cons, List.length_cons, tsum_cons]
  rw [show n + (r.length + 1) = n + 1 + r.length by omega, show T + (nP p + tsum r) = T + nP p + tsum r by omega]; exact this
theorem gi_all (l : List IP) (hp : ∀ p ∈ l, partB p = true) : GI l.length (tsum l) (foldG l) := by
 have := gi_fold l 0 0 ([], ⟨#[]⟩, ⟨#[]⟩) hp ⟨fun x hx => (by cases hx), rfl, by rw [len_en]; exact Nat.le_refl _, fun x hx => (by cases hx), txB_nil rfl, txB_nil rfl⟩
 rw [Nat.zero_add, Nat.zero_add] at this
 exact this
theorem partB_put {u : ByteArray} (h : u.size ≠ 0) (ht : TxB u) (hs : u.size ≤ 300) : partB ⟨0, u, ⟨#[]⟩⟩ = true := by
 unfold partB
 dsimp only
 rw [if_pos rfl, if_neg (fun e => h ((toList_nil _).1 e)), if_pos ((toList_nil _).2 sz0)]
 exact tx_goodB ht hs
theorem partB_drop {u : ByteArray} (h : u.size ≠ 0) (ht : TxB u) (hs : u.size ≤ 300) : partB ⟨0, ⟨#[]⟩, u⟩ = true := by
 rw [← partB_sw]; exact partB_put h ht hs
theorem partB_keep {k : Int} (h : 1 ≤ k) (h2 : k ≤ 300) : partB ⟨k, ⟨#[]⟩, ⟨#[]⟩⟩ = true := by
 unfold partB
 dsimp only
 have e := (toList_nil (⟨#[]⟩ : ByteArray)).2 sz0
 rw [if_neg (by omega), decide_eq_true (show 1 ≤ k ∧ k ≤ 300 from ⟨h, h2⟩), decide_eq_true e]
 simp [e]
theorem partB_en {a b : ByteArray} (ha : TxB a) (hb : TxB b) (sa : a.size ≤ 300) (sb : b.size ≤ 300) : ∀ p ∈ enI a b, partB p = true := by
 intro p hp
 unfold enI at hp
 by_cases za : a.size = 0
 ·by_cases zb : b.size = 0
  ·rw [endL_00 za zb] at hp; cases hp
  ·rw [endL_01 za zb] at hp; rw [List.mem_singleton.1 hp]; exact partB_drop zb hb sb
 ·by_cases zb : b.size = 0
  ·rw [endL_10 za zb] at hp; rw [List.mem_singleton.1 hp]; exact partB_put za ha sa
  ·rw [endL_11 za zb] at hp
   simp only [List.map_cons, List.map_nil, List.mem_cons, List.not_mem_nil, or_false] at hp
   rcases hp with rfl | rfl
   ·exact partB_put za ha sa
   ·exact partB_drop zb hb sb
theorem flI_mem {g : List Seg} {p : IP} (h : p ∈ flI g) : ∃ s ∈ g, p ∈ flI [s] := by
 induction g with
 | nil => cases h
 | cons s r ih =>
  rw [show s :: r = [s] ++ r from rfl, flI_app] at h
  rcases List.mem_append.1 h with q | q
  ·exact ⟨s, List.mem_cons_self .., q⟩
  ·obtain ⟨x, hx, hp⟩ := ih q; exact ⟨x, List.mem_cons_of_mem _ hx, hp⟩
theorem flI_sub {g : List Seg} {s : Seg} (h : s ∈ g) : tsum (flI [s]) ≤ tsum (flI g) := by
 induction g with
 | nil => cases h
 | cons x r ih =>
  rw [show x :: r = [x] ++ r from rfl, flI_app, tsum_app]
  rcases List.mem_cons.1 h with rfl | q
  ·omega
  ·have := ih q; omega
theorem tsum_sfl : ∀ g : List Seg, tsum ((flI g).map swS) = tsum (flI (g.map (fun x => (x.2.1, x.1, x.2.2))))
 | [] => rfl
 | s :: r => by
  rw [show s :: r = [s] ++ r from rfl, flI_app, List.map_append, tsum_app, tsum_sfl r, List.map_append, flI_app, tsum_app]
  congr 1
  rw [flI_one, List.map_append, tsum_app, tsum_sen, List.map_singleton, List.map_singleton, flI_one, tsum_app, tsum_en]; rfl
theorem tkS_ts (l : List IP) (hp : ∀ p ∈ l, partB p = true) (hl : l.length ≤ 1000000) : tkS l 0 = ((tsum l : Nat) : Int) := by
 have := tkS_is l hp 0 (by omega)
 rw [Nat.zero_add] at this; exact this
theorem mkS_ts (l : List IP) (hp : ∀ p ∈ l, partB p = true) (hl : l.length ≤ 1000000) : mkS l 0 = ((tsum (l.map swS) : Nat) : Int) := by
 rw [← tkS_sw]
 exact tkS_ts _ (fun p h => by obtain ⟨q, hq, rfl⟩ := List.mem_map.1 h; rw [partB_sw]; exact hp q hq) (by rw [List.length_map]; exact hl)
theorem normI_fl (l : List IP) (hl : l.length ≤ 1000) (hp : ∀ p ∈ l, One p) : normI l = flI (foldG l).1 ++ enI (foldG l).2.1 (foldG l).2.2 := by
 rw [(norm_fold l hl hp).1, List.map_append]; rfl
/-- A good change is good when it is normal, of the same sizes. -/
theorem norm_good {l : List IP} (h : goodO l = true) : goodO (normI l) = true ∧ tsum (normI l) = tsum l ∧ tsum ((normI l).map swS) = tsum (l.map swS) := by
 obtain ⟨hl, hp, hk, hm⟩ := goodO_facts h
 have ho : ∀ p ∈ l, One p := fun p h => part_one (hp p h)
 have hps : ∀ p ∈ l.map swS, partB p = true := fun p h => by obtain ⟨q, hq, rfl⟩ := List.mem_map.1 h; rw [partB_sw]; exact hp q hq
 obtain ⟨b1, b2, b3, b4, b5, b6⟩ := gi_all l hp
 obtain ⟨_, c2, _, _, _, _⟩ := gi_all (l.map swS) hps
 rw [foldG_sw] at c2
 rw [tkS_ts l hp (by omega)] at hk
 rw [mkS_ts l hp (by omega)] at hm
 have e := normI_fl l (by omega) ho
 generalize foldG l = s at b1 b2 b3 b4 b5 b6 c2 e
 obtain ⟨g, a, b⟩ := s
 unfold swG at c2
 dsimp only at b1 b2 b3 b4 b5 b6 c2 e
 have t1 : tsum (normI l) = tsum l := by rw [e, tsum_app, tsum_en]; omega
 have t2 : tsum ((normI l).map swS) = tsum (l.map swS) := by rw [e, List.map_append, tsum_app, tsum_sen, tsum_sfl]; omega
 have hpn : ∀ p ∈ normI l, partB p = true := by
  rw [e]
  intro p hp'
  rcases List.mem_append.1 hp' with q | q
  ·obtain ⟨s, hs, hps'⟩ := flI_mem q
   have z1 := flI_sub hs
   have z2 := flI_sub (List.mem_map.2 ⟨s, hs, rfl⟩ : (s.2.1, s.1, s.2.2) ∈ g.map (fun x => (x.2.1, x.1, x.2.2)))
   rw [flI_one, tsum_app, tsum_en, tsum_keep] at z1 z2
   dsimp only at z2
   rw [flI_one] at hps'
   obtain ⟨x1, x2⟩ := b4 s hs
   have x3 := (b1 s hs).1
   rcases List.mem_append.1 hps' with w | w
   ·exact partB_en x1 x2 (by omega) (by omega) p w
   ·rw [List.mem_singleton.1 w]; exact partB_keep (by omega) (by omega)
  ·exact partB_en b5 b6 (by omega) (by omega) p q
 have hln : (normI l).length ≤ 60 := by rw [e, List.length_append]; omega
 refine ⟨?_, t1, t2⟩
 unfold goodO
 rw [decide_eq_true hln, List.all_eq_true.2 hpn, tkS_ts _ hpn (by omega), mkS_ts _ hpn (by omega), t1, t2, decide_eq_true ⟨hk, hm⟩]; rfl
theorem ext_back (s : ByteArray) (n : Nat) (h : n ≤ s.size) : s = s.extract 0 n ++ s.extract n s.size := by
 have := ByteArray.extract_append_extract (a := s) (i := 0) (j := n) (k := s.size)
 rw [this]
 have e1 : min 0 n = 0 := by omega
 have e2 : max n s.size = s.size := by omega
 rw [e1, e2, ByteArray.extract_zero_size]
/-- What a change does, byte by byte: it keeps one, puts one or drops one. -/
inductive At where
 | k : At
 | p (c : UInt8) : At
 | d (c : UInt8) : At
/-- The same but for puts and drops that stand side by side. -/
inductive Sim : List At → List At → Prop where
 | refl (l : List At) : Sim l l
 | cons (a : At) {l m : List At} : Sim l m → Sim (a :: l) (a :: m)
 | swap (c d : UInt8) (l : List At) : Sim (.p c :: .d d :: l) (.d d :: .p c :: l)
 | symm {l m : List At} : Sim l m → Sim m l
 | trans {l m n : List At} : Sim l m → Sim m n → Sim l n
def OSim : Option (List At) → Option (List At) → Prop
 | none, none => True
 | some l, some m => Sim l m
 | _, _ => False
theorem OSim.refl : ∀ o, OSim o o
 | none => True.intro
 | some l => Sim.refl l
theorem OSim.symm : ∀ {o q}, OSim o q → OSim q o
 | none, none, _ => True.intro
 | some _, some _, h => Sim.symm h
theorem OSim.trans : ∀ {o q r}, OSim o q → OSim q r → OSim o r
 | none, none, none, _, _ => True.intro
 | some _, some _, some _, h, h' => Sim.trans h h'
theorem OSim.map (a : At) : ∀ {o q}, OSim o q → OSim (o.map (a :: ·)) (q.map (a :: ·))
 | none, none, _ => True.intro
 | some _, some _, h => Sim.cons a h
theorem OSim.swap (c d : UInt8) : ∀ o : Option (List At), OSim ((o.map (At.d d :: ·)).map (At.p c :: ·)) ((o.map (At.p c :: ·)).map (At.d d :: ·))
 | none => True.intro
 | some l => Sim.swap c d l
def tkA : List At → Nat
 | [] => 0
 | .p _ :: x => tkA x
 | _ :: x => tkA x + 1
/-- The parts' bytes. -/
def kA (n : Nat) : List At := List.replicate n .k
def pA (s : ByteArray) : List At := s.data.toList.map .p
def dA (s : ByteArray) : List At := s.data.toList.map .d
def atP (p : IP) : List At := kA p.f0.toNat ++ (pA p.f1 ++ dA p.f2)
def atL (l : List IP) : List At := l.flatMap atP
theorem atL_nil : atL [] = [] := rfl
theorem atL_cons (p : IP) (l : List IP) : atL (p :: l) = atP p ++ atL l := rfl
theorem pA_nil {s : ByteArray} (h : s.size = 0) : pA s = [] := by rw [ba_nil h]; rfl
theorem dA_nil {s : ByteArray} (h : s.size = 0) : dA s = [] := by rw [ba_nil h]; rfl
def mapA (f : UInt8 → At) (s : ByteArray) : List At := s.data.toList.map f
theorem mapA_app (f : UInt8 → At) (a b : ByteArray) : mapA f (a ++ b) = mapA f a ++ mapA f b := by unfold mapA; rw [ByteArray.data_append, Array.toList_append, List.map_append]
theorem mapA_ext (f : UInt8 → At) (s : ByteArray) (n : Nat) (h : n ≤ s.size) : mapA f s = mapA f (s.extract 0 n) ++ mapA f (s.extract n s.size) := by
 rw [← mapA_app, ← ext_back s n h]
theorem kA_add (a b : Nat) : kA (a + b) = kA a ++ kA b := by unfold kA; rw [List.replicate_append_replicate]
/-- The fold over bytes. -/
def E1 (c : UInt8) : ByteArray := ⟨#[c]⟩
def stA (s : GS) : At → GS
 | .k => (addG s.1 s.2.1 s.2.2 1, ⟨#[]⟩, ⟨#[]⟩)
 | .p c => (s.1, s.2.1 ++ E1 c, s.2.2)
 | .d c => (s.1, s.2.1, s.2.2 ++ E1 c)
theorem e1_app (c : UInt8) (l : List UInt8) : E1 c ++ (⟨l.toArray⟩ : ByteArray) = ⟨(c :: l).toArray⟩ := by
 apply ByteArray.ext; rw [ByteArray.data_append]; simp [E1]
theorem st_puts : ∀ (l : List UInt8) (g : List Seg) (a b : ByteArray), (l.map At.p).foldl stA (g, a, b) = (g, a ++ ⟨l.toArray⟩, b)
 | [], g, a, b => by
  show (g, a, b) = (g, a ++ (⟨#[]⟩ : ByteArray), b)
  rw [ba_app]
 | c :: l, g, a, b => by
  rw [List.map_cons, List.foldl_cons]
  show (l.map At.p).foldl stA (g, a ++ E1 c, b) = _
  rw [st_puts l, ByteArray.append_assoc, e1_app]
theorem st_drops : ∀ (l : List UInt8) (g : List Seg) (a b : ByteArray), (l.map At.d).foldl stA (g, a, b) = (g, a, b ++ ⟨l.toArray⟩)
 | [], g, a, b => by
  show (g, a, b) = (g, a, b ++ (⟨#[]⟩ : ByteArray))
  rw [ba_app]
 | c :: l, g, a, b => by
  rw [List.map_cons, List.foldl_cons]
  show (l.map At.d).foldl stA (g, a, b ++ E1 c) = _
  rw [st_drops l, ByteArray.append_assoc, e1_app]
theorem ba_eta (s : ByteArray) : (⟨s.data.toList.toArray⟩ : ByteArray) = s := by apply ByteArray.ext; simp
theorem addG_more (g : List Seg) (a b : ByteArray) (j : Int) : addG (addG g a b j) ⟨#[]⟩ ⟨#[]⟩ 1 = addG g a b (j + 1) := by
 have c0 : (⟨#[]⟩ : ByteArray).size = 0 ∧ (⟨#[]⟩ : ByteArray).size = 0 := ⟨rfl, rfl⟩
 by_cases c : a.size = 0 ∧ b.size = 0
 ·rcases List.eq_nil_or_concat g with e | ⟨g0, s0, e⟩
  ·subst e
   rw [addG_nil c, addG_nil c]
   exact addG_join c0 [] (a, b, j) 1
  ·rw [List.concat_eq_append] at e
   subst e
   rw [addG_join c, addG_join c, addG_join c0]
   dsimp only
   rw [Int.add_assoc]
 ·rw [addG_new c, addG_new c, addG_join c0]
theorem st_keeps : ∀ (n : Nat) (g : List Seg) (a b : ByteArray), (kA (n + 1)).foldl stA (g, a, b) = (addG g a b ((n + 1 : Nat) : Int), ⟨#[]⟩, ⟨#[]⟩)
 | 0, g, a, b => rfl
 | n + 1, g, a, b => by
  have e : kA (n + 1 + 1) = kA (n + 1) ++ [At.k] := by rw [kA_add (n + 1) 1]; rfl
  rw [e, List.foldl_append, st_keeps n g a b]
  show (addG (addG g a b ((n + 1 : Nat) : Int)) ⟨#[]⟩ ⟨#[]⟩ 1, _, _) = _
  rw [addG_more]; rfl
theorem st_part (s : GS) (p : IP) (hp : One p) : (atP p).foldl stA s = stepG s p := by
 obtain ⟨g, a, b⟩ := s
 obtain ⟨p0, p1, p2⟩ := p
 obtain ⟨q1, q2, q3, q4, q5, q6⟩ := hp
 dsimp only at q1 q2 q3 q4 q5 q6
 unfold atP stepG
 dsimp only
 by_cases h0 : p0 = 0
 ·rw [if_pos h0, h0]
  show (pA p1 ++ dA p2).foldl stA (g, a, b) = _
  unfold pA dA
  rw [List.foldl_append, st_puts, st_drops, ba_eta, ba_eta]
 ·obtain ⟨z1, z2⟩ := q5.resolve_left h0
  rw [if_neg h0, pA_nil z1, dA_nil z2, List.append_nil, List.append_nil]
  obtain ⟨n, hn⟩ : ∃ n : Nat, p0 = ((n + 1 : Nat) : Int) := ⟨p0.toNat - 1, by omega⟩
  subst hn
  rw [Int.toNat_natCast, st_keeps]
theorem st_list : ∀ (l : List IP) (s : GS), (∀ p ∈ l, One p) → (atL l).foldl stA s = l.foldl stepG s
 | [], s, _ => rfl
 | p :: l, s, h => by
  rw [atL_cons, List.foldl_append, st_part s p (h p (List.mem_cons_self ..)), List.foldl_cons]
  exact st_list l _ (fun x hx => h x (List.mem_cons_of_mem _ hx))
abbrev Mst := List Pt × ByteArray × ByteArray
/-- How many bytes a part has. -/
def psz (p : IP) : Nat := p.f0.toNat + p.f1.size + p.f2.size
def GoodR (l : List IP) : Prop := ∀ p ∈ l, One p ∧ 0 < psz p
theorem goodR_cons {p : IP} {l : List IP} (h : GoodR (p :: l)) : (One p ∧ 0 < psz p) ∧ GoodR l := ⟨h p (List.mem_cons_self ..), fun x hx => h x (List.mem_cons_of_mem _ hx)⟩
theorem goodR_mk {p : IP} {l : List IP} (h1 : One p) (h2 : 0 < psz p) (h : GoodR l) : GoodR (p :: l) := fun x hx => (List.mem_cons.1 hx).elim (fun e => by rw [e]; exact ⟨h1, h2⟩) (h x)
/-- A part of a part: so many of its first bytes. -/
structure CutIs (p : IP) (n : Nat) (a : IP) : Prop where
 one : One a
 sz : psz a = n
 k : 0 < a.f0 ↔ 0 < p.f0
 put : a.f1.size = 0 ↔ p.f1.size = 0
 drop : a.f2.size = 0 ↔ p.f2.size = 0
theorem extract_sz (s : ByteArray) (n : Nat) (h : n ≤ s.size) : (s.extract 0 n).size = n ∧ (s.extract n s.size).size = s.size - n := by
 rw [ByteArray.size_extract, ByteArray.size_extract]; omega
theorem cut_keep {p : IP} {n : Nat} (h : One p) (h0 : 0 < n) (h1 : n < psz p) (hk : 0 < p.f0) : CutIs p n ⟨n, p.f1, p.f2⟩ ∧ (One ⟨p.f0 - n, p.f1, p.f2⟩ ∧ psz ⟨p.f0 - n, p.f1, p.f2⟩ = psz p - n) ∧ atP p = atP ⟨n, p.f1, p.f2⟩ ++ atP ⟨p.f0 - n, p.f1, p.f2⟩ := by
 obtain ⟨p0, p1, p2⟩ := p
 obtain ⟨q1, q2, q3, q4, q5, q6⟩ := h
 unfold psz at *
 dsimp only at *
 obtain ⟨z1, z2⟩ := q5.resolve_left (by omega)
 refine ⟨⟨⟨by dsimp only; omega, by dsimp only; omega, by dsimp only; omega, by dsimp only; omega, .inr ⟨z1, z2⟩, .inl z1⟩, by unfold psz; dsimp only; omega, by dsimp only; omega, Iff.rfl, Iff.rfl⟩, ⟨⟨by dsimp only; omega, by dsimp only; omega, by dsimp only; omega, by dsimp only; omega, .inr ⟨z1, z2⟩, .inl z1⟩, by omega⟩, ?_⟩
 unfold atP
 dsimp only
 rw [pA_nil z1, dA_nil z2]
 simp only [List.append_nil]
 rw [← kA_add]
 congr 1; omega
theorem cut_put {p : IP} {n : Nat} (h : One p) (h0 : 0 < n) (h1 : n < psz p) (hk : ¬ 0 < p.f0) (hp : p.f1.size ≠ 0) : n ≤ p.f1.size ∧ CutIs p n ⟨p.f0, p.f1.extract 0 n, p.f2⟩ ∧ (One ⟨p.f0, p.f1.extract n p.f1.size, p.f2⟩ ∧ psz ⟨p.f0, p.f1.extract n p.f1.size, p.f2⟩ = psz p - n) ∧ atP p = atP ⟨p.f0, p.f1.extract 0 n, p.f2⟩ ++ atP ⟨p.f0, p.f1.extract n p.f1.size, p.f2⟩ := by
 obtain ⟨p0, p1, p2⟩ := p
 obtain ⟨q1, q2, q3, q4, q5, q6⟩ := h
 unfold psz at *
 dsimp only at *
 have z2 : p2.size = 0 := by omega
 have z0 : p0 = 0 := by omega
 have hn : n ≤ p1.size := by omega
 obtain ⟨e1, e2⟩ := extract_sz p1 n hn
 refine ⟨hn, ⟨⟨by dsimp only; omega, by dsimp only; omega, by dsimp only; omega, by dsimp only; omega, .inl z0, .inr z2⟩, by unfold psz; dsimp only; omega, by dsimp only; omega, by dsimp only; omega, Iff.rfl⟩, ⟨⟨by dsimp only; omega, by dsimp only; omega, by dsimp only; omega, by dsimp only; omega, .inl z0, .inr z2⟩, by omega⟩, ?_⟩
 unfold atP
 dsimp only
 rw [z0, dA_nil z2, List.append_nil, List.append_nil, List.append_nil]
 exact mapA_ext At.p p1 n hn
theorem cut_drop {p : IP} {n : Nat} (h : One p) (h0 : 0 < n) (h1 : n < psz p) (hk : ¬ 0 < p.f0) (hp : p.f1.size = 0) : n ≤ p.f2.size ∧ CutIs p n ⟨p.f0, p.f1, p.f2.extract 0 n⟩ ∧ (One ⟨p.f0, p.f1, p.f2.extract n p.f2.size⟩ ∧ psz ⟨p.f0, p.f1, p.f2.extract n p.f2.size⟩ = psz p - n) ∧ atP p = atP ⟨p.f0, p.f1, p.f2.extract 0 n⟩ ++ atP ⟨p.f0, p.f1, p.f2.extract n p.f2.size⟩ := by
 obtain ⟨p0, p1, p2⟩ := p
 obtain ⟨q1, q2, q3, q4, q5, q6⟩ := h
 unfold psz at *
 dsimp only at *
 have z0 : p0 = 0 := by omega
 have hn : n ≤ p2.size := by omega
 obtain ⟨e1, e2⟩ := extract_sz p2 n hn
 refine ⟨hn, ⟨⟨by dsimp only; omega, by dsimp only; omega, by dsimp only; omega, by dsimp only; omega, .inl z0, .inl hp⟩, by unfold psz; dsimp only; omega, by dsimp only; omega, Iff.rfl, by dsimp only; omega⟩, ⟨⟨by dsimp only; omega, by dsimp only; omega, by dsimp only; omega, by dsimp only; omega, .inl z0, .inl hp⟩, by omega⟩, ?_⟩
 unfold atP
 dsimp only
 rw [z0, pA_nil hp]
 exact mapA_ext At.d p2 n hn
theorem cut_all {p : IP} (h : One p) : CutIs p (psz p) p := ⟨h, rfl, Iff.rfl, Iff.rfl, Iff.rfl⟩
theorem keep_eta {a : IP} (h : One a) (hk : 0 < a.f0) : a = ⟨psz a, ⟨#[]⟩, ⟨#[]⟩⟩ ∧ atP a = kA (psz a) := by
 obtain ⟨p0, p1, p2⟩ := a
 obtain ⟨q1, q2, q3, q4, q5, q6⟩ := h
 unfold psz
 dsimp only at *
 obtain ⟨z1, z2⟩ := q5.resolve_left (by omega)
 refine ⟨?_, ?_⟩
 ·rw [ba_nil z1, ba_nil z2]
  congr 1
  show p0 = ((p0.toNat + 0 + 0 : Nat) : Int); omega
 ·unfold atP
  dsimp only
  rw [pA_nil z1, dA_nil z2, z1, z2, List.append_nil, List.append_nil]; rfl
theorem put_eta {a : IP} (h : One a) (hk : ¬ 0 < a.f0) (hd : a.f2.size = 0) : atP a = a.f1.data.toList.map At.p ∧ a.f1.data.toList.length = psz a := by
 obtain ⟨p0, p1, p2⟩ := a
 obtain ⟨q1, q2, q3, q4, q5, q6⟩ := h
 unfold psz atP
 dsimp only at *
 have z : p0 = 0 := by omega
 rw [z, dA_nil hd, hd, List.append_nil]
 refine ⟨rfl, ?_⟩
 rw [Array.length_toList]; show p1.size = 0 + p1.size + 0; omega
theorem drop_eta {a : IP} (h : One a) (hk : ¬ 0 < a.f0) (hd : a.f1.size = 0) : atP a = a.f2.data.toList.map At.d ∧ a.f2.data.toList.length = psz a := by
 obtain ⟨p0, p1, p2⟩ := a
 obtain ⟨q1, q2, q3, q4, q5, q6⟩ := h
 unfold psz atP
 dsimp only at *
 have z : p0 = 0 := by omega
 rw [z, pA_nil hd, hd]
 refine ⟨rfl, ?_⟩
 rw [Array.length_toList]; show p2.size = 0 + 0 + p2.size; omega
def foldA (z : List At) : GS := z.foldl stA ([], ⟨#[]⟩, ⟨#[]⟩)
theorem foldA_list (l : List IP) (h : ∀ p ∈ l, One p) : foldA (atL l) = foldG l := st_list l _ h
/-- The normal change of bytes. -/
def nfA (z : List At) : List IP := (flatS (foldA z).1 ++ endL (foldA z).2.1 (foldA z).2.2).map ofP
theorem nf_norm (l : List IP) (hl : l.length ≤ 1000) (h : ∀ p ∈ l, One p) : normI l = nfA (atL l) := by
 rw [(norm_fold l hl h).1]; unfold nfA; rw [foldA_list l h]
def Small (n : Nat) (L : List Pt) : Prop := ∀ q ∈ L, q.2.1.size ≤ 300 * n ∧ q.2.2.size ≤ 300 * n
theorem Small.app {n : Nat} {A B : List Pt} (ha : Small n A) (hb : Small n B) : Small n (A ++ B) := fun q h => (List.mem_append.1 h).elim (ha q) (hb q)
theorem small_endL {n : Nat} {a b : ByteArray} (ha : a.size ≤ 300 * n) (hb : b.size ≤ 300 * n) : Small n (endL a b) := by
 intro q hq
 unfold endL at hq
 rcases List.mem_append.1 hq with h | h
 ·split at h
  ·cases h
  ·rw [List.mem_singleton.1 h]; exact ⟨ha, Nat.zero_le _⟩
 ·split at h
  ·cases h
  ·rw [List.mem_singleton.1 h]; exact ⟨Nat.zero_le _, hb⟩
theorem small_keepA {n : Nat} {L : List Pt} (h : Small n L) (x : Int) : Small n (keepA L x) := by
 unfold keepA
 split
 ·rename_i p hp
  have hm := List.mem_of_getLast? hp
  split
  ·exact Small.app (fun q hq => h q (List.dropLast_subset _ hq)) (fun q hq => by rw [List.mem_singleton.1 hq]; exact h p hm)
  ·exact Small.app h (fun q hq => by rw [List.mem_singleton.1 hq]; exact ⟨Nat.zero_le _, Nat.zero_le _⟩)
 ·intro q hq; rw [List.mem_singleton.1 hq]; exact ⟨Nat.zero_le _, Nat.zero_le _⟩
theorem small_take {n : Nat} {s : List Pt × ByteArray × ByteArray} (p : Pt) (h : Small n s.1) (ha : s.2.1.size ≤ 300 * n) (hb : s.2.2.size ≤ 300 * n) : Small n (takeP s p).1 := by
 unfold takeP keepS
 simp only
 split
 ·exact h
 ·exact small_keepA (Small.app h (small_endL ha hb)) _
theorem small_stN (l : List IP) (hs : ∀ x ∈ l, x.f1.size ≤ 300 ∧ x.f2.size ≤ 300) : ∀ i, i ≤ l.length → Small i (stN l i).1
 | 0, _ => fun q h => by cases h
 | i + 1, h => by
  have ih := small_stN l hs i (by omega)
  obtain ⟨_, h2, h3⟩ := stN_bound l hs i (by omega)
  rw [stN_succ l i (by omega)]
  intro q hq
  have := small_take (toP (l[i]'(by omega))) ih h2 h3 q hq
  omega
theorem normI_small2 (l : List IP) (hl : l.length ≤ 1000) (hp : ∀ p ∈ l, One p) : (∀ x ∈ normI l, x.f1.size ≤ 1048576 ∧ x.f2.size ≤ 1048576) ∧ (normI l).length ≤ 3 * l.length + 2 := by
 have hs : ∀ x ∈ l, x.f1.size ≤ 300 ∧ x.f2.size ≤ 300 := fun x hx => ⟨(hp x hx).2.2.1, (hp x hx).2.2.2.1⟩
 obtain ⟨b0, b2, b3⟩ := stN_bound l hs l.length (Nat.le_refl _)
 have b1 := small_stN l hs l.length (Nat.le_refl _)
 have e : stN l l.length = (l.map toP).foldl takeP ([], ⟨#[]⟩, ⟨#[]⟩) := by unfold stN; rw [List.take_of_length_le (Nat.le_refl _)]
 rw [e] at b0 b1 b2 b3
 refine ⟨fun x hx => ?_, ?_⟩
 ·unfold normI normP at hx
  obtain ⟨q, hq, rfl⟩ := List.mem_map.1 hx
  have := Small.app b1 (small_endL b2 b3) q hq
  exact ⟨by show q.2.1.size ≤ _; omega, by show q.2.2.size ≤ _; omega⟩
 ·have := endL_len ((l.map toP).foldl takeP ([], ⟨#[]⟩, ⟨#[]⟩)).2.1 ((l.map toP).foldl takeP ([], ⟨#[]⟩, ⟨#[]⟩)).2.2
  unfold normI normP
  rw [List.length_map, List.length_append]; omega
theorem fold_len (l : List IP) (hp : ∀ p ∈ l, One p) : ((l.map toP).foldl takeP ([], ⟨#[]⟩, ⟨#[]⟩)).1.length ≤ 3 * l.length := by
 have hs : ∀ x ∈ l, x.f1.size ≤ 300 ∧ x.f2.size ≤ 300 := fun x hx => ⟨(hp x hx).2.2.1, (hp x hx).2.2.2.1⟩
 obtain ⟨b0, _, _⟩ := stN_bound l hs l.length (Nat.le_refl _)
 have e : stN l l.length = (l.map toP).foldl takeP ([], ⟨#[]⟩, ⟨#[]⟩) := by unfold stN; rw [List.take_of_length_le (Nat.le_refl _)]
 rw [e] at b0; exact b0
theorem goodR_of {l : List IP} (h : goodO l = true) : GoodR l := by
 obtain ⟨_, hp, _, _⟩ := goodO_facts h
 intro p hm
 refine ⟨part_one (hp p hm), ?_⟩
 have hb := hp p hm
 unfold partB at hb
 unfold psz
 by_cases c0 : p.f0 = 0
 ·rw [if_pos c0] at hb
  by_cases c1 : p.f1.toList = ([] : List UInt8)
  ·rw [if_pos c1] at hb
   by_cases c2 : p.f2.toList = ([] : List UInt8)
   ·rw [if_pos c2] at hb; cases hb
   ·rw [toList_nil] at c2; omega
  ·rw [toList_nil] at c1; omega
 ·have := (part_one (hp p hm)).1; omega
theorem tkA_app : ∀ a b : List At, tkA (a ++ b) = tkA a + tkA b
 | [], b => by simp [tkA]
 | .k :: a, b => by rw [List.cons_append]; simp only [tkA]; rw [tkA_app a b]; omega
 | .p c :: a, b => by rw [List.cons_append]; simp only [tkA]; rw [tkA_app a b]
 | .d c :: a, b => by rw [List.cons_append]; simp only [tkA]; rw [tkA_app a b]; omega
theorem tkA_k : ∀ n, tkA (kA n) = n
 | 0 => rfl
 | n + 1 => by show tkA (kA n) + 1 = _; rw [tkA_k n]
theorem tkA_ps : ∀ l : List UInt8, tkA (l.map At.p) = 0
 | [] => rfl
 | c :: l => tkA_ps l
theorem tkA_ds : ∀ l : List UInt8, tkA (l.map At.d) = l.length
 | [] => rfl
 | c :: l => by show tkA (l.map At.d) + 1 = _; rw [tkA_ds l]; rfl
theorem tkA_part (p : IP) : tkA (atP p) = p.f0.toNat + p.f2.size := by
 unfold atP pA dA
 rw [tkA_app, tkA_app, tkA_k, tkA_ps, tkA_ds, Array.length_toList]; show _ + (0 + p.f2.size) = _; omega
theorem tkA_list : ∀ l : List IP, tkA (atL l) = tsum l
 | [] => rfl
 | p :: l => by rw [atL_cons, tkA_app, tkA_part, tsum_cons, tkA_list l]; rfl
/-- Two changes set beside one another, byte by byte. -/
def emT : List At → List At → Option (List At × List At)
 | .p c :: x, y => (emT x y).map (fun r => (At.p c :: r.1, At.k :: r.2))
 | x, .p c :: y => (emT x y).map (fun r => (At.k :: r.1, At.p c :: r.2))
 | [], [] => some ([], [])
 | .k :: x, .k :: y => (emT x y).map (fun r => (At.k :: r.1, At.k :: r.2))
 | .k :: x, .d c :: y => (emT x y).map (fun r => (r.1, At.d c :: r.2))
 | .d c :: x, .k :: y => (emT x y).map (fun r => (At.d c :: r.1, r.2))
 | .d _ :: x, .d _ :: y => emT x y
 | _, _ => none
termination_by x y => x.length + y.length
theorem et_p (c : UInt8) (x y : List At) : emT (.p c :: x) y = (emT x y).map (fun r => (At.p c :: r.1, At.k :: r.2)) := by
 cases y with
 | nil => rw [emT]
 | cons b y => cases b <;> rw [emT]
theorem et_q0 (c : UInt8) (y : List At) : emT [] (.p c :: y) = (emT [] y).map (fun r => (At.k :: r.1, At.p c :: r.2)) := by rw [emT]; intro _ _ h; cases h
theorem et_qk (c : UInt8) (x y : List At) : emT (.k :: x) (.p c :: y) = (emT (.k :: x) y).map (fun r => (At.k :: r.1, At.p c :: r.2)) := by rw [emT]; intro _ _ h; cases h
theorem et_qd (c e : UInt8) (x y : List At) : emT (.d e :: x) (.p c :: y) = (emT (.d e :: x) y).map (fun r => (At.k :: r.1, At.p c :: r.2)) := by rw [emT]; intro _ _ h; cases h
theorem et_00 : emT [] [] = some ([], []) := by rw [emT]
theorem et_kk (x y : List At) : emT (.k :: x) (.k :: y) = (emT x y).map (fun r => (At.k :: r.1, At.k :: r.2)) := by rw [emT]
theorem et_kd (c : UInt8) (x y : List At) : emT (.k :: x) (.d c :: y) = (emT x y).map (fun r => (r.1, At.d c :: r.2)) := by rw [emT]
theorem et_dk (c : UInt8) (x y : List At) : emT (.d c :: x) (.k :: y) = (emT x y).map (fun r => (At.d c :: r.1, r.2)) := by rw [emT]
theorem et_dd (c e : UInt8) (x y : List At) : emT (.d c :: x) (.d e :: y) = emT x y := by rw [emT]
def app2 (a b : List At) (o : Option (List At × List At)) : Option (List At × List At) := o.map (fun r => (a ++ r.1, b ++ r.2))
theorem app2_nil (o : Option (List At × List At)) : app2 [] [] o = o := by cases o <;> rfl
theorem app2_one (a b : At) (c d : List At) (o : Option (List At × List At)) : (app2 c d o).map (fun r => (a :: r.1, b :: r.2)) = app2 (a :: c) (b :: d) o := by cases o <;> rfl
def NoP : List At → Prop
 | .p _ :: _ => False
 | _ => True
theorem et_q {x : List At} (h : NoP x) (c : UInt8) (y : List At) : emT x (.p c :: y) = (emT x y).map (fun r => (At.k :: r.1, At.p c :: r.2)) := by
 cases x with
 | nil => exact et_q0 c y
 | cons a x =>
  cases a with
  | k => exact et_qk c x y
  | p e => exact h.elim
  | d e => exact et_qd c e x y
theorem et_ps : ∀ (l : List UInt8) (x y : List At), emT (l.map At.p ++ x) y = app2 (l.map At.p) (kA l.length) (emT x y)
 | [], x, y => (app2_nil _).symm
 | c :: l, x, y => by rw [List.map_cons, List.cons_append, et_p, et_ps l x y, app2_one]; rfl
theorem et_qs {x : List At} (h : NoP x) : ∀ (l : List UInt8) (y : List At), emT x (l.map At.p ++ y) = app2 (kA l.length) (l.map At.p) (emT x y)
 | [], y => (app2_nil _).symm
 | c :: l, y => by rw [List.map_cons, List.cons_append, et_q h, et_qs h l y, app2_one]; rfl
theorem et_kks : ∀ (n : Nat) (x y : List At), emT (kA n ++ x) (kA n ++ y) = app2 (kA n) (kA n) (emT x y)
 | 0, x, y => (app2_nil _).symm
 | n + 1, x, y => by
  have e : kA (n + 1) = At.k :: kA n := rfl
  rw [e, List.cons_append, List.cons_append, et_kk, et_kks n x y, app2_one]
theorem et_kds : ∀ (l : List UInt8) (x y : List At), emT (kA l.length ++ x) (l.map At.d ++ y) = app2 [] (l.map At.d) (emT x y)
 | [], x, y => (app2_nil _).symm
 | c :: l, x, y => by
  have e : kA (c :: l).length = At.k :: kA l.length := rfl
  rw [e, List.map_cons, List.cons_append, List.cons_append, et_kd, et_kds l x y]
  cases emT x y <;> rfl
theorem et_dks : ∀ (l : List UInt8) (x y : List At), emT (l.map At.d ++ x) (kA l.length ++ y) = app2 (l.map At.d) [] (emT x y)
 | [], x, y => (app2_nil _).symm
 | c :: l, x, y => by
  have e : kA (c :: l).length = At.k :: kA l.length := rfl
  rw [e, List.map_cons, List.cons_append, List.cons_append, et_dk, et_dks l x y]
  cases emT x y <;> rfl
theorem et_dds : ∀ (l m : List UInt8) (x y : List At), l.length = m.length → emT (l.map At.d ++ x) (m.map At.d ++ y) = emT x y
 | [], [], x, y, _ => rfl
 | c :: l, e :: m, x, y, h => by
  rw [List.map_cons, List.map_cons, List.cons_append, List.cons_append, et_dd]
  exact et_dds l m x y (by simpa using h)
/-- Two pieces of one size, neither a put, byte by byte. -/
theorem et_step (a b : IP) (x y : List At) (ha : One a) (hb : One b) (hs : psz a = psz b) (h1 : a.f1.size = 0) (h2 : b.f1.size = 0) :
  emT (atP a ++ x) (atP b ++ y) = app2 (if 0 < b.f0 then atP a else []) (if 0 < a.f0 then atP b else []) (emT x y) := by
 by_cases ka : 0 < a.f0
 ·rw [if_pos ka, (keep_eta ha ka).2]
  by_cases kb : 0 < b.f0
  ·rw [if_pos kb, (keep_eta hb kb).2, hs]; exact et_kks _ x y
  ·obtain ⟨e1, e2⟩ := drop_eta hb kb h2
   rw [if_neg kb, e1, hs, ← e2]; exact et_kds _ x y
 ·obtain ⟨f1, f2⟩ := drop_eta ha ka h1
  rw [if_neg ka, f1]
  by_cases kb : 0 < b.f0
  ·rw [if_pos kb, (keep_eta hb kb).2, ← hs, ← f2]; exact et_dks _ x y
  ·obtain ⟨e1, e2⟩ := drop_eta hb kb h2
   rw [if_neg kb, e1, app2_nil]; exact et_dds _ _ x y (by omega)
def keepP (n : Nat) : IP := ⟨n, ⟨#[]⟩, ⟨#[]⟩⟩
theorem keepP_one {n : Nat} (h : n ≤ 300) : One (keepP n) := ⟨by show (0 : Int) ≤ n; omega, by show (n : Int) ≤ 300; omega, Nat.zero_le _, Nat.zero_le _, .inr ⟨rfl, rfl⟩, .inl rfl⟩
theorem keepP_at (n : Nat) : atP (keepP n) = kA n := by
 unfold atP keepP
 dsimp only
 rw [Int.toNat_natCast, pA_nil rfl, dA_nil (s := ⟨#[]⟩) rfl, List.append_nil, List.append_nil]
theorem et_putP (p : IP) (x y : List At) (h : One p) (hd : p.f1.size ≠ 0) : emT (atP p ++ x) y = app2 (atP p) (atP (keepP p.f1.size)) (emT x y) := by
 have hk : ¬ 0 < p.f0 := fun z => by have := h.2.2.2.2.1; omega
 have h1 : p.f2.size = 0 := by have := h.2.2.2.2.2; omega
 obtain ⟨e1, e2⟩ := put_eta h hk h1
 rw [keepP_at, e1, et_ps, Array.length_toList]; rfl
theorem et_putQ (q : IP) (x y : List At) (h : One q) (hd : q.f1.size ≠ 0) (hn : NoP x) : emT x (atP q ++ y) = app2 (atP (keepP q.f1.size)) (atP q) (emT x y) := by
 have hk : ¬ 0 < q.f0 := fun z => by have := h.2.2.2.2.1; omega
 have h1 : q.f2.size = 0 := by have := h.2.2.2.2.2; omega
 obtain ⟨e1, e2⟩ := put_eta h hk h1
 rw [keepP_at, e1, et_qs hn, Array.length_toList]; rfl
theorem noP_cons (p : IP) (x : List IP) (h : One p) (hz : 0 < psz p) (hd : p.f1.size = 0) : NoP (atL (p :: x)) := by
 rw [atL_cons]
 by_cases hk : 0 < p.f0
 ·rw [(keep_eta h hk).2]
  obtain ⟨m, hm⟩ : ∃ m, psz p = m + 1 := ⟨psz p - 1, by omega⟩
  rw [hm]; exact True.intro
 ·obtain ⟨e1, e2⟩ := drop_eta h hk hd
  rw [e1]
  cases hl : p.f2.data.toList with
  | nil => rw [hl] at e2; simp at e2; omega
  | cons c l => exact True.intro
theorem takeP_keep (s : Mst) (n : Nat) : takeP s (toP (keepP n)) = Go.Proofs.Ytoagljlnfakgjaa.Mk.keepS s.1 s.2.1 s.2.2 (n : Int) := by
 unfold takeP toP keepP
 dsimp only
 rw [ba_app, ba_app]
theorem Fit.more {n : Nat} {s : Mst} (h : Fit n s) : Fit (n + 1) s :=
 ⟨h.last.imp id (fun ⟨u, v, w, z⟩ => ⟨u, v, w, z.1, by omega⟩), by have := h.len; omega, by have := h.put; omega, by have := h.drop; omega⟩
theorem szQ_psz {p : IP} (h : One p) : szQ p = (psz p : Int) := by
 obtain ⟨q1, q2, q3, q4, _, _⟩ := h
 unfold szQ psz
 rw [wrap_id (x := p.f0 + (p.f1.size : Int)) (by omega) (by omega), wrap_id (by omega) (by omega)]; omega
/-- What the reference's reader takes, byte by byte. -/
theorem takQ_spec (p : IP) (r : List IP) (n : Nat) (h : One p) (hr : GoodR r) (h0 : 0 < n) (h1 : n ≤ psz p) :
  ∃ a l', takQ (p :: r) (n : Int) = some (a, l') ∧ CutIs p n a ∧ GoodR l' ∧ atL (p :: r) = atP a ++ atL l' ∧ (n = psz p → l' = r) ∧ l'.length ≤ r.length + 1 := by
 by_cases hn : n = psz p
 ·subst hn
  refine ⟨p, r, ?_, cut_all h, hr, atL_cons p r, fun _ => rfl, by omega⟩
  unfold takQ
  dsimp only
  rw [if_pos (szQ_psz h).symm]
 ·have hlt : n < psz p := by omega
  have hne : ¬ (n : Int) = szQ p := by rw [szQ_psz h]; omega
  have hp2 := psz
  by_cases hk : 0 < p.f0
  ·obtain ⟨c1, ⟨c2, c3⟩, c4⟩ := cut_keep h h0 hlt hk
   refine ⟨⟨n, p.f1, p.f2⟩, ⟨p.f0 - n, p.f1, p.f2⟩ :: r, ?_, c1, goodR_mk c2 (by omega) hr, by rw [atL_cons, atL_cons, c4, List.append_assoc], fun q => absurd q hn, by rw [List.length_cons]; omega⟩
   unfold takQ
   dsimp only
   have w : wrap64 (p.f0 - n) = p.f0 - n := by
    have := h.1; have := h.2.1
    have hb : psz p ≤ 1000 := by obtain ⟨_, _, q3, q4, _, _⟩ := h; unfold psz; omega
    exact wrap_id (by omega) (by omega)
   rw [if_neg hne, if_pos hk, w]
  ·by_cases hp : p.f1.size = 0
   ·obtain ⟨hn2, c1, ⟨c2, c3⟩, c4⟩ := cut_drop h h0 hlt hk hp
    refine ⟨⟨p.f0, p.f1, p.f2.extract 0 n⟩, ⟨p.f0, p.f1, p.f2.extract n p.f2.size⟩ :: r, ?_, c1, goodR_mk c2 (by omega) hr, by rw [atL_cons, atL_cons, c4, List.append_assoc], fun q => absurd q hn, by rw [List.length_cons]; omega⟩
    unfold takQ
    dsimp only
    rw [if_neg hne, if_neg hk, if_pos ((toList_nil _).2 hp), if_pos (by omega), Int.toNat_natCast]
   ·obtain ⟨hn2, c1, ⟨c2, c3⟩, c4⟩ := cut_put h h0 hlt hk hp
    refine ⟨⟨p.f0, p.f1.extract 0 n, p.f2⟩, ⟨p.f0, p.f1.extract n p.f1.size, p.f2⟩ :: r, ?_, c1, goodR_mk c2 (by omega) hr, by rw [atL_cons, atL_cons, c4, List.append_assoc], fun q => absurd q hn, by rw [List.length_cons]; omega⟩
    unfold takQ
    dsimp only
    rw [if_neg hne, if_neg hk, if_neg (fun e => hp ((toList_nil _).1 e)), if_pos (by omega), Int.toNat_natCast]
theorem szI_psz {p : IP} (h : One p) : szI p = (psz p : Int) := by
 obtain ⟨q1, q2, q3, q4, _, _⟩ := h
 unfold szI psz
 rw [wrap_id (x := p.f0 + (p.f1.size : Int)) (by omega) (by omega), wrap_id (by omega) (by omega)]; omega
theorem zeroP_iff (p : IP) (h : One p) : zeroP p = true ↔ psz p = 0 := by
 obtain ⟨q1, _, _, _, _, _⟩ := h
 unfold zeroP psz
 rw [Bool.and_eq_true, Bool.and_eq_true, beq_iff_eq, beq_iff_eq, beq_iff_eq, toList_nil, toList_nil]
 omega
/-- What the program's reader cuts, byte by byte. -/
theorem cutP_spec (p : IP) (r : List IP) (n : Nat) (h : One p) (hr : GoodR r) (h0 : 0 < n) (h1 : n ≤ psz p) :
  ∃ a y, cutP p (n : Int) = some (a, y) ∧ CutIs p n a ∧ GoodR (restP y r) ∧ atL (p :: r) = atP a ++ atL (restP y r) ∧ (n = psz p → restP y r = r) ∧ (restP y r).length ≤ r.length + 1 ∧ (n = psz p → a = p) := by
 have key : ∀ (a y : IP), cutP p (n : Int) = some (a, y) → CutIs p n a → One y → psz y = psz p - n → atP p = atP a ++ atP y → (n = psz p → a = p) → ∃ a y, cutP p (n : Int) = some (a, y) ∧ CutIs p n a ∧ GoodR (restP y r) ∧ atL (p :: r) = atP a ++ atL (restP y r) ∧ (n = psz p → restP y r = r) ∧ (restP y r).length ≤ r.length + 1 ∧ (n = psz p → a = p) := by
  intro a y e1 e2 e3 e4 e5 e6
  refine ⟨a, y, e1, e2, ?_⟩
  unfold restP
  by_cases z : zeroP y = true
  ·rw [if_pos z]
   have hz := (zeroP_iff y e3).1 z
   have hy : atP y = [] := by
    unfold atP; unfold psz at hz
    rw [show y.f0.toNat = 0 by omega, pA_nil (by omega), dA_nil (by omega)]; rfl
   exact ⟨hr, by rw [atL_cons, e5, hy, List.append_nil], fun _ => rfl, by omega, e6⟩
  ·rw [if_neg z]
   have hz : psz y ≠ 0 := fun q => z ((zeroP_iff y e3).2 q)
   exact ⟨goodR_mk e3 (by omega) hr, by rw [atL_cons, atL_cons, e5, List.append_assoc], fun q => by omega, by rw [List.length_cons]; omega, e6⟩
 have hb : psz p ≤ 1000 := by obtain ⟨_, _, q3, q4, _, _⟩ := h; unfold psz; omega
 have hb0 := h.1
 have hb1 := h.2.1
 by_cases hn : n = psz p
 ·by_cases hk : 0 < p.f0
  ·obtain ⟨k1, k2⟩ := keep_eta h hk
   have hf : p.f0 = (n : Int) := by rw [hn]; exact congrArg S60.f0 k1
   have hf1 : p.f1 = (⟨#[]⟩ : ByteArray) := congrArg S60.f1 k1
   have hf2 : p.f2 = (⟨#[]⟩ : ByteArray) := congrArg S60.f2 k1
   refine key p ⟨0, p.f1, p.f2⟩ ?_ (hn ▸ cut_all h) ⟨Int.le_refl 0, by show (0 : Int) ≤ 300; omega, h.2.2.1, h.2.2.2.1, .inl rfl, h.2.2.2.2.2⟩ ?_ ?_ (fun _ => rfl)
   ·unfold cutP
    rw [if_pos hk, show p.f0 - (n : Int) = 0 by omega, wrap_id (by decide) (by decide)]
    congr 2
    rw [← hf]
   ·have e1 : p.f1.size = 0 := by rw [hf1]; rfl
    have e2 : p.f2.size = 0 := by rw [hf2]; rfl
    unfold psz at hn ⊢; dsimp only; omega
   ·have : atP ⟨0, p.f1, p.f2⟩ = [] := by unfold atP; rw [hf1, hf2]; rfl
    rw [this, List.append_nil]
  ·by_cases hp : p.f1.size = 0
   ·have hz2 : p.f2.size = n := by unfold psz at hn; omega
    have ex : p.f2.extract 0 n = p.f2 := by rw [← hz2]; exact ByteArray.extract_zero_size
    have ey : (p.f2.extract n p.f2.size).size = 0 := by rw [ByteArray.size_extract]; omega
    refine key p ⟨p.f0, p.f1, p.f2.extract n p.f2.size⟩ ?_ (hn ▸ cut_all h) ⟨h.1, h.2.1, h.2.2.1, by dsimp only; omega, .inl (by dsimp only; omega), .inl hp⟩ ?_ ?_ (fun _ => rfl)
    ·unfold cutP
     rw [if_neg hk, if_pos ((toList_nil _).2 hp), if_pos (by omega), Int.toNat_natCast, ex]
    ·unfold psz at hn ⊢; dsimp only; omega
    ·have : atP ⟨p.f0, p.f1, p.f2.extract n p.f2.size⟩ = [] := by
      unfold atP; dsimp only
      rw [show p.f0.toNat = 0 by omega, pA_nil hp, dA_nil ey]; rfl
     rw [this, List.append_nil]
   ·have hz0 : p.f2.size = 0 := h.2.2.2.2.2.resolve_left hp
    have hz2 : p.f1.size = n := by unfold psz at hn; omega
    have ex : p.f1.extract 0 n = p.f1 := by rw [← hz2]; exact ByteArray.extract_zero_size
    have ey : (p.f1.extract n p.f1.size).size = 0 := by rw [ByteArray.size_extract]; omega
    refine key p ⟨p.f0, p.f1.extract n p.f1.size, p.f2⟩ ?_ (hn ▸ cut_all h) ⟨h.1, h.2.1, by dsimp only; omega, h.2.2.2.1, .inl (by dsimp only; omega), .inr hz0⟩ ?_ ?_ (fun _ => rfl)
    ·unfold cutP
     rw [if_neg hk, if_neg (fun e => hp ((toList_nil _).1 e)), if_pos (by omega), Int.toNat_natCast, ex]
    ·unfold psz at hn ⊢; dsimp only; omega
    ·have : atP ⟨p.f0, p.f1.extract n p.f1.size, p.f2⟩ = [] := by
      unfold atP; dsimp only
      rw [show p.f0.toNat = 0 by omega, pA_nil ey, dA_nil hz0]; rfl
     rw [this, List.append_nil]
 ·have hlt : n < psz p := by omega
  by_cases hk : 0 < p.f0
  ·obtain ⟨c1, ⟨c2, c3⟩, c4⟩ := cut_keep h h0 hlt hk
   refine key _ _ ?_ c1 c2 c3 c4 (fun q => absurd q hn)
   unfold cutP
   rw [if_pos hk, wrap_id (by omega) (by omega)]
  ·by_cases hp : p.f1.size = 0
   ·obtain ⟨hn2, c1, ⟨c2, c3⟩, c4⟩ := cut_drop h h0 hlt hk hp
    refine key _ _ ?_ c1 c2 c3 c4 (fun q => absurd q hn)
    unfold cutP
    rw [if_neg hk, if_pos ((toList_nil _).2 hp), if_pos (by omega), Int.toNat_natCast]
   ·obtain ⟨hn2, c1, ⟨c2, c3⟩, c4⟩ := cut_put h h0 hlt hk hp
    refine key _ _ ?_ c1 c2 c3 c4 (fun q => absurd q hn)
    unfold cutP
    rw [if_neg hk, if_neg (fun e => hp ((toList_nil _).1 e)), if_pos (by omega), Int.toNat_natCast]
theorem tkG_some {n : Nat} {s : Mst} {p : IP} (hf : Fit n s) (hn : n ≤ 250) (hp : One p) : tkG s p = some (takeP s (toP p)) := by
 unfold tkG
 obtain ⟨_, _, q3, q4, _, _⟩ := hp
 have := hf.len
 have := hf.put
 have := hf.drop
 rw [if_pos (by omega)]
/-- What both walks come to: the bytes, and what has been made. -/
def TrIs (o : Option (List At × List At)) (m : Nat) (s u : Mst) (g : Option (Mst × Mst)) (f : Nat → Option (List IP × List IP)) : Prop :=
 ∃ E O : List IP, o = some (atL E, atL O) ∧ ((∀ p ∈ E, One p) ∧ (∀ p ∈ O, One p)) ∧ (E.length < m ∧ O.length < m) ∧ g = some ((E.map toP).foldl takeP s, (O.map toP).foldl takeP u) ∧ Ev f (allP ((E.map toP).foldl takeP s), allP ((O.map toP).foldl takeP u))
theorem tr_both {o o' : Option (List At × List At)} {m : Nat} {s u : Mst} {a b : IP} {g g' : Option (Mst × Mst)} {f f' : Nat → Option (List IP × List IP)} (h : TrIs o m (takeP s (toP a)) (takeP u (toP b)) g f) (ha : One a) (hb : One b) (ho : o' = app2 (atP a) (atP b) o) (hg : g' = g) (hf : ∀ r, Ev f r → Ev f' r) : TrIs o' (m + 1) s u g' f' := by
 subst ho hg
 obtain ⟨E, O, h1, ⟨h2, h3⟩, ⟨h4, h5⟩, h6, h7⟩ := h
 refine ⟨a :: E, b :: O, by rw [h1]; rfl, ⟨fun p hp => (List.mem_cons.1 hp).elim (fun q => by rw [q]; exact ha) (h2 p), fun p hp => (List.mem_cons.1 hp).elim (fun q => by rw [q]; exact hb) (h3 p)⟩, ⟨by rw [List.length_cons]; omega, by rw [List.length_cons]; omega⟩, ?_, ?_⟩
 ·rw [List.map_cons, List.foldl_cons, List.map_cons, List.foldl_cons]; exact h6
 ·rw [List.map_cons, List.foldl_cons, List.map_cons, List.foldl_cons]; exact hf _ h7
theorem tr_one {o o' : Option (List At × List At)} {m : Nat} {s u : Mst} {a : IP} {g g' : Option (Mst × Mst)} {f f' : Nat → Option (List IP × List IP)} (h : TrIs o m (takeP s (toP a)) u g f) (ha : One a) (ho : o' = app2 (atP a) [] o) (hg : g' = g) (hf : ∀ r, Ev f r → Ev f' r) : TrIs o' (m + 1) s u g' f' := by
 subst ho hg
 obtain ⟨E, O, h1, ⟨h2, h3⟩, ⟨h4, h5⟩, h6, h7⟩ := h
 refine ⟨a :: E, O, by rw [h1]; rfl, ⟨fun p hp => (List.mem_cons.1 hp).elim (fun q => by rw [q]; exact ha) (h2 p), h3⟩, ⟨by rw [List.length_cons]; omega, by omega⟩, ?_, ?_⟩
 ·rw [List.map_cons, List.foldl_cons]; exact h6
 ·rw [List.map_cons, List.foldl_cons]; exact hf _ h7
theorem tr_two {o o' : Option (List At × List At)} {m : Nat} {s u : Mst} {b : IP} {g g' : Option (Mst × Mst)} {f f' : Nat → Option (List IP × List IP)} (h : TrIs o m s (takeP u (toP b)) g f) (hb : One b) (ho : o' = app2 [] (atP b) o) (hg : g' = g) (hf : ∀ r, Ev f r → Ev f' r) : TrIs o' (m + 1) s u g' f' := by
 subst ho hg
 obtain ⟨E, O, h1, ⟨h2, h3⟩, ⟨h4, h5⟩, h6, h7⟩ := h
 refine ⟨E, b :: O, by rw [h1]; rfl, ⟨h2, fun p hp => (List.mem_cons.1 hp).elim (fun q => by rw [q]; exact hb) (h3 p)⟩, ⟨by omega, by rw [List.length_cons]; omega⟩, ?_, ?_⟩
 ·rw [List.map_cons, List.foldl_cons]; exact h6
 ·rw [List.map_cons, List.foldl_cons]; exact hf _ h7
theorem tr_zero {o o' : Option (List At × List At)} {m : Nat} {s u : Mst} {g g' : Option (Mst × Mst)} {f f' : Nat → Option (List IP × List IP)} (h : TrIs o m s u g f) (ho : o' = o) (hg : g' = g) (hf : ∀ r, Ev f r → Ev f' r) : TrIs o' (m + 1) s u g' f' := by
 subst ho hg
 obtain ⟨E, O, h1, h2, ⟨h4, h5⟩, h6, h7⟩ := h
 exact ⟨E, O, h1, h2, ⟨by omega, by omega⟩, h6, hf _ h7⟩
theorem kpG_some {n : Nat} {s : Mst} (hf : Fit n s) (hn : n ≤ 250) (m : Nat) : kpG s (m : Int) = some (takeP s (toP (keepP m))) := by
 unfold kpG
 have := hf.len
 rw [if_pos (by omega), takeP_keep]
/-- One part more, by the reference, whatever it is called. -/
theorem add_keepP (n : Nat) (s : Mst) (m : Nat) (hn : n ≤ 1000) (hf : Fit n s) (hm : m ≤ 300) : Ev (fun k => spec_l3Add.f k (allP s) (m : Int) (⟨#[]⟩ : ByteArray) (⟨#[]⟩ : ByteArray)) (allP (takeP s (toP (keepP m)))) ∧ Fit (n + 1) (takeP s (toP (keepP m))) := add_step n s (keepP m) hn hf (keepP_one hm)
/-- The two readers take the same. -/
theorem cut_tak {p : IP} {r : List IP} {n : Nat} {a : IP} {x2 : List IP} (h : One p) (hr : GoodR r) (h0 : 0 < n) (h1 : n ≤ psz p) (ht : takQ (p :: r) (n : Int) = some (a, x2)) : ∃ y, cutP p (n : Int) = some (a, y) ∧ restP y r = x2 := by
 obtain ⟨a', y', e1, _, _, _, e5, _, e7⟩ := cutP_spec p r n h hr h0 h1
 by_cases hn : n = psz p
 ·have : takQ (p :: r) (n : Int) = some (p, r) := by
   unfold takQ
   dsimp only
   rw [if_pos (by rw [szQ_psz h, hn])]
  rw [this] at ht
  simp only [Option.some.injEq, Prod.mk.injEq] at ht
  refine ⟨y', ?_, ?_⟩
  ·rw [e1, e7 hn, ht.1]
  ·rw [e5 hn, ht.2]
 ·have hlt : n < psz p := by omega
  have hne : ¬ (n : Int) = szQ p := by rw [szQ_psz h]; omega
  have nz : ∀ y : IP, One y → psz y = psz p - n → restP y r = y :: r := fun y hy hz => by
   unfold restP
   rw [if_neg (fun q => by have := (zeroP_iff y hy).1 q; omega)]
  unfold takQ at ht
  dsimp only at ht
  rw [if_neg hne] at ht
  unfold cutP
  by_cases hk : 0 < p.f0
  ·obtain ⟨c1, ⟨c2, c3⟩, c4⟩ := cut_keep h h0 hlt hk
   rw [if_pos hk] at ht
   simp only [Option.some.injEq, Prod.mk.injEq] at ht
   obtain ⟨rfl, rfl⟩ := ht
   have hb0 := h.1
   have hb1 := h.2.1
   have hb : psz p ≤ 1000 := by obtain ⟨_, _, q3, q4, _, _⟩ := h; unfold psz; omega
   have w : wrap64 (p.f0 - n) = p.f0 - n := wrap_id (by omega) (by omega)
   exact ⟨_, if_pos hk, by rw [w]; exact nz _ c2 c3⟩
  ·rw [if_neg hk] at ht ⊢
   by_cases hp : p.f1.size = 0
   ·obtain ⟨hn2, c1, ⟨c2, c3⟩, c4⟩ := cut_drop h h0 hlt hk hp
    rw [if_pos ((toList_nil _).2 hp)] at ht ⊢
    rw [if_pos (by omega)] at ht ⊢
    simp only [Option.some.injEq, Prod.mk.injEq, Int.toNat_natCast] at ht
    obtain ⟨rfl, rfl⟩ := ht
    exact ⟨_, by rw [Int.toNat_natCast], nz _ c2 c3⟩
   ·obtain ⟨hn2, c1, ⟨c2, c3⟩, c4⟩ := cut_put h h0 hlt hk hp
    rw [if_neg (fun e => hp ((toList_nil _).1 e))] at ht ⊢
    rw [if_pos (by omega)] at ht ⊢
    simp only [Option.some.injEq, Prod.mk.injEq, Int.toNat_natCast] at ht
    obtain ⟨rfl, rfl⟩ := ht
    exact ⟨_, by rw [Int.toNat_natCast], nz _ c2 c3⟩
theorem tr_is : ∀ (m : Nat) (x y : List IP) (s u : Mst) (n : Nat), GoodR x → GoodR y → x.length + y.length < m → n + m ≤ 250 → Fit n s → Fit n u → tkA (atL x) = tkA (atL y) → TrIs (emT (atL x) (atL y)) m s u (trI m s u x y) (fun k => trS k m (allP s) (allP u) x y)
 | 0, x, y, s, u, n, _, _, h, _, _, _, _ => absurd h (by omega)
 | m + 1, [], [], s, u, n, hx, hy, h, hn, hf, hu, hb => by
  refine ⟨[], [], et_00, ⟨(fun p hp => by cases hp), (fun p hp => by cases hp)⟩, ⟨Nat.succ_pos m, Nat.succ_pos m⟩, by rw [trI]; rfl, ?_⟩
  exact ev_val' (f := fun _ => some (allP s, allP u)) (fun k => by rw [trS]) (ev_ret rfl)
 | m + 1, p :: x, [], s, u, n, hx, hy, h, hn, hf, hu, hb => by
  obtain ⟨⟨hp, hz⟩, hx'⟩ := goodR_cons hx
  rw [List.length_cons, List.length_nil] at h
  rw [atL_cons, tkA_app, tkA_part, atL_nil] at hb
  have hb0 : tkA [] = 0 := rfl
  have hp1 : p.f1.size ≤ 300 := hp.2.2.1
  have hd : p.f1.size ≠ 0 := by unfold psz at hz; omega
  obtain ⟨a1, a2⟩ := add_step n s p (by omega) hf hp
  obtain ⟨b1, b2⟩ := add_keepP n u p.f1.size (by omega) hu hp1
  refine tr_both (tr_is m x [] _ _ (n + 1) hx' hy (by simp only [List.length_nil]; omega) (by omega) a2 b2 (by rw [atL_nil]; omega)) hp (keepP_one hp1) ?_ ?_ (fun r hr => ?_)
  ·rw [atL_cons]; exact et_putP p _ _ hp hd
  ·rw [trI, if_neg (fun e => hd ((toList_nil _).1 e)), tkG_some hf (by omega) hp, kpG_some hu (by omega)]; rfl
  ·exact ev_val' (fun k => by rw [trS, if_neg (fun e => hd ((toList_nil _).1 e))]) (Ev.bind a1 (Ev.bind b1 hr))
 | m + 1, [], q :: y, s, u, n, hx, hy, h, hn, hf, hu, hb => by
  obtain ⟨⟨hq, hz⟩, hy'⟩ := goodR_cons hy
  rw [List.length_cons, List.length_nil] at h
  rw [atL_cons, tkA_app, tkA_part, atL_nil] at hb
  have hb0 : tkA [] = 0 := rfl
  have hp1 : q.f1.size ≤ 300 := hq.2.2.1
  have hd : q.f1.size ≠ 0 := by unfold psz at hz; omega
  obtain ⟨a1, a2⟩ := add_step n u q (by omega) hu hq
  obtain ⟨b1, b2⟩ := add_keepP n s q.f1.size (by omega) hf hp1
  refine tr_both (tr_is m [] y _ _ (n + 1) hx hy' (by simp only [List.length_nil]; omega) (by omega) b2 a2 (by rw [atL_nil]; omega)) (keepP_one hp1) hq ?_ ?_ (fun r hr => ?_)
  ·rw [atL_cons, atL_nil]; exact et_putQ q [] _ hq hd True.intro
  ·rw [trI, if_neg (fun e => hd ((toList_nil _).1 e)), tkG_some hu (by omega) hq, kpG_some hf (by omega)]; rfl
  ·exact ev_val' (fun k => by rw [trS, if_neg (fun e => hd ((toList_nil _).1 e))]) (Ev.bind a1 (Ev.bind b1 hr))
 | m + 1, p :: x, q :: y, s, u, n, hx, hy, h, hn, hf, hu, hb => by
  obtain ⟨⟨hp, hzp⟩, hx'⟩ := goodR_cons hx
  obtain ⟨⟨hq, hzq⟩, hy'⟩ := goodR_cons hy
  rw [List.length_cons, List.length_cons] at h
  by_cases hd : p.f1.size = 0
  ·by_cases hv : q.f1.size = 0
   ·obtain ⟨t, ht, ht2, e0, e1, e2, e3⟩ : ∃ t : Nat, (if szQ q < szQ p then szQ q else szQ p) = (t : Int) ∧ (if szI q < szI p then szI q else szI p) = (t : Int) ∧ 0 < t ∧ t ≤ psz p ∧ t ≤ psz q ∧ (t = psz p ∨ t = psz q) := by
     rw [szQ_psz hp, szQ_psz hq, szI_psz hp, szI_psz hq]
     by_cases c : (psz q : Int) < psz p
     ·exact ⟨psz q, by rw [if_pos c], by rw [if_pos c], hzq, by omega, by omega, .inr rfl⟩
     ·exact ⟨psz p, by rw [if_neg c], by rw [if_neg c], hzp, by omega, by omega, .inl rfl⟩
    obtain ⟨a, x2, b1, b2, b3, b4, b5, b6⟩ := takQ_spec p x t hp hx' e0 e1
    obtain ⟨b, y2, c1, c2, c3, c4, c5, c6⟩ := takQ_spec q y t hq hy' e0 e2
    obtain ⟨ra, i1, i2⟩ := cut_tak hp hx' e0 e1 b1
    obtain ⟨rb, j1, j2⟩ := cut_tak hq hy' e0 e2 c1
    have hlen : x2.length + y2.length < m := by
     rcases e3 with e | e
     ·rw [b5 e]; omega
     ·rw [c5 e]; omega
    have hem := et_step a b (atL x2) (atL y2) b2.one c2.one (b2.sz.trans c2.sz.symm) (b2.put.2 hd) (c2.put.2 hv)
    rw [b4, c4, tkA_app, tkA_app, tkA_part, tkA_part] at hb
    have hb' : tkA (atL x2) = tkA (atL y2) := by
     have z1 := b2.sz; have z2 := c2.sz; have z3 := b2.put.2 hd; have z4 := c2.put.2 hv
     unfold psz at z1 z2; omega
    rw [← b4, ← c4] at hem
    rw [hem]
    obtain ⟨m1, m2⟩ := add_step n s a (by omega) hf b2.one
    obtain ⟨o1, o2⟩ := add_step n u b (by omega) hu c2.one
    have gI : trI (m + 1) s u (p :: x) (q :: y) = if 0 < b.f0 then (if 0 < a.f0 then (tkG s a).bind fun z => (tkG u b).bind fun t => trI m z t x2 y2 else (tkG s a).bind fun z => trI m z u x2 y2) else if 0 < a.f0 then (tkG u b).bind fun t => trI m s t x2 y2 else trI m s u x2 y2 := by
     rw [trI, if_pos ((toList_nil _).2 hd), if_pos ((toList_nil _).2 hv), ht2, i1, j1]
     dsimp only [Option.bind_some]
     rw [i2, j2]
    have gS : ∀ {r : List IP × List IP}, Ev (fun k => if 0 < a.f0 then (if 0 < b.f0 then (spec_l3Add.f k (allP s) a.f0 a.f1 a.f2).bind fun ax => (spec_l3Add.f k (allP u) b.f0 b.f1 b.f2).bind fun bx => trS k m ax bx x2 y2 else (spec_l3Add.f k (allP u) b.f0 b.f1 b.f2).bind fun bx => trS k m (allP s) bx x2 y2) else if 0 < b.f0 then (spec_l3Add.f k (allP s) a.f0 a.f1 a.f2).bind fun ax => trS k m ax (allP u) x2 y2 else trS k m (allP s) (allP u) x2 y2) r → Ev (fun k => trS k (m + 1) (allP s) (allP u) (p :: x) (q :: y)) r := by
     intro r hr
     refine ev_val' (fun k => ?_) hr
     rw [trS, if_pos ((toList_nil _).2 hd), if_pos ((toList_nil _).2 hv), ht, b1, c1]; rfl
    by_cases ka : 0 < a.f0
    ·rw [if_pos ka]
     by_cases kb : 0 < b.f0
     ·rw [if_pos kb, gI.trans ((if_pos kb).trans (if_pos ka))]
      exact tr_both (tr_is m x2 y2 _ _ (n + 1) b3 c3 hlen (by omega) m2 o2 hb') b2.one c2.one rfl (by rw [tkG_some hf (by omega) b2.one, tkG_some hu (by omega) c2.one]; rfl) (fun r hr => gS (ev_pos ka (ev_pos kb (Ev.bind m1 (Ev.bind o1 hr)))))
     ·rw [if_neg kb, gI.trans ((if_neg kb).trans (if_pos ka))]
      exact tr_two (tr_is m x2 y2 _ _ (n + 1) b3 c3 hlen (by omega) hf.more o2 hb') c2.one rfl (by rw [tkG_some hu (by omega) c2.one]; rfl) (fun r hr => gS (ev_pos ka (ev_neg kb (Ev.bind o1 hr))))
    ·rw [if_neg ka]
     by_cases kb : 0 < b.f0
     ·rw [if_pos kb, gI.trans ((if_pos kb).trans (if_neg ka))]
      exact tr_one (tr_is m x2 y2 _ _ (n + 1) b3 c3 hlen (by omega) m2 hu.more hb') b2.one rfl (by rw [tkG_some hf (by omega) b2.one]; rfl) (fun r hr => gS (ev_neg ka (ev_pos kb (Ev.bind m1 hr))))
     ·rw [if_neg kb, gI.trans ((if_neg kb).trans (if_neg ka)), app2_nil]
      exact tr_zero (tr_is m x2 y2 _ _ (n + 1) b3 c3 hlen (by omega) hf.more hu.more hb') rfl rfl (fun r hr => gS (ev_neg ka (ev_neg kb hr)))
   ·have hp1 : q.f1.size ≤ 300 := hq.2.2.1
    obtain ⟨a1, a2⟩ := add_step n u q (by omega) hu hq
    obtain ⟨b1, b2⟩ := add_keepP n s q.f1.size (by omega) hf hp1
    have hq2 : q.f0 = 0 ∧ q.f2.size = 0 := by have := hq.2.2.2.2.1; have := hq.2.2.2.2.2; omega
    refine tr_both (tr_is m (p :: x) y _ _ (n + 1) hx hy' (by simp only [List.length_cons]; omega) (by omega) b2 a2 ?_) (keepP_one hp1) hq ?_ ?_ (fun r hr => ?_)
    ·rw [atL_cons q y, tkA_app, tkA_part] at hb; omega
    ·rw [atL_cons q y]; exact et_putQ q _ _ hq hv (noP_cons p x hp hzp hd)
    ·rw [trI, if_pos ((toList_nil _).2 hd), if_neg (fun e => hv ((toList_nil _).1 e)), tkG_some hu (by omega) hq, kpG_some hf (by omega)]; rfl
    ·exact ev_val' (fun k => by rw [trS, if_pos ((toList_nil _).2 hd), if_neg (fun e => hv ((toList_nil _).1 e))]) (Ev.bind a1 (Ev.bind b1 hr))
  ·have hp1 : p.f1.size ≤ 300 := hp.2.2.1
   obtain ⟨a1, a2⟩ := add_step n s p (by omega) hf hp
   obtain ⟨b1, b2⟩ := add_keepP n u p.f1.size (by omega) hu hp1
   have hp2 : p.f0 = 0 ∧ p.f2.size = 0 := by have := hp.2.2.2.2.1; have := hp.2.2.2.2.2; omega
   refine tr_both (tr_is m x (q :: y) _ _ (n + 1) hx' hy (by simp only [List.length_cons]; omega) (by omega) a2 b2 ?_) hp (keepP_one hp1) ?_ ?_ (fun r hr => ?_)
   ·rw [atL_cons p x, tkA_app, tkA_part] at hb; omega
   ·rw [atL_cons p x]; exact et_putP p _ _ hp hd
   ·rw [trI, if_neg (fun e => hd ((toList_nil _).1 e)), tkG_some hf (by omega) hp, kpG_some hu (by omega)]; rfl
   ·exact ev_val' (fun k => by rw [trS, if_neg (fun e => hd ((toList_nil _).1 e))]) (Ev.bind a1 (Ev.bind b1 hr))
theorem spec_l4Bytes_l (l : List IP) (hl : l.length ≤ 60) (hp : ∀ p ∈ l, partB p = true) (d : Nat) : ∀ (i : Nat) (a : List Int), i + d = l.length → a.length ≤ 600 * i →
  Ev (fun k => spec_l4Bytes.l0 k a l (l.length : Int) (i : Int)) (a ++ dropL (l.drop i)) := by
 induction d with
 | zero =>
  intro i a hi ha
  refine Ev.step (fun k => by rw [spec_l4Bytes.l0]) ?_
  refine ev_neg (by omega) (ev_ret ?_)
  rw [List.drop_eq_nil_of_le (by omega)]; simp [dropL]
 | succ d ih =>
  intro i a hi ha
  obtain ⟨f1, f2, f3, f4, f5⟩ := part_facts (hp _ (gt_mem izP l i (by omega)))
  refine Ev.step (fun k => by rw [spec_l4Bytes.l0]) ?_
  refine ev_pos (by omega) (ev_pos (by omega) (ev_pos (by omega) ?_))
  rw [gt_drop izP l i (by omega), wrap_succ i (by omega)]
  simp only [rd_ip]
  refine ev_pos (by omega) (ev_pos (by omega) (ev_some (ev_pos ?_ ?_)))
  ·rw [List.length_append, List.length_replicate]; omega
  ·refine ev_val (ih (i + 1) _ (by omega) ?_) ?_
   ·rw [List.length_append, List.length_append, List.length_replicate, bytesOf_length]; omega
   ·simp only [dropL, List.append_assoc]
theorem spec_l4Bytes_f (l : List IP) (hl : l.length ≤ 60) (hp : ∀ p ∈ l, partB p = true) : Ev (fun k => spec_l4Bytes.f k l) (dropL l) := by
 unfold spec_l4Bytes.f
 exact spec_l4Bytes_l l hl hp l.length 0 [] (by omega) (by simp)
theorem impl_dropped_l (l : List IP) (hl : l.length ≤ 60) (hp : ∀ p ∈ l, partB p = true) (d : Nat) : ∀ (i : Nat) (a : List Int), i + d = l.length → a.length ≤ 600 * i →
  Ev (fun k => impl_dropped.l0 k a l (l.length : Int) (i : Int)) (a ++ dropL (l.drop i)) := by
 induction d with
 | zero =>
  intro i a hi ha
  refine Ev.step (fun k => by rw [impl_dropped.l0]) ?_
  refine ev_neg (by omega) (ev_ret ?_)
  rw [List.drop_eq_nil_of_le (by omega)]; simp [dropL]
 | succ d ih =>
  intro i a hi ha
  obtain ⟨f1, f2, f3, f4, f5⟩ := part_facts (hp _ (gt_mem izP l i (by omega)))
  refine Ev.step (fun k => by rw [impl_dropped.l0]) ?_
  refine ev_pos (by omega) (ev_pos (by omega) (ev_pos (by omega) ?_))
  rw [gt_drop izP l i (by omega), wrap_succ i (by omega)]
  simp only [rd_ip]
  refine ev_pos (by omega) (ev_pos (by omega) (ev_some (ev_pos ?_ ?_)))
  ·rw [List.length_append, List.length_replicate]; omega
  ·refine ev_val (ih (i + 1) _ (by omega) ?_) ?_
   ·rw [List.length_append, List.length_append, List.length_replicate, bytesOf_length]; omega
   ·simp only [dropL, List.append_assoc]
theorem impl_dropped_f (l : List IP) (hl : l.length ≤ 60) (hp : ∀ p ∈ l, partB p = true) : Ev (fun k => impl_dropped.f k l) (dropL l) := by
 unfold impl_dropped.f
 exact impl_dropped_l l hl hp l.length 0 [] (by omega) (by simp)
def sameD (x y : List Int) : Nat → Nat → Bool × Bool
 | 0, _ => (true, true)
 | d + 1, i => if rd x (i : Int) = 0 then sameD x y d (i + 1) else (if rd y (i : Int) = 0 then sameD x y d (i + 1) else (if rd x (i : Int) = rd y (i : Int) then sameD x y d (i + 1) else (false, true)))
theorem spec_l4Same_l (x y : List Int) (hx : x.length ≤ 1048576) (hxy : x.length = y.length) (d : Nat) : ∀ i : Nat, i + d = x.length →
  Ev (fun k => spec_l4Same.l0 k x y (x.length : Int) (i : Int)) (sameD x y d i) := by
 induction d with
 | zero =>
  intro i hi
  refine Ev.step (fun k => by rw [spec_l4Same.l0]) ?_
  exact ev_neg (by omega) (ev_ret rfl)
 | succ d ih =>
  intro i hi
  refine Ev.step (fun k => by rw [spec_l4Same.l0]) ?_
  refine ev_pos (by omega) (ev_pos (by omega) (ev_pos (by omega) ?_))
  rw [wrap_succ i (by omega)]
  have ih' := ih (i + 1) (by omega)
  unfold sameD
  refine ev_if (fun h => by rw [if_pos h]; exact ih') (fun h => ?_)
  rw [if_neg h]
  refine ev_pos (by omega) (ev_if (fun h => by rw [if_pos h]; exact ih') (fun h => ?_))
  rw [if_neg h]
  exact ev_if (fun h => by rw [if_pos h]; exact ih') (fun h => by rw [if_neg h]; exact ev_ret rfl)
theorem impl_SameTexts_l (x y : List Int) (hx : x.length ≤ 1048576) (hxy : x.length = y.length) (d : Nat) : ∀ i : Nat, i + d = x.length →
  Ev (fun k => impl_SameTexts.l0 k y x (x.length : Int) (i : Int)) (sameD x y d i) := by
 induction d with
 | zero =>
  intro i hi
  refine Ev.step (fun k => by rw [impl_SameTexts.l0]) ?_
  exact ev_neg (by omega) (ev_ret rfl)
 | succ d ih =>
  intro i hi
  refine Ev.step (fun k => by rw [impl_SameTexts.l0]) ?_
  refine ev_pos (by omega) (ev_pos (by omega) (ev_pos (by omega) ?_))
  rw [wrap_succ i (by omega)]
  have ih' := ih (i + 1) (by omega)
  unfold sameD
  refine ev_if (fun h => by rw [if_pos h]; exact ih') (fun h => ?_)
  rw [if_neg h]
  refine ev_pos (by omega) (ev_if (fun h => by rw [if_pos h]; exact ih') (fun h => ?_))
  rw [if_neg h]
  exact ev_if (fun h => by rw [if_pos h]; exact ih') (fun h => by rw [if_neg h]; exact ev_ret rfl)
def sameR (a b : List IP) : Bool × Bool := if (dropL a).length = (dropL b).length then sameD (dropL a) (dropL b) (dropL a).length 0 else (false, false)
theorem spec_l4Same_f (a b : List IP) (ha : a.length ≤ 60) (pa : ∀ p ∈ a, partB p = true) (hb : b.length ≤ 60) (pb : ∀ p ∈ b, partB p = true) : Ev (fun k => spec_l4Same.f k a b) (sameR a b) := by
 unfold spec_l4Same.f sameR
 have la := dropL_len a pa
 refine Ev.bind (spec_l4Bytes_f a ha pa) (Ev.bind (spec_l4Bytes_f b hb pb) ?_)
 by_cases c : (dropL a).length = (dropL b).length
 ·rw [if_pos c]
  exact ev_pos (by omega) (spec_l4Same_l _ _ (by omega) c _ 0 (by omega))
 ·rw [if_neg c]
  exact ev_neg (by omega) (ev_ret rfl)
def sameT (a b : List IP) : Bool × Bool := if goodO a = true then (if goodO b = true then sameR a b else (false, false)) else (false, false)
theorem impl_SameTexts_f (a b : List IP) (wa : ∀ x ∈ a, x.f1.size ≤ 1048576 ∧ x.f2.size ≤ 1048576) (wb : ∀ x ∈ b, x.f1.size ≤ 1048576 ∧ x.f2.size ≤ 1048576) : Ev (fun k => impl_SameTexts.f k a b) (sameT a b) := by
 unfold impl_SameTexts.f sameT
 refine Ev.bind (impl_GoodOp_f a wa) (ev_if (fun ga => ?_) (fun ga => ?_))
 ·rw [if_pos ga]
  refine Ev.bind (impl_GoodOp_f b wb) ?_
  refine Ev.step (fun k => by rw [impl_SameTexts.j0]) ?_
  by_cases gb : goodO b = true
  ·rw [if_pos gb]
   obtain ⟨ha, pa, _, _⟩ := goodO_facts ga
   obtain ⟨hb, pb, _, _⟩ := goodO_facts gb
   have la := dropL_len a pa
   refine ev_neg (by rw [gb]; simp) (Ev.bind (impl_dropped_f a ha pa) (Ev.bind (impl_dropped_f b hb pb) ?_))
   unfold sameR
   by_cases c : (dropL a).length = (dropL b).length
   ·rw [if_pos c]
    exact ev_pos (by omega) (impl_SameTexts_l _ _ (by omega) c _ 0 (by omega))
   ·rw [if_neg c]
    exact ev_neg (by omega) (ev_ret rfl)
  ·rw [if_neg gb]
   rw [Bool.not_eq_true] at gb
   exact ev_pos (by rw [gb]; rfl) (ev_ret rfl)
 ·rw [if_neg ga]
  refine Ev.step (fun k => by rw [impl_SameTexts.j0]) ?_
  exact ev_pos rfl (ev_ret rfl)
theorem normal_l (l : List IP) (hl : l.length ≤ 60) (hp : ∀ p ∈ l, One p) (d : Nat) : ∀ i : Nat, i + d = l.length → Fit i (stN l i) →
  Ev (fun k => spec_l3Normal.l0 k (allP (stN l i)) l (l.length : Int) (i : Int)) ((normP (l.map toP)).map ofP) := by
 induction d with
 | zero =>
  intro i hi hf
  refine Ev.step (fun k => by rw [spec_l3Normal.l0]) ?_
  refine ev_neg (by omega) (ev_ret ?_)
  have e : stN l i = (l.map toP).foldl takeP ([], ⟨#[]⟩, ⟨#[]⟩) := by unfold stN; rw [List.take_of_length_le (by omega)]
  unfold allP normP; rw [e]
 | succ d ih =>
  intro i hi hf
  have hm := hp _ (gt_mem izP l i (by omega))
  have es := stN_succ l i (by omega)
  have eg : l[i]'(by omega) = gt izP l i := by unfold gt; rw [List.getD_eq_getElem?_getD, List.getElem?_eq_getElem (by omega)]; rfl
  rw [eg] at es
  obtain ⟨h1, h2⟩ := add_step i (stN l i) (gt izP l i) (by omega) hf hm
  rw [← es] at h1 h2
  refine Ev.step (fun k => by rw [spec_l3Normal.l0]) ?_
  refine ev_pos (by omega) (ev_pos (by omega) (ev_pos (by omega) ?_))
  rw [wrap_succ i (by omega)]
  simp only [rd_ip]
  exact Ev.bind h1 (ih (i + 1) (by omega) h2)
theorem spec_l3Normal_f (l : List IP) (hl : l.length ≤ 60) (hp : ∀ p ∈ l, One p) : Ev (fun k => spec_l3Normal.f k l) (normI l) := by
 unfold spec_l3Normal.f
 have e : allP (stN l 0) = [] := by
  have e0 : stN l 0 = ([], (⟨#[]⟩ : ByteArray), (⟨#[]⟩ : ByteArray)) := rfl
  rw [e0]; unfold allP; rw [endL_00 sz0 sz0]; rfl
 have := normal_l l hl hp l.length 0 (by omega) fit_zero
 rw [e] at this
 exact this
/-- What changes set beside one another answer. -/
def trR (a b : List IP) : List IP × List IP × Bool :=
 if sameT a b = (true, true) then
  (match emT (atL (normI a)) (atL (normI b)) with
   | some r => if goodO (nfA r.1) = true ∧ goodO (nfA r.2) = true then (nfA r.1, nfA r.2, true) else ([], [], false)
   | none => ([], [], false))
 else ([], [], false)
theorem sameT_good {a b : List IP} (h : sameT a b = (true, true)) : goodO a = true ∧ goodO b = true ∧ sameR a b = (true, true) ∧ tsum a = tsum b := by
 unfold sameT at h
 by_cases ga : goodO a = true
 ·rw [if_pos ga] at h
  by_cases gb : goodO b = true
  ·rw [if_pos gb] at h
   refine ⟨ga, gb, h, ?_⟩
   unfold sameR at h
   by_cases c : (dropL a).length = (dropL b).length
   ·have e : ∀ l : List IP, (dropL l).length = tsum l := fun l => by
     induction l with
     | nil => rfl
     | cons p r ih => rw [dropL, List.length_append, List.length_append, List.length_replicate, bytesOf_length, ih, tsum_cons]; rfl
    rw [e, e] at c; exact c
   ·rw [if_neg c] at h; cases h
  ·rw [if_neg gb] at h; cases h
 ·rw [if_neg ga] at h; cases h
theorem allP_norm (E : List IP) : allP ((E.map toP).foldl takeP ([], ⟨#[]⟩, ⟨#[]⟩)) = normI E := rfl
theorem tr_walks {a b : List IP} (h : sameT a b = (true, true)) : ∃ E O : List IP, emT (atL (normI a)) (atL (normI b)) = some (atL E, atL O) ∧ ((∀ p ∈ E, One p) ∧ (∀ p ∈ O, One p)) ∧ (E.length < 121 ∧ O.length < 121) ∧
  trI 121 ([], ⟨#[]⟩, ⟨#[]⟩) ([], ⟨#[]⟩, ⟨#[]⟩) (normI a) (normI b) = some ((E.map toP).foldl takeP ([], ⟨#[]⟩, ⟨#[]⟩), (O.map toP).foldl takeP ([], ⟨#[]⟩, ⟨#[]⟩)) ∧ Ev (fun k => trS k 121 [] [] (normI a) (normI b)) (normI E, normI O) := by
 obtain ⟨ga, gb, _, ht⟩ := sameT_good h
 obtain ⟨na, ta, _⟩ := norm_good ga
 obtain ⟨nb, tb, _⟩ := norm_good gb
 obtain ⟨la, _, _, _⟩ := goodO_facts na
 obtain ⟨lb, _, _, _⟩ := goodO_facts nb
 have e0 : allP ([], (⟨#[]⟩ : ByteArray), (⟨#[]⟩ : ByteArray)) = [] := by unfold allP; rw [endL_00 sz0 sz0]; rfl
 obtain ⟨E, O, h1, h2, h3, h4, h5⟩ := tr_is 121 (normI a) (normI b) ([], ⟨#[]⟩, ⟨#[]⟩) ([], ⟨#[]⟩, ⟨#[]⟩) 0 (goodR_of na) (goodR_of nb) (by omega) (by omega) fit_zero fit_zero (by rw [tkA_list, tkA_list]; omega)
 rw [e0, allP_norm, allP_norm] at h5
 exact ⟨E, O, h1, h2, h3, h4, h5⟩
theorem trR_is {a b : List IP} (h : sameT a b = (true, true)) {E O : List IP} (he : emT (atL (normI a)) (atL (normI b)) = some (atL E, atL O)) (h1 : ∀ p ∈ E, One p) (h2 : ∀ p ∈ O, One p) (l1 : E.length ≤ 1000) (l2 : O.length ≤ 1000) : trR a b = if goodO (normI E) = true ∧ goodO (normI O) = true then (normI E, normI O, true) else ([], [], false) := by
 unfold trR
 rw [if_pos h, he, nf_norm E l1 h1, nf_norm O l2 h2]
theorem trR_no {a b : List IP} (h : ¬ sameT a b = (true, true)) : trR a b = ([], [], false) := by unfold trR; rw [if_neg h]
theorem impl_goodOp_g (l : List IP) (hw : ∀ x ∈ l, x.f1.size ≤ 1048576 ∧ x.f2.size ≤ 1048576) : Ev (fun k => impl_goodOp.f k l) (if goodO l = true then l else [], goodO l) := by
 unfold impl_goodOp.f
 refine Ev.bind (impl_GoodOp_f l hw) ?_
 by_cases g : goodO l = true
 ·exact ev_val (ev_pos g (ev_ret rfl)) (by rw [if_pos g, g])
 ·exact ev_val (ev_neg g (ev_ret rfl)) (by rw [if_neg g, Bool.eq_false_iff.2 g])
theorem impl_TransformOps_f (a b : List IP) (ha : ∀ x ∈ a, x.f1.size ≤ 1048576 ∧ x.f2.size ≤ 1048576) (hb : ∀ x ∈ b, x.f1.size ≤ 1048576 ∧ x.f2.size ≤ 1048576) : Ev (fun k => impl_TransformOps.f k a b) (trR a b) := by
 unfold impl_TransformOps.f
 refine Ev.bind (impl_SameTexts_f a b ha hb) ?_
 by_cases h : sameT a b = (true, true)
 ·obtain ⟨ga, gb, _, _⟩ := sameT_good h
  obtain ⟨la, pa, _, _⟩ := goodO_facts ga
  obtain ⟨lb, pb, _, _⟩ := goodO_facts gb
  obtain ⟨na, _, _⟩ := norm_good ga
  obtain ⟨nb, _, _⟩ := norm_good gb
  obtain ⟨lna, _, _, _⟩ := goodO_facts na
  obtain ⟨lnb, _, _, _⟩ := goodO_facts nb
  obtain ⟨E, O, h1, ⟨h2, h3⟩, ⟨h4, h5⟩, h6, _⟩ := tr_walks h
  rw [trR_is h h1 h2 h3 (by omega) (by omega)]
  rw [h]
  refine ev_pos rfl (ev_pos rfl (ev_eq (impl_normal_f a la (fun p q => part_one (pa p q))) (ev_eq (impl_normal_f b lb (fun p q => part_one (pb p q))) (ev_pos (by omega) (Ev.bind (Ev.of (fun k => trI_mono k _ _ _ _) h6) ?_)))))
  have l1 := fold_len E h2
  have l2 := fold_len O h3
  refine ev_val' (f := fun k => if ((E.map toP).foldl takeP ([], ⟨#[]⟩, ⟨#[]⟩)).1.length ≤ 1000 ∧ ((O.map toP).foldl takeP ([], ⟨#[]⟩, ⟨#[]⟩)).1.length ≤ 1000 then (impl_goodOp.f k (normI E)).bind fun g1 => (impl_goodOp.f k (normI O)).bind fun g2 => some (if g1.2 = true ∧ g2.2 = true then g1.1 else [], if g1.2 = true ∧ g2.2 = true then g2.1 else [], g1.2 && g2.2) else none) (fun k => rfl) (ev_pos (by omega) (Ev.bind (impl_goodOp_g (normI E) (normI_small2 E (by omega) h2).1) (Ev.bind (impl_goodOp_g (normI O) (normI_small2 O (by omega) h3).1) (ev_ret ?_))))
  dsimp only
  by_cases g : goodO (normI E) = true ∧ goodO (normI O) = true
  ·rw [if_pos g, if_pos g, if_pos g, if_pos g.1, if_pos g.2, g.1, g.2]; rfl
  ·rw [if_neg g, if_neg g, if_neg g]
   have : (goodO (normI E) && goodO (normI O)) = false := by
    rw [Bool.eq_false_iff]; intro q; exact g ((Bool.and_eq_true _ _).mp q)
   rw [this]
 ·rw [trR_no h]
  cases e : sameT a b with
  | mk s1 s2 =>
   dsimp only
   cases s2 with
   | false => exact ev_neg (by simp) (ev_ret rfl)
   | true =>
    cases s1 with
    | false => exact ev_pos rfl (ev_neg (by simp) (ev_ret rfl))
    | true => exact absurd e h
theorem trS_more (k : Nat) : ∀ (m : Nat) (ax bx x y : List IP), LeO (trS k m ax bx x y) (trS k (m + 1) ax bx x y)
 | 0, ax, bx, x, y => by rw [trS]; exact LeO.none _
 | m + 1, ax, bx, [], [] => by rw [trS, trS]; exact LeO.refl _
 | m + 1, ax, bx, p :: x, [] => by
  rw [trS, trS]
  exact LeO.ite (LeO.refl _) (LeO.bind (LeO.refl _) (fun _ => LeO.bind (LeO.refl _) (fun _ => trS_more k m _ _ _ _)))
 | m + 1, ax, bx, [], q :: y => by
  rw [trS, trS]
  exact LeO.ite (LeO.refl _) (LeO.bind (LeO.refl _) (fun _ => LeO.bind (LeO.refl _) (fun _ => trS_more k m _ _ _ _)))
 | m + 1, ax, bx, p :: x, q :: y => by
  rw [trS, trS]
  exact LeO.ite (LeO.ite (LeO.bind (LeO.refl _) (fun _ => LeO.bind (LeO.refl _) (fun _ => LeO.ite (LeO.ite (LeO.bind (LeO.refl _) (fun _ => LeO.bind (LeO.refl _) (fun _ => trS_more k m _ _ _ _))) (LeO.bind (LeO.refl _) (fun _ => trS_more k m _ _ _ _))) (LeO.ite (LeO.bind (LeO.refl _) (fun _ => trS_more k m _ _ _ _)) (trS_more k m _ _ _ _)))))
   (LeO.bind (LeO.refl _) (fun _ => LeO.bind (LeO.refl _) (fun _ => trS_more k m _ _ _ _)))) (LeO.bind (LeO.refl _) (fun _ => LeO.bind (LeO.refl _) (fun _ => trS_more k m _ _ _ _)))
theorem trS_ev {m : Nat} {ax bx x y : List IP} {r : List IP × List IP} (h : Ev (fun k => trS k m ax bx x y) r) : Ev (fun k => trS k k ax bx x y) r := by
 obtain ⟨K, hK⟩ := h
 refine ⟨K + m, fun k hk => ?_⟩
 have h1 := hK k (by omega)
 obtain ⟨d, rfl⟩ : ∃ d, k = m + d := ⟨k - m, by omega⟩
 have : ∀ d', trS (m + d) (m + d') ax bx x y = some r := fun d' => by
  induction d' with
  | zero => exact h1
  | succ d' ih => exact trS_more _ _ _ _ _ _ r ih
 exact this d
theorem spec_TransformOps_f (a b : List IP) (ha : ∀ x ∈ a, x.f1.size ≤ 1048576 ∧ x.f2.size ≤ 1048576) (hb : ∀ x ∈ b, x.f1.size ≤ 1048576 ∧ x.f2.size ≤ 1048576) : Ev (fun k => spec_TransformOps.f k a b) (trR a b) := by
 unfold spec_TransformOps.f
 refine Ev.bind (spec_GoodOp_f a ha) ?_
 by_cases ga : goodO a = true
 ·refine ev_pos ga (Ev.bind (spec_GoodOp_f b hb) ?_)
  refine Ev.step (fun k => by rw [spec_TransformOps.j0]) ?_
  by_cases gb : goodO b = true
  ·obtain ⟨la, pa, _, _⟩ := goodO_facts ga
   obtain ⟨lb, pb, _, _⟩ := goodO_facts gb
   have hs : sameT a b = sameR a b := by unfold sameT; rw [if_pos ga, if_pos gb]
   refine ev_neg (by rw [gb]; simp) ?_
   have hl : Ev (fun k => spec_l4Transform.f k a b) (if sameT a b = (true, true) then (match emT (atL (normI a)) (atL (normI b)) with | some r => (nfA r.1, nfA r.2, true) | none => ([], [], false)) else ([], [], false)) := by
    unfold spec_l4Transform.f
    refine Ev.bind (spec_l4Same_f a b la pa lb pb) ?_
    rw [← hs]
    by_cases h : sameT a b = (true, true)
    ·obtain ⟨E, O, h1, ⟨h2, h3⟩, ⟨h4, h5⟩, _, h7⟩ := tr_walks h
     obtain ⟨lna, _, _, _⟩ := goodO_facts (norm_good ga).1
     obtain ⟨lnb, _, _, _⟩ := goodO_facts (norm_good gb).1
     have key : Ev (fun k => if (true, true).1 = true then (if (true, true).2 = true then (spec_l3Normal.f k a).bind fun na => (spec_l3Normal.f k b).bind fun nb => (if na.length ≤ 1000 ∧ nb.length ≤ 1000 then (trS k k [] [] na nb).bind fun r => some (r.1, r.2, true) else none) else some ([], [], false)) else some ([], [], false)) (normI E, normI O, true) :=
      ev_pos rfl (ev_pos rfl (Ev.bind (spec_l3Normal_f a la (fun p q => part_one (pa p q))) (Ev.bind (spec_l3Normal_f b lb (fun p q => part_one (pb p q))) (ev_pos (by omega) (Ev.bind (trS_ev h7) (ev_ret rfl))))))
     rw [if_pos h, h1, h]
     rw [nf_norm E (by omega) h2, nf_norm O (by omega) h3] at key
     exact key
    ·rw [if_neg h]
     cases e : sameT a b with
     | mk s1 s2 =>
      dsimp only
      cases s1 with
      | false => exact ev_neg (by simp) (ev_ret rfl)
      | true =>
       cases s2 with
       | false => exact ev_pos rfl (ev_neg (by simp) (ev_ret rfl))
       | true => exact absurd e h
   refine Ev.bind hl ?_
   by_cases h : sameT a b = (true, true)
   ·obtain ⟨E, O, h1, ⟨h2, h3⟩, ⟨h4, h5⟩, _, _⟩ := tr_walks h
    rw [trR_is h h1 h2 h3 (by omega) (by omega), if_pos h, h1]
    dsimp only
    rw [← nf_norm E (by omega) h2, ← nf_norm O (by omega) h3]
    refine ev_pos rfl (Ev.bind (spec_GoodOp_f (normI E) (normI_small2 E (by omega) h2).1) ?_)
    by_cases gE : goodO (normI E) = true
    ·refine ev_pos gE (Ev.bind (spec_GoodOp_f (normI O) (normI_small2 O (by omega) h3).1) ?_)
     by_cases gO : goodO (normI O) = true
     ·exact ev_val (ev_pos gO (ev_ret rfl)) (by rw [if_pos ⟨gE, gO⟩])
     ·exact ev_val (ev_neg gO (ev_ret rfl)) (by rw [if_neg (fun q => gO q.2)])
    ·exact ev_val (ev_neg gE (ev_ret rfl)) (by rw [if_neg (fun q => gE q.1)])
   ·rw [trR_no h, if_neg h]
    exact ev_neg (by simp) (ev_ret rfl)
  ·refine ev_pos (by simp [gb]) (ev_ret ?_)
   rw [trR_no (fun h => gb (sameT_good h).2.1)]
 ·refine ev_neg ga ?_
  refine Ev.step (fun k => by rw [spec_TransformOps.j0]) ?_
  refine ev_pos rfl (ev_ret ?_)
  rw [trR_no (fun h => ga (sameT_good h).1)]
theorem trR_yes {a b : List IP} (h : (trR a b).2.2 = true) : sameT a b = (true, true) ∧ ∃ r, emT (atL (normI a)) (atL (normI b)) = some r ∧ goodO (nfA r.1) = true ∧ goodO (nfA r.2) = true ∧ trR a b = (nfA r.1, nfA r.2, true) := by
 unfold trR at h ⊢
 by_cases c : sameT a b = (true, true)
 ·rw [if_pos c] at h ⊢
  cases e : emT (atL (normI a)) (atL (normI b)) with
  | none => rw [e] at h; cases h
  | some r =>
   rw [e] at h
   dsimp only at h ⊢
   by_cases g : goodO (nfA r.1) = true ∧ goodO (nfA r.2) = true
   ·rw [if_pos g]; exact ⟨c, r, rfl, g.1, g.2, rfl⟩
   ·rw [if_neg g] at h; cases h
 ·rw [if_neg c] at h; cases h
theorem trR_shape (a b : List IP) : (trR a b).2.2 = true ∨ trR a b = ([], [], false) := by
 unfold trR
 by_cases c : sameT a b = (true, true)
 ·rw [if_pos c]
  split
  ·split
   ·exact .inl rfl
   ·exact .inr rfl
  ·exact .inr rfl
 ·rw [if_neg c]; exact .inr rfl
theorem trR_len (a b : List IP) : (trR a b).1.length ≤ 60 ∧ (trR a b).2.1.length ≤ 60 := by
 rcases trR_shape a b with h | h
 ·obtain ⟨_, r, _, g1, g2, e⟩ := trR_yes h
  rw [e]; exact ⟨(goodO_facts g1).1, (goodO_facts g2).1⟩
 ·rw [h]; simp
def trO : List IP → List (List IP) → List IP × Bool
 | a, [] => (a, true)
 | a, b :: r => if (trR a b).2.2 = true then trO (trR a b).1 r else ([], false)
def ovR (a : List IP) (l : List (List IP)) : List IP × Bool := if goodO a = true ∧ l.length ≤ 20 then trO a l else ([], false)
theorem trO_len : ∀ (l : List (List IP)) (a : List IP), a.length ≤ 60 → (trO a l).1.length ≤ 60
 | [], a, h => h
 | b :: r, a, h => by
  unfold trO
  split
  ·exact trO_len r _ (trR_len a b).1
  ·simp
theorem ovR_len (a : List IP) (l : List (List IP)) : (ovR a l).1.length ≤ 60 := by
 unfold ovR
 split
 ·rename_i h; exact trO_len l a (goodO_facts h.1).1
 ·simp
theorem good_small {a : List IP} (h : goodO a = true) : ∀ x ∈ a, x.f1.size ≤ 1048576 ∧ x.f2.size ≤ 1048576 := fun x hx => by
 obtain ⟨_, hp, _, _⟩ := goodO_facts h
 obtain ⟨f1, f2, f3, f4, f5⟩ := part_facts (hp x hx)
 omega
theorem trR_good {a b : List IP} (h : (trR a b).2.2 = true) : goodO (trR a b).1 = true := by
 obtain ⟨_, r, _, g1, _, e⟩ := trR_yes h
 rw [e]; exact g1
theorem rd_l6 (l : List (List IP)) (i : Nat) : rd_L6 l (i : Int) = gt [] l i := rfl
theorem rd_l5 (l : List (List LP)) (i : Nat) : rd_L5 l (i : Int) = gt [] l i := rfl
theorem spec_Over_l (l : List (List IP)) (hl : l.length ≤ 1048576) (hw : ∀ b ∈ l, ∀ x ∈ b, x.f1.size ≤ 1048576 ∧ x.f2.size ≤ 1048576) (d : Nat) : ∀ (i : Nat) (a : List IP), i + d = l.length → goodO a = true →
  Ev (fun k => spec_TransformOver.l0 k a l (l.length : Int) (i : Int)) (trO a (l.drop i)) := by
 induction d with
 | zero =>
  intro i a hi ha
  refine Ev.step (fun k => by rw [spec_TransformOver.l0]) ?_
  refine ev_neg (by omega) (ev_ret ?_)
  rw [List.drop_eq_nil_of_le (by omega), trO]
 | succ d ih =>
  intro i a hi ha
  have hm := hw _ (gt_mem [] l i (by omega))
  rw [gt_drop [] l i (by omega), trO]
  refine Ev.step (fun k => by rw [spec_TransformOver.l0]) ?_
  refine ev_pos (by omega) (ev_pos (by omega) (ev_pos (by omega) ?_))
  rw [wrap_succ i (by omega)]
  simp only [rd_l6]
  refine Ev.bind (spec_TransformOps_f a _ (good_small ha) hm) (ev_if (fun h => ?_) (fun h => ev_ret ?_))
  ·rw [if_pos h]; exact ih (i + 1) _ (by omega) (trR_good h)
  ·rw [if_neg h]
theorem impl_Over_l (l : List (List IP)) (hl : l.length ≤ 1048576) (hw : ∀ b ∈ l, ∀ x ∈ b, x.f1.size ≤ 1048576 ∧ x.f2.size ≤ 1048576) (d : Nat) : ∀ (i : Nat) (a : List IP), i + d = l.length → goodO a = true →
  Ev (fun k => impl_TransformOver.l0 k a l (l.length : Int) (i : Int)) (trO a (l.drop i)) := by
 induction d with
 | zero =>
  intro i a hi ha
  refine Ev.step (fun k => by rw [impl_TransformOver.l0]) ?_
  refine ev_neg (by omega) (ev_ret ?_)
  rw [List.drop_eq_nil_of_le (by omega), trO]
 | succ d ih =>
  intro i a hi ha
  have hm := hw _ (gt_mem [] l i (by omega))
  rw [gt_drop [] l i (by omega), trO]
  refine Ev.step (fun k => by rw [impl_TransformOver.l0]) ?_
  refine ev_pos (by omega) (ev_pos (by omega) (ev_pos (by omega) ?_))
  rw [wrap_succ i (by omega)]
  simp only [rd_l6]
  refine Ev.bind (impl_TransformOps_f a _ (good_small ha) hm) (ev_if (fun h => ?_) (fun h => ev_ret ?_))
  ·rw [if_pos h]; exact ih (i + 1) _ (by omega) (trR_good h)
  ·rw [if_neg h]
theorem spec_TransformOver_f (a : List IP) (l : List (List IP)) (ha : ∀ x ∈ a, x.f1.size ≤ 1048576 ∧ x.f2.size ≤ 1048576) (hl : l.length ≤ 1048576) (hw : ∀ b ∈ l, ∀ x ∈ b, x.f1.size ≤ 1048576 ∧ x.f2.size ≤ 1048576) :
  Ev (fun k => spec_TransformOver.f k a l) (ovR a l) := by
 unfold spec_TransformOver.f ovR
 have hno : Ev (fun k => spec_TransformOver.j0 k a l true) ([], false) := by
  refine Ev.step (fun k => by rw [spec_TransformOver.j0]) ?_
  exact ev_pos rfl (ev_ret rfl)
 refine Ev.bind (spec_GoodOp_f a ha) (ev_if (fun g => ?_) (fun g => by rw [if_neg (fun q => g q.1)]; exact hno))
 by_cases c : l.length ≤ 20
 ·rw [if_pos ⟨g, c⟩, decide_eq_false (show ¬ (l.length : Int) > 20 by omega)]
  refine Ev.step (fun k => by rw [spec_TransformOver.j0]) ?_
  have h60 := (goodO_facts g).1
  refine ev_neg (by simp) (ev_some (ev_pos (by simp; omega) ?_))
  exact spec_Over_l l hl hw l.length 0 a (by omega) g
 ·rw [if_neg (fun q => c q.2), decide_eq_true (show (l.length : Int) > 20 by omega)]; exact hno
theorem impl_TransformOver_f (a : List IP) (l : List (List IP)) (ha : ∀ x ∈ a, x.f1.size ≤ 1048576 ∧ x.f2.size ≤ 1048576) (hl : l.length ≤ 1048576) (hw : ∀ b ∈ l, ∀ x ∈ b, x.f1.size ≤ 1048576 ∧ x.f2.size ≤ 1048576) :
  Ev (fun k => impl_TransformOver.f k a l) (ovR a l) := by
 unfold impl_TransformOver.f ovR
 have hno : Ev (fun k => impl_TransformOver.j0 k a l true) ([], false) := by
  refine Ev.step (fun k => by rw [impl_TransformOver.j0]) ?_
  exact ev_pos rfl (ev_ret rfl)
 refine Ev.bind (impl_GoodOp_f a ha) (ev_if (fun g => ?_) (fun g => by rw [if_neg (fun q => g q.1)]; exact hno))
 by_cases c : l.length ≤ 20
 ·rw [if_pos ⟨g, c⟩, decide_eq_false (show ¬ (l.length : Int) > 20 by omega)]
  refine Ev.step (fun k => by rw [impl_TransformOver.j0]) ?_
  have h60 := (goodO_facts g).1
  refine ev_neg (by simp) (ev_eq (a := a) (by unfold impl_Part_54.f; exact if_neg (by omega)) ?_)
  exact impl_Over_l l hl hw l.length 0 a (by omega) g
 ·rw [if_neg (fun q => c q.2), decide_eq_true (show (l.length : Int) > 20 by omega)]; exact hno
/-! rows of rows: the law's own -/
def sumL {α : Type} : List (List α) → Nat
 | [] => 0
 | x :: r => x.length + sumL r
theorem szPartS_h (l : List LP) (hl : l.length ≤ 9223372036854775807) (hw : ∀ x ∈ l, x.f1.size ≤ 9223372036854775807 ∧ x.f2.size ≤ 9223372036854775807) (left : Int) (h0 : 0 ≤ left) (h1 : left ≤ 1048576) :
  ∃ v : Int, Ev (fun k => laws_szPartS.f k l left) v ∧ (0 ≤ v → v + l.length ≤ left ∧ ∀ x ∈ l, x.f1.size ≤ 1048576 ∧ x.f2.size ≤ 1048576) := by
 have e : wrap64 (left - (l.length : Int)) = left - (l.length : Int) := wrap_id (by omega) (by omega)
 by_cases c : left - (l.length : Int) < 0
 ·exact ⟨-1, by unfold laws_szPartS.f; exact ev_pos (by rw [e]; exact c) (ev_ret rfl), fun h => by omega⟩
 ·refine ⟨szF (left - (l.length : Int)) (szP l), ?_, fun h => ⟨?_, fun x hx => ?_⟩⟩
  ·unfold laws_szPartS.f
   refine ev_neg (by rw [e]; exact c) ?_
   rw [e]
   exact laws_szPartS_l l (by omega) hw l.length 0 _ (by omega) (by omega) (by omega)
  ·have := szF_le (szP l) (left - (l.length : Int)) (by omega)
   omega
  ·have h1 := szF_sum _ _ (by omega) h
   have h2 : x.f1.size + x.f2.size ≤ (szP l).sum := le_sum (List.mem_map.2 ⟨x, hx, rfl⟩)
   exact ⟨by omega, by omega⟩
theorem szPartSS_l (l : List (List LP)) (hl : l.length ≤ 1048576) (hw : ∀ x ∈ l, x.length ≤ 9223372036854775807 ∧ ∀ y ∈ x, y.f1.size ≤ 9223372036854775807 ∧ y.f2.size ≤ 9223372036854775807) (d : Nat) : ∀ (i : Nat) (left : Int), i + d = l.length → 0 ≤ left → left ≤ 1048576 →
  ∃ v : Int, Ev (fun k => laws_szPartSS.l0 k l left (i : Int)) v ∧ (0 ≤ v → v + sumL (l.drop i) ≤ left ∧ ∀ b ∈ l.drop i, ∀ x ∈ b, x.f1.size ≤ 1048576 ∧ x.f2.size ≤ 1048576) := by
 induction d with
 | zero =>
  intro i left hi h0 h1
  refine ⟨left, Ev.step (fun k => by rw [laws_szPartSS.l0]) (ev_neg (by omega) (ev_ret rfl)), fun h => ?_⟩
  rw [List.drop_eq_nil_of_le (by omega)]
  exact ⟨by simp [sumL], fun b hb => by cases hb⟩
 | succ d ih =>
  intro i left hi h0 h1
  have hm := hw _ (gt_mem [] l i (by omega))
  obtain ⟨v, hv, hb⟩ := szPartS_h (gt [] l i) hm.1 hm.2 left h0 h1
  by_cases c : v < 0
  ·refine ⟨-1, ?_, fun h => by omega⟩
   refine Ev.step (fun k => by rw [laws_szPartSS.l0]) ?_
   exact ev_pos (by omega) (ev_pos (by omega) (Ev.bind hv (ev_pos c (ev_ret rfl))))
  ·obtain ⟨b1, b2⟩ := hb (by omega)
   obtain ⟨v2, hv2, hb2⟩ := ih (i + 1) v (by omega) (by omega) (by omega)
   refine ⟨v2, ?_, fun h => ?_⟩
   ·refine Ev.step (fun k => by rw [laws_szPartSS.l0]) ?_
    refine ev_pos (by omega) (ev_pos (by omega) (Ev.bind hv (ev_neg c ?_)))
    rw [wrap_succ i (by omega)]
    exact hv2
   ·obtain ⟨c1, c2⟩ := hb2 h
    rw [gt_drop [] l i (by omega), sumL]
    refine ⟨by omega, fun b hbm => ?_⟩
    rcases List.mem_cons.1 hbm with rfl | hbm
    ·exact b2
    ·exact c2 b hbm
theorem szPartSS_f (l : List (List LP)) (hl : l.length ≤ 9223372036854775807) (hw : ∀ x ∈ l, x.length ≤ 9223372036854775807 ∧ ∀ y ∈ x, y.f1.size ≤ 9223372036854775807 ∧ y.f2.size ≤ 9223372036854775807) (left : Int) (h0 : 0 ≤ left) (h1 : left ≤ 1048576) :
  ∃ v : Int, Ev (fun k => laws_szPartSS.f k l left) v ∧ (0 ≤ v → l.length ≤ 1048576 ∧ sumL l ≤ 1048576 ∧ ∀ b ∈ l, ∀ x ∈ b, x.f1.size ≤ 1048576 ∧ x.f2.size ≤ 1048576) := by
 have e : wrap64 (left - (l.length : Int)) = left - (l.length : Int) := wrap_id (by omega) (by omega)
 by_cases c : left - (l.length : Int) < 0
 ·exact ⟨-1, by unfold laws_szPartSS.f; exact ev_pos (by rw [e]; exact c) (ev_ret rfl), fun h => by omega⟩
 ·obtain ⟨v, hv, hb⟩ := szPartSS_l l (by omega) hw l.length 0 (left - (l.length : Int)) (by omega) (by omega) (by omega)
  refine ⟨v, ?_, fun h => ?_⟩
  ·unfold laws_szPartSS.f
   refine ev_neg (by rw [e]; exact c) ?_
   rw [e]; exact hv
  ·obtain ⟨b1, b2⟩ := hb h
   rw [List.drop_zero] at b1 b2
   exact ⟨by omega, by omega, b2⟩
theorem sumL_mem {α : Type} : ∀ (l : List (List α)) (x : List α), x ∈ l → x.length ≤ sumL l
 | y :: r, x, h => by
  rw [sumL]
  rcases List.mem_cons.1 h with rfl | h
  ·omega
  ·have := sumL_mem r x h; omega
theorem toPartSS_l (l : List (List LP)) (hl : l.length ≤ 1048576) (hs : sumL l ≤ 1048576) (d : Nat) :
  ∀ i : Nat, i + d = l.length → Ev (fun k => laws_toPartSS.l0 k l ((l.take i).map (List.map cvP) ++ List.replicate (l.length - i) []) (i : Int)) (l.map (List.map cvP)) := by
 induction d with
 | zero =>
  intro i hi
  refine Ev.step (fun k => by rw [laws_toPartSS.l0]) ?_
  refine ev_neg (by omega) (ev_ret ?_)
  have : l.length - i = 0 := by omega
  rw [List.take_of_length_le (by omega), this]; simp
 | succ d ih =>
  intro i hi
  have hm := sumL_mem l _ (gt_mem [] l i (by omega))
  refine Ev.step (fun k => by rw [laws_toPartSS.l0]) ?_
  refine ev_pos (by omega) (ev_pos (by omega) ?_)
  simp only [rd_l5]
  refine Ev.bind (laws_toPartS_f (gt [] l i) (by omega)) (ev_pos (by simp; omega) ?_)
  rw [wrap_succ i (by omega)]
  have ih' := ih (i + 1) (by omega)
  have e : ((l.take i).map (List.map cvP) ++ List.replicate (l.length - i) []).set (i : Int).toNat ((gt [] l i).map cvP) = (l.take (i + 1)).map (List.map cvP) ++ List.replicate (l.length - (i + 1)) [] := by
   rw [Int.toNat_natCast, set_next _ _ _ _ _ (by simp; omega) (by omega), gt_take [] l i (by omega), List.map_append]
   rfl
  exact e ▸ ih'
theorem toPartSS_f (l : List (List LP)) (hl : l.length ≤ 1048576) (hs : sumL l ≤ 1048576) : Ev (fun k => laws_toPartSS.f k l) (l.map (List.map cvP)) := by
 unfold laws_toPartSS.f
 refine ev_pos (by omega) (ev_pos (by omega) ?_)
 exact toPartSS_l l hl hs l.length 0 (by omega)
theorem eqPartSS_l (l : List (List IP)) (hl : l.length ≤ 1048576) (hs : sumL l ≤ 1048576) (d : Nat) : ∀ i : Nat, i + d = l.length → Ev (fun k => laws_eqPartSS.l0 k l l (i : Int)) true := by
 induction d with
 | zero => exact fun i hi => Ev.step (fun k => by rw [laws_eqPartSS.l0]) (ev_neg (by omega) (ev_ret rfl))
 | succ d ih =>
  intro i hi
  have hm := sumL_mem l _ (gt_mem [] l i (by omega))
  refine Ev.step (fun k => by rw [laws_eqPartSS.l0]) ?_
  refine ev_pos (by omega) (ev_pos (by omega) (ev_pos (by omega) ?_))
  simp only [rd_l6]
  refine Ev.bind (laws_eqPartS_f (gt [] l i) (by omega)) (ev_pos rfl ?_)
  rw [wrap_succ i (by omega)]
  exact ih (i + 1) (by omega)
theorem eqPartSS_f (l : List (List IP)) (hl : l.length ≤ 1048576) (hs : sumL l ≤ 1048576) : Ev (fun k => laws_eqPartSS.f k l l) true := by
 unfold laws_eqPartSS.f
 exact ev_pos rfl (eqPartSS_l l hl hs l.length 0 (by omega))
theorem markPartSS_g : ∀ (l : List (List IP)) (a : Int), sumL l ≤ 1048576 → 0 ≤ a → a + 3 * (sumL l : Int) ≤ 1073741824 → Ev (fun k => laws_markPartSS.g k l a) (a + 3 * (sumL l : Int))
 | [], a, _, _, _ => ev_ret (by simp [sumL])
 | x :: r, a, hs, h0, h1 => by
  rw [sumL] at hs h1 ⊢
  have ih := markPartSS_g r (a + 3 * (x.length : Int)) (by omega) (by omega) (by omega)
  have e : a + 3 * ((x.length + sumL r : Nat) : Int) = a + 3 * (x.length : Int) + 3 * (sumL r : Int) := by omega
  rw [e]
  exact Ev.bind (laws_markPartS_f x a (by omega) (by omega) (by omega)) ih
theorem markPartSS_f (l : List (List IP)) (a : Int) (hl : l.length ≤ 1048576) (hs : sumL l ≤ 1048576) (h0 : 0 ≤ a) (h1 : a + 3 * (sumL l : Int) ≤ 1073741824) : Ev (fun k => laws_markPartSS.f k l a) (a + 3 * (sumL l : Int)) := by
 unfold laws_markPartSS.f
 exact ev_pos hl (markPartSS_g l a hs h0 h1)
theorem sumL_map (l : List (List LP)) : sumL (l.map (List.map cvP)) = sumL l := by
 induction l with
 | nil => rfl
 | cons x r ih => rw [List.map_cons, sumL, sumL, ih, List.length_map]
theorem FnExactTransformOver : lZ.Pure := by
 intro a l la wa ll wl
 refine Ev.rounds ?_
 unfold lZ.f
 obtain ⟨v, hv, hb⟩ := szPartS_h a la (fun x hx => (wa x hx).2) 1048576 (by omega) (by omega)
 refine Ev.bind hv (ev_if (fun _ => ev_ret rfl) (fun h => ?_))
 obtain ⟨h1, h2⟩ := hb (by omega)
 obtain ⟨v', hv', hb'⟩ := szPartSS_f l ll (fun x hx => ⟨(wl x hx).1, fun y hy => ((wl x hx).2 y hy).2⟩) v (by omega) (by omega)
 refine Ev.bind hv' (ev_if (fun _ => ev_ret rfl) (fun h' => ?_))
 obtain ⟨h3, h4, h5⟩ := hb' (by omega)
 have hwa : ∀ x ∈ a.map cvP, x.f1.size ≤ 1048576 ∧ x.f2.size ≤ 1048576 := fun x hx => by obtain ⟨y, hy, rfl⟩ := List.mem_map.1 hx; exact h2 y hy
 have hla : a.length ≤ 1048576 := by omega
 have hla' : (a.map cvP).length ≤ 1048576 := by simpa using hla
 have hll : (l.map (List.map cvP)).length ≤ 1048576 := by simpa using h3
 have hsl : sumL (l.map (List.map cvP)) ≤ 1048576 := by rw [sumL_map]; exact h4
 have hwl : ∀ b ∈ l.map (List.map cvP), ∀ x ∈ b, x.f1.size ≤ 1048576 ∧ x.f2.size ≤ 1048576 := fun b hb x hx => by
  obtain ⟨c, hc, rfl⟩ := List.mem_map.1 hb
  obtain ⟨y, hy, rfl⟩ := List.mem_map.1 hx
  exact h5 c hc y hy
 have hta := laws_toPartS_f a hla
 have htl := toPartSS_f l h3 h4
 have htl0 : Ev (fun k => laws_toPartSS.f k l) (l.map (List.map cvP)) := htl
 clear htl
 have htl := htl0
 clear htl0
 change (List.map (List.map cvP) l).length ≤ 1048576 at hll
 change sumL (List.map (List.map cvP) l) ≤ 1048576 at hsl
 change ∀ b ∈ List.map (List.map cvP) l, ∀ x ∈ b, x.f1.size ≤ 1048576 ∧ x.f2.size ≤ 1048576 at hwl
 generalize List.map (List.map cvP) l = L at hll hsl hwl htl
 generalize a.map cvP = a' at hwa hla' hta
 have hsp := spec_TransformOver_f a' L hwa hll hwl
 have him := impl_TransformOver_f a' L hwa hll hwl
 have hr := ovR_len a' L
 generalize ovR a' L = R at hsp him hr
 have he := laws_eqPartS_f R.1 (by omega)
 refine Ev.bind hta (Ev.bind htl (Ev.bind hsp (Ev.bind hta (Ev.bind htl (Ev.bind him (Ev.bind he (ev_pos rfl ?_)))))))
 refine Ev.step (fun k => by rw [lZ.j0]) ?_
 refine ev_neg (by simp) (Ev.bind hta (Ev.bind (laws_eqPartS_f a' (by omega)) (ev_pos rfl (Ev.bind htl (Ev.bind (eqPartSS_f L hll hsl) (ev_pos rfl ?_))))))
 refine Ev.bind (laws_markPartS_f a' 1 (by omega) (by omega) (by omega)) (Ev.bind (markPartSS_f L _ hll hsl (by simp only; omega) (by simp only; omega)) (ev_neg (by simp only; omega) (Ev.bind he (ev_pos rfl ?_))))
 refine Ev.step (fun k => by rw [lZ.j1]) ?_
 refine ev_neg (by simp) ?_
 have hh := laws_heldPartS_f 1 R.1.length (by omega) (by omega) (by omega)
 refine Ev.bind (laws_markPartS_f R.1 1 (by omega) (by omega) (by omega)) (Ev.bind hh (ev_neg (by first | omega | (simp only; omega)) (ev_pos rfl ?_)))
 refine Ev.bind hta (Ev.bind htl (Ev.bind him (Ev.bind he (ev_pos rfl ?_))))
 refine Ev.step (fun k => by rw [lZ.j2]) ?_
 refine ev_neg (by simp) ?_
 exact Ev.bind hh (ev_neg (by first | omega | (simp only; omega)) (ev_pos rfl (ev_ret rfl)))
end Go.Proofs.Ytoagljlnfakgjaa.Pure
