/- FnExactClashesOf over plain functions: at all two changes the program's ClashesOf and the reference's give one answer, and the changes stay; no condition. -/
import Derived.Test.YtoagljlnfakgjaaPFnExactClashesOfx9
import Derived.Test.YtoagljlnfakgjaaBase
import Derived.Test.YtoagljlnfakgjaaMk
namespace Go.Proofs.Ytoagljlnfakgjaa.Pure
open Go.RowKit Go.Proofs.Ytoagljlnfakgjaa.PFnExactClashesOf Go.Proofs.YtoagljlnfakgjaaW.PrintWords Go.Proofs.YtoagljlnfakgjaaW.PrintLast Go.Proofs.Ytoagljlnfakgjaa.Base Go.Proofs.Ytoagljlnfakgjaa.Mk
set_option linter.unusedVariables false
set_option linter.unusedSimpArgs false

abbrev IP := S60
def izP : IP := z60
theorem rd_ip (l : List IP) (i : Nat) : rd_T60 l (i : Int) = gt izP l i := rfl
theorem toList_nil (s : ByteArray) : s.toList = ([] : List UInt8) ↔ s.size = 0 := by
  rw [← List.length_eq_zero_iff]
  have := data_length s
  rw [ByteArray.toList_eq, this]

abbrev LP := S58
def cvP (x : LP) : IP := ⟨x.f0, x.f1, x.f2⟩
def lzP : LP := z58
theorem rd_lp (l : List LP) (i : Nat) : rd_T58 l (i : Int) = gt lzP l i := rfl
def szP (l : List LP) : List Nat := l.map (fun x => x.f1.size + x.f2.size)
theorem laws_szPartS_l (l : List LP) (hl : l.length ≤ 1048576) (hw : ∀ x ∈ l, x.f1.size ≤ 9223372036854775807 ∧ x.f2.size ≤ 9223372036854775807) (d : Nat) :
    ∀ (i : Nat) (left : Int), i + d = l.length → 0 ≤ left → left ≤ 1048576 → Ev (fun k => laws_szPartS.l0 k l left (i : Int)) (szF left (szP (l.drop i))) := by
  induction d with
  | zero =>
    intro i left hi h0 h1
    refine Ev.step (fun k => by rw [laws_szPartS.l0]) ?_
    refine ev_neg (by omega) (ev_ret ?_)
    rw [List.drop_eq_nil_of_le (by omega)]; rfl
  | succ d ih =>
    intro i left hi h0 h1
    have hm := hw _ (gt_mem lzP l i (by omega))
    refine Ev.step (fun k => by rw [laws_szPartS.l0]) ?_
    refine ev_pos (by omega) (ev_pos (by omega) ?_)
    rw [gt_drop lzP l i (by omega), rd_lp]
    generalize gt lzP l i = m at hm ⊢
    obtain ⟨hm1, hm2⟩ := hm
    have e : wrap64 (left - (m.f1.size : Int)) = left - (m.f1.size : Int) := wrap_id (by omega) (by omega)
    show Ev _ (if left - ((m.f1.size + m.f2.size : Nat) : Int) < 0 then -1 else szF (left - ((m.f1.size + m.f2.size : Nat) : Int)) (szP (l.drop (i + 1))))
    by_cases c1 : left - (m.f1.size : Int) < 0
    · rw [if_pos (show left - ((m.f1.size + m.f2.size : Nat) : Int) < 0 by omega)]
      refine ev_eq (a := -1) (by unfold laws_szPart.f; rw [e, if_pos c1]) (ev_pos (by omega) (ev_ret rfl))
    have e2 : wrap64 (left - (m.f1.size : Int) - (m.f2.size : Int)) = left - ((m.f1.size + m.f2.size : Nat) : Int) := by rw [wrap_id (by omega) (by omega)]; omega
    by_cases c : left - ((m.f1.size + m.f2.size : Nat) : Int) < 0
    · rw [if_pos c]
      refine ev_eq (a := -1) (by unfold laws_szPart.f; rw [e, if_neg c1, e2, if_pos c]) (ev_pos (by omega) (ev_ret rfl))
    · rw [if_neg c]
      refine ev_eq (a := left - ((m.f1.size + m.f2.size : Nat) : Int)) (by unfold laws_szPart.f; rw [e, if_neg c1, e2, if_neg c]) (ev_neg (by omega) ?_)
      rw [wrap_succ i (by omega)]
      exact ih (i + 1) _ (by omega) (by omega) (by omega)
/-- The guard at a law's head: too much, or all is small. -/
theorem laws_szPartS_f (l : List LP) (hl : l.length ≤ 9223372036854775807) (hw : ∀ x ∈ l, x.f1.size ≤ 9223372036854775807 ∧ x.f2.size ≤ 9223372036854775807) :
    ∃ v : Int, Ev (fun k => laws_szPartS.f k l 1048576) v ∧ (0 ≤ v → l.length ≤ 1048576 ∧ ∀ x ∈ l, x.f1.size ≤ 1048576 ∧ x.f2.size ≤ 1048576) := by
  have e : wrap64 (1048576 - (l.length : Int)) = 1048576 - (l.length : Int) := wrap_id (by omega) (by omega)
  by_cases c : (1048576 : Int) - (l.length : Int) < 0
  · exact ⟨-1, by unfold laws_szPartS.f; exact ev_pos (by rw [e]; exact c) (ev_ret rfl), fun h => by omega⟩
  · refine ⟨szF (1048576 - (l.length : Int)) (szP l), ?_, fun h => ⟨by omega, fun x hx => ?_⟩⟩
    · unfold laws_szPartS.f
      refine ev_neg (by rw [e]; exact c) ?_
      rw [e]
      exact laws_szPartS_l l (by omega) hw l.length 0 _ (by omega) (by omega) (by omega)
    · have h1 := szF_sum _ _ (by omega) h
      have h2 : x.f1.size + x.f2.size ≤ (szP l).sum := le_sum (List.mem_map.2 ⟨x, hx, rfl⟩)
      exact ⟨by omega, by omega⟩
theorem laws_toPartS_l (l : List LP) (hl : l.length ≤ 1048576) (d : Nat) :
    ∀ i : Nat, i + d = l.length → Ev (fun k => laws_toPartS.l0 k l ((l.take i).map cvP ++ List.replicate (l.length - i) izP) (i : Int)) (l.map cvP) := by
  induction d with
  | zero =>
    intro i hi
    refine Ev.step (fun k => by rw [laws_toPartS.l0]) ?_
    refine ev_neg (by omega) (ev_ret ?_)
    have : l.length - i = 0 := by omega
    rw [List.take_of_length_le (by omega), this]; simp
  | succ d ih =>
    intro i hi
    refine Ev.step (fun k => by rw [laws_toPartS.l0]) ?_
    refine ev_pos (by omega) (ev_pos (by omega) (ev_eq rfl (ev_pos (by simp; omega) ?_)))
    rw [wrap_succ i (by omega)]
    have ih' := ih (i + 1) (by omega)
    have e : ((l.take i).map cvP ++ List.replicate (l.length - i) izP).set (i : Int).toNat (⟨(rd_T58 l (i : Int)).f0, (rd_T58 l (i : Int)).f1, (rd_T58 l (i : Int)).f2⟩ : IP) = (l.take (i + 1)).map cvP ++ List.replicate (l.length - (i + 1)) izP := by
      rw [Int.toNat_natCast, set_next _ _ _ _ _ (by simp; omega) (by omega), rd_lp, gt_take lzP l i (by omega), List.map_append]
      rfl
    exact e ▸ ih'
theorem laws_toPartS_f (l : List LP) (hl : l.length ≤ 1048576) : Ev (fun k => laws_toPartS.f k l) (l.map cvP) := by
  unfold laws_toPartS.f
  refine ev_pos (by omega) (ev_pos (by omega) ?_)
  exact laws_toPartS_l l hl l.length 0 (by omega)
theorem szF_le : ∀ (l : List Nat) (left : Int), 0 ≤ left → szF left l ≤ left
  | [], left, _ => by unfold szF; omega
  | n :: r, left, h => by
    unfold szF
    split
    · omega
    · rename_i c
      exact Int.le_trans (szF_le r _ (by omega)) (by omega)
theorem laws_szPartS_g (l : List LP) (hl : l.length ≤ 9223372036854775807) (hw : ∀ x ∈ l, x.f1.size ≤ 9223372036854775807 ∧ x.f2.size ≤ 9223372036854775807) (left : Int) (h0 : 0 ≤ left) (h1 : left ≤ 1048576) :
    ∃ v : Int, Ev (fun k => laws_szPartS.f k l left) v ∧ (0 ≤ v → v ≤ 1048576 ∧ l.length ≤ 1048576 ∧ ∀ x ∈ l, x.f1.size ≤ 1048576 ∧ x.f2.size ≤ 1048576) := by
  have e : wrap64 (left - (l.length : Int)) = left - (l.length : Int) := wrap_id (by omega) (by omega)
  by_cases c : left - (l.length : Int) < 0
  · exact ⟨-1, by unfold laws_szPartS.f; exact ev_pos (by rw [e]; exact c) (ev_ret rfl), fun h => by omega⟩
  · refine ⟨szF (left - (l.length : Int)) (szP l), ?_, fun h => ⟨?_, by omega, fun x hx => ?_⟩⟩
    · unfold laws_szPartS.f
      refine ev_neg (by rw [e]; exact c) ?_
      rw [e]
      exact laws_szPartS_l l (by omega) hw l.length 0 _ (by omega) (by omega) (by omega)
    · have := szF_le (szP l) (left - (l.length : Int)) (by omega)
      omega
    · have h1 := szF_sum _ _ (by omega) h
      have h2 : x.f1.size + x.f2.size ≤ (szP l).sum := le_sum (List.mem_map.2 ⟨x, hx, rfl⟩)
      exact ⟨by omega, by omega⟩

theorem ba_nil {s : ByteArray} (h : s.size = 0) : s = (⟨#[]⟩ : ByteArray) := by
  obtain ⟨d⟩ := s
  have h' : d.size = 0 := h
  rw [Array.size_eq_zero_iff.1 h']
theorem ba_app (s : ByteArray) : s ++ (⟨#[]⟩ : ByteArray) = s := by
  apply ByteArray.ext; rw [ByteArray.data_append]; simp
theorem ba_len_app (a b : ByteArray) : (a ++ b).size = a.size + b.size := ByteArray.size_append
theorem nil_nil : (⟨#[]⟩ : ByteArray).toList = ([] : List UInt8) := (toList_nil _).2 rfl
/-- A part with one side at most. -/
def One (p : IP) : Prop := 0 ≤ p.f0 ∧ p.f0 ≤ 300 ∧ p.f1.size ≤ 300 ∧ p.f2.size ≤ 300 ∧ (p.f0 = 0 ∨ (p.f1.size = 0 ∧ p.f2.size = 0)) ∧ (p.f1.size = 0 ∨ p.f2.size = 0)
theorem set_last (m : List IP) (z v : IP) : (m ++ [z]).set m.length v = m ++ [v] := by
  rw [List.set_append_right _ _ (Nat.le_refl _), Nat.sub_self]; rfl
theorem set_last2 (m : List IP) (y z v : IP) : (m ++ [y, z]).set m.length v = m ++ [v, z] := by
  rw [List.set_append_right _ _ (Nat.le_refl _), Nat.sub_self]; rfl
theorem gt_app_2 (m : List IP) (y z : IP) : gt izP (m ++ [y, z]) m.length = y := by
  unfold gt; rw [List.getD_eq_getElem?_getD, List.getElem?_append_right (Nat.le_refl _)]; simp
theorem gt_app_1 (m : List IP) (z : IP) : gt izP (m ++ [z]) m.length = z := by
  unfold gt; rw [List.getD_eq_getElem?_getD, List.getElem?_append_right (Nat.le_refl _)]; simp
theorem len_m1 (m : List IP) (z : IP) (h : m.length ≤ 100000) : wrap64 (((m ++ [z]).length : Int) - 1) = (m.length : Int) := by
  rw [List.length_append, List.length_singleton, wrap_id (by omega) (by omega)]; omega
/-- Nothing is put behind. -/
theorem add_none (l : List IP) (p : IP) (h0 : p.f0 = 0) (h1 : p.f1.size = 0) (h2 : p.f2.size = 0) : Ev (fun k => spec_l3Add.f k l p.f0 p.f1 p.f2) l := by
  unfold spec_l3Add.f
  rw [beq_iff_eq.2 ((toList_nil _).2 h2)]
  refine ev_pos h0 (ev_pos ((toList_nil _).2 h1) ?_)
  refine Ev.step (fun k => by rw [spec_l3Add.j0]) ?_
  exact ev_pos rfl (ev_ret rfl)
/-- Where the part is one, the walk begins at j0. -/
theorem add_start (l : List IP) (p : IP) (h : p.f0 ≠ 0 ∨ p.f1.size ≠ 0 ∨ p.f2.size ≠ 0) {r : List IP} (hr : Ev (fun k => spec_l3Add.j0 k l (l.length : Int) false p.f0 p.f1 p.f2) r) : Ev (fun k => spec_l3Add.f k l p.f0 p.f1 p.f2) r := by
  unfold spec_l3Add.f
  refine ev_if (fun h0 => ev_if (fun h1 => ?_) (fun _ => hr)) (fun _ => hr)
  rw [toList_nil] at h1
  have h2 : ¬ p.f2.toList = ([] : List UInt8) := by rw [toList_nil]; omega
  rw [beq_eq_false_iff_ne.2 h2]; exact hr
theorem add_first (p : IP) (h : p.f0 ≠ 0 ∨ p.f1.size ≠ 0 ∨ p.f2.size ≠ 0) : Ev (fun k => spec_l3Add.f k [] p.f0 p.f1 p.f2) [p] := by
  refine add_start [] p h ?_
  refine Ev.step (fun k => by rw [spec_l3Add.j0]) ?_
  exact ev_neg (by simp) (ev_pos (by simp) (ev_pos (by simp) (ev_ret rfl)))
theorem add_j1 (m : List IP) (z p : IP) (hm : m.length ≤ 100000) (h : p.f0 ≠ 0 ∨ p.f1.size ≠ 0 ∨ p.f2.size ≠ 0) {r : List IP}
    (hr : Ev (fun k => spec_l3Add.j1 k (m ++ [z]) ((m ++ [z]).length : Int) (decide (p.f0 > 0 ∧ z.f0 > 0)) p.f0 p.f1 p.f2 z.f0 z.f1 z.f2) r) : Ev (fun k => spec_l3Add.f k (m ++ [z]) p.f0 p.f1 p.f2) r := by
  refine add_start _ p h ?_
  refine Ev.step (fun k => by rw [spec_l3Add.j0]) ?_
  rw [len_m1 m z hm, rd_ip, gt_app_1]
  have hl : (m ++ [z]).length = m.length + 1 := by rw [List.length_append, List.length_singleton]
  refine ev_neg (by simp) (ev_neg (by omega) (ev_pos (by omega) (ev_pos (by omega) (ev_if (fun c => ?_) (fun c => ?_)))))
  · simp only [c, true_and] at hr; exact hr
  · rw [decide_eq_false (fun q => c q.1)] at hr; exact hr
theorem add_j2 (m : List IP) (z p : IP) (hm : m.length ≤ 100000) (h : p.f0 ≠ 0 ∨ p.f1.size ≠ 0 ∨ p.f2.size ≠ 0) (h1 : ¬ (p.f0 > 0 ∧ z.f0 > 0)) {r : List IP}
    (hr : Ev (fun k => spec_l3Add.j2 k (m ++ [z]) ((m ++ [z]).length : Int) (decide (p.f2.size ≠ 0 ∧ z.f2.size ≠ 0)) p.f0 p.f1 p.f2 z.f0 z.f1 z.f2) r) : Ev (fun k => spec_l3Add.f k (m ++ [z]) p.f0 p.f1 p.f2) r := by
  refine add_j1 m z p hm h ?_
  rw [decide_eq_false h1]
  refine Ev.step (fun k => by rw [spec_l3Add.j1]) ?_
  refine ev_neg (by simp) (ev_if (fun c => ?_) (fun c => ?_))
  · rw [toList_nil] at c
    rw [decide_eq_false (fun q => q.1 c)] at hr; exact hr
  · rw [toList_nil] at c
    have e : (z.f2.toList != ([] : List UInt8)) = decide (p.f2.size ≠ 0 ∧ z.f2.size ≠ 0) := by
      by_cases q : z.f2.size = 0
      · rw [decide_eq_false (fun x => x.2 q), bne_eq_false_iff_eq]; exact (toList_nil _).2 q
      · rw [decide_eq_true ⟨c, q⟩, bne_iff_ne]; exact fun x => q ((toList_nil _).1 x)
    rw [e]; exact hr
theorem add_j3 (m : List IP) (z p : IP) (hm : m.length ≤ 100000) (h : p.f0 ≠ 0 ∨ p.f1.size ≠ 0 ∨ p.f2.size ≠ 0) (h1 : ¬ (p.f0 > 0 ∧ z.f0 > 0)) (h2 : ¬ (p.f2.size ≠ 0 ∧ z.f2.size ≠ 0)) {r : List IP}
    (hr : Ev (fun k => spec_l3Add.j3 k (m ++ [z]) ((m ++ [z]).length : Int) (decide (p.f1.size ≠ 0 ∧ z.f1.size ≠ 0)) p.f0 p.f1 p.f2 z.f0 z.f1 z.f2) r) : Ev (fun k => spec_l3Add.f k (m ++ [z]) p.f0 p.f1 p.f2) r := by
  refine add_j2 m z p hm h h1 ?_
  rw [decide_eq_false h2]
  refine Ev.step (fun k => by rw [spec_l3Add.j2]) ?_
  refine ev_neg (by simp) (ev_if (fun c => ?_) (fun c => ?_))
  · rw [toList_nil] at c
    rw [decide_eq_false (fun q => q.1 c)] at hr; exact hr
  · rw [toList_nil] at c
    have e : (z.f1.toList != ([] : List UInt8)) = decide (p.f1.size ≠ 0 ∧ z.f1.size ≠ 0) := by
      by_cases q : z.f1.size = 0
      · rw [decide_eq_false (fun x => x.2 q), bne_eq_false_iff_eq]; exact (toList_nil _).2 q
      · rw [decide_eq_true ⟨c, q⟩, bne_iff_ne]; exact fun x => q ((toList_nil _).1 x)
    rw [e]; exact hr
theorem add_j4 (m : List IP) (z p : IP) (hm : m.length ≤ 100000) (h : p.f0 ≠ 0 ∨ p.f1.size ≠ 0 ∨ p.f2.size ≠ 0) (h1 : ¬ (p.f0 > 0 ∧ z.f0 > 0)) (h2 : ¬ (p.f2.size ≠ 0 ∧ z.f2.size ≠ 0)) (h3 : ¬ (p.f1.size ≠ 0 ∧ z.f1.size ≠ 0)) {r : List IP}
    (hr : Ev (fun k => spec_l3Add.j4 k (m ++ [z]) ((m ++ [z]).length : Int) (decide (p.f1.size ≠ 0 ∧ z.f2.size ≠ 0)) p.f0 p.f1 p.f2 z.f0 z.f1 z.f2) r) : Ev (fun k => spec_l3Add.f k (m ++ [z]) p.f0 p.f1 p.f2) r := by
  refine add_j3 m z p hm h h1 h2 ?_
  rw [decide_eq_false h3]
  refine Ev.step (fun k => by rw [spec_l3Add.j3]) ?_
  refine ev_neg (by simp) (ev_if (fun c => ?_) (fun c => ?_))
  · rw [toList_nil] at c
    rw [decide_eq_false (fun q => q.1 c)] at hr; exact hr
  · rw [toList_nil] at c
    have e : (z.f2.toList != ([] : List UInt8)) = decide (p.f1.size ≠ 0 ∧ z.f2.size ≠ 0) := by
      by_cases q : z.f2.size = 0
      · rw [decide_eq_false (fun x => x.2 q), bne_eq_false_iff_eq]; exact (toList_nil _).2 q
      · rw [decide_eq_true ⟨c, q⟩, bne_iff_ne]; exact fun x => q ((toList_nil _).1 x)
    rw [e]; exact hr
/-- Both keep. -/
theorem add_keep (m : List IP) (z p : IP) (hm : m.length ≤ 100000) (h1 : p.f0 > 0 ∧ z.f0 > 0) : Ev (fun k => spec_l3Add.f k (m ++ [z]) p.f0 p.f1 p.f2) (m ++ [⟨wrap64 (z.f0 + p.f0), z.f1, z.f2⟩]) := by
  refine add_j1 m z p hm (.inl (by omega)) ?_
  rw [decide_eq_true h1]
  refine Ev.step (fun k => by rw [spec_l3Add.j1]) ?_
  rw [len_m1 m z hm, rd_ip, gt_app_1, Int.toNat_natCast, set_last]
  exact ev_pos rfl (ev_pos (by omega) (ev_pos (by rw [List.length_append, List.length_singleton]; omega) (ev_ret rfl)))
/-- Both drop. -/
theorem add_drop (m : List IP) (z p : IP) (hm : m.length ≤ 100000) (h1 : ¬ (p.f0 > 0 ∧ z.f0 > 0)) (h2 : p.f2.size ≠ 0 ∧ z.f2.size ≠ 0) (hs : z.f2.size + p.f2.size ≤ 9223372036854775807) : Ev (fun k => spec_l3Add.f k (m ++ [z]) p.f0 p.f1 p.f2) (m ++ [⟨z.f0, z.f1, z.f2 ++ p.f2⟩]) := by
  refine add_j2 m z p hm (.inr (.inr h2.1)) h1 ?_
  rw [decide_eq_true h2]
  refine Ev.step (fun k => by rw [spec_l3Add.j2]) ?_
  rw [len_m1 m z hm, rd_ip, gt_app_1, Int.toNat_natCast, set_last]
  exact ev_pos rfl (ev_pos (by omega) (ev_pos (by rw [List.length_append, List.length_singleton]; omega) (ev_pos hs (ev_ret rfl))))
/-- Both put. -/
theorem add_put (m : List IP) (z p : IP) (hm : m.length ≤ 100000) (h1 : ¬ (p.f0 > 0 ∧ z.f0 > 0)) (h2 : ¬ (p.f2.size ≠ 0 ∧ z.f2.size ≠ 0)) (h3 : p.f1.size ≠ 0 ∧ z.f1.size ≠ 0) (hs : z.f1.size + p.f1.size ≤ 9223372036854775807) : Ev (fun k => spec_l3Add.f k (m ++ [z]) p.f0 p.f1 p.f2) (m ++ [⟨z.f0, z.f1 ++ p.f1, z.f2⟩]) := by
  refine add_j3 m z p hm (.inr (.inl h3.1)) h1 h2 ?_
  rw [decide_eq_true h3]
  refine Ev.step (fun k => by rw [spec_l3Add.j3]) ?_
  rw [len_m1 m z hm, rd_ip, gt_app_1, Int.toNat_natCast, set_last]
  exact ev_pos rfl (ev_pos (by omega) (ev_pos (by rw [List.length_append, List.length_singleton]; omega) (ev_pos hs (ev_ret rfl))))
/-- Nothing joins. -/
theorem add_apart (m : List IP) (z p : IP) (hm : m.length ≤ 100000) (h : p.f0 ≠ 0 ∨ p.f1.size ≠ 0 ∨ p.f2.size ≠ 0) (h1 : ¬ (p.f0 > 0 ∧ z.f0 > 0)) (h2 : ¬ (p.f2.size ≠ 0 ∧ z.f2.size ≠ 0)) (h3 : ¬ (p.f1.size ≠ 0 ∧ z.f1.size ≠ 0)) (h4 : ¬ (p.f1.size ≠ 0 ∧ z.f2.size ≠ 0)) : Ev (fun k => spec_l3Add.f k (m ++ [z]) p.f0 p.f1 p.f2) (m ++ [z, p]) := by
  refine add_j4 m z p hm h h1 h2 h3 ?_
  rw [decide_eq_false h4]
  refine Ev.step (fun k => by rw [spec_l3Add.j4]) ?_
  exact ev_neg (by simp) (ev_pos (by rw [List.length_append, List.length_singleton]; omega) (ev_ret (by rw [List.append_assoc]; rfl)))
/-- A put goes ahead of a drop. -/
theorem add_ahead1 (z p : IP) (h1 : ¬ (p.f0 > 0 ∧ z.f0 > 0)) (h2 : ¬ (p.f2.size ≠ 0 ∧ z.f2.size ≠ 0)) (h3 : ¬ (p.f1.size ≠ 0 ∧ z.f1.size ≠ 0)) (h4 : p.f1.size ≠ 0 ∧ z.f2.size ≠ 0) : Ev (fun k => spec_l3Add.f k [z] p.f0 p.f1 p.f2) [p, z] := by
  refine add_j4 [] z p (by simp) (.inr (.inl h4.1)) h1 h2 h3 ?_
  rw [decide_eq_true h4]
  refine Ev.step (fun k => by rw [spec_l3Add.j4]) ?_
  rw [len_m1 [] z (by simp), Int.toNat_natCast, set_last]
  exact ev_pos rfl (ev_neg (by simp) (ev_pos (by simp) (ev_pos (by simp) (ev_eq rfl (ev_pos (by simp) (ev_ret rfl))))))
theorem len_m2 (m : List IP) (y z : IP) (h : m.length ≤ 90000) : wrap64 (((m ++ [y, z]).length : Int) - 2) = (m.length : Int) := by
  have : (m ++ [y, z]).length = m.length + 2 := by rw [List.length_append]; rfl
  rw [this, wrap_id (by omega) (by omega)]; omega
theorem add_ahead2 (m : List IP) (y z p : IP) (hm : m.length ≤ 90000) (h1 : ¬ (p.f0 > 0 ∧ z.f0 > 0)) (h2 : ¬ (p.f2.size ≠ 0 ∧ z.f2.size ≠ 0)) (h3 : ¬ (p.f1.size ≠ 0 ∧ z.f1.size ≠ 0)) (h4 : p.f1.size ≠ 0 ∧ z.f2.size ≠ 0) (hs : y.f1.size + p.f1.size ≤ 9223372036854775807) :
    Ev (fun k => spec_l3Add.f k (m ++ [y, z]) p.f0 p.f1 p.f2) (if y.f1.size = 0 then m ++ [y, p, z] else m ++ [⟨y.f0, y.f1 ++ p.f1, y.f2⟩, z]) := by
  have em : m ++ [y, z] = (m ++ [y]) ++ [z] := by rw [List.append_assoc]; rfl
  have hl1 : (m ++ [y]).length = m.length + 1 := by rw [List.length_append, List.length_singleton]
  have hl2 : (m ++ [y, z]).length = m.length + 2 := by rw [List.length_append]; rfl
  rw [em]
  refine add_j4 (m ++ [y]) z p (by omega) (.inr (.inl h4.1)) h1 h2 h3 ?_
  rw [decide_eq_true h4]
  refine Ev.step (fun k => by rw [spec_l3Add.j4]) ?_
  rw [len_m1 (m ++ [y]) z (by omega), Int.toNat_natCast, set_last]
  rw [← em, len_m2 m y z hm, rd_ip, gt_app_2, Int.toNat_natCast, set_last2]
  refine ev_pos rfl (ev_pos (by omega) (ev_pos (by omega) (ev_pos (by omega) (ev_if (fun c => ?_) (fun c => ?_)))))
  · rw [toList_nil] at c
    rw [if_pos c]
    refine ev_pos (by omega) (ev_pos (by omega) (ev_eq rfl (ev_pos (by rw [List.length_append, List.length_singleton]; omega) (ev_ret ?_))))
    rw [List.append_assoc, List.append_assoc]; rfl
  · rw [toList_nil] at c
    rw [if_neg c]
    exact ev_pos hs (ev_ret rfl)
/-- The state of the maker is that of the reference: the parts so far, and what is held back. -/
structure Fit (n : Nat) (s : List Pt × ByteArray × ByteArray) : Prop where
  last : s.1 = [] ∨ ∃ m x, s.1 = m ++ [(x, (⟨#[]⟩ : ByteArray), (⟨#[]⟩ : ByteArray))] ∧ 0 < x ∧ x ≤ 300 * (n : Int)
  len : s.1.length ≤ 3 * n
  put : s.2.1.size ≤ 300 * n
  drop : s.2.2.size ≤ 300 * n
def allP (s : List Pt × ByteArray × ByteArray) : List IP := (s.1 ++ endL s.2.1 s.2.2).map ofP
theorem endL_00 {a b : ByteArray} (ha : a.size = 0) (hb : b.size = 0) : endL a b = [] := by
  unfold endL; rw [if_pos ((toList_nil _).2 ha), if_pos ((toList_nil _).2 hb)]; rfl
theorem endL_10 {a b : ByteArray} (ha : a.size ≠ 0) (hb : b.size = 0) : endL a b = [(0, a, ⟨#[]⟩)] := by
  unfold endL; rw [if_neg (fun e => ha ((toList_nil _).1 e)), if_pos ((toList_nil _).2 hb)]; rfl
theorem endL_01 {a b : ByteArray} (ha : a.size = 0) (hb : b.size ≠ 0) : endL a b = [(0, ⟨#[]⟩, b)] := by
  unfold endL; rw [if_pos ((toList_nil _).2 ha), if_neg (fun e => hb ((toList_nil _).1 e))]; rfl
theorem endL_11 {a b : ByteArray} (ha : a.size ≠ 0) (hb : b.size ≠ 0) : endL a b = [(0, a, ⟨#[]⟩), (0, ⟨#[]⟩, b)] := by
  unfold endL; rw [if_neg (fun e => ha ((toList_nil _).1 e)), if_neg (fun e => hb ((toList_nil _).1 e))]; rfl
theorem endL_len (a b : ByteArray) : (endL a b).length ≤ 2 := by unfold endL; rw [List.length_append]; split <;> split <;> simp
theorem sz0 : (⟨#[]⟩ : ByteArray).size = 0 := rfl
theorem keepA_app (m : List Pt) (q : Pt) (x : Int) : keepA (m ++ [q]) x = if q.1 > 0 then m ++ [(wrap64 (q.1 + x), q.2.1, q.2.2)] else m ++ [q, (x, ⟨#[]⟩, ⟨#[]⟩)] := by
  unfold keepA
  rw [List.getLast?_append]
  simp only [List.getLast?_singleton, Option.some_or]
  split
  · rw [List.dropLast_concat]
  · rw [List.append_assoc]; rfl
/-- One part more, by the maker and by the reference. -/
theorem add_step (n : Nat) (s : List Pt × ByteArray × ByteArray) (p : IP) (hn : n ≤ 1000) (hf : Fit n s) (hp : One p) :
    Ev (fun k => spec_l3Add.f k (allP s) p.f0 p.f1 p.f2) (allP (takeP s (toP p))) ∧ Fit (n + 1) (takeP s (toP p)) := by
  obtain ⟨l, a, b⟩ := s
  obtain ⟨f1, f2, f3, f4⟩ := hf
  obtain ⟨p0, p1, p2⟩ := p
  obtain ⟨q1, q2, q3, q4, q5, q6⟩ := hp
  simp only at f1 f2 f3 f4 q1 q2 q3 q4 q5 q6
  have hel := endL_len a b
  by_cases h0 : p0 = 0
  · -- nothing is kept
    subst h0
    have et : takeP (l, a, b) (toP ⟨0, p1, p2⟩) = (l, a ++ p1, b ++ p2) := rfl
    rw [et]
    refine ⟨?_, ?_⟩
    · unfold allP
      simp only
      by_cases h1 : p1.size = 0
      · by_cases h2 : p2.size = 0
        · rw [ba_nil h1, ba_nil h2, ba_app, ba_app]
          exact add_none _ ⟨0, ⟨#[]⟩, ⟨#[]⟩⟩ rfl rfl rfl
        · rw [ba_nil h1, ba_app]
          by_cases hb : b.size = 0
          · rw [ba_nil hb, show (⟨#[]⟩ : ByteArray) ++ p2 = p2 by apply ByteArray.ext; rw [ByteArray.data_append]; simp]
            by_cases ha : a.size = 0
            · rw [endL_00 ha sz0, endL_01 ha h2, List.append_nil, List.map_append]
              rcases f1 with e | ⟨m, x, e, hx, _⟩
              · rw [e]; exact add_first ⟨0, ⟨#[]⟩, p2⟩ (.inr (.inr h2))
              · rw [e, List.map_append]
                have := add_apart (m.map ofP) (ofP (x, ⟨#[]⟩, ⟨#[]⟩)) ⟨0, ⟨#[]⟩, p2⟩ (by rw [e] at f2; simp at f2 ⊢; omega) (.inr (.inr h2)) (by simp) (by simp [ofP, sz0]) (by simp [sz0]) (by simp [sz0])
                rw [List.append_assoc]; exact this
            · rw [endL_10 ha sz0, endL_11 ha h2, List.map_append, List.map_append]
              exact add_apart (l.map ofP) (ofP (0, a, ⟨#[]⟩)) ⟨0, ⟨#[]⟩, p2⟩ (by rw [List.length_map]; omega) (.inr (.inr h2)) (by simp) (by simp [ofP, sz0]) (by simp [sz0]) (by simp [sz0])
          · have hb2 : (b ++ p2).size ≠ 0 := by rw [ba_len_app]; omega
            by_cases ha : a.size = 0
            · rw [endL_01 ha hb, endL_01 ha hb2, List.map_append, List.map_append]
              exact add_drop (l.map ofP) (ofP (0, ⟨#[]⟩, b)) ⟨0, ⟨#[]⟩, p2⟩ (by rw [List.length_map]; omega) (by simp) ⟨h2, hb⟩ (by simp only [ofP]; omega)
            · rw [endL_11 ha hb, endL_11 ha hb2, List.map_append, List.map_append]
              have := add_drop (l.map ofP ++ [ofP (0, a, ⟨#[]⟩)]) (ofP (0, ⟨#[]⟩, b)) ⟨0, ⟨#[]⟩, p2⟩ (by rw [List.length_append, List.length_map, List.length_singleton]; omega) (by simp) ⟨h2, hb⟩ (by simp only [ofP]; omega)
              rw [List.append_assoc, List.append_assoc] at this; exact this
      · have h2 : p2.size = 0 := by omega
        rw [ba_nil h2, ba_app]
        by_cases ha : a.size = 0
        · rw [ba_nil ha, show (⟨#[]⟩ : ByteArray) ++ p1 = p1 by apply ByteArray.ext; rw [ByteArray.data_append]; simp]
          by_cases hb : b.size = 0
          · rw [endL_00 sz0 hb, endL_10 h1 hb, List.append_nil, List.map_append]
            rcases f1 with e | ⟨m, x, e, hx, _⟩
            · rw [e]; exact add_first ⟨0, p1, ⟨#[]⟩⟩ (.inr (.inl h1))
            · rw [e, List.map_append]
              have := add_apart (m.map ofP) (ofP (x, ⟨#[]⟩, ⟨#[]⟩)) ⟨0, p1, ⟨#[]⟩⟩ (by rw [e] at f2; simp at f2 ⊢; omega) (.inr (.inl h1)) (by simp) (by simp [ofP, sz0]) (by simp [ofP, sz0]) (by simp [ofP, sz0])
              rw [List.append_assoc]; exact this
          · rw [endL_01 sz0 hb, endL_11 h1 hb, List.map_append, List.map_append]
            rcases f1 with e | ⟨m, x, e, hx, _⟩
            · rw [e]; exact add_ahead1 (ofP (0, ⟨#[]⟩, b)) ⟨0, p1, ⟨#[]⟩⟩ (by simp) (by simp [sz0]) (by simp [ofP, sz0]) ⟨h1, hb⟩
            · rw [e, List.map_append]
              have := add_ahead2 (m.map ofP) (ofP (x, ⟨#[]⟩, ⟨#[]⟩)) (ofP (0, ⟨#[]⟩, b)) ⟨0, p1, ⟨#[]⟩⟩ (by rw [e] at f2; simp at f2 ⊢; omega) (by simp) (by simp [sz0]) (by simp [ofP, sz0]) ⟨h1, hb⟩ (by simp only [ofP, sz0]; omega)
              rw [if_pos (by rfl)] at this
              rw [List.append_assoc, List.append_assoc]; exact this
        · have ha2 : (a ++ p1).size ≠ 0 := by rw [ba_len_app]; omega
          by_cases hb : b.size = 0
          · rw [endL_10 ha hb, endL_10 ha2 hb, List.map_append, List.map_append]
            exact add_put (l.map ofP) (ofP (0, a, ⟨#[]⟩)) ⟨0, p1, ⟨#[]⟩⟩ (by rw [List.length_map]; omega) (by simp) (by simp [sz0]) ⟨h1, ha⟩ (by simp only [ofP]; omega)
          · rw [endL_11 ha hb, endL_11 ha2 hb, List.map_append, List.map_append]
            have := add_ahead2 (l.map ofP) (ofP (0, a, ⟨#[]⟩)) (ofP (0, ⟨#[]⟩, b)) ⟨0, p1, ⟨#[]⟩⟩ (by rw [List.length_map]; omega) (by simp) (by simp [sz0]) (by simp [ofP, sz0]) ⟨h1, hb⟩ (by simp only [ofP]; omega)
            rw [if_neg (by simp only [ofP]; exact ha)] at this
            exact this
    · refine ⟨?_, by show l.length ≤ _; omega, by show (a ++ p1).size ≤ _; rw [ba_len_app]; omega, by show (b ++ p2).size ≤ _; rw [ba_len_app]; omega⟩
      rcases f1 with e | ⟨m, x, e, hx, hx2⟩
      · exact .inl e
      · exact .inr ⟨m, x, e, hx, by omega⟩
  · -- bytes are kept
    obtain ⟨h1, h2⟩ := q5.resolve_left h0
    have hk : keepS l a b p0 = (keepA (l ++ endL a b) p0, ⟨#[]⟩, ⟨#[]⟩) := by unfold keepS; rw [if_neg h0]
    have et : takeP (l, a, b) (toP ⟨p0, p1, p2⟩) = (keepA (l ++ endL a b) p0, ⟨#[]⟩, ⟨#[]⟩) := by
      unfold takeP toP
      simp only [hk]
      rw [ba_nil h1, ba_nil h2, ba_app]
    rw [et, ba_nil h1, ba_nil h2]
    have hq : ∀ (M : List Pt) (q : Pt), l ++ endL a b = M ++ [q] → q.1 ≤ 300 * (n : Int) → (q.1 > 0 → q.2.1 = ⟨#[]⟩ ∧ q.2.2 = ⟨#[]⟩) →
        Ev (fun k => spec_l3Add.f k (allP (l, a, b)) p0 ⟨#[]⟩ ⟨#[]⟩) (allP (keepA (l ++ endL a b) p0, ⟨#[]⟩, ⟨#[]⟩)) ∧ Fit (n + 1) (keepA (l ++ endL a b) p0, ⟨#[]⟩, ⟨#[]⟩) := by
      intro M q e hq1 hq2
      have hML : M.length + 1 ≤ 3 * n + 2 := by
        have := congrArg List.length e
        rw [List.length_append, List.length_append, List.length_singleton] at this
        omega
      unfold allP
      simp only
      rw [endL_00 sz0 sz0, List.append_nil, e, keepA_app]
      by_cases hx : q.1 > 0
      · rw [if_pos hx, List.map_append, List.map_append]
        refine ⟨add_keep (M.map ofP) (ofP q) ⟨p0, ⟨#[]⟩, ⟨#[]⟩⟩ (by rw [List.length_map]; omega) ⟨by simp only; omega, hx⟩, ?_⟩
        rw [wrap_id (by omega) (by omega)]
        obtain ⟨e1, e2⟩ := hq2 hx
        refine ⟨.inr ⟨M, q.1 + p0, by rw [e1, e2], by omega, by omega⟩, ?_, Nat.zero_le _, Nat.zero_le _⟩
        simp only [List.length_append, List.length_cons, List.length_nil]; omega
      · rw [if_neg hx, List.map_append, List.map_append]
        refine ⟨add_apart (M.map ofP) (ofP q) ⟨p0, ⟨#[]⟩, ⟨#[]⟩⟩ (by rw [List.length_map]; omega) (.inl (by simp only; omega)) (fun c => hx c.2) (by simp [sz0]) (by simp [sz0]) (by simp [sz0]), ?_⟩
        refine ⟨.inr ⟨M ++ [q], p0, by rw [List.append_assoc]; rfl, by omega, by omega⟩, ?_, Nat.zero_le _, Nat.zero_le _⟩
        simp only [List.length_append, List.length_cons, List.length_nil]; omega
    by_cases ha : a.size = 0
    · by_cases hb : b.size = 0
      · rcases f1 with e | ⟨m, x, e, hx, hx2⟩
        · subst e
          unfold allP
          rw [endL_00 ha hb]
          simp only [List.nil_append, List.map_nil]
          rw [endL_00 sz0 sz0]
          refine ⟨add_first ⟨p0, ⟨#[]⟩, ⟨#[]⟩⟩ (.inl h0), ⟨.inr ⟨[], p0, rfl, by omega, by omega⟩, by show 1 ≤ _; omega, Nat.zero_le _, Nat.zero_le _⟩⟩
        · exact hq m (x, ⟨#[]⟩, ⟨#[]⟩) (by rw [endL_00 ha hb, List.append_nil]; exact e) (by simp only; omega) (fun _ => ⟨rfl, rfl⟩)
      · exact hq l (0, ⟨#[]⟩, b) (by rw [endL_01 ha hb]) (by simp only; omega) (fun c => absurd c (by simp))
    · by_cases hb : b.size = 0
      · exact hq l (0, a, ⟨#[]⟩) (by rw [endL_10 ha hb]) (by simp only; omega) (fun c => absurd c (by simp))
      · exact hq (l ++ [(0, a, ⟨#[]⟩)]) (0, ⟨#[]⟩, b) (by rw [endL_11 ha hb, List.append_assoc]; rfl) (by simp only; omega) (fun c => absurd c (by simp))
theorem fit_zero : Fit 0 ([], (⟨#[]⟩ : ByteArray), (⟨#[]⟩ : ByteArray)) := ⟨.inl rfl, Nat.le_refl _, Nat.le_refl _, Nat.le_refl _⟩
def normI (l : List IP) : List IP := (normP (l.map toP)).map ofP
theorem one_guard (l : List IP) (hl : l.length ≤ 60) (hp : ∀ p ∈ l, One p) : l.length ≤ 60 ∧ (l.all fun x => decide (x.f1.size ≤ 300 ∧ x.f2.size ≤ 300)) = true :=
  ⟨hl, List.all_eq_true.2 fun x hx => decide_eq_true ⟨(hp x hx).2.2.1, (hp x hx).2.2.2.1⟩⟩
theorem impl_normal_f (l : List IP) (hl : l.length ≤ 60) (hp : ∀ p ∈ l, One p) : impl_normal.f l = some (normI l) := by
  unfold impl_normal.f
  rw [if_pos (one_guard l hl hp)]; rfl
theorem normI_len (l : List IP) (hl : l.length ≤ 60) (hp : ∀ p ∈ l, One p) : (normI l).length ≤ 200 := by
  obtain ⟨b1, _, _⟩ := stN_bound l (fun x hx => ⟨(hp x hx).2.2.1, (hp x hx).2.2.2.1⟩) l.length (Nat.le_refl _)
  have e : stN l l.length = (l.map toP).foldl takeP ([], ⟨#[]⟩, ⟨#[]⟩) := by unfold stN; rw [List.take_of_length_le (Nat.le_refl _)]
  rw [e] at b1
  have := endL_len ((l.map toP).foldl takeP ([], ⟨#[]⟩, ⟨#[]⟩)).2.1 ((l.map toP).foldl takeP ([], ⟨#[]⟩, ⟨#[]⟩)).2.2
  unfold normI normP
  rw [List.length_map, List.length_append]; omega

theorem laws_eqPart_self (m : IP) : laws_eqPart.f m.f0 m.f1 m.f2 m.f0 m.f1 m.f2 = some true := by
  unfold laws_eqPart.f; rw [if_pos rfl]; rw [if_pos rfl]; rw [if_pos rfl]
theorem laws_eqPartS_l (l : List IP) (hl : l.length ≤ 4611686018427387904) (d : Nat) : ∀ i : Nat, i + d = l.length → Ev (fun k => laws_eqPartS.l0 k l l (i : Int)) true := by
  induction d with
  | zero => exact fun i hi => Ev.step (fun k => by rw [laws_eqPartS.l0]) (ev_neg (by omega) (ev_ret rfl))
  | succ d ih =>
    intro i hi
    refine Ev.step (fun k => by rw [laws_eqPartS.l0]) ?_
    refine ev_pos (by omega) (ev_pos (by omega) (ev_pos (by omega) (ev_eq (laws_eqPart_self _) (ev_pos rfl ?_))))
    rw [wrap_succ i (by omega)]
    exact ih (i + 1) (by omega)
theorem laws_eqPartS_f (l : List IP) (hl : l.length ≤ 4611686018427387904) : Ev (fun k => laws_eqPartS.f k l l) true := by
  unfold laws_eqPartS.f
  exact ev_pos rfl (laws_eqPartS_l l hl l.length 0 (by omega))

theorem spec_l1In_f (a b c : Int) : spec_l1In.f a b c = some (decide (b ≤ a ∧ a ≤ c)) := by
  unfold spec_l1In.f; split <;> simp <;> omega

theorem spec_l1Open_f (c : Int) : spec_l1Open.f c = some (openB c) := by
  unfold spec_l1Open.f openB; split <;> simp <;> omega
theorem spec_l1Plain_f (c : Int) : spec_l1Plain.f c = some (plainB c) := by
  unfold spec_l1Plain.f plainB
  repeat' split
  all_goals (rw [Option.some.injEq, Bool.eq_iff_iff]; simp only [Bool.or_eq_true, decide_eq_true_eq, beq_iff_eq, true_iff]; omega)
theorem spec_l1Text_l (s : ByteArray) (hs : s.size ≤ 140737488351232) (d : Nat) : ∀ i : Nat, i + d = s.size → Ev (fun k => spec_l1Text.l0 k s (i : Int)) (textB ((bytesOf s).drop i)) := by
  induction d with
  | zero =>
    intro i hi
    refine Ev.step (fun k => by rw [spec_l1Text.l0]) ?_
    refine ev_neg (by omega) (ev_ret ?_)
    rw [drop_end s i (by omega)]; rfl
  | succ d ih =>
    intro i hi
    refine Ev.step (fun k => by rw [spec_l1Text.l0]) ?_
    refine ev_pos (by omega) (ev_pos (by omega) (ev_eq (spec_l1Open_f _) ?_))
    rw [drop_bytes s i (by omega), wrap_succ i (by omega)]
    have ih' := ih (i + 1) (by omega)
    refine ev_if (fun h => ev_val ih' (by simp [textB, okB, h])) (fun h => ?_)
    refine ev_eq (spec_l1Plain_f _) (ev_if (fun h2 => ev_val ih' (by simp [textB, okB, h2])) (fun h2 => ?_))
    refine ev_if (fun h3 => ev_val ih' (by simp [textB, okB, h3])) (fun h3 => ev_ret ?_)
    simp [textB, okB, h, h2, h3]
theorem spec_l1Text_f (s : ByteArray) (hs : s.size ≤ 140737488351232) : Ev (fun k => spec_l1Text.f k s) (textB (bytesOf s)) :=
  spec_l1Text_l s hs s.size 0 (by omega)
theorem spec_GoodText_f (s : ByteArray) (hs : s.size ≤ 140737488351232) : Ev (fun k => spec_GoodText.f k s) (goodB (bytesOf s)) := by
  unfold spec_GoodText.f goodB
  refine Ev.bind (spec_l1Text_f s hs) (ev_if (fun h => ev_ret ?_) (fun h => ev_ret ?_))
  · rw [h, bytesOf_length, Bool.true_and]; congr 1; simp; omega
  · simp at h; simp [h]
theorem impl_isName_f (c : Int) : impl_isName.f c = some (openB c) := by
  unfold impl_isName.f openB; split <;> simp <;> omega
theorem impl_isPlain_f (c : Int) : impl_isPlain.f c = some (plainB c) := by
  unfold impl_isPlain.f plainB
  repeat' split
  all_goals (rw [Option.some.injEq, Bool.eq_iff_iff]; simp only [Bool.or_eq_true, decide_eq_true_eq, beq_iff_eq, true_iff]; omega)
theorem impl_GoodText_l (s : ByteArray) (hs : s.size ≤ 140737488351232) (d : Nat) : ∀ i : Nat, i + d = s.size → Ev (fun k => impl_GoodText.l0 k s (s.size : Int) (i : Int)) (textB ((bytesOf s).drop i) && decide (s.size ≤ 300)) := by
  induction d with
  | zero =>
    intro i hi
    refine Ev.step (fun k => by rw [impl_GoodText.l0]) ?_
    refine ev_neg (by omega) (ev_ret ?_)
    rw [drop_end s i (by omega)]; simp [textB]; omega
  | succ d ih =>
    intro i hi
    refine Ev.step (fun k => by rw [impl_GoodText.l0]) ?_
    refine ev_pos (by omega) (ev_pos (by omega) (ev_pos (by omega) (ev_eq (impl_isName_f _) ?_)))
    rw [drop_bytes s i (by omega), wrap_succ i (by omega)]
    have ih' := ih (i + 1) (by omega)
    refine ev_if (fun h => ev_val ih' (by simp [textB, okB, h])) (fun h => ?_)
    refine ev_eq (impl_isPlain_f _) (ev_if (fun h2 => ev_val ih' (by simp [textB, okB, h2])) (fun h2 => ?_))
    refine ev_if (fun h3 => ev_val ih' (by simp [textB, okB, h3])) (fun h3 => ev_ret ?_)
    simp [textB, okB, h, h2, h3]
theorem impl_GoodText_f (s : ByteArray) (hs : s.size ≤ 140737488351232) : Ev (fun k => impl_GoodText.f k s) (goodB (bytesOf s)) := by
  unfold impl_GoodText.f
  refine ev_val (impl_GoodText_l s hs s.size 0 (by omega)) ?_
  simp [goodB, bytesOf_length]

def partB (p : IP) : Bool := if p.f0 = 0 then (if p.f1.toList = ([] : List UInt8) then (if p.f2.toList = ([] : List UInt8) then false else goodB (bytesOf p.f2)) else (if p.f2.toList = ([] : List UInt8) then goodB (bytesOf p.f1) else false)) else (decide (1 ≤ p.f0 ∧ p.f0 ≤ 300) && (decide (p.f1.toList = ([] : List UInt8)) && (p.f2.toList == ([] : List UInt8))))
theorem spec_l3Part_f (p : IP) (h1 : p.f1.size ≤ 140737488351232) (h2 : p.f2.size ≤ 140737488351232) : Ev (fun k => spec_l3Part.f k p.f0 p.f1 p.f2) (partB p) := by
  unfold spec_l3Part.f partB
  by_cases c0 : p.f0 = 0
  · rw [if_pos c0]
    refine ev_pos c0 ?_
    by_cases c1 : p.f1.toList = ([] : List UInt8)
    · rw [if_pos c1]
      refine ev_pos c1 ?_
      by_cases c2 : p.f2.toList = ([] : List UInt8)
      · rw [if_pos c2]; exact ev_pos c2 (ev_ret rfl)
      · rw [if_neg c2]; exact ev_neg c2 (Ev.bind (spec_GoodText_f _ h2) (ev_ret rfl))
    · rw [if_neg c1]
      refine ev_neg c1 ?_
      by_cases c2 : p.f2.toList = ([] : List UInt8)
      · rw [if_pos c2]; exact ev_pos c2 (Ev.bind (spec_GoodText_f _ h1) (ev_ret rfl))
      · rw [if_neg c2]; exact ev_neg c2 (ev_ret rfl)
  · rw [if_neg c0]
    refine ev_neg c0 (ev_eq (spec_l1In_f _ _ _) ?_)
    refine ev_if (fun h => ?_) (fun h => ev_ret (by rw [Bool.not_eq_true] at h; rw [h]; rfl))
    rw [h, Bool.true_and]
    exact ev_if (fun h1 => ev_ret (by rw [decide_eq_true h1, Bool.true_and])) (fun h1 => ev_ret (by rw [decide_eq_false h1]; rfl))
theorem impl_Part_isPart_f (p : IP) (h1 : p.f1.size ≤ 140737488351232) (h2 : p.f2.size ≤ 140737488351232) : Ev (fun k => impl_Part_isPart.f k p.f0 p.f1 p.f2) (partB p) := by
  unfold impl_Part_isPart.f partB
  by_cases c0 : p.f0 = 0
  · rw [if_pos c0]
    refine ev_pos c0 ?_
    by_cases c1 : p.f1.toList = ([] : List UInt8)
    · rw [if_pos c1]
      refine ev_pos c1 ?_
      by_cases c2 : p.f2.toList = ([] : List UInt8)
      · rw [if_pos c2]; exact ev_pos c2 (ev_ret rfl)
      · rw [if_neg c2]; exact ev_neg c2 (Ev.bind (impl_GoodText_f _ h2) (ev_ret rfl))
    · rw [if_neg c1]
      refine ev_neg c1 ?_
      by_cases c2 : p.f2.toList = ([] : List UInt8)
      · rw [if_pos c2]; exact ev_pos c2 (Ev.bind (impl_GoodText_f _ h1) (ev_ret rfl))
      · rw [if_neg c2]; exact ev_neg c2 (ev_ret rfl)
  · rw [if_neg c0]
    refine ev_neg c0 ?_
    refine ev_if (fun h => ?_) (fun h => ev_ret (by rw [decide_eq_false (by omega)]; rfl))
    refine ev_if (fun h' => ?_) (fun h' => ev_ret (by rw [decide_eq_false (by omega)]; rfl))
    rw [decide_eq_true (show 1 ≤ p.f0 ∧ p.f0 ≤ 300 from ⟨h, h'⟩), Bool.true_and]
    exact ev_if (fun h1 => ev_ret (by rw [decide_eq_true h1, Bool.true_and])) (fun h1 => ev_ret (by rw [decide_eq_false h1]; rfl))
def tkS : List IP → Int → Int
  | [], a => a
  | p :: r, a => tkS r (wrap64 (a + wrap64 (p.f0 + (p.f2.size : Int))))
def mkS : List IP → Int → Int
  | [], a => a
  | p :: r, a => mkS r (wrap64 (a + wrap64 (p.f0 + (p.f1.size : Int))))
theorem spec_l3Sizes_l (l : List IP) (hl : l.length ≤ 1048576) (d : Nat) : ∀ (i : Nat) (a b : Int), i + d = l.length →
    Ev (fun k => spec_l3Sizes.l0 k a b l (l.length : Int) (i : Int)) (tkS (l.drop i) a, mkS (l.drop i) b) := by
  induction d with
  | zero =>
    intro i a b hi
    refine Ev.step (fun k => by rw [spec_l3Sizes.l0]) ?_
    refine ev_neg (by omega) (ev_ret ?_)
    rw [List.drop_eq_nil_of_le (by omega)]; rfl
  | succ d ih =>
    intro i a b hi
    refine Ev.step (fun k => by rw [spec_l3Sizes.l0]) ?_
    refine ev_pos (by omega) (ev_pos (by omega) (ev_pos (by omega) ?_))
    rw [gt_drop izP l i (by omega), wrap_succ i (by omega)]
    exact ih (i + 1) _ _ (by omega)
theorem spec_l3Sizes_f (l : List IP) (hl : l.length ≤ 1048576) : Ev (fun k => spec_l3Sizes.f k l) (tkS l 0, mkS l 0) := by
  unfold spec_l3Sizes.f
  exact spec_l3Sizes_l l hl l.length 0 0 0 (by omega)
theorem impl_sizes_l (l : List IP) (hl : l.length ≤ 1048576) (d : Nat) : ∀ (i : Nat) (a b : Int), i + d = l.length →
    Ev (fun k => impl_sizes.l0 k a b l (l.length : Int) (i : Int)) (tkS (l.drop i) a, mkS (l.drop i) b) := by
  induction d with
  | zero =>
    intro i a b hi
    refine Ev.step (fun k => by rw [impl_sizes.l0]) ?_
    refine ev_neg (by omega) (ev_ret ?_)
    rw [List.drop_eq_nil_of_le (by omega)]; rfl
  | succ d ih =>
    intro i a b hi
    refine Ev.step (fun k => by rw [impl_sizes.l0]) ?_
    refine ev_pos (by omega) (ev_pos (by omega) (ev_pos (by omega) ?_))
    rw [gt_drop izP l i (by omega), wrap_succ i (by omega)]
    exact ih (i + 1) _ _ (by omega)
theorem impl_sizes_f (l : List IP) (hl : l.length ≤ 1048576) : Ev (fun k => impl_sizes.f k l) (tkS l 0, mkS l 0) := by
  unfold impl_sizes.f
  exact impl_sizes_l l hl l.length 0 0 0 (by omega)
def goodO (l : List IP) : Bool := decide (l.length ≤ 60) && (l.all partB && decide (tkS l 0 ≤ 300 ∧ mkS l 0 ≤ 300))
theorem goodO_len {l : List IP} (h : ¬ l.length ≤ 60) : goodO l = false := by unfold goodO; rw [decide_eq_false h]; rfl
theorem goodO_part {l : List IP} {p : IP} (hp : p ∈ l) (h : partB p = false) : goodO l = false := by
  unfold goodO
  have : l.all partB = false := by
    rw [Bool.eq_false_iff]; intro e
    rw [List.all_eq_true] at e
    rw [e p hp] at h; cases h
  rw [this]; simp
theorem spec_GoodOp_l (l : List IP) (hl : l.length ≤ 60) (hw : ∀ x ∈ l, x.f1.size ≤ 1048576 ∧ x.f2.size ≤ 1048576) (d : Nat) : ∀ i : Nat, i + d = l.length →
    (l.take i).all partB = true → Ev (fun k => spec_GoodOp.l0 k l l (l.length : Int) (i : Int)) (goodO l) := by
  induction d with
  | zero =>
    intro i hi hg
    refine Ev.step (fun k => by rw [spec_GoodOp.l0]) ?_
    rw [List.take_of_length_le (by omega)] at hg
    have e : goodO l = decide (tkS l 0 ≤ 300 ∧ mkS l 0 ≤ 300) := by unfold goodO; rw [hg, decide_eq_true hl]; rfl
    rw [e]
    refine ev_neg (by omega) (Ev.bind (spec_l3Sizes_f l (by omega)) ?_)
    exact ev_if (fun h => ev_ret (decide_eq_decide.2 (by constructor <;> intro q; exact ⟨h, q⟩; exact q.2))) (fun h => ev_ret (by rw [decide_eq_false (fun q => h q.1)]))
  | succ d ih =>
    intro i hi hg
    have hm := hw _ (gt_mem izP l i (by omega))
    refine Ev.step (fun k => by rw [spec_GoodOp.l0]) ?_
    refine ev_pos (by omega) (ev_pos (by omega) (ev_pos (by omega) ?_))
    rw [wrap_succ i (by omega)]
    simp only [rd_ip]
    refine Ev.bind (spec_l3Part_f _ (by omega) (by omega)) (ev_if (fun h => ?_) (fun h => ev_ret (goodO_part (gt_mem izP l i (by omega)) (by simpa using h)).symm))
    refine ih (i + 1) (by omega) ?_
    rw [gt_take izP l i (by omega), List.all_append, hg]
    simp [h]
theorem spec_GoodOp_f (l : List IP) (hw : ∀ x ∈ l, x.f1.size ≤ 1048576 ∧ x.f2.size ≤ 1048576) : Ev (fun k => spec_GoodOp.f k l) (goodO l) := by
  unfold spec_GoodOp.f
  refine ev_if (fun h => ev_ret (goodO_len (by omega)).symm) (fun h => ?_)
  exact spec_GoodOp_l l (by omega) hw l.length 0 (by omega) rfl
theorem idxBad_f (l : List IP) (hw : ∀ x ∈ l, x.f1.size ≤ 1048576 ∧ x.f2.size ≤ 1048576) : ∀ n : Int, 0 ≤ n → ∃ v : Int, Ev (fun k => idxBad k l n) v ∧ (v ≥ 0 ↔ l.all partB = false) := by
  induction l with
  | nil => exact fun n _ => ⟨-1, by unfold idxBad; exact ev_ret rfl, by simp⟩
  | cons p r ih =>
    intro n hn
    have hm := hw p (List.mem_cons_self ..)
    obtain ⟨v, hv, hb⟩ := ih (fun x hx => hw x (List.mem_cons_of_mem _ hx)) (n + 1) (by omega)
    have hp : Ev (fun k => impl_GoodOp_1.f k p.f0 p.f1 p.f2) (!(partB p)) := by unfold impl_GoodOp_1.f; exact Ev.bind (impl_Part_isPart_f p (by omega) (by omega)) (ev_ret rfl)
    by_cases c : partB p = true
    · refine ⟨v, ?_, by rw [hb, List.all_cons, c, Bool.true_and]⟩
      unfold idxBad
      refine Ev.bind hp (ev_neg (by rw [c]; simp) hv)
    · rw [Bool.not_eq_true] at c
      refine ⟨n, ?_, by rw [List.all_cons, c]; simp; omega⟩
      unfold idxBad
      exact Ev.bind hp (ev_pos (by rw [c]; rfl) (ev_ret rfl))
theorem impl_GoodOp_f (l : List IP) (hw : ∀ x ∈ l, x.f1.size ≤ 1048576 ∧ x.f2.size ≤ 1048576) : Ev (fun k => impl_GoodOp.f k l) (goodO l) := by
  unfold impl_GoodOp.f
  refine ev_if (fun h => ev_ret (goodO_len (by omega)).symm) (fun h => ?_)
  obtain ⟨v, hv, hb⟩ := idxBad_f l hw 0 (by omega)
  refine Ev.bind hv (ev_if (fun c => ev_ret ?_) (fun c => Ev.bind (impl_sizes_f l (by omega)) ?_))
  · unfold goodO; rw [hb.1 c]; simp
  · have hg : l.all partB = true := by
      by_cases q : l.all partB = true
      · exact q
      · exact absurd (hb.2 (by simpa using q)) c
    have e : goodO l = decide (tkS l 0 ≤ 300 ∧ mkS l 0 ≤ 300) := by unfold goodO; rw [hg, decide_eq_true (by omega : l.length ≤ 60)]; rfl
    rw [e]
    exact ev_if (fun h => ev_ret (decide_eq_decide.2 (by constructor <;> intro q; exact ⟨h, q⟩; exact q.2))) (fun h => ev_ret (by rw [decide_eq_false (fun q => h q.1)]))

theorem goodB_size' {s : ByteArray} (h : goodB (bytesOf s) = true) : s.size ≤ 300 := by
  unfold goodB at h
  rw [Bool.and_eq_true, bytesOf_length] at h
  exact of_decide_eq_true h.2
theorem part_facts {p : IP} (h : partB p = true) : 0 ≤ p.f0 ∧ p.f0 ≤ 300 ∧ p.f1.size ≤ 300 ∧ p.f2.size ≤ 300 ∧ (p.f0 = 0 ∨ p.f2.size = 0) := by
  unfold partB at h
  by_cases c0 : p.f0 = 0
  · rw [if_pos c0] at h
    by_cases c1 : p.f1.toList = ([] : List UInt8)
    · rw [if_pos c1] at h
      rw [toList_nil] at c1
      by_cases c2 : p.f2.toList = ([] : List UInt8)
      · rw [if_pos c2] at h; cases h
      · rw [if_neg c2] at h
        have := goodB_size' h
        exact ⟨by omega, by omega, by omega, by omega, Or.inl c0⟩
    · rw [if_neg c1] at h
      by_cases c2 : p.f2.toList = ([] : List UInt8)
      · rw [if_pos c2] at h
        rw [toList_nil] at c2
        have := goodB_size' h
        exact ⟨by omega, by omega, by omega, by omega, Or.inl c0⟩
      · rw [if_neg c2] at h; cases h
  · rw [if_neg c0, Bool.and_eq_true, Bool.and_eq_true] at h
    obtain ⟨a, b, c⟩ := h
    have a := of_decide_eq_true a
    have b := (toList_nil _).1 (of_decide_eq_true b)
    have c := (toList_nil _).1 (by simpa using c)
    exact ⟨by omega, by omega, by omega, by omega, Or.inr c⟩
theorem goodO_facts {l : List IP} (h : goodO l = true) : l.length ≤ 60 ∧ (∀ p ∈ l, partB p = true) ∧ tkS l 0 ≤ 300 ∧ mkS l 0 ≤ 300 := by
  unfold goodO at h
  rw [Bool.and_eq_true, Bool.and_eq_true, List.all_eq_true] at h
  have a := of_decide_eq_true h.1
  have b := of_decide_eq_true h.2.2
  exact ⟨a, h.2.1, b.1, b.2⟩

theorem part_one {p : IP} (h : partB p = true) : One p := by
  obtain ⟨a1, a2, a3, a4, a5⟩ := part_facts h
  refine ⟨a1, a2, a3, a4, ?_, ?_⟩
  · unfold partB at h
    by_cases c0 : p.f0 = 0
    · exact .inl c0
    · rw [if_neg c0, Bool.and_eq_true, Bool.and_eq_true] at h
      exact .inr ⟨(toList_nil _).1 (of_decide_eq_true h.2.1), a5.resolve_left c0⟩
  · unfold partB at h
    by_cases c0 : p.f0 = 0
    · rw [if_pos c0] at h
      by_cases c1 : p.f1.toList = ([] : List UInt8)
      · exact .inl ((toList_nil _).1 c1)
      · rw [if_neg c1] at h
        by_cases c2 : p.f2.toList = ([] : List UInt8)
        · exact .inr ((toList_nil _).1 c2)
        · rw [if_neg c2] at h; cases h
    · exact .inr (a5.resolve_left c0)

def dropL : List IP → List Int
  | [] => []
  | p :: r => (List.replicate p.f0.toNat 0 ++ bytesOf p.f2) ++ dropL r
theorem spec_l4Bytes_l (l : List IP) (hl : l.length ≤ 60) (hp : ∀ p ∈ l, partB p = true) (d : Nat) : ∀ (i : Nat) (a : List Int), i + d = l.length → a.length ≤ 600 * i →
    Ev (fun k => spec_l4Bytes.l0 k a l (l.length : Int) (i : Int)) (a ++ dropL (l.drop i)) := by
  induction d with
  | zero =>
    intro i a hi ha
    refine Ev.step (fun k => by rw [spec_l4Bytes.l0]) ?_
    refine ev_neg (by omega) (ev_ret ?_)
    rw [List.drop_eq_nil_of_le (by omega)]; simp [dropL]
  | succ d ih =>
    intro i a hi ha
    obtain ⟨f1, f2, f3, f4, f5⟩ := part_facts (hp _ (gt_mem izP l i (by omega)))
    refine Ev.step (fun k => by rw [spec_l4Bytes.l0]) ?_
    refine ev_pos (by omega) (ev_pos (by omega) (ev_pos (by omega) ?_))
    rw [gt_drop izP l i (by omega), wrap_succ i (by omega)]
    simp only [rd_ip]
    refine ev_pos (by omega) (ev_pos (by omega) (ev_some (ev_pos ?_ ?_)))
    · rw [List.length_append, List.length_replicate]; omega
    · refine ev_val (ih (i + 1) _ (by omega) ?_) ?_
      · rw [List.length_append, List.length_append, List.length_replicate, bytesOf_length]; omega
      · simp only [dropL, List.append_assoc]
theorem spec_l4Bytes_f (l : List IP) (hl : l.length ≤ 60) (hp : ∀ p ∈ l, partB p = true) : Ev (fun k => spec_l4Bytes.f k l) (dropL l) := by
  unfold spec_l4Bytes.f
  exact spec_l4Bytes_l l hl hp l.length 0 [] (by omega) (by simp)
theorem dropL_len : ∀ (l : List IP), (∀ p ∈ l, partB p = true) → (dropL l).length ≤ 600 * l.length
  | [], _ => by simp [dropL]
  | p :: r, h => by
    obtain ⟨f1, f2, f3, f4, f5⟩ := part_facts (h p (List.mem_cons_self ..))
    have := dropL_len r (fun x hx => h x (List.mem_cons_of_mem _ hx))
    simp only [dropL, List.length_append, List.length_replicate, bytesOf_length, List.length_cons]
    omega

abbrev Seg := ByteArray × ByteArray × Int
/-- A normal change, by what it keeps: what is put and dropped ahead of each. -/
def flatS (l : List Seg) : List Pt := l.flatMap (fun s => endL s.1 s.2.1 ++ [(s.2.2, (⟨#[]⟩ : ByteArray), (⟨#[]⟩ : ByteArray))])
def byteS (l : List Seg) : List Int := l.flatMap (fun s => bytesOf s.2.1 ++ List.replicate s.2.2.toNat 0)
theorem flatS_app (a b : List Seg) : flatS (a ++ b) = flatS a ++ flatS b := by simp [flatS]
theorem byteS_app (a b : List Seg) : byteS (a ++ b) = byteS a ++ byteS b := by simp [byteS]
theorem flatS_cons (s : Seg) (b : List Seg) : flatS (s :: b) = endL s.1 s.2.1 ++ (s.2.2, (⟨#[]⟩ : ByteArray), (⟨#[]⟩ : ByteArray)) :: flatS b := by simp [flatS]
theorem byteS_cons (s : Seg) (b : List Seg) : byteS (s :: b) = bytesOf s.2.1 ++ (List.replicate s.2.2.toNat 0 ++ byteS b) := by simp [byteS]
theorem bytesOf_app (a b : ByteArray) : bytesOf (a ++ b) = bytesOf a ++ bytesOf b := by unfold bytesOf; rw [ByteArray.data_append]; simp
theorem dropL_app (a b : List IP) : dropL (a ++ b) = dropL a ++ dropL b := by
  induction a with
  | nil => rfl
  | cons p r ih => rw [List.cons_append, dropL, dropL, ih]; simp only [List.append_assoc]
theorem bytesOf_nil {s : ByteArray} (h : s.size = 0) : bytesOf s = [] := by
  rw [← List.length_eq_zero_iff, bytesOf_length]; exact h
def NZ (s : ByteArray) : Prop := ∀ x ∈ bytesOf s, x ≠ 0
structure SegOk (n : Nat) (s : Seg) : Prop where
  put : s.1.size ≤ 300 * n
  drop : s.2.1.size ≤ 300 * n
  nz : NZ s.2.1
  pos : 0 < s.2.2
  top : s.2.2 ≤ 300 * (n : Int)
theorem SegOk.more {n : Nat} {s : Seg} (h : SegOk n s) : SegOk (n + 1) s := by
  obtain ⟨a, b, c, d, e⟩ := h
  exact ⟨by omega, by omega, c, d, by omega⟩
structure SegIs (n : Nat) (l : List IP) (s : List Pt × ByteArray × ByteArray) (g : List Seg) : Prop where
  flat : s.1 = flatS g
  ok : ∀ x ∈ g, SegOk n x
  put : s.2.1.size ≤ 300 * n
  drop : s.2.2.size ≤ 300 * n
  nz : NZ s.2.2
  bytes : byteS g ++ bytesOf s.2.2 = dropL l
  len : g.length ≤ n
theorem keepA_end (L : List Pt) (a b : ByteArray) (x : Int) (h : a.size ≠ 0 ∨ b.size ≠ 0) : keepA (L ++ endL a b) x = L ++ (endL a b ++ [(x, (⟨#[]⟩ : ByteArray), (⟨#[]⟩ : ByteArray))]) := by
  have z : ∀ (M : List Pt) (q : Pt), q.1 = 0 → keepA (M ++ [q]) x = M ++ ([q] ++ [(x, (⟨#[]⟩ : ByteArray), (⟨#[]⟩ : ByteArray))]) := fun M q hq => by rw [keepA_app, if_neg (by omega)]; rfl
  by_cases ha : a.size = 0
  · have hb : b.size ≠ 0 := by omega
    rw [endL_01 ha hb]; exact z L _ rfl
  · by_cases hb : b.size = 0
    · rw [endL_10 ha hb]; exact z L _ rfl
    · rw [endL_11 ha hb]
      have := z (L ++ [(0, a, ⟨#[]⟩)]) (0, ⟨#[]⟩, b) rfl
      rw [List.append_assoc, List.append_assoc] at this
      exact this
theorem seg_step (n : Nat) (l : List IP) (s : List Pt × ByteArray × ByteArray) (g : List Seg) (p : IP) (hn : n ≤ 1000) (h : SegIs n l s g) (hp : One p) (hz : NZ p.f2) : ∃ g', SegIs (n + 1) (l ++ [p]) (takeP s (toP p)) g' := by
  obtain ⟨L, a, b⟩ := s
  obtain ⟨p0, p1, p2⟩ := p
  obtain ⟨s1, s2, s3, s4, s5, s6, s7⟩ := h
  obtain ⟨q1, q2, q3, q4, q5, q6⟩ := hp
  simp only at s1 s2 s3 s4 s5 s6 s7 q1 q2 q3 q4 q5 q6 hz
  have hdl : dropL (l ++ [⟨p0, p1, p2⟩]) = dropL l ++ (List.replicate p0.toNat 0 ++ bytesOf p2) := by rw [dropL_app]; simp [dropL]
  by_cases h0 : p0 = 0
  · subst h0
    have et : takeP (L, a, b) (toP ⟨0, p1, p2⟩) = (L, a ++ p1, b ++ p2) := rfl
    rw [et]
    refine ⟨g, s1, fun x hx => (s2 x hx).more, by show (a ++ p1).size ≤ _; rw [ba_len_app]; omega, by show (b ++ p2).size ≤ _; rw [ba_len_app]; omega, ?_, ?_, by omega⟩
    · intro x hx
      rw [bytesOf_app] at hx
      exact (List.mem_append.1 hx).elim (s5 x) (hz x)
    · show byteS g ++ bytesOf (b ++ p2) = _
      rw [hdl, bytesOf_app, ← List.append_assoc, s6]; simp
  · obtain ⟨h1, h2⟩ := q5.resolve_left h0
    have hk : keepS L a b p0 = (keepA (L ++ endL a b) p0, ⟨#[]⟩, ⟨#[]⟩) := by unfold keepS; rw [if_neg h0]
    have et : takeP (L, a, b) (toP ⟨p0, p1, p2⟩) = (keepA (L ++ endL a b) p0, ⟨#[]⟩, ⟨#[]⟩) := by
      unfold takeP toP
      simp only [hk]
      rw [ba_nil h1, ba_nil h2, ba_app]
    have e2 : bytesOf p2 = [] := bytesOf_nil h2
    have e3 : bytesOf (⟨#[]⟩ : ByteArray) = [] := bytesOf_nil rfl
    have nz0 : NZ (⟨#[]⟩ : ByteArray) := fun x hx => by rw [e3] at hx; cases hx
    rw [et]
    by_cases hab : a.size = 0 ∧ b.size = 0
    · obtain ⟨ha, hb⟩ := hab
      rw [bytesOf_nil hb, List.append_nil] at s6
      have eL : L ++ endL a b = flatS g := by rw [endL_00 ha hb, List.append_nil, s1]
      rw [eL]
      rcases List.eq_nil_or_concat g with e | ⟨g0, s0, e⟩
      · subst e
        refine ⟨[(⟨#[]⟩, ⟨#[]⟩, p0)], ?_, ?_, Nat.zero_le _, Nat.zero_le _, nz0, ?_, by simp⟩
        · show keepA (flatS []) p0 = flatS [(⟨#[]⟩, ⟨#[]⟩, p0)]
          rw [flatS_cons, endL_00 sz0 sz0]; rfl
        · intro x hx
          rw [List.mem_singleton.1 hx]
          exact ⟨Nat.zero_le _, Nat.zero_le _, nz0, by simp only; omega, by simp only; omega⟩
        · show byteS [(⟨#[]⟩, ⟨#[]⟩, p0)] ++ bytesOf (⟨#[]⟩ : ByteArray) = _
          rw [hdl, ← s6, byteS_cons, e2, e3]; simp [byteS]
      · subst e
        obtain ⟨u0, v0, k0⟩ := s0
        have o0 := s2 (u0, v0, k0) (by simp)
        have ek : wrap64 (k0 + p0) = k0 + p0 := by have := o0.pos; have := o0.top; simp only at *; exact wrap_id (by omega) (by omega)
        refine ⟨g0 ++ [(u0, v0, k0 + p0)], ?_, ?_, Nat.zero_le _, Nat.zero_le _, nz0, ?_, by simp at s7 ⊢; omega⟩
        · show keepA (flatS (g0.concat (u0, v0, k0))) p0 = flatS (g0 ++ [(u0, v0, k0 + p0)])
          rw [List.concat_eq_append, flatS_app, flatS_app, flatS_cons, flatS_cons]
          have : flatS g0 ++ (endL u0 v0 ++ (k0, (⟨#[]⟩ : ByteArray), (⟨#[]⟩ : ByteArray)) :: flatS []) = (flatS g0 ++ endL u0 v0) ++ [(k0, (⟨#[]⟩ : ByteArray), (⟨#[]⟩ : ByteArray))] := by rw [List.append_assoc]; rfl
          rw [this, keepA_app, if_pos o0.pos, ek, List.append_assoc]; rfl
        · intro x hx
          rcases List.mem_append.1 hx with hx | hx
          · exact (s2 x (by simp [hx])).more
          · rw [List.mem_singleton.1 hx]
            obtain ⟨a1, a2, a3, a4, a5⟩ := o0
            simp only at a1 a2 a3 a4 a5
            exact ⟨by simp only; omega, by simp only; omega, a3, by simp only; omega, by simp only; omega⟩
        · show byteS (g0 ++ [(u0, v0, k0 + p0)]) ++ bytesOf (⟨#[]⟩ : ByteArray) = _
          have hpos := o0.pos
          simp only at hpos
          have er : List.replicate (k0 + p0).toNat (0 : Int) = List.replicate k0.toNat 0 ++ List.replicate p0.toNat 0 := by
            rw [List.replicate_append_replicate]; congr 1; omega
          rw [List.concat_eq_append] at s6
          rw [hdl, ← s6, byteS_app, byteS_app, byteS_cons, byteS_cons, e2, e3, er]; simp [byteS]
    · rw [keepA_end L a b p0 (by omega)]
      refine ⟨g ++ [(a, b, p0)], ?_, ?_, Nat.zero_le _, Nat.zero_le _, nz0, ?_, by simp; omega⟩
      · show L ++ (endL a b ++ [(p0, (⟨#[]⟩ : ByteArray), (⟨#[]⟩ : ByteArray))]) = flatS (g ++ [(a, b, p0)])
        rw [flatS_app, flatS_cons, ← s1]; rfl
      · intro x hx
        rcases List.mem_append.1 hx with hx | hx
        · exact (s2 x hx).more
        · rw [List.mem_singleton.1 hx]
          exact ⟨by simp only; omega, by simp only; omega, s5, by simp only; omega, by simp only; omega⟩
      · show byteS (g ++ [(a, b, p0)]) ++ bytesOf (⟨#[]⟩ : ByteArray) = _
        rw [hdl, ← s6, byteS_app, byteS_cons, e2, e3]; simp [byteS]
theorem part_nz {p : IP} (h : partB p = true) : NZ p.f2 := by
  intro x hx
  have hg : goodB (bytesOf p.f2) = true := by
    unfold partB at h
    by_cases c0 : p.f0 = 0
    · rw [if_pos c0] at h
      by_cases c1 : p.f1.toList = ([] : List UInt8)
      · rw [if_pos c1] at h
        by_cases c2 : p.f2.toList = ([] : List UInt8)
        · rw [if_pos c2] at h; cases h
        · rw [if_neg c2] at h; exact h
      · rw [if_neg c1] at h
        by_cases c2 : p.f2.toList = ([] : List UInt8)
        · rw [bytesOf_nil ((toList_nil _).1 c2)] at hx; cases hx
        · rw [if_neg c2] at h; cases h
    · rw [if_neg c0, Bool.and_eq_true, Bool.and_eq_true] at h
      have := (toList_nil _).1 (by simpa using h.2.2)
      rw [bytesOf_nil this] at hx; cases hx
  unfold goodB textB at hg
  rw [Bool.and_eq_true, List.all_eq_true] at hg
  have := hg.1 x hx
  unfold okB openB plainB at this
  simp only [Bool.or_eq_true, decide_eq_true_eq] at this
  omega
theorem seg_all (l : List IP) (hl : l.length ≤ 60) (hp : ∀ p ∈ l, partB p = true) : ∀ i, i ≤ l.length → ∃ g, SegIs i (l.take i) (stN l i) g
  | 0, _ => by
    have e0 : stN l 0 = ([], (⟨#[]⟩ : ByteArray), (⟨#[]⟩ : ByteArray)) := rfl
    have e3 : bytesOf (⟨#[]⟩ : ByteArray) = [] := bytesOf_nil rfl
    rw [e0]
    refine ⟨[], rfl, ?_, Nat.le_refl _, Nat.le_refl _, ?_, ?_, Nat.le_refl _⟩
    · intro x hx; cases hx
    · intro x hx
      rw [e3] at hx; cases hx
    · show byteS [] ++ bytesOf (⟨#[]⟩ : ByteArray) = _
      rw [e3]; rfl
  | i + 1, h => by
    obtain ⟨g, hg⟩ := seg_all l hl hp i (by omega)
    have hm := hp _ (List.getElem_mem (show i < l.length by omega))
    obtain ⟨g', hg'⟩ := seg_step i (l.take i) (stN l i) g (l[i]'(by omega)) (by omega) hg (part_one hm) (part_nz hm)
    rw [stN_succ l i (by omega), List.take_succ_eq_append_getElem (by omega)]
    exact ⟨g', hg'⟩
/-- The normal change, by what it keeps. -/
theorem norm_segs (l : List IP) (hl : l.length ≤ 60) (hp : ∀ p ∈ l, partB p = true) : ∃ (g : List Seg) (a b : ByteArray), normI l = (flatS g ++ endL a b).map ofP ∧ (∀ x ∈ g, SegOk 60 x) ∧ a.size ≤ 18000 ∧ b.size ≤ 18000 ∧ NZ b ∧ byteS g ++ bytesOf b = dropL l ∧ g.length ≤ 60 := by
  obtain ⟨g, s1, s2, s3, s4, s5, s6, s7⟩ := seg_all l hl hp l.length (Nat.le_refl _)
  have e : stN l l.length = (l.map toP).foldl takeP ([], ⟨#[]⟩, ⟨#[]⟩) := by unfold stN; rw [List.take_of_length_le (Nat.le_refl _)]
  rw [List.take_of_length_le (Nat.le_refl _)] at s6
  refine ⟨g, (stN l l.length).2.1, (stN l l.length).2.2, ?_, fun x hx => ?_, by omega, by omega, s5, s6, by omega⟩
  · unfold normI normP; rw [← e, s1]
  · obtain ⟨a1, a2, a3, a4, a5⟩ := s2 x hx
    exact ⟨by omega, by omega, a3, a4, by omega⟩
theorem at_idx (pre suf : List IP) (p : IP) : gt izP (pre ++ p :: suf) pre.length = p := by
  unfold gt; rw [List.getD_eq_getElem?_getD, List.getElem?_append_right (Nat.le_refl _)]; simp
theorem gt_app_lz {α : Type} (z : α) (a b : List α) (j : Nat) (h : j < a.length) : gt z (a ++ b) j = gt z a j := by
  unfold gt; rw [List.getD_eq_getElem?_getD, List.getElem?_append_left h, ← List.getD_eq_getElem?_getD]

theorem normal_l (l : List IP) (hl : l.length ≤ 60) (hp : ∀ p ∈ l, One p) (d : Nat) : ∀ i : Nat, i + d = l.length → Fit i (stN l i) →
    Ev (fun k => spec_l3Normal.l0 k (allP (stN l i)) l (l.length : Int) (i : Int)) ((normP (l.map toP)).map ofP) := by
  induction d with
  | zero =>
    intro i hi hf
    refine Ev.step (fun k => by rw [spec_l3Normal.l0]) ?_
    refine ev_neg (by omega) (ev_ret ?_)
    have e : stN l i = (l.map toP).foldl takeP ([], ⟨#[]⟩, ⟨#[]⟩) := by unfold stN; rw [List.take_of_length_le (by omega)]
    unfold allP normP; rw [e]
  | succ d ih =>
    intro i hi hf
    have hm := hp _ (gt_mem izP l i (by omega))
    have es := stN_succ l i (by omega)
    have eg : l[i]'(by omega) = gt izP l i := by unfold gt; rw [List.getD_eq_getElem?_getD, List.getElem?_eq_getElem (by omega)]; rfl
    rw [eg] at es
    obtain ⟨h1, h2⟩ := add_step i (stN l i) (gt izP l i) (by omega) hf hm
    rw [← es] at h1 h2
    refine Ev.step (fun k => by rw [spec_l3Normal.l0]) ?_
    refine ev_pos (by omega) (ev_pos (by omega) (ev_pos (by omega) ?_))
    rw [wrap_succ i (by omega)]
    simp only [rd_ip]
    exact Ev.bind h1 (ih (i + 1) (by omega) h2)
theorem spec_l3Normal_f (l : List IP) (hl : l.length ≤ 60) (hp : ∀ p ∈ l, One p) : Ev (fun k => spec_l3Normal.f k l) (normI l) := by
  unfold spec_l3Normal.f
  have e : allP (stN l 0) = [] := by
    have e0 : stN l 0 = ([], (⟨#[]⟩ : ByteArray), (⟨#[]⟩ : ByteArray)) := rfl
    rw [e0]; unfold allP; rw [endL_00 sz0 sz0]; rfl
  have := normal_l l hl hp l.length 0 (by omega) fit_zero
  rw [e] at this
  exact this

theorem impl_dropped_l (l : List IP) (hl : l.length ≤ 60) (hp : ∀ p ∈ l, partB p = true) (d : Nat) : ∀ (i : Nat) (a : List Int), i + d = l.length → a.length ≤ 600 * i →
    Ev (fun k => impl_dropped.l0 k a l (l.length : Int) (i : Int)) (a ++ dropL (l.drop i)) := by
  induction d with
  | zero =>
    intro i a hi ha
    refine Ev.step (fun k => by rw [impl_dropped.l0]) ?_
    refine ev_neg (by omega) (ev_ret ?_)
    rw [List.drop_eq_nil_of_le (by omega)]; simp [dropL]
  | succ d ih =>
    intro i a hi ha
    obtain ⟨f1, f2, f3, f4, f5⟩ := part_facts (hp _ (gt_mem izP l i (by omega)))
    refine Ev.step (fun k => by rw [impl_dropped.l0]) ?_
    refine ev_pos (by omega) (ev_pos (by omega) (ev_pos (by omega) ?_))
    rw [gt_drop izP l i (by omega), wrap_succ i (by omega)]
    simp only [rd_ip]
    refine ev_pos (by omega) (ev_pos (by omega) (ev_some (ev_pos ?_ ?_)))
    · rw [List.length_append, List.length_replicate]; omega
    · refine ev_val (ih (i + 1) _ (by omega) ?_) ?_
      · rw [List.length_append, List.length_append, List.length_replicate, bytesOf_length]; omega
      · simp only [dropL, List.append_assoc]
theorem impl_dropped_f (l : List IP) (hl : l.length ≤ 60) (hp : ∀ p ∈ l, partB p = true) : Ev (fun k => impl_dropped.f k l) (dropL l) := by
  unfold impl_dropped.f
  exact impl_dropped_l l hl hp l.length 0 [] (by omega) (by simp)
def sameD (x y : List Int) : Nat → Nat → Bool × Bool
  | 0, _ => (true, true)
  | d + 1, i => if rd x (i : Int) = 0 then sameD x y d (i + 1) else (if rd y (i : Int) = 0 then sameD x y d (i + 1) else (if rd x (i : Int) = rd y (i : Int) then sameD x y d (i + 1) else (false, true)))
theorem spec_l4Same_l (x y : List Int) (hx : x.length ≤ 1048576) (hxy : x.length = y.length) (d : Nat) : ∀ i : Nat, i + d = x.length →
    Ev (fun k => spec_l4Same.l0 k x y (x.length : Int) (i : Int)) (sameD x y d i) := by
  induction d with
  | zero =>
    intro i hi
    refine Ev.step (fun k => by rw [spec_l4Same.l0]) ?_
    exact ev_neg (by omega) (ev_ret rfl)
  | succ d ih =>
    intro i hi
    refine Ev.step (fun k => by rw [spec_l4Same.l0]) ?_
    refine ev_pos (by omega) (ev_pos (by omega) (ev_pos (by omega) ?_))
    rw [wrap_succ i (by omega)]
    have ih' := ih (i + 1) (by omega)
    unfold sameD
    refine ev_if (fun h => by rw [if_pos h]; exact ih') (fun h => ?_)
    rw [if_neg h]
    refine ev_pos (by omega) (ev_if (fun h => by rw [if_pos h]; exact ih') (fun h => ?_))
    rw [if_neg h]
    exact ev_if (fun h => by rw [if_pos h]; exact ih') (fun h => by rw [if_neg h]; exact ev_ret rfl)
theorem impl_SameTexts_l (x y : List Int) (hx : x.length ≤ 1048576) (hxy : x.length = y.length) (d : Nat) : ∀ i : Nat, i + d = x.length →
    Ev (fun k => impl_SameTexts.l0 k y x (x.length : Int) (i : Int)) (sameD x y d i) := by
  induction d with
  | zero =>
    intro i hi
    refine Ev.step (fun k => by rw [impl_SameTexts.l0]) ?_
    exact ev_neg (by omega) (ev_ret rfl)
  | succ d ih =>
    intro i hi
    refine Ev.step (fun k => by rw [impl_SameTexts.l0]) ?_
    refine ev_pos (by omega) (ev_pos (by omega) (ev_pos (by omega) ?_))
    rw [wrap_succ i (by omega)]
    have ih' := ih (i + 1) (by omega)
    unfold sameD
    refine ev_if (fun h => by rw [if_pos h]; exact ih') (fun h => ?_)
    rw [if_neg h]
    refine ev_pos (by omega) (ev_if (fun h => by rw [if_pos h]; exact ih') (fun h => ?_))
    rw [if_neg h]
    exact ev_if (fun h => by rw [if_pos h]; exact ih') (fun h => by rw [if_neg h]; exact ev_ret rfl)
def sameR (a b : List IP) : Bool × Bool := if (dropL a).length = (dropL b).length then sameD (dropL a) (dropL b) (dropL a).length 0 else (false, false)
theorem spec_l4Same_f (a b : List IP) (ha : a.length ≤ 60) (pa : ∀ p ∈ a, partB p = true) (hb : b.length ≤ 60) (pb : ∀ p ∈ b, partB p = true) : Ev (fun k => spec_l4Same.f k a b) (sameR a b) := by
  unfold spec_l4Same.f sameR
  have la := dropL_len a pa
  refine Ev.bind (spec_l4Bytes_f a ha pa) (Ev.bind (spec_l4Bytes_f b hb pb) ?_)
  by_cases c : (dropL a).length = (dropL b).length
  · rw [if_pos c]
    exact ev_pos (by omega) (spec_l4Same_l _ _ (by omega) c _ 0 (by omega))
  · rw [if_neg c]
    exact ev_neg (by omega) (ev_ret rfl)
def sameT (a b : List IP) : Bool × Bool := if goodO a = true then (if goodO b = true then sameR a b else (false, false)) else (false, false)
theorem impl_SameTexts_f (a b : List IP) (wa : ∀ x ∈ a, x.f1.size ≤ 1048576 ∧ x.f2.size ≤ 1048576) (wb : ∀ x ∈ b, x.f1.size ≤ 1048576 ∧ x.f2.size ≤ 1048576) : Ev (fun k => impl_SameTexts.f k a b) (sameT a b) := by
  unfold impl_SameTexts.f sameT
  refine Ev.bind (impl_GoodOp_f a wa) (ev_if (fun ga => ?_) (fun ga => ?_))
  · rw [if_pos ga]
    refine Ev.bind (impl_GoodOp_f b wb) ?_
    refine Ev.step (fun k => by rw [impl_SameTexts.j0]) ?_
    by_cases gb : goodO b = true
    · rw [if_pos gb]
      obtain ⟨ha, pa, _, _⟩ := goodO_facts ga
      obtain ⟨hb, pb, _, _⟩ := goodO_facts gb
      have la := dropL_len a pa
      refine ev_neg (by rw [gb]; simp) (Ev.bind (impl_dropped_f a ha pa) (Ev.bind (impl_dropped_f b hb pb) ?_))
      unfold sameR
      by_cases c : (dropL a).length = (dropL b).length
      · rw [if_pos c]
        exact ev_pos (by omega) (impl_SameTexts_l _ _ (by omega) c _ 0 (by omega))
      · rw [if_neg c]
        exact ev_neg (by omega) (ev_ret rfl)
    · rw [if_neg gb]
      rw [Bool.not_eq_true] at gb
      exact ev_pos (by rw [gb]; rfl) (ev_ret rfl)
  · rw [if_neg ga]
    refine Ev.step (fun k => by rw [impl_SameTexts.j0]) ?_
    exact ev_pos rfl (ev_ret rfl)

def AdjP : List (Int × Int) → Prop
  | x :: y :: t => ((x.1 > 0 ∧ x.1 = y.1) ↔ (x.2 ≠ 0 ∧ y.2 ≠ 0)) ∧ AdjP (y :: t)
  | _ => True
theorem adj_zero (n : Nat) (t : List (Int × Int)) (h : AdjP t) : AdjP (List.replicate n (0, 0) ++ t) := by
  induction n with
  | zero => exact h
  | succ n ih =>
    rw [List.replicate_succ, List.cons_append]
    cases hq : List.replicate n ((0 : Int), (0 : Int)) ++ t with
    | nil => exact trivial
    | cons y r =>
      rw [hq] at ih
      exact ⟨by simp, ih⟩
theorem adj_drop (r : Int) (hr : 0 < r) (d : List Int) (hd : ∀ x ∈ d, x ≠ 0) (t : List (Int × Int)) (ht : t = [] ∨ ∃ u, t = (0, 0) :: u) (h : AdjP t) : AdjP (d.map (fun x => (r, x)) ++ t) := by
  induction d with
  | nil => exact h
  | cons a d ih =>
    have ih' := ih (fun x hx => hd x (List.mem_cons_of_mem _ hx))
    have ha := hd a (List.mem_cons_self ..)
    rw [List.map_cons, List.cons_append]
    cases d with
    | nil =>
      rw [List.map_nil, List.nil_append] at ih' ⊢
      rcases ht with rfl | ⟨u, rfl⟩
      · exact trivial
      · exact ⟨by simp only; constructor <;> intro q <;> omega, ih'⟩
    | cons c d =>
      rw [List.map_cons, List.cons_append] at ih' ⊢
      have hc := hd c (List.mem_cons_of_mem _ (List.mem_cons_self ..))
      exact ⟨by simp only; exact ⟨fun _ => ⟨ha, hc⟩, fun _ => ⟨hr, trivial⟩⟩, ih'⟩
/-- Runs and bytes, side by side. -/
def runZ : Nat → List Seg → ByteArray → List (Int × Int)
  | r, [], b => (bytesOf b).map (fun x => (((r + 1 : Nat) : Int), x))
  | r, s :: g, b => (bytesOf s.2.1).map (fun x => (((r + 1 : Nat) : Int), x)) ++ (List.replicate s.2.2.toNat (0, 0) ++ runZ (if s.2.1.size = 0 then r else r + 1) g b)
theorem runZ_adj (b : ByteArray) (nb : NZ b) : ∀ (g : List Seg) (r : Nat), (∀ x ∈ g, SegOk 60 x) → AdjP (runZ r g b)
  | [], r, _ => by
    have := adj_drop ((r + 1 : Nat) : Int) (by omega) (bytesOf b) nb [] (.inl rfl) trivial
    rw [List.append_nil] at this
    exact this
  | s :: g, r, h => by
    have o := h s (List.mem_cons_self ..)
    have ih := runZ_adj b nb g (if s.2.1.size = 0 then r else r + 1) (fun x hx => h x (List.mem_cons_of_mem _ hx))
    have hp := o.pos
    refine adj_drop ((r + 1 : Nat) : Int) (by omega) (bytesOf s.2.1) o.nz _ (.inr ?_) (adj_zero _ _ ih)
    obtain ⟨m, hm⟩ := Nat.exists_eq_succ_of_ne_zero (show s.2.2.toNat ≠ 0 by omega)
    rw [hm, List.replicate_succ, List.cons_append]
    exact ⟨_, rfl⟩
theorem runZ_snd (b : ByteArray) : ∀ (g : List Seg) (r : Nat), (runZ r g b).map (fun x => x.2) = byteS g ++ bytesOf b
  | [], r => by simp [runZ, byteS, Function.comp_def]
  | s :: g, r => by
    have ih := runZ_snd b g (if s.2.1.size = 0 then r else r + 1)
    rw [byteS_cons, runZ, List.map_append, List.map_append, ih]
    simp [Function.comp_def]
theorem adj_at : ∀ (z : List (Int × Int)), AdjP z → ∀ i, i + 1 < z.length → ((gt 0 (z.map (fun x => x.1)) i > 0 ∧ gt 0 (z.map (fun x => x.1)) i = gt 0 (z.map (fun x => x.1)) (i + 1)) ↔ (gt 0 (z.map (fun x => x.2)) i ≠ 0 ∧ gt 0 (z.map (fun x => x.2)) (i + 1) ≠ 0))
  | [], _, i, h => by simp at h
  | [_], _, i, h => by simp at h
  | x :: y :: t, ha, 0, _ => ha.1
  | x :: y :: t, ha, i + 1, h => by
    have := adj_at (y :: t) ha.2 i (by simp at h ⊢; omega)
    exact this
/-- The reference's numbers of runs. -/
theorem runs_l1 (X : List IP) (p0 : Int) (p1 p2 : ByteArray) (run : Int) (n idx : Int) (hp : p2.size ≤ 1000000) (d : Nat) : ∀ (j : Nat) (x3 : List Int), j + d = p2.size → x3.length ≤ 100000000 + j → ∀ r, Ev (fun k => spec_l4Runs.l0 k (x3 ++ List.replicate d run) run X n (wrap64 (idx + 1))) r → Ev (fun k => spec_l4Runs.l1 k x3 run (j : Int) X n idx p0 p1 p2) r := by
  induction d with
  | zero =>
    intro j x3 hj hx r h
    refine Ev.step (fun k => by rw [spec_l4Runs.l1]) ?_
    rw [List.replicate_zero, List.append_nil] at h
    exact ev_neg (by omega) h
  | succ d ih =>
    intro j x3 hj hx r h
    refine Ev.step (fun k => by rw [spec_l4Runs.l1]) ?_
    refine ev_pos (by omega) (ev_pos (by omega) ?_)
    rw [wrap_succ j (by omega)]
    refine ih (j + 1) (x3 ++ [run]) (by omega) (by rw [List.length_append, List.length_singleton]; omega) r ?_
    rw [List.append_assoc]
    exact h
theorem app_one (pre suf : List IP) (p : IP) : pre ++ p :: suf = (pre ++ [p]) ++ suf := by rw [List.append_assoc]; rfl
theorem len_one (pre : List IP) (p : IP) (h : pre.length ≤ 1000000) : wrap64 ((pre.length : Int) + 1) = ((pre ++ [p]).length : Int) := by
  rw [wrap_succ _ (by omega), List.length_append, List.length_singleton]
theorem runs_part (pre suf : List IP) (p : IP) (run : Nat) (x3 : List Int) (h0 : 0 ≤ p.f0 ∧ p.f0 ≤ 100000) (h2 : p.f2.size ≤ 100000) (hpl : pre.length ≤ 10000) (hx : x3.length ≤ 50000000) (hr : run ≤ 100000) (r : List Int)
    (h : Ev (fun k => spec_l4Runs.l0 k ((x3 ++ List.replicate p.f0.toNat 0) ++ List.replicate p.f2.size ((run + 1 : Nat) : Int)) ((if p.f2.size = 0 then run else run + 1 : Nat) : Int) ((pre ++ [p]) ++ suf) (((pre ++ [p]) ++ suf).length : Int) ((pre ++ [p]).length : Int)) r) :
    Ev (fun k => spec_l4Runs.l0 k x3 (run : Int) (pre ++ p :: suf) ((pre ++ p :: suf).length : Int) (pre.length : Int)) r := by
  have hl : (pre ++ p :: suf).length = pre.length + (suf.length + 1) := by rw [List.length_append, List.length_cons]
  rw [← app_one, ← len_one pre _ (by omega)] at h
  have hlx : (x3 ++ List.replicate p.f0.toNat (0 : Int)).length ≤ 100000000 := by rw [List.length_append, List.length_replicate]; omega
  refine Ev.step (fun k => by rw [spec_l4Runs.l0]) ?_
  simp only [rd_ip, at_idx]
  refine ev_pos (by omega) (ev_pos (by omega) (ev_pos (by omega) (ev_pos h0.1 (ev_pos (by omega) (ev_eq rfl (ev_if (fun c => ?_) (fun c => ?_)))))))
  · rw [toList_nil] at c
    rw [if_pos c, c, List.replicate_zero, List.append_nil] at h
    refine Ev.step (fun k => by rw [spec_l4Runs.j1]) ?_
    exact runs_l1 _ p.f0 p.f1 p.f2 (run : Int) _ _ (by omega) p.f2.size 0 _ (by omega) (by omega) r (by rw [c, List.replicate_zero, List.append_nil]; exact h)
  · rw [toList_nil] at c
    rw [if_neg c] at h
    refine Ev.step (fun k => by rw [spec_l4Runs.j1]) ?_
    rw [wrap_succ run (by omega)]
    exact runs_l1 _ p.f0 p.f1 p.f2 ((run + 1 : Nat) : Int) _ _ (by omega) p.f2.size 0 _ (by omega) (by omega) r h
theorem runs_group (pre suf : List IP) (u v : ByteArray) (run : Nat) (x3 : List Int) (h1 : u.size ≤ 100000) (h2 : v.size ≤ 100000) (hpl : pre.length ≤ 9000) (hx : x3.length ≤ 50000000) (hr : run ≤ 100000) (r : List Int)
    (h : Ev (fun k => spec_l4Runs.l0 k (x3 ++ List.replicate v.size ((run + 1 : Nat) : Int)) ((if v.size = 0 then run else run + 1 : Nat) : Int) ((pre ++ (endL u v).map ofP) ++ suf) (((pre ++ (endL u v).map ofP) ++ suf).length : Int) ((pre ++ (endL u v).map ofP).length : Int)) r) :
    Ev (fun k => spec_l4Runs.l0 k x3 (run : Int) ((pre ++ (endL u v).map ofP) ++ suf) (((pre ++ (endL u v).map ofP) ++ suf).length : Int) (pre.length : Int)) r := by
  by_cases hu : u.size = 0
  · by_cases hv : v.size = 0
    · rw [endL_00 hu hv] at h ⊢
      rw [if_pos hv, hv, List.replicate_zero, List.append_nil] at h
      simp only [List.map_nil, List.append_nil] at h ⊢
      exact h
    · rw [endL_01 hu hv] at h ⊢
      rw [List.append_assoc]
      refine runs_part pre suf ⟨0, ⟨#[]⟩, v⟩ run x3 ⟨Int.le_refl _, by show (0 : Int) ≤ 100000; omega⟩ h2 (by omega) hx hr r ?_
      simp only [Int.toNat_zero, List.replicate_zero, List.append_nil]
      exact h
  · by_cases hv : v.size = 0
    · rw [endL_10 hu hv] at h ⊢
      rw [List.append_assoc]
      refine runs_part pre suf ⟨0, u, ⟨#[]⟩⟩ run x3 ⟨Int.le_refl _, by show (0 : Int) ≤ 100000; omega⟩ (Nat.zero_le _) (by omega) hx hr r ?_
      simp only [Int.toNat_zero, List.replicate_zero, List.append_nil, sz0, if_true]
      rw [if_pos hv, hv, List.replicate_zero, List.append_nil] at h
      exact h
    · rw [endL_11 hu hv] at h ⊢
      rw [List.append_assoc]
      refine runs_part pre ((⟨0, ⟨#[]⟩, v⟩ : IP) :: suf) ⟨0, u, ⟨#[]⟩⟩ run x3 ⟨Int.le_refl _, by show (0 : Int) ≤ 100000; omega⟩ (Nat.zero_le _) (by omega) hx hr r ?_
      simp only [Int.toNat_zero, List.replicate_zero, List.append_nil, sz0, if_true]
      refine runs_part (pre ++ [⟨0, u, ⟨#[]⟩⟩]) suf ⟨0, ⟨#[]⟩, v⟩ run x3 ⟨Int.le_refl _, by show (0 : Int) ≤ 100000; omega⟩ h2 (by rw [List.length_append, List.length_singleton]; omega) hx hr r ?_
      simp only [Int.toNat_zero, List.replicate_zero, List.append_nil]
      have em : (pre ++ [(⟨0, u, ⟨#[]⟩⟩ : IP)]) ++ [(⟨0, ⟨#[]⟩, v⟩ : IP)] = pre ++ List.map ofP [(0, u, (⟨#[]⟩ : ByteArray)), (0, ⟨#[]⟩, v)] := by rw [List.append_assoc]; rfl
      rw [em]
      exact h
theorem seg_suf (g : List Seg) (a b : ByteArray) (s : Seg) : (flatS (s :: g) ++ endL a b).map ofP = (endL s.1 s.2.1).map ofP ++ ((⟨s.2.2, ⟨#[]⟩, ⟨#[]⟩⟩ : IP) :: (flatS g ++ endL a b).map ofP) := by
  rw [flatS_cons, List.append_assoc, List.map_append, List.cons_append, List.map_cons]; rfl
theorem endL_map_len (u v : ByteArray) : ((endL u v).map ofP).length ≤ 2 := by rw [List.length_map]; exact endL_len u v
theorem map_rep (v : ByteArray) (r : Nat) : ((bytesOf v).map (fun x => (((r + 1 : Nat) : Int), x))).map (fun x => x.1) = List.replicate v.size ((r + 1 : Nat) : Int) := by
  rw [List.map_map, ← bytesOf_length v]
  exact List.map_const' ..
theorem runs_all (a b : ByteArray) (ha : a.size ≤ 20000) (hb : b.size ≤ 20000) : ∀ (g : List Seg), (∀ x ∈ g, SegOk 60 x) → ∀ (pre : List IP) (run : Nat) (x3 : List Int), pre.length + 3 * g.length ≤ 1000 → run ≤ pre.length → x3.length ≤ 40000 * pre.length →
    Ev (fun k => spec_l4Runs.l0 k x3 (run : Int) (pre ++ (flatS g ++ endL a b).map ofP) ((pre ++ (flatS g ++ endL a b).map ofP).length : Int) (pre.length : Int)) (x3 ++ (runZ run g b).map (fun x => x.1))
  | [], hg, pre, run, x3, hl, hr, hx => by
    have em : pre ++ (flatS [] ++ endL a b).map ofP = (pre ++ (endL a b).map ofP) ++ [] := by rw [List.append_nil]; rfl
    have e2 := endL_map_len a b
    simp only [List.length_nil] at hl
    rw [em]
    refine runs_group pre [] a b run x3 (by omega) (by omega) (by omega) (by omega) (by omega) _ ?_
    rw [List.append_nil, runZ, map_rep]
    refine Ev.step (fun k => by rw [spec_l4Runs.l0]) ?_
    exact ev_neg (by omega) (ev_ret rfl)
  | s :: g, hg, pre, run, x3, hl, hr, hx => by
    obtain ⟨o1, o2, o3, o4, o5⟩ := hg s (List.mem_cons_self ..)
    obtain ⟨u, v, x⟩ := s
    simp only at o1 o2 o3 o4 o5
    have e2 := endL_map_len u v
    simp only [List.length_cons] at hl
    rw [seg_suf, ← List.append_assoc]
    simp only
    have hl1 : (pre ++ (endL u v).map ofP).length = pre.length + ((endL u v).map ofP).length := List.length_append
    have hv1 : v.size ≠ 0 → 1 ≤ ((endL u v).map ofP).length := fun hv => by
      rw [List.length_map]
      by_cases hu : u.size = 0
      · rw [endL_01 hu hv]; exact Nat.le_refl _
      · rw [endL_11 hu hv]; exact Nat.le_succ _
    have hrun : (if v.size = 0 then run else run + 1) ≤ pre.length + ((endL u v).map ofP).length := by
      by_cases hv : v.size = 0
      · rw [if_pos hv]; omega
      · rw [if_neg hv]; have := hv1 hv; omega
    refine runs_group pre _ u v run x3 (by omega) (by omega) (by omega) (by omega) (by omega) _ ?_
    refine runs_part (pre ++ (endL u v).map ofP) _ ⟨x, ⟨#[]⟩, ⟨#[]⟩⟩ (if v.size = 0 then run else run + 1) _ ⟨by show 0 ≤ x; omega, by show x ≤ 100000; omega⟩ (Nat.zero_le _) (by omega) (by rw [List.length_append, List.length_replicate]; omega) (by omega) _ ?_
    simp only [sz0, if_true, List.replicate_zero, List.append_nil]
    have := runs_all a b ha hb g (fun y hy => hg y (List.mem_cons_of_mem _ hy)) ((pre ++ (endL u v).map ofP) ++ [⟨x, ⟨#[]⟩, ⟨#[]⟩⟩]) (if v.size = 0 then run else run + 1) ((x3 ++ List.replicate v.size ((run + 1 : Nat) : Int)) ++ List.replicate x.toNat 0)
      (by rw [List.length_append, List.length_singleton]; omega) (by rw [List.length_append, List.length_singleton]; omega) (by simp only [List.length_append, List.length_replicate, List.length_singleton] at hl1 ⊢; omega)
    refine ev_val this ?_
    rw [runZ, List.map_append, List.map_append, map_rep, List.append_assoc, List.append_assoc]
    congr 2
    rw [List.map_replicate]
/-- The program counts what the reference counts, part by part. -/
theorem within_l (D R : List Int) (hRD : R.length = D.length) (hD : D.length ≤ 1000000) (hadj : ∀ i, i + 1 < D.length → ((gt 0 R i > 0 ∧ gt 0 R i = gt 0 R (i + 1)) ↔ (gt 0 D i ≠ 0 ∧ gt 0 D (i + 1) ≠ 0))) (X : List IP) (hX : X.length ≤ 1000) (hw : ∀ p ∈ X, 0 ≤ p.f0 ∧ p.f0 ≤ 20000 ∧ p.f2.size ≤ 20000) (d : Nat) : ∀ (i at_ c : Nat), i + d = X.length → at_ ≤ 40000 * i → c ≤ i →
    ∃ n : Int, Ev (fun k => spec_l4Within.l0 k D R (c : Int) (at_ : Int) X (X.length : Int) (i : Int)) n ∧ Ev (fun k => impl_putsWithin.l0 k D (c : Int) (at_ : Int) X (X.length : Int) (i : Int)) n := by
  induction d with
  | zero =>
    intro i at_ c hi ha hc
    refine ⟨(c : Int), ?_, ?_⟩
    · refine Ev.step (fun k => by rw [spec_l4Within.l0]) ?_
      exact ev_neg (by omega) (ev_ret rfl)
    · refine Ev.step (fun k => by rw [impl_putsWithin.l0]) ?_
      exact ev_neg (by omega) (ev_ret rfl)
  | succ d ih =>
    intro i at_ c hi ha hc
    obtain ⟨w1, w2, w3⟩ := hw _ (gt_mem izP X i (by omega))
    obtain ⟨xn, hxn⟩ := Int.eq_ofNat_of_zero_le w1
    have e1 : wrap64 ((at_ : Int) + wrap64 ((gt izP X i).f0 + ((gt izP X i).f2.size : Int))) = ((at_ + xn + (gt izP X i).f2.size : Nat) : Int) := by
      rw [wrap_id (x := (gt izP X i).f0 + ((gt izP X i).f2.size : Int)) (by omega) (by omega), wrap_id (by omega) (by omega)]; omega
    obtain ⟨n0, p1, p2⟩ := ih (i + 1) (at_ + xn + (gt izP X i).f2.size) c (by omega) (by omega) (by omega)
    obtain ⟨n1, q1, q2⟩ := ih (i + 1) (at_ + xn + (gt izP X i).f2.size) (c + 1) (by omega) (by omega) (by omega)
    have spl : ∀ n, Ev (fun k => if (gt izP X i).f1.toList = ([] : List UInt8) then spec_l4Within.l0 k D R (c : Int) ((at_ + xn + (gt izP X i).f2.size : Nat) : Int) X (X.length : Int) ((i + 1 : Nat) : Int) else
        if (at_ : Int) > 0 then if (at_ : Int) < (D.length : Int) then if 0 ≤ wrap64 ((at_ : Int) - 1) then if wrap64 ((at_ : Int) - 1) < (R.length : Int) then if rd R (wrap64 ((at_ : Int) - 1)) > 0 then if 0 ≤ (at_ : Int) then if (at_ : Int) < (R.length : Int) then if rd R (wrap64 ((at_ : Int) - 1)) = rd R (at_ : Int) then
          spec_l4Within.l0 k D R (wrap64 ((c : Int) + 1)) ((at_ + xn + (gt izP X i).f2.size : Nat) : Int) X (X.length : Int) ((i + 1 : Nat) : Int) else spec_l4Within.l0 k D R (c : Int) ((at_ + xn + (gt izP X i).f2.size : Nat) : Int) X (X.length : Int) ((i + 1 : Nat) : Int) else none else none else spec_l4Within.l0 k D R (c : Int) ((at_ + xn + (gt izP X i).f2.size : Nat) : Int) X (X.length : Int) ((i + 1 : Nat) : Int) else none else none else spec_l4Within.l0 k D R (c : Int) ((at_ + xn + (gt izP X i).f2.size : Nat) : Int) X (X.length : Int) ((i + 1 : Nat) : Int) else spec_l4Within.l0 k D R (c : Int) ((at_ + xn + (gt izP X i).f2.size : Nat) : Int) X (X.length : Int) ((i + 1 : Nat) : Int)) n →
        Ev (fun k => spec_l4Within.l0 k D R (c : Int) (at_ : Int) X (X.length : Int) (i : Int)) n := fun n h => by
      refine Ev.step (fun k => by rw [spec_l4Within.l0]) ?_
      simp only [rd_ip]
      rw [e1, wrap_succ i (by omega)]
      exact ev_pos (by omega) (ev_pos (by omega) (ev_pos (by omega) h))
    have ipl : ∀ n, Ev (fun k => if (gt izP X i).f1.toList = ([] : List UInt8) then impl_putsWithin.l0 k D (c : Int) ((at_ + xn + (gt izP X i).f2.size : Nat) : Int) X (X.length : Int) ((i + 1 : Nat) : Int) else
        if (at_ : Int) > 0 then if (at_ : Int) < (D.length : Int) then if 0 ≤ wrap64 ((at_ : Int) - 1) then if wrap64 ((at_ : Int) - 1) < (D.length : Int) then if rd D (wrap64 ((at_ : Int) - 1)) = 0 then impl_putsWithin.l0 k D (c : Int) ((at_ + xn + (gt izP X i).f2.size : Nat) : Int) X (X.length : Int) ((i + 1 : Nat) : Int) else if 0 ≤ (at_ : Int) then if rd D (at_ : Int) = 0 then
          impl_putsWithin.l0 k D (c : Int) ((at_ + xn + (gt izP X i).f2.size : Nat) : Int) X (X.length : Int) ((i + 1 : Nat) : Int) else impl_putsWithin.l0 k D (wrap64 ((c : Int) + 1)) ((at_ + xn + (gt izP X i).f2.size : Nat) : Int) X (X.length : Int) ((i + 1 : Nat) : Int) else none else none else none else impl_putsWithin.l0 k D (c : Int) ((at_ + xn + (gt izP X i).f2.size : Nat) : Int) X (X.length : Int) ((i + 1 : Nat) : Int) else impl_putsWithin.l0 k D (c : Int) ((at_ + xn + (gt izP X i).f2.size : Nat) : Int) X (X.length : Int) ((i + 1 : Nat) : Int)) n →
        Ev (fun k => impl_putsWithin.l0 k D (c : Int) (at_ : Int) X (X.length : Int) (i : Int)) n := fun n h => by
      refine Ev.step (fun k => by rw [impl_putsWithin.l0]) ?_
      simp only [rd_ip]
      rw [e1, wrap_succ i (by omega)]
      exact ev_pos (by omega) (ev_pos (by omega) (ev_pos (by omega) h))
    by_cases hp : (gt izP X i).f1.toList = ([] : List UInt8)
    · exact ⟨n0, spl n0 (ev_pos hp p1), ipl n0 (ev_pos hp p2)⟩
    · by_cases h1 : (at_ : Int) > 0
      · by_cases h2 : (at_ : Int) < (D.length : Int)
        · obtain ⟨j, rfl⟩ := Nat.exists_eq_succ_of_ne_zero (show at_ ≠ 0 by omega)
          have ew : wrap64 (((j + 1 : Nat) : Int) - 1) = (j : Int) := by rw [wrap_id (by omega) (by omega)]; omega
          have hj := hadj j (by omega)
          rw [show Nat.succ j = j + 1 from rfl] at *
          by_cases c1 : gt 0 R j > 0 ∧ gt 0 R j = gt 0 R (j + 1)
          · obtain ⟨c3, c4⟩ := hj.1 c1
            refine ⟨n1, spl n1 (ev_neg hp (ev_pos h1 (ev_pos h2 ?_))), ipl n1 (ev_neg hp (ev_pos h1 (ev_pos h2 ?_)))⟩
            · rw [ew, wrap_succ c (by omega)]
              exact ev_pos (by omega) (ev_pos (by omega) (ev_pos c1.1 (ev_pos (by omega) (ev_pos (by omega) (ev_pos c1.2 q1)))))
            · rw [ew, wrap_succ c (by omega)]
              exact ev_pos (by omega) (ev_pos (by omega) (ev_neg c3 (ev_pos (by omega) (ev_neg c4 q2))))
          · refine ⟨n0, spl n0 (ev_neg hp (ev_pos h1 (ev_pos h2 ?_))), ipl n0 (ev_neg hp (ev_pos h1 (ev_pos h2 ?_)))⟩
            · rw [ew]
              refine ev_pos (by omega) (ev_pos (by omega) (ev_if (fun c2 => ev_pos (by omega) (ev_pos (by omega) (ev_neg (fun c3 => c1 ⟨c2, c3⟩) p1))) (fun _ => p1)))
            · rw [ew]
              refine ev_pos (by omega) (ev_pos (by omega) (ev_if (fun _ => p2) (fun c2 => ev_pos (by omega) (ev_if (fun _ => p2) (fun c3 => absurd (hj.2 ⟨c2, c3⟩) c1)))))
        · exact ⟨n0, spl n0 (ev_neg hp (ev_pos h1 (ev_neg h2 p1))), ipl n0 (ev_neg hp (ev_pos h1 (ev_neg h2 p2)))⟩
      · exact ⟨n0, spl n0 (ev_neg hp (ev_neg h1 p1)), ipl n0 (ev_neg hp (ev_neg h1 p2))⟩
theorem normI_parts {l : List IP} {g : List Seg} {a b : ByteArray} (e : normI l = (flatS g ++ endL a b).map ofP) (hg : ∀ x ∈ g, SegOk 60 x) (ha : a.size ≤ 18000) (hb : b.size ≤ 18000) : ∀ p ∈ normI l, 0 ≤ p.f0 ∧ p.f0 ≤ 20000 ∧ p.f2.size ≤ 20000 := by
  have he : ∀ (u v : ByteArray), v.size ≤ 18000 → ∀ q ∈ endL u v, q.1 = 0 ∧ q.2.2.size ≤ 18000 := fun u v hv q hq => by
    unfold endL at hq
    rcases List.mem_append.1 hq with h | h
    · split at h
      · cases h
      · rw [List.mem_singleton.1 h]; exact ⟨rfl, Nat.zero_le _⟩
    · split at h
      · cases h
      · rw [List.mem_singleton.1 h]; exact ⟨rfl, hv⟩
  rw [e]
  intro p hp
  obtain ⟨q, hq, rfl⟩ := List.mem_map.1 hp
  show 0 ≤ q.1 ∧ q.1 ≤ 20000 ∧ q.2.2.size ≤ 20000
  rcases List.mem_append.1 hq with h | h
  · unfold flatS at h
    obtain ⟨s, hs, h⟩ := List.mem_flatMap.1 h
    obtain ⟨o1, o2, o3, o4, o5⟩ := hg s hs
    rcases List.mem_append.1 h with h | h
    · have := he _ _ (by omega) q h; omega
    · rw [List.mem_singleton.1 h]
      exact ⟨by show 0 ≤ s.2.2; omega, by show s.2.2 ≤ 20000; omega, Nat.zero_le _⟩
  · have := he a b (by omega) q h; omega
theorem within_f (a b : List IP) (ha : a.length ≤ 60) (pa : ∀ p ∈ a, partB p = true) (hb : b.length ≤ 60) (pb : ∀ p ∈ b, partB p = true) : ∃ n : Int, Ev (fun k => spec_l4Within.f k a b) n ∧ Ev (fun k => impl_putsWithin.f k (normI a) (dropL b)) n := by
  obtain ⟨g, u, v, e, s1, s2, s3, s4, s5, s6⟩ := norm_segs b hb pb
  obtain ⟨g', u', v', e', t1, t2, t3, t4, t5, t6⟩ := norm_segs a ha pa
  have lb := dropL_len b pb
  have hz := runZ_snd v g 0
  rw [s5] at hz
  have hzl : (runZ 0 g v).length = (dropL b).length := by rw [← hz, List.length_map]
  have ho : ∀ p ∈ a, One p := fun p h => part_one (pa p h)
  have ho' : ∀ p ∈ b, One p := fun p h => part_one (pb p h)
  have hr := runs_all u v (by omega) (by omega) g s1 [] 0 [] (by simp; omega) (Nat.le_refl _) (by simp)
  rw [List.nil_append, ← e, List.nil_append] at hr
  obtain ⟨n, h1, h2⟩ := within_l (dropL b) ((runZ 0 g v).map (fun x => x.1)) (by rw [List.length_map, hzl]) (by omega)
    (fun i hi => by have := adj_at _ (runZ_adj v s4 g 0 s1) i (by rw [hzl]; exact hi); rw [hz] at this; exact this) (normI a) (by have := normI_len a ha ho; omega) (normI_parts e' t1 t2 t3) (normI a).length 0 0 0 (by omega) (Nat.zero_le _) (Nat.le_refl _)
  refine ⟨n, ?_, ?_⟩
  · unfold spec_l4Within.f
    refine Ev.bind (spec_l4Bytes_f b hb pb) (Ev.bind (a := (runZ 0 g v).map (fun x => x.1)) ?_ (Ev.bind (spec_l3Normal_f a ha ho) h1))
    unfold spec_l4Runs.f
    exact Ev.bind (spec_l3Normal_f b hb ho') hr
  · unfold impl_putsWithin.f
    exact h2
theorem clash_l (x y : List Int) (hx : x.length ≤ 1000000) (hxy : x.length = y.length) (d : Nat) : ∀ (i : Nat) (c : Int), i + d = x.length →
    ∃ r : Int × Bool, Ev (fun k => spec_ClashesOf.l0 k c x y (x.length : Int) (i : Int)) r ∧ Ev (fun k => impl_ClashesOf.l0 k y c x (x.length : Int) (i : Int)) r := by
  induction d with
  | zero =>
    intro i c hi
    refine ⟨(c, true), ?_, ?_⟩
    · refine Ev.step (fun k => by rw [spec_ClashesOf.l0]) ?_
      exact ev_neg (by omega) (ev_ret rfl)
    · refine Ev.step (fun k => by rw [impl_ClashesOf.l0]) ?_
      exact ev_neg (by omega) (ev_ret rfl)
  | succ d ih =>
    intro i c hi
    obtain ⟨r0, p1, p2⟩ := ih (i + 1) c (by omega)
    obtain ⟨r1, q1, q2⟩ := ih (i + 1) (wrap64 (c + 1)) (by omega)
    by_cases h1 : rd x (i : Int) = 0
    · refine ⟨r0, ?_, ?_⟩
      · refine Ev.step (fun k => by rw [spec_ClashesOf.l0]) ?_
        rw [wrap_succ i (by omega)]
        exact ev_pos (by omega) (ev_pos (by omega) (ev_pos (by omega) (ev_pos h1 p1)))
      · refine Ev.step (fun k => by rw [impl_ClashesOf.l0]) ?_
        rw [wrap_succ i (by omega)]
        exact ev_pos (by omega) (ev_pos (by omega) (ev_pos (by omega) (ev_pos h1 p2)))
    · by_cases h2 : rd y (i : Int) = 0
      · refine ⟨r0, ?_, ?_⟩
        · refine Ev.step (fun k => by rw [spec_ClashesOf.l0]) ?_
          rw [wrap_succ i (by omega)]
          exact ev_pos (by omega) (ev_pos (by omega) (ev_pos (by omega) (ev_neg h1 (ev_pos (by omega) (ev_pos h2 p1)))))
        · refine Ev.step (fun k => by rw [impl_ClashesOf.l0]) ?_
          rw [wrap_succ i (by omega)]
          exact ev_pos (by omega) (ev_pos (by omega) (ev_pos (by omega) (ev_neg h1 (ev_pos (by omega) (ev_pos h2 p2)))))
      · refine ⟨r1, ?_, ?_⟩
        · refine Ev.step (fun k => by rw [spec_ClashesOf.l0]) ?_
          rw [wrap_succ i (by omega)]
          exact ev_pos (by omega) (ev_pos (by omega) (ev_pos (by omega) (ev_neg h1 (ev_pos (by omega) (ev_neg h2 q1)))))
        · refine Ev.step (fun k => by rw [impl_ClashesOf.l0]) ?_
          rw [wrap_succ i (by omega)]
          exact ev_pos (by omega) (ev_pos (by omega) (ev_pos (by omega) (ev_neg h1 (ev_pos (by omega) (ev_neg h2 q2)))))
theorem ClashesOf_f (a b : List IP) (wa : ∀ x ∈ a, x.f1.size ≤ 1048576 ∧ x.f2.size ≤ 1048576) (wb : ∀ x ∈ b, x.f1.size ≤ 1048576 ∧ x.f2.size ≤ 1048576) : ∃ r : Int × Bool, Ev (fun k => spec_ClashesOf.f k a b) r ∧ Ev (fun k => impl_ClashesOf.f k a b) r := by
  have sno : Ev (fun k => spec_ClashesOf.j1 k a b true) (0, false) := by
    refine Ev.step (fun k => by rw [spec_ClashesOf.j1]) ?_
    exact ev_pos rfl (ev_ret rfl)
  have sno0 : Ev (fun k => spec_ClashesOf.j0 k a b true) (0, false) := by
    refine Ev.step (fun k => by rw [spec_ClashesOf.j0]) ?_
    exact ev_pos rfl (ev_ret rfl)
  have ino : Ev (fun k => impl_ClashesOf.j0 k a b true) (0, false) := by
    refine Ev.step (fun k => by rw [impl_ClashesOf.j0]) ?_
    exact ev_pos rfl (ev_ret rfl)
  have hst := impl_SameTexts_f a b wa wb
  unfold spec_ClashesOf.f impl_ClashesOf.f
  by_cases ga : goodO a = true
  · by_cases gb : goodO b = true
    · obtain ⟨ha, pa, _, _⟩ := goodO_facts ga
      obtain ⟨hb, pb, _, _⟩ := goodO_facts gb
      have est : sameT a b = sameR a b := by unfold sameT; rw [if_pos ga, if_pos gb]
      rw [est] at hst
      have hsp : ∀ r, Ev (fun k => if (sameR a b).1 = true then spec_ClashesOf.j1 k a b (!(sameR a b).2) else spec_ClashesOf.j1 k a b true) r → Ev (fun k => (spec_GoodOp.f k a).bind fun t208 => if t208 = true then (spec_GoodOp.f k b).bind fun t209 => spec_ClashesOf.j0 k a b (!t209) else spec_ClashesOf.j0 k a b true) r := fun r h => by
        refine Ev.bind (spec_GoodOp_f a wa) (ev_pos ga (Ev.bind (spec_GoodOp_f b wb) ?_))
        rw [gb]
        refine Ev.step (fun k => by rw [spec_ClashesOf.j0]) ?_
        exact ev_neg (by simp) (Ev.bind (spec_l4Same_f a b ha pa hb pb) h)
      by_cases c : sameR a b = (true, true)
      · have hlen : (dropL a).length = (dropL b).length := by
          unfold sameR at c
          by_cases q : (dropL a).length = (dropL b).length
          · exact q
          · rw [if_neg q] at c; cases c
        obtain ⟨n1, u1, u2⟩ := within_f a b ha pa hb pb
        obtain ⟨n2, v1, v2⟩ := within_f b a hb pb ha pa
        have la := dropL_len a pa
        obtain ⟨r, r1, r2⟩ := clash_l (dropL a) (dropL b) (by omega) hlen (dropL a).length 0 (wrap64 (n1 + n2)) (by omega)
        refine ⟨r, hsp r ?_, Ev.bind hst ?_⟩
        · rw [c]
          refine ev_pos rfl ?_
          refine Ev.step (fun k => by rw [spec_ClashesOf.j1]) ?_
          exact ev_neg (by simp) (Ev.bind u1 (Ev.bind v1 (Ev.bind (spec_l4Bytes_f a ha pa) (Ev.bind (spec_l4Bytes_f b hb pb) r1))))
        · rw [c]
          refine ev_pos rfl ?_
          refine Ev.step (fun k => by rw [impl_ClashesOf.j0]) ?_
          exact ev_neg (by simp) (Ev.bind (impl_dropped_f a ha pa) (Ev.bind (impl_dropped_f b hb pb) (ev_eq (impl_normal_f a ha (fun p h => part_one (pa p h))) (Ev.bind u2 (ev_eq (impl_normal_f b hb (fun p h => part_one (pb p h))) (Ev.bind v2 r2))))))
      · refine ⟨(0, false), hsp _ ?_, Ev.bind hst ?_⟩
        · refine ev_if (fun h => ?_) (fun _ => sno)
          have : (sameR a b).2 = false := by
            cases hq : (sameR a b).2 with
            | false => rfl
            | true => exact absurd (Prod.ext h hq) c
          rw [this]; exact sno
        · refine ev_if (fun h => ?_) (fun _ => ino)
          have : (sameR a b).1 = false := by
            cases hq : (sameR a b).1 with
            | false => rfl
            | true => exact absurd (Prod.ext hq h) c
          rw [this]; exact ino
    · have est : sameT a b = (false, false) := by unfold sameT; rw [if_pos ga, if_neg gb]
      rw [est] at hst
      refine ⟨(0, false), Ev.bind (spec_GoodOp_f a wa) (ev_pos ga (Ev.bind (spec_GoodOp_f b wb) ?_)), Ev.bind hst (ev_neg (by simp) ino)⟩
      rw [Bool.not_eq_true] at gb
      rw [gb]; exact sno0
  · have est : sameT a b = (false, false) := by unfold sameT; rw [if_neg ga]
    rw [est] at hst
    exact ⟨(0, false), Ev.bind (spec_GoodOp_f a wa) (ev_neg ga sno0), Ev.bind hst (ev_neg (by simp) ino)⟩
theorem FnExactClashesOf : laws_FnExactClashesOf.Pure := by
  intro a b la wa lb wb
  refine Ev.rounds ?_
  unfold laws_FnExactClashesOf.f
  obtain ⟨v, hv, hb⟩ := laws_szPartS_g a la (fun x hx => (wa x hx).2) 1048576 (by omega) (by omega)
  refine Ev.bind hv (ev_if (fun _ => ev_ret rfl) (fun h => ?_))
  obtain ⟨h0, h1, h2⟩ := hb (by omega)
  obtain ⟨v', hv', hb'⟩ := laws_szPartS_g b lb (fun x hx => (wb x hx).2) v (by omega) h0
  refine Ev.bind hv' (ev_if (fun _ => ev_ret rfl) (fun h' => ?_))
  obtain ⟨h0', h1', h2'⟩ := hb' (by omega)
  have hwa : ∀ x ∈ a.map cvP, x.f1.size ≤ 1048576 ∧ x.f2.size ≤ 1048576 := fun x hx => by obtain ⟨y, hy, rfl⟩ := List.mem_map.1 hx; exact h2 y hy
  have hwb : ∀ x ∈ b.map cvP, x.f1.size ≤ 1048576 ∧ x.f2.size ≤ 1048576 := fun x hx => by obtain ⟨y, hy, rfl⟩ := List.mem_map.1 hx; exact h2' y hy
  have hla : (a.map cvP).length ≤ 1048576 := by simpa using h1
  have hlb : (b.map cvP).length ≤ 1048576 := by simpa using h1'
  obtain ⟨r, r1, r2⟩ := ClashesOf_f _ _ hwa hwb
  refine Ev.bind (laws_toPartS_f a h1) (Ev.bind (laws_toPartS_f b h1') (Ev.bind r1 (Ev.bind (laws_toPartS_f a h1) (Ev.bind (laws_toPartS_f b h1') (Ev.bind r2 (ev_pos rfl ?_))))))
  refine Ev.step (fun k => by rw [laws_FnExactClashesOf.j0]) ?_
  refine ev_neg (by simp) ?_
  refine Ev.bind (laws_toPartS_f a h1) (Ev.bind (laws_eqPartS_f _ (by omega)) (ev_pos rfl ?_))
  refine Ev.bind (laws_toPartS_f b h1') (Ev.bind (laws_eqPartS_f _ (by omega)) (ev_pos rfl (ev_ret rfl)))

end Go.Proofs.Ytoagljlnfakgjaa.Pure
