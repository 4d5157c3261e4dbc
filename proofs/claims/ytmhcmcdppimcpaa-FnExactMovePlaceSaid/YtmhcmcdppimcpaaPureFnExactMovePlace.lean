/- FnExactMovePlace over plain functions: at all changes and places the program's MovePlace and the reference's give one answer, and the change stays; no condition. -/
import Derived.Test.YtmhcmcdppimcpaaPFnExactMovePlacex7
import Derived.Test.YtmhcmcdppimcpaaBase
import Derived.Test.YtmhcmcdppimcpaaMk
namespace Go.Proofs.Ytmhcmcdppimcpaa.Pure
open Go.RowKit Go.Proofs.Ytmhcmcdppimcpaa.PFnExactMovePlace Go.Proofs.YtmhcmcdppimcpaaW.PrintWords Go.Proofs.YtmhcmcdppimcpaaW.PrintLast Go.Proofs.Ytmhcmcdppimcpaa.Base Go.Proofs.Ytmhcmcdppimcpaa.Mk
set_option linter.unusedVariables false
set_option linter.unusedSimpArgs false

abbrev IP := S61
def izP : IP := z61
theorem rd_ip (l : List IP) (i : Nat) : rd_T61 l (i : Int) = gt izP l i := rfl
theorem toList_nil (s : ByteArray) : s.toList = ([] : List UInt8) ↔ s.size = 0 := by
  rw [← List.length_eq_zero_iff]
  have := data_length s
  rw [ByteArray.toList_eq, this]

abbrev LP := S77
def cvP (x : LP) : IP := ⟨x.f0, x.f1, x.f2⟩
def lzP : LP := z77
theorem rd_lp (l : List LP) (i : Nat) : rd_T77 l (i : Int) = gt lzP l i := rfl
def szP (l : List LP) : List Nat := l.map (fun x => x.f1.size + x.f2.size)
theorem laws_szPartS_l (l : List LP) (hl : l.length ≤ 1048576) (hw : ∀ x ∈ l, x.f1.size ≤ 9223372036854775807 ∧ x.f2.size ≤ 9223372036854775807) (d : Nat) :
    ∀ (i : Nat) (left : Int), i + d = l.length → 0 ≤ left → left ≤ 1048576 → Ev (fun k => laws_szPartS.l0 k l left (i : Int)) (szF left (szP (l.drop i))) := by
  induction d with
  | zero =>
    intro i left hi h0 h1
    refine Ev.step (fun k => by rw [laws_szPartS.l0]) ?_
    refine ev_neg (by omega) (ev_ret ?_)
    rw [List.drop_eq_nil_of_le (by omega)]; rfl
  | succ d ih =>
    intro i left hi h0 h1
    have hm := hw _ (gt_mem lzP l i (by omega))
    refine Ev.step (fun k => by rw [laws_szPartS.l0]) ?_
    refine ev_pos (by omega) (ev_pos (by omega) ?_)
    rw [gt_drop lzP l i (by omega), rd_lp]
    generalize gt lzP l i = m at hm ⊢
    obtain ⟨hm1, hm2⟩ := hm
    have e : wrap64 (left - (m.f1.size : Int)) = left - (m.f1.size : Int) := wrap_id (by omega) (by omega)
    show Ev _ (if left - ((m.f1.size + m.f2.size : Nat) : Int) < 0 then -1 else szF (left - ((m.f1.size + m.f2.size : Nat) : Int)) (szP (l.drop (i + 1))))
    by_cases c1 : left - (m.f1.size : Int) < 0
    · rw [if_pos (show left - ((m.f1.size + m.f2.size : Nat) : Int) < 0 by omega)]
      refine ev_eq (a := -1) (by unfold laws_szPart.f; rw [e, if_pos c1]) (ev_pos (by omega) (ev_ret rfl))
    have e2 : wrap64 (left - (m.f1.size : Int) - (m.f2.size : Int)) = left - ((m.f1.size + m.f2.size : Nat) : Int) := by rw [wrap_id (by omega) (by omega)]; omega
    by_cases c : left - ((m.f1.size + m.f2.size : Nat) : Int) < 0
    · rw [if_pos c]
      refine ev_eq (a := -1) (by unfold laws_szPart.f; rw [e, if_neg c1, e2, if_pos c]) (ev_pos (by omega) (ev_ret rfl))
    · rw [if_neg c]
      refine ev_eq (a := left - ((m.f1.size + m.f2.size : Nat) : Int)) (by unfold laws_szPart.f; rw [e, if_neg c1, e2, if_neg c]) (ev_neg (by omega) ?_)
      rw [wrap_succ i (by omega)]
      exact ih (i + 1) _ (by omega) (by omega) (by omega)
/-- The guard at a law's head: too much, or all is small. -/
theorem laws_szPartS_f (l : List LP) (hl : l.length ≤ 9223372036854775807) (hw : ∀ x ∈ l, x.f1.size ≤ 9223372036854775807 ∧ x.f2.size ≤ 9223372036854775807) :
    ∃ v : Int, Ev (fun k => laws_szPartS.f k l 1048576) v ∧ (0 ≤ v → l.length ≤ 1048576 ∧ ∀ x ∈ l, x.f1.size ≤ 1048576 ∧ x.f2.size ≤ 1048576) := by
  have e : wrap64 (1048576 - (l.length : Int)) = 1048576 - (l.length : Int) := wrap_id (by omega) (by omega)
  by_cases c : (1048576 : Int) - (l.length : Int) < 0
  · exact ⟨-1, by unfold laws_szPartS.f; exact ev_pos (by rw [e]; exact c) (ev_ret rfl), fun h => by omega⟩
  · refine ⟨szF (1048576 - (l.length : Int)) (szP l), ?_, fun h => ⟨by omega, fun x hx => ?_⟩⟩
    · unfold laws_szPartS.f
      refine ev_neg (by rw [e]; exact c) ?_
      rw [e]
      exact laws_szPartS_l l (by omega) hw l.length 0 _ (by omega) (by omega) (by omega)
    · have h1 := szF_sum _ _ (by omega) h
      have h2 : x.f1.size + x.f2.size ≤ (szP l).sum := le_sum (List.mem_map.2 ⟨x, hx, rfl⟩)
      exact ⟨by omega, by omega⟩
theorem laws_toPartS_l (l : List LP) (hl : l.length ≤ 1048576) (d : Nat) :
    ∀ i : Nat, i + d = l.length → Ev (fun k => laws_toPartS.l0 k l ((l.take i).map cvP ++ List.replicate (l.length - i) izP) (i : Int)) (l.map cvP) := by
  induction d with
  | zero =>
    intro i hi
    refine Ev.step (fun k => by rw [laws_toPartS.l0]) ?_
    refine ev_neg (by omega) (ev_ret ?_)
    have : l.length - i = 0 := by omega
    rw [List.take_of_length_le (by omega), this]; simp
  | succ d ih =>
    intro i hi
    refine Ev.step (fun k => by rw [laws_toPartS.l0]) ?_
    refine ev_pos (by omega) (ev_pos (by omega) (ev_eq rfl (ev_pos (by simp; omega) ?_)))
    rw [wrap_succ i (by omega)]
    have ih' := ih (i + 1) (by omega)
    have e : ((l.take i).map cvP ++ List.replicate (l.length - i) izP).set (i : Int).toNat (⟨(rd_T77 l (i : Int)).f0, (rd_T77 l (i : Int)).f1, (rd_T77 l (i : Int)).f2⟩ : IP) = (l.take (i + 1)).map cvP ++ List.replicate (l.length - (i + 1)) izP := by
      rw [Int.toNat_natCast, set_next _ _ _ _ _ (by simp; omega) (by omega), rd_lp, gt_take lzP l i (by omega), List.map_append]
      rfl
    exact e ▸ ih'
theorem laws_toPartS_f (l : List LP) (hl : l.length ≤ 1048576) : Ev (fun k => laws_toPartS.f k l) (l.map cvP) := by
  unfold laws_toPartS.f
  refine ev_pos (by omega) (ev_pos (by omega) ?_)
  exact laws_toPartS_l l hl l.length 0 (by omega)
theorem szF_le : ∀ (l : List Nat) (left : Int), 0 ≤ left → szF left l ≤ left
  | [], left, _ => by unfold szF; omega
  | n :: r, left, h => by
    unfold szF
    split
    · omega
    · rename_i c
      exact Int.le_trans (szF_le r _ (by omega)) (by omega)
theorem laws_szPartS_g (l : List LP) (hl : l.length ≤ 9223372036854775807) (hw : ∀ x ∈ l, x.f1.size ≤ 9223372036854775807 ∧ x.f2.size ≤ 9223372036854775807) (left : Int) (h0 : 0 ≤ left) (h1 : left ≤ 1048576) :
    ∃ v : Int, Ev (fun k => laws_szPartS.f k l left) v ∧ (0 ≤ v → v ≤ 1048576 ∧ l.length ≤ 1048576 ∧ ∀ x ∈ l, x.f1.size ≤ 1048576 ∧ x.f2.size ≤ 1048576) := by
  have e : wrap64 (left - (l.length : Int)) = left - (l.length : Int) := wrap_id (by omega) (by omega)
  by_cases c : left - (l.length : Int) < 0
  · exact ⟨-1, by unfold laws_szPartS.f; exact ev_pos (by rw [e]; exact c) (ev_ret rfl), fun h => by omega⟩
  · refine ⟨szF (left - (l.length : Int)) (szP l), ?_, fun h => ⟨?_, by omega, fun x hx => ?_⟩⟩
    · unfold laws_szPartS.f
      refine ev_neg (by rw [e]; exact c) ?_
      rw [e]
      exact laws_szPartS_l l (by omega) hw l.length 0 _ (by omega) (by omega) (by omega)
    · have := szF_le (szP l) (left - (l.length : Int)) (by omega)
      omega
    · have h1 := szF_sum _ _ (by omega) h
      have h2 : x.f1.size + x.f2.size ≤ (szP l).sum := le_sum (List.mem_map.2 ⟨x, hx, rfl⟩)
      exact ⟨by omega, by omega⟩

theorem ba_nil {s : ByteArray} (h : s.size = 0) : s = (⟨#[]⟩ : ByteArray) := by
  obtain ⟨d⟩ := s
  have h' : d.size = 0 := h
  rw [Array.size_eq_zero_iff.1 h']
theorem ba_app (s : ByteArray) : s ++ (⟨#[]⟩ : ByteArray) = s := by
  apply ByteArray.ext; rw [ByteArray.data_append]; simp
theorem ba_len_app (a b : ByteArray) : (a ++ b).size = a.size + b.size := ByteArray.size_append
theorem nil_nil : (⟨#[]⟩ : ByteArray).toList = ([] : List UInt8) := (toList_nil _).2 rfl
/-- A part with one side at most. -/
def One (p : IP) : Prop := 0 ≤ p.f0 ∧ p.f0 ≤ 300 ∧ p.f1.size ≤ 300 ∧ p.f2.size ≤ 300 ∧ (p.f0 = 0 ∨ (p.f1.size = 0 ∧ p.f2.size = 0)) ∧ (p.f1.size = 0 ∨ p.f2.size = 0)
theorem set_last (m : List IP) (z v : IP) : (m ++ [z]).set m.length v = m ++ [v] := by
  rw [List.set_append_right _ _ (Nat.le_refl _), Nat.sub_self]; rfl
theorem set_last2 (m : List IP) (y z v : IP) : (m ++ [y, z]).set m.length v = m ++ [v, z] := by
  rw [List.set_append_right _ _ (Nat.le_refl _), Nat.sub_self]; rfl
theorem gt_app_2 (m : List IP) (y z : IP) : gt izP (m ++ [y, z]) m.length = y := by
  unfold gt; rw [List.getD_eq_getElem?_getD, List.getElem?_append_right (Nat.le_refl _)]; simp
theorem gt_app_1 (m : List IP) (z : IP) : gt izP (m ++ [z]) m.length = z := by
  unfold gt; rw [List.getD_eq_getElem?_getD, List.getElem?_append_right (Nat.le_refl _)]; simp
theorem len_m1 (m : List IP) (z : IP) (h : m.length ≤ 100000) : wrap64 (((m ++ [z]).length : Int) - 1) = (m.length : Int) := by
  rw [List.length_append, List.length_singleton, wrap_id (by omega) (by omega)]; omega
/-- Nothing is put behind. -/
theorem add_none (l : List IP) (p : IP) (h0 : p.f0 = 0) (h1 : p.f1.size = 0) (h2 : p.f2.size = 0) : Ev (fun k => spec_l3Add.f k l p.f0 p.f1 p.f2) l := by
  unfold spec_l3Add.f
  rw [beq_iff_eq.2 ((toList_nil _).2 h2)]
  refine ev_pos h0 (ev_pos ((toList_nil _).2 h1) ?_)
  refine Ev.step (fun k => by rw [spec_l3Add.j0]) ?_
  exact ev_pos rfl (ev_ret rfl)
/-- Where the part is one, the walk begins at j0. -/
theorem add_start (l : List IP) (p : IP) (h : p.f0 ≠ 0 ∨ p.f1.size ≠ 0 ∨ p.f2.size ≠ 0) {r : List IP} (hr : Ev (fun k => spec_l3Add.j0 k l (l.length : Int) false p.f0 p.f1 p.f2) r) : Ev (fun k => spec_l3Add.f k l p.f0 p.f1 p.f2) r := by
  unfold spec_l3Add.f
  refine ev_if (fun h0 => ev_if (fun h1 => ?_) (fun _ => hr)) (fun _ => hr)
  rw [toList_nil] at h1
  have h2 : ¬ p.f2.toList = ([] : List UInt8) := by rw [toList_nil]; omega
  rw [beq_eq_false_iff_ne.2 h2]; exact hr
theorem add_first (p : IP) (h : p.f0 ≠ 0 ∨ p.f1.size ≠ 0 ∨ p.f2.size ≠ 0) : Ev (fun k => spec_l3Add.f k [] p.f0 p.f1 p.f2) [p] := by
  refine add_start [] p h ?_
  refine Ev.step (fun k => by rw [spec_l3Add.j0]) ?_
  exact ev_neg (by simp) (ev_pos (by simp) (ev_pos (by simp) (ev_ret rfl)))
theorem add_j1 (m : List IP) (z p : IP) (hm : m.length ≤ 100000) (h : p.f0 ≠ 0 ∨ p.f1.size ≠ 0 ∨ p.f2.size ≠ 0) {r : List IP}
    (hr : Ev (fun k => spec_l3Add.j1 k (m ++ [z]) ((m ++ [z]).length : Int) (decide (p.f0 > 0 ∧ z.f0 > 0)) p.f0 p.f1 p.f2 z.f0 z.f1 z.f2) r) : Ev (fun k => spec_l3Add.f k (m ++ [z]) p.f0 p.f1 p.f2) r := by
  refine add_start _ p h ?_
  refine Ev.step (fun k => by rw [spec_l3Add.j0]) ?_
  rw [len_m1 m z hm, rd_ip, gt_app_1]
  have hl : (m ++ [z]).length = m.length + 1 := by rw [List.length_append, List.length_singleton]
  refine ev_neg (by simp) (ev_neg (by omega) (ev_pos (by omega) (ev_pos (by omega) (ev_if (fun c => ?_) (fun c => ?_)))))
  · simp only [c, true_and] at hr; exact hr
  · rw [decide_eq_false (fun q => c q.1)] at hr; exact hr
theorem add_j2 (m : List IP) (z p : IP) (hm : m.length ≤ 100000) (h : p.f0 ≠ 0 ∨ p.f1.size ≠ 0 ∨ p.f2.size ≠ 0) (h1 : ¬ (p.f0 > 0 ∧ z.f0 > 0)) {r : List IP}
    (hr : Ev (fun k => spec_l3Add.j2 k (m ++ [z]) ((m ++ [z]).length : Int) (decide (p.f2.size ≠ 0 ∧ z.f2.size ≠ 0)) p.f0 p.f1 p.f2 z.f0 z.f1 z.f2) r) : Ev (fun k => spec_l3Add.f k (m ++ [z]) p.f0 p.f1 p.f2) r := by
  refine add_j1 m z p hm h ?_
  rw [decide_eq_false h1]
  refine Ev.step (fun k => by rw [spec_l3Add.j1]) ?_
  refine ev_neg (by simp) (ev_if (fun c => ?_) (fun c => ?_))
  · rw [toList_nil] at c
    rw [decide_eq_false (fun q => q.1 c)] at hr; exact hr
  · rw [toList_nil] at c
    have e : (z.f2.toList != ([] : List UInt8)) = decide (p.f2.size ≠ 0 ∧ z.f2.size ≠ 0) := by
      by_cases q : z.f2.size = 0
      · rw [decide_eq_false (fun x => x.2 q), bne_eq_false_iff_eq]; exact (toList_nil _).2 q
      · rw [decide_eq_true ⟨c, q⟩, bne_iff_ne]; exact fun x => q ((toList_nil _).1 x)
    rw [e]; exact hr
theorem add_j3 (m : List IP) (z p : IP) (hm : m.length ≤ 100000) (h : p.f0 ≠ 0 ∨ p.f1.size ≠ 0 ∨ p.f2.size ≠ 0) (h1 : ¬ (p.f0 > 0 ∧ z.f0 > 0)) (h2 : ¬ (p.f2.size ≠ 0 ∧ z.f2.size ≠ 0)) {r : List IP}
    (hr : Ev (fun k => spec_l3Add.j3 k (m ++ [z]) ((m ++ [z]).length : Int) (decide (p.f1.size ≠ 0 ∧ z.f1.size ≠ 0)) p.f0 p.f1 p.f2 z.f0 z.f1 z.f2) r) : Ev (fun k => spec_l3Add.f k (m ++ [z]) p.f0 p.f1 p.f2) r := by
  refine add_j2 m z p hm h h1 ?_
  rw [decide_eq_false h2]
  refine Ev.step (fun k => by rw [spec_l3Add.j2]) ?_
  refine ev_neg (by simp) (ev_if (fun c => ?_) (fun c => ?_))
  · rw [toList_nil] at c
    rw [decide_eq_false (fun q => q.1 c)] at hr; exact hr
  · rw [toList_nil] at c
    have e : (z.f1.toList != ([] : List UInt8)) = decide (p.f1.size ≠ 0 ∧ z.f1.size ≠ 0) := by
      by_cases q : z.f1.size = 0
      · rw [decide_eq_false (fun x => x.2 q), bne_eq_false_iff_eq]; exact (toList_nil _).2 q
      · rw [decide_eq_true ⟨c, q⟩, bne_iff_ne]; exact fun x => q ((toList_nil _).1 x)
    rw [e]; exact hr
theorem add_j4 (m : List IP) (z p : IP) (hm : m.length ≤ 100000) (h : p.f0 ≠ 0 ∨ p.f1.size ≠ 0 ∨ p.f2.size ≠ 0) (h1 : ¬ (p.f0 > 0 ∧ z.f0 > 0)) (h2 : ¬ (p.f2.size ≠ 0 ∧ z.f2.size ≠ 0)) (h3 : ¬ (p.f1.size ≠ 0 ∧ z.f1.size ≠ 0)) {r : List IP}
    (hr : Ev (fun k => spec_l3Add.j4 k (m ++ [z]) ((m ++ [z]).length : Int) (decide (p.f1.size ≠ 0 ∧ z.f2.size ≠ 0)) p.f0 p.f1 p.f2 z.f0 z.f1 z.f2) r) : Ev (fun k => spec_l3Add.f k (m ++ [z]) p.f0 p.f1 p.f2) r := by
  refine add_j3 m z p hm h h1 h2 ?_
  rw [decide_eq_false h3]
  refine Ev.step (fun k => by rw [spec_l3Add.j3]) ?_
  refine ev_neg (by simp) (ev_if (fun c => ?_) (fun c => ?_))
  · rw [toList_nil] at c
    rw [decide_eq_false (fun q => q.1 c)] at hr; exact hr
  · rw [toList_nil] at c
    have e : (z.f2.toList != ([] : List UInt8)) = decide (p.f1.size ≠ 0 ∧ z.f2.size ≠ 0) := by
      by_cases q : z.f2.size = 0
      · rw [decide_eq_false (fun x => x.2 q), bne_eq_false_iff_eq]; exact (toList_nil _).2 q
      · rw [decide_eq_true ⟨c, q⟩, bne_iff_ne]; exact fun x => q ((toList_nil _).1 x)
    rw [e]; exact hr
/-- Both keep. -/
theorem add_keep (m : List IP) (z p : IP) (hm : m.length ≤ 100000) (h1 : p.f0 > 0 ∧ z.f0 > 0) : Ev (fun k => spec_l3Add.f k (m ++ [z]) p.f0 p.f1 p.f2) (m ++ [⟨wrap64 (z.f0 + p.f0), z.f1, z.f2⟩]) := by
  refine add_j1 m z p hm (.inl (by omega)) ?_
  rw [decide_eq_true h1]
  refine Ev.step (fun k => by rw [spec_l3Add.j1]) ?_
  rw [len_m1 m z hm, rd_ip, gt_app_1, Int.toNat_natCast, set_last]
  exact ev_pos rfl (ev_pos (by omega) (ev_pos (by rw [List.length_append, List.length_singleton]; omega) (ev_ret rfl)))
/-- Both drop. -/
theorem add_drop (m : List IP) (z p : IP) (hm : m.length ≤ 100000) (h1 : ¬ (p.f0 > 0 ∧ z.f0 > 0)) (h2 : p.f2.size ≠ 0 ∧ z.f2.size ≠ 0) (hs : z.f2.size + p.f2.size ≤ 9223372036854775807) : Ev (fun k => spec_l3Add.f k (m ++ [z]) p.f0 p.f1 p.f2) (m ++ [⟨z.f0, z.f1, z.f2 ++ p.f2⟩]) := by
  refine add_j2 m z p hm (.inr (.inr h2.1)) h1 ?_
  rw [decide_eq_true h2]
  refine Ev.step (fun k => by rw [spec_l3Add.j2]) ?_
  rw [len_m1 m z hm, rd_ip, gt_app_1, Int.toNat_natCast, set_last]
  exact ev_pos rfl (ev_pos (by omega) (ev_pos (by rw [List.length_append, List.length_singleton]; omega) (ev_pos hs (ev_ret rfl))))
/-- Both put. -/
theorem add_put (m : List IP) (z p : IP) (hm : m.length ≤ 100000) (h1 : ¬ (p.f0 > 0 ∧ z.f0 > 0)) (h2 : ¬ (p.f2.size ≠ 0 ∧ z.f2.size ≠ 0)) (h3 : p.f1.size ≠ 0 ∧ z.f1.size ≠ 0) (hs : z.f1.size + p.f1.size ≤ 9223372036854775807) : Ev (fun k => spec_l3Add.f k (m ++ [z]) p.f0 p.f1 p.f2) (m ++ [⟨z.f0, z.f1 ++ p.f1, z.f2⟩]) := by
  refine add_j3 m z p hm (.inr (.inl h3.1)) h1 h2 ?_
  rw [decide_eq_true h3]
  refine Ev.step (fun k => by rw [spec_l3Add.j3]) ?_
  rw [len_m1 m z hm, rd_ip, gt_app_1, Int.toNat_natCast, set_last]
  exact ev_pos rfl (ev_pos (by omega) (ev_pos (by rw [List.length_append, List.length_singleton]; omega) (ev_pos hs (ev_ret rfl))))
/-- Nothing joins. -/
theorem add_apart (m : List IP) (z p : IP) (hm : m.length ≤ 100000) (h : p.f0 ≠ 0 ∨ p.f1.size ≠ 0 ∨ p.f2.size ≠ 0) (h1 : ¬ (p.f0 > 0 ∧ z.f0 > 0)) (h2 : ¬ (p.f2.size ≠ 0 ∧ z.f2.size ≠ 0)) (h3 : ¬ (p.f1.size ≠ 0 ∧ z.f1.size ≠ 0)) (h4 : ¬ (p.f1.size ≠ 0 ∧ z.f2.size ≠ 0)) : Ev (fun k => spec_l3Add.f k (m ++ [z]) p.f0 p.f1 p.f2) (m ++ [z, p]) := by
  refine add_j4 m z p hm h h1 h2 h3 ?_
  rw [decide_eq_false h4]
  refine Ev.step (fun k => by rw [spec_l3Add.j4]) ?_
  exact ev_neg (by simp) (ev_pos (by rw [List.length_append, List.length_singleton]; omega) (ev_ret (by rw [List.append_assoc]; rfl)))
/-- A put goes ahead of a drop. -/
theorem add_ahead1 (z p : IP) (h1 : ¬ (p.f0 > 0 ∧ z.f0 > 0)) (h2 : ¬ (p.f2.size ≠ 0 ∧ z.f2.size ≠ 0)) (h3 : ¬ (p.f1.size ≠ 0 ∧ z.f1.size ≠ 0)) (h4 : p.f1.size ≠ 0 ∧ z.f2.size ≠ 0) : Ev (fun k => spec_l3Add.f k [z] p.f0 p.f1 p.f2) [p, z] := by
  refine add_j4 [] z p (by simp) (.inr (.inl h4.1)) h1 h2 h3 ?_
  rw [decide_eq_true h4]
  refine Ev.step (fun k => by rw [spec_l3Add.j4]) ?_
  rw [len_m1 [] z (by simp), Int.toNat_natCast, set_last]
  exact ev_pos rfl (ev_neg (by simp) (ev_pos (by simp) (ev_pos (by simp) (ev_eq rfl (ev_pos (by simp) (ev_ret rfl))))))
theorem len_m2 (m : List IP) (y z : IP) (h : m.length ≤ 90000) : wrap64 (((m ++ [y, z]).length : Int) - 2) = (m.length : Int) := by
  have : (m ++ [y, z]).length = m.length + 2 := by rw [List.length_append]; rfl
  rw [this, wrap_id (by omega) (by omega)]; omega
theorem add_ahead2 (m : List IP) (y z p : IP) (hm : m.length ≤ 90000) (h1 : ¬ (p.f0 > 0 ∧ z.f0 > 0)) (h2 : ¬ (p.f2.size ≠ 0 ∧ z.f2.size ≠ 0)) (h3 : ¬ (p.f1.size ≠ 0 ∧ z.f1.size ≠ 0)) (h4 : p.f1.size ≠ 0 ∧ z.f2.size ≠ 0) (hs : y.f1.size + p.f1.size ≤ 9223372036854775807) :
    Ev (fun k => spec_l3Add.f k (m ++ [y, z]) p.f0 p.f1 p.f2) (if y.f1.size = 0 then m ++ [y, p, z] else m ++ [⟨y.f0, y.f1 ++ p.f1, y.f2⟩, z]) := by
  have em : m ++ [y, z] = (m ++ [y]) ++ [z] := by rw [List.append_assoc]; rfl
  have hl1 : (m ++ [y]).length = m.length + 1 := by rw [List.length_append, List.length_singleton]
  have hl2 : (m ++ [y, z]).length = m.length + 2 := by rw [List.length_append]; rfl
  rw [em]
  refine add_j4 (m ++ [y]) z p (by omega) (.inr (.inl h4.1)) h1 h2 h3 ?_
  rw [decide_eq_true h4]
  refine Ev.step (fun k => by rw [spec_l3Add.j4]) ?_
  rw [len_m1 (m ++ [y]) z (by omega), Int.toNat_natCast, set_last]
  rw [← em, len_m2 m y z hm, rd_ip, gt_app_2, Int.toNat_natCast, set_last2]
  refine ev_pos rfl (ev_pos (by omega) (ev_pos (by omega) (ev_pos (by omega) (ev_if (fun c => ?_) (fun c => ?_)))))
  · rw [toList_nil] at c
    rw [if_pos c]
    refine ev_pos (by omega) (ev_pos (by omega) (ev_eq rfl (ev_pos (by rw [List.length_append, List.length_singleton]; omega) (ev_ret ?_))))
    rw [List.append_assoc, List.append_assoc]; rfl
  · rw [toList_nil] at c
    rw [if_neg c]
    exact ev_pos hs (ev_ret rfl)
/-- The state of the maker is that of the reference: the parts so far, and what is held back. -/
structure Fit (n : Nat) (s : List Pt × ByteArray × ByteArray) : Prop where
  last : s.1 = [] ∨ ∃ m x, s.1 = m ++ [(x, (⟨#[]⟩ : ByteArray), (⟨#[]⟩ : ByteArray))] ∧ 0 < x ∧ x ≤ 300 * (n : Int)
  len : s.1.length ≤ 3 * n
  put : s.2.1.size ≤ 300 * n
  drop : s.2.2.size ≤ 300 * n
def allP (s : List Pt × ByteArray × ByteArray) : List IP := (s.1 ++ endL s.2.1 s.2.2).map ofP
theorem endL_00 {a b : ByteArray} (ha : a.size = 0) (hb : b.size = 0) : endL a b = [] := by
  unfold endL; rw [if_pos ((toList_nil _).2 ha), if_pos ((toList_nil _).2 hb)]; rfl
theorem endL_10 {a b : ByteArray} (ha : a.size ≠ 0) (hb : b.size = 0) : endL a b = [(0, a, ⟨#[]⟩)] := by
  unfold endL; rw [if_neg (fun e => ha ((toList_nil _).1 e)), if_pos ((toList_nil _).2 hb)]; rfl
theorem endL_01 {a b : ByteArray} (ha : a.size = 0) (hb : b.size ≠ 0) : endL a b = [(0, ⟨#[]⟩, b)] := by
  unfold endL; rw [if_pos ((toList_nil _).2 ha), if_neg (fun e => hb ((toList_nil _).1 e))]; rfl
theorem endL_11 {a b : ByteArray} (ha : a.size ≠ 0) (hb : b.size ≠ 0) : endL a b = [(0, a, ⟨#[]⟩), (0, ⟨#[]⟩, b)] := by
  unfold endL; rw [if_neg (fun e => ha ((toList_nil _).1 e)), if_neg (fun e => hb ((toList_nil _).1 e))]; rfl
theorem endL_len (a b : ByteArray) : (endL a b).length ≤ 2 := by unfold endL; rw [List.length_append]; split <;> split <;> simp
theorem sz0 : (⟨#[]⟩ : ByteArray).size = 0 := rfl
theorem keepA_app (m : List Pt) (q : Pt) (x : Int) : keepA (m ++ [q]) x = if q.1 > 0 then m ++ [(wrap64 (q.1 + x), q.2.1, q.2.2)] else m ++ [q, (x, ⟨#[]⟩, ⟨#[]⟩)] := by
  unfold keepA
  rw [List.getLast?_append]
  simp only [List.getLast?_singleton, Option.some_or]
  split
  · rw [List.dropLast_concat]
  · rw [List.append_assoc]; rfl
/-- One part more, by the maker and by the reference. -/
theorem add_step (n : Nat) (s : List Pt × ByteArray × ByteArray) (p : IP) (hn : n ≤ 1000) (hf : Fit n s) (hp : One p) :
    Ev (fun k => spec_l3Add.f k (allP s) p.f0 p.f1 p.f2) (allP (takeP s (toP p))) ∧ Fit (n + 1) (takeP s (toP p)) := by
  obtain ⟨l, a, b⟩ := s
  obtain ⟨f1, f2, f3, f4⟩ := hf
  obtain ⟨p0, p1, p2⟩ := p
  obtain ⟨q1, q2, q3, q4, q5, q6⟩ := hp
  simp only at f1 f2 f3 f4 q1 q2 q3 q4 q5 q6
  have hel := endL_len a b
  by_cases h0 : p0 = 0
  · -- nothing is kept
    subst h0
    have et : takeP (l, a, b) (toP ⟨0, p1, p2⟩) = (l, a ++ p1, b ++ p2) := rfl
    rw [et]
    refine ⟨?_, ?_⟩
    · unfold allP
      simp only
      by_cases h1 : p1.size = 0
      · by_cases h2 : p2.size = 0
        · rw [ba_nil h1, ba_nil h2, ba_app, ba_app]
          exact add_none _ ⟨0, ⟨#[]⟩, ⟨#[]⟩⟩ rfl rfl rfl
        · rw [ba_nil h1, ba_app]
          by_cases hb : b.size = 0
          · rw [ba_nil hb, show (⟨#[]⟩ : ByteArray) ++ p2 = p2 by apply ByteArray.ext; rw [ByteArray.data_append]; simp]
            by_cases ha : a.size = 0
            · rw [endL_00 ha sz0, endL_01 ha h2, List.append_nil, List.map_append]
              rcases f1 with e | ⟨m, x, e, hx, _⟩
              · rw [e]; exact add_first ⟨0, ⟨#[]⟩, p2⟩ (.inr (.inr h2))
              · rw [e, List.map_append]
                have := add_apart (m.map ofP) (ofP (x, ⟨#[]⟩, ⟨#[]⟩)) ⟨0, ⟨#[]⟩, p2⟩ (by rw [e] at f2; simp at f2 ⊢; omega) (.inr (.inr h2)) (by simp) (by simp [ofP, sz0]) (by simp [sz0]) (by simp [sz0])
                rw [List.append_assoc]; exact this
            · rw [endL_10 ha sz0, endL_11 ha h2, List.map_append, List.map_append]
              exact add_apart (l.map ofP) (ofP (0, a, ⟨#[]⟩)) ⟨0, ⟨#[]⟩, p2⟩ (by rw [List.length_map]; omega) (.inr (.inr h2)) (by simp) (by simp [ofP, sz0]) (by simp [sz0]) (by simp [sz0])
          · have hb2 : (b ++ p2).size ≠ 0 := by rw [ba_len_app]; omega
            by_cases ha : a.size = 0
            · rw [endL_01 ha hb, endL_01 ha hb2, List.map_append, List.map_append]
              exact add_drop (l.map ofP) (ofP (0, ⟨#[]⟩, b)) ⟨0, ⟨#[]⟩, p2⟩ (by rw [List.length_map]; omega) (by simp) ⟨h2, hb⟩ (by simp only [ofP]; omega)
            · rw [endL_11 ha hb, endL_11 ha hb2, List.map_append, List.map_append]
              have := add_drop (l.map ofP ++ [ofP (0, a, ⟨#[]⟩)]) (ofP (0, ⟨#[]⟩, b)) ⟨0, ⟨#[]⟩, p2⟩ (by rw [List.length_append, List.length_map, List.length_singleton]; omega) (by simp) ⟨h2, hb⟩ (by simp only [ofP]; omega)
              rw [List.append_assoc, List.append_assoc] at this; exact this
      · have h2 : p2.size = 0 := by omega
        rw [ba_nil h2, ba_app]
        by_cases ha : a.size = 0
        · rw [ba_nil ha, show (⟨#[]⟩ : ByteArray) ++ p1 = p1 by apply ByteArray.ext; rw [ByteArray.data_append]; simp]
          by_cases hb : b.size = 0
          · rw [endL_00 sz0 hb, endL_10 h1 hb, List.append_nil, List.map_append]
            rcases f1 with e | ⟨m, x, e, hx, _⟩
            · rw [e]; exact add_first ⟨0, p1, ⟨#[]⟩⟩ (.inr (.inl h1))
            · rw [e, List.map_append]
              have := add_apart (m.map ofP) (ofP (x, ⟨#[]⟩, ⟨#[]⟩)) ⟨0, p1, ⟨#[]⟩⟩ (by rw [e] at f2; simp at f2 ⊢; omega) (.inr (.inl h1)) (by simp) (by simp [ofP, sz0]) (by simp [ofP, sz0]) (by simp [ofP, sz0])
              rw [List.append_assoc]; exact this
          · rw [endL_01 sz0 hb, endL_11 h1 hb, List.map_append, List.map_append]
            rcases f1 with e | ⟨m, x, e, hx, _⟩
            · rw [e]; exact add_ahead1 (ofP (0, ⟨#[]⟩, b)) ⟨0, p1, ⟨#[]⟩⟩ (by simp) (by simp [sz0]) (by simp [ofP, sz0]) ⟨h1, hb⟩
            · rw [e, List.map_append]
              have := add_ahead2 (m.map ofP) (ofP (x, ⟨#[]⟩, ⟨#[]⟩)) (ofP (0, ⟨#[]⟩, b)) ⟨0, p1, ⟨#[]⟩⟩ (by rw [e] at f2; simp at f2 ⊢; omega) (by simp) (by simp [sz0]) (by simp [ofP, sz0]) ⟨h1, hb⟩ (by simp only [ofP, sz0]; omega)
              rw [if_pos (by rfl)] at this
              rw [List.append_assoc, List.append_assoc]; exact this
        · have ha2 : (a ++ p1).size ≠ 0 := by rw [ba_len_app]; omega
          by_cases hb : b.size = 0
          · rw [endL_10 ha hb, endL_10 ha2 hb, List.map_append, List.map_append]
            exact add_put (l.map ofP) (ofP (0, a, ⟨#[]⟩)) ⟨0, p1, ⟨#[]⟩⟩ (by rw [List.length_map]; omega) (by simp) (by simp [sz0]) ⟨h1, ha⟩ (by simp only [ofP]; omega)
          · rw [endL_11 ha hb, endL_11 ha2 hb, List.map_append, List.map_append]
            have := add_ahead2 (l.map ofP) (ofP (0, a, ⟨#[]⟩)) (ofP (0, ⟨#[]⟩, b)) ⟨0, p1, ⟨#[]⟩⟩ (by rw [List.length_map]; omega) (by simp) (by simp [sz0]) (by simp [ofP, sz0]) ⟨h1, hb⟩ (by simp only [ofP]; omega)
            rw [if_neg (by simp only [ofP]; exact ha)] at this
            exact this
    · refine ⟨?_, by show l.length ≤ _; omega, by show (a ++ p1).size ≤ _; rw [ba_len_app]; omega, by show (b ++ p2).size ≤ _; rw [ba_len_app]; omega⟩
      rcases f1 with e | ⟨m, x, e, hx, hx2⟩
      · exact .inl e
      · exact .inr ⟨m, x, e, hx, by omega⟩
  · -- bytes are kept
    obtain ⟨h1, h2⟩ := q5.resolve_left h0
    have hk : keepS l a b p0 = (keepA (l ++ endL a b) p0, ⟨#[]⟩, ⟨#[]⟩) := by unfold keepS; rw [if_neg h0]
    have et : takeP (l, a, b) (toP ⟨p0, p1, p2⟩) = (keepA (l ++ endL a b) p0, ⟨#[]⟩, ⟨#[]⟩) := by
      unfold takeP toP
      simp only [hk]
      rw [ba_nil h1, ba_nil h2, ba_app]
    rw [et, ba_nil h1, ba_nil h2]
    have hq : ∀ (M : List Pt) (q : Pt), l ++ endL a b = M ++ [q] → q.1 ≤ 300 * (n : Int) → (q.1 > 0 → q.2.1 = ⟨#[]⟩ ∧ q.2.2 = ⟨#[]⟩) →
        Ev (fun k => spec_l3Add.f k (allP (l, a, b)) p0 ⟨#[]⟩ ⟨#[]⟩) (allP (keepA (l ++ endL a b) p0, ⟨#[]⟩, ⟨#[]⟩)) ∧ Fit (n + 1) (keepA (l ++ endL a b) p0, ⟨#[]⟩, ⟨#[]⟩) := by
      intro M q e hq1 hq2
      have hML : M.length + 1 ≤ 3 * n + 2 := by
        have := congrArg List.length e
        rw [List.length_append, List.length_append, List.length_singleton] at this
        omega
      unfold allP
      simp only
      rw [endL_00 sz0 sz0, List.append_nil, e, keepA_app]
      by_cases hx : q.1 > 0
      · rw [if_pos hx, List.map_append, List.map_append]
        refine ⟨add_keep (M.map ofP) (ofP q) ⟨p0, ⟨#[]⟩, ⟨#[]⟩⟩ (by rw [List.length_map]; omega) ⟨by simp only; omega, hx⟩, ?_⟩
        rw [wrap_id (by omega) (by omega)]
        obtain ⟨e1, e2⟩ := hq2 hx
        refine ⟨.inr ⟨M, q.1 + p0, by rw [e1, e2], by omega, by omega⟩, ?_, Nat.zero_le _, Nat.zero_le _⟩
        simp only [List.length_append, List.length_cons, List.length_nil]; omega
      · rw [if_neg hx, List.map_append, List.map_append]
        refine ⟨add_apart (M.map ofP) (ofP q) ⟨p0, ⟨#[]⟩, ⟨#[]⟩⟩ (by rw [List.length_map]; omega) (.inl (by simp only; omega)) (fun c => hx c.2) (by simp [sz0]) (by simp [sz0]) (by simp [sz0]), ?_⟩
        refine ⟨.inr ⟨M ++ [q], p0, by rw [List.append_assoc]; rfl, by omega, by omega⟩, ?_, Nat.zero_le _, Nat.zero_le _⟩
        simp only [List.length_append, List.length_cons, List.length_nil]; omega
    by_cases ha : a.size = 0
    · by_cases hb : b.size = 0
      · rcases f1 with e | ⟨m, x, e, hx, hx2⟩
        · subst e
          unfold allP
          rw [endL_00 ha hb]
          simp only [List.nil_append, List.map_nil]
          rw [endL_00 sz0 sz0]
          refine ⟨add_first ⟨p0, ⟨#[]⟩, ⟨#[]⟩⟩ (.inl h0), ⟨.inr ⟨[], p0, rfl, by omega, by omega⟩, by show 1 ≤ _; omega, Nat.zero_le _, Nat.zero_le _⟩⟩
        · exact hq m (x, ⟨#[]⟩, ⟨#[]⟩) (by rw [endL_00 ha hb, List.append_nil]; exact e) (by simp only; omega) (fun _ => ⟨rfl, rfl⟩)
      · exact hq l (0, ⟨#[]⟩, b) (by rw [endL_01 ha hb]) (by simp only; omega) (fun c => absurd c (by simp))
    · by_cases hb : b.size = 0
      · exact hq l (0, a, ⟨#[]⟩) (by rw [endL_10 ha hb]) (by simp only; omega) (fun c => absurd c (by simp))
      · exact hq (l ++ [(0, a, ⟨#[]⟩)]) (0, ⟨#[]⟩, b) (by rw [endL_11 ha hb, List.append_assoc]; rfl) (by simp only; omega) (fun c => absurd c (by simp))
theorem fit_zero : Fit 0 ([], (⟨#[]⟩ : ByteArray), (⟨#[]⟩ : ByteArray)) := ⟨.inl rfl, Nat.le_refl _, Nat.le_refl _, Nat.le_refl _⟩
def normI (l : List IP) : List IP := (normP (l.map toP)).map ofP
theorem one_guard (l : List IP) (hl : l.length ≤ 60) (hp : ∀ p ∈ l, One p) : l.length ≤ 60 ∧ (l.all fun x => decide (x.f1.size ≤ 300 ∧ x.f2.size ≤ 300)) = true :=
  ⟨hl, List.all_eq_true.2 fun x hx => decide_eq_true ⟨(hp x hx).2.2.1, (hp x hx).2.2.2.1⟩⟩
theorem impl_normal_f (l : List IP) (hl : l.length ≤ 60) (hp : ∀ p ∈ l, One p) : impl_normal.f l = some (normI l) := by
  unfold impl_normal.f
  rw [if_pos (one_guard l hl hp)]; rfl
theorem normI_len (l : List IP) (hl : l.length ≤ 60) (hp : ∀ p ∈ l, One p) : (normI l).length ≤ 200 := by
  obtain ⟨b1, _, _⟩ := stN_bound l (fun x hx => ⟨(hp x hx).2.2.1, (hp x hx).2.2.2.1⟩) l.length (Nat.le_refl _)
  have e : stN l l.length = (l.map toP).foldl takeP ([], ⟨#[]⟩, ⟨#[]⟩) := by unfold stN; rw [List.take_of_length_le (Nat.le_refl _)]
  rw [e] at b1
  have := endL_len ((l.map toP).foldl takeP ([], ⟨#[]⟩, ⟨#[]⟩)).2.1 ((l.map toP).foldl takeP ([], ⟨#[]⟩, ⟨#[]⟩)).2.2
  unfold normI normP
  rw [List.length_map, List.length_append]; omega

theorem laws_eqPart_self (m : IP) : laws_eqPart.f m.f0 m.f1 m.f2 m.f0 m.f1 m.f2 = some true := by
  unfold laws_eqPart.f; rw [if_pos rfl]; rw [if_pos rfl]; rw [if_pos rfl]
theorem laws_eqPartS_l (l : List IP) (hl : l.length ≤ 4611686018427387904) (d : Nat) : ∀ i : Nat, i + d = l.length → Ev (fun k => laws_eqPartS.l0 k l l (i : Int)) true := by
  induction d with
  | zero => exact fun i hi => Ev.step (fun k => by rw [laws_eqPartS.l0]) (ev_neg (by omega) (ev_ret rfl))
  | succ d ih =>
    intro i hi
    refine Ev.step (fun k => by rw [laws_eqPartS.l0]) ?_
    refine ev_pos (by omega) (ev_pos (by omega) (ev_pos (by omega) (ev_eq (laws_eqPart_self _) (ev_pos rfl ?_))))
    rw [wrap_succ i (by omega)]
    exact ih (i + 1) (by omega)
theorem laws_eqPartS_f (l : List IP) (hl : l.length ≤ 4611686018427387904) : Ev (fun k => laws_eqPartS.f k l l) true := by
  unfold laws_eqPartS.f
  exact ev_pos rfl (laws_eqPartS_l l hl l.length 0 (by omega))

theorem spec_l1In_f (a b c : Int) : spec_l1In.f a b c = some (decide (b ≤ a ∧ a ≤ c)) := by
  unfold spec_l1In.f; split <;> simp <;> omega

theorem spec_l1Open_f (c : Int) : spec_l1Open.f c = some (openB c) := by
  unfold spec_l1Open.f openB; split <;> simp <;> omega
theorem spec_l1Plain_f (c : Int) : spec_l1Plain.f c = some (plainB c) := by
  unfold spec_l1Plain.f plainB
  repeat' split
  all_goals (rw [Option.some.injEq, Bool.eq_iff_iff]; simp only [Bool.or_eq_true, decide_eq_true_eq, beq_iff_eq, true_iff]; omega)
theorem spec_l1Text_l (s : ByteArray) (hs : s.size ≤ 140737488351232) (d : Nat) : ∀ i : Nat, i + d = s.size → Ev (fun k => spec_l1Text.l0 k s (i : Int)) (textB ((bytesOf s).drop i)) := by
  induction d with
  | zero =>
    intro i hi
    refine Ev.step (fun k => by rw [spec_l1Text.l0]) ?_
    refine ev_neg (by omega) (ev_ret ?_)
    rw [drop_end s i (by omega)]; rfl
  | succ d ih =>
    intro i hi
    refine Ev.step (fun k => by rw [spec_l1Text.l0]) ?_
    refine ev_pos (by omega) (ev_pos (by omega) (ev_eq (spec_l1Open_f _) ?_))
    rw [drop_bytes s i (by omega), wrap_succ i (by omega)]
    have ih' := ih (i + 1) (by omega)
    refine ev_if (fun h => ev_val ih' (by simp [textB, okB, h])) (fun h => ?_)
    refine ev_eq (spec_l1Plain_f _) (ev_if (fun h2 => ev_val ih' (by simp [textB, okB, h2])) (fun h2 => ?_))
    refine ev_if (fun h3 => ev_val ih' (by simp [textB, okB, h3])) (fun h3 => ev_ret ?_)
    simp [textB, okB, h, h2, h3]
theorem spec_l1Text_f (s : ByteArray) (hs : s.size ≤ 140737488351232) : Ev (fun k => spec_l1Text.f k s) (textB (bytesOf s)) :=
  spec_l1Text_l s hs s.size 0 (by omega)
theorem spec_GoodText_f (s : ByteArray) (hs : s.size ≤ 140737488351232) : Ev (fun k => spec_GoodText.f k s) (goodB (bytesOf s)) := by
  unfold spec_GoodText.f goodB
  refine Ev.bind (spec_l1Text_f s hs) (ev_if (fun h => ev_ret ?_) (fun h => ev_ret ?_))
  · rw [h, bytesOf_length, Bool.true_and]; congr 1; simp; omega
  · simp at h; simp [h]
theorem impl_isName_f (c : Int) : impl_isName.f c = some (openB c) := by
  unfold impl_isName.f openB; split <;> simp <;> omega
theorem impl_isPlain_f (c : Int) : impl_isPlain.f c = some (plainB c) := by
  unfold impl_isPlain.f plainB
  repeat' split
  all_goals (rw [Option.some.injEq, Bool.eq_iff_iff]; simp only [Bool.or_eq_true, decide_eq_true_eq, beq_iff_eq, true_iff]; omega)
theorem impl_GoodText_l (s : ByteArray) (hs : s.size ≤ 140737488351232) (d : Nat) : ∀ i : Nat, i + d = s.size → Ev (fun k => impl_GoodText.l0 k s (s.size : Int) (i : Int)) (textB ((bytesOf s).drop i) && decide (s.size ≤ 300)) := by
  induction d with
  | zero =>
    intro i hi
    refine Ev.step (fun k => by rw [impl_GoodText.l0]) ?_
    refine ev_neg (by omega) (ev_ret ?_)
    rw [drop_end s i (by omega)]; simp [textB]; omega
  | succ d ih =>
    intro i hi
    refine Ev.step (fun k => by rw [impl_GoodText.l0]) ?_
    refine ev_pos (by omega) (ev_pos (by omega) (ev_pos (by omega) (ev_eq (impl_isName_f _) ?_)))
    rw [drop_bytes s i (by omega), wrap_succ i (by omega)]
    have ih' := ih (i + 1) (by omega)
    refine ev_if (fun h => ev_val ih' (by simp [textB, okB, h])) (fun h => ?_)
    refine ev_eq (impl_isPlain_f _) (ev_if (fun h2 => ev_val ih' (by simp [textB, okB, h2])) (fun h2 => ?_))
    refine ev_if (fun h3 => ev_val ih' (by simp [textB, okB, h3])) (fun h3 => ev_ret ?_)
    simp [textB, okB, h, h2, h3]
theorem impl_GoodText_f (s : ByteArray) (hs : s.size ≤ 140737488351232) : Ev (fun k => impl_GoodText.f k s) (goodB (bytesOf s)) := by
  unfold impl_GoodText.f
  refine ev_val (impl_GoodText_l s hs s.size 0 (by omega)) ?_
  simp [goodB, bytesOf_length]

def partB (p : IP) : Bool := if p.f0 = 0 then (if p.f1.toList = ([] : List UInt8) then (if p.f2.toList = ([] : List UInt8) then false else goodB (bytesOf p.f2)) else (if p.f2.toList = ([] : List UInt8) then goodB (bytesOf p.f1) else false)) else (decide (1 ≤ p.f0 ∧ p.f0 ≤ 300) && (decide (p.f1.toList = ([] : List UInt8)) && (p.f2.toList == ([] : List UInt8))))
theorem spec_l3Part_f (p : IP) (h1 : p.f1.size ≤ 140737488351232) (h2 : p.f2.size ≤ 140737488351232) : Ev (fun k => spec_l3Part.f k p.f0 p.f1 p.f2) (partB p) := by
  unfold spec_l3Part.f partB
  by_cases c0 : p.f0 = 0
  · rw [if_pos c0]
    refine ev_pos c0 ?_
    by_cases c1 : p.f1.toList = ([] : List UInt8)
    · rw [if_pos c1]
      refine ev_pos c1 ?_
      by_cases c2 : p.f2.toList = ([] : List UInt8)
      · rw [if_pos c2]; exact ev_pos c2 (ev_ret rfl)
      · rw [if_neg c2]; exact ev_neg c2 (Ev.bind (spec_GoodText_f _ h2) (ev_ret rfl))
    · rw [if_neg c1]
      refine ev_neg c1 ?_
      by_cases c2 : p.f2.toList = ([] : List UInt8)
      · rw [if_pos c2]; exact ev_pos c2 (Ev.bind (spec_GoodText_f _ h1) (ev_ret rfl))
      · rw [if_neg c2]; exact ev_neg c2 (ev_ret rfl)
  · rw [if_neg c0]
    refine ev_neg c0 (ev_eq (spec_l1In_f _ _ _) ?_)
    refine ev_if (fun h => ?_) (fun h => ev_ret (by rw [Bool.not_eq_true] at h; rw [h]; rfl))
    rw [h, Bool.true_and]
    exact ev_if (fun h1 => ev_ret (by rw [decide_eq_true h1, Bool.true_and])) (fun h1 => ev_ret (by rw [decide_eq_false h1]; rfl))
theorem impl_Part_isPart_f (p : IP) (h1 : p.f1.size ≤ 140737488351232) (h2 : p.f2.size ≤ 140737488351232) : Ev (fun k => impl_Part_isPart.f k p.f0 p.f1 p.f2) (partB p) := by
  unfold impl_Part_isPart.f partB
  by_cases c0 : p.f0 = 0
  · rw [if_pos c0]
    refine ev_pos c0 ?_
    by_cases c1 : p.f1.toList = ([] : List UInt8)
    · rw [if_pos c1]
      refine ev_pos c1 ?_
      by_cases c2 : p.f2.toList = ([] : List UInt8)
      · rw [if_pos c2]; exact ev_pos c2 (ev_ret rfl)
      · rw [if_neg c2]; exact ev_neg c2 (Ev.bind (impl_GoodText_f _ h2) (ev_ret rfl))
    · rw [if_neg c1]
      refine ev_neg c1 ?_
      by_cases c2 : p.f2.toList = ([] : List UInt8)
      · rw [if_pos c2]; exact ev_pos c2 (Ev.bind (impl_GoodText_f _ h1) (ev_ret rfl))
      · rw [if_neg c2]; exact ev_neg c2 (ev_ret rfl)
  · rw [if_neg c0]
    refine ev_neg c0 ?_
    refine ev_if (fun h => ?_) (fun h => ev_ret (by rw [decide_eq_false (by omega)]; rfl))
    refine ev_if (fun h' => ?_) (fun h' => ev_ret (by rw [decide_eq_false (by omega)]; rfl))
    rw [decide_eq_true (show 1 ≤ p.f0 ∧ p.f0 ≤ 300 from ⟨h, h'⟩), Bool.true_and]
    exact ev_if (fun h1 => ev_ret (by rw [decide_eq_true h1, Bool.true_and])) (fun h1 => ev_ret (by rw [decide_eq_false h1]; rfl))
def tkS : List IP → Int → Int
  | [], a => a
  | p :: r, a => tkS r (wrap64 (a + wrap64 (p.f0 + (p.f2.size : Int))))
def mkS : List IP → Int → Int
  | [], a => a
  | p :: r, a => mkS r (wrap64 (a + wrap64 (p.f0 + (p.f1.size : Int))))
theorem spec_l3Sizes_l (l : List IP) (hl : l.length ≤ 1048576) (d : Nat) : ∀ (i : Nat) (a b : Int), i + d = l.length →
    Ev (fun k => spec_l3Sizes.l0 k a b l (l.length : Int) (i : Int)) (tkS (l.drop i) a, mkS (l.drop i) b) := by
  induction d with
  | zero =>
    intro i a b hi
    refine Ev.step (fun k => by rw [spec_l3Sizes.l0]) ?_
    refine ev_neg (by omega) (ev_ret ?_)
    rw [List.drop_eq_nil_of_le (by omega)]; rfl
  | succ d ih =>
    intro i a b hi
    refine Ev.step (fun k => by rw [spec_l3Sizes.l0]) ?_
    refine ev_pos (by omega) (ev_pos (by omega) (ev_pos (by omega) ?_))
    rw [gt_drop izP l i (by omega), wrap_succ i (by omega)]
    exact ih (i + 1) _ _ (by omega)
theorem spec_l3Sizes_f (l : List IP) (hl : l.length ≤ 1048576) : Ev (fun k => spec_l3Sizes.f k l) (tkS l 0, mkS l 0) := by
  unfold spec_l3Sizes.f
  exact spec_l3Sizes_l l hl l.length 0 0 0 (by omega)
theorem impl_sizes_l (l : List IP) (hl : l.length ≤ 1048576) (d : Nat) : ∀ (i : Nat) (a b : Int), i + d = l.length →
    Ev (fun k => impl_sizes.l0 k a b l (l.length : Int) (i : Int)) (tkS (l.drop i) a, mkS (l.drop i) b) := by
  induction d with
  | zero =>
    intro i a b hi
    refine Ev.step (fun k => by rw [impl_sizes.l0]) ?_
    refine ev_neg (by omega) (ev_ret ?_)
    rw [List.drop_eq_nil_of_le (by omega)]; rfl
  | succ d ih =>
    intro i a b hi
    refine Ev.step (fun k => by rw [impl_sizes.l0]) ?_
    refine ev_pos (by omega) (ev_pos (by omega) (ev_pos (by omega) ?_))
    rw [gt_drop izP l i (by omega), wrap_succ i (by omega)]
    exact ih (i + 1) _ _ (by omega)
theorem impl_sizes_f (l : List IP) (hl : l.length ≤ 1048576) : Ev (fun k => impl_sizes.f k l) (tkS l 0, mkS l 0) := by
  unfold impl_sizes.f
  exact impl_sizes_l l hl l.length 0 0 0 (by omega)
def goodO (l : List IP) : Bool := decide (l.length ≤ 60) && (l.all partB && decide (tkS l 0 ≤ 300 ∧ mkS l 0 ≤ 300))
theorem goodO_len {l : List IP} (h : ¬ l.length ≤ 60) : goodO l = false := by unfold goodO; rw [decide_eq_false h]; rfl
theorem goodO_part {l : List IP} {p : IP} (hp : p ∈ l) (h : partB p = false) : goodO l = false := by
  unfold goodO
  have : l.all partB = false := by
    rw [Bool.eq_false_iff]; intro e
    rw [List.all_eq_true] at e
    rw [e p hp] at h; cases h
  rw [this]; simp
theorem spec_GoodOp_l (l : List IP) (hl : l.length ≤ 60) (hw : ∀ x ∈ l, x.f1.size ≤ 1048576 ∧ x.f2.size ≤ 1048576) (d : Nat) : ∀ i : Nat, i + d = l.length →
    (l.take i).all partB = true → Ev (fun k => spec_GoodOp.l0 k l l (l.length : Int) (i : Int)) (goodO l) := by
  induction d with
  | zero =>
    intro i hi hg
    refine Ev.step (fun k => by rw [spec_GoodOp.l0]) ?_
    rw [List.take_of_length_le (by omega)] at hg
    have e : goodO l = decide (tkS l 0 ≤ 300 ∧ mkS l 0 ≤ 300) := by unfold goodO; rw [hg, decide_eq_true hl]; rfl
    rw [e]
    refine ev_neg (by omega) (Ev.bind (spec_l3Sizes_f l (by omega)) ?_)
    exact ev_if (fun h => ev_ret (decide_eq_decide.2 (by constructor <;> intro q; exact ⟨h, q⟩; exact q.2))) (fun h => ev_ret (by rw [decide_eq_false (fun q => h q.1)]))
  | succ d ih =>
    intro i hi hg
    have hm := hw _ (gt_mem izP l i (by omega))
    refine Ev.step (fun k => by rw [spec_GoodOp.l0]) ?_
    refine ev_pos (by omega) (ev_pos (by omega) (ev_pos (by omega) ?_))
    rw [wrap_succ i (by omega)]
    simp only [rd_ip]
    refine Ev.bind (spec_l3Part_f _ (by omega) (by omega)) (ev_if (fun h => ?_) (fun h => ev_ret (goodO_part (gt_mem izP l i (by omega)) (by simpa using h)).symm))
    refine ih (i + 1) (by omega) ?_
    rw [gt_take izP l i (by omega), List.all_append, hg]
    simp [h]
theorem spec_GoodOp_f (l : List IP) (hw : ∀ x ∈ l, x.f1.size ≤ 1048576 ∧ x.f2.size ≤ 1048576) : Ev (fun k => spec_GoodOp.f k l) (goodO l) := by
  unfold spec_GoodOp.f
  refine ev_if (fun h => ev_ret (goodO_len (by omega)).symm) (fun h => ?_)
  exact spec_GoodOp_l l (by omega) hw l.length 0 (by omega) rfl
theorem idxBad_f (l : List IP) (hw : ∀ x ∈ l, x.f1.size ≤ 1048576 ∧ x.f2.size ≤ 1048576) : ∀ n : Int, 0 ≤ n → ∃ v : Int, Ev (fun k => idxBad k l n) v ∧ (v ≥ 0 ↔ l.all partB = false) := by
  induction l with
  | nil => exact fun n _ => ⟨-1, by unfold idxBad; exact ev_ret rfl, by simp⟩
  | cons p r ih =>
    intro n hn
    have hm := hw p (List.mem_cons_self ..)
    obtain ⟨v, hv, hb⟩ := ih (fun x hx => hw x (List.mem_cons_of_mem _ hx)) (n + 1) (by omega)
    have hp : Ev (fun k => impl_GoodOp_1.f k p.f0 p.f1 p.f2) (!(partB p)) := by unfold impl_GoodOp_1.f; exact Ev.bind (impl_Part_isPart_f p (by omega) (by omega)) (ev_ret rfl)
    by_cases c : partB p = true
    · refine ⟨v, ?_, by rw [hb, List.all_cons, c, Bool.true_and]⟩
      unfold idxBad
      refine Ev.bind hp (ev_neg (by rw [c]; simp) hv)
    · rw [Bool.not_eq_true] at c
      refine ⟨n, ?_, by rw [List.all_cons, c]; simp; omega⟩
      unfold idxBad
      exact Ev.bind hp (ev_pos (by rw [c]; rfl) (ev_ret rfl))
theorem impl_GoodOp_f (l : List IP) (hw : ∀ x ∈ l, x.f1.size ≤ 1048576 ∧ x.f2.size ≤ 1048576) : Ev (fun k => impl_GoodOp.f k l) (goodO l) := by
  unfold impl_GoodOp.f
  refine ev_if (fun h => ev_ret (goodO_len (by omega)).symm) (fun h => ?_)
  obtain ⟨v, hv, hb⟩ := idxBad_f l hw 0 (by omega)
  refine Ev.bind hv (ev_if (fun c => ev_ret ?_) (fun c => Ev.bind (impl_sizes_f l (by omega)) ?_))
  · unfold goodO; rw [hb.1 c]; simp
  · have hg : l.all partB = true := by
      by_cases q : l.all partB = true
      · exact q
      · exact absurd (hb.2 (by simpa using q)) c
    have e : goodO l = decide (tkS l 0 ≤ 300 ∧ mkS l 0 ≤ 300) := by unfold goodO; rw [hg, decide_eq_true (by omega : l.length ≤ 60)]; rfl
    rw [e]
    exact ev_if (fun h => ev_ret (decide_eq_decide.2 (by constructor <;> intro q; exact ⟨h, q⟩; exact q.2))) (fun h => ev_ret (by rw [decide_eq_false (fun q => h q.1)]))

theorem goodB_size' {s : ByteArray} (h : goodB (bytesOf s) = true) : s.size ≤ 300 := by
  unfold goodB at h
  rw [Bool.and_eq_true, bytesOf_length] at h
  exact of_decide_eq_true h.2
theorem part_facts {p : IP} (h : partB p = true) : 0 ≤ p.f0 ∧ p.f0 ≤ 300 ∧ p.f1.size ≤ 300 ∧ p.f2.size ≤ 300 ∧ (p.f0 = 0 ∨ p.f2.size = 0) := by
  unfold partB at h
  by_cases c0 : p.f0 = 0
  · rw [if_pos c0] at h
    by_cases c1 : p.f1.toList = ([] : List UInt8)
    · rw [if_pos c1] at h
      rw [toList_nil] at c1
      by_cases c2 : p.f2.toList = ([] : List UInt8)
      · rw [if_pos c2] at h; cases h
      · rw [if_neg c2] at h
        have := goodB_size' h
        exact ⟨by omega, by omega, by omega, by omega, Or.inl c0⟩
    · rw [if_neg c1] at h
      by_cases c2 : p.f2.toList = ([] : List UInt8)
      · rw [if_pos c2] at h
        rw [toList_nil] at c2
        have := goodB_size' h
        exact ⟨by omega, by omega, by omega, by omega, Or.inl c0⟩
      · rw [if_neg c2] at h; cases h
  · rw [if_neg c0, Bool.and_eq_true, Bool.and_eq_true] at h
    obtain ⟨a, b, c⟩ := h
    have a := of_decide_eq_true a
    have b := (toList_nil _).1 (of_decide_eq_true b)
    have c := (toList_nil _).1 (by simpa using c)
    exact ⟨by omega, by omega, by omega, by omega, Or.inr c⟩
theorem goodO_facts {l : List IP} (h : goodO l = true) : l.length ≤ 60 ∧ (∀ p ∈ l, partB p = true) ∧ tkS l 0 ≤ 300 ∧ mkS l 0 ≤ 300 := by
  unfold goodO at h
  rw [Bool.and_eq_true, Bool.and_eq_true, List.all_eq_true] at h
  have a := of_decide_eq_true h.1
  have b := of_decide_eq_true h.2.2
  exact ⟨a, h.2.1, b.1, b.2⟩

theorem part_one {p : IP} (h : partB p = true) : One p := by
  obtain ⟨a1, a2, a3, a4, a5⟩ := part_facts h
  refine ⟨a1, a2, a3, a4, ?_, ?_⟩
  · unfold partB at h
    by_cases c0 : p.f0 = 0
    · exact .inl c0
    · rw [if_neg c0, Bool.and_eq_true, Bool.and_eq_true] at h
      exact .inr ⟨(toList_nil _).1 (of_decide_eq_true h.2.1), a5.resolve_left c0⟩
  · unfold partB at h
    by_cases c0 : p.f0 = 0
    · rw [if_pos c0] at h
      by_cases c1 : p.f1.toList = ([] : List UInt8)
      · exact .inl ((toList_nil _).1 c1)
      · rw [if_neg c1] at h
        by_cases c2 : p.f2.toList = ([] : List UInt8)
        · exact .inr ((toList_nil _).1 c2)
        · rw [if_neg c2] at h; cases h
    · exact .inr (a5.resolve_left c0)

def dropL : List IP → List Int
  | [] => []
  | p :: r => (List.replicate p.f0.toNat 0 ++ bytesOf p.f2) ++ dropL r
theorem spec_l4Bytes_l (l : List IP) (hl : l.length ≤ 60) (hp : ∀ p ∈ l, partB p = true) (d : Nat) : ∀ (i : Nat) (a : List Int), i + d = l.length → a.length ≤ 600 * i →
    Ev (fun k => spec_l4Bytes.l0 k a l (l.length : Int) (i : Int)) (a ++ dropL (l.drop i)) := by
  induction d with
  | zero =>
    intro i a hi ha
    refine Ev.step (fun k => by rw [spec_l4Bytes.l0]) ?_
    refine ev_neg (by omega) (ev_ret ?_)
    rw [List.drop_eq_nil_of_le (by omega)]; simp [dropL]
  | succ d ih =>
    intro i a hi ha
    obtain ⟨f1, f2, f3, f4, f5⟩ := part_facts (hp _ (gt_mem izP l i (by omega)))
    refine Ev.step (fun k => by rw [spec_l4Bytes.l0]) ?_
    refine ev_pos (by omega) (ev_pos (by omega) (ev_pos (by omega) ?_))
    rw [gt_drop izP l i (by omega), wrap_succ i (by omega)]
    simp only [rd_ip]
    refine ev_pos (by omega) (ev_pos (by omega) (ev_some (ev_pos ?_ ?_)))
    · rw [List.length_append, List.length_replicate]; omega
    · refine ev_val (ih (i + 1) _ (by omega) ?_) ?_
      · rw [List.length_append, List.length_append, List.length_replicate, bytesOf_length]; omega
      · simp only [dropL, List.append_assoc]
theorem spec_l4Bytes_f (l : List IP) (hl : l.length ≤ 60) (hp : ∀ p ∈ l, partB p = true) : Ev (fun k => spec_l4Bytes.f k l) (dropL l) := by
  unfold spec_l4Bytes.f
  exact spec_l4Bytes_l l hl hp l.length 0 [] (by omega) (by simp)
theorem dropL_len : ∀ (l : List IP), (∀ p ∈ l, partB p = true) → (dropL l).length ≤ 600 * l.length
  | [], _ => by simp [dropL]
  | p :: r, h => by
    obtain ⟨f1, f2, f3, f4, f5⟩ := part_facts (h p (List.mem_cons_self ..))
    have := dropL_len r (fun x hx => h x (List.mem_cons_of_mem _ hx))
    simp only [dropL, List.length_append, List.length_replicate, bytesOf_length, List.length_cons]
    omega

abbrev Seg := ByteArray × ByteArray × Int
/-- A normal change, by what it keeps: what is put and dropped ahead of each. -/
def flatS (l : List Seg) : List Pt := l.flatMap (fun s => endL s.1 s.2.1 ++ [(s.2.2, (⟨#[]⟩ : ByteArray), (⟨#[]⟩ : ByteArray))])
def byteS (l : List Seg) : List Int := l.flatMap (fun s => bytesOf s.2.1 ++ List.replicate s.2.2.toNat 0)
theorem flatS_app (a b : List Seg) : flatS (a ++ b) = flatS a ++ flatS b := by simp [flatS]
theorem byteS_app (a b : List Seg) : byteS (a ++ b) = byteS a ++ byteS b := by simp [byteS]
theorem flatS_cons (s : Seg) (b : List Seg) : flatS (s :: b) = endL s.1 s.2.1 ++ (s.2.2, (⟨#[]⟩ : ByteArray), (⟨#[]⟩ : ByteArray)) :: flatS b := by simp [flatS]
theorem byteS_cons (s : Seg) (b : List Seg) : byteS (s :: b) = bytesOf s.2.1 ++ (List.replicate s.2.2.toNat 0 ++ byteS b) := by simp [byteS]
theorem bytesOf_app (a b : ByteArray) : bytesOf (a ++ b) = bytesOf a ++ bytesOf b := by unfold bytesOf; rw [ByteArray.data_append]; simp
theorem dropL_app (a b : List IP) : dropL (a ++ b) = dropL a ++ dropL b := by
  induction a with
  | nil => rfl
  | cons p r ih => rw [List.cons_append, dropL, dropL, ih]; simp only [List.append_assoc]
theorem bytesOf_nil {s : ByteArray} (h : s.size = 0) : bytesOf s = [] := by
  rw [← List.length_eq_zero_iff, bytesOf_length]; exact h
def NZ (s : ByteArray) : Prop := ∀ x ∈ bytesOf s, x ≠ 0
structure SegOk (n : Nat) (s : Seg) : Prop where
  put : s.1.size ≤ 300 * n
  drop : s.2.1.size ≤ 300 * n
  nz : NZ s.2.1
  pos : 0 < s.2.2
  top : s.2.2 ≤ 300 * (n : Int)
theorem SegOk.more {n : Nat} {s : Seg} (h : SegOk n s) : SegOk (n + 1) s := by
  obtain ⟨a, b, c, d, e⟩ := h
  exact ⟨by omega, by omega, c, d, by omega⟩
structure SegIs (n : Nat) (l : List IP) (s : List Pt × ByteArray × ByteArray) (g : List Seg) : Prop where
  flat : s.1 = flatS g
  ok : ∀ x ∈ g, SegOk n x
  put : s.2.1.size ≤ 300 * n
  drop : s.2.2.size ≤ 300 * n
  nz : NZ s.2.2
  bytes : byteS g ++ bytesOf s.2.2 = dropL l
  len : g.length ≤ n
theorem keepA_end (L : List Pt) (a b : ByteArray) (x : Int) (h : a.size ≠ 0 ∨ b.size ≠ 0) : keepA (L ++ endL a b) x = L ++ (endL a b ++ [(x, (⟨#[]⟩ : ByteArray), (⟨#[]⟩ : ByteArray))]) := by
  have z : ∀ (M : List Pt) (q : Pt), q.1 = 0 → keepA (M ++ [q]) x = M ++ ([q] ++ [(x, (⟨#[]⟩ : ByteArray), (⟨#[]⟩ : ByteArray))]) := fun M q hq => by rw [keepA_app, if_neg (by omega)]; rfl
  by_cases ha : a.size = 0
  · have hb : b.size ≠ 0 := by omega
    rw [endL_01 ha hb]; exact z L _ rfl
  · by_cases hb : b.size = 0
    · rw [endL_10 ha hb]; exact z L _ rfl
    · rw [endL_11 ha hb]
      have := z (L ++ [(0, a, ⟨#[]⟩)]) (0, ⟨#[]⟩, b) rfl
      rw [List.append_assoc, List.append_assoc] at this
      exact this
theorem seg_step (n : Nat) (l : List IP) (s : List Pt × ByteArray × ByteArray) (g : List Seg) (p : IP) (hn : n ≤ 1000) (h : SegIs n l s g) (hp : One p) (hz : NZ p.f2) : ∃ g', SegIs (n + 1) (l ++ [p]) (takeP s (toP p)) g' := by
  obtain ⟨L, a, b⟩ := s
  obtain ⟨p0, p1, p2⟩ := p
  obtain ⟨s1, s2, s3, s4, s5, s6, s7⟩ := h
  obtain ⟨q1, q2, q3, q4, q5, q6⟩ := hp
  simp only at s1 s2 s3 s4 s5 s6 s7 q1 q2 q3 q4 q5 q6 hz
  have hdl : dropL (l ++ [⟨p0, p1, p2⟩]) = dropL l ++ (List.replicate p0.toNat 0 ++ bytesOf p2) := by rw [dropL_app]; simp [dropL]
  by_cases h0 : p0 = 0
  · subst h0
    have et : takeP (L, a, b) (toP ⟨0, p1, p2⟩) = (L, a ++ p1, b ++ p2) := rfl
    rw [et]
    refine ⟨g, s1, fun x hx => (s2 x hx).more, by show (a ++ p1).size ≤ _; rw [ba_len_app]; omega, by show (b ++ p2).size ≤ _; rw [ba_len_app]; omega, ?_, ?_, by omega⟩
    · intro x hx
      rw [bytesOf_app] at hx
      exact (List.mem_append.1 hx).elim (s5 x) (hz x)
    · show byteS g ++ bytesOf (b ++ p2) = _
      rw [hdl, bytesOf_app, ← List.append_assoc, s6]; simp
  · obtain ⟨h1, h2⟩ := q5.resolve_left h0
    have hk : keepS L a b p0 = (keepA (L ++ endL a b) p0, ⟨#[]⟩, ⟨#[]⟩) := by unfold keepS; rw [if_neg h0]
    have et : takeP (L, a, b) (toP ⟨p0, p1, p2⟩) = (keepA (L ++ endL a b) p0, ⟨#[]⟩, ⟨#[]⟩) := by
      unfold takeP toP
      simp only [hk]
      rw [ba_nil h1, ba_nil h2, ba_app]
    have e2 : bytesOf p2 = [] := bytesOf_nil h2
    have e3 : bytesOf (⟨#[]⟩ : ByteArray) = [] := bytesOf_nil rfl
    have nz0 : NZ (⟨#[]⟩ : ByteArray) := fun x hx => by rw [e3] at hx; cases hx
    rw [et]
    by_cases hab : a.size = 0 ∧ b.size = 0
    · obtain ⟨ha, hb⟩ := hab
      rw [bytesOf_nil hb, List.append_nil] at s6
      have eL : L ++ endL a b = flatS g := by rw [endL_00 ha hb, List.append_nil, s1]
      rw [eL]
      rcases List.eq_nil_or_concat g with e | ⟨g0, s0, e⟩
      · subst e
        refine ⟨[(⟨#[]⟩, ⟨#[]⟩, p0)], ?_, ?_, Nat.zero_le _, Nat.zero_le _, nz0, ?_, by simp⟩
        · show keepA (flatS []) p0 = flatS [(⟨#[]⟩, ⟨#[]⟩, p0)]
          rw [flatS_cons, endL_00 sz0 sz0]; rfl
        · intro x hx
          rw [List.mem_singleton.1 hx]
          exact ⟨Nat.zero_le _, Nat.zero_le _, nz0, by simp only; omega, by simp only; omega⟩
        · show byteS [(⟨#[]⟩, ⟨#[]⟩, p0)] ++ bytesOf (⟨#[]⟩ : ByteArray) = _
          rw [hdl, ← s6, byteS_cons, e2, e3]; simp [byteS]
      · subst e
        obtain ⟨u0, v0, k0⟩ := s0
        have o0 := s2 (u0, v0, k0) (by simp)
        have ek : wrap64 (k0 + p0) = k0 + p0 := by have := o0.pos; have := o0.top; simp only at *; exact wrap_id (by omega) (by omega)
        refine ⟨g0 ++ [(u0, v0, k0 + p0)], ?_, ?_, Nat.zero_le _, Nat.zero_le _, nz0, ?_, by simp at s7 ⊢; omega⟩
        · show keepA (flatS (g0.concat (u0, v0, k0))) p0 = flatS (g0 ++ [(u0, v0, k0 + p0)])
          rw [List.concat_eq_append, flatS_app, flatS_app, flatS_cons, flatS_cons]
          have : flatS g0 ++ (endL u0 v0 ++ (k0, (⟨#[]⟩ : ByteArray), (⟨#[]⟩ : ByteArray)) :: flatS []) = (flatS g0 ++ endL u0 v0) ++ [(k0, (⟨#[]⟩ : ByteArray), (⟨#[]⟩ : ByteArray))] := by rw [List.append_assoc]; rfl
          rw [this, keepA_app, if_pos o0.pos, ek, List.append_assoc]; rfl
        · intro x hx
          rcases List.mem_append.1 hx with hx | hx
          · exact (s2 x (by simp [hx])).more
          · rw [List.mem_singleton.1 hx]
            obtain ⟨a1, a2, a3, a4, a5⟩ := o0
            simp only at a1 a2 a3 a4 a5
            exact ⟨by simp only; omega, by simp only; omega, a3, by simp only; omega, by simp only; omega⟩
        · show byteS (g0 ++ [(u0, v0, k0 + p0)]) ++ bytesOf (⟨#[]⟩ : ByteArray) = _
          have hpos := o0.pos
          simp only at hpos
          have er : List.replicate (k0 + p0).toNat (0 : Int) = List.replicate k0.toNat 0 ++ List.replicate p0.toNat 0 := by
            rw [List.replicate_append_replicate]; congr 1; omega
          rw [List.concat_eq_append] at s6
          rw [hdl, ← s6, byteS_app, byteS_app, byteS_cons, byteS_cons, e2, e3, er]; simp [byteS]
    · rw [keepA_end L a b p0 (by omega)]
      refine ⟨g ++ [(a, b, p0)], ?_, ?_, Nat.zero_le _, Nat.zero_le _, nz0, ?_, by simp; omega⟩
      · show L ++ (endL a b ++ [(p0, (⟨#[]⟩ : ByteArray), (⟨#[]⟩ : ByteArray))]) = flatS (g ++ [(a, b, p0)])
        rw [flatS_app, flatS_cons, ← s1]; rfl
      · intro x hx
        rcases List.mem_append.1 hx with hx | hx
        · exact (s2 x hx).more
        · rw [List.mem_singleton.1 hx]
          exact ⟨by simp only; omega, by simp only; omega, s5, by simp only; omega, by simp only; omega⟩
      · show byteS (g ++ [(a, b, p0)]) ++ bytesOf (⟨#[]⟩ : ByteArray) = _
        rw [hdl, ← s6, byteS_app, byteS_cons, e2, e3]; simp [byteS]
theorem part_nz {p : IP} (h : partB p = true) : NZ p.f2 := by
  intro x hx
  have hg : goodB (bytesOf p.f2) = true := by
    unfold partB at h
    by_cases c0 : p.f0 = 0
    · rw [if_pos c0] at h
      by_cases c1 : p.f1.toList = ([] : List UInt8)
      · rw [if_pos c1] at h
        by_cases c2 : p.f2.toList = ([] : List UInt8)
        · rw [if_pos c2] at h; cases h
        · rw [if_neg c2] at h; exact h
      · rw [if_neg c1] at h
        by_cases c2 : p.f2.toList = ([] : List UInt8)
        · rw [bytesOf_nil ((toList_nil _).1 c2)] at hx; cases hx
        · rw [if_neg c2] at h; cases h
    · rw [if_neg c0, Bool.and_eq_true, Bool.and_eq_true] at h
      have := (toList_nil _).1 (by simpa using h.2.2)
      rw [bytesOf_nil this] at hx; cases hx
  unfold goodB textB at hg
  rw [Bool.and_eq_true, List.all_eq_true] at hg
  have := hg.1 x hx
  unfold okB openB plainB at this
  simp only [Bool.or_eq_true, decide_eq_true_eq] at this
  omega
theorem seg_all (l : List IP) (hl : l.length ≤ 60) (hp : ∀ p ∈ l, partB p = true) : ∀ i, i ≤ l.length → ∃ g, SegIs i (l.take i) (stN l i) g
  | 0, _ => by
    have e0 : stN l 0 = ([], (⟨#[]⟩ : ByteArray), (⟨#[]⟩ : ByteArray)) := rfl
    have e3 : bytesOf (⟨#[]⟩ : ByteArray) = [] := bytesOf_nil rfl
    rw [e0]
    refine ⟨[], rfl, ?_, Nat.le_refl _, Nat.le_refl _, ?_, ?_, Nat.le_refl _⟩
    · intro x hx; cases hx
    · intro x hx
      rw [e3] at hx; cases hx
    · show byteS [] ++ bytesOf (⟨#[]⟩ : ByteArray) = _
      rw [e3]; rfl
  | i + 1, h => by
    obtain ⟨g, hg⟩ := seg_all l hl hp i (by omega)
    have hm := hp _ (List.getElem_mem (show i < l.length by omega))
    obtain ⟨g', hg'⟩ := seg_step i (l.take i) (stN l i) g (l[i]'(by omega)) (by omega) hg (part_one hm) (part_nz hm)
    rw [stN_succ l i (by omega), List.take_succ_eq_append_getElem (by omega)]
    exact ⟨g', hg'⟩
/-- The normal change, by what it keeps. -/
theorem norm_segs (l : List IP) (hl : l.length ≤ 60) (hp : ∀ p ∈ l, partB p = true) : ∃ (g : List Seg) (a b : ByteArray), normI l = (flatS g ++ endL a b).map ofP ∧ (∀ x ∈ g, SegOk 60 x) ∧ a.size ≤ 18000 ∧ b.size ≤ 18000 ∧ NZ b ∧ byteS g ++ bytesOf b = dropL l ∧ g.length ≤ 60 := by
  obtain ⟨g, s1, s2, s3, s4, s5, s6, s7⟩ := seg_all l hl hp l.length (Nat.le_refl _)
  have e : stN l l.length = (l.map toP).foldl takeP ([], ⟨#[]⟩, ⟨#[]⟩) := by unfold stN; rw [List.take_of_length_le (Nat.le_refl _)]
  rw [List.take_of_length_le (Nat.le_refl _)] at s6
  refine ⟨g, (stN l l.length).2.1, (stN l l.length).2.2, ?_, fun x hx => ?_, by omega, by omega, s5, s6, by omega⟩
  · unfold normI normP; rw [← e, s1]
  · obtain ⟨a1, a2, a3, a4, a5⟩ := s2 x hx
    exact ⟨by omega, by omega, a3, a4, by omega⟩
theorem at_idx (pre suf : List IP) (p : IP) : gt izP (pre ++ p :: suf) pre.length = p := by
  unfold gt; rw [List.getD_eq_getElem?_getD, List.getElem?_append_right (Nat.le_refl _)]; simp
theorem gt_app_lz {α : Type} (z : α) (a b : List α) (j : Nat) (h : j < a.length) : gt z (a ++ b) j = gt z a j := by
  unfold gt; rw [List.getD_eq_getElem?_getD, List.getElem?_append_left h, ← List.getD_eq_getElem?_getD]

theorem normal_l (l : List IP) (hl : l.length ≤ 60) (hp : ∀ p ∈ l, One p) (d : Nat) : ∀ i : Nat, i + d = l.length → Fit i (stN l i) →
    Ev (fun k => spec_l3Normal.l0 k (allP (stN l i)) l (l.length : Int) (i : Int)) ((normP (l.map toP)).map ofP) := by
  induction d with
  | zero =>
    intro i hi hf
    refine Ev.step (fun k => by rw [spec_l3Normal.l0]) ?_
    refine ev_neg (by omega) (ev_ret ?_)
    have e : stN l i = (l.map toP).foldl takeP ([], ⟨#[]⟩, ⟨#[]⟩) := by unfold stN; rw [List.take_of_length_le (by omega)]
    unfold allP normP; rw [e]
  | succ d ih =>
    intro i hi hf
    have hm := hp _ (gt_mem izP l i (by omega))
    have es := stN_succ l i (by omega)
    have eg : l[i]'(by omega) = gt izP l i := by unfold gt; rw [List.getD_eq_getElem?_getD, List.getElem?_eq_getElem (by omega)]; rfl
    rw [eg] at es
    obtain ⟨h1, h2⟩ := add_step i (stN l i) (gt izP l i) (by omega) hf hm
    rw [← es] at h1 h2
    refine Ev.step (fun k => by rw [spec_l3Normal.l0]) ?_
    refine ev_pos (by omega) (ev_pos (by omega) (ev_pos (by omega) ?_))
    rw [wrap_succ i (by omega)]
    simp only [rd_ip]
    exact Ev.bind h1 (ih (i + 1) (by omega) h2)
theorem spec_l3Normal_f (l : List IP) (hl : l.length ≤ 60) (hp : ∀ p ∈ l, One p) : Ev (fun k => spec_l3Normal.f k l) (normI l) := by
  unfold spec_l3Normal.f
  have e : allP (stN l 0) = [] := by
    have e0 : stN l 0 = ([], (⟨#[]⟩ : ByteArray), (⟨#[]⟩ : ByteArray)) := rfl
    rw [e0]; unfold allP; rw [endL_00 sz0 sz0]; rfl
  have := normal_l l hl hp l.length 0 (by omega) fit_zero
  rw [e] at this
  exact this

theorem ofP_put (u : ByteArray) : (ofP (0, u, ⟨#[]⟩)) = (⟨0, u, ⟨#[]⟩⟩ : IP) := rfl
/-- A byte that is kept, between two places. -/
theorem kept_l (B : List Int) (hB : B.length ≤ 100000) (at_ e : Nat) (hat : at_ ≤ B.length) (b : Nat) (hz : ∀ i, b ≤ i → i < e → gt 0 B i ≠ 0) (he : e < at_ → gt 0 B e = 0) (d : Nat) : ∀ i : Nat, at_ - i ≤ d → b ≤ i → i ≤ e ∨ at_ ≤ e → i ≤ at_ →
    Ev (fun k => spec_l5Kept.l0 k (at_ : Int) B (i : Int)) (decide (e < at_)) := by
  induction d with
  | zero =>
    intro i hd hb hie hia
    refine Ev.step (fun k => by rw [spec_l5Kept.l0]) ?_
    exact ev_neg (by omega) (ev_ret (by rw [decide_eq_false (by omega)]))
  | succ d ih =>
    intro i hd hb hie hia
    by_cases hi : i < at_
    · refine Ev.step (fun k => by rw [spec_l5Kept.l0]) ?_
      refine ev_pos (by omega) (ev_pos (by omega) (ev_pos (by omega) (ev_if (fun h => ev_ret ?_) (fun h => ?_))))
      · have h' : gt 0 B i = 0 := h
        have : ¬ i < e := fun c => hz i hb c h'
        rw [decide_eq_true (by omega)]
      · rw [wrap_succ i (by omega)]
        have h' : gt 0 B i ≠ 0 := h
        refine ih (i + 1) (by omega) (by omega) ?_ (by omega)
        by_cases c : i = e
        · subst c; exact absurd (he hi) h'
        · omega
    · refine Ev.step (fun k => by rw [spec_l5Kept.l0]) ?_
      exact ev_neg (by omega) (ev_ret (by rw [decide_eq_false (by omega)]))
theorem kept_f (l : List IP) (hl : l.length ≤ 60) (hp : ∀ p ∈ l, partB p = true) (b e at_ : Nat) (hbe : b ≤ e) (hba : b ≤ at_) (hat : at_ ≤ (dropL l).length) (hz : ∀ i, b ≤ i → i < e → gt 0 (dropL l) i ≠ 0) (he : e < at_ → gt 0 (dropL l) e = 0) :
    Ev (fun k => spec_l5Kept.f k l (b : Int) (at_ : Int)) (decide (e < at_)) := by
  have hB := dropL_len l hp
  unfold spec_l5Kept.f
  exact Ev.bind (spec_l4Bytes_f l hl hp) (kept_l (dropL l) (by omega) at_ e hat b hz he (at_ - b) b (Nat.le_refl _) (Nat.le_refl _) (.inl hbe) hba)
theorem gap_end (l X : List IP) (at_ lo hi inn : Int) (n : Nat) (h : X.length ≤ n) (hn : n ≤ 1000000) : Ev (fun k => spec_l5Gap.l0 k l at_ lo hi inn X (X.length : Int) (n : Int)) (lo, hi) := by
  refine Ev.step (fun k => by rw [spec_l5Gap.l0]) ?_
  exact ev_neg (by omega) (ev_ret rfl)
theorem gap_break (l pre suf : List IP) (p : IP) (at_ lo hi inn : Int) (hb : inn > at_ ∨ (inn = at_ ∧ p.f0 > 0)) :
    Ev (fun k => spec_l5Gap.l0 k l at_ lo hi inn (pre ++ p :: suf) ((pre ++ p :: suf).length : Int) (pre.length : Int)) (lo, hi) := by
  have hl : (pre ++ p :: suf).length = pre.length + (suf.length + 1) := by rw [List.length_append, List.length_cons]
  refine Ev.step (fun k => by rw [spec_l5Gap.l0]) ?_
  simp only [rd_ip, at_idx]
  refine ev_pos (by omega) (ev_pos (by omega) (ev_pos (by omega) (ev_if (fun h => ?_) (fun h => ev_pos (by omega) ?_))))
  · refine Ev.step (fun k => by rw [spec_l5Gap.j1]) ?_
    exact ev_pos rfl (ev_ret rfl)
  · rw [decide_eq_true (by omega)]
    refine Ev.step (fun k => by rw [spec_l5Gap.j1]) ?_
    exact ev_pos rfl (ev_ret rfl)
theorem gap_go (l pre suf : List IP) (p : IP) (at_ lo hi inn : Int) (hb : ¬ (inn > at_ ∨ (inn = at_ ∧ p.f0 > 0))) {r : Int × Int}
    (h : Ev (fun k => spec_l5Gap.j1 k l at_ lo hi inn (wrap64 (p.f0 + (p.f2.size : Int))) (pre ++ p :: suf) ((pre ++ p :: suf).length : Int) (pre.length : Int) false p.f0 p.f1 p.f2) r) :
    Ev (fun k => spec_l5Gap.l0 k l at_ lo hi inn (pre ++ p :: suf) ((pre ++ p :: suf).length : Int) (pre.length : Int)) r := by
  have hl : (pre ++ p :: suf).length = pre.length + (suf.length + 1) := by rw [List.length_append, List.length_cons]
  refine Ev.step (fun k => by rw [spec_l5Gap.l0]) ?_
  simp only [rd_ip, at_idx]
  refine ev_pos (by omega) (ev_pos (by omega) (ev_pos (by omega) (ev_neg (fun c => hb (.inl c)) (ev_if (fun c => ?_) (fun c => h)))))
  rw [decide_eq_false (fun q => hb (.inr ⟨c, q⟩))]; exact h
theorem app_one (pre suf : List IP) (p : IP) : pre ++ p :: suf = (pre ++ [p]) ++ suf := by rw [List.append_assoc]; rfl
theorem len_one (pre : List IP) (p : IP) (h : pre.length ≤ 1000000) : wrap64 ((pre.length : Int) + 1) = ((pre ++ [p]).length : Int) := by
  rw [wrap_succ _ (by omega), List.length_append, List.length_singleton]
theorem gap_put (l pre suf : List IP) (u : ByteArray) (hu : u.size ≠ 0) (at_ lo hi inn : Int) (hin : inn ≤ at_) (hpl : pre.length ≤ 1000000) (hh : 0 ≤ hi ∧ hi + u.size ≤ 1000000000) (kb : Bool) (hk : inn < at_ → Ev (fun k => spec_l5Kept.f k l inn at_) kb) {r : Int × Int}
    (h : Ev (fun k => spec_l5Gap.l0 k l at_ (if inn < at_ ∧ kb = true then hi + u.size else lo) (hi + u.size) inn ((pre ++ [(⟨0, u, ⟨#[]⟩⟩ : IP)]) ++ suf) (((pre ++ [(⟨0, u, ⟨#[]⟩⟩ : IP)]) ++ suf).length : Int) ((pre ++ [(⟨0, u, ⟨#[]⟩⟩ : IP)]).length : Int)) r) :
    Ev (fun k => spec_l5Gap.l0 k l at_ lo hi inn (pre ++ (⟨0, u, ⟨#[]⟩⟩ : IP) :: suf) ((pre ++ (⟨0, u, ⟨#[]⟩⟩ : IP) :: suf).length : Int) (pre.length : Int)) r := by
  refine gap_go l pre suf ⟨0, u, ⟨#[]⟩⟩ at_ lo hi inn (by rintro (c | ⟨c, d⟩); omega; exact absurd d (by simp)) ?_
  rw [← app_one, ← len_one pre _ hpl] at h
  refine Ev.step (fun k => by rw [spec_l5Gap.j1]) ?_
  simp only
  rw [wrap_id (x := hi + (u.size : Int)) (by omega) (by omega)]
  refine ev_neg (by simp) (ev_neg (fun c => hu ((toList_nil _).1 c)) (ev_if (fun c => ?_) (fun c => ?_)))
  · refine Ev.bind (hk c) ?_
    cases kb with
    | true => rw [if_pos ⟨c, rfl⟩] at h; exact ev_pos rfl h
    | false => rw [if_neg (by simp)] at h; exact ev_neg (by simp) h
  · rw [if_neg (fun q => c q.1)] at h; exact h
theorem gap_drop (l pre suf : List IP) (v : ByteArray) (at_ lo hi inn : Int) (hin : inn ≤ at_) (hpl : pre.length ≤ 1000000) (hh : 0 ≤ inn ∧ inn + v.size ≤ 1000000000) {r : Int × Int}
    (h : Ev (fun k => spec_l5Gap.l0 k l at_ lo hi (inn + v.size) ((pre ++ [(⟨0, ⟨#[]⟩, v⟩ : IP)]) ++ suf) (((pre ++ [(⟨0, ⟨#[]⟩, v⟩ : IP)]) ++ suf).length : Int) ((pre ++ [(⟨0, ⟨#[]⟩, v⟩ : IP)]).length : Int)) r) :
    Ev (fun k => spec_l5Gap.l0 k l at_ lo hi inn (pre ++ (⟨0, ⟨#[]⟩, v⟩ : IP) :: suf) ((pre ++ (⟨0, ⟨#[]⟩, v⟩ : IP) :: suf).length : Int) (pre.length : Int)) r := by
  refine gap_go l pre suf ⟨0, ⟨#[]⟩, v⟩ at_ lo hi inn (by rintro (c | ⟨c, d⟩); omega; exact absurd d (by simp)) ?_
  rw [← app_one, ← len_one pre _ hpl] at h
  refine Ev.step (fun k => by rw [spec_l5Gap.j1]) ?_
  simp only
  rw [show wrap64 (inn + wrap64 (0 + (v.size : Int))) = inn + v.size by rw [wrap_id (x := 0 + (v.size : Int)) (by omega) (by omega), wrap_id (by omega) (by omega)]; omega]
  exact ev_neg (by simp) (ev_pos nil_nil (ev_neg (by simp) h))
theorem gap_keep (l pre suf : List IP) (x : Int) (hx : 0 < x) (at_ lo hi inn : Int) (hin : inn < at_) (hpl : pre.length ≤ 1000000) (hh : 0 ≤ inn ∧ inn + x ≤ 1000000000) (hh2 : 0 ≤ hi ∧ hi ≤ 1000000000) (hat : at_ ≤ 1000000000) {r : Int × Int}
    (h : Ev (fun k => spec_l5Gap.l0 k l at_ (hi + (if inn + x > at_ then at_ - inn else x)) (hi + (if inn + x > at_ then at_ - inn else x)) (inn + x) ((pre ++ [(⟨x, ⟨#[]⟩, ⟨#[]⟩⟩ : IP)]) ++ suf) (((pre ++ [(⟨x, ⟨#[]⟩, ⟨#[]⟩⟩ : IP)]) ++ suf).length : Int) ((pre ++ [(⟨x, ⟨#[]⟩, ⟨#[]⟩⟩ : IP)]).length : Int)) r) :
    Ev (fun k => spec_l5Gap.l0 k l at_ lo hi inn (pre ++ (⟨x, ⟨#[]⟩, ⟨#[]⟩⟩ : IP) :: suf) ((pre ++ (⟨x, ⟨#[]⟩, ⟨#[]⟩⟩ : IP) :: suf).length : Int) (pre.length : Int)) r := by
  refine gap_go l pre suf ⟨x, ⟨#[]⟩, ⟨#[]⟩⟩ at_ lo hi inn (by rintro (c | ⟨c, d⟩) <;> omega) ?_
  rw [← app_one, ← len_one pre _ hpl] at h
  refine Ev.step (fun k => by rw [spec_l5Gap.j1]) ?_
  simp only [sz0]
  have e1 : wrap64 (x + ((0 : Nat) : Int)) = x := by rw [wrap_id (by omega) (by omega)]; omega
  have e2 : wrap64 (inn + x) = inn + x := wrap_id (by omega) (by omega)
  have e3 : wrap64 (at_ - inn) = at_ - inn := wrap_id (by omega) (by omega)
  rw [e1, e2, e3]
  refine ev_neg (by simp) (ev_pos nil_nil (ev_pos hx (ev_if (fun c => ?_) (fun c => ?_))))
  · rw [if_pos c] at h; rw [wrap_id (x := hi + (at_ - inn)) (by omega) (by omega)]; exact h
  · rw [if_neg c] at h; rw [wrap_id (x := hi + x) (by omega) (by omega)]; exact h
theorem mv_end (X : List IP) (at_ out fr : Int) (af : Bool) (n : Nat) (h : X.length ≤ n) (hn : n ≤ 1000000) : Ev (fun k => impl_movePlace.l0 k X at_ af out fr (n : Int)) out := by
  refine Ev.step (fun k => by rw [impl_movePlace.l0]) ?_
  exact ev_neg (by omega) (ev_ret rfl)
theorem mv_stop (pre suf : List IP) (x : Int) (hx : 0 < x) (at_ out fr : Int) (af : Bool) (h : at_ ≤ fr) : Ev (fun k => impl_movePlace.l0 k (pre ++ (⟨x, ⟨#[]⟩, ⟨#[]⟩⟩ : IP) :: suf) at_ af out fr (pre.length : Int)) out := by
  have hl : (pre ++ (⟨x, ⟨#[]⟩, ⟨#[]⟩⟩ : IP) :: suf).length = pre.length + (suf.length + 1) := by rw [List.length_append, List.length_cons]
  refine Ev.step (fun k => by rw [impl_movePlace.l0]) ?_
  simp only [rd_ip, at_idx]
  exact ev_pos (by omega) (ev_pos (by omega) (ev_pos hx (ev_pos h (ev_ret rfl))))
theorem mv_keep (pre suf : List IP) (x : Int) (hx : 0 < x) (at_ out fr : Int) (af : Bool) (h : fr < at_) (hpl : pre.length ≤ 1000000) (hh : 0 ≤ fr ∧ fr + x ≤ 1000000000) (hh2 : 0 ≤ out ∧ out ≤ 1000000000) (hat : at_ ≤ 1000000000) {r : Int}
    (hr : Ev (fun k => impl_movePlace.l0 k ((pre ++ [(⟨x, ⟨#[]⟩, ⟨#[]⟩⟩ : IP)]) ++ suf) at_ af (out + (if fr + x > at_ then at_ - fr else x)) (fr + x) ((pre ++ [(⟨x, ⟨#[]⟩, ⟨#[]⟩⟩ : IP)]).length : Int)) r) :
    Ev (fun k => impl_movePlace.l0 k (pre ++ (⟨x, ⟨#[]⟩, ⟨#[]⟩⟩ : IP) :: suf) at_ af out fr (pre.length : Int)) r := by
  have hl : (pre ++ (⟨x, ⟨#[]⟩, ⟨#[]⟩⟩ : IP) :: suf).length = pre.length + (suf.length + 1) := by rw [List.length_append, List.length_cons]
  rw [← app_one, ← len_one pre _ hpl] at hr
  refine Ev.step (fun k => by rw [impl_movePlace.l0]) ?_
  simp only [rd_ip, at_idx]
  have e2 : wrap64 (fr + x) = fr + x := wrap_id (by omega) (by omega)
  have e3 : wrap64 (at_ - fr) = at_ - fr := wrap_id (by omega) (by omega)
  have e4 : wrap64 (out + mn x (at_ - fr)) = out + (if fr + x > at_ then at_ - fr else x) := by
    unfold mn
    split <;> split <;> rw [wrap_id (by omega) (by omega)] <;> omega
  rw [e2, e3, e4]
  exact ev_pos (by omega) (ev_pos (by omega) (ev_pos hx (ev_neg (by omega) hr)))
/-- What is put and dropped at one place, by the program. -/
theorem mv_group (pre suf : List IP) (u v : ByteArray) (at_ out fr : Int) (af : Bool) (hs : suf = [] ∨ ∃ x t, suf = (⟨x, ⟨#[]⟩, ⟨#[]⟩⟩ : IP) :: t) (hpl : pre.length ≤ 100000) (hh : 0 ≤ fr ∧ fr + v.size ≤ 1000000000) (hh2 : 0 ≤ out ∧ out + u.size ≤ 1000000000) {r : Int}
    (hr : Ev (fun k => impl_movePlace.l0 k ((pre ++ (endL u v).map ofP) ++ suf) at_ af (if at_ > fr + v.size ∨ (at_ ≥ fr ∧ af = true) then out + u.size else out) (fr + v.size) ((pre ++ (endL u v).map ofP).length : Int)) r) :
    Ev (fun k => impl_movePlace.l0 k ((pre ++ (endL u v).map ofP) ++ suf) at_ af out fr (pre.length : Int)) r := by
  have e2 : wrap64 (fr + (v.size : Int)) = fr + v.size := wrap_id (by omega) (by omega)
  have e3 : wrap64 (out + (u.size : Int)) = out + u.size := wrap_id (by omega) (by omega)
  have ew := wrap_succ pre.length (by omega)
  have ew2 := wrap_succ (pre.length + 1) (by omega)
  by_cases hu : u.size = 0
  · by_cases hv : v.size = 0
    · rw [endL_00 hu hv] at hr ⊢
      simp only [List.map_nil, List.append_nil] at hr ⊢
      rw [hu, hv] at hr
      have : (if at_ > fr + ((0 : Nat) : Int) ∨ (at_ ≥ fr ∧ af = true) then out + ((0 : Nat) : Int) else out) = out := by split <;> omega
      rw [this, show fr + ((0 : Nat) : Int) = fr by omega] at hr
      exact hr
    · rw [endL_01 hu hv] at hr ⊢
      have em : (pre ++ List.map ofP [(0, (⟨#[]⟩ : ByteArray), v)]) ++ suf = pre ++ (⟨0, ⟨#[]⟩, v⟩ : IP) :: suf := by rw [List.append_assoc]; rfl
      have el : ((pre ++ List.map ofP [(0, (⟨#[]⟩ : ByteArray), v)]).length : Int) = ((pre.length + 1 : Nat) : Int) := by rw [List.length_append]; rfl
      rw [em, el] at hr
      rw [em]
      have hl : (pre ++ (⟨0, ⟨#[]⟩, v⟩ : IP) :: suf).length = pre.length + (suf.length + 1) := by rw [List.length_append, List.length_cons]
      have key : Ev (fun k => impl_movePlace.j1 k (pre ++ (⟨0, ⟨#[]⟩, v⟩ : IP) :: suf) at_ af out fr (pre.length : Int) ((⟨#[]⟩ : ByteArray).size : Int) (fr + v.size) false) r := by
        refine Ev.step (fun k => by rw [impl_movePlace.j1]) ?_
        rw [ew, show (((⟨#[]⟩ : ByteArray).size : Nat) : Int) = (u.size : Int) by rw [hu]; rfl, e3]
        refine ev_neg (by simp) (ev_if (fun c => ?_) (fun c => ev_if (fun c2 => ev_if (fun c3 => ?_) (fun c3 => ?_)) (fun c2 => ?_)))
        · rw [if_pos (.inl c)] at hr; exact hr
        · rw [if_pos (.inr ⟨c2, c3⟩)] at hr; exact hr
        · rw [if_neg (by rintro (q | q); exact c q; exact c3 q.2)] at hr; exact hr
        · rw [if_neg (by rintro (q | q); exact c q; exact c2 q.1)] at hr; exact hr
      refine Ev.step (fun k => by rw [impl_movePlace.l0]) ?_
      rw [ew]
      simp only [rd_ip, at_idx]
      rw [e2]
      exact ev_pos (by omega) (ev_pos (by omega) (ev_neg (by simp) (ev_if (fun c => ev_pos nil_nil key) (fun c => key))))
  · by_cases hv : v.size = 0
    · rw [endL_10 hu hv] at hr ⊢
      have em : (pre ++ List.map ofP [(0, u, (⟨#[]⟩ : ByteArray))]) ++ suf = pre ++ (⟨0, u, ⟨#[]⟩⟩ : IP) :: suf := by rw [List.append_assoc]; rfl
      have el : ((pre ++ List.map ofP [(0, u, (⟨#[]⟩ : ByteArray))]).length : Int) = ((pre.length + 1 : Nat) : Int) := by rw [List.length_append]; rfl
      rw [em, el] at hr
      rw [em]
      have hl : (pre ++ (⟨0, u, ⟨#[]⟩⟩ : IP) :: suf).length = pre.length + (suf.length + 1) := by rw [List.length_append, List.length_cons]
      have e5 : wrap64 (fr + (((⟨#[]⟩ : ByteArray).size : Nat) : Int)) = fr + v.size := by rw [hv, sz0, wrap_id (by omega) (by omega)]
      have key : Ev (fun k => impl_movePlace.j1 k (pre ++ (⟨0, u, ⟨#[]⟩⟩ : IP) :: suf) at_ af out fr (pre.length : Int) (u.size : Int) (fr + v.size) false) r := by
        refine Ev.step (fun k => by rw [impl_movePlace.j1]) ?_
        rw [ew, e3]
        refine ev_neg (by simp) (ev_if (fun c => ?_) (fun c => ev_if (fun c2 => ev_if (fun c3 => ?_) (fun c3 => ?_)) (fun c2 => ?_)))
        · rw [if_pos (.inl c)] at hr; exact hr
        · rw [if_pos (.inr ⟨c2, c3⟩)] at hr; exact hr
        · rw [if_neg (by rintro (q | q); exact c q; exact c3 q.2)] at hr; exact hr
        · rw [if_neg (by rintro (q | q); exact c q; exact c2 q.1)] at hr; exact hr
      refine Ev.step (fun k => by rw [impl_movePlace.l0]) ?_
      rw [ew]
      simp only [rd_ip, at_idx]
      rw [e5]
      refine ev_pos (by omega) (ev_pos (by omega) (ev_neg (by simp) (ev_if (fun c => ev_neg (fun q => hu ((toList_nil _).1 q)) (ev_pos (by omega) ?_)) (fun c => key))))
      rcases hs with hs | ⟨x, t, hs⟩
      · exfalso; rw [hs] at c; simp at c
      · have eg : gt izP (pre ++ (⟨0, u, ⟨#[]⟩⟩ : IP) :: suf) (pre.length + 1) = ⟨x, ⟨#[]⟩, ⟨#[]⟩⟩ := by
          have := at_idx (pre ++ [(⟨0, u, ⟨#[]⟩⟩ : IP)]) t ⟨x, ⟨#[]⟩, ⟨#[]⟩⟩
          rw [List.length_append, List.length_singleton, ← app_one, ← hs] at this
          exact this
        rw [eg]
        have en : ((⟨#[]⟩ : ByteArray).toList != ([] : List UInt8)) = false := by rw [bne_eq_false_iff_eq]; exact nil_nil
        simp only [en]
        exact key
    · rw [endL_11 hu hv] at hr ⊢
      have em : (pre ++ List.map ofP [(0, u, (⟨#[]⟩ : ByteArray)), (0, ⟨#[]⟩, v)]) ++ suf = pre ++ (⟨0, u, ⟨#[]⟩⟩ : IP) :: (⟨0, ⟨#[]⟩, v⟩ : IP) :: suf := by rw [List.append_assoc]; rfl
      have el : ((pre ++ List.map ofP [(0, u, (⟨#[]⟩ : ByteArray)), (0, ⟨#[]⟩, v)]).length : Int) = ((pre.length + 1 + 1 : Nat) : Int) := by rw [List.length_append]; rfl
      rw [em, el] at hr
      rw [em]
      have hl : (pre ++ (⟨0, u, ⟨#[]⟩⟩ : IP) :: (⟨0, ⟨#[]⟩, v⟩ : IP) :: suf).length = pre.length + (suf.length + 1 + 1) := by rw [List.length_append, List.length_cons, List.length_cons]
      have eg : gt izP (pre ++ (⟨0, u, ⟨#[]⟩⟩ : IP) :: (⟨0, ⟨#[]⟩, v⟩ : IP) :: suf) (pre.length + 1) = ⟨0, ⟨#[]⟩, v⟩ := by
        have := at_idx (pre ++ [(⟨0, u, ⟨#[]⟩⟩ : IP)]) suf ⟨0, ⟨#[]⟩, v⟩
        rw [List.length_append, List.length_singleton, ← app_one] at this
        exact this
      refine Ev.step (fun k => by rw [impl_movePlace.l0]) ?_
      rw [ew]
      simp only [rd_ip, at_idx, eg]
      refine ev_pos (by omega) (ev_pos (by omega) (ev_neg (by simp) (ev_pos (by omega) (ev_neg (fun q => hu ((toList_nil _).1 q)) (ev_pos (by omega) ?_)))))
      rw [show (v.toList != ([] : List UInt8)) = true by rw [bne_iff_ne]; exact fun q => hv ((toList_nil _).1 q)]
      refine Ev.step (fun k => by rw [impl_movePlace.j1]) ?_
      rw [ew, ew2]
      simp only [rd_ip, eg]
      rw [e2, e3]
      refine ev_pos (by trivial) (ev_pos (by omega) (ev_pos (by omega) (ev_if (fun c => ?_) (fun c => ev_if (fun c2 => ev_if (fun c3 => ?_) (fun c3 => ?_)) (fun c2 => ?_)))))
      · rw [if_pos (.inl c)] at hr; exact hr
      · rw [if_pos (.inr ⟨c2, c3⟩)] at hr; exact hr
      · rw [if_neg (by rintro (q | q); exact c q; exact c3 q.2)] at hr; exact hr
      · rw [if_neg (by rintro (q | q); exact c q; exact c2 q.1)] at hr; exact hr
/-- The same, by the reference. -/
theorem gap_group (l pre suf : List IP) (u v : ByteArray) (at_ h inn : Int) (hin : inn ≤ at_) (hpl : pre.length ≤ 100000) (hh : 0 ≤ inn ∧ inn + v.size ≤ 1000000000) (hh2 : 0 ≤ h ∧ h + u.size ≤ 1000000000) (hk : inn < at_ → Ev (fun k => spec_l5Kept.f k l inn at_) (decide (inn + v.size < at_))) {r : Int × Int}
    (hr : Ev (fun k => spec_l5Gap.l0 k l at_ (if inn + v.size < at_ then h + u.size else h) (h + u.size) (inn + v.size) ((pre ++ (endL u v).map ofP) ++ suf) (((pre ++ (endL u v).map ofP) ++ suf).length : Int) ((pre ++ (endL u v).map ofP).length : Int)) r) :
    Ev (fun k => spec_l5Gap.l0 k l at_ h h inn ((pre ++ (endL u v).map ofP) ++ suf) (((pre ++ (endL u v).map ofP) ++ suf).length : Int) (pre.length : Int)) r := by
  have elo : (if inn < at_ ∧ decide (inn + (v.size : Int) < at_) = true then h + (u.size : Int) else h) = (if inn + (v.size : Int) < at_ then h + (u.size : Int) else h) := by
    by_cases c : inn + (v.size : Int) < at_
    · rw [if_pos c, if_pos ⟨by omega, decide_eq_true c⟩]
    · rw [if_neg c, if_neg (fun q => c (of_decide_eq_true q.2))]
  by_cases hu : u.size = 0
  · have e0 : (if inn + (v.size : Int) < at_ then h + (u.size : Int) else h) = h := by rw [hu]; split <;> omega
    rw [e0, hu, show h + ((0 : Nat) : Int) = h by omega] at hr
    by_cases hv : v.size = 0
    · rw [endL_00 hu hv] at hr ⊢
      simp only [List.map_nil, List.append_nil] at hr ⊢
      rw [hv, show inn + ((0 : Nat) : Int) = inn by omega] at hr
      exact hr
    · rw [endL_01 hu hv] at hr ⊢
      rw [List.append_assoc]
      exact gap_drop l pre suf v at_ h h inn hin (by omega) hh hr
  · by_cases hv : v.size = 0
    · rw [endL_10 hu hv] at hr ⊢
      rw [List.append_assoc]
      refine gap_put l pre suf u hu at_ h h inn hin (by omega) hh2 _ hk ?_
      rw [elo]
      rw [hv, show inn + ((0 : Nat) : Int) = inn by omega] at hr ⊢
      exact hr
    · rw [endL_11 hu hv] at hr ⊢
      rw [List.append_assoc]
      refine gap_put l pre ((⟨0, ⟨#[]⟩, v⟩ : IP) :: suf) u hu at_ h h inn hin (by omega) hh2 _ hk ?_
      rw [elo]
      refine gap_drop l (pre ++ [(⟨0, u, ⟨#[]⟩⟩ : IP)]) suf v at_ _ _ inn hin (by rw [List.length_append, List.length_singleton]; omega) hh ?_
      have em : (pre ++ [(⟨0, u, ⟨#[]⟩⟩ : IP)]) ++ [(⟨0, ⟨#[]⟩, v⟩ : IP)] = pre ++ List.map ofP [(0, u, (⟨#[]⟩ : ByteArray)), (0, ⟨#[]⟩, v)] := by rw [List.append_assoc]; rfl
      rw [em]
      exact hr
theorem endL_map_len (u v : ByteArray) : ((endL u v).map ofP).length ≤ 2 := by rw [List.length_map]; exact endL_len u v
theorem seg_suf (g : List Seg) (a b : ByteArray) (s : Seg) : (flatS (s :: g) ++ endL a b).map ofP = (endL s.1 s.2.1).map ofP ++ ((⟨s.2.2, ⟨#[]⟩, ⟨#[]⟩⟩ : IP) :: (flatS g ++ endL a b).map ofP) := by
  rw [flatS_cons, List.append_assoc, List.map_append, List.cons_append, List.map_cons]; rfl
/-- Behind the place nothing counts. -/
theorem far (l : List IP) (a b : ByteArray) (ha : a.size ≤ 20000) (hb : b.size ≤ 20000) (at_ : Int) (af : Bool) : ∀ (g : List Seg), (∀ x ∈ g, SegOk 60 x) → ∀ (pre : List IP) (h inn : Int), pre.length + 3 * g.length ≤ 10000 → 0 ≤ inn → inn ≤ 1000000 → 0 ≤ h → h ≤ 900000000 → at_ < inn →
    Ev (fun k => impl_movePlace.l0 k (pre ++ (flatS g ++ endL a b).map ofP) at_ af h inn (pre.length : Int)) h
  | [], hg, pre, h, inn, hl, h0, h1, h2, h3, h4 => by
    have em : pre ++ (flatS [] ++ endL a b).map ofP = (pre ++ (endL a b).map ofP) ++ [] := by rw [List.append_nil]; rfl
    rw [em]
    refine mv_group pre [] a b at_ h inn af (.inl rfl) (by omega) ⟨h0, by omega⟩ ⟨h2, by omega⟩ ?_
    rw [if_neg (by rintro (q | q) <;> omega)]
    have := endL_map_len a b
    exact mv_end _ at_ h _ af _ (by rw [List.append_nil]; exact Nat.le_refl _) (by rw [List.length_append]; simp at hl; omega)
  | s :: g, hg, pre, h, inn, hl, h0, h1, h2, h3, h4 => by
    obtain ⟨o1, o2, o3, o4, o5⟩ := hg s (List.mem_cons_self ..)
    rw [seg_suf, ← List.append_assoc]
    refine mv_group pre _ s.1 s.2.1 at_ h inn af (.inr ⟨_, _, rfl⟩) (by omega) ⟨h0, by omega⟩ ⟨h2, by omega⟩ ?_
    rw [if_neg (by rintro (q | q) <;> omega)]
    exact mv_stop _ _ s.2.2 o4 at_ h _ af (by omega)
theorem gap_far (l X : List IP) (at_ h inn : Int) (n : Nat) (hn : n ≤ X.length) (hx : X.length ≤ 1000000) (h4 : at_ < inn) : Ev (fun k => spec_l5Gap.l0 k l at_ h h inn X (X.length : Int) (n : Int)) (h, h) := by
  by_cases c : n = X.length
  · exact gap_end l X at_ h h inn n (by omega) (by omega)
  · have e : X = X.take n ++ gt izP X n :: X.drop (n + 1) := by rw [← gt_drop izP X n (by omega), List.take_append_drop]
    have el : (X.take n).length = n := by rw [List.length_take]; omega
    have := gap_break l (X.take n) (X.drop (n + 1)) (gt izP X n) at_ h h inn (.inl h4)
    rw [← e, el] at this
    exact this
theorem move_all (l : List IP) (hl : l.length ≤ 60) (hp : ∀ p ∈ l, partB p = true) (a b : ByteArray) (ha : a.size ≤ 20000) (hb : b.size ≤ 20000) (nb : NZ b) (at_ : Nat) (hat : at_ ≤ (dropL l).length) : ∀ (g : List Seg), (∀ x ∈ g, SegOk 60 x) → ∀ (pre : List IP) (h : Int) (inn : Nat), pre.length + 3 * g.length ≤ 1000 → inn ≤ at_ → 0 ≤ h → h ≤ 20000 * (pre.length : Int) + inn → (dropL l).drop inn = byteS g ++ bytesOf b →
    ∃ lo hi : Int, Ev (fun k => spec_l5Gap.l0 k l (at_ : Int) h h (inn : Int) (pre ++ (flatS g ++ endL a b).map ofP) ((pre ++ (flatS g ++ endL a b).map ofP).length : Int) (pre.length : Int)) (lo, hi) ∧
      ∀ af : Bool, Ev (fun k => impl_movePlace.l0 k (pre ++ (flatS g ++ endL a b).map ofP) (at_ : Int) af h (inn : Int) (pre.length : Int)) (if af = true then hi else lo)
  | [], hg, pre, h, inn, hlen, hin, h0, h1, hB => by
    have hBl := dropL_len l hp
    have em : pre ++ (flatS [] ++ endL a b).map ofP = (pre ++ (endL a b).map ofP) ++ [] := by rw [List.append_nil]; rfl
    have hpl : pre.length ≤ 1000 := by simp at hlen; omega
    have e2 := endL_map_len a b
    have hsz : (dropL l).length = inn + b.size := by
      have := congrArg List.length hB
      rw [List.length_drop] at this
      simp only [byteS, List.flatMap_nil, List.nil_append, bytesOf_length] at this
      omega
    have hz : ∀ i, inn ≤ i → i < inn + b.size → gt 0 (dropL l) i ≠ 0 := fun i i1 i2 => by
      have : gt 0 (dropL l) i ∈ bytesOf b := by
        have e : gt 0 (dropL l) i = gt 0 ((dropL l).drop inn) (i - inn) := by unfold gt; rw [List.getD_eq_getElem?_getD, List.getD_eq_getElem?_getD, List.getElem?_drop]; congr 2; omega
        rw [e, hB]
        exact gt_mem 0 _ _ (by rw [bytesOf_length]; omega)
      exact nb _ this
    rw [em]
    refine ⟨h, h + a.size, ?_, fun af => ?_⟩
    · have := gap_group l pre [] a b (at_ : Int) h (inn : Int) (by omega) (by omega) ⟨by omega, by omega⟩ ⟨h0, by omega⟩ (fun c => by
        have := kept_f l hl hp inn (inn + b.size) at_ (by omega) hin hat hz (fun q => by omega)
        rw [show (decide (inn + b.size < at_)) = decide ((inn : Int) + (b.size : Int) < (at_ : Int)) from decide_eq_decide.2 (by omega)] at this
        exact this) (r := (h, h + a.size)) (by
          rw [if_neg (by omega)]
          exact gap_end l _ _ _ _ _ _ (by rw [List.append_nil]; exact Nat.le_refl _) (by rw [List.length_append]; omega))
      exact this
    · refine mv_group pre [] a b (at_ : Int) h (inn : Int) af (.inl rfl) (by omega) ⟨by omega, by omega⟩ ⟨h0, by omega⟩ ?_
      have : (if (at_ : Int) > (inn : Int) + (b.size : Int) ∨ ((at_ : Int) ≥ (inn : Int) ∧ af = true) then h + (a.size : Int) else h) = (if af = true then h + (a.size : Int) else h) := by
        cases af with
        | true => rw [if_pos (.inr ⟨by omega, rfl⟩), if_pos rfl]
        | false => rw [if_neg (by rintro (q | q); omega; exact absurd q.2 (by simp)), if_neg (by simp)]
      rw [this]
      exact mv_end _ _ _ _ af _ (by rw [List.append_nil]; exact Nat.le_refl _) (by rw [List.length_append]; omega)
  | s :: g, hg, pre, h, inn, hlen, hin, h0, h1, hB => by
    have hBl := dropL_len l hp
    obtain ⟨o1, o2, o3, o4, o5⟩ := hg s (List.mem_cons_self ..)
    obtain ⟨u, v, x⟩ := s
    simp only at o1 o2 o3 o4 o5 hB
    have hpl : pre.length + 3 * g.length + 3 ≤ 1000 := by simp at hlen; omega
    have e2 := endL_map_len u v
    obtain ⟨xn, rfl⟩ := Int.eq_ofNat_of_zero_le (show 0 ≤ x by omega)
    rw [byteS_cons] at hB
    simp only [Int.toNat_natCast] at hB
    rw [List.append_assoc, List.append_assoc] at hB
    have hsz : (dropL l).length ≥ inn + v.size + xn := by
      have := congrArg List.length hB
      rw [List.length_drop] at this
      simp only [List.length_append, List.length_replicate, bytesOf_length] at this
      omega
    have e : ∀ i, inn ≤ i → gt 0 (dropL l) i = gt 0 (bytesOf v ++ (List.replicate xn 0 ++ (byteS g ++ bytesOf b))) (i - inn) := fun i hi => by
      rw [← hB]; unfold gt; rw [List.getD_eq_getElem?_getD, List.getD_eq_getElem?_getD, List.getElem?_drop]; congr 2; omega
    have hz : ∀ i, inn ≤ i → i < inn + v.size → gt 0 (dropL l) i ≠ 0 := fun i i1 i2 => by
      have : gt 0 (dropL l) i ∈ bytesOf v := by
        rw [e i i1, gt_app_lz _ _ _ _ (by rw [bytesOf_length]; omega)]
        exact gt_mem 0 _ _ (by rw [bytesOf_length]; omega)
      exact o3 _ this
    have hk0 : gt 0 (dropL l) (inn + v.size) = 0 := by
      rw [e _ (by omega), show inn + v.size - inn = (bytesOf v).length by rw [bytesOf_length]; omega]
      unfold gt
      rw [List.getD_eq_getElem?_getD, List.getElem?_append_right (Nat.le_refl _), Nat.sub_self, List.getElem?_append_left (by rw [List.length_replicate]; omega), List.getElem?_replicate]
      rw [if_pos (by omega)]; rfl
    have kept : (inn : Int) < (at_ : Int) → Ev (fun k => spec_l5Kept.f k l (inn : Int) (at_ : Int)) (decide ((inn : Int) + (v.size : Int) < (at_ : Int))) := fun c => by
      have := kept_f l hl hp inn (inn + v.size) at_ (by omega) hin hat hz (fun _ => hk0)
      rw [show (decide (inn + v.size < at_)) = decide ((inn : Int) + (v.size : Int) < (at_ : Int)) from decide_eq_decide.2 (by omega)] at this
      exact this
    rw [seg_suf, ← List.append_assoc]
    simp only
    have hpre : (pre ++ (endL u v).map ofP).length ≤ pre.length + 2 := by rw [List.length_append]; omega
    by_cases hc : (inn : Int) + (v.size : Int) < (at_ : Int)
    · -- the keep counts
      have hout : ∀ af : Bool, (if (at_ : Int) > (inn : Int) + (v.size : Int) ∨ ((at_ : Int) ≥ (inn : Int) ∧ af = true) then h + (u.size : Int) else h) = h + u.size := fun af => by rw [if_pos (.inl hc)]
      have hstep : ∀ n : Int, n = (if (inn : Int) + (v.size : Int) + (xn : Int) > (at_ : Int) then (at_ : Int) - ((inn : Int) + (v.size : Int)) else (xn : Int)) → 0 ≤ n ∧ n ≤ xn := fun n hn => by
        rw [hn]; split <;> omega
      generalize hn : (if (inn : Int) + (v.size : Int) + (xn : Int) > (at_ : Int) then (at_ : Int) - ((inn : Int) + (v.size : Int)) else (xn : Int)) = n at hstep
      obtain ⟨n0, n1⟩ := hstep n rfl
      by_cases hf : inn + v.size + xn ≤ at_
      · obtain ⟨lo, hi, r1, r2⟩ := move_all l hl hp a b ha hb nb at_ hat g (fun y hy => hg y (List.mem_cons_of_mem _ hy)) ((pre ++ (endL u v).map ofP) ++ [⟨(xn : Int), ⟨#[]⟩, ⟨#[]⟩⟩]) (h + u.size + n) (inn + v.size + xn)
          (by rw [List.length_append, List.length_singleton]; omega) hf (by omega) (by rw [List.length_append, List.length_singleton, List.length_append]; omega) (by
            rw [show inn + v.size + xn = inn + (v.size + xn) by omega, ← List.drop_drop, hB]
            rw [← List.append_assoc, List.drop_append_of_le_length (by rw [List.length_append, List.length_replicate, bytesOf_length]; exact Nat.le_refl _), List.drop_eq_nil_of_le (by rw [List.length_append, List.length_replicate, bytesOf_length]; exact Nat.le_refl _)]
            rfl)
        refine ⟨lo, hi, ?_, fun af => ?_⟩
        · refine gap_group l pre _ u v (at_ : Int) h (inn : Int) (by omega) (by omega) ⟨by omega, by omega⟩ ⟨h0, by omega⟩ kept ?_
          rw [if_pos hc]
          refine gap_keep l _ _ (xn : Int) (by omega) (at_ : Int) _ _ _ hc (by omega) ⟨by omega, by omega⟩ ⟨by omega, by omega⟩ (by omega) ?_
          rw [hn]
          have e5 : (inn : Int) + (v.size : Int) + (xn : Int) = ((inn + v.size + xn : Nat) : Int) := by omega
          rw [e5]
          exact r1
        · refine mv_group pre _ u v (at_ : Int) h (inn : Int) af (.inr ⟨_, _, rfl⟩) (by omega) ⟨by omega, by omega⟩ ⟨h0, by omega⟩ ?_
          rw [hout af]
          refine mv_keep _ _ (xn : Int) (by omega) (at_ : Int) _ _ af hc (by omega) ⟨by omega, by omega⟩ ⟨by omega, by omega⟩ (by omega) ?_
          rw [hn]
          have e5 : (inn : Int) + (v.size : Int) + (xn : Int) = ((inn + v.size + xn : Nat) : Int) := by omega
          rw [e5]
          exact r2 af
      · refine ⟨h + u.size + n, h + u.size + n, ?_, fun af => ?_⟩
        · refine gap_group l pre _ u v (at_ : Int) h (inn : Int) (by omega) (by omega) ⟨by omega, by omega⟩ ⟨h0, by omega⟩ kept ?_
          rw [if_pos hc]
          refine gap_keep l _ _ (xn : Int) (by omega) (at_ : Int) _ _ _ hc (by omega) ⟨by omega, by omega⟩ ⟨by omega, by omega⟩ (by omega) ?_
          rw [hn]
          have hX := endL_map_len a b
          refine gap_far l _ (at_ : Int) _ _ _ (by simp only [List.length_append]; omega) ?_ (by omega)
          simp only [List.length_append, List.length_map, List.length_singleton]
          have hfl : ∀ g : List Seg, (flatS g).length ≤ 3 * g.length := fun g => by
            induction g with
            | nil => exact Nat.le_refl _
            | cons y t iht => rw [flatS_cons, List.length_append, List.length_cons, List.length_cons]; have := endL_len y.1 y.2.1; omega
          have := hfl g
          have := endL_len a b
          have := endL_len u v
          omega
        · refine mv_group pre _ u v (at_ : Int) h (inn : Int) af (.inr ⟨_, _, rfl⟩) (by omega) ⟨by omega, by omega⟩ ⟨h0, by omega⟩ ?_
          rw [hout af]
          refine mv_keep _ _ (xn : Int) (by omega) (at_ : Int) _ _ af hc (by omega) ⟨by omega, by omega⟩ ⟨by omega, by omega⟩ (by omega) ?_
          rw [hn]
          have : (if af = true then h + (u.size : Int) + n else h + (u.size : Int) + n) = h + (u.size : Int) + n := by split <;> rfl
          rw [this]
          exact far l a b ha hb (at_ : Int) af g (fun y hy => hg y (List.mem_cons_of_mem _ hy)) _ _ _ (by rw [List.length_append, List.length_singleton]; omega) (by omega) (by omega) (by omega) (by omega) (by omega)
    · -- the place lies within what is dropped, or right at its end
      refine ⟨h, h + u.size, ?_, fun af => ?_⟩
      · refine gap_group l pre _ u v (at_ : Int) h (inn : Int) (by omega) (by omega) ⟨by omega, by omega⟩ ⟨h0, by omega⟩ kept ?_
        rw [if_neg hc]
        exact gap_break l _ _ ⟨(xn : Int), ⟨#[]⟩, ⟨#[]⟩⟩ (at_ : Int) h (h + u.size) _ (by
          by_cases q : (inn : Int) + (v.size : Int) > (at_ : Int)
          · exact .inl q
          · exact .inr ⟨by omega, by show (xn : Int) > 0; omega⟩)
      · refine mv_group pre _ u v (at_ : Int) h (inn : Int) af (.inr ⟨_, _, rfl⟩) (by omega) ⟨by omega, by omega⟩ ⟨h0, by omega⟩ ?_
        have : (if (at_ : Int) > (inn : Int) + (v.size : Int) ∨ ((at_ : Int) ≥ (inn : Int) ∧ af = true) then h + (u.size : Int) else h) = (if af = true then h + (u.size : Int) else h) := by
          cases af with
          | true => rw [if_pos (.inr ⟨by omega, rfl⟩), if_pos rfl]
          | false => rw [if_neg (by rintro (q | q); omega; exact absurd q.2 (by simp)), if_neg (by simp)]
        rw [this]
        exact mv_stop _ _ (xn : Int) (by omega) (at_ : Int) _ _ af (by omega)
theorem tk_drop : ∀ (l : List IP), (∀ p ∈ l, partB p = true) → ∀ a : Int, 0 ≤ a → a + 600 * (l.length : Int) ≤ 1000000 → tkS l a = a + ((dropL l).length : Int)
  | [], _, a, _, _ => by simp [tkS, dropL]
  | p :: r, hp, a, h0, h1 => by
    obtain ⟨f1, f2, f3, f4, f5⟩ := part_facts (hp p (List.mem_cons_self ..))
    have hl : ((p :: r).length : Int) = (r.length : Int) + 1 := by simp
    have e1 : wrap64 (p.f0 + (p.f2.size : Int)) = p.f0 + p.f2.size := wrap_id (by omega) (by omega)
    have e2 : wrap64 (a + (p.f0 + (p.f2.size : Int))) = a + (p.f0 + p.f2.size) := wrap_id (by omega) (by omega)
    have ih := tk_drop r (fun x hx => hp x (List.mem_cons_of_mem _ hx)) (a + (p.f0 + p.f2.size)) (by omega) (by omega)
    rw [tkS, e1, e2, ih, dropL, List.length_append, List.length_append, List.length_replicate, bytesOf_length]
    omega
theorem MovePlace_f (l : List IP) (hw : ∀ x ∈ l, x.f1.size ≤ 1048576 ∧ x.f2.size ≤ 1048576) (a : Int) (af : Bool) : ∃ r : Int × Bool, Ev (fun k => spec_MovePlace.f k l a af) r ∧ Ev (fun k => impl_MovePlace.f k l a af) r := by
  have hno : Ev (fun k => impl_MovePlace.j0 k l a af true) (0, false) := by
    refine Ev.step (fun k => by rw [impl_MovePlace.j0]) ?_
    exact ev_pos rfl (ev_ret rfl)
  unfold spec_MovePlace.f impl_MovePlace.f impl_SizesOf.f
  by_cases hg : goodO l = true
  · obtain ⟨hl, hp, ht, hm⟩ := goodO_facts hg
    have hB := dropL_len l hp
    have etk := tk_drop l hp 0 (Int.le_refl _) (by omega)
    have hsz : Ev (fun k => (impl_GoodOp.f k l).bind fun t => if t = true then (impl_sizes.f k l).bind fun b => some (b.1, b.2, true) else some (0, 0, false)) (tkS l 0, mkS l 0, true) := Ev.bind (impl_GoodOp_f l hw) (ev_pos hg (Ev.bind (impl_sizes_f l (by omega)) (ev_ret rfl)))
    by_cases ha : 0 ≤ a ∧ a ≤ tkS l 0
    · obtain ⟨an, rfl⟩ := Int.eq_ofNat_of_zero_le ha.1
      obtain ⟨g, u, v, e, s1, s2, s3, s4, s5, s6⟩ := norm_segs l hl hp
      obtain ⟨lo, hi, r1, r2⟩ := move_all l hl hp u v (by omega) (by omega) s4 an (by omega) g s1 [] 0 0 (by simp; omega) (Nat.zero_le _) (Int.le_refl _) (by simp) (by rw [List.drop_zero]; exact s5.symm)
      have hone : ∀ p ∈ l, One p := fun p h => part_one (hp p h)
      rw [List.nil_append, ← e] at r1
      refine ⟨(if af = true then hi else lo, true), ?_, ?_⟩
      · refine Ev.bind (spec_GoodOp_f l hw) (ev_pos hg (Ev.bind (spec_l3Sizes_f l (by omega)) (ev_eq (spec_l1In_f _ _ _) (ev_pos (decide_eq_true ha) (Ev.bind (a := (lo, hi)) ?_ ?_)))))
        · unfold spec_l5Gap.f
          exact Ev.bind (spec_l3Normal_f l hl hone) r1
        · exact ev_if (fun c => ev_ret (by rw [if_pos c])) (fun c => ev_ret (by rw [if_neg c]))
      · refine Ev.bind hsz (ev_pos rfl (ev_neg (by omega) ?_))
        rw [decide_eq_false (by show ¬ (an : Int) > tkS l 0; omega)]
        refine Ev.step (fun k => by rw [impl_MovePlace.j0]) ?_
        refine ev_neg (by simp) (ev_eq (impl_normal_f l hl hone) (Ev.bind (a := if af = true then hi else lo) ?_ (ev_ret rfl)))
        unfold impl_movePlace.f
        have := r2 af
        rw [List.nil_append, ← e] at this
        exact this
    · refine ⟨(0, false), Ev.bind (spec_GoodOp_f l hw) (ev_pos hg (Ev.bind (spec_l3Sizes_f l (by omega)) (ev_eq (spec_l1In_f _ _ _) (ev_neg (by simpa using ha) (ev_ret rfl))))), ?_⟩
      refine Ev.bind hsz (ev_pos rfl (ev_if (fun c => hno) (fun c => ?_)))
      rw [decide_eq_true (by show a > tkS l 0; omega)]; exact hno
  · refine ⟨(0, false), Ev.bind (spec_GoodOp_f l hw) (ev_neg hg (ev_ret rfl)), ?_⟩
    exact Ev.bind (a := ((0 : Int), (0 : Int), false)) (Ev.bind (impl_GoodOp_f l hw) (ev_neg hg (ev_ret rfl))) (ev_neg (by simp) hno)
theorem FnExactMovePlace : laws_FnExactMovePlace.Pure := by
  intro a at_ af la wa _
  refine Ev.rounds ?_
  unfold laws_FnExactMovePlace.f
  obtain ⟨v, hv, hb⟩ := laws_szPartS_g a la (fun x hx => (wa x hx).2) 1048576 (by omega) (by omega)
  refine Ev.bind hv (ev_if (fun _ => ev_ret rfl) (fun h => ?_))
  obtain ⟨h0, h1, h2⟩ := hb (by omega)
  have hwa : ∀ x ∈ a.map cvP, x.f1.size ≤ 1048576 ∧ x.f2.size ≤ 1048576 := fun x hx => by obtain ⟨y, hy, rfl⟩ := List.mem_map.1 hx; exact h2 y hy
  have hla : (a.map cvP).length ≤ 1048576 := by simpa using h1
  have hto := laws_toPartS_f a h1
  obtain ⟨r, r1, r2⟩ := MovePlace_f (a.map cvP) hwa at_ af
  refine Ev.bind hto (Ev.bind r1 (Ev.bind hto (Ev.bind r2 (ev_pos rfl ?_))))
  refine Ev.step (fun k => by rw [laws_FnExactMovePlace.j0]) ?_
  exact ev_neg (by simp) (Ev.bind hto (Ev.bind (laws_eqPartS_f (a.map cvP) (by omega)) (ev_pos rfl (ev_ret rfl))))

end Go.Proofs.Ytmhcmcdppimcpaa.Pure
