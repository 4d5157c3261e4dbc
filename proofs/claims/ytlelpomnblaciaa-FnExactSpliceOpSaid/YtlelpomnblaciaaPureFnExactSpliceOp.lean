/- FnExactSpliceOp over plain functions: at all texts and places the program's SpliceOp and the reference's give one answer, which is the call's own; no condition. -/
import Derived.Test.YtlelpomnblaciaaPFnExactSpliceOpx7
import Derived.Test.YtlelpomnblaciaaBase
import Derived.Test.YtlelpomnblaciaaMk
namespace Go.Proofs.Ytlelpomnblaciaa.Pure
open Go.RowKit Go.Proofs.Ytlelpomnblaciaa.PFnExactSpliceOp Go.Proofs.YtlelpomnblaciaaW.PrintWords Go.Proofs.YtlelpomnblaciaaW.PrintLast Go.Proofs.Ytlelpomnblaciaa.Base Go.Proofs.Ytlelpomnblaciaa.Mk
set_option linter.unusedVariables false
set_option linter.unusedSimpArgs false

abbrev IP := S53
def izP : IP := z53
theorem rd_ip (l : List IP) (i : Nat) : rd_T53 l (i : Int) = gt izP l i := rfl
theorem toList_nil (s : ByteArray) : s.toList = ([] : List UInt8) ↔ s.size = 0 := by
  rw [← List.length_eq_zero_iff]
  have := data_length s
  rw [ByteArray.toList_eq, this]

theorem laws_eqPart_self (m : IP) : laws_eqPart.f m.f0 m.f1 m.f2 m.f0 m.f1 m.f2 = some true := by
  unfold laws_eqPart.f; rw [if_pos rfl]; rw [if_pos rfl]; rw [if_pos rfl]
theorem laws_eqPartS_l (l : List IP) (hl : l.length ≤ 4611686018427387904) (d : Nat) : ∀ i : Nat, i + d = l.length → Ev (fun k => laws_eqPartS.l0 k l l (i : Int)) true := by
  induction d with
  | zero => exact fun i hi => Ev.step (fun k => by rw [laws_eqPartS.l0]) (ev_neg (by omega) (ev_ret rfl))
  | succ d ih =>
    intro i hi
    refine Ev.step (fun k => by rw [laws_eqPartS.l0]) ?_
    refine ev_pos (by omega) (ev_pos (by omega) (ev_pos (by omega) (ev_eq (laws_eqPart_self _) (ev_pos rfl ?_))))
    rw [wrap_succ i (by omega)]
    exact ih (i + 1) (by omega)
theorem laws_eqPartS_f (l : List IP) (hl : l.length ≤ 4611686018427387904) : Ev (fun k => laws_eqPartS.f k l l) true := by
  unfold laws_eqPartS.f
  exact ev_pos rfl (laws_eqPartS_l l hl l.length 0 (by omega))

theorem spec_l1In_f (a b c : Int) : spec_l1In.f a b c = some (decide (b ≤ a ∧ a ≤ c)) := by
  unfold spec_l1In.f; split <;> simp <;> omega

theorem spec_l1Open_f (c : Int) : spec_l1Open.f c = some (openB c) := by
  unfold spec_l1Open.f openB; split <;> simp <;> omega
theorem spec_l1Plain_f (c : Int) : spec_l1Plain.f c = some (plainB c) := by
  unfold spec_l1Plain.f plainB
  repeat' split
  all_goals (rw [Option.some.injEq, Bool.eq_iff_iff]; simp only [Bool.or_eq_true, decide_eq_true_eq, beq_iff_eq, true_iff]; omega)
theorem spec_l1Text_l (s : ByteArray) (hs : s.size ≤ 140737488351232) (d : Nat) : ∀ i : Nat, i + d = s.size → Ev (fun k => spec_l1Text.l0 k s (i : Int)) (textB ((bytesOf s).drop i)) := by
  induction d with
  | zero =>
    intro i hi
    refine Ev.step (fun k => by rw [spec_l1Text.l0]) ?_
    refine ev_neg (by omega) (ev_ret ?_)
    rw [drop_end s i (by omega)]; rfl
  | succ d ih =>
    intro i hi
    refine Ev.step (fun k => by rw [spec_l1Text.l0]) ?_
    refine ev_pos (by omega) (ev_pos (by omega) (ev_eq (spec_l1Open_f _) ?_))
    rw [drop_bytes s i (by omega), wrap_succ i (by omega)]
    have ih' := ih (i + 1) (by omega)
    refine ev_if (fun h => ev_val ih' (by simp [textB, okB, h])) (fun h => ?_)
    refine ev_eq (spec_l1Plain_f _) (ev_if (fun h2 => ev_val ih' (by simp [textB, okB, h2])) (fun h2 => ?_))
    refine ev_if (fun h3 => ev_val ih' (by simp [textB, okB, h3])) (fun h3 => ev_ret ?_)
    simp [textB, okB, h, h2, h3]
theorem spec_l1Text_f (s : ByteArray) (hs : s.size ≤ 140737488351232) : Ev (fun k => spec_l1Text.f k s) (textB (bytesOf s)) :=
  spec_l1Text_l s hs s.size 0 (by omega)
theorem spec_GoodText_f (s : ByteArray) (hs : s.size ≤ 140737488351232) : Ev (fun k => spec_GoodText.f k s) (goodB (bytesOf s)) := by
  unfold spec_GoodText.f goodB
  refine Ev.bind (spec_l1Text_f s hs) (ev_if (fun h => ev_ret ?_) (fun h => ev_ret ?_))
  · rw [h, bytesOf_length, Bool.true_and]; congr 1; simp; omega
  · simp at h; simp [h]
theorem impl_isName_f (c : Int) : impl_isName.f c = some (openB c) := by
  unfold impl_isName.f openB; split <;> simp <;> omega
theorem impl_isPlain_f (c : Int) : impl_isPlain.f c = some (plainB c) := by
  unfold impl_isPlain.f plainB
  repeat' split
  all_goals (rw [Option.some.injEq, Bool.eq_iff_iff]; simp only [Bool.or_eq_true, decide_eq_true_eq, beq_iff_eq, true_iff]; omega)
theorem impl_GoodText_l (s : ByteArray) (hs : s.size ≤ 140737488351232) (d : Nat) : ∀ i : Nat, i + d = s.size → Ev (fun k => impl_GoodText.l0 k s (s.size : Int) (i : Int)) (textB ((bytesOf s).drop i) && decide (s.size ≤ 300)) := by
  induction d with
  | zero =>
    intro i hi
    refine Ev.step (fun k => by rw [impl_GoodText.l0]) ?_
    refine ev_neg (by omega) (ev_ret ?_)
    rw [drop_end s i (by omega)]; simp [textB]; omega
  | succ d ih =>
    intro i hi
    refine Ev.step (fun k => by rw [impl_GoodText.l0]) ?_
    refine ev_pos (by omega) (ev_pos (by omega) (ev_pos (by omega) (ev_eq (impl_isName_f _) ?_)))
    rw [drop_bytes s i (by omega), wrap_succ i (by omega)]
    have ih' := ih (i + 1) (by omega)
    refine ev_if (fun h => ev_val ih' (by simp [textB, okB, h])) (fun h => ?_)
    refine ev_eq (impl_isPlain_f _) (ev_if (fun h2 => ev_val ih' (by simp [textB, okB, h2])) (fun h2 => ?_))
    refine ev_if (fun h3 => ev_val ih' (by simp [textB, okB, h3])) (fun h3 => ev_ret ?_)
    simp [textB, okB, h, h2, h3]
theorem impl_GoodText_f (s : ByteArray) (hs : s.size ≤ 140737488351232) : Ev (fun k => impl_GoodText.f k s) (goodB (bytesOf s)) := by
  unfold impl_GoodText.f
  refine ev_val (impl_GoodText_l s hs s.size 0 (by omega)) ?_
  simp [goodB, bytesOf_length]

def partB (p : IP) : Bool := if p.f0 = 0 then (if p.f1.toList = ([] : List UInt8) then (if p.f2.toList = ([] : List UInt8) then false else goodB (bytesOf p.f2)) else (if p.f2.toList = ([] : List UInt8) then goodB (bytesOf p.f1) else false)) else (decide (1 ≤ p.f0 ∧ p.f0 ≤ 300) && (decide (p.f1.toList = ([] : List UInt8)) && (p.f2.toList == ([] : List UInt8))))
theorem spec_l3Part_f (p : IP) (h1 : p.f1.size ≤ 140737488351232) (h2 : p.f2.size ≤ 140737488351232) : Ev (fun k => spec_l3Part.f k p.f0 p.f1 p.f2) (partB p) := by
  unfold spec_l3Part.f partB
  by_cases c0 : p.f0 = 0
  · rw [if_pos c0]
    refine ev_pos c0 ?_
    by_cases c1 : p.f1.toList = ([] : List UInt8)
    · rw [if_pos c1]
      refine ev_pos c1 ?_
      by_cases c2 : p.f2.toList = ([] : List UInt8)
      · rw [if_pos c2]; exact ev_pos c2 (ev_ret rfl)
      · rw [if_neg c2]; exact ev_neg c2 (Ev.bind (spec_GoodText_f _ h2) (ev_ret rfl))
    · rw [if_neg c1]
      refine ev_neg c1 ?_
      by_cases c2 : p.f2.toList = ([] : List UInt8)
      · rw [if_pos c2]; exact ev_pos c2 (Ev.bind (spec_GoodText_f _ h1) (ev_ret rfl))
      · rw [if_neg c2]; exact ev_neg c2 (ev_ret rfl)
  · rw [if_neg c0]
    refine ev_neg c0 (ev_eq (spec_l1In_f _ _ _) ?_)
    refine ev_if (fun h => ?_) (fun h => ev_ret (by rw [Bool.not_eq_true] at h; rw [h]; rfl))
    rw [h, Bool.true_and]
    exact ev_if (fun h1 => ev_ret (by rw [decide_eq_true h1, Bool.true_and])) (fun h1 => ev_ret (by rw [decide_eq_false h1]; rfl))
theorem impl_Part_isPart_f (p : IP) (h1 : p.f1.size ≤ 140737488351232) (h2 : p.f2.size ≤ 140737488351232) : Ev (fun k => impl_Part_isPart.f k p.f0 p.f1 p.f2) (partB p) := by
  unfold impl_Part_isPart.f partB
  by_cases c0 : p.f0 = 0
  · rw [if_pos c0]
    refine ev_pos c0 ?_
    by_cases c1 : p.f1.toList = ([] : List UInt8)
    · rw [if_pos c1]
      refine ev_pos c1 ?_
      by_cases c2 : p.f2.toList = ([] : List UInt8)
      · rw [if_pos c2]; exact ev_pos c2 (ev_ret rfl)
      · rw [if_neg c2]; exact ev_neg c2 (Ev.bind (impl_GoodText_f _ h2) (ev_ret rfl))
    · rw [if_neg c1]
      refine ev_neg c1 ?_
      by_cases c2 : p.f2.toList = ([] : List UInt8)
      · rw [if_pos c2]; exact ev_pos c2 (Ev.bind (impl_GoodText_f _ h1) (ev_ret rfl))
      · rw [if_neg c2]; exact ev_neg c2 (ev_ret rfl)
  · rw [if_neg c0]
    refine ev_neg c0 ?_
    refine ev_if (fun h => ?_) (fun h => ev_ret (by rw [decide_eq_false (by omega)]; rfl))
    refine ev_if (fun h' => ?_) (fun h' => ev_ret (by rw [decide_eq_false (by omega)]; rfl))
    rw [decide_eq_true (show 1 ≤ p.f0 ∧ p.f0 ≤ 300 from ⟨h, h'⟩), Bool.true_and]
    exact ev_if (fun h1 => ev_ret (by rw [decide_eq_true h1, Bool.true_and])) (fun h1 => ev_ret (by rw [decide_eq_false h1]; rfl))
def tkS : List IP → Int → Int
  | [], a => a
  | p :: r, a => tkS r (wrap64 (a + wrap64 (p.f0 + (p.f2.size : Int))))
def mkS : List IP → Int → Int
  | [], a => a
  | p :: r, a => mkS r (wrap64 (a + wrap64 (p.f0 + (p.f1.size : Int))))
theorem spec_l3Sizes_l (l : List IP) (hl : l.length ≤ 1048576) (d : Nat) : ∀ (i : Nat) (a b : Int), i + d = l.length →
    Ev (fun k => spec_l3Sizes.l0 k a b l (l.length : Int) (i : Int)) (tkS (l.drop i) a, mkS (l.drop i) b) := by
  induction d with
  | zero =>
    intro i a b hi
    refine Ev.step (fun k => by rw [spec_l3Sizes.l0]) ?_
    refine ev_neg (by omega) (ev_ret ?_)
    rw [List.drop_eq_nil_of_le (by omega)]; rfl
  | succ d ih =>
    intro i a b hi
    refine Ev.step (fun k => by rw [spec_l3Sizes.l0]) ?_
    refine ev_pos (by omega) (ev_pos (by omega) (ev_pos (by omega) ?_))
    rw [gt_drop izP l i (by omega), wrap_succ i (by omega)]
    exact ih (i + 1) _ _ (by omega)
theorem spec_l3Sizes_f (l : List IP) (hl : l.length ≤ 1048576) : Ev (fun k => spec_l3Sizes.f k l) (tkS l 0, mkS l 0) := by
  unfold spec_l3Sizes.f
  exact spec_l3Sizes_l l hl l.length 0 0 0 (by omega)
theorem impl_sizes_l (l : List IP) (hl : l.length ≤ 1048576) (d : Nat) : ∀ (i : Nat) (a b : Int), i + d = l.length →
    Ev (fun k => impl_sizes.l0 k a b l (l.length : Int) (i : Int)) (tkS (l.drop i) a, mkS (l.drop i) b) := by
  induction d with
  | zero =>
    intro i a b hi
    refine Ev.step (fun k => by rw [impl_sizes.l0]) ?_
    refine ev_neg (by omega) (ev_ret ?_)
    rw [List.drop_eq_nil_of_le (by omega)]; rfl
  | succ d ih =>
    intro i a b hi
    refine Ev.step (fun k => by rw [impl_sizes.l0]) ?_
    refine ev_pos (by omega) (ev_pos (by omega) (ev_pos (by omega) ?_))
    rw [gt_drop izP l i (by omega), wrap_succ i (by omega)]
    exact ih (i + 1) _ _ (by omega)
theorem impl_sizes_f (l : List IP) (hl : l.length ≤ 1048576) : Ev (fun k => impl_sizes.f k l) (tkS l 0, mkS l 0) := by
  unfold impl_sizes.f
  exact impl_sizes_l l hl l.length 0 0 0 (by omega)
def goodO (l : List IP) : Bool := decide (l.length ≤ 60) && (l.all partB && decide (tkS l 0 ≤ 300 ∧ mkS l 0 ≤ 300))
theorem goodO_len {l : List IP} (h : ¬ l.length ≤ 60) : goodO l = false := by unfold goodO; rw [decide_eq_false h]; rfl
theorem goodO_part {l : List IP} {p : IP} (hp : p ∈ l) (h : partB p = false) : goodO l = false := by
  unfold goodO
  have : l.all partB = false := by
    rw [Bool.eq_false_iff]; intro e
    rw [List.all_eq_true] at e
    rw [e p hp] at h; cases h
  rw [this]; simp
theorem spec_GoodOp_l (l : List IP) (hl : l.length ≤ 60) (hw : ∀ x ∈ l, x.f1.size ≤ 1048576 ∧ x.f2.size ≤ 1048576) (d : Nat) : ∀ i : Nat, i + d = l.length →
    (l.take i).all partB = true → Ev (fun k => spec_GoodOp.l0 k l l (l.length : Int) (i : Int)) (goodO l) := by
  induction d with
  | zero =>
    intro i hi hg
    refine Ev.step (fun k => by rw [spec_GoodOp.l0]) ?_
    rw [List.take_of_length_le (by omega)] at hg
    have e : goodO l = decide (tkS l 0 ≤ 300 ∧ mkS l 0 ≤ 300) := by unfold goodO; rw [hg, decide_eq_true hl]; rfl
    rw [e]
    refine ev_neg (by omega) (Ev.bind (spec_l3Sizes_f l (by omega)) ?_)
    exact ev_if (fun h => ev_ret (decide_eq_decide.2 (by constructor <;> intro q; exact ⟨h, q⟩; exact q.2))) (fun h => ev_ret (by rw [decide_eq_false (fun q => h q.1)]))
  | succ d ih =>
    intro i hi hg
    have hm := hw _ (gt_mem izP l i (by omega))
    refine Ev.step (fun k => by rw [spec_GoodOp.l0]) ?_
    refine ev_pos (by omega) (ev_pos (by omega) (ev_pos (by omega) ?_))
    rw [wrap_succ i (by omega)]
    simp only [rd_ip]
    refine Ev.bind (spec_l3Part_f _ (by omega) (by omega)) (ev_if (fun h => ?_) (fun h => ev_ret (goodO_part (gt_mem izP l i (by omega)) (by simpa using h)).symm))
    refine ih (i + 1) (by omega) ?_
    rw [gt_take izP l i (by omega), List.all_append, hg]
    simp [h]
theorem spec_GoodOp_f (l : List IP) (hw : ∀ x ∈ l, x.f1.size ≤ 1048576 ∧ x.f2.size ≤ 1048576) : Ev (fun k => spec_GoodOp.f k l) (goodO l) := by
  unfold spec_GoodOp.f
  refine ev_if (fun h => ev_ret (goodO_len (by omega)).symm) (fun h => ?_)
  exact spec_GoodOp_l l (by omega) hw l.length 0 (by omega) rfl
theorem idxBad_f (l : List IP) (hw : ∀ x ∈ l, x.f1.size ≤ 1048576 ∧ x.f2.size ≤ 1048576) : ∀ n : Int, 0 ≤ n → ∃ v : Int, Ev (fun k => idxBad k l n) v ∧ (v ≥ 0 ↔ l.all partB = false) := by
  induction l with
  | nil => exact fun n _ => ⟨-1, by unfold idxBad; exact ev_ret rfl, by simp⟩
  | cons p r ih =>
    intro n hn
    have hm := hw p (List.mem_cons_self ..)
    obtain ⟨v, hv, hb⟩ := ih (fun x hx => hw x (List.mem_cons_of_mem _ hx)) (n + 1) (by omega)
    have hp : Ev (fun k => impl_GoodOp_1.f k p.f0 p.f1 p.f2) (!(partB p)) := by unfold impl_GoodOp_1.f; exact Ev.bind (impl_Part_isPart_f p (by omega) (by omega)) (ev_ret rfl)
    by_cases c : partB p = true
    · refine ⟨v, ?_, by rw [hb, List.all_cons, c, Bool.true_and]⟩
      unfold idxBad
      refine Ev.bind hp (ev_neg (by rw [c]; simp) hv)
    · rw [Bool.not_eq_true] at c
      refine ⟨n, ?_, by rw [List.all_cons, c]; simp; omega⟩
      unfold idxBad
      exact Ev.bind hp (ev_pos (by rw [c]; rfl) (ev_ret rfl))
theorem impl_GoodOp_f (l : List IP) (hw : ∀ x ∈ l, x.f1.size ≤ 1048576 ∧ x.f2.size ≤ 1048576) : Ev (fun k => impl_GoodOp.f k l) (goodO l) := by
  unfold impl_GoodOp.f
  refine ev_if (fun h => ev_ret (goodO_len (by omega)).symm) (fun h => ?_)
  obtain ⟨v, hv, hb⟩ := idxBad_f l hw 0 (by omega)
  refine Ev.bind hv (ev_if (fun c => ev_ret ?_) (fun c => Ev.bind (impl_sizes_f l (by omega)) ?_))
  · unfold goodO; rw [hb.1 c]; simp
  · have hg : l.all partB = true := by
      by_cases q : l.all partB = true
      · exact q
      · exact absurd (hb.2 (by simpa using q)) c
    have e : goodO l = decide (tkS l 0 ≤ 300 ∧ mkS l 0 ≤ 300) := by unfold goodO; rw [hg, decide_eq_true (by omega : l.length ≤ 60)]; rfl
    rw [e]
    exact ev_if (fun h => ev_ret (decide_eq_decide.2 (by constructor <;> intro q; exact ⟨h, q⟩; exact q.2))) (fun h => ev_ret (by rw [decide_eq_false (fun q => h q.1)]))

theorem ba_nil {s : ByteArray} (h : s.size = 0) : s = (⟨#[]⟩ : ByteArray) := by
  obtain ⟨d⟩ := s
  have h' : d.size = 0 := h
  rw [Array.size_eq_zero_iff.1 h']
theorem ba_app (s : ByteArray) : s ++ (⟨#[]⟩ : ByteArray) = s := by
  apply ByteArray.ext; rw [ByteArray.data_append]; simp
theorem ba_len_app (a b : ByteArray) : (a ++ b).size = a.size + b.size := ByteArray.size_append
theorem nil_nil : (⟨#[]⟩ : ByteArray).toList = ([] : List UInt8) := (toList_nil _).2 rfl
/-- A part with one side at most. -/
def One (p : IP) : Prop := 0 ≤ p.f0 ∧ p.f0 ≤ 300 ∧ p.f1.size ≤ 300 ∧ p.f2.size ≤ 300 ∧ (p.f0 = 0 ∨ (p.f1.size = 0 ∧ p.f2.size = 0)) ∧ (p.f1.size = 0 ∨ p.f2.size = 0)
theorem set_last (m : List IP) (z v : IP) : (m ++ [z]).set m.length v = m ++ [v] := by
  rw [List.set_append_right _ _ (Nat.le_refl _), Nat.sub_self]; rfl
theorem set_last2 (m : List IP) (y z v : IP) : (m ++ [y, z]).set m.length v = m ++ [v, z] := by
  rw [List.set_append_right _ _ (Nat.le_refl _), Nat.sub_self]; rfl
theorem gt_app_2 (m : List IP) (y z : IP) : gt izP (m ++ [y, z]) m.length = y := by
  unfold gt; rw [List.getD_eq_getElem?_getD, List.getElem?_append_right (Nat.le_refl _)]; simp
theorem gt_app_1 (m : List IP) (z : IP) : gt izP (m ++ [z]) m.length = z := by
  unfold gt; rw [List.getD_eq_getElem?_getD, List.getElem?_append_right (Nat.le_refl _)]; simp
theorem len_m1 (m : List IP) (z : IP) (h : m.length ≤ 100000) : wrap64 (((m ++ [z]).length : Int) - 1) = (m.length : Int) := by
  rw [List.length_append, List.length_singleton, wrap_id (by omega) (by omega)]; omega
/-- Nothing is put behind. -/
theorem add_none (l : List IP) (p : IP) (h0 : p.f0 = 0) (h1 : p.f1.size = 0) (h2 : p.f2.size = 0) : Ev (fun k => spec_l3Add.f k l p.f0 p.f1 p.f2) l := by
  unfold spec_l3Add.f
  rw [beq_iff_eq.2 ((toList_nil _).2 h2)]
  refine ev_pos h0 (ev_pos ((toList_nil _).2 h1) ?_)
  refine Ev.step (fun k => by rw [spec_l3Add.j0]) ?_
  exact ev_pos rfl (ev_ret rfl)
/-- Where the part is one, the walk begins at j0. -/
theorem add_start (l : List IP) (p : IP) (h : p.f0 ≠ 0 ∨ p.f1.size ≠ 0 ∨ p.f2.size ≠ 0) {r : List IP} (hr : Ev (fun k => spec_l3Add.j0 k l (l.length : Int) false p.f0 p.f1 p.f2) r) : Ev (fun k => spec_l3Add.f k l p.f0 p.f1 p.f2) r := by
  unfold spec_l3Add.f
  refine ev_if (fun h0 => ev_if (fun h1 => ?_) (fun _ => hr)) (fun _ => hr)
  rw [toList_nil] at h1
  have h2 : ¬ p.f2.toList = ([] : List UInt8) := by rw [toList_nil]; omega
  rw [beq_eq_false_iff_ne.2 h2]; exact hr
theorem add_first (p : IP) (h : p.f0 ≠ 0 ∨ p.f1.size ≠ 0 ∨ p.f2.size ≠ 0) : Ev (fun k => spec_l3Add.f k [] p.f0 p.f1 p.f2) [p] := by
  refine add_start [] p h ?_
  refine Ev.step (fun k => by rw [spec_l3Add.j0]) ?_
  exact ev_neg (by simp) (ev_pos (by simp) (ev_pos (by simp) (ev_ret rfl)))
theorem add_j1 (m : List IP) (z p : IP) (hm : m.length ≤ 100000) (h : p.f0 ≠ 0 ∨ p.f1.size ≠ 0 ∨ p.f2.size ≠ 0) {r : List IP}
    (hr : Ev (fun k => spec_l3Add.j1 k (m ++ [z]) ((m ++ [z]).length : Int) (decide (p.f0 > 0 ∧ z.f0 > 0)) p.f0 p.f1 p.f2 z.f0 z.f1 z.f2) r) : Ev (fun k => spec_l3Add.f k (m ++ [z]) p.f0 p.f1 p.f2) r := by
  refine add_start _ p h ?_
  refine Ev.step (fun k => by rw [spec_l3Add.j0]) ?_
  rw [len_m1 m z hm, rd_ip, gt_app_1]
  have hl : (m ++ [z]).length = m.length + 1 := by rw [List.length_append, List.length_singleton]
  refine ev_neg (by simp) (ev_neg (by omega) (ev_pos (by omega) (ev_pos (by omega) (ev_if (fun c => ?_) (fun c => ?_)))))
  · simp only [c, true_and] at hr; exact hr
  · rw [decide_eq_false (fun q => c q.1)] at hr; exact hr
theorem add_j2 (m : List IP) (z p : IP) (hm : m.length ≤ 100000) (h : p.f0 ≠ 0 ∨ p.f1.size ≠ 0 ∨ p.f2.size ≠ 0) (h1 : ¬ (p.f0 > 0 ∧ z.f0 > 0)) {r : List IP}
    (hr : Ev (fun k => spec_l3Add.j2 k (m ++ [z]) ((m ++ [z]).length : Int) (decide (p.f2.size ≠ 0 ∧ z.f2.size ≠ 0)) p.f0 p.f1 p.f2 z.f0 z.f1 z.f2) r) : Ev (fun k => spec_l3Add.f k (m ++ [z]) p.f0 p.f1 p.f2) r := by
  refine add_j1 m z p hm h ?_
  rw [decide_eq_false h1]
  refine Ev.step (fun k => by rw [spec_l3Add.j1]) ?_
  refine ev_neg (by simp) (ev_if (fun c => ?_) (fun c => ?_))
  · rw [toList_nil] at c
    rw [decide_eq_false (fun q => q.1 c)] at hr; exact hr
  · rw [toList_nil] at c
    have e : (z.f2.toList != ([] : List UInt8)) = decide (p.f2.size ≠ 0 ∧ z.f2.size ≠ 0) := by
      by_cases q : z.f2.size = 0
      · rw [decide_eq_false (fun x => x.2 q), bne_eq_false_iff_eq]; exact (toList_nil _).2 q
      · rw [decide_eq_true ⟨c, q⟩, bne_iff_ne]; exact fun x => q ((toList_nil _).1 x)
    rw [e]; exact hr
theorem add_j3 (m : List IP) (z p : IP) (hm : m.length ≤ 100000) (h : p.f0 ≠ 0 ∨ p.f1.size ≠ 0 ∨ p.f2.size ≠ 0) (h1 : ¬ (p.f0 > 0 ∧ z.f0 > 0)) (h2 : ¬ (p.f2.size ≠ 0 ∧ z.f2.size ≠ 0)) {r : List IP}
    (hr : Ev (fun k => spec_l3Add.j3 k (m ++ [z]) ((m ++ [z]).length : Int) (decide (p.f1.size ≠ 0 ∧ z.f1.size ≠ 0)) p.f0 p.f1 p.f2 z.f0 z.f1 z.f2) r) : Ev (fun k => spec_l3Add.f k (m ++ [z]) p.f0 p.f1 p.f2) r := by
  refine add_j2 m z p hm h h1 ?_
  rw [decide_eq_false h2]
  refine Ev.step (fun k => by rw [spec_l3Add.j2]) ?_
  refine ev_neg (by simp) (ev_if (fun c => ?_) (fun c => ?_))
  · rw [toList_nil] at c
    rw [decide_eq_false (fun q => q.1 c)] at hr; exact hr
  · rw [toList_nil] at c
    have e : (z.f1.toList != ([] : List UInt8)) = decide (p.f1.size ≠ 0 ∧ z.f1.size ≠ 0) := by
      by_cases q : z.f1.size = 0
      · rw [decide_eq_false (fun x => x.2 q), bne_eq_false_iff_eq]; exact (toList_nil _).2 q
      · rw [decide_eq_true ⟨c, q⟩, bne_iff_ne]; exact fun x => q ((toList_nil _).1 x)
    rw [e]; exact hr
theorem add_j4 (m : List IP) (z p : IP) (hm : m.length ≤ 100000) (h : p.f0 ≠ 0 ∨ p.f1.size ≠ 0 ∨ p.f2.size ≠ 0) (h1 : ¬ (p.f0 > 0 ∧ z.f0 > 0)) (h2 : ¬ (p.f2.size ≠ 0 ∧ z.f2.size ≠ 0)) (h3 : ¬ (p.f1.size ≠ 0 ∧ z.f1.size ≠ 0)) {r : List IP}
    (hr : Ev (fun k => spec_l3Add.j4 k (m ++ [z]) ((m ++ [z]).length : Int) (decide (p.f1.size ≠ 0 ∧ z.f2.size ≠ 0)) p.f0 p.f1 p.f2 z.f0 z.f1 z.f2) r) : Ev (fun k => spec_l3Add.f k (m ++ [z]) p.f0 p.f1 p.f2) r := by
  refine add_j3 m z p hm h h1 h2 ?_
  rw [decide_eq_false h3]
  refine Ev.step (fun k => by rw [spec_l3Add.j3]) ?_
  refine ev_neg (by simp) (ev_if (fun c => ?_) (fun c => ?_))
  · rw [toList_nil] at c
    rw [decide_eq_false (fun q => q.1 c)] at hr; exact hr
  · rw [toList_nil] at c
    have e : (z.f2.toList != ([] : List UInt8)) = decide (p.f1.size ≠ 0 ∧ z.f2.size ≠ 0) := by
      by_cases q : z.f2.size = 0
      · rw [decide_eq_false (fun x => x.2 q), bne_eq_false_iff_eq]; exact (toList_nil _).2 q
      · rw [decide_eq_true ⟨c, q⟩, bne_iff_ne]; exact fun x => q ((toList_nil _).1 x)
    rw [e]; exact hr
/-- Both keep. -/
theorem add_keep (m : List IP) (z p : IP) (hm : m.length ≤ 100000) (h1 : p.f0 > 0 ∧ z.f0 > 0) : Ev (fun k => spec_l3Add.f k (m ++ [z]) p.f0 p.f1 p.f2) (m ++ [⟨wrap64 (z.f0 + p.f0), z.f1, z.f2⟩]) := by
  refine add_j1 m z p hm (.inl (by omega)) ?_
  rw [decide_eq_true h1]
  refine Ev.step (fun k => by rw [spec_l3Add.j1]) ?_
  rw [len_m1 m z hm, rd_ip, gt_app_1, Int.toNat_natCast, set_last]
  exact ev_pos rfl (ev_pos (by omega) (ev_pos (by rw [List.length_append, List.length_singleton]; omega) (ev_ret rfl)))
/-- Both drop. -/
theorem add_drop (m : List IP) (z p : IP) (hm : m.length ≤ 100000) (h1 : ¬ (p.f0 > 0 ∧ z.f0 > 0)) (h2 : p.f2.size ≠ 0 ∧ z.f2.size ≠ 0) (hs : z.f2.size + p.f2.size ≤ 9223372036854775807) : Ev (fun k => spec_l3Add.f k (m ++ [z]) p.f0 p.f1 p.f2) (m ++ [⟨z.f0, z.f1, z.f2 ++ p.f2⟩]) := by
  refine add_j2 m z p hm (.inr (.inr h2.1)) h1 ?_
  rw [decide_eq_true h2]
  refine Ev.step (fun k => by rw [spec_l3Add.j2]) ?_
  rw [len_m1 m z hm, rd_ip, gt_app_1, Int.toNat_natCast, set_last]
  exact ev_pos rfl (ev_pos (by omega) (ev_pos (by rw [List.length_append, List.length_singleton]; omega) (ev_pos hs (ev_ret rfl))))
/-- Both put. -/
theorem add_put (m : List IP) (z p : IP) (hm : m.length ≤ 100000) (h1 : ¬ (p.f0 > 0 ∧ z.f0 > 0)) (h2 : ¬ (p.f2.size ≠ 0 ∧ z.f2.size ≠ 0)) (h3 : p.f1.size ≠ 0 ∧ z.f1.size ≠ 0) (hs : z.f1.size + p.f1.size ≤ 9223372036854775807) : Ev (fun k => spec_l3Add.f k (m ++ [z]) p.f0 p.f1 p.f2) (m ++ [⟨z.f0, z.f1 ++ p.f1, z.f2⟩]) := by
  refine add_j3 m z p hm (.inr (.inl h3.1)) h1 h2 ?_
  rw [decide_eq_true h3]
  refine Ev.step (fun k => by rw [spec_l3Add.j3]) ?_
  rw [len_m1 m z hm, rd_ip, gt_app_1, Int.toNat_natCast, set_last]
  exact ev_pos rfl (ev_pos (by omega) (ev_pos (by rw [List.length_append, List.length_singleton]; omega) (ev_pos hs (ev_ret rfl))))
/-- Nothing joins. -/
theorem add_apart (m : List IP) (z p : IP) (hm : m.length ≤ 100000) (h : p.f0 ≠ 0 ∨ p.f1.size ≠ 0 ∨ p.f2.size ≠ 0) (h1 : ¬ (p.f0 > 0 ∧ z.f0 > 0)) (h2 : ¬ (p.f2.size ≠ 0 ∧ z.f2.size ≠ 0)) (h3 : ¬ (p.f1.size ≠ 0 ∧ z.f1.size ≠ 0)) (h4 : ¬ (p.f1.size ≠ 0 ∧ z.f2.size ≠ 0)) : Ev (fun k => spec_l3Add.f k (m ++ [z]) p.f0 p.f1 p.f2) (m ++ [z, p]) := by
  refine add_j4 m z p hm h h1 h2 h3 ?_
  rw [decide_eq_false h4]
  refine Ev.step (fun k => by rw [spec_l3Add.j4]) ?_
  exact ev_neg (by simp) (ev_pos (by rw [List.length_append, List.length_singleton]; omega) (ev_ret (by rw [List.append_assoc]; rfl)))
/-- A put goes ahead of a drop. -/
theorem add_ahead1 (z p : IP) (h1 : ¬ (p.f0 > 0 ∧ z.f0 > 0)) (h2 : ¬ (p.f2.size ≠ 0 ∧ z.f2.size ≠ 0)) (h3 : ¬ (p.f1.size ≠ 0 ∧ z.f1.size ≠ 0)) (h4 : p.f1.size ≠ 0 ∧ z.f2.size ≠ 0) : Ev (fun k => spec_l3Add.f k [z] p.f0 p.f1 p.f2) [p, z] := by
  refine add_j4 [] z p (by simp) (.inr (.inl h4.1)) h1 h2 h3 ?_
  rw [decide_eq_true h4]
  refine Ev.step (fun k => by rw [spec_l3Add.j4]) ?_
  rw [len_m1 [] z (by simp), Int.toNat_natCast, set_last]
  exact ev_pos rfl (ev_neg (by simp) (ev_pos (by simp) (ev_pos (by simp) (ev_eq rfl (ev_pos (by simp) (ev_ret rfl))))))
theorem len_m2 (m : List IP) (y z : IP) (h : m.length ≤ 90000) : wrap64 (((m ++ [y, z]).length : Int) - 2) = (m.length : Int) := by
  have : (m ++ [y, z]).length = m.length + 2 := by rw [List.length_append]; rfl
  rw [this, wrap_id (by omega) (by omega)]; omega
theorem add_ahead2 (m : List IP) (y z p : IP) (hm : m.length ≤ 90000) (h1 : ¬ (p.f0 > 0 ∧ z.f0 > 0)) (h2 : ¬ (p.f2.size ≠ 0 ∧ z.f2.size ≠ 0)) (h3 : ¬ (p.f1.size ≠ 0 ∧ z.f1.size ≠ 0)) (h4 : p.f1.size ≠ 0 ∧ z.f2.size ≠ 0) (hs : y.f1.size + p.f1.size ≤ 9223372036854775807) :
    Ev (fun k => spec_l3Add.f k (m ++ [y, z]) p.f0 p.f1 p.f2) (if y.f1.size = 0 then m ++ [y, p, z] else m ++ [⟨y.f0, y.f1 ++ p.f1, y.f2⟩, z]) := by
  have em : m ++ [y, z] = (m ++ [y]) ++ [z] := by rw [List.append_assoc]; rfl
  have hl1 : (m ++ [y]).length = m.length + 1 := by rw [List.length_append, List.length_singleton]
  have hl2 : (m ++ [y, z]).length = m.length + 2 := by rw [List.length_append]; rfl
  rw [em]
  refine add_j4 (m ++ [y]) z p (by omega) (.inr (.inl h4.1)) h1 h2 h3 ?_
  rw [decide_eq_true h4]
  refine Ev.step (fun k => by rw [spec_l3Add.j4]) ?_
  rw [len_m1 (m ++ [y]) z (by omega), Int.toNat_natCast, set_last]
  rw [← em, len_m2 m y z hm, rd_ip, gt_app_2, Int.toNat_natCast, set_last2]
  refine ev_pos rfl (ev_pos (by omega) (ev_pos (by omega) (ev_pos (by omega) (ev_if (fun c => ?_) (fun c => ?_)))))
  · rw [toList_nil] at c
    rw [if_pos c]
    refine ev_pos (by omega) (ev_pos (by omega) (ev_eq rfl (ev_pos (by rw [List.length_append, List.length_singleton]; omega) (ev_ret ?_))))
    rw [List.append_assoc, List.append_assoc]; rfl
  · rw [toList_nil] at c
    rw [if_neg c]
    exact ev_pos hs (ev_ret rfl)
/-- The state of the maker is that of the reference: the parts so far, and what is held back. -/
structure Fit (n : Nat) (s : List Pt × ByteArray × ByteArray) : Prop where
  last : s.1 = [] ∨ ∃ m x, s.1 = m ++ [(x, (⟨#[]⟩ : ByteArray), (⟨#[]⟩ : ByteArray))] ∧ 0 < x ∧ x ≤ 300 * (n : Int)
  len : s.1.length ≤ 3 * n
  put : s.2.1.size ≤ 300 * n
  drop : s.2.2.size ≤ 300 * n
def allP (s : List Pt × ByteArray × ByteArray) : List IP := (s.1 ++ endL s.2.1 s.2.2).map ofP
theorem endL_00 {a b : ByteArray} (ha : a.size = 0) (hb : b.size = 0) : endL a b = [] := by
  unfold endL; rw [if_pos ((toList_nil _).2 ha), if_pos ((toList_nil _).2 hb)]; rfl
theorem endL_10 {a b : ByteArray} (ha : a.size ≠ 0) (hb : b.size = 0) : endL a b = [(0, a, ⟨#[]⟩)] := by
  unfold endL; rw [if_neg (fun e => ha ((toList_nil _).1 e)), if_pos ((toList_nil _).2 hb)]; rfl
theorem endL_01 {a b : ByteArray} (ha : a.size = 0) (hb : b.size ≠ 0) : endL a b = [(0, ⟨#[]⟩, b)] := by
  unfold endL; rw [if_pos ((toList_nil _).2 ha), if_neg (fun e => hb ((toList_nil _).1 e))]; rfl
theorem endL_11 {a b : ByteArray} (ha : a.size ≠ 0) (hb : b.size ≠ 0) : endL a b = [(0, a, ⟨#[]⟩), (0, ⟨#[]⟩, b)] := by
  unfold endL; rw [if_neg (fun e => ha ((toList_nil _).1 e)), if_neg (fun e => hb ((toList_nil _).1 e))]; rfl
theorem endL_len (a b : ByteArray) : (endL a b).length ≤ 2 := by unfold endL; rw [List.length_append]; split <;> split <;> simp
theorem sz0 : (⟨#[]⟩ : ByteArray).size = 0 := rfl
theorem keepA_app (m : List Pt) (q : Pt) (x : Int) : keepA (m ++ [q]) x = if q.1 > 0 then m ++ [(wrap64 (q.1 + x), q.2.1, q.2.2)] else m ++ [q, (x, ⟨#[]⟩, ⟨#[]⟩)] := by
  unfold keepA
  rw [List.getLast?_append]
  simp only [List.getLast?_singleton, Option.some_or]
  split
  · rw [List.dropLast_concat]
  · rw [List.append_assoc]; rfl
/-- One part more, by the maker and by the reference. -/
theorem add_step (n : Nat) (s : List Pt × ByteArray × ByteArray) (p : IP) (hn : n ≤ 1000) (hf : Fit n s) (hp : One p) :
    Ev (fun k => spec_l3Add.f k (allP s) p.f0 p.f1 p.f2) (allP (takeP s (toP p))) ∧ Fit (n + 1) (takeP s (toP p)) := by
  obtain ⟨l, a, b⟩ := s
  obtain ⟨f1, f2, f3, f4⟩ := hf
  obtain ⟨p0, p1, p2⟩ := p
  obtain ⟨q1, q2, q3, q4, q5, q6⟩ := hp
  simp only at f1 f2 f3 f4 q1 q2 q3 q4 q5 q6
  have hel := endL_len a b
  by_cases h0 : p0 = 0
  · -- nothing is kept
    subst h0
    have et : takeP (l, a, b) (toP ⟨0, p1, p2⟩) = (l, a ++ p1, b ++ p2) := rfl
    rw [et]
    refine ⟨?_, ?_⟩
    · unfold allP
      simp only
      by_cases h1 : p1.size = 0
      · by_cases h2 : p2.size = 0
        · rw [ba_nil h1, ba_nil h2, ba_app, ba_app]
          exact add_none _ ⟨0, ⟨#[]⟩, ⟨#[]⟩⟩ rfl rfl rfl
        · rw [ba_nil h1, ba_app]
          by_cases hb : b.size = 0
          · rw [ba_nil hb, show (⟨#[]⟩ : ByteArray) ++ p2 = p2 by apply ByteArray.ext; rw [ByteArray.data_append]; simp]
            by_cases ha : a.size = 0
            · rw [endL_00 ha sz0, endL_01 ha h2, List.append_nil, List.map_append]
              rcases f1 with e | ⟨m, x, e, hx, _⟩
              · rw [e]; exact add_first ⟨0, ⟨#[]⟩, p2⟩ (.inr (.inr h2))
              · rw [e, List.map_append]
                have := add_apart (m.map ofP) (ofP (x, ⟨#[]⟩, ⟨#[]⟩)) ⟨0, ⟨#[]⟩, p2⟩ (by rw [e] at f2; simp at f2 ⊢; omega) (.inr (.inr h2)) (by simp) (by simp [ofP, sz0]) (by simp [sz0]) (by simp [sz0])
                rw [List.append_assoc]; exact this
            · rw [endL_10 ha sz0, endL_11 ha h2, List.map_append, List.map_append]
              exact add_apart (l.map ofP) (ofP (0, a, ⟨#[]⟩)) ⟨0, ⟨#[]⟩, p2⟩ (by rw [List.length_map]; omega) (.inr (.inr h2)) (by simp) (by simp [ofP, sz0]) (by simp [sz0]) (by simp [sz0])
          · have hb2 : (b ++ p2).size ≠ 0 := by rw [ba_len_app]; omega
            by_cases ha : a.size = 0
            · rw [endL_01 ha hb, endL_01 ha hb2, List.map_append, List.map_append]
              exact add_drop (l.map ofP) (ofP (0, ⟨#[]⟩, b)) ⟨0, ⟨#[]⟩, p2⟩ (by rw [List.length_map]; omega) (by simp) ⟨h2, hb⟩ (by simp only [ofP]; omega)
            · rw [endL_11 ha hb, endL_11 ha hb2, List.map_append, List.map_append]
              have := add_drop (l.map ofP ++ [ofP (0, a, ⟨#[]⟩)]) (ofP (0, ⟨#[]⟩, b)) ⟨0, ⟨#[]⟩, p2⟩ (by rw [List.length_append, List.length_map, List.length_singleton]; omega) (by simp) ⟨h2, hb⟩ (by simp only [ofP]; omega)
              rw [List.append_assoc, List.append_assoc] at this; exact this
      · have h2 : p2.size = 0 := by omega
        rw [ba_nil h2, ba_app]
        by_cases ha : a.size = 0
        · rw [ba_nil ha, show (⟨#[]⟩ : ByteArray) ++ p1 = p1 by apply ByteArray.ext; rw [ByteArray.data_append]; simp]
          by_cases hb : b.size = 0
          · rw [endL_00 sz0 hb, endL_10 h1 hb, List.append_nil, List.map_append]
            rcases f1 with e | ⟨m, x, e, hx, _⟩
            · rw [e]; exact add_first ⟨0, p1, ⟨#[]⟩⟩ (.inr (.inl h1))
            · rw [e, List.map_append]
              have := add_apart (m.map ofP) (ofP (x, ⟨#[]⟩, ⟨#[]⟩)) ⟨0, p1, ⟨#[]⟩⟩ (by rw [e] at f2; simp at f2 ⊢; omega) (.inr (.inl h1)) (by simp) (by simp [ofP, sz0]) (by simp [ofP, sz0]) (by simp [ofP, sz0])
              rw [List.append_assoc]; exact this
          · rw [endL_01 sz0 hb, endL_11 h1 hb, List.map_append, List.map_append]
            rcases f1 with e | ⟨m, x, e, hx, _⟩
            · rw [e]; exact add_ahead1 (ofP (0, ⟨#[]⟩, b)) ⟨0, p1, ⟨#[]⟩⟩ (by simp) (by simp [sz0]) (by simp [ofP, sz0]) ⟨h1, hb⟩
            · rw [e, List.map_append]
              have := add_ahead2 (m.map ofP) (ofP (x, ⟨#[]⟩, ⟨#[]⟩)) (ofP (0, ⟨#[]⟩, b)) ⟨0, p1, ⟨#[]⟩⟩ (by rw [e] at f2; simp at f2 ⊢; omega) (by simp) (by simp [sz0]) (by simp [ofP, sz0]) ⟨h1, hb⟩ (by simp only [ofP, sz0]; omega)
              rw [if_pos (by rfl)] at this
              rw [List.append_assoc, List.append_assoc]; exact this
        · have ha2 : (a ++ p1).size ≠ 0 := by rw [ba_len_app]; omega
          by_cases hb : b.size = 0
          · rw [endL_10 ha hb, endL_10 ha2 hb, List.map_append, List.map_append]
            exact add_put (l.map ofP) (ofP (0, a, ⟨#[]⟩)) ⟨0, p1, ⟨#[]⟩⟩ (by rw [List.length_map]; omega) (by simp) (by simp [sz0]) ⟨h1, ha⟩ (by simp only [ofP]; omega)
          · rw [endL_11 ha hb, endL_11 ha2 hb, List.map_append, List.map_append]
            have := add_ahead2 (l.map ofP) (ofP (0, a, ⟨#[]⟩)) (ofP (0, ⟨#[]⟩, b)) ⟨0, p1, ⟨#[]⟩⟩ (by rw [List.length_map]; omega) (by simp) (by simp [sz0]) (by simp [ofP, sz0]) ⟨h1, hb⟩ (by simp only [ofP]; omega)
            rw [if_neg (by simp only [ofP]; exact ha)] at this
            exact this
    · refine ⟨?_, by show l.length ≤ _; omega, by show (a ++ p1).size ≤ _; rw [ba_len_app]; omega, by show (b ++ p2).size ≤ _; rw [ba_len_app]; omega⟩
      rcases f1 with e | ⟨m, x, e, hx, hx2⟩
      · exact .inl e
      · exact .inr ⟨m, x, e, hx, by omega⟩
  · -- bytes are kept
    obtain ⟨h1, h2⟩ := q5.resolve_left h0
    have hk : keepS l a b p0 = (keepA (l ++ endL a b) p0, ⟨#[]⟩, ⟨#[]⟩) := by unfold keepS; rw [if_neg h0]
    have et : takeP (l, a, b) (toP ⟨p0, p1, p2⟩) = (keepA (l ++ endL a b) p0, ⟨#[]⟩, ⟨#[]⟩) := by
      unfold takeP toP
      simp only [hk]
      rw [ba_nil h1, ba_nil h2, ba_app]
    rw [et, ba_nil h1, ba_nil h2]
    have hq : ∀ (M : List Pt) (q : Pt), l ++ endL a b = M ++ [q] → q.1 ≤ 300 * (n : Int) → (q.1 > 0 → q.2.1 = ⟨#[]⟩ ∧ q.2.2 = ⟨#[]⟩) →
        Ev (fun k => spec_l3Add.f k (allP (l, a, b)) p0 ⟨#[]⟩ ⟨#[]⟩) (allP (keepA (l ++ endL a b) p0, ⟨#[]⟩, ⟨#[]⟩)) ∧ Fit (n + 1) (keepA (l ++ endL a b) p0, ⟨#[]⟩, ⟨#[]⟩) := by
      intro M q e hq1 hq2
      have hML : M.length + 1 ≤ 3 * n + 2 := by
        have := congrArg List.length e
        rw [List.length_append, List.length_append, List.length_singleton] at this
        omega
      unfold allP
      simp only
      rw [endL_00 sz0 sz0, List.append_nil, e, keepA_app]
      by_cases hx : q.1 > 0
      · rw [if_pos hx, List.map_append, List.map_append]
        refine ⟨add_keep (M.map ofP) (ofP q) ⟨p0, ⟨#[]⟩, ⟨#[]⟩⟩ (by rw [List.length_map]; omega) ⟨by simp only; omega, hx⟩, ?_⟩
        rw [wrap_id (by omega) (by omega)]
        obtain ⟨e1, e2⟩ := hq2 hx
        refine ⟨.inr ⟨M, q.1 + p0, by rw [e1, e2], by omega, by omega⟩, ?_, Nat.zero_le _, Nat.zero_le _⟩
        simp only [List.length_append, List.length_cons, List.length_nil]; omega
      · rw [if_neg hx, List.map_append, List.map_append]
        refine ⟨add_apart (M.map ofP) (ofP q) ⟨p0, ⟨#[]⟩, ⟨#[]⟩⟩ (by rw [List.length_map]; omega) (.inl (by simp only; omega)) (fun c => hx c.2) (by simp [sz0]) (by simp [sz0]) (by simp [sz0]), ?_⟩
        refine ⟨.inr ⟨M ++ [q], p0, by rw [List.append_assoc]; rfl, by omega, by omega⟩, ?_, Nat.zero_le _, Nat.zero_le _⟩
        simp only [List.length_append, List.length_cons, List.length_nil]; omega
    by_cases ha : a.size = 0
    · by_cases hb : b.size = 0
      · rcases f1 with e | ⟨m, x, e, hx, hx2⟩
        · subst e
          unfold allP
          rw [endL_00 ha hb]
          simp only [List.nil_append, List.map_nil]
          rw [endL_00 sz0 sz0]
          refine ⟨add_first ⟨p0, ⟨#[]⟩, ⟨#[]⟩⟩ (.inl h0), ⟨.inr ⟨[], p0, rfl, by omega, by omega⟩, by show 1 ≤ _; omega, Nat.zero_le _, Nat.zero_le _⟩⟩
        · exact hq m (x, ⟨#[]⟩, ⟨#[]⟩) (by rw [endL_00 ha hb, List.append_nil]; exact e) (by simp only; omega) (fun _ => ⟨rfl, rfl⟩)
      · exact hq l (0, ⟨#[]⟩, b) (by rw [endL_01 ha hb]) (by simp only; omega) (fun c => absurd c (by simp))
    · by_cases hb : b.size = 0
      · exact hq l (0, a, ⟨#[]⟩) (by rw [endL_10 ha hb]) (by simp only; omega) (fun c => absurd c (by simp))
      · exact hq (l ++ [(0, a, ⟨#[]⟩)]) (0, ⟨#[]⟩, b) (by rw [endL_11 ha hb, List.append_assoc]; rfl) (by simp only; omega) (fun c => absurd c (by simp))
theorem fit_zero : Fit 0 ([], (⟨#[]⟩ : ByteArray), (⟨#[]⟩ : ByteArray)) := ⟨.inl rfl, Nat.le_refl _, Nat.le_refl _, Nat.le_refl _⟩
def normI (l : List IP) : List IP := (normP (l.map toP)).map ofP
theorem one_guard (l : List IP) (hl : l.length ≤ 60) (hp : ∀ p ∈ l, One p) : l.length ≤ 60 ∧ (l.all fun x => decide (x.f1.size ≤ 300 ∧ x.f2.size ≤ 300)) = true :=
  ⟨hl, List.all_eq_true.2 fun x hx => decide_eq_true ⟨(hp x hx).2.2.1, (hp x hx).2.2.2.1⟩⟩
theorem impl_normal_f (l : List IP) (hl : l.length ≤ 60) (hp : ∀ p ∈ l, One p) : impl_normal.f l = some (normI l) := by
  unfold impl_normal.f
  rw [if_pos (one_guard l hl hp)]; rfl
theorem normI_len (l : List IP) (hl : l.length ≤ 60) (hp : ∀ p ∈ l, One p) : (normI l).length ≤ 200 := by
  obtain ⟨b1, _, _⟩ := stN_bound l (fun x hx => ⟨(hp x hx).2.2.1, (hp x hx).2.2.2.1⟩) l.length (Nat.le_refl _)
  have e : stN l l.length = (l.map toP).foldl takeP ([], ⟨#[]⟩, ⟨#[]⟩) := by unfold stN; rw [List.take_of_length_le (Nat.le_refl _)]
  rw [e] at b1
  have := endL_len ((l.map toP).foldl takeP ([], ⟨#[]⟩, ⟨#[]⟩)).2.1 ((l.map toP).foldl takeP ([], ⟨#[]⟩, ⟨#[]⟩)).2.2
  unfold normI normP
  rw [List.length_map, List.length_append]; omega

def Small (n : Nat) (L : List Pt) : Prop := ∀ q ∈ L, q.2.1.size ≤ 300 * n ∧ q.2.2.size ≤ 300 * n
theorem Small.app {n : Nat} {A B : List Pt} (ha : Small n A) (hb : Small n B) : Small n (A ++ B) := fun q h => (List.mem_append.1 h).elim (ha q) (hb q)
theorem small_endL {n : Nat} {a b : ByteArray} (ha : a.size ≤ 300 * n) (hb : b.size ≤ 300 * n) : Small n (endL a b) := by
  intro q hq
  unfold endL at hq
  rcases List.mem_append.1 hq with h | h
  · split at h
    · cases h
    · rw [List.mem_singleton.1 h]; exact ⟨ha, Nat.zero_le _⟩
  · split at h
    · cases h
    · rw [List.mem_singleton.1 h]; exact ⟨Nat.zero_le _, hb⟩
theorem small_keepA {n : Nat} {L : List Pt} (h : Small n L) (x : Int) : Small n (keepA L x) := by
  unfold keepA
  split
  · rename_i p hp
    have hm := List.mem_of_getLast? hp
    split
    · exact Small.app (fun q hq => h q (List.dropLast_subset _ hq)) (fun q hq => by rw [List.mem_singleton.1 hq]; exact h p hm)
    · exact Small.app h (fun q hq => by rw [List.mem_singleton.1 hq]; exact ⟨Nat.zero_le _, Nat.zero_le _⟩)
  · intro q hq; rw [List.mem_singleton.1 hq]; exact ⟨Nat.zero_le _, Nat.zero_le _⟩
theorem small_take {n : Nat} {s : List Pt × ByteArray × ByteArray} (p : Pt) (h : Small n s.1) (ha : s.2.1.size ≤ 300 * n) (hb : s.2.2.size ≤ 300 * n) : Small n (takeP s p).1 := by
  unfold takeP keepS
  simp only
  split
  · exact h
  · exact small_keepA (Small.app h (small_endL ha hb)) _
theorem small_stN (l : List IP) (hs : ∀ x ∈ l, x.f1.size ≤ 300 ∧ x.f2.size ≤ 300) : ∀ i, i ≤ l.length → Small i (stN l i).1
  | 0, _ => fun q h => by cases h
  | i + 1, h => by
    have ih := small_stN l hs i (by omega)
    obtain ⟨_, h2, h3⟩ := stN_bound l hs i (by omega)
    rw [stN_succ l i (by omega)]
    intro q hq
    have := small_take (toP (l[i]'(by omega))) ih h2 h3 q hq
    omega
theorem normI_small (l : List IP) (hl : l.length ≤ 60) (hp : ∀ p ∈ l, One p) : ∀ x ∈ normI l, x.f1.size ≤ 1048576 ∧ x.f2.size ≤ 1048576 := by
  have hs : ∀ x ∈ l, x.f1.size ≤ 300 ∧ x.f2.size ≤ 300 := fun x hx => ⟨(hp x hx).2.2.1, (hp x hx).2.2.2.1⟩
  obtain ⟨_, b2, b3⟩ := stN_bound l hs l.length (Nat.le_refl _)
  have b1 := small_stN l hs l.length (Nat.le_refl _)
  have e : stN l l.length = (l.map toP).foldl takeP ([], ⟨#[]⟩, ⟨#[]⟩) := by unfold stN; rw [List.take_of_length_le (Nat.le_refl _)]
  rw [e] at b1 b2 b3
  intro x hx
  unfold normI normP at hx
  obtain ⟨q, hq, rfl⟩ := List.mem_map.1 hx
  have := Small.app b1 (small_endL b2 b3) q hq
  exact ⟨by show q.2.1.size ≤ _; omega, by show q.2.2.size ≤ _; omega⟩

theorem goodB_size' {s : ByteArray} (h : goodB (bytesOf s) = true) : s.size ≤ 300 := by
  unfold goodB at h
  rw [Bool.and_eq_true, bytesOf_length] at h
  exact of_decide_eq_true h.2
theorem part_facts {p : IP} (h : partB p = true) : 0 ≤ p.f0 ∧ p.f0 ≤ 300 ∧ p.f1.size ≤ 300 ∧ p.f2.size ≤ 300 ∧ (p.f0 = 0 ∨ p.f2.size = 0) := by
  unfold partB at h
  by_cases c0 : p.f0 = 0
  · rw [if_pos c0] at h
    by_cases c1 : p.f1.toList = ([] : List UInt8)
    · rw [if_pos c1] at h
      rw [toList_nil] at c1
      by_cases c2 : p.f2.toList = ([] : List UInt8)
      · rw [if_pos c2] at h; cases h
      · rw [if_neg c2] at h
        have := goodB_size' h
        exact ⟨by omega, by omega, by omega, by omega, Or.inl c0⟩
    · rw [if_neg c1] at h
      by_cases c2 : p.f2.toList = ([] : List UInt8)
      · rw [if_pos c2] at h
        rw [toList_nil] at c2
        have := goodB_size' h
        exact ⟨by omega, by omega, by omega, by omega, Or.inl c0⟩
      · rw [if_neg c2] at h; cases h
  · rw [if_neg c0, Bool.and_eq_true, Bool.and_eq_true] at h
    obtain ⟨a, b, c⟩ := h
    have a := of_decide_eq_true a
    have b := (toList_nil _).1 (of_decide_eq_true b)
    have c := (toList_nil _).1 (by simpa using c)
    exact ⟨by omega, by omega, by omega, by omega, Or.inr c⟩
theorem goodO_facts {l : List IP} (h : goodO l = true) : l.length ≤ 60 ∧ (∀ p ∈ l, partB p = true) ∧ tkS l 0 ≤ 300 ∧ mkS l 0 ≤ 300 := by
  unfold goodO at h
  rw [Bool.and_eq_true, Bool.and_eq_true, List.all_eq_true] at h
  have a := of_decide_eq_true h.1
  have b := of_decide_eq_true h.2.2
  exact ⟨a, h.2.1, b.1, b.2⟩

theorem bytesOf_extract (s : ByteArray) (a b : Nat) : bytesOf (s.extract a b) = ((bytesOf s).take b).drop a := by
  unfold bytesOf
  rw [ByteArray.data_extract, Array.toList_extract]
  simp only [List.extract_eq_take_drop, List.map_take, List.map_drop, List.drop_take]
theorem size_extract (s : ByteArray) (a b : Nat) (hb : b ≤ s.size) : (s.extract a b).size = b - a := by
  rw [ByteArray.size_extract]; omega

theorem laws_markText_l (m : Nat) : ∀ (n : Nat) (t : ByteArray), n ≤ m → n ≤ 2305843009213693952 → t.size + n ≤ 2305843009213693952 → ∃ r, Ev (fun k => laws_markText.l0 k (n : Int) t) r := by
  induction m with
  | zero =>
    intro n t h0 h1 h2
    obtain rfl : n = 0 := by omega
    exact ⟨_, Ev.step (fun k => by rw [laws_markText.l0]) (ev_neg (by omega) (ev_pos (by omega) (ev_ret rfl)))⟩
  | succ m ih =>
    intro n t h0 h1 h2
    by_cases hn : n = 0
    · subst hn
      exact ⟨_, Ev.step (fun k => by rw [laws_markText.l0]) (ev_neg (by omega) (ev_pos (by omega) (ev_ret rfl)))⟩
    · have e : wrap64 (Int.tdiv (n : Int) 10) = ((n / 10 : Nat) : Int) := by
        rw [Int.tdiv_eq_ediv_of_nonneg (by omega)]; unfold wrap64; omega
      have hs : ∀ x : Int, (strOfNums [x]).size = 1 := fun x => rfl
      obtain ⟨r, hr⟩ := ih (n / 10) (strOfNums [(wrap64 (48 + (Int.tmod (n : Int) 10))) % 256] ++ t) (by omega) (by omega) (by rw [ByteArray.size_append, hs]; omega)
      refine ⟨r, ?_⟩
      refine Ev.step (fun k => by rw [laws_markText.l0]) ?_
      refine ev_pos (by omega) (ev_some ?_)
      refine ev_pos (by rw [hs]; omega) ?_
      rw [e]; exact hr
noncomputable def MT (n : Int) : ByteArray := @Classical.epsilon ByteArray ⟨ByteArray.empty⟩ (fun r => Ev (fun k => laws_markText.f k n) r)
theorem MT_ev (n : Int) (h0 : 0 ≤ n) (h1 : n ≤ 1152921504606846990) : Ev (fun k => laws_markText.f k n) (MT n) := by
  refine @Classical.epsilon_spec ByteArray (fun r => Ev (fun k => laws_markText.f k n) r) ?_
  obtain ⟨m, rfl⟩ := Int.eq_ofNat_of_zero_le h0
  by_cases hm : m = 0
  · subst hm
    exact ⟨_, by unfold laws_markText.f; exact ev_pos (by omega) (ev_ret rfl)⟩
  · obtain ⟨r, hr⟩ := laws_markText_l m m ⟨#[]⟩ (Nat.le_refl _) (by omega) (by show 0 + m ≤ _; omega)
    exact ⟨r, by unfold laws_markText.f; exact ev_neg (by omega) hr⟩

noncomputable def mvPart (kk : Int) : IP := (⟨kk, (MT (kk + 1)), (MT (kk + 2))⟩ : IP)
noncomputable def mkPart (kk : Int) (n : Nat) : List IP := (List.range n).map (fun (i : Nat) => mvPart (kk + 3 * (i : Int)))
theorem mkPart_len (kk : Int) (n : Nat) : (mkPart kk n).length = n := by simp [mkPart]
theorem mkPart_succ (kk : Int) (n : Nat) : mkPart kk (n + 1) = mkPart kk n ++ [mvPart (kk + 3 * (n : Int))] := by simp [mkPart, List.range_succ]
theorem mkPart_gt (kk : Int) (n i : Nat) (h : i < n) : gt izP (mkPart kk n) i = mvPart (kk + 3 * (i : Int)) := by
  unfold gt mkPart; rw [List.getD_eq_getElem?_getD, List.getElem?_map, List.getElem?_range h]; rfl
theorem laws_markPartS_r (x0 : List IP) (kk : Int) (i : Nat) (hi : i < x0.length) (hx : x0.length ≤ 1152921504606846976) (h0 : 0 ≤ kk) (h1 : kk ≤ 1152921504606846976) {r : Int × List IP}
    (h : Ev (fun k => laws_markPartS.l0 k (x0.set i (mvPart kk)) (kk + 3) ((i + 1 : Nat) : Int)) r) : Ev (fun k => laws_markPartS.l0 k x0 kk (i : Int)) r := by
  have w1 : wrap64 (kk + 1) = kk + 1 := by unfold wrap64; omega
  have w2 : wrap64 ((kk + 1) + 1) = kk + 2 := by unfold wrap64; omega
  have w3 : wrap64 ((kk + 2) + 1) = kk + 3 := by unfold wrap64; omega
  refine Ev.step (fun k => by rw [laws_markPartS.l0]) ?_
  refine ev_pos (by omega) ?_
  simp only [w1, w2, w3, wrap_succ i (by omega)]
  refine ev_pos (by omega) ?_
  refine ev_some ?_
  refine Ev.bind (MT_ev _ (by omega) (by omega)) ?_
  refine ev_some ?_
  refine Ev.bind (MT_ev _ (by omega) (by omega)) ?_
  refine ev_val' ?_ h; intro k; simp [rd_ip, gt_set, List.set_set, hi, mvPart]
theorem laws_markPartS_l (l : List IP) (kk : Int) (hl : l.length ≤ 1073741824) (h0 : 0 ≤ kk) (h1 : kk ≤ 1073741824) (d : Nat) : ∀ i : Nat, i + d = l.length →
    Ev (fun k => laws_markPartS.l0 k (mkPart kk i ++ l.drop i) (kk + 3 * (i : Int)) (i : Int)) (kk + 3 * (l.length : Int), mkPart kk l.length) := by
  induction d with
  | zero =>
    intro i hi
    refine Ev.step (fun k => by rw [laws_markPartS.l0]) ?_
    refine ev_neg (by simp [mkPart_len]; omega) (ev_ret ?_)
    have : i = l.length := by omega
    subst this; simp
  | succ d ih =>
    intro i hi
    refine laws_markPartS_r _ _ i (by simp [mkPart_len]; omega) (by simp [mkPart_len]; omega) (by omega) (by omega) ?_
    have e : (mkPart kk i ++ l.drop i).set i (mvPart (kk + 3 * (i : Int))) = mkPart kk (i + 1) ++ l.drop (i + 1) := by
      rw [gt_drop izP l i (by omega), List.set_append_right _ _ (by simp [mkPart_len]), mkPart_len, Nat.sub_self, mkPart_succ]; simp
    have e2 : kk + 3 * (i : Int) + 3 = kk + 3 * ((i + 1 : Nat) : Int) := by omega
    rw [e, e2]
    exact ih (i + 1) (by omega)
theorem laws_markPartS_f (l : List IP) (kk : Int) (hl : l.length ≤ 1073741824) (h0 : 0 ≤ kk) (h1 : kk ≤ 1073741824) :
    Ev (fun k => laws_markPartS.f k l kk) (kk + 3 * (l.length : Int), mkPart kk l.length) := by
  unfold laws_markPartS.f
  have := laws_markPartS_l l kk hl h0 h1 l.length 0 (by omega)
  have e0 : mkPart kk 0 ++ l.drop 0 = l := by simp [mkPart]
  have e1 : kk + 3 * ((0 : Nat) : Int) = kk := by omega
  rw [e0, e1] at this
  exact this

theorem laws_heldPartS_l (kk : Int) (n : Nat) (hl : n ≤ 1073741824) (h0 : 0 ≤ kk) (h1 : kk ≤ 1073741824) (d : Nat) : ∀ i : Nat, i + d = n →
    Ev (fun k => laws_heldPartS.l0 k (mkPart kk n) (kk + 3 * (i : Int)) (i : Int)) (kk + 3 * (n : Int)) := by
  induction d with
  | zero =>
    intro i hi
    refine Ev.step (fun k => by rw [laws_heldPartS.l0]) ?_
    refine ev_neg (by rw [mkPart_len]; omega) (ev_ret ?_)
    have : i = n := by omega
    subst this; rfl
  | succ d ih =>
    intro i hi
    have hn : i < n := by omega
    have ih' := ih (i + 1) (by omega)
    refine Ev.step (fun k => by rw [laws_heldPartS.l0]) ?_
    refine ev_pos (by rw [mkPart_len]; omega) (ev_pos (by omega) ?_)
    have e2 : kk + 3 * ((i + 1 : Nat) : Int) = kk + 3 * (i : Int) + 3 := by omega
    rw [e2] at ih'
    have g0 : 0 ≤ kk + 3 * (i : Int) := by omega
    have g1 : kk + 3 * (i : Int) ≤ 1152921504606846976 := by omega
    simp only [rd_ip, mkPart_gt _ _ _ hn]
    generalize kk + 3 * (i : Int) = kk at g0 g1 ih' ⊢
    have w1 : wrap64 (kk + 1) = kk + 1 := by unfold wrap64; omega
    have w2 : wrap64 ((kk + 1) + 1) = kk + 2 := by unfold wrap64; omega
    have w3 : wrap64 ((kk + 2) + 1) = kk + 3 := by unfold wrap64; omega
    simp only [w1, w2, w3, wrap_succ i (by omega)]
    refine ev_pos rfl ?_
    refine Ev.bind (MT_ev _ (by omega) (by omega)) ?_
    refine ev_pos rfl ?_
    refine Ev.bind (MT_ev _ (by omega) (by omega)) ?_
    refine ev_pos rfl ?_
    exact ih'
theorem laws_heldPartS_f (kk : Int) (n : Nat) (hl : n ≤ 1073741824) (h0 : 0 ≤ kk) (h1 : kk ≤ 1073741824) :
    Ev (fun k => laws_heldPartS.f k (mkPart kk n) kk) (kk + 3 * (n : Int)) := by
  unfold laws_heldPartS.f
  have := laws_heldPartS_l kk n hl h0 h1 n 0 (by omega)
  have e1 : kk + 3 * ((0 : Nat) : Int) = kk := by omega
  rw [e1] at this
  exact this

theorem KeepAll_f (n : Int) (h : 0 ≤ n ∧ n ≤ 300) : (normI [⟨n, ⟨#[]⟩, ⟨#[]⟩⟩]).length ≤ 200 ∧ (∀ x ∈ normI [⟨n, ⟨#[]⟩, ⟨#[]⟩⟩], x.f1.size ≤ 1048576 ∧ x.f2.size ≤ 1048576) ∧ Ev (fun k => spec_l3Add.f k [] n ⟨#[]⟩ ⟨#[]⟩) (normI [⟨n, ⟨#[]⟩, ⟨#[]⟩⟩]) ∧ impl_KeepAll.f n = some (normI [⟨n, ⟨#[]⟩, ⟨#[]⟩⟩], true) := by
  have ho : One ⟨n, ⟨#[]⟩, ⟨#[]⟩⟩ := ⟨h.1, h.2, Nat.zero_le _, Nat.zero_le _, .inr ⟨rfl, rfl⟩, .inl rfl⟩
  have ha : ∀ p ∈ ([⟨n, ⟨#[]⟩, ⟨#[]⟩⟩] : List IP), One p := fun p hp => by rw [List.mem_singleton.1 hp]; exact ho
  have hn := impl_normal_f [⟨n, ⟨#[]⟩, ⟨#[]⟩⟩] (by simp) ha
  refine ⟨normI_len _ (by simp) ha, normI_small _ (by simp) ha, ?_, ?_⟩
  · have h1 := (add_step 0 ([], ⟨#[]⟩, ⟨#[]⟩) ⟨n, ⟨#[]⟩, ⟨#[]⟩⟩ (by omega) fit_zero ho).1
    have e : allP ([], (⟨#[]⟩ : ByteArray), (⟨#[]⟩ : ByteArray)) = [] := by unfold allP; rw [endL_00 sz0 sz0]; rfl
    rw [e] at h1
    exact h1
  · unfold impl_KeepAll.f
    rw [if_neg (by omega), if_neg (by omega), hn]; rfl
/-- A change that is normal of one keep is good. -/
theorem keep_good (n : Int) (h : 0 ≤ n ∧ n ≤ 300) : goodO (normI [⟨n, ⟨#[]⟩, ⟨#[]⟩⟩]) = true := by
  by_cases h0 : n = 0
  · subst h0
    have : normI [⟨0, ⟨#[]⟩, ⟨#[]⟩⟩] = [] := by
      show allP (takeP ([], ⟨#[]⟩, ⟨#[]⟩) (toP ⟨0, ⟨#[]⟩, ⟨#[]⟩⟩)) = []
      have : takeP ([], ⟨#[]⟩, ⟨#[]⟩) (toP ⟨0, ⟨#[]⟩, ⟨#[]⟩⟩) = ([], (⟨#[]⟩ : ByteArray) ++ ⟨#[]⟩, (⟨#[]⟩ : ByteArray) ++ ⟨#[]⟩) := rfl
      rw [this, ba_app]; unfold allP; rw [endL_00 sz0 sz0]; rfl
    rw [this]
    unfold goodO
    simp [tkS, mkS]
  · have : normI [⟨n, ⟨#[]⟩, ⟨#[]⟩⟩] = [⟨n, ⟨#[]⟩, ⟨#[]⟩⟩] := by
      show allP (takeP ([], ⟨#[]⟩, ⟨#[]⟩) (toP ⟨n, ⟨#[]⟩, ⟨#[]⟩⟩)) = _
      have hk : keepS [] ⟨#[]⟩ ⟨#[]⟩ n = (keepA ([] ++ endL ⟨#[]⟩ ⟨#[]⟩) n, ⟨#[]⟩, ⟨#[]⟩) := by unfold keepS; rw [if_neg h0]
      unfold takeP toP
      simp only [hk]
      rw [ba_app, endL_00 sz0 sz0]
      unfold allP
      simp only
      rw [endL_00 sz0 sz0]; rfl
    rw [this]
    have e : (⟨n, ⟨#[]⟩, ⟨#[]⟩⟩ : IP).f0 = n := rfl
    have hp : partB ⟨n, ⟨#[]⟩, ⟨#[]⟩⟩ = true := by
      unfold partB
      simp only
      rw [if_neg h0, decide_eq_true (show 1 ≤ n ∧ n ≤ 300 by omega), decide_eq_true nil_nil, beq_iff_eq.2 nil_nil]; rfl
    have hz : wrap64 (n + ((0 : Nat) : Int)) = n := by rw [wrap_id (by omega) (by omega)]; omega
    have ht : tkS [⟨n, ⟨#[]⟩, ⟨#[]⟩⟩] 0 = n := by
      show wrap64 (0 + wrap64 (n + ((0 : Nat) : Int))) = n
      rw [hz, wrap_id (by omega) (by omega)]; omega
    have hm : mkS [⟨n, ⟨#[]⟩, ⟨#[]⟩⟩] 0 = n := by
      show wrap64 (0 + wrap64 (n + ((0 : Nat) : Int))) = n
      rw [hz, wrap_id (by omega) (by omega)]; omega
    unfold goodO
    rw [ht, hm, List.all_cons, hp, decide_eq_true (show n ≤ 300 ∧ n ≤ 300 by omega)]
    rfl
theorem splice4 (x y : Int) (put drop : ByteArray) (hx : 0 ≤ x ∧ x ≤ 300) (hy : 0 ≤ y ∧ y ≤ 300) (h1 : put.size ≤ 300) (h2 : drop.size ≤ 300) :
    ∃ r : List IP, r.length ≤ 200 ∧ (∀ x ∈ r, x.f1.size ≤ 1048576 ∧ x.f2.size ≤ 1048576) ∧ impl_normal.f [⟨x, ⟨#[]⟩, ⟨#[]⟩⟩, ⟨0, put, ⟨#[]⟩⟩, ⟨0, ⟨#[]⟩, drop⟩, ⟨y, ⟨#[]⟩, ⟨#[]⟩⟩] = some r ∧
      ∃ a b c : List IP, Ev (fun k => spec_l3Add.f k [] x ⟨#[]⟩ ⟨#[]⟩) a ∧ Ev (fun k => spec_l3Add.f k a 0 put ⟨#[]⟩) b ∧ Ev (fun k => spec_l3Add.f k b 0 ⟨#[]⟩ drop) c ∧ Ev (fun k => spec_l3Add.f k c y ⟨#[]⟩ ⟨#[]⟩) r := by
  have o1 : One ⟨x, ⟨#[]⟩, ⟨#[]⟩⟩ := ⟨hx.1, hx.2, Nat.zero_le _, Nat.zero_le _, .inr ⟨rfl, rfl⟩, .inl rfl⟩
  have o2 : One ⟨0, put, ⟨#[]⟩⟩ := ⟨Int.le_refl _, (by show (0 : Int) ≤ 300; omega), h1, Nat.zero_le _, .inl rfl, .inr rfl⟩
  have o3 : One ⟨0, ⟨#[]⟩, drop⟩ := ⟨Int.le_refl _, (by show (0 : Int) ≤ 300; omega), Nat.zero_le _, h2, .inl rfl, .inl rfl⟩
  have o4 : One ⟨y, ⟨#[]⟩, ⟨#[]⟩⟩ := ⟨hy.1, hy.2, Nat.zero_le _, Nat.zero_le _, .inr ⟨rfl, rfl⟩, .inl rfl⟩
  have ha : ∀ p ∈ ([⟨x, ⟨#[]⟩, ⟨#[]⟩⟩, ⟨0, put, ⟨#[]⟩⟩, ⟨0, ⟨#[]⟩, drop⟩, ⟨y, ⟨#[]⟩, ⟨#[]⟩⟩] : List IP), One p := by
    intro p hp
    simp only [List.mem_cons, List.not_mem_nil, or_false] at hp
    rcases hp with rfl | rfl | rfl | rfl
    · exact o1
    · exact o2
    · exact o3
    · exact o4
  obtain ⟨s1, f1⟩ := add_step 0 ([], ⟨#[]⟩, ⟨#[]⟩) _ (by omega) fit_zero o1
  obtain ⟨s2, f2⟩ := add_step 1 _ _ (by omega) f1 o2
  obtain ⟨s3, f3⟩ := add_step 2 _ _ (by omega) f2 o3
  obtain ⟨s4, _⟩ := add_step 3 _ _ (by omega) f3 o4
  have e : allP ([], (⟨#[]⟩ : ByteArray), (⟨#[]⟩ : ByteArray)) = [] := by unfold allP; rw [endL_00 sz0 sz0]; rfl
  rw [e] at s1
  exact ⟨_, normI_len _ (by simp) ha, normI_small _ (by simp) ha, impl_normal_f _ (by simp) ha, _, _, _, s1, s2, s3, s4⟩
theorem impl_areRange_f (s : ByteArray) (a b : Int) : impl_areRange.f s a b = some (decide (0 ≤ a ∧ a ≤ b ∧ b ≤ (s.size : Int))) := by
  unfold impl_areRange.f; split
  · split
    · rw [Option.some.injEq]; exact decide_eq_decide.2 (by omega)
    · symm; rw [decide_eq_false (by omega)]
  · symm; rw [decide_eq_false (by omega)]
theorem impl_goodOp_f (l : List IP) (hw : ∀ x ∈ l, x.f1.size ≤ 1048576 ∧ x.f2.size ≤ 1048576) : Ev (fun k => impl_goodOp.f k l) (if goodO l = true then (l, true) else ([], false)) := by
  unfold impl_goodOp.f
  exact Ev.bind (impl_GoodOp_f l hw) (ev_if (fun h => ev_ret (by rw [if_pos h])) (fun h => ev_ret (by rw [if_neg h])))
theorem specJ (s : ByteArray) (a b : Int) (p : ByteArray) : Ev (fun k => spec_SpliceOp.j0 k s a b p true) ([], false) := by
  refine Ev.step (fun k => by rw [spec_SpliceOp.j0]) ?_
  exact ev_pos rfl (ev_ret rfl)
theorem implJ (s : ByteArray) (a b : Int) (p : ByteArray) : Ev (fun k => impl_SpliceOp.j0 k s a b p true) ([], false) := by
  refine Ev.step (fun k => by rw [impl_SpliceOp.j0]) ?_
  exact ev_pos rfl (ev_ret rfl)
theorem SpliceOp_f (s : ByteArray) (hs : s.size ≤ 140737488351232) (a b : Int) (p : ByteArray) (hp : p.size ≤ 140737488351232) :
    ∃ r : List IP × Bool, r.1.length ≤ 200 ∧ Ev (fun k => spec_SpliceOp.f k s a b p) r ∧ Ev (fun k => impl_SpliceOp.f k s a b p) r := by
  by_cases g1 : goodB (bytesOf s) = true
  · by_cases g2 : goodB (bytesOf p) = true
    · by_cases g3 : 0 ≤ a ∧ a ≤ b ∧ b ≤ (s.size : Int)
      · have z1 := goodB_size' g1
        have z2 := goodB_size' g2
        obtain ⟨an, rfl⟩ := Int.eq_ofNat_of_zero_le g3.1
        obtain ⟨bn, rfl⟩ := Int.eq_ofNat_of_zero_le (show 0 ≤ b by omega)
        have zx : (s.extract an bn).size ≤ 300 := by rw [size_extract _ _ _ (by omega)]; omega
        have hsp : ∀ r, Ev (fun k => spec_SpliceOp.j0 k s (an : Int) (bn : Int) p false) r → Ev (fun k => spec_SpliceOp.f k s (an : Int) (bn : Int) p) r := fun r h => by
          unfold spec_SpliceOp.f
          exact Ev.bind (spec_GoodText_f s hs) (ev_pos g1 (Ev.bind (spec_GoodText_f p hp) (ev_pos g2 (ev_eq (spec_l1In_f _ _ _) (ev_pos (decide_eq_true (by omega)) (ev_eq (spec_l1In_f _ _ _) (by rw [decide_eq_true (by omega)]; exact h)))))))
        have him : ∀ r, Ev (fun k => impl_SpliceOp.j0 k s (an : Int) (bn : Int) p false) r → Ev (fun k => impl_SpliceOp.f k s (an : Int) (bn : Int) p) r := fun r h => by
          unfold impl_SpliceOp.f
          exact Ev.bind (impl_GoodText_f s hs) (ev_pos g1 (Ev.bind (impl_GoodText_f p hp) (ev_pos g2 (ev_eq (impl_areRange_f _ _ _) (by rw [decide_eq_true g3]; exact h)))))
        by_cases c : (s.extract an bn).toList = p.toList
        · obtain ⟨k1, k2, k3, k4⟩ := KeepAll_f (s.size : Int) (by omega)
          have kg := keep_good (s.size : Int) (by omega)
          refine ⟨(normI [⟨(s.size : Int), ⟨#[]⟩, ⟨#[]⟩⟩], true), k1, hsp _ ?_, him _ ?_⟩
          · refine Ev.step (fun k => by rw [spec_SpliceOp.j0]) ?_
            refine ev_neg (by simp) (Ev.bind (a := normI [⟨(s.size : Int), ⟨#[]⟩, ⟨#[]⟩⟩]) ?_ (Ev.bind (spec_GoodOp_f _ k2) (ev_pos kg (ev_ret rfl))))
            unfold spec_l3Splice.f
            rw [Int.toNat_natCast, Int.toNat_natCast]
            exact ev_pos (by omega) (ev_pos (by omega) (ev_pos (by omega) (ev_pos c (Ev.bind k3 (ev_ret rfl)))))
          · refine Ev.step (fun k => by rw [impl_SpliceOp.j0]) ?_
            rw [Int.toNat_natCast, Int.toNat_natCast]
            exact ev_neg (by simp) (ev_pos (by omega) (ev_pos (by omega) (ev_pos (by omega) (ev_pos c (ev_eq k4 (ev_ret rfl))))))
        · obtain ⟨r, r1, r2, r3, t1, t2, t3, q1, q2, q3, q4⟩ := splice4 (an : Int) ((s.size : Int) - (bn : Int)) p (s.extract an bn) (by omega) (by omega) z2 zx
          have ew : wrap64 ((s.size : Int) - (bn : Int)) = (s.size : Int) - (bn : Int) := wrap_id (by omega) (by omega)
          refine ⟨(if goodO r = true then (r, true) else ([], false)), ?_, hsp _ ?_, him _ ?_⟩
          · by_cases h : goodO r = true
            · rw [if_pos h]; exact r1
            · rw [if_neg h]; exact Nat.zero_le _
          · refine Ev.step (fun k => by rw [spec_SpliceOp.j0]) ?_
            refine ev_neg (by simp) (Ev.bind (a := r) ?_ (Ev.bind (spec_GoodOp_f _ r2) (ev_if (fun h => ev_ret (by rw [if_pos h])) (fun h => ev_ret (by rw [if_neg h])))))
            unfold spec_l3Splice.f
            rw [Int.toNat_natCast, Int.toNat_natCast, ew]
            exact ev_pos (by omega) (ev_pos (by omega) (ev_pos (by omega) (ev_neg c (Ev.bind q1 (Ev.bind q2 (Ev.bind q3 (Ev.bind q4 (ev_ret rfl))))))))
          · refine Ev.step (fun k => by rw [impl_SpliceOp.j0]) ?_
            rw [Int.toNat_natCast, Int.toNat_natCast, ew]
            exact ev_neg (by simp) (ev_pos (by omega) (ev_pos (by omega) (ev_pos (by omega) (ev_neg c (ev_eq r3 (Ev.bind (impl_goodOp_f _ r2) (ev_ret rfl)))))))
      · refine ⟨([], false), Nat.zero_le _, ?_, ?_⟩
        · unfold spec_SpliceOp.f
          refine Ev.bind (spec_GoodText_f s hs) (ev_pos g1 (Ev.bind (spec_GoodText_f p hp) (ev_pos g2 (ev_eq (spec_l1In_f _ _ _) (ev_if (fun h1 => ev_eq (spec_l1In_f _ _ _) ?_) (fun h1 => ?_))))))
          · have h1' := of_decide_eq_true h1
            rw [decide_eq_false (by omega)]
            exact specJ s a b p
          · exact specJ s a b p
        · unfold impl_SpliceOp.f
          refine Ev.bind (impl_GoodText_f s hs) (ev_pos g1 (Ev.bind (impl_GoodText_f p hp) (ev_pos g2 (ev_eq (impl_areRange_f _ _ _) ?_))))
          rw [decide_eq_false g3]
          exact implJ s a b p
    · refine ⟨([], false), Nat.zero_le _, ?_, ?_⟩
      · unfold spec_SpliceOp.f
        exact Ev.bind (spec_GoodText_f s hs) (ev_pos g1 (Ev.bind (spec_GoodText_f p hp) (ev_neg g2 (specJ s a b p))))
      · unfold impl_SpliceOp.f
        exact Ev.bind (impl_GoodText_f s hs) (ev_pos g1 (Ev.bind (impl_GoodText_f p hp) (ev_neg g2 (implJ s a b p))))
  · refine ⟨([], false), Nat.zero_le _, ?_, ?_⟩
    · unfold spec_SpliceOp.f
      exact Ev.bind (spec_GoodText_f s hs) (ev_neg g1 (specJ s a b p))
    · unfold impl_SpliceOp.f
      exact Ev.bind (impl_GoodText_f s hs) (ev_neg g1 (implJ s a b p))
theorem FnExactSpliceOp : laws_FnExactSpliceOp.Pure := by
  intro s a b p hs ha hb hp
  refine Ev.rounds ?_
  unfold laws_FnExactSpliceOp.f
  refine ev_if (fun _ => ev_ret rfl) (fun _ => ev_if (fun _ => ev_ret rfl) (fun _ => ?_))
  obtain ⟨r, hr, h1, h2⟩ := SpliceOp_f s hs a b p hp
  have heq := laws_eqPartS_f r.1 (by omega)
  have hh := laws_heldPartS_f 1 r.1.length (by omega) (by omega) (by omega)
  refine Ev.bind h1 (Ev.bind h2 (Ev.bind heq (ev_pos rfl ?_)))
  refine Ev.step (fun k => by rw [laws_FnExactSpliceOp.j0]) ?_
  refine ev_neg (by simp) ?_
  refine Ev.bind (laws_markPartS_f r.1 1 (by omega) (by omega) (by omega)) (Ev.bind hh (ev_neg (by first | omega | (simp only; omega)) (ev_pos (by first | rfl | (simp only; omega)) ?_)))
  refine Ev.bind h2 (Ev.bind heq (ev_pos rfl ?_))
  refine Ev.step (fun k => by rw [laws_FnExactSpliceOp.j1]) ?_
  refine ev_neg (by simp) ?_
  exact Ev.bind hh (ev_neg (by first | omega | (simp only; omega)) (ev_pos (by first | rfl | (simp only; omega)) (ev_ret rfl)))

end Go.Proofs.Ytlelpomnblaciaa.Pure
