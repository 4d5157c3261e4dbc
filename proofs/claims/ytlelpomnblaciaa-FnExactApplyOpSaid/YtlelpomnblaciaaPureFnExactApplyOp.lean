/- FnExactApplyOp over plain functions: at all changes and texts the program's ApplyOp and the reference's give one answer, and the parts stay; no condition. -/
import Derived.Test.YtlelpomnblaciaaPFnExactApplyOpx5
import Derived.Test.YtlelpomnblaciaaBase
namespace Go.Proofs.Ytlelpomnblaciaa.Pure
open Go.RowKit Go.Proofs.Ytlelpomnblaciaa.PFnExactApplyOp Go.Proofs.YtlelpomnblaciaaW.PrintWords Go.Proofs.YtlelpomnblaciaaW.PrintLast Go.Proofs.Ytlelpomnblaciaa.Base
set_option linter.unusedVariables false
set_option linter.unusedSimpArgs false

abbrev LP := S61
abbrev IP := S53
def cvP (x : LP) : IP := ⟨x.f0, x.f1, x.f2⟩
def lzP : LP := z61
def izP : IP := z53
theorem rd_lp (l : List LP) (i : Nat) : rd_T61 l (i : Int) = gt lzP l i := rfl
theorem rd_ip (l : List IP) (i : Nat) : rd_T53 l (i : Int) = gt izP l i := rfl
def szP (l : List LP) : List Nat := l.map (fun x => x.f1.size + x.f2.size)
theorem laws_szPartS_l (l : List LP) (hl : l.length ≤ 1048576) (hw : ∀ x ∈ l, x.f1.size ≤ 9223372036854775807 ∧ x.f2.size ≤ 9223372036854775807) (d : Nat) :
    ∀ (i : Nat) (left : Int), i + d = l.length → 0 ≤ left → left ≤ 1048576 → Ev (fun k => laws_szPartS.l0 k l left (i : Int)) (szF left (szP (l.drop i))) := by
  induction d with
  | zero =>
    intro i left hi h0 h1
    refine Ev.step (fun k => by rw [laws_szPartS.l0]) ?_
    refine ev_neg (by omega) (ev_ret ?_)
    rw [List.drop_eq_nil_of_le (by omega)]; rfl
  | succ d ih =>
    intro i left hi h0 h1
    have hm := hw _ (gt_mem lzP l i (by omega))
    refine Ev.step (fun k => by rw [laws_szPartS.l0]) ?_
    refine ev_pos (by omega) (ev_pos (by omega) ?_)
    rw [gt_drop lzP l i (by omega), rd_lp]
    generalize gt lzP l i = m at hm ⊢
    obtain ⟨hm1, hm2⟩ := hm
    have e : wrap64 (left - (m.f1.size : Int)) = left - (m.f1.size : Int) := wrap_id (by omega) (by omega)
    show Ev _ (if left - ((m.f1.size + m.f2.size : Nat) : Int) < 0 then -1 else szF (left - ((m.f1.size + m.f2.size : Nat) : Int)) (szP (l.drop (i + 1))))
    by_cases c1 : left - (m.f1.size : Int) < 0
    · rw [if_pos (show left - ((m.f1.size + m.f2.size : Nat) : Int) < 0 by omega)]
      refine ev_eq (a := -1) (by unfold laws_szPart.f; rw [e, if_pos c1]) (ev_pos (by omega) (ev_ret rfl))
    have e2 : wrap64 (left - (m.f1.size : Int) - (m.f2.size : Int)) = left - ((m.f1.size + m.f2.size : Nat) : Int) := by rw [wrap_id (by omega) (by omega)]; omega
    by_cases c : left - ((m.f1.size + m.f2.size : Nat) : Int) < 0
    · rw [if_pos c]
      refine ev_eq (a := -1) (by unfold laws_szPart.f; rw [e, if_neg c1, e2, if_pos c]) (ev_pos (by omega) (ev_ret rfl))
    · rw [if_neg c]
      refine ev_eq (a := left - ((m.f1.size + m.f2.size : Nat) : Int)) (by unfold laws_szPart.f; rw [e, if_neg c1, e2, if_neg c]) (ev_neg (by omega) ?_)
      rw [wrap_succ i (by omega)]
      exact ih (i + 1) _ (by omega) (by omega) (by omega)
/-- The guard at a law's head: too much, or all is small. -/
theorem laws_szPartS_f (l : List LP) (hl : l.length ≤ 9223372036854775807) (hw : ∀ x ∈ l, x.f1.size ≤ 9223372036854775807 ∧ x.f2.size ≤ 9223372036854775807) :
    ∃ v : Int, Ev (fun k => laws_szPartS.f k l 1048576) v ∧ (0 ≤ v → l.length ≤ 1048576 ∧ ∀ x ∈ l, x.f1.size ≤ 1048576 ∧ x.f2.size ≤ 1048576) := by
  have e : wrap64 (1048576 - (l.length : Int)) = 1048576 - (l.length : Int) := wrap_id (by omega) (by omega)
  by_cases c : (1048576 : Int) - (l.length : Int) < 0
  · exact ⟨-1, by unfold laws_szPartS.f; exact ev_pos (by rw [e]; exact c) (ev_ret rfl), fun h => by omega⟩
  · refine ⟨szF (1048576 - (l.length : Int)) (szP l), ?_, fun h => ⟨by omega, fun x hx => ?_⟩⟩
    · unfold laws_szPartS.f
      refine ev_neg (by rw [e]; exact c) ?_
      rw [e]
      exact laws_szPartS_l l (by omega) hw l.length 0 _ (by omega) (by omega) (by omega)
    · have h1 := szF_sum _ _ (by omega) h
      have h2 : x.f1.size + x.f2.size ≤ (szP l).sum := le_sum (List.mem_map.2 ⟨x, hx, rfl⟩)
      exact ⟨by omega, by omega⟩
theorem laws_toPartS_l (l : List LP) (hl : l.length ≤ 1048576) (d : Nat) :
    ∀ i : Nat, i + d = l.length → Ev (fun k => laws_toPartS.l0 k l ((l.take i).map cvP ++ List.replicate (l.length - i) izP) (i : Int)) (l.map cvP) := by
  induction d with
  | zero =>
    intro i hi
    refine Ev.step (fun k => by rw [laws_toPartS.l0]) ?_
    refine ev_neg (by omega) (ev_ret ?_)
    have : l.length - i = 0 := by omega
    rw [List.take_of_length_le (by omega), this]; simp
  | succ d ih =>
    intro i hi
    refine Ev.step (fun k => by rw [laws_toPartS.l0]) ?_
    refine ev_pos (by omega) (ev_pos (by omega) (ev_eq rfl (ev_pos (by simp; omega) ?_)))
    rw [wrap_succ i (by omega)]
    have ih' := ih (i + 1) (by omega)
    have e : ((l.take i).map cvP ++ List.replicate (l.length - i) izP).set (i : Int).toNat (⟨(rd_T61 l (i : Int)).f0, (rd_T61 l (i : Int)).f1, (rd_T61 l (i : Int)).f2⟩ : IP) = (l.take (i + 1)).map cvP ++ List.replicate (l.length - (i + 1)) izP := by
      rw [Int.toNat_natCast, set_next _ _ _ _ _ (by simp; omega) (by omega), rd_lp, gt_take lzP l i (by omega), List.map_append]
      rfl
    exact e ▸ ih'
theorem laws_toPartS_f (l : List LP) (hl : l.length ≤ 1048576) : Ev (fun k => laws_toPartS.f k l) (l.map cvP) := by
  unfold laws_toPartS.f
  refine ev_pos (by omega) (ev_pos (by omega) ?_)
  exact laws_toPartS_l l hl l.length 0 (by omega)
theorem szF_le : ∀ (l : List Nat) (left : Int), 0 ≤ left → szF left l ≤ left
  | [], left, _ => by unfold szF; omega
  | n :: r, left, h => by
    unfold szF
    split
    · omega
    · rename_i c
      exact Int.le_trans (szF_le r _ (by omega)) (by omega)
theorem laws_szPartS_g (l : List LP) (hl : l.length ≤ 9223372036854775807) (hw : ∀ x ∈ l, x.f1.size ≤ 9223372036854775807 ∧ x.f2.size ≤ 9223372036854775807) (left : Int) (h0 : 0 ≤ left) (h1 : left ≤ 1048576) :
    ∃ v : Int, Ev (fun k => laws_szPartS.f k l left) v ∧ (0 ≤ v → v ≤ 1048576 ∧ l.length ≤ 1048576 ∧ ∀ x ∈ l, x.f1.size ≤ 1048576 ∧ x.f2.size ≤ 1048576) := by
  have e : wrap64 (left - (l.length : Int)) = left - (l.length : Int) := wrap_id (by omega) (by omega)
  by_cases c : left - (l.length : Int) < 0
  · exact ⟨-1, by unfold laws_szPartS.f; exact ev_pos (by rw [e]; exact c) (ev_ret rfl), fun h => by omega⟩
  · refine ⟨szF (left - (l.length : Int)) (szP l), ?_, fun h => ⟨?_, by omega, fun x hx => ?_⟩⟩
    · unfold laws_szPartS.f
      refine ev_neg (by rw [e]; exact c) ?_
      rw [e]
      exact laws_szPartS_l l (by omega) hw l.length 0 _ (by omega) (by omega) (by omega)
    · have := szF_le (szP l) (left - (l.length : Int)) (by omega)
      omega
    · have h1 := szF_sum _ _ (by omega) h
      have h2 : x.f1.size + x.f2.size ≤ (szP l).sum := le_sum (List.mem_map.2 ⟨x, hx, rfl⟩)
      exact ⟨by omega, by omega⟩

theorem laws_eqPart_self (m : IP) : laws_eqPart.f m.f0 m.f1 m.f2 m.f0 m.f1 m.f2 = some true := by
  unfold laws_eqPart.f; rw [if_pos rfl]; rw [if_pos rfl]; rw [if_pos rfl]
theorem laws_eqPartS_l (l : List IP) (hl : l.length ≤ 4611686018427387904) (d : Nat) : ∀ i : Nat, i + d = l.length → Ev (fun k => laws_eqPartS.l0 k l l (i : Int)) true := by
  induction d with
  | zero => exact fun i hi => Ev.step (fun k => by rw [laws_eqPartS.l0]) (ev_neg (by omega) (ev_ret rfl))
  | succ d ih =>
    intro i hi
    refine Ev.step (fun k => by rw [laws_eqPartS.l0]) ?_
    refine ev_pos (by omega) (ev_pos (by omega) (ev_pos (by omega) (ev_eq (laws_eqPart_self _) (ev_pos rfl ?_))))
    rw [wrap_succ i (by omega)]
    exact ih (i + 1) (by omega)
theorem laws_eqPartS_f (l : List IP) (hl : l.length ≤ 4611686018427387904) : Ev (fun k => laws_eqPartS.f k l l) true := by
  unfold laws_eqPartS.f
  exact ev_pos rfl (laws_eqPartS_l l hl l.length 0 (by omega))

theorem spec_l1In_f (a b c : Int) : spec_l1In.f a b c = some (decide (b ≤ a ∧ a ≤ c)) := by
  unfold spec_l1In.f; split <;> simp <;> omega

theorem spec_l1Open_f (c : Int) : spec_l1Open.f c = some (openB c) := by
  unfold spec_l1Open.f openB; split <;> simp <;> omega
theorem spec_l1Plain_f (c : Int) : spec_l1Plain.f c = some (plainB c) := by
  unfold spec_l1Plain.f plainB
  repeat' split
  all_goals (rw [Option.some.injEq, Bool.eq_iff_iff]; simp only [Bool.or_eq_true, decide_eq_true_eq, beq_iff_eq, true_iff]; omega)
theorem spec_l1Text_l (s : ByteArray) (hs : s.size ≤ 140737488351232) (d : Nat) : ∀ i : Nat, i + d = s.size → Ev (fun k => spec_l1Text.l0 k s (i : Int)) (textB ((bytesOf s).drop i)) := by
  induction d with
  | zero =>
    intro i hi
    refine Ev.step (fun k => by rw [spec_l1Text.l0]) ?_
    refine ev_neg (by omega) (ev_ret ?_)
    rw [drop_end s i (by omega)]; rfl
  | succ d ih =>
    intro i hi
    refine Ev.step (fun k => by rw [spec_l1Text.l0]) ?_
    refine ev_pos (by omega) (ev_pos (by omega) (ev_eq (spec_l1Open_f _) ?_))
    rw [drop_bytes s i (by omega), wrap_succ i (by omega)]
    have ih' := ih (i + 1) (by omega)
    refine ev_if (fun h => ev_val ih' (by simp [textB, okB, h])) (fun h => ?_)
    refine ev_eq (spec_l1Plain_f _) (ev_if (fun h2 => ev_val ih' (by simp [textB, okB, h2])) (fun h2 => ?_))
    refine ev_if (fun h3 => ev_val ih' (by simp [textB, okB, h3])) (fun h3 => ev_ret ?_)
    simp [textB, okB, h, h2, h3]
theorem spec_l1Text_f (s : ByteArray) (hs : s.size ≤ 140737488351232) : Ev (fun k => spec_l1Text.f k s) (textB (bytesOf s)) :=
  spec_l1Text_l s hs s.size 0 (by omega)
theorem spec_GoodText_f (s : ByteArray) (hs : s.size ≤ 140737488351232) : Ev (fun k => spec_GoodText.f k s) (goodB (bytesOf s)) := by
  unfold spec_GoodText.f goodB
  refine Ev.bind (spec_l1Text_f s hs) (ev_if (fun h => ev_ret ?_) (fun h => ev_ret ?_))
  · rw [h, bytesOf_length, Bool.true_and]; congr 1; simp; omega
  · simp at h; simp [h]
theorem impl_isName_f (c : Int) : impl_isName.f c = some (openB c) := by
  unfold impl_isName.f openB; split <;> simp <;> omega
theorem impl_isPlain_f (c : Int) : impl_isPlain.f c = some (plainB c) := by
  unfold impl_isPlain.f plainB
  repeat' split
  all_goals (rw [Option.some.injEq, Bool.eq_iff_iff]; simp only [Bool.or_eq_true, decide_eq_true_eq, beq_iff_eq, true_iff]; omega)
theorem impl_GoodText_l (s : ByteArray) (hs : s.size ≤ 140737488351232) (d : Nat) : ∀ i : Nat, i + d = s.size → Ev (fun k => impl_GoodText.l0 k s (s.size : Int) (i : Int)) (textB ((bytesOf s).drop i) && decide (s.size ≤ 300)) := by
  induction d with
  | zero =>
    intro i hi
    refine Ev.step (fun k => by rw [impl_GoodText.l0]) ?_
    refine ev_neg (by omega) (ev_ret ?_)
    rw [drop_end s i (by omega)]; simp [textB]; omega
  | succ d ih =>
    intro i hi
    refine Ev.step (fun k => by rw [impl_GoodText.l0]) ?_
    refine ev_pos (by omega) (ev_pos (by omega) (ev_pos (by omega) (ev_eq (impl_isName_f _) ?_)))
    rw [drop_bytes s i (by omega), wrap_succ i (by omega)]
    have ih' := ih (i + 1) (by omega)
    refine ev_if (fun h => ev_val ih' (by simp [textB, okB, h])) (fun h => ?_)
    refine ev_eq (impl_isPlain_f _) (ev_if (fun h2 => ev_val ih' (by simp [textB, okB, h2])) (fun h2 => ?_))
    refine ev_if (fun h3 => ev_val ih' (by simp [textB, okB, h3])) (fun h3 => ev_ret ?_)
    simp [textB, okB, h, h2, h3]
theorem impl_GoodText_f (s : ByteArray) (hs : s.size ≤ 140737488351232) : Ev (fun k => impl_GoodText.f k s) (goodB (bytesOf s)) := by
  unfold impl_GoodText.f
  refine ev_val (impl_GoodText_l s hs s.size 0 (by omega)) ?_
  simp [goodB, bytesOf_length]

def partB (p : IP) : Bool := if p.f0 = 0 then (if p.f1.toList = ([] : List UInt8) then (if p.f2.toList = ([] : List UInt8) then false else goodB (bytesOf p.f2)) else (if p.f2.toList = ([] : List UInt8) then goodB (bytesOf p.f1) else false)) else (decide (1 ≤ p.f0 ∧ p.f0 ≤ 300) && (decide (p.f1.toList = ([] : List UInt8)) && (p.f2.toList == ([] : List UInt8))))
theorem spec_l3Part_f (p : IP) (h1 : p.f1.size ≤ 140737488351232) (h2 : p.f2.size ≤ 140737488351232) : Ev (fun k => spec_l3Part.f k p.f0 p.f1 p.f2) (partB p) := by
  unfold spec_l3Part.f partB
  by_cases c0 : p.f0 = 0
  · rw [if_pos c0]
    refine ev_pos c0 ?_
    by_cases c1 : p.f1.toList = ([] : List UInt8)
    · rw [if_pos c1]
      refine ev_pos c1 ?_
      by_cases c2 : p.f2.toList = ([] : List UInt8)
      · rw [if_pos c2]; exact ev_pos c2 (ev_ret rfl)
      · rw [if_neg c2]; exact ev_neg c2 (Ev.bind (spec_GoodText_f _ h2) (ev_ret rfl))
    · rw [if_neg c1]
      refine ev_neg c1 ?_
      by_cases c2 : p.f2.toList = ([] : List UInt8)
      · rw [if_pos c2]; exact ev_pos c2 (Ev.bind (spec_GoodText_f _ h1) (ev_ret rfl))
      · rw [if_neg c2]; exact ev_neg c2 (ev_ret rfl)
  · rw [if_neg c0]
    refine ev_neg c0 (ev_eq (spec_l1In_f _ _ _) ?_)
    refine ev_if (fun h => ?_) (fun h => ev_ret (by rw [Bool.not_eq_true] at h; rw [h]; rfl))
    rw [h, Bool.true_and]
    exact ev_if (fun h1 => ev_ret (by rw [decide_eq_true h1, Bool.true_and])) (fun h1 => ev_ret (by rw [decide_eq_false h1]; rfl))
theorem impl_Part_isPart_f (p : IP) (h1 : p.f1.size ≤ 140737488351232) (h2 : p.f2.size ≤ 140737488351232) : Ev (fun k => impl_Part_isPart.f k p.f0 p.f1 p.f2) (partB p) := by
  unfold impl_Part_isPart.f partB
  by_cases c0 : p.f0 = 0
  · rw [if_pos c0]
    refine ev_pos c0 ?_
    by_cases c1 : p.f1.toList = ([] : List UInt8)
    · rw [if_pos c1]
      refine ev_pos c1 ?_
      by_cases c2 : p.f2.toList = ([] : List UInt8)
      · rw [if_pos c2]; exact ev_pos c2 (ev_ret rfl)
      · rw [if_neg c2]; exact ev_neg c2 (Ev.bind (impl_GoodText_f _ h2) (ev_ret rfl))
    · rw [if_neg c1]
      refine ev_neg c1 ?_
      by_cases c2 : p.f2.toList = ([] : List UInt8)
      · rw [if_pos c2]; exact ev_pos c2 (Ev.bind (impl_GoodText_f _ h1) (ev_ret rfl))
      · rw [if_neg c2]; exact ev_neg c2 (ev_ret rfl)
  · rw [if_neg c0]
    refine ev_neg c0 ?_
    refine ev_if (fun h => ?_) (fun h => ev_ret (by rw [decide_eq_false (by omega)]; rfl))
    refine ev_if (fun h' => ?_) (fun h' => ev_ret (by rw [decide_eq_false (by omega)]; rfl))
    rw [decide_eq_true (show 1 ≤ p.f0 ∧ p.f0 ≤ 300 from ⟨h, h'⟩), Bool.true_and]
    exact ev_if (fun h1 => ev_ret (by rw [decide_eq_true h1, Bool.true_and])) (fun h1 => ev_ret (by rw [decide_eq_false h1]; rfl))
def tkS : List IP → Int → Int
  | [], a => a
  | p :: r, a => tkS r (wrap64 (a + wrap64 (p.f0 + (p.f2.size : Int))))
def mkS : List IP → Int → Int
  | [], a => a
  | p :: r, a => mkS r (wrap64 (a + wrap64 (p.f0 + (p.f1.size : Int))))
theorem spec_l3Sizes_l (l : List IP) (hl : l.length ≤ 1048576) (d : Nat) : ∀ (i : Nat) (a b : Int), i + d = l.length →
    Ev (fun k => spec_l3Sizes.l0 k a b l (l.length : Int) (i : Int)) (tkS (l.drop i) a, mkS (l.drop i) b) := by
  induction d with
  | zero =>
    intro i a b hi
    refine Ev.step (fun k => by rw [spec_l3Sizes.l0]) ?_
    refine ev_neg (by omega) (ev_ret ?_)
    rw [List.drop_eq_nil_of_le (by omega)]; rfl
  | succ d ih =>
    intro i a b hi
    refine Ev.step (fun k => by rw [spec_l3Sizes.l0]) ?_
    refine ev_pos (by omega) (ev_pos (by omega) (ev_pos (by omega) ?_))
    rw [gt_drop izP l i (by omega), wrap_succ i (by omega)]
    exact ih (i + 1) _ _ (by omega)
theorem spec_l3Sizes_f (l : List IP) (hl : l.length ≤ 1048576) : Ev (fun k => spec_l3Sizes.f k l) (tkS l 0, mkS l 0) := by
  unfold spec_l3Sizes.f
  exact spec_l3Sizes_l l hl l.length 0 0 0 (by omega)
theorem impl_sizes_l (l : List IP) (hl : l.length ≤ 1048576) (d : Nat) : ∀ (i : Nat) (a b : Int), i + d = l.length →
    Ev (fun k => impl_sizes.l0 k a b l (l.length : Int) (i : Int)) (tkS (l.drop i) a, mkS (l.drop i) b) := by
  induction d with
  | zero =>
    intro i a b hi
    refine Ev.step (fun k => by rw [impl_sizes.l0]) ?_
    refine ev_neg (by omega) (ev_ret ?_)
    rw [List.drop_eq_nil_of_le (by omega)]; rfl
  | succ d ih =>
    intro i a b hi
    refine Ev.step (fun k => by rw [impl_sizes.l0]) ?_
    refine ev_pos (by omega) (ev_pos (by omega) (ev_pos (by omega) ?_))
    rw [gt_drop izP l i (by omega), wrap_succ i (by omega)]
    exact ih (i + 1) _ _ (by omega)
theorem impl_sizes_f (l : List IP) (hl : l.length ≤ 1048576) : Ev (fun k => impl_sizes.f k l) (tkS l 0, mkS l 0) := by
  unfold impl_sizes.f
  exact impl_sizes_l l hl l.length 0 0 0 (by omega)
def goodO (l : List IP) : Bool := decide (l.length ≤ 60) && (l.all partB && decide (tkS l 0 ≤ 300 ∧ mkS l 0 ≤ 300))
theorem goodO_len {l : List IP} (h : ¬ l.length ≤ 60) : goodO l = false := by unfold goodO; rw [decide_eq_false h]; rfl
theorem goodO_part {l : List IP} {p : IP} (hp : p ∈ l) (h : partB p = false) : goodO l = false := by
  unfold goodO
  have : l.all partB = false := by
    rw [Bool.eq_false_iff]; intro e
    rw [List.all_eq_true] at e
    rw [e p hp] at h; cases h
  rw [this]; simp
theorem spec_GoodOp_l (l : List IP) (hl : l.length ≤ 60) (hw : ∀ x ∈ l, x.f1.size ≤ 1048576 ∧ x.f2.size ≤ 1048576) (d : Nat) : ∀ i : Nat, i + d = l.length →
    (l.take i).all partB = true → Ev (fun k => spec_GoodOp.l0 k l l (l.length : Int) (i : Int)) (goodO l) := by
  induction d with
  | zero =>
    intro i hi hg
    refine Ev.step (fun k => by rw [spec_GoodOp.l0]) ?_
    rw [List.take_of_length_le (by omega)] at hg
    have e : goodO l = decide (tkS l 0 ≤ 300 ∧ mkS l 0 ≤ 300) := by unfold goodO; rw [hg, decide_eq_true hl]; rfl
    rw [e]
    refine ev_neg (by omega) (Ev.bind (spec_l3Sizes_f l (by omega)) ?_)
    exact ev_if (fun h => ev_ret (decide_eq_decide.2 (by constructor <;> intro q; exact ⟨h, q⟩; exact q.2))) (fun h => ev_ret (by rw [decide_eq_false (fun q => h q.1)]))
  | succ d ih =>
    intro i hi hg
    have hm := hw _ (gt_mem izP l i (by omega))
    refine Ev.step (fun k => by rw [spec_GoodOp.l0]) ?_
    refine ev_pos (by omega) (ev_pos (by omega) (ev_pos (by omega) ?_))
    rw [wrap_succ i (by omega)]
    simp only [rd_ip]
    refine Ev.bind (spec_l3Part_f _ (by omega) (by omega)) (ev_if (fun h => ?_) (fun h => ev_ret (goodO_part (gt_mem izP l i (by omega)) (by simpa using h)).symm))
    refine ih (i + 1) (by omega) ?_
    rw [gt_take izP l i (by omega), List.all_append, hg]
    simp [h]
theorem spec_GoodOp_f (l : List IP) (hw : ∀ x ∈ l, x.f1.size ≤ 1048576 ∧ x.f2.size ≤ 1048576) : Ev (fun k => spec_GoodOp.f k l) (goodO l) := by
  unfold spec_GoodOp.f
  refine ev_if (fun h => ev_ret (goodO_len (by omega)).symm) (fun h => ?_)
  exact spec_GoodOp_l l (by omega) hw l.length 0 (by omega) rfl
theorem idxBad_f (l : List IP) (hw : ∀ x ∈ l, x.f1.size ≤ 1048576 ∧ x.f2.size ≤ 1048576) : ∀ n : Int, 0 ≤ n → ∃ v : Int, Ev (fun k => idxBad k l n) v ∧ (v ≥ 0 ↔ l.all partB = false) := by
  induction l with
  | nil => exact fun n _ => ⟨-1, by unfold idxBad; exact ev_ret rfl, by simp⟩
  | cons p r ih =>
    intro n hn
    have hm := hw p (List.mem_cons_self ..)
    obtain ⟨v, hv, hb⟩ := ih (fun x hx => hw x (List.mem_cons_of_mem _ hx)) (n + 1) (by omega)
    have hp : Ev (fun k => impl_GoodOp_1.f k p.f0 p.f1 p.f2) (!(partB p)) := by unfold impl_GoodOp_1.f; exact Ev.bind (impl_Part_isPart_f p (by omega) (by omega)) (ev_ret rfl)
    by_cases c : partB p = true
    · refine ⟨v, ?_, by rw [hb, List.all_cons, c, Bool.true_and]⟩
      unfold idxBad
      refine Ev.bind hp (ev_neg (by rw [c]; simp) hv)
    · rw [Bool.not_eq_true] at c
      refine ⟨n, ?_, by rw [List.all_cons, c]; simp; omega⟩
      unfold idxBad
      exact Ev.bind hp (ev_pos (by rw [c]; rfl) (ev_ret rfl))
theorem impl_GoodOp_f (l : List IP) (hw : ∀ x ∈ l, x.f1.size ≤ 1048576 ∧ x.f2.size ≤ 1048576) : Ev (fun k => impl_GoodOp.f k l) (goodO l) := by
  unfold impl_GoodOp.f
  refine ev_if (fun h => ev_ret (goodO_len (by omega)).symm) (fun h => ?_)
  obtain ⟨v, hv, hb⟩ := idxBad_f l hw 0 (by omega)
  refine Ev.bind hv (ev_if (fun c => ev_ret ?_) (fun c => Ev.bind (impl_sizes_f l (by omega)) ?_))
  · unfold goodO; rw [hb.1 c]; simp
  · have hg : l.all partB = true := by
      by_cases q : l.all partB = true
      · exact q
      · exact absurd (hb.2 (by simpa using q)) c
    have e : goodO l = decide (tkS l 0 ≤ 300 ∧ mkS l 0 ≤ 300) := by unfold goodO; rw [hg, decide_eq_true (by omega : l.length ≤ 60)]; rfl
    rw [e]
    exact ev_if (fun h => ev_ret (decide_eq_decide.2 (by constructor <;> intro q; exact ⟨h, q⟩; exact q.2))) (fun h => ev_ret (by rw [decide_eq_false (fun q => h q.1)]))

theorem toList_nil (s : ByteArray) : s.toList = ([] : List UInt8) ↔ s.size = 0 := by
  rw [← List.length_eq_zero_iff]
  have := data_length s
  rw [ByteArray.toList_eq, this]
theorem goodB_size' {s : ByteArray} (h : goodB (bytesOf s) = true) : s.size ≤ 300 := by
  unfold goodB at h
  rw [Bool.and_eq_true, bytesOf_length] at h
  exact of_decide_eq_true h.2
theorem part_facts {p : IP} (h : partB p = true) : 0 ≤ p.f0 ∧ p.f0 ≤ 300 ∧ p.f1.size ≤ 300 ∧ p.f2.size ≤ 300 ∧ (p.f0 = 0 ∨ p.f2.size = 0) := by
  unfold partB at h
  by_cases c0 : p.f0 = 0
  · rw [if_pos c0] at h
    by_cases c1 : p.f1.toList = ([] : List UInt8)
    · rw [if_pos c1] at h
      rw [toList_nil] at c1
      by_cases c2 : p.f2.toList = ([] : List UInt8)
      · rw [if_pos c2] at h; cases h
      · rw [if_neg c2] at h
        have := goodB_size' h
        exact ⟨by omega, by omega, by omega, by omega, Or.inl c0⟩
    · rw [if_neg c1] at h
      by_cases c2 : p.f2.toList = ([] : List UInt8)
      · rw [if_pos c2] at h
        rw [toList_nil] at c2
        have := goodB_size' h
        exact ⟨by omega, by omega, by omega, by omega, Or.inl c0⟩
      · rw [if_neg c2] at h; cases h
  · rw [if_neg c0, Bool.and_eq_true, Bool.and_eq_true] at h
    obtain ⟨a, b, c⟩ := h
    have a := of_decide_eq_true a
    have b := (toList_nil _).1 (of_decide_eq_true b)
    have c := (toList_nil _).1 (by simpa using c)
    exact ⟨by omega, by omega, by omega, by omega, Or.inr c⟩
theorem goodO_facts {l : List IP} (h : goodO l = true) : l.length ≤ 60 ∧ (∀ p ∈ l, partB p = true) ∧ tkS l 0 ≤ 300 ∧ mkS l 0 ≤ 300 := by
  unfold goodO at h
  rw [Bool.and_eq_true, Bool.and_eq_true, List.all_eq_true] at h
  have a := of_decide_eq_true h.1
  have b := of_decide_eq_true h.2.2
  exact ⟨a, h.2.1, b.1, b.2⟩

def nP (p : IP) : Nat := p.f0.toNat + p.f2.size
def tsum : List IP → Nat
  | [] => 0
  | p :: r => nP p + tsum r
theorem nP_le {p : IP} (h : partB p = true) : nP p ≤ 600 := by
  obtain ⟨f1, f2, f3, f4, f5⟩ := part_facts h
  unfold nP; omega
theorem wrap_nP {p : IP} (h : partB p = true) : wrap64 (p.f0 + (p.f2.size : Int)) = (nP p : Int) := by
  obtain ⟨f1, f2, f3, f4, f5⟩ := part_facts h
  rw [wrap_id (by omega) (by omega)]; unfold nP; omega
theorem tkS_is : ∀ (l : List IP), (∀ p ∈ l, partB p = true) → ∀ a : Nat, a + 600 * l.length ≤ 4611686018427387904 → tkS l (a : Int) = ((a + tsum l : Nat) : Int)
  | [], _, a, _ => by simp [tkS, tsum]
  | p :: r, h, a, hb => by
    have hp := h p (List.mem_cons_self ..)
    have hn := nP_le hp
    rw [List.length_cons] at hb
    unfold tkS tsum
    rw [wrap_nP hp, show wrap64 ((a : Int) + (nP p : Int)) = ((a + nP p : Nat) : Int) by rw [wrap_id (by omega) (by omega)]; omega, tkS_is r (fun x hx => h x (List.mem_cons_of_mem _ hx)) (a + nP p) (by omega), Nat.add_assoc]
abbrev E0 : ByteArray := ⟨#[]⟩
def apS : List IP → ByteArray → ByteArray → ByteArray × Bool
  | [], s, o => (o, s.toList == ([] : List UInt8))
  | p :: r, s, o => if nP p > s.size then (E0, false) else (if p.f2.size ≠ 0 ∧ (s.extract 0 (nP p)).toList ≠ p.f2.toList then (E0, false) else apS r (s.extract (nP p) s.size) (if p.f0 > 0 then (o ++ s.extract 0 (nP p)) ++ p.f1 else o ++ p.f1))
def apI : List IP → ByteArray → ByteArray → ByteArray × Bool
  | [], _, o => (o, true)
  | p :: r, s, o => if (s.extract 0 p.f2.size).toList = p.f2.toList then apI r (s.extract (nP p) s.size) (o ++ (s.extract 0 p.f0.toNat ++ p.f1)) else (E0, false)
theorem size_ext (s : ByteArray) (a b : Nat) : (s.extract a b).size = min b s.size - a := by simp
theorem spec_l3Apply_l (l : List IP) (hl : l.length ≤ 60) (hp : ∀ p ∈ l, partB p = true) (d : Nat) : ∀ (i : Nat) (s o : ByteArray), i + d = l.length → s.size ≤ 140737488351232 → o.size ≤ 1000 * i →
    Ev (fun k => spec_l3Apply.l0 k s o l (l.length : Int) (i : Int)) (apS (l.drop i) s o) := by
  induction d with
  | zero =>
    intro i s o hi hs ho
    refine Ev.step (fun k => by rw [spec_l3Apply.l0]) ?_
    refine ev_neg (by omega) (ev_ret ?_)
    rw [List.drop_eq_nil_of_le (by omega)]; rfl
  | succ d ih =>
    intro i s o hi hs ho
    have hpi := hp _ (gt_mem izP l i (by omega))
    obtain ⟨f1, f2, f3, f4, f5⟩ := part_facts hpi
    have hn := nP_le hpi
    refine Ev.step (fun k => by rw [spec_l3Apply.l0]) ?_
    refine ev_pos (by omega) (ev_pos (by omega) (ev_pos (by omega) ?_))
    rw [gt_drop izP l i (by omega)]
    simp only [rd_ip, wrap_nP hpi]
    unfold apS
    have J : ∀ b : Bool, Ev (fun k => spec_l3Apply.j1 k s o (nP (gt izP l i) : Int) l (l.length : Int) (i : Int) b (gt izP l i).f0 (gt izP l i).f1 (gt izP l i).f2)
        (if b = true then (E0, false) else (if nP (gt izP l i) ≤ s.size then apS (l.drop (i + 1)) (s.extract (nP (gt izP l i)) s.size) (if (gt izP l i).f0 > 0 then (o ++ s.extract 0 (nP (gt izP l i))) ++ (gt izP l i).f1 else o ++ (gt izP l i).f1) else (E0, false))) ∨ s.size < nP (gt izP l i) ∧ b = false := by
      intro b
      by_cases hsz : s.size < nP (gt izP l i) ∧ b = false
      · exact Or.inr hsz
      left
      refine Ev.step (fun k => by rw [spec_l3Apply.j1]) ?_
      refine ev_if (fun h => by rw [if_pos h]; exact ev_ret rfl) (fun h => ?_)
      rw [if_neg h]
      rw [Bool.not_eq_true] at h
      have hle : nP (gt izP l i) ≤ s.size := by
        by_cases q : s.size < nP (gt izP l i)
        · exact absurd ⟨q, h⟩ hsz
        · omega
      rw [if_pos hle, wrap_succ i (by omega)]
      have hx : (s.extract 0 (nP (gt izP l i))).size ≤ 600 := by rw [size_ext]; omega
      have hx' : (s.extract (nP (gt izP l i)) s.size).size ≤ 140737488351232 := by rw [size_ext]; omega
      refine ev_if (fun g => ?_) (fun g => ?_)
      · rw [if_pos g]
        refine ev_pos (by omega) (ev_pos (by omega) (ev_pos (by rw [Int.toNat_natCast]; omega) (ev_pos (by rw [Int.toNat_natCast, ByteArray.size_append]; omega) ?_)))
        rw [Int.toNat_natCast]
        exact ih (i + 1) _ _ (by omega) hx' (by rw [ByteArray.size_append, ByteArray.size_append]; omega)
      · rw [if_neg g]
        refine ev_pos (by omega) (ev_pos (by omega) (ev_pos (by omega) ?_))
        rw [Int.toNat_natCast]
        exact ih (i + 1) _ _ (by omega) hx' (by rw [ByteArray.size_append]; omega)
    refine ev_if (fun h => ?_) (fun h => ?_)
    · rw [if_pos (by omega)]
      rcases J true with j | j
      · rw [if_pos rfl] at j; exact j
      · cases j.2
    · rw [if_neg (by omega)]
      refine ev_if (fun g => ?_) (fun g => ?_)
      · rw [toList_nil] at g
        rw [if_neg (fun q => q.1 g)]
        rcases J false with j | j
        · rw [if_neg (by simp), if_pos (by omega)] at j; exact j
        · omega
      · rw [toList_nil] at g
        refine ev_pos (by omega) (ev_pos (by omega) ?_)
        rw [Int.toNat_natCast]
        rcases J ((s.extract 0 (nP (gt izP l i))).toList != (gt izP l i).f2.toList) with j | j
        · refine ev_val j ?_
          by_cases e : (s.extract 0 (nP (gt izP l i))).toList = (gt izP l i).f2.toList
          · rw [if_neg (by simp [e]), if_pos (by omega), if_neg (show ¬ ((gt izP l i).f2.size ≠ 0 ∧ (s.extract 0 (nP (gt izP l i))).toList ≠ (gt izP l i).f2.toList) from fun q => q.2 e)]
          · rw [if_pos (by simpa using e), if_pos ⟨g, e⟩]
        · omega
theorem bnd2 {b c : Nat} (h1 : b ≤ 300) (h2 : c ≤ 300) : b + c ≤ 9223372036854775807 := by omega
theorem bnd3 {i a b c : Nat} (h0 : a ≤ 1000 * i) (h1 : b ≤ 300) (h2 : c ≤ 300) (h3 : i ≤ 60) : a + (b + c) ≤ 9223372036854775807 := by omega
theorem bnd4 {i a b c : Nat} (h0 : a ≤ 1000 * i) (h1 : b ≤ 300) (h2 : c ≤ 300) : a + (b + c) ≤ 1000 * (i + 1) := by omega
theorem bnd5 {f : Int} {n t s g : Nat} (h : s = n + t) (hd : n = f.toNat + g) (f1 : 0 ≤ f) : f ≤ (s : Int) ∧ (n : Int) ≤ (s : Int) ∧ (g : Int) ≤ (s : Int) := by omega
theorem impl_ApplyOp_l (l : List IP) (hl : l.length ≤ 60) (hp : ∀ p ∈ l, partB p = true) (d : Nat) : ∀ (i : Nat) (s o : ByteArray), i + d = l.length → s.size = tsum (l.drop i) → s.size ≤ 140737488351232 → o.size ≤ 1000 * i →
    Ev (fun k => impl_ApplyOp.l0 k s o l (l.length : Int) (i : Int)) (apI (l.drop i) s o) := by
  induction d with
  | zero =>
    intro i s o hi ht hs ho
    refine Ev.step (fun k => by rw [impl_ApplyOp.l0]) ?_
    refine ev_neg (by omega) (ev_ret ?_)
    rw [List.drop_eq_nil_of_le (by omega)]; rfl
  | succ d ih =>
    intro i s o hi ht hs ho
    have hpi := hp _ (gt_mem izP l i (by omega))
    obtain ⟨f1, f2, f3, f4, f5⟩ := part_facts hpi
    have hn := nP_le hpi
    refine Ev.step (fun k => by rw [impl_ApplyOp.l0]) ?_
    refine ev_pos (by omega) (ev_pos (by omega) (ev_pos (by omega) ?_))
    rw [gt_drop izP l i (by omega)] at ht ⊢
    unfold tsum at ht
    have hd : nP (gt izP l i) = (gt izP l i).f0.toNat + (gt izP l i).f2.size := rfl
    have hw1 := wrap_succ i (by omega)
    simp only [rd_ip, wrap_nP hpi, hw1]
    unfold apI
    have hx : (s.extract 0 (gt izP l i).f0.toNat).size ≤ 300 := by rw [size_ext]; omega
    have hx' : (s.extract (nP (gt izP l i)) s.size).size ≤ 140737488351232 := by rw [size_ext]; omega
    refine ev_pos (Int.natCast_nonneg _) (ev_pos (bnd5 ht hd f1).2.2 ?_)
    rw [Int.toNat_natCast]
    refine ev_if (fun h => ?_) (fun h => by rw [if_neg h]; exact ev_ret rfl)
    rw [if_pos h]
    have i60 : i ≤ 60 := Nat.le_trans (Nat.le_of_lt (Nat.lt_of_lt_of_le (Nat.lt_add_of_pos_right (Nat.succ_pos d)) (Nat.le_of_eq hi))) hl
    obtain ⟨fs, fn, _⟩ := bnd5 ht hd f1
    refine ev_pos f1 (ev_pos fs (ev_pos (bnd2 hx f3) (ev_pos (by rw [ByteArray.size_append]; exact bnd3 ho hx f3 i60) (ev_pos (Int.natCast_nonneg _) (ev_pos fn ?_)))))
    rw [Int.toNat_natCast]
    exact ih (i + 1) (s.extract (nP (gt izP l i)) s.size) (o ++ (s.extract 0 (gt izP l i).f0.toNat ++ (gt izP l i).f1)) (by omega) (by rw [size_ext, ht]; clear ih; omega) hx' (by rw [ByteArray.size_append, ByteArray.size_append]; exact bnd4 ho hx f3)
theorem size0 (s : ByteArray) (n : Nat) (h : n = 0) : s.extract 0 n = E0 := by subst h; simp [E0]; rfl
theorem e0_app (x : ByteArray) : E0 ++ x = x := ByteArray.empty_append
theorem apS_I : ∀ (l : List IP), (∀ p ∈ l, partB p = true) → ∀ s o : ByteArray, s.size = tsum l → apS l s o = apI l s o
  | [], _, s, o, h => by
    unfold apS apI
    rw [(toList_nil s).2 h]; rfl
  | p :: r, hp, s, o, h => by
    obtain ⟨f1, f2, f3, f4, f5⟩ := part_facts (hp p (List.mem_cons_self ..))
    unfold tsum at h
    have ih := fun o => apS_I r (fun x hx => hp x (List.mem_cons_of_mem _ hx)) (s.extract (nP p) s.size) o (by rw [size_ext]; omega)
    have hd : nP p = p.f0.toNat + p.f2.size := rfl
    unfold apS apI
    rw [if_neg (by omega)]
    by_cases g : p.f2.size = 0
    · have e1 : (s.extract 0 p.f2.size).toList = p.f2.toList := by rw [(toList_nil p.f2).2 g, toList_nil, size_ext]; omega
      rw [if_neg (fun q => q.1 g), if_pos e1, ih]
      by_cases c : p.f0 > 0
      · rw [if_pos c, show nP p = p.f0.toNat by omega, ByteArray.append_assoc]
      · rw [if_neg c, size0 s p.f0.toNat (by omega), e0_app]
    · have h0 : p.f0 = 0 := by omega
      have hn : nP p = p.f2.size := by omega
      rw [hn] at ih ⊢
      by_cases e : (s.extract 0 p.f2.size).toList = p.f2.toList
      · rw [if_neg (fun q => q.2 e), if_pos e, ih, if_neg (by omega), size0 s p.f0.toNat (by omega), e0_app]
      · rw [if_pos ⟨g, e⟩, if_neg e]
theorem apS_no : ∀ (l : List IP), ∀ s o : ByteArray, s.size ≠ tsum l → (apS l s o).2 = false
  | [], s, o, h => by
    unfold apS
    have : ¬ s.toList = ([] : List UInt8) := fun q => h ((toList_nil s).1 q)
    simpa using this
  | p :: r, s, o, h => by
    unfold apS
    unfold tsum at h
    by_cases c : nP p > s.size
    · rw [if_pos c]
    · rw [if_neg c]
      by_cases g : p.f2.size ≠ 0 ∧ (s.extract 0 (nP p)).toList ≠ p.f2.toList
      · rw [if_pos g]
      · rw [if_neg g]
        exact apS_no r _ _ (by rw [size_ext]; omega)
def apR (l : List IP) (s : ByteArray) : ByteArray × Bool := if goodO l = true then (if goodB (bytesOf s) = true then (if s.size = tsum l then (if (apI l s E0).2 = true then apI l s E0 else (E0, false)) else (E0, false)) else (E0, false)) else (E0, false)
theorem spec_ApplyOp_f (l : List IP) (s : ByteArray) (hw : ∀ x ∈ l, x.f1.size ≤ 1048576 ∧ x.f2.size ≤ 1048576) (hs : s.size ≤ 140737488351232) : Ev (fun k => spec_ApplyOp.f k l s) (apR l s) := by
  unfold spec_ApplyOp.f apR
  refine Ev.bind (spec_GoodOp_f l hw) (ev_if (fun g => ?_) (fun g => ?_))
  · rw [if_pos g]
    obtain ⟨hl, hp, _, _⟩ := goodO_facts g
    refine Ev.bind (spec_GoodText_f s hs) ?_
    refine Ev.step (fun k => by rw [spec_ApplyOp.j0]) ?_
    by_cases gs : goodB (bytesOf s) = true
    · rw [if_pos gs]
      refine ev_neg (by rw [gs]; simp) ?_
      have H : Ev (fun k => spec_l3Apply.f k l s) (apS l s E0) := by
        unfold spec_l3Apply.f
        exact spec_l3Apply_l l hl hp l.length 0 s _ (by omega) hs (Nat.le_refl 0)
      refine Ev.bind H ?_
      by_cases c : s.size = tsum l
      · rw [if_pos c, apS_I l hp s _ c]
        exact ev_if (fun q => by rw [if_pos q]; exact ev_ret (by rw [← q])) (fun q => by rw [if_neg q]; exact ev_ret rfl)
      · rw [if_neg c]
        exact ev_neg (by rw [apS_no l s _ c]; simp) (ev_ret rfl)
    · rw [if_neg gs]
      rw [Bool.not_eq_true] at gs
      exact ev_pos (by rw [gs]; rfl) (ev_ret rfl)
  · rw [if_neg g]
    refine Ev.step (fun k => by rw [spec_ApplyOp.j0]) ?_
    exact ev_pos rfl (ev_ret rfl)
theorem apI_no : ∀ (l : List IP) (s o : ByteArray), (apI l s o).2 = false → apI l s o = (E0, false)
  | [], s, o, h => by unfold apI at h; cases h
  | p :: r, s, o, h => by
    unfold apI at h ⊢
    by_cases e : (s.extract 0 p.f2.size).toList = p.f2.toList
    · rw [if_pos e] at h ⊢; exact apI_no r _ _ h
    · rw [if_neg e]
theorem impl_ApplyOp_f (l : List IP) (s : ByteArray) (hw : ∀ x ∈ l, x.f1.size ≤ 1048576 ∧ x.f2.size ≤ 1048576) (hs : s.size ≤ 140737488351232) : Ev (fun k => impl_ApplyOp.f k l s) (apR l s) := by
  unfold impl_ApplyOp.f apR
  refine Ev.bind (impl_GoodOp_f l hw) (ev_if (fun g => ?_) (fun g => ?_))
  · rw [if_pos g]
    obtain ⟨hl, hp, _, _⟩ := goodO_facts g
    refine Ev.bind (impl_GoodText_f s hs) ?_
    refine Ev.step (fun k => by rw [impl_ApplyOp.j0]) ?_
    by_cases gs : goodB (bytesOf s) = true
    · rw [if_pos gs]
      refine ev_neg (by rw [gs]; simp) (Ev.bind (impl_sizes_f l (by omega)) ?_)
      have ht : tkS l 0 = ((tsum l : Nat) : Int) := by
        have := tkS_is l hp 0 (by omega)
        rw [Nat.zero_add] at this; exact this
      by_cases c : s.size = tsum l
      · rw [if_pos c]
        refine ev_pos (by show tkS l 0 = _; omega) ?_
        have H := impl_ApplyOp_l l hl hp l.length 0 s E0 (by omega) (by rw [List.drop_zero]; exact c) hs (Nat.le_refl 0)
        refine ev_val H ?_
        rw [List.drop_zero]
        by_cases q : (apI l s E0).2 = true
        · rw [if_pos q]
        · rw [if_neg q]; exact apI_no l s _ (by simpa using q)
      · rw [if_neg c]
        exact ev_neg (by show ¬ tkS l 0 = _; omega) (ev_ret rfl)
    · rw [if_neg gs]
      rw [Bool.not_eq_true] at gs
      exact ev_pos (by rw [gs]; rfl) (ev_ret rfl)
  · rw [if_neg g]
    refine Ev.step (fun k => by rw [impl_ApplyOp.j0]) ?_
    exact ev_pos rfl (ev_ret rfl)
theorem FnExactApplyOp : laws_FnExactApplyOp.Pure := by
  intro l s hl hw hs
  refine Ev.rounds ?_
  unfold laws_FnExactApplyOp.f
  refine ev_if (fun _ => ev_ret rfl) (fun _ => ?_)
  obtain ⟨v, hv, hb⟩ := laws_szPartS_f l hl (fun x hx => (hw x hx).2)
  refine Ev.bind hv (ev_if (fun _ => ev_ret rfl) (fun h => ?_))
  obtain ⟨h1, h2⟩ := hb (by omega)
  have hw' : ∀ x ∈ l.map cvP, x.f1.size ≤ 1048576 ∧ x.f2.size ≤ 1048576 := fun x hx => by obtain ⟨y, hy, rfl⟩ := List.mem_map.1 hx; exact h2 y hy
  have hl' : (l.map cvP).length ≤ 1048576 := by simpa using h1
  refine Ev.bind (laws_toPartS_f l h1) (Ev.bind (spec_ApplyOp_f _ s hw' hs) (Ev.bind (laws_toPartS_f l h1) (Ev.bind (impl_ApplyOp_f _ s hw' hs) (ev_pos rfl ?_))))
  refine Ev.step (fun k => by rw [laws_FnExactApplyOp.j0]) ?_
  refine ev_neg (by simp) ?_
  refine Ev.bind (laws_toPartS_f l h1) (Ev.bind (laws_eqPartS_f _ (by omega)) (ev_pos rfl (ev_ret rfl)))

end Go.Proofs.Ytlelpomnblaciaa.Pure
