/- FnExactAddMark over plain functions: at all marks, sizes and marks to add the program's AddMark (which sorts) and the reference's (which does not) give one answer, the marks stay, and the answer is the call's own; no condition. -/
import Derived.Test.YtmhcmcdppimcpaaPFnExactAddMarkx10
import Derived.Test.YtmhcmcdppimcpaaBase
import Derived.Test.YtmhcmcdppimcpaaOrd
namespace Go.Proofs.Ytmhcmcdppimcpaa.Pure
open Go.RowKit Go.Proofs.Ytmhcmcdppimcpaa.PFnExactAddMark Go.Proofs.YtmhcmcdppimcpaaW.PrintWords Go.Proofs.YtmhcmcdppimcpaaW.PrintLast Go.Proofs.Ytmhcmcdppimcpaa.Base Go.Proofs.Ytmhcmcdppimcpaa.Ord
set_option linter.unusedVariables false
set_option linter.unusedSimpArgs false
abbrev LM := S64
abbrev IM := S67
def cvM (x : LM) : IM := ⟨x.f0, x.f1, x.f2⟩
def lzM : LM := z64
def izM : IM := z67
theorem rd_lm (l : List LM) (i : Nat) : rd_T64 l (i : Int) = gt lzM l i := rfl
theorem rd_im (l : List IM) (i : Nat) : rd_T67 l (i : Int) = gt izM l i := rfl
def szM (l : List LM) : List Nat := l.map (fun x => x.f2.size)
theorem laws_szMarkS_l (l : List LM) (hl : l.length ≤ 1048576) (hw : ∀ x ∈ l, x.f2.size ≤ 9223372036854775807) (d : Nat) :
  ∀ (i : Nat) (left : Int), i + d = l.length → 0 ≤ left → left ≤ 1048576 → Ev (fun k => laws_szMarkS.l0 k l left (i : Int)) (szF left (szM (l.drop i))) := by
 induction d with
 | zero =>
  intro i left hi h0 h1
  refine Ev.step (fun k => by rw [laws_szMarkS.l0]) ?_
  refine ev_neg (by omega) (ev_ret ?_)
  rw [List.drop_eq_nil_of_le (by omega)]; rfl
 | succ d ih =>
  intro i left hi h0 h1
  have hm := hw _ (gt_mem lzM l i (by omega))
  refine Ev.step (fun k => by rw [laws_szMarkS.l0]) ?_
  refine ev_pos (by omega) (ev_pos (by omega) ?_)
  rw [gt_drop lzM l i (by omega), rd_lm]
  generalize gt lzM l i = m at hm ⊢
  have e : wrap64 (left - (m.f2.size : Int)) = left - (m.f2.size : Int) := wrap_id (by omega) (by omega)
  show Ev _ (if left - (m.f2.size : Int) < 0 then -1 else szF (left - (m.f2.size : Int)) (szM (l.drop (i + 1))))
  by_cases c : left - (m.f2.size : Int) < 0
  ·rw [if_pos c]
   refine ev_eq (a := -1) (by unfold laws_szMark.f; rw [e, if_pos c]) (ev_pos (by omega) (ev_ret rfl))
  ·rw [if_neg c]
   refine ev_eq (a := left - (m.f2.size : Int)) (by unfold laws_szMark.f; rw [e, if_neg c]) (ev_neg (by omega) ?_)
   rw [wrap_succ i (by omega)]
   exact ih (i + 1) _ (by omega) (by omega) (by omega)
theorem laws_toMarkS_l (l : List LM) (hl : l.length ≤ 1048576) (d : Nat) :
  ∀ i : Nat, i + d = l.length → Ev (fun k => laws_toMarkS.l0 k l ((l.take i).map cvM ++ List.replicate (l.length - i) izM) (i : Int)) (l.map cvM) := by
 induction d with
 | zero =>
  intro i hi
  refine Ev.step (fun k => by rw [laws_toMarkS.l0]) ?_
  refine ev_neg (by omega) (ev_ret ?_)
  have : l.length - i = 0 := by omega
  rw [List.take_of_length_le (by omega), this]; simp
 | succ d ih =>
  intro i hi
  refine Ev.step (fun k => by rw [laws_toMarkS.l0]) ?_
  refine ev_pos (by omega) (ev_pos (by omega) (ev_eq rfl (ev_pos (by simp; omega) ?_)))
  rw [wrap_succ i (by omega)]
  have ih' := ih (i + 1) (by omega)
  have e : ((l.take i).map cvM ++ List.replicate (l.length - i) izM).set (i : Int).toNat (⟨(rd_T64 l (i : Int)).f0, (rd_T64 l (i : Int)).f1, (rd_T64 l (i : Int)).f2⟩ : IM) = (l.take (i + 1)).map cvM ++ List.replicate (l.length - (i + 1)) izM := by
   rw [Int.toNat_natCast, set_next _ _ _ _ _ (by simp; omega) (by omega), rd_lm, gt_take lzM l i (by omega), List.map_append]
   rfl
  exact e ▸ ih'
theorem laws_toMarkS_f (l : List LM) (hl : l.length ≤ 1048576) : Ev (fun k => laws_toMarkS.f k l) (l.map cvM) := by
 unfold laws_toMarkS.f
 refine ev_pos (by omega) (ev_pos (by omega) ?_)
 exact laws_toMarkS_l l hl l.length 0 (by omega)
theorem laws_eqMark_self (m : IM) : laws_eqMark.f m.f0 m.f1 m.f2 m.f0 m.f1 m.f2 = some true := by
 unfold laws_eqMark.f; rw [if_pos rfl]; rw [if_pos rfl]; rw [if_pos rfl]
theorem laws_eqMarkS_l (l : List IM) (hl : l.length ≤ 4611686018427387904) (d : Nat) : ∀ i : Nat, i + d = l.length → Ev (fun k => laws_eqMarkS.l0 k l l (i : Int)) true := by
 induction d with
 | zero => exact fun i hi => Ev.step (fun k => by rw [laws_eqMarkS.l0]) (ev_neg (by omega) (ev_ret rfl))
 | succ d ih =>
  intro i hi
  refine Ev.step (fun k => by rw [laws_eqMarkS.l0]) ?_
  refine ev_pos (by omega) (ev_pos (by omega) (ev_pos (by omega) (ev_eq (laws_eqMark_self _) (ev_pos rfl ?_))))
  rw [wrap_succ i (by omega)]
  exact ih (i + 1) (by omega)
theorem laws_eqMarkS_f (l : List IM) (hl : l.length ≤ 4611686018427387904) : Ev (fun k => laws_eqMarkS.f k l l) true := by
 unfold laws_eqMarkS.f
 exact ev_pos rfl (laws_eqMarkS_l l hl l.length 0 (by omega))
theorem spec_l1In_f (a b c : Int) : spec_l1In.f a b c = some (decide (b ≤ a ∧ a ≤ c)) := by
 unfold spec_l1In.f; split <;> simp <;> omega
def styleB (l : List Int) : Bool := l.all (fun c => decide (97 ≤ c ∧ c ≤ 122)) && decide (1 ≤ l.length ∧ l.length ≤ 8)
theorem spec_l5Style_l (s : ByteArray) (hs : s.size ≤ 140737488351232) (d : Nat) : ∀ i : Nat, i + d = s.size →
  Ev (fun k => spec_l5Style.l0 k s (i : Int)) (((bytesOf s).drop i).all (fun c => decide (97 ≤ c ∧ c ≤ 122)) && decide (1 ≤ s.size ∧ s.size ≤ 8)) := by
 induction d with
 | zero =>
  intro i hi
  refine Ev.step (fun k => by rw [spec_l5Style.l0]) ?_
  refine ev_neg (by omega) (ev_eq (spec_l1In_f _ _ _) (ev_ret ?_))
  rw [drop_end s i (by omega), List.all_nil, Bool.true_and]; exact decide_eq_decide.2 (by omega)
 | succ d ih =>
  intro i hi
  refine Ev.step (fun k => by rw [spec_l5Style.l0]) ?_
  refine ev_pos (by omega) (ev_pos (by omega) ?_)
  rw [drop_bytes s i (by omega), wrap_succ i (by omega), List.all_cons]
  refine ev_if (fun h => ev_ret ?_) (fun h => ev_if (fun h2 => ev_ret ?_) (fun h2 => ev_val (ih (i + 1) (by omega)) ?_))
  ·have : decide (97 ≤ bt s (i : Int) ∧ bt s (i : Int) ≤ 122) = false := decide_eq_false (by omega)
   rw [this]; rfl
  ·have : decide (97 ≤ bt s (i : Int) ∧ bt s (i : Int) ≤ 122) = false := decide_eq_false (by omega)
   rw [this]; rfl
  ·have : decide (97 ≤ bt s (i : Int) ∧ bt s (i : Int) ≤ 122) = true := decide_eq_true (by omega)
   rw [this, Bool.true_and]
theorem spec_l5Style_f (s : ByteArray) (hs : s.size ≤ 140737488351232) : Ev (fun k => spec_l5Style.f k s) (styleB (bytesOf s)) := by
 unfold spec_l5Style.f styleB
 rw [bytesOf_length]
 exact spec_l5Style_l s hs s.size 0 (by omega)
theorem impl_isStyle_l (s : ByteArray) (hs : s.size ≤ 140737488351232) (d : Nat) : ∀ i : Nat, i + d = s.size →
  Ev (fun k => impl_isStyle.l0 k s (s.size : Int) (i : Int)) (((bytesOf s).drop i).all (fun c => decide (97 ≤ c ∧ c ≤ 122)) && decide (1 ≤ s.size ∧ s.size ≤ 8)) := by
 induction d with
 | zero =>
  intro i hi
  refine Ev.step (fun k => by rw [impl_isStyle.l0]) ?_
  refine ev_neg (by omega) ?_
  rw [drop_end s i (by omega)]
  have hz : s.toList = ([] : List UInt8) ↔ s.size = 0 := by
   rw [← List.length_eq_zero_iff]
   have := data_length s
   rw [ByteArray.toList_eq, this]
  refine ev_if (fun h => ev_ret ?_) (fun h => ev_ret ?_)
  ·rw [hz] at h; simp [h]
  ·rw [hz] at h
   rw [List.all_nil, Bool.true_and]; exact decide_eq_decide.2 (by omega)
 | succ d ih =>
  intro i hi
  refine Ev.step (fun k => by rw [impl_isStyle.l0]) ?_
  refine ev_pos (by omega) (ev_pos (by omega) (ev_pos (by omega) ?_))
  rw [drop_bytes s i (by omega), wrap_succ i (by omega), List.all_cons]
  refine ev_if (fun h => ev_ret ?_) (fun h => ev_if (fun h2 => ev_ret ?_) (fun h2 => ev_val (ih (i + 1) (by omega)) ?_))
  ·have : decide (97 ≤ bt s (i : Int) ∧ bt s (i : Int) ≤ 122) = false := decide_eq_false (by omega)
   rw [this]; rfl
  ·have : decide (97 ≤ bt s (i : Int) ∧ bt s (i : Int) ≤ 122) = false := decide_eq_false (by omega)
   rw [this]; rfl
  ·have : decide (97 ≤ bt s (i : Int) ∧ bt s (i : Int) ≤ 122) = true := decide_eq_true (by omega)
   rw [this, Bool.true_and]
theorem impl_isStyle_f (s : ByteArray) (hs : s.size ≤ 140737488351232) : Ev (fun k => impl_isStyle.f k s) (styleB (bytesOf s)) := by
 unfold impl_isStyle.f styleB
 rw [bytesOf_length]
 exact impl_isStyle_l s hs s.size 0 (by omega)
def markB (m : IM) (size : Int) : Bool := styleB (bytesOf m.f2) && decide (0 ≤ m.f0 ∧ m.f0 < m.f1 ∧ m.f1 ≤ size)
theorem spec_l5Mark_f (m : IM) (size : Int) (hs : m.f2.size ≤ 140737488351232) : Ev (fun k => spec_l5Mark.f k m.f0 m.f1 m.f2 size) (markB m size) := by
 unfold spec_l5Mark.f markB
 refine Ev.bind (spec_l5Style_f _ hs) (ev_if (fun h => ?_) (fun h => ev_ret (by simp at h; simp [h])))
 rw [h, Bool.true_and]
 refine ev_if (fun h0 => ev_if (fun h1 => ev_ret ?_) (fun h1 => ev_ret ?_)) (fun h0 => ev_ret ?_)
 ·exact decide_eq_decide.2 (by omega)
 ·symm; exact decide_eq_false (by omega)
 ·symm; exact decide_eq_false (by omega)
theorem impl_isMark_f (m : IM) (size : Int) (hs : m.f2.size ≤ 140737488351232) : Ev (fun k => impl_isMark.f k m.f0 m.f1 m.f2 size) (markB m size) := by
 unfold impl_isMark.f markB
 refine ev_if (fun h0 => ev_if (fun h1 => ev_if (fun h2 => Ev.bind (impl_isStyle_f _ hs) (ev_ret ?_)) (fun h2 => ev_ret ?_)) (fun h1 => ev_ret ?_)) (fun h0 => ev_ret ?_)
 ·rw [decide_eq_true (show 0 ≤ m.f0 ∧ m.f0 < m.f1 ∧ m.f1 ≤ size by omega), Bool.and_true]
 all_goals (symm; rw [decide_eq_false (show ¬ (0 ≤ m.f0 ∧ m.f0 < m.f1 ∧ m.f1 ≤ size) by omega), Bool.and_false])
def pairB (a m : IM) : Bool := !(Op.bytesLess m.f2.toList a.f2.toList) && !(decide (a.f2.toList = m.f2.toList) && decide (a.f1 ≥ m.f0))
def goodL (size : Int) : Option IM → List IM → Bool
 | _, [] => true
 | p, m :: r => markB m size && ((match p with | none => true | some a => pairB a m) && goodL size (some m) r)
def prevAt (l : List IM) (i : Nat) : Option IM := if i = 0 then none else some (gt izM l (i - 1))
def goodM (l : List IM) (size : Int) : Bool := goodL size none l && (decide (l.length ≤ 40) && decide (0 ≤ size ∧ size ≤ 300))
theorem spec_GoodMarks_l (l : List IM) (size : Int) (hl : l.length ≤ 1048576) (hw : ∀ x ∈ l, x.f2.size ≤ 1048576) (d : Nat) : ∀ i : Nat, i + d = l.length →
  Ev (fun k => spec_GoodMarks.l0 k l size l (l.length : Int) (i : Int)) (goodL size (prevAt l i) (l.drop i) && (decide (l.length ≤ 40) && decide (0 ≤ size ∧ size ≤ 300))) := by
 induction d with
 | zero =>
  intro i hi
  refine Ev.step (fun k => by rw [spec_GoodMarks.l0]) ?_
  refine ev_neg (by omega) ?_
  rw [List.drop_eq_nil_of_le (by omega)]
  refine ev_if (fun h => ev_eq (spec_l1In_f _ _ _) (ev_ret ?_)) (fun h => ev_ret ?_)
  ·simp [goodL]; omega
  ·simp [goodL]; omega
 | succ d ih =>
  intro i hi
  have hm := hw _ (gt_mem izM l i (by omega))
  refine Ev.step (fun k => by rw [spec_GoodMarks.l0]) ?_
  refine ev_pos (by omega) (ev_pos (by omega) (ev_pos (by omega) ?_))
  rw [gt_drop izM l i (by omega), wrap_succ i (by omega)]
  have ih' := ih (i + 1) (by omega)
  rw [show prevAt l (i + 1) = some (gt izM l i) by simp [prevAt]] at ih'
  simp only [rd_im]
  refine Ev.bind (spec_l5Mark_f _ size (by omega)) (ev_if (fun h => ?_) (fun h => ev_ret (by simp at h; simp [goodL, h])))
  by_cases hi0 : i = 0
  ·subst hi0
   refine ev_neg (by omega) (ev_val ih' ?_)
   simp [goodL, h, prevAt]
  ·have ew : wrap64 ((i : Int) - 1) = ((i - 1 : Nat) : Int) := by unfold wrap64; omega
   rw [ew]
   refine ev_pos (by omega) (ev_pos (by omega) (ev_pos (by omega) ?_))
   simp only [rd_im]
   rw [show prevAt l i = some (gt izM l (i - 1)) by simp [prevAt, hi0]]
   refine ev_if (fun h1 => ev_ret ?_) (fun h1 => ?_)
   ·have hp : pairB (gt izM l (i - 1)) (gt izM l i) = false := by unfold pairB; rw [h1]; rfl
    simp [goodL, hp]
   simp only [Bool.not_eq_true] at h1
   refine ev_if (fun h2 => ev_if (fun h3 => ev_ret ?_) (fun h3 => ev_val ih' ?_)) (fun h2 => ev_val ih' ?_)
   ·have hp : pairB (gt izM l (i - 1)) (gt izM l i) = false := by unfold pairB; rw [h1, decide_eq_true h2, decide_eq_true h3]; rfl
    simp [goodL, hp]
   ·have hp : pairB (gt izM l (i - 1)) (gt izM l i) = true := by unfold pairB; rw [h1, decide_eq_true h2, decide_eq_false h3]; rfl
    simp [goodL, h, hp]
   ·have hp : pairB (gt izM l (i - 1)) (gt izM l i) = true := by unfold pairB; rw [h1, decide_eq_false h2]; rfl
    simp [goodL, h, hp]
theorem spec_GoodMarks_f (l : List IM) (size : Int) (hl : l.length ≤ 1048576) (hw : ∀ x ∈ l, x.f2.size ≤ 1048576) : Ev (fun k => spec_GoodMarks.f k l size) (goodM l size) := by
 unfold spec_GoodMarks.f
 exact spec_GoodMarks_l l size hl hw l.length 0 (by omega)
theorem impl_GoodMarks_l (l : List IM) (size : Int) (hl : l.length ≤ 1048576) (hw : ∀ x ∈ l, x.f2.size ≤ 1048576) (d : Nat) : ∀ i : Nat, i + d = l.length →
  Ev (fun k => impl_GoodMarks.l0 k l size l (l.length : Int) (i : Int)) (goodL size (prevAt l i) (l.drop i)) := by
 induction d with
 | zero =>
  intro i hi
  refine Ev.step (fun k => by rw [impl_GoodMarks.l0]) ?_
  refine ev_neg (by omega) (ev_ret ?_)
  rw [List.drop_eq_nil_of_le (by omega)]; simp [goodL]
 | succ d ih =>
  intro i hi
  have hm := hw _ (gt_mem izM l i (by omega))
  refine Ev.step (fun k => by rw [impl_GoodMarks.l0]) ?_
  refine ev_pos (by omega) (ev_pos (by omega) (ev_pos (by omega) ?_))
  rw [gt_drop izM l i (by omega), wrap_succ i (by omega)]
  have ih' := ih (i + 1) (by omega)
  rw [show prevAt l (i + 1) = some (gt izM l i) by simp [prevAt]] at ih'
  simp only [rd_im]
  refine Ev.bind (impl_isMark_f _ size (by omega)) (ev_if (fun h => ?_) (fun h => ev_ret (by simp at h; simp [goodL, h])))
  by_cases hi0 : i = 0
  ·subst hi0
   refine ev_neg (by omega) (ev_val ih' ?_)
   simp [goodL, h, prevAt]
  ·have ew : wrap64 ((i : Int) - 1) = ((i - 1 : Nat) : Int) := by unfold wrap64; omega
   rw [ew]
   refine ev_pos (by omega) (ev_pos (by omega) (ev_pos (by omega) ?_))
   simp only [rd_im]
   rw [show prevAt l i = some (gt izM l (i - 1)) by simp [prevAt, hi0]]
   refine ev_if (fun h1 => ev_ret ?_) (fun h1 => ?_)
   ·have hp : pairB (gt izM l (i - 1)) (gt izM l i) = false := by unfold pairB; rw [h1]; rfl
    simp [goodL, hp]
   simp only [Bool.not_eq_true] at h1
   refine ev_if (fun h2 => ev_if (fun h3 => ev_ret ?_) (fun h3 => ev_val ih' ?_)) (fun h2 => ev_val ih' ?_)
   ·have hp : pairB (gt izM l (i - 1)) (gt izM l i) = false := by unfold pairB; rw [h1, decide_eq_true h2, decide_eq_true h3]; rfl
    simp [goodL, hp]
   ·have hp : pairB (gt izM l (i - 1)) (gt izM l i) = true := by unfold pairB; rw [h1, decide_eq_true h2, decide_eq_false h3]; rfl
    simp [goodL, h, hp]
   ·have hp : pairB (gt izM l (i - 1)) (gt izM l i) = true := by unfold pairB; rw [h1, decide_eq_false h2]; rfl
    simp [goodL, h, hp]
theorem impl_GoodMarks_f (l : List IM) (size : Int) (hl : l.length ≤ 1048576) (hw : ∀ x ∈ l, x.f2.size ≤ 1048576) : Ev (fun k => impl_GoodMarks.f k l size) (goodM l size) := by
 unfold impl_GoodMarks.f
 have hj : ∀ b : Bool, (b = true → goodM l size = false) → (b = false → goodM l size = goodL size none l) → Ev (fun k => impl_GoodMarks.j0 k l size b) (goodM l size) := by
  intro b hb1 hb2
  refine Ev.step (fun k => by rw [impl_GoodMarks.j0]) ?_
  refine ev_if (fun h => ev_ret (hb1 h).symm) (fun h => ?_)
  simp only [Bool.not_eq_true] at h
  rw [hb2 h]
  exact impl_GoodMarks_l l size hl hw l.length 0 (by omega)
 refine ev_if (fun h => hj _ (fun _ => ?_) (fun h2 => by cases h2)) (fun h => ev_if (fun h1 => hj _ (fun _ => ?_) (fun h2 => by cases h2)) (fun h1 => hj _ (fun h2 => ?_) (fun h2 => ?_)))
 ·unfold goodM; rw [decide_eq_false (show ¬ (0 ≤ size ∧ size ≤ 300) by omega)]; simp
 ·unfold goodM; rw [decide_eq_false (show ¬ (0 ≤ size ∧ size ≤ 300) by omega)]; simp
 ·have h3 := of_decide_eq_true h2
  unfold goodM; rw [decide_eq_false (show ¬ (l.length ≤ 40) by omega)]; simp
 ·have h3 := of_decide_eq_false h2
  unfold goodM; rw [decide_eq_true (show l.length ≤ 40 by omega), decide_eq_true (show 0 ≤ size ∧ size ≤ 300 by omega)]; simp
theorem goodM_size {l : List IM} {size : Int} (h : goodM l size = true) : l.length ≤ 40 ∧ 0 ≤ size ∧ size ≤ 300 := by
 unfold goodM at h
 simp only [Bool.and_eq_true, decide_eq_true_eq] at h
 omega
theorem pairB_iff (a m : IM) : pairB a m = true ↔ Op.bytesLess m.f2.toList a.f2.toList = false ∧ (a.f2.toList = m.f2.toList → a.f1 < m.f0) := by
 unfold pairB
 simp only [Bool.and_eq_true, Bool.not_eq_true', Bool.and_eq_false_iff, decide_eq_false_iff_not]
 refine and_congr_right fun _ => ⟨fun h e => ?_, fun h => ?_⟩
 ·rcases h with h | h
  ·exact absurd e h
  ·omega
 ·by_cases e : a.f2.toList = m.f2.toList
  ·right; have := h e; omega
  ·left; exact e
theorem markB_iff (m : IM) (size : Int) : markB m size = true ↔ styleB (bytesOf m.f2) = true ∧ 0 ≤ m.f0 ∧ m.f0 < m.f1 ∧ m.f1 ≤ size := by
 unfold markB; simp only [Bool.and_eq_true, decide_eq_true_eq]
def okB2 : Option IM → IM → Prop
 | none, _ => True
 | some a, m => pairB a m = true
theorem goodL_cons (size : Int) (p : Option IM) (m : IM) (r : List IM) : goodL size p (m :: r) = true ↔ markB m size = true ∧ okB2 p m ∧ goodL size (some m) r = true := by
 cases p <;> simp [goodL, okB2]
/-- Marks by themselves: from, to and a style of a strict order. -/
structure MkO (σ : Type) where
 f : Int
 t : Int
 s : σ
section MarkJoin
variable {σ : Type} [DecidableEq σ] (lt : σ → σ → Prop) [DecidableRel lt]
/-- One mark ahead of another, apart. -/
def SepM (a b : MkO σ) : Prop := lt a.s b.s ∨ (a.s = b.s ∧ a.t < b.f)
def KleM (a b : MkO σ) : Prop := lt a.s b.s ∨ (a.s = b.s ∧ a.f ≤ b.f)
def GoodLM : List (MkO σ) → Prop
 | [] => True
 | [a] => a.f < a.t
 | a :: b :: l => a.f < a.t ∧ SepM lt a b ∧ GoodLM (b :: l)
def jn : MkO σ → List (MkO σ) → List (MkO σ)
 | a, [] => [a]
 | a, m :: l => if a.s = m.s ∧ m.f ≤ a.t then jn ⟨a.f, max a.t m.t, a.s⟩ l else a :: jn m l
def jnL : List (MkO σ) → List (MkO σ)
 | [] => []
 | m :: l => jn m l
def addF : Bool → List (MkO σ) → MkO σ → List (MkO σ)
 | put, [], m => if put then [] else [m]
 | put, x :: l, m =>
  if lt x.s m.s ∨ (x.s = m.s ∧ x.t < m.f) then x :: addF put l m
  else if lt m.s x.s ∨ x.f > m.t then (if put then x :: addF put l m else m :: x :: addF true l m)
  else addF put l ⟨min m.f x.f, max m.t x.t, m.s⟩
omit [DecidableEq σ] [DecidableRel lt] in
theorem good_tail {a : MkO σ} {l : List (MkO σ)} (h : GoodLM lt (a :: l)) : GoodLM lt l ∧ a.f < a.t := by
 cases l with
 | nil => exact ⟨trivial, h⟩
 | cons b l => exact ⟨h.2.2, h.1⟩
omit [DecidableEq σ] [DecidableRel lt] in
theorem sep_trans (htr : ∀ a b c, lt a b → lt b c → lt a c) {a b c : MkO σ} (h1 : SepM lt a b) (hb : b.f < b.t) (h2 : SepM lt b c) : SepM lt a c := by
 unfold SepM at *
 rcases h1 with h1 | ⟨e1, h1⟩
 ·rcases h2 with h2 | ⟨e2, h2⟩
  ·exact .inl (htr _ _ _ h1 h2)
  ·exact .inl (e2 ▸ h1)
 ·rcases h2 with h2 | ⟨e2, h2⟩
  ·exact .inl (e1 ▸ h2)
  ·exact .inr ⟨e1.trans e2, by omega⟩
omit [DecidableEq σ] [DecidableRel lt] in
theorem good_all (htr : ∀ a b c, lt a b → lt b c → lt a c) : ∀ (l : List (MkO σ)) (a : MkO σ), GoodLM lt (a :: l) → ∀ x ∈ l, SepM lt a x
 | [], _, _, x, hx => by cases hx
 | b :: l, a, h, x, hx => by
  rcases List.mem_cons.1 hx with rfl | hx
  ·exact h.2.1
  ·exact sep_trans lt htr h.2.1 (good_tail lt h.2.2).2 (good_all htr l b h.2.2 x hx)
omit [DecidableRel lt] in
theorem jn_good : ∀ (l : List (MkO σ)) (a : MkO σ), (hir : ∀ s, ¬ lt s s) → GoodLM lt (a :: l) → jn a l = a :: l
 | [], _, _, _ => rfl
 | b :: l, a, hir, h => by
  have : ¬ (a.s = b.s ∧ b.f ≤ a.t) := fun q => by
   rcases h.2.1 with z | ⟨_, z⟩
   ·exact hir _ (q.1 ▸ z)
   ·omega
  unfold jn
  rw [if_neg this, jn_good l b hir h.2.2]
theorem addF_true : ∀ (l : List (MkO σ)) (m : MkO σ), (∀ x ∈ l, lt m.s x.s ∨ x.f > m.t) → addF lt true l m = l
 | [], _, _ => rfl
 | x :: l, m, h => by
  have ih := addF_true l m (fun y hy => h y (List.mem_cons_of_mem _ hy))
  unfold addF
  split
  ·rw [ih]
  ·rw [if_pos (h x (List.mem_cons_self ..)), if_pos rfl, ih]
theorem jn_add (htr : ∀ a b c, lt a b → lt b c → lt a c) (hir : ∀ s, ¬ lt s s) : ∀ (l : List (MkO σ)) (m : MkO σ), m.f < m.t → GoodLM lt l → (∀ x ∈ l, KleM lt m x) → jn m l = addF lt false l m
 | [], m, _, _, _ => rfl
 | x :: l, m, hm, hg, hk => by
  obtain ⟨hg2, hx⟩ := good_tail lt hg
  have hall := good_all lt htr l x hg
  have hj := jn_good lt l x hir hg
  rcases hk x (List.mem_cons_self ..) with h | ⟨e, h⟩
  ·have n1 : ¬ (lt x.s m.s ∨ (x.s = m.s ∧ x.t < m.f)) := by
    rintro (q | ⟨q, _⟩)
    ·exact hir _ (htr _ _ _ h q)
    ·exact hir _ (q ▸ h)
   have n2 : ¬ (m.s = x.s ∧ x.f ≤ m.t) := fun q => hir _ (q.1 ▸ h)
   unfold jn addF
   rw [if_neg n1, if_neg n2, if_pos (.inl h), if_neg (by simp), hj, addF_true lt l m]
   intro y hy
   rcases hall y hy with q | ⟨q, _⟩
   ·exact .inl (htr _ _ _ h q)
   ·exact .inl (q ▸ h)
  ·have n1 : ¬ (lt x.s m.s ∨ (x.s = m.s ∧ x.t < m.f)) := by
    rintro (q | ⟨_, q⟩)
    ·exact hir _ (e ▸ q)
    ·omega
   by_cases c : x.f ≤ m.t
   ·have n2 : ¬ (lt m.s x.s ∨ x.f > m.t) := by
     rintro (q | q)
     ·exact hir _ (e ▸ q)
     ·omega
    unfold jn addF
    rw [if_neg n1, if_pos ⟨e, c⟩, if_neg n2]
    have e1 : min m.f x.f = m.f := by omega
    rw [e1]
    exact jn_add htr hir l ⟨m.f, max m.t x.t, m.s⟩ (by show m.f < max m.t x.t; omega) hg2 (fun y hy => by
     rcases hall y hy with q | ⟨q, q2⟩
     ·exact .inl (by show lt m.s y.s; rw [e]; exact q)
     ·exact .inr ⟨by show m.s = y.s; rw [e]; exact q, by show m.f ≤ y.f; omega⟩)
   ·unfold jn addF
    rw [if_neg n1, if_neg (fun q => c q.2), if_pos (.inr (by omega)), if_neg (by simp), hj, addF_true lt l m]
    intro y hy
    rcases hall y hy with q | ⟨q, q2⟩
    ·exact .inl (by rw [e]; exact q)
    ·exact .inr (by omega)
/-- A mark set into good marks by its key, then what touches joined: that is the mark added. -/
theorem join_add (htr : ∀ a b c, lt a b → lt b c → lt a c) (hir : ∀ s, ¬ lt s s) (m : MkO σ) (hm : m.f < m.t) (l2 : List (MkO σ)) : ∀ l1 : List (MkO σ), GoodLM lt (l1 ++ l2) → (∀ x ∈ l1, KleM lt x m) → (∀ x ∈ l2, KleM lt m x) → jnL (l1 ++ m :: l2) = addF lt false (l1 ++ l2) m
 | [], hg, _, h2 => jn_add lt htr hir l2 m hm hg h2
 | [a], hg, h1, h2 => by
  obtain ⟨hg2, ha⟩ := good_tail lt (show GoodLM lt (a :: l2) from hg)
  have hall := good_all lt htr l2 a hg
  show jn a (m :: l2) = addF lt false (a :: l2) m
  rcases h1 a (List.mem_cons_self ..) with h | ⟨e, h⟩
  ·unfold jn addF
   rw [if_neg (fun q => hir _ (q.1 ▸ h)), if_pos (.inl h), jn_add lt htr hir l2 m hm hg2 h2]
  ·by_cases c : m.f ≤ a.t
   ·have n1 : ¬ (lt a.s m.s ∨ (a.s = m.s ∧ a.t < m.f)) := by
     rintro (q | ⟨_, q⟩)
     ·exact hir _ (e ▸ q)
     ·omega
    have n2 : ¬ (lt m.s a.s ∨ a.f > m.t) := by
     rintro (q | q)
     ·exact hir _ (e ▸ q)
     ·omega
    unfold jn addF
    rw [if_pos ⟨e, c⟩, if_neg n1, if_neg n2]
    have e1 : min m.f a.f = a.f := by omega
    have e2 : max m.t a.t = max a.t m.t := by omega
    rw [e1, e2, ← e]
    exact jn_add lt htr hir l2 ⟨a.f, max a.t m.t, a.s⟩ (by show a.f < max a.t m.t; omega) hg2 (fun y hy => by
     rcases hall y hy with q | ⟨q, q2⟩
     ·exact .inl q
     ·exact .inr ⟨q, by show a.f ≤ y.f; omega⟩)
   ·unfold jn addF
    rw [if_neg (fun q => c q.2), if_pos (.inr ⟨e, by omega⟩), jn_add lt htr hir l2 m hm hg2 h2]
 | a :: b :: l1, hg, h1, h2 => by
  have hg' : GoodLM lt (a :: b :: (l1 ++ l2)) := hg
  have ih := join_add htr hir m hm l2 (b :: l1) hg'.2.2 (fun x hx => h1 x (List.mem_cons_of_mem _ hx)) h2
  have hab : ¬ (a.s = b.s ∧ b.f ≤ a.t) := fun q => by
   rcases hg'.2.1 with z | ⟨_, z⟩
   ·exact hir _ (q.1 ▸ z)
   ·omega
  have ham : lt a.s m.s ∨ (a.s = m.s ∧ a.t < m.f) := by
   rcases h1 b (by simp) with q | ⟨q, q2⟩
   ·rcases hg'.2.1 with z | ⟨z, _⟩
    ·exact .inl (htr _ _ _ z q)
    ·exact .inl (z ▸ q)
   ·rcases hg'.2.1 with z | ⟨z, z2⟩
    ·exact .inl (q ▸ z)
    ·exact .inr ⟨z.trans q, by omega⟩
  show jn a (b :: (l1 ++ m :: l2)) = addF lt false (a :: (b :: (l1 ++ l2))) m
  have ih' : jn b (l1 ++ m :: l2) = addF lt false (b :: (l1 ++ l2)) m := ih
  rw [show jn a (b :: (l1 ++ m :: l2)) = a :: jn b (l1 ++ m :: l2) from by rw [jn, if_neg hab], ih', show addF lt false (a :: (b :: (l1 ++ l2))) m = a :: addF lt false (b :: (l1 ++ l2)) m from by rw [addF, if_pos ham]]
omit [DecidableEq σ] [DecidableRel lt] in
theorem good_pair (htr : ∀ a b c, lt a b → lt b c → lt a c) : ∀ (l : List (MkO σ)), GoodLM lt l → l.Pairwise (fun a b => SepM lt a b ∧ a.f < a.t)
 | [], _ => List.Pairwise.nil
 | a :: l, h => List.Pairwise.cons (fun x hx => ⟨good_all lt htr l a h x hx, (good_tail lt h).2⟩) (good_pair htr l (good_tail lt h).1)
omit [DecidableEq σ] [DecidableRel lt] in
theorem pair_kle : ∀ (l : List (MkO σ)), l.Pairwise (fun a b => SepM lt a b ∧ a.f < a.t) → l.Pairwise (KleM lt) := fun l h =>
 h.imp (fun {a b} q => by
  rcases q.1 with z | ⟨z, z2⟩
  ·exact .inl z
  ·exact .inr ⟨z, by have := q.2; omega⟩)
omit [DecidableEq σ] [DecidableRel lt] in
theorem sep_ne (htr : ∀ a b c, lt a b → lt b c → lt a c) (hir : ∀ s, ¬ lt s s) {a b : MkO σ} (h : SepM lt a b ∧ a.f < a.t) : ¬ KleM lt b a := by
 rintro (q | ⟨q, q2⟩)
 ·rcases h.1 with z | ⟨z, _⟩
  ·exact hir _ (htr _ _ _ z q)
  ·exact hir _ (z ▸ q)
 ·rcases h.1 with z | ⟨_, z2⟩
  ·exact hir _ (q ▸ z)
  ·have := h.2; omega
omit [DecidableEq σ] [DecidableRel lt] in
theorem pair_anti (htr : ∀ a b c, lt a b → lt b c → lt a c) (hir : ∀ s, ¬ lt s s) : ∀ (l : List (MkO σ)), l.Pairwise (fun a b => SepM lt a b ∧ a.f < a.t) → ∀ a b, a ∈ l → b ∈ l → KleM lt a b → KleM lt b a → a = b
 | [], _, a, _, ha, _, _, _ => by cases ha
 | x :: l, h, a, b, ha, hb, h1, h2 => by
  obtain ⟨hx, hl⟩ := List.pairwise_cons.1 h
  rcases List.mem_cons.1 ha with ea | ha'
  ·subst ea
   rcases List.mem_cons.1 hb with eb | hb'
   ·exact eb.symm
   ·exact absurd h2 (sep_ne lt htr hir (hx b hb'))
  ·rcases List.mem_cons.1 hb with eb | hb'
   ·subst eb
    exact absurd h1 (sep_ne lt htr hir (hx a ha'))
   ·exact pair_anti htr hir l hl a b ha' hb' h1 h2
omit [DecidableEq σ] [DecidableRel lt] in
/-- A sorted row of good marks and one more is the good marks with that one set in. -/
theorem ins_split (htr : ∀ a b c, lt a b → lt b c → lt a c) (hir : ∀ s, ¬ lt s s) (l s : List (MkO σ)) (m : MkO σ) (hg : GoodLM lt l) (hp : s.Perm (m :: l)) (hs : s.Pairwise (KleM lt)) :
  ∃ l1 l2, l = l1 ++ l2 ∧ s = l1 ++ m :: l2 ∧ (∀ x ∈ l1, KleM lt x m) ∧ (∀ x ∈ l2, KleM lt m x) := by
 obtain ⟨A, B, rfl⟩ := List.append_of_mem (hp.mem_iff.2 (List.mem_cons_self ..))
 have h1 : (A ++ B).Perm l := (List.perm_middle.symm.trans hp).cons_inv
 obtain ⟨pA, pB, pAB⟩ := List.pairwise_append.1 hs
 obtain ⟨pm, pB2⟩ := List.pairwise_cons.1 pB
 have h2 : (A ++ B).Pairwise (KleM lt) := List.pairwise_append.2 ⟨pA, pB2, fun a ha b hb => pAB a ha b (List.mem_cons_of_mem _ hb)⟩
 have hgp := good_pair lt htr l hg
 have e : A ++ B = l := List.Perm.eq_of_pairwise (le := KleM lt) (fun a b ha hb => pair_anti lt htr hir l hgp a b (h1.mem_iff.1 ha) hb) h2 (pair_kle lt l hgp) h1
 exact ⟨A, B, e.symm, rfl, fun x hx => pAB x hx m (List.mem_cons_self ..), pm⟩
/-- So sorting and joining adds the mark. -/
theorem sort_add (htr : ∀ a b c, lt a b → lt b c → lt a c) (hir : ∀ s, ¬ lt s s) (l s : List (MkO σ)) (m : MkO σ) (hm : m.f < m.t) (hg : GoodLM lt l) (hp : s.Perm (m :: l)) (hs : s.Pairwise (KleM lt)) : jnL s = addF lt false l m := by
 obtain ⟨l1, l2, e, e2, k1, k2⟩ := ins_split lt htr hir l s m hg hp hs
 rw [e2, e]
 exact join_add lt htr hir m hm l2 l1 (e ▸ hg) k1 k2
end MarkJoin
/-- A mark with its style's bytes. -/
def tkM (x : IM) : MkO (List UInt8) := ⟨x.f0, x.f1, x.f2.toList⟩
abbrev ltB (a b : List UInt8) : Prop := Op.bytesLess a b = true
theorem ltB_trans : ∀ a b c : List UInt8, ltB a b → ltB b c → ltB a c := fun a b c h k => Ord.less_trans a b c h k
theorem ltB_irrefl : ∀ s : List UInt8, ¬ ltB s s := fun s h => by rw [ltB, Ord.less_irrefl] at h; cases h
theorem tkM_inj {x y : IM} (h : tkM x = tkM y) : x = y := by
 obtain ⟨a, b, c⟩ := x
 obtain ⟨a', b', c'⟩ := y
 simp only [tkM, MkO.mk.injEq] at h
 obtain ⟨rfl, rfl, h⟩ := h
 rw [ByteArray.toList_eq, ByteArray.toList_eq] at h
 rw [ByteArray.ext (Array.toList_inj.1 h)]
theorem tkM_map_inj : ∀ {l l' : List IM}, l.map tkM = l'.map tkM → l = l'
 | [], [], _ => rfl
 | [], _ :: _, h => by cases h
 | _ :: _, [], h => by cases h
 | x :: l, y :: l', h => by
  rw [List.map_cons, List.map_cons] at h
  injection h with h1 h2
  rw [tkM_inj h1, tkM_map_inj h2]
def jI : IM → List IM → List IM
 | a, [] => [a]
 | a, m :: l => if a.f2.toList = m.f2.toList ∧ m.f0 ≤ a.f1 then jI ⟨a.f0, mx a.f1 m.f1, a.f2⟩ l else a :: jI m l
def jIL : List IM → List IM
 | [] => []
 | m :: l => jI m l
def addI : Bool → List IM → IM → List IM
 | put, [], m => if put then [] else [m]
 | put, x :: l, m =>
  if Op.bytesLess x.f2.toList m.f2.toList = true ∨ (x.f2.toList = m.f2.toList ∧ x.f1 < m.f0) then x :: addI put l m
  else if Op.bytesLess m.f2.toList x.f2.toList = true ∨ x.f0 > m.f1 then (if put then x :: addI put l m else m :: x :: addI true l m)
  else addI put l ⟨min m.f0 x.f0, max m.f1 x.f1, m.f2⟩
theorem mx_max (a b : Int) : mx a b = max a b := by unfold mx; omega
theorem jI_tk : ∀ (l : List IM) (a : IM), (jI a l).map tkM = jn (tkM a) (l.map tkM)
 | [], a => rfl
 | m :: l, a => by
  rw [List.map_cons]
  unfold jI jn
  by_cases c : a.f2.toList = m.f2.toList ∧ m.f0 ≤ a.f1
  ·rw [if_pos c, if_pos (show (tkM a).s = (tkM m).s ∧ (tkM m).f ≤ (tkM a).t from c), jI_tk l]
   show jn ⟨a.f0, mx a.f1 m.f1, a.f2.toList⟩ _ = _
   rw [mx_max]; rfl
  ·rw [if_neg c, if_neg (show ¬ ((tkM a).s = (tkM m).s ∧ (tkM m).f ≤ (tkM a).t) from c), List.map_cons, jI_tk l m]
theorem jIL_tk (l : List IM) : (jIL l).map tkM = jnL (l.map tkM) := by
 cases l with
 | nil => rfl
 | cons m l => exact jI_tk l m
theorem addI_tk : ∀ (l : List IM) (put : Bool) (m : IM), (addI put l m).map tkM = addF ltB put (l.map tkM) (tkM m)
 | [], put, m => by cases put <;> rfl
 | x :: l, put, m => by
  rw [List.map_cons]
  unfold addI addF
  by_cases c : Op.bytesLess x.f2.toList m.f2.toList = true ∨ (x.f2.toList = m.f2.toList ∧ x.f1 < m.f0)
  ·rw [if_pos c, if_pos (show ltB (tkM x).s (tkM m).s ∨ ((tkM x).s = (tkM m).s ∧ (tkM x).t < (tkM m).f) from c), List.map_cons, addI_tk l]
  ·rw [if_neg c, if_neg (show ¬ (ltB (tkM x).s (tkM m).s ∨ ((tkM x).s = (tkM m).s ∧ (tkM x).t < (tkM m).f)) from c)]
   by_cases c2 : Op.bytesLess m.f2.toList x.f2.toList = true ∨ x.f0 > m.f1
   ·rw [if_pos c2, if_pos (show ltB (tkM m).s (tkM x).s ∨ (tkM x).f > (tkM m).t from c2)]
    cases put
    ·rw [if_neg (by simp), if_neg (by simp), List.map_cons, List.map_cons, addI_tk l]
    ·rw [if_pos rfl, if_pos rfl, List.map_cons, addI_tk l]
   ·rw [if_neg c2, if_neg (show ¬ (ltB (tkM m).s (tkM x).s ∨ (tkM x).f > (tkM m).t) from c2), addI_tk l]
    rfl
theorem addI_all (size : Int) : ∀ (l : List IM) (put : Bool) (m : IM), (∀ x ∈ l, markB x size = true) → markB m size = true → ∀ x ∈ addI put l m, markB x size = true
 | [], put, m, _, hm, x, hx => by
  unfold addI at hx
  cases put
  ·rw [if_neg (by simp)] at hx; rw [List.mem_singleton.1 hx]; exact hm
  ·rw [if_pos rfl] at hx; cases hx
 | y :: l, put, m, hl, hm, x, hx => by
  have hy := hl y (List.mem_cons_self ..)
  have hl' := fun z hz => hl z (List.mem_cons_of_mem _ hz)
  unfold addI at hx
  split at hx
  ·rcases List.mem_cons.1 hx with rfl | hx
   ·exact hy
   ·exact addI_all size l put m hl' hm x hx
  ·split at hx
   ·cases put
    ·rw [if_neg (by simp)] at hx
     rcases List.mem_cons.1 hx with rfl | hx
     ·exact hm
     ·rcases List.mem_cons.1 hx with rfl | hx
      ·exact hy
      ·exact addI_all size l true m hl' hm x hx
    ·rw [if_pos rfl] at hx
     rcases List.mem_cons.1 hx with rfl | hx
     ·exact hy
     ·exact addI_all size l true m hl' hm x hx
   ·refine addI_all size l put _ hl' ?_ x hx
    rw [markB_iff] at hm hy ⊢
    exact ⟨hm.1, by show 0 ≤ min m.f0 y.f0; omega, by show min m.f0 y.f0 < max m.f1 y.f1; omega, by show max m.f1 y.f1 ≤ size; omega⟩
theorem addI_len : ∀ (l : List IM) (put : Bool) (m : IM), (addI put l m).length ≤ l.length + 1
 | [], put, m => by cases put <;> simp [addI]
 | y :: l, put, m => by
  unfold addI
  split
  ·have := addI_len l put m; simp only [List.length_cons]; omega
  ·split
   ·cases put
    ·have := addI_len' l m; simp only [Bool.false_eq_true, if_false, List.length_cons]; omega
    ·have := addI_len l true m; simp only [if_true, List.length_cons]; omega
   ·have := addI_len l put ⟨min m.f0 y.f0, max m.f1 y.f1, m.f2⟩; simp only [List.length_cons]; omega
where addI_len' : ∀ (l : List IM) (m : IM), (addI true l m).length ≤ l.length
 | [], m => by simp [addI]
 | y :: l, m => by
  unfold addI
  split
  ·have := addI_len' l m; simp only [List.length_cons]; omega
  ·split
   ·have := addI_len' l m; simp only [if_true, List.length_cons]; omega
   ·have := addI_len' l ⟨min m.f0 y.f0, max m.f1 y.f1, m.f2⟩; simp only [List.length_cons]; omega
/-- A pair of good marks is apart. -/
theorem pair_sep (a m : IM) (h : pairB a m = true) : SepM ltB (tkM a) (tkM m) := by
 obtain ⟨h1, h2⟩ := (pairB_iff a m).1 h
 by_cases e : a.f2.toList = m.f2.toList
 ·exact .inr ⟨e, h2 e⟩
 ·by_cases c : Op.bytesLess a.f2.toList m.f2.toList = true
  ·exact .inl c
  ·exact absurd (Ord.less_total (by simpa using c) h1) e
theorem sep_pair (a m : IM) (h : SepM ltB (tkM a) (tkM m)) : pairB a m = true := by
 rw [pairB_iff]
 rcases h with h | ⟨e, h⟩
 ·refine ⟨?_, fun e => ?_⟩
  ·rw [Bool.eq_false_iff]; intro q
   exact ltB_irrefl _ (ltB_trans _ _ _ h q)
  ·exact absurd (show ltB a.f2.toList a.f2.toList from by have h' : ltB a.f2.toList m.f2.toList := h; rw [← e] at h'; exact h') (ltB_irrefl _)
 ·have e' : a.f2.toList = m.f2.toList := e
  exact ⟨by rw [e']; exact Ord.less_irrefl _, fun _ => h⟩
theorem goodL_lm (size : Int) : ∀ (l : List IM) (p : Option IM), goodL size p l = true → GoodLM ltB (l.map tkM) ∧ ∀ x ∈ l, markB x size = true
 | [], _, _ => ⟨trivial, fun x hx => by cases hx⟩
 | [a], p, h => by
  obtain ⟨h1, _, _⟩ := (goodL_cons size p a []).1 h
  exact ⟨((markB_iff a size).1 h1).2.2.1, fun x hx => by rw [List.mem_singleton.1 hx]; exact h1⟩
 | a :: b :: l, p, h => by
  obtain ⟨h1, _, h3⟩ := (goodL_cons size p a (b :: l)).1 h
  obtain ⟨_, h4, _⟩ := (goodL_cons size (some a) b l).1 h3
  obtain ⟨i1, i2⟩ := goodL_lm size (b :: l) (some a) h3
  refine ⟨⟨((markB_iff a size).1 h1).2.2.1, pair_sep a b h4, i1⟩, fun x hx => ?_⟩
  rcases List.mem_cons.1 hx with rfl | hx
  ·exact h1
  ·exact i2 x hx
theorem lm_goodL (size : Int) : ∀ (l : List IM) (p : Option IM), GoodLM ltB (l.map tkM) → (∀ x ∈ l, markB x size = true) → (∀ a m r, p = some a → l = m :: r → pairB a m = true) → goodL size p l = true
 | [], _, _, _, _ => rfl
 | [a], p, _, h2, h3 => (goodL_cons size p a []).2 ⟨h2 a (List.mem_cons_self ..), by cases p with
   | none => trivial
   | some q => exact h3 q a [] rfl rfl, rfl⟩
 | a :: b :: l, p, h1, h2, h3 => (goodL_cons size p a (b :: l)).2 ⟨h2 a (List.mem_cons_self ..), by cases p with
   | none => trivial
   | some q => exact h3 q a (b :: l) rfl rfl, lm_goodL size (b :: l) (some a) h1.2.2 (fun x hx => h2 x (List.mem_cons_of_mem _ hx)) (fun q m r e1 e2 => by
    cases e1; cases e2; exact sep_pair a b h1.2.1)⟩
/-- What the joining of a sorted row begins with. -/
theorem jn_head {σ : Type} [DecidableEq σ] : ∀ (l : List (MkO σ)) (a : MkO σ), ∃ t r, jn a l = ⟨a.f, t, a.s⟩ :: r
 | [], a => ⟨a.t, [], rfl⟩
 | m :: l, a => by
  unfold jn
  split
  ·exact jn_head l ⟨a.f, max a.t m.t, a.s⟩
  ·exact ⟨a.t, _, rfl⟩
theorem jn_goodLM {σ : Type} [DecidableEq σ] (lt : σ → σ → Prop) : ∀ (l : List (MkO σ)) (a : MkO σ), a.f < a.t → (∀ x ∈ l, x.f < x.t) → (a :: l).Pairwise (KleM lt) → GoodLM lt (jn a l)
 | [], a, h, _, _ => h
 | m :: l, a, h, hl, hp => by
  obtain ⟨p1, p2⟩ := List.pairwise_cons.1 hp
  obtain ⟨p3, p4⟩ := List.pairwise_cons.1 p2
  have hm := hl m (List.mem_cons_self ..)
  have hl' := fun x hx => hl x (List.mem_cons_of_mem _ hx)
  unfold jn
  split
  ·refine jn_goodLM lt l _ (by show a.f < max a.t m.t; omega) hl' (List.pairwise_cons.2 ⟨fun x hx => p1 x (List.mem_cons_of_mem _ hx), p4⟩)
  ·rename_i c
   have ih := jn_goodLM lt l m hm hl' p2
   obtain ⟨t, r, e⟩ := jn_head l m
   rw [e] at ih ⊢
   refine ⟨h, ?_, ih⟩
   rcases p1 m (List.mem_cons_self ..) with q | ⟨q, q2⟩
   ·exact .inl q
   ·exact .inr ⟨q, by show a.t < m.f; have : ¬ m.f ≤ a.t := fun z => c ⟨q, z⟩; omega⟩
theorem spec_l5Add_l (l : List IM) (hl : l.length ≤ 1048576) (d : Nat) : ∀ (i : Nat) (acc : List IM) (put : Bool) (m : IM), i + d = l.length → acc.length ≤ 2 * i →
  Ev (fun k => spec_l5Add.l0 k acc put l (l.length : Int) (i : Int) m.f0 m.f1 m.f2) (acc ++ addI put (l.drop i) m) := by
 induction d with
 | zero =>
  intro i acc put m hi ha
  refine Ev.step (fun k => by rw [spec_l5Add.l0]) ?_
  refine ev_neg (by omega) ?_
  rw [List.drop_eq_nil_of_le (by omega)]
  refine ev_if (fun h => ev_ret ?_) (fun h => ev_pos (by omega) (ev_ret ?_))
  ·rw [addI, if_pos h, List.append_nil]
  ·rw [addI, if_neg h]
 | succ d ih =>
  intro i acc put m hi ha
  rw [gt_drop izM l i (by omega)]
  have ew := wrap_succ i (by omega)
  refine Ev.step (fun k => by rw [spec_l5Add.l0]) ?_
  refine ev_pos (by omega) (ev_pos (by omega) (ev_pos (by omega) ?_))
  simp only [rd_im]
  have ih' := fun acc' put' m' h => ih (i + 1) acc' put' m' (by omega) h
  generalize l.drop (i + 1) = r at ih' ⊢
  have hj2 : ∀ (x : IM) (b : Bool), Ev (fun k => spec_l5Add.j2 k acc put l (l.length : Int) (i : Int) b m.f0 m.f1 m.f2 x.f0 x.f1 x.f2) (acc ++ (if b = true then (if put = true then x :: addI put r m else m :: x :: addI true r m) else addI put r ⟨min m.f0 x.f0, max m.f1 x.f1, m.f2⟩)) := by
   intro x b
   refine Ev.step (fun k => by rw [spec_l5Add.j2]) ?_
   simp only [ew]
   refine ev_if (fun h => ?_) (fun h => ?_)
   ·rw [if_pos h]
    refine ev_if (fun hp => ev_pos (by omega) ?_) (fun hp => ev_pos (by omega) (ev_some (ev_pos (by rw [List.length_append]; simp only [List.length_cons, List.length_nil]; omega) ?_)))
    ·rw [if_pos hp]
     exact ev_val (ih' (acc ++ [x]) put m (by rw [List.length_append]; simp only [List.length_cons, List.length_nil]; omega)) (by simp)
    ·rw [if_neg hp]
     exact ev_val (ih' ((acc ++ [m]) ++ [x]) true m (by rw [List.length_append, List.length_append]; simp only [List.length_cons, List.length_nil]; omega)) (by simp)
   ·rw [if_neg h]
    refine ev_if (fun h0 => ev_if (fun h1 => ev_val (ih' acc put ⟨x.f0, x.f1, m.f2⟩ (by omega)) ?_) (fun h1 => ev_val (ih' acc put ⟨x.f0, m.f1, m.f2⟩ (by omega)) ?_)) (fun h0 => ev_if (fun h1 => ev_val (ih' acc put ⟨m.f0, x.f1, m.f2⟩ (by omega)) ?_) (fun h1 => ev_val (ih' acc put m (by omega)) ?_))
    ·rw [show min m.f0 x.f0 = x.f0 by omega, show max m.f1 x.f1 = x.f1 by omega]
    ·rw [show min m.f0 x.f0 = x.f0 by omega, show max m.f1 x.f1 = m.f1 by omega]
    ·rw [show min m.f0 x.f0 = m.f0 by omega, show max m.f1 x.f1 = x.f1 by omega]
    ·rw [show min m.f0 x.f0 = m.f0 by omega, show max m.f1 x.f1 = m.f1 by omega]
  have hj1 : ∀ (x : IM) (b : Bool), Ev (fun k => spec_l5Add.j1 k acc put l (l.length : Int) (i : Int) b m.f0 m.f1 m.f2 x.f0 x.f1 x.f2) (acc ++ (if b = true then x :: addI put r m else if Op.bytesLess m.f2.toList x.f2.toList = true ∨ x.f0 > m.f1 then (if put = true then x :: addI put r m else m :: x :: addI true r m) else addI put r ⟨min m.f0 x.f0, max m.f1 x.f1, m.f2⟩)) := by
   intro x b
   refine Ev.step (fun k => by rw [spec_l5Add.j1]) ?_
   simp only [ew]
   refine ev_if (fun h => ev_pos (by omega) ?_) (fun h => ?_)
   ·rw [if_pos h]
    exact ev_val (ih' (acc ++ [x]) put m (by rw [List.length_append]; simp only [List.length_cons, List.length_nil]; omega)) (by simp)
   ·rw [if_neg h]
    refine ev_if (fun h1 => ev_val (hj2 x true) ?_) (fun h1 => ev_val (hj2 x _) ?_)
    ·exact congrArg (fun z => acc ++ z) ((if_pos rfl).trans (if_pos (.inl h1)).symm)
    ·by_cases c : x.f0 > m.f1
     ·exact congrArg (fun z => acc ++ z) ((if_pos (decide_eq_true c)).trans (if_pos (.inr c)).symm)
     ·exact congrArg (fun z => acc ++ z) ((if_neg (fun z => c (of_decide_eq_true z))).trans (if_neg (fun q => q.elim h1 c)).symm)
  have e : ∀ x : IM, addI put (x :: r) m = (if Op.bytesLess x.f2.toList m.f2.toList = true ∨ (x.f2.toList = m.f2.toList ∧ x.f1 < m.f0) then x :: addI put r m else if Op.bytesLess m.f2.toList x.f2.toList = true ∨ x.f0 > m.f1 then (if put = true then x :: addI put r m else m :: x :: addI true r m) else addI put r ⟨min m.f0 x.f0, max m.f1 x.f1, m.f2⟩) := fun x => by rw [addI]
  rw [e]
  refine ev_if (fun h => ev_val (hj1 _ true) ?_) (fun h => ev_if (fun h1 => ev_val (hj1 _ _) ?_) (fun h1 => ev_val (hj1 _ false) ?_))
  ·exact congrArg (fun z => acc ++ z) ((if_pos rfl).trans (if_pos (.inl h)).symm)
  ·by_cases c : (gt izM l i).f1 < m.f0
   ·exact congrArg (fun z => acc ++ z) ((if_pos (decide_eq_true c)).trans (if_pos (.inr ⟨h1, c⟩)).symm)
   ·exact congrArg (fun z => acc ++ z) ((if_neg (fun z => c (of_decide_eq_true z))).trans (if_neg (fun q => q.elim h (fun z => c z.2))).symm)
  ·exact congrArg (fun z => acc ++ z) ((if_neg Bool.false_ne_true).trans (if_neg (fun q => q.elim h (fun z => h1 z.1))).symm)
theorem spec_l5Add_f (l : List IM) (m : IM) (hl : l.length ≤ 1048576) : Ev (fun k => spec_l5Add.f k l m.f0 m.f1 m.f2) (addI false l m) := by
 unfold spec_l5Add.f
 exact spec_l5Add_l l hl l.length 0 [] false m (by omega) (by simp)
theorem impl_joined_l (l : List IM) (n : Int) (hn : n = l.length) (hl : l.length ≤ 1048576) (d : Nat) : ∀ (i : Nat) (pre : List IM) (a : IM), i + d = l.length → pre.length ≤ i →
  Ev (fun k => impl_joined.l0 k (pre ++ [a]) l n (i : Int)) (pre ++ jI a (l.drop i)) := by
 induction d with
 | zero =>
  intro i pre a hi hp
  refine Ev.step (fun k => by rw [impl_joined.l0]) ?_
  refine ev_neg (by omega) (ev_ret ?_)
  rw [List.drop_eq_nil_of_le (by omega), jI]
 | succ d ih =>
  intro i pre a hi hp
  rw [gt_drop izM l i (by omega)]
  have ew := wrap_succ i (by omega)
  have el : (pre ++ [a]).length = pre.length + 1 := by simp
  have e1 : wrap64 (((pre ++ [a]).length : Int) - 1) = ((pre.length : Nat) : Int) := by rw [el]; unfold wrap64; omega
  have ga : gt izM (pre ++ [a]) pre.length = a := by simp [gt]
  refine Ev.step (fun k => by rw [impl_joined.l0]) ?_
  simp only [e1, ew, rd_im, ga]
  refine ev_pos (by omega) (ev_pos (by omega) (ev_pos (by omega) ?_))
  generalize gt izM l i = x
  have ih' := fun pre' a' h => ih (i + 1) pre' a' (by omega) h
  generalize l.drop (i + 1) = r at ih' ⊢
  refine ev_pos (by omega) (ev_pos (by omega) (ev_pos (by omega) ?_))
  refine ev_if (fun h1 => ev_if (fun h2 => ?_) (fun h2 => ev_pos (by omega) ?_)) (fun h1 => ev_pos (by omega) ?_)
  ·have es : (pre ++ [a]).set ((pre.length : Int)).toNat (⟨a.f0, mx a.f1 x.f1, a.f2⟩ : IM) = pre ++ [⟨a.f0, mx a.f1 x.f1, a.f2⟩] := by
    rw [Int.toNat_natCast, List.set_append_right _ _ (Nat.le_refl _), Nat.sub_self]; rfl
   rw [es, jI, if_pos ⟨h1, h2⟩]
   exact ih' pre _ (by omega)
  ·rw [jI, if_neg (fun q => h2 q.2)]
   exact ev_val (ih' (pre ++ [a]) x (by omega)) (by simp)
  ·rw [jI, if_neg (fun q => h1 q.1)]
   exact ev_val (ih' (pre ++ [a]) x (by omega)) (by simp)
theorem impl_joined_s (l : List IM) (n : Int) (hn : n = l.length) (hl : l.length ≤ 1048576) : Ev (fun k => impl_joined.l0 k [] l n 0) (jIL l) := by
 cases l with
 | nil =>
  refine Ev.step (fun k => by rw [impl_joined.l0]) ?_
  exact ev_neg (by rw [hn]; simp) (ev_ret rfl)
 | cons x r =>
  refine Ev.step (fun k => by rw [impl_joined.l0]) ?_
  rw [List.length_cons] at hn hl
  refine ev_pos (by omega) (ev_pos (by omega) (ev_pos (by rw [List.length_cons]; omega) ?_))
  refine ev_neg (by unfold wrap64; simp) (ev_pos (by simp) ?_)
  rw [show wrap64 ((0 : Int) + 1) = ((1 : Nat) : Int) by unfold wrap64; omega]
  exact impl_joined_l (x :: r) n hn hl r.length 1 [] x (by rw [List.length_cons]; omega) (by simp)
theorem cb_less : ∀ a b : List UInt8, Lib.compareBytes a b < 0 ↔ Op.bytesLess a b = true
 | [], [] => by simp [Lib.compareBytes, Op.bytesLess]
 | [], _ :: _ => by simp [Lib.compareBytes, Op.bytesLess]
 | _ :: _, [] => by simp [Lib.compareBytes, Op.bytesLess]
 | x :: a, y :: b => by
  unfold Lib.compareBytes Op.bytesLess
  by_cases h1 : x < y
  ·rw [if_pos h1]; simp [h1]
  ·rw [if_neg h1]
   by_cases h2 : y < x
   ·rw [if_pos h2]
    have : ¬ x = y := fun e => UInt8.lt_irrefl x (e ▸ h2)
    simp [h1, this]
   ·rw [if_neg h2, cb_less a b]
    have e : x = y := UInt8.le_antisymm (UInt8.not_lt.1 h2) (UInt8.not_lt.1 h1)
    subst e; simp [UInt8.lt_irrefl]
def srt (l : List IM) : List IM := (sortM l).toList.map unM
theorem srt_facts (l : List IM) (hok : l.all okM = true) : (srt l).Perm l ∧ ((srt l).map tkM).Pairwise (KleM ltB) := by
 have h := Go.Sort.pdq_sorts (ltOf cmpM) swo_cmpM (packM l).toArray 0 (packM l).toArray.size (Lib.bitLen (packM l).toArray.size) true true (Nat.zero_le _) (Nat.le_refl _) (Or.inl rfl)
 obtain ⟨⟨hs, _, hp⟩, hso⟩ := h
 have e1 : (sortM l).extract 0 (packM l).toArray.size = sortM l := by rw [← hs]; exact Array.extract_size
 have e2 : (packM l).toArray.extract 0 (packM l).toArray.size = (packM l).toArray := Array.extract_size
 change ((sortM l).extract 0 (packM l).toArray.size).toList.Perm _ at hp
 rw [e1, e2] at hp
 refine ⟨?_, ?_⟩
 ·have := hp.map unM
  rw [un_pack l hok] at this
  exact this
 ·unfold srt
  rw [List.map_map, List.pairwise_map, List.pairwise_iff_getElem]
  intro i j hi hj hij
  have hj' : j < (sortM l).size := by simpa using hj
  have hi' : i < (sortM l).size := by simpa using hi
  have q := hso i j (Nat.zero_le _) hij (by rw [← hs]; exact hj')
  change ltOf cmpM (sortM l)[j]! (sortM l)[i]! = false at q
  rw [getElem!_pos (sortM l) j hj', getElem!_pos (sortM l) i hi'] at q
  rw [Array.getElem_toList, Array.getElem_toList]
  generalize (sortM l)[j] = y at q ⊢
  generalize (sortM l)[i] = x at q ⊢
  have q2 : ¬ _ := fun z => Bool.false_ne_true (q.symm.trans ((lt_cmpM y x).2 z))
  have c1 : ¬ Op.bytesLess y.1.2.2.toList x.1.2.2.toList = true := fun z => q2 (.inl (by rw [← ByteArray.toList_eq, ← ByteArray.toList_eq]; exact (cb_less _ _).2 z))
  show ltB x.1.2.2.toList y.1.2.2.toList ∨ (x.1.2.2.toList = y.1.2.2.toList ∧ x.1.1 ≤ y.1.1)
  by_cases c : Op.bytesLess x.1.2.2.toList y.1.2.2.toList = true
  ·exact .inl c
  ·have e := Ord.less_total (by simpa using c) (by simpa using c1)
   refine .inr ⟨e, ?_⟩
   have e' : x.1.2.2 = y.1.2.2 := by
    rw [ByteArray.toList_eq, ByteArray.toList_eq] at e
    exact ByteArray.ext (Array.toList_inj.1 e)
   have : ¬ y.1.1 < x.1.1 := fun z => q2 (.inr ⟨e'.symm, z⟩)
   omega
theorem impl_joined_f (l : List IM) (h0 : l.length ≠ 0) (hl : l.length ≤ 1000000) (hok : l.all okM = true) : Ev (fun k => impl_joined.f k l) (jIL (srt l)) := by
 have hlen := (srt_facts l hok).1.length_eq
 unfold impl_joined.f
 refine ev_eq (a := l) (by unfold impl_Mark_66.f; rw [if_neg (by omega)]) (ev_eq (a := srt l) (by unfold impl_Mark_73.f; rw [if_neg h0, if_neg (by omega), if_pos hok]; rfl) ?_)
 exact impl_joined_s (srt l) _ (by rw [hlen]) (by omega)
theorem style_size (s : ByteArray) (h : styleB (bytesOf s) = true) : s.size ≤ 8 := by
 unfold styleB at h
 rw [Bool.and_eq_true, decide_eq_true_eq, bytesOf_length] at h
 exact h.2.2
def addR (l : List IM) (size : Int) (m : IM) : List IM × Bool := if goodM l size = true ∧ markB m size = true ∧ (addI false l m).length ≤ 40 then (addI false l m, true) else ([], false)
theorem addR_len (l : List IM) (size : Int) (m : IM) : (addR l size m).1.length ≤ 40 := by
 unfold addR
 split
 ·rename_i h; exact h.2.2
 ·simp
theorem add_facts (l : List IM) (size : Int) (m : IM) (h1 : goodM l size = true) (h2 : markB m size = true) :
  (l ++ [m]).all okM = true ∧ jIL (srt (l ++ [m])) = addI false l m ∧ (∀ x ∈ addI false l m, markB x size = true) ∧ goodL size none (addI false l m) = true := by
 obtain ⟨_, _, hsz⟩ := goodM_size h1
 have hg : goodL size none l = true := by unfold goodM at h1; rw [Bool.and_eq_true] at h1; exact h1.1
 obtain ⟨g1, g2⟩ := goodL_lm size l none hg
 have hall : ∀ x ∈ l ++ [m], markB x size = true := fun x hx => by
  rcases List.mem_append.1 hx with hx | hx
  ·exact g2 x hx
  ·rw [List.mem_singleton.1 hx]; exact h2
 have hok : (l ++ [m]).all okM = true := List.all_eq_true.2 fun x hx => by
  have := (markB_iff x size).1 (hall x hx)
  unfold okM
  rw [Bool.and_eq_true, decide_eq_true_eq, decide_eq_true_eq]
  omega
 obtain ⟨hp, hs⟩ := srt_facts (l ++ [m]) hok
 have hp2 : (srt (l ++ [m])).Perm (m :: l) := hp.trans (List.perm_append_singleton m l)
 have hp3 : ((srt (l ++ [m])).map tkM).Perm (tkM m :: l.map tkM) := hp2.map tkM
 have hm := ((markB_iff m size).1 h2).2.2.1
 have ej := sort_add ltB ltB_trans ltB_irrefl (l.map tkM) ((srt (l ++ [m])).map tkM) (tkM m) hm g1 hp3 hs
 have e : jIL (srt (l ++ [m])) = addI false l m := tkM_map_inj (by rw [jIL_tk, addI_tk]; exact ej)
 have hA := addI_all size l false m g2 h2
 refine ⟨hok, e, hA, lm_goodL size _ none ?_ hA (fun _ _ _ q => by cases q)⟩
 rw [← e, jIL_tk]
 have hfs : ∀ x ∈ (srt (l ++ [m])).map tkM, x.f < x.t := fun x hx => by
  obtain ⟨y, hy, rfl⟩ := List.mem_map.1 hx
  exact ((markB_iff y size).1 (hall y (hp.mem_iff.1 hy))).2.2.1
 generalize (srt (l ++ [m])).map tkM = s at hs hfs
 cases s with
 | nil => exact trivial
 | cons a s => exact jn_goodLM ltB s a (hfs a (List.mem_cons_self ..)) (fun x hx => hfs x (List.mem_cons_of_mem _ hx)) hs
theorem spec_AddMark_f (l : List IM) (size : Int) (m : IM) (hl : l.length ≤ 1048576) (hw : ∀ x ∈ l, x.f2.size ≤ 1048576) (hm : m.f2.size ≤ 1048576) : Ev (fun k => spec_AddMark.f k l size m.f0 m.f1 m.f2) (addR l size m) := by
 unfold spec_AddMark.f
 have hj : ∀ b : Bool, (b = true → ¬ (goodM l size = true ∧ markB m size = true)) → (b = false → goodM l size = true ∧ markB m size = true) → Ev (fun k => spec_AddMark.j0 k l b m.f0 m.f1 m.f2) (addR l size m) := by
  intro b h1 h2
  refine Ev.step (fun k => by rw [spec_AddMark.j0]) ?_
  unfold addR
  refine ev_if (fun h => ev_ret ?_) (fun h => Ev.bind (spec_l5Add_f l m hl) (ev_if (fun h3 => ev_ret ?_) (fun h3 => ev_ret ?_)))
  ·rw [if_neg (fun c => h1 h ⟨c.1, c.2.1⟩)]
  ·rw [if_neg (fun c => by omega)]
  ·obtain ⟨a1, a2⟩ := h2 (by simpa using h)
   rw [if_pos ⟨a1, a2, by omega⟩]
 refine Ev.bind (spec_GoodMarks_f l size hl hw) (ev_if (fun h => Ev.bind (spec_l5Mark_f m size (by omega)) (hj _ (fun z c => ?_) (fun z => ⟨h, by simpa using z⟩))) (fun h => hj true (fun _ c => h c.1) (fun z => by cases z)))
 rw [c.2] at z; cases z
theorem impl_AddMark_f (l : List IM) (size : Int) (m : IM) (hl : l.length ≤ 1048576) (hw : ∀ x ∈ l, x.f2.size ≤ 1048576) (hm : m.f2.size ≤ 1048576) : Ev (fun k => impl_AddMark.f k l size m.f0 m.f1 m.f2) (addR l size m) := by
 unfold impl_AddMark.f
 have hj : ∀ b : Bool, (b = true → ¬ (goodM l size = true ∧ markB m size = true)) → (b = false → goodM l size = true ∧ markB m size = true) → Ev (fun k => impl_AddMark.j0 k l size b m.f0 m.f1 m.f2) (addR l size m) := by
  intro b h1 h2
  refine Ev.step (fun k => by rw [impl_AddMark.j0]) ?_
  unfold addR
  refine ev_if (fun h => ev_ret ?_) (fun h => ?_)
  ·rw [if_neg (fun c => h1 h ⟨c.1, c.2.1⟩)]
  ·obtain ⟨a1, a2⟩ := h2 (by simpa using h)
   obtain ⟨g1, g2, g3⟩ := goodM_size a1
   obtain ⟨hok, e, hA, hG⟩ := add_facts l size m a1 a2
   have hAl := addI_len l false m
   refine ev_eq (a := l) (by unfold impl_Mark_66.f; rw [if_neg (by omega)]) (ev_some (ev_pos (by simp only [List.length_cons, List.length_nil]; omega) ?_))
   have hjo := impl_joined_f (l ++ [m]) (by simp) (by simp; omega) hok
   rw [e] at hjo
   refine Ev.bind hjo ?_
   have hgm := impl_GoodMarks_f (addI false l m) size (by omega) (fun x hx => by have := style_size _ ((markB_iff x size).1 (hA x hx)).1; omega)
   have hb : goodM (addI false l m) size = decide ((addI false l m).length ≤ 40) := by
    unfold goodM
    rw [hG, Bool.true_and, decide_eq_true (show 0 ≤ size ∧ size ≤ 300 from ⟨g2, g3⟩), Bool.and_true]
   rw [hb] at hgm
   have hgo : Ev (fun k => impl_goodMarks.f k (addI false l m) size) (if (addI false l m).length ≤ 40 then (addI false l m, true) else ([], false)) := by
    unfold impl_goodMarks.f
    refine Ev.bind hgm (ev_if (fun z => ev_ret ?_) (fun z => ev_ret ?_))
    ·rw [if_pos (of_decide_eq_true z)]
    ·rw [if_neg (fun q => z (decide_eq_true q))]
   refine Ev.bind hgo (ev_ret ?_)
   by_cases c : (addI false l m).length ≤ 40
   ·rw [if_pos c, if_pos ⟨a1, a2, c⟩]
   ·rw [if_neg c, if_neg (fun q => c q.2.2)]
 refine Ev.bind (impl_GoodMarks_f l size hl hw) (ev_if (fun h => Ev.bind (impl_isMark_f m size (by omega)) (hj _ (fun z c => ?_) (fun z => ⟨h, by simpa using z⟩))) (fun h => hj true (fun _ c => h c.1) (fun z => by cases z)))
 rw [c.2] at z; cases z
theorem laws_markText_l (m : Nat) : ∀ (n : Nat) (t : ByteArray), n ≤ m → n ≤ 2305843009213693952 → t.size + n ≤ 2305843009213693952 → ∃ r, Ev (fun k => laws_markText.l0 k (n : Int) t) r := by
 induction m with
 | zero =>
  intro n t h0 h1 h2
  obtain rfl : n = 0 := by omega
  exact ⟨_, Ev.step (fun k => by rw [laws_markText.l0]) (ev_neg (by omega) (ev_pos (by omega) (ev_ret rfl)))⟩
 | succ m ih =>
  intro n t h0 h1 h2
  by_cases hn : n = 0
  ·subst hn
   exact ⟨_, Ev.step (fun k => by rw [laws_markText.l0]) (ev_neg (by omega) (ev_pos (by omega) (ev_ret rfl)))⟩
  ·have e : wrap64 (Int.tdiv (n : Int) 10) = ((n / 10 : Nat) : Int) := by
    rw [Int.tdiv_eq_ediv_of_nonneg (by omega)]; unfold wrap64; omega
   have hs : ∀ x : Int, (strOfNums [x]).size = 1 := fun x => rfl
   obtain ⟨r, hr⟩ := ih (n / 10) (strOfNums [(wrap64 (48 + (Int.tmod (n : Int) 10))) % 256] ++ t) (by omega) (by omega) (by rw [ByteArray.size_append, hs]; omega)
   refine ⟨r, ?_⟩
   refine Ev.step (fun k => by rw [laws_markText.l0]) ?_
   refine ev_pos (by omega) (ev_some ?_)
   refine ev_pos (by rw [hs]; omega) ?_
   rw [e]; exact hr
noncomputable def MT (n : Int) : ByteArray := @Classical.epsilon ByteArray ⟨ByteArray.empty⟩ (fun r => Ev (fun k => laws_markText.f k n) r)
theorem MT_ev (n : Int) (h0 : 0 ≤ n) (h1 : n ≤ 1152921504606846990) : Ev (fun k => laws_markText.f k n) (MT n) := by
 refine @Classical.epsilon_spec ByteArray (fun r => Ev (fun k => laws_markText.f k n) r) ?_
 obtain ⟨m, rfl⟩ := Int.eq_ofNat_of_zero_le h0
 by_cases hm : m = 0
 ·subst hm
  exact ⟨_, by unfold laws_markText.f; exact ev_pos (by omega) (ev_ret rfl)⟩
 ·obtain ⟨r, hr⟩ := laws_markText_l m m ⟨#[]⟩ (Nat.le_refl _) (by omega) (by show 0 + m ≤ _; omega)
  exact ⟨r, by unfold laws_markText.f; exact ev_neg (by omega) hr⟩
noncomputable def mvMark (kk : Int) : IM := (⟨kk, (kk + 1), (MT (kk + 2))⟩ : IM)
noncomputable def mkMark (kk : Int) (n : Nat) : List IM := (List.range n).map (fun (i : Nat) => mvMark (kk + 3 * (i : Int)))
theorem mkMark_len (kk : Int) (n : Nat) : (mkMark kk n).length = n := by simp [mkMark]
theorem mkMark_succ (kk : Int) (n : Nat) : mkMark kk (n + 1) = mkMark kk n ++ [mvMark (kk + 3 * (n : Int))] := by simp [mkMark, List.range_succ]
theorem mkMark_gt (kk : Int) (n i : Nat) (h : i < n) : gt izM (mkMark kk n) i = mvMark (kk + 3 * (i : Int)) := by
 unfold gt mkMark; rw [List.getD_eq_getElem?_getD, List.getElem?_map, List.getElem?_range h]; rfl
theorem laws_markMarkS_r (x0 : List IM) (kk : Int) (i : Nat) (hi : i < x0.length) (hx : x0.length ≤ 1152921504606846976) (h0 : 0 ≤ kk) (h1 : kk ≤ 1152921504606846976) {r : Int × List IM}
  (h : Ev (fun k => laws_markMarkS.l0 k (x0.set i (mvMark kk)) (kk + 3) ((i + 1 : Nat) : Int)) r) : Ev (fun k => laws_markMarkS.l0 k x0 kk (i : Int)) r := by
 have w1 : wrap64 (kk + 1) = kk + 1 := by unfold wrap64; omega
 have w2 : wrap64 ((kk + 1) + 1) = kk + 2 := by unfold wrap64; omega
 have w3 : wrap64 ((kk + 2) + 1) = kk + 3 := by unfold wrap64; omega
 refine Ev.step (fun k => by rw [laws_markMarkS.l0]) ?_
 refine ev_pos (by omega) ?_
 simp only [w1, w2, w3, wrap_succ i (by omega)]
 refine ev_pos (by omega) ?_
 refine ev_some ?_
 refine ev_some ?_
 refine Ev.bind (MT_ev _ (by omega) (by omega)) ?_
 refine ev_val' ?_ h; intro k; simp [rd_im, gt_set, List.set_set, hi, mvMark]
theorem laws_markMarkS_l (l : List IM) (kk : Int) (hl : l.length ≤ 1073741824) (h0 : 0 ≤ kk) (h1 : kk ≤ 1073741824) (d : Nat) : ∀ i : Nat, i + d = l.length →
  Ev (fun k => laws_markMarkS.l0 k (mkMark kk i ++ l.drop i) (kk + 3 * (i : Int)) (i : Int)) (kk + 3 * (l.length : Int), mkMark kk l.length) := by
 induction d with
 | zero =>
  intro i hi
  refine Ev.step (fun k => by rw [laws_markMarkS.l0]) ?_
  refine ev_neg (by simp [mkMark_len]; omega) (ev_ret ?_)
  have : i = l.length := by omega
  subst this; simp
 | succ d ih =>
  intro i hi
  refine laws_markMarkS_r _ _ i (by simp [mkMark_len]; omega) (by simp [mkMark_len]; omega) (by omega) (by omega) ?_
  have e : (mkMark kk i ++ l.drop i).set i (mvMark (kk + 3 * (i : Int))) = mkMark kk (i + 1) ++ l.drop (i + 1) := by
   rw [gt_drop izM l i (by omega), List.set_append_right _ _ (by simp [mkMark_len]), mkMark_len, Nat.sub_self, mkMark_succ]; simp
  have e2 : kk + 3 * (i : Int) + 3 = kk + 3 * ((i + 1 : Nat) : Int) := by omega
  rw [e, e2]
  exact ih (i + 1) (by omega)
theorem laws_markMarkS_f (l : List IM) (kk : Int) (hl : l.length ≤ 1073741824) (h0 : 0 ≤ kk) (h1 : kk ≤ 1073741824) :
  Ev (fun k => laws_markMarkS.f k l kk) (kk + 3 * (l.length : Int), mkMark kk l.length) := by
 unfold laws_markMarkS.f
 have := laws_markMarkS_l l kk hl h0 h1 l.length 0 (by omega)
 have e0 : mkMark kk 0 ++ l.drop 0 = l := by simp [mkMark]
 have e1 : kk + 3 * ((0 : Nat) : Int) = kk := by omega
 rw [e0, e1] at this
 exact this
theorem laws_heldMarkS_l (kk : Int) (n : Nat) (hl : n ≤ 1073741824) (h0 : 0 ≤ kk) (h1 : kk ≤ 1073741824) (d : Nat) : ∀ i : Nat, i + d = n →
  Ev (fun k => laws_heldMarkS.l0 k (mkMark kk n) (kk + 3 * (i : Int)) (i : Int)) (kk + 3 * (n : Int)) := by
 induction d with
 | zero =>
  intro i hi
  refine Ev.step (fun k => by rw [laws_heldMarkS.l0]) ?_
  refine ev_neg (by rw [mkMark_len]; omega) (ev_ret ?_)
  have : i = n := by omega
  subst this; rfl
 | succ d ih =>
  intro i hi
  have hn : i < n := by omega
  have ih' := ih (i + 1) (by omega)
  refine Ev.step (fun k => by rw [laws_heldMarkS.l0]) ?_
  refine ev_pos (by rw [mkMark_len]; omega) (ev_pos (by omega) ?_)
  have e2 : kk + 3 * ((i + 1 : Nat) : Int) = kk + 3 * (i : Int) + 3 := by omega
  rw [e2] at ih'
  have g0 : 0 ≤ kk + 3 * (i : Int) := by omega
  have g1 : kk + 3 * (i : Int) ≤ 1152921504606846976 := by omega
  simp only [rd_im, mkMark_gt _ _ _ hn]
  generalize kk + 3 * (i : Int) = kk at g0 g1 ih' ⊢
  have w1 : wrap64 (kk + 1) = kk + 1 := by unfold wrap64; omega
  have w2 : wrap64 ((kk + 1) + 1) = kk + 2 := by unfold wrap64; omega
  have w3 : wrap64 ((kk + 2) + 1) = kk + 3 := by unfold wrap64; omega
  simp only [w1, w2, w3, wrap_succ i (by omega)]
  refine ev_pos rfl ?_
  refine ev_pos rfl ?_
  refine Ev.bind (MT_ev _ (by omega) (by omega)) ?_
  refine ev_pos rfl ?_
  exact ih'
theorem laws_heldMarkS_f (kk : Int) (n : Nat) (hl : n ≤ 1073741824) (h0 : 0 ≤ kk) (h1 : kk ≤ 1073741824) :
  Ev (fun k => laws_heldMarkS.f k (mkMark kk n) kk) (kk + 3 * (n : Int)) := by
 unfold laws_heldMarkS.f
 have := laws_heldMarkS_l kk n hl h0 h1 n 0 (by omega)
 have e1 : kk + 3 * ((0 : Nat) : Int) = kk := by omega
 rw [e1] at this
 exact this
theorem szF_le : ∀ (l : List Nat) (left : Int), 0 ≤ left → szF left l ≤ left
 | [], left, h => by show left ≤ left; omega
 | a :: l, left, h => by
  show (if left - (a : Int) < 0 then -1 else szF (left - (a : Int)) l) ≤ left
  by_cases c : left - (a : Int) < 0
  ·rw [if_pos c]; omega
  ·rw [if_neg c]
   have := szF_le l (left - (a : Int)) (by omega)
   omega
theorem szMarkS_f2 (l : List LM) (hl : l.length ≤ 9223372036854775807) (hw : ∀ x ∈ l, x.f2.size ≤ 9223372036854775807) :
  ∃ v : Int, Ev (fun k => laws_szMarkS.f k l 1048576) v ∧ v ≤ 1048576 ∧ (0 ≤ v → l.length ≤ 1048576 ∧ ∀ x ∈ l, x.f2.size ≤ 1048576) := by
 have e : wrap64 (1048576 - (l.length : Int)) = 1048576 - (l.length : Int) := wrap_id (by omega) (by omega)
 by_cases c : (1048576 : Int) - (l.length : Int) < 0
 ·exact ⟨-1, by unfold laws_szMarkS.f; exact ev_pos (by rw [e]; exact c) (ev_ret rfl), by omega, fun h => by omega⟩
 ·refine ⟨szF (1048576 - (l.length : Int)) (szM l), ?_, by have := szF_le (szM l) (1048576 - (l.length : Int)) (by omega); omega, fun h => ⟨by omega, fun x hx => ?_⟩⟩
  ·unfold laws_szMarkS.f
   refine ev_neg (by rw [e]; exact c) ?_
   rw [e]
   exact laws_szMarkS_l l (by omega) hw l.length 0 _ (by omega) (by omega) (by omega)
  ·have h1 := szF_sum _ _ (by omega) h
   have h2 : x.f2.size ≤ (szM l).sum := le_sum (List.mem_map.2 ⟨x, hx, rfl⟩)
   omega
theorem FnExactAddMark : laws_FnExactAddMark.Pure := by
 intro l size mf mt ms hl hw hsz hm
 refine Ev.rounds ?_
 unfold laws_FnExactAddMark.f
 obtain ⟨v, hv, hv1, hb⟩ := szMarkS_f2 l hl (fun x hx => (hw x hx).2.2)
 refine Ev.bind hv (ev_if (fun _ => ev_ret rfl) (fun h => ?_))
 obtain ⟨h1, h2⟩ := hb (by omega)
 have hms := hm.2.2
 have ew : wrap64 (v - (ms.size : Int)) = v - (ms.size : Int) := wrap_id (by omega) (by omega)
 by_cases c : v - (ms.size : Int) < 0
 ·exact ev_eq (a := -1) (by unfold laws_szMark.f; rw [ew, if_pos c]) (ev_pos (by omega) (ev_ret rfl))
 refine ev_eq (a := v - (ms.size : Int)) (by unfold laws_szMark.f; rw [ew, if_neg c]) (ev_neg c ?_)
 have hw' : ∀ x ∈ l.map cvM, x.f2.size ≤ 1048576 := fun x hx => by obtain ⟨y, hy, rfl⟩ := List.mem_map.1 hx; exact h2 y hy
 have hl' : (l.map cvM).length ≤ 1048576 := by simpa using h1
 have hm' : ms.size ≤ 1048576 := by omega
 have hto := laws_toMarkS_f l h1
 have hsp := spec_AddMark_f _ size ⟨mf, mt, ms⟩ hl' hw' hm'
 have him := impl_AddMark_f _ size ⟨mf, mt, ms⟩ hl' hw' hm'
 have hr := addR_len (l.map cvM) size ⟨mf, mt, ms⟩
 generalize addR (l.map cvM) size ⟨mf, mt, ms⟩ = R at hsp him hr
 have heq := laws_eqMarkS_f R.1 (by omega)
 refine Ev.bind hto (ev_eq (a := (mf, mt, ms)) rfl (Ev.bind hsp (Ev.bind hto (ev_eq (a := (mf, mt, ms)) rfl (Ev.bind him (Ev.bind heq (ev_pos rfl ?_)))))))
 refine Ev.step (fun k => by rw [laws_FnExactAddMark.j0]) ?_
 refine ev_neg (by simp) (Ev.bind hto (Ev.bind (laws_eqMarkS_f (l.map cvM) (by omega)) (ev_pos rfl ?_)))
 refine Ev.bind (laws_markMarkS_f (l.map cvM) 1 (by omega) (by omega) (by omega)) (ev_neg (by first | omega | (simp only; omega)) (Ev.bind heq (ev_pos rfl ?_)))
 refine Ev.step (fun k => by rw [laws_FnExactAddMark.j1]) ?_
 refine ev_neg (by simp) ?_
 have hh := laws_heldMarkS_f 1 R.1.length (by omega) (by omega) (by omega)
 refine Ev.bind (laws_markMarkS_f R.1 1 (by omega) (by omega) (by omega)) (Ev.bind hh (ev_neg (by first | omega | (simp only; omega)) (ev_pos rfl ?_)))
 refine Ev.bind hto (ev_eq (a := (mf, mt, ms)) rfl (Ev.bind him (Ev.bind heq (ev_pos rfl ?_))))
 refine Ev.step (fun k => by rw [laws_FnExactAddMark.j2]) ?_
 refine ev_neg (by simp) ?_
 exact Ev.bind hh (ev_neg (by first | omega | (simp only; omega)) (ev_pos rfl (ev_ret rfl)))
end Go.Proofs.Ytmhcmcdppimcpaa.Pure
