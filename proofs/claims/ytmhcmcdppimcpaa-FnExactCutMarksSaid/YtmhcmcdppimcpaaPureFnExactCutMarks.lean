/- FnExactCutMarks over plain functions: at all marks, sizes, places and styles the program's CutMarks and the reference's give one answer, the marks stay, and the answer is the call's own; no condition. -/
import Derived.Test.YtmhcmcdppimcpaaPFnExactCutMarksx7
import Derived.Test.YtmhcmcdppimcpaaBase
import Derived.Test.YtmhcmcdppimcpaaOrd
namespace Go.Proofs.Ytmhcmcdppimcpaa.Pure
open Go.RowKit Go.Proofs.Ytmhcmcdppimcpaa.PFnExactCutMarks Go.Proofs.YtmhcmcdppimcpaaW.PrintWords Go.Proofs.YtmhcmcdppimcpaaW.PrintLast Go.Proofs.Ytmhcmcdppimcpaa.Base Go.Proofs.Ytmhcmcdppimcpaa.Ord
set_option linter.unusedVariables false
set_option linter.unusedSimpArgs false

abbrev LM := S64
abbrev IM := S67
def cvM (x : LM) : IM := ⟨x.f0, x.f1, x.f2⟩
def lzM : LM := z64
def izM : IM := z67
theorem rd_lm (l : List LM) (i : Nat) : rd_T64 l (i : Int) = gt lzM l i := rfl
theorem rd_im (l : List IM) (i : Nat) : rd_T67 l (i : Int) = gt izM l i := rfl
def szM (l : List LM) : List Nat := l.map (fun x => x.f2.size)
theorem laws_szMarkS_l (l : List LM) (hl : l.length ≤ 1048576) (hw : ∀ x ∈ l, x.f2.size ≤ 9223372036854775807) (d : Nat) :
    ∀ (i : Nat) (left : Int), i + d = l.length → 0 ≤ left → left ≤ 1048576 → Ev (fun k => laws_szMarkS.l0 k l left (i : Int)) (szF left (szM (l.drop i))) := by
  induction d with
  | zero =>
    intro i left hi h0 h1
    refine Ev.step (fun k => by rw [laws_szMarkS.l0]) ?_
    refine ev_neg (by omega) (ev_ret ?_)
    rw [List.drop_eq_nil_of_le (by omega)]; rfl
  | succ d ih =>
    intro i left hi h0 h1
    have hm := hw _ (gt_mem lzM l i (by omega))
    refine Ev.step (fun k => by rw [laws_szMarkS.l0]) ?_
    refine ev_pos (by omega) (ev_pos (by omega) ?_)
    rw [gt_drop lzM l i (by omega), rd_lm]
    generalize gt lzM l i = m at hm ⊢
    have e : wrap64 (left - (m.f2.size : Int)) = left - (m.f2.size : Int) := wrap_id (by omega) (by omega)
    show Ev _ (if left - (m.f2.size : Int) < 0 then -1 else szF (left - (m.f2.size : Int)) (szM (l.drop (i + 1))))
    by_cases c : left - (m.f2.size : Int) < 0
    · rw [if_pos c]
      refine ev_eq (a := -1) (by unfold laws_szMark.f; rw [e, if_pos c]) (ev_pos (by omega) (ev_ret rfl))
    · rw [if_neg c]
      refine ev_eq (a := left - (m.f2.size : Int)) (by unfold laws_szMark.f; rw [e, if_neg c]) (ev_neg (by omega) ?_)
      rw [wrap_succ i (by omega)]
      exact ih (i + 1) _ (by omega) (by omega) (by omega)
/-- The guard at a law's head: too much, or all is small. -/
theorem laws_szMarkS_f (l : List LM) (hl : l.length ≤ 9223372036854775807) (hw : ∀ x ∈ l, x.f2.size ≤ 9223372036854775807) :
    ∃ v : Int, Ev (fun k => laws_szMarkS.f k l 1048576) v ∧ (0 ≤ v → l.length ≤ 1048576 ∧ ∀ x ∈ l, x.f2.size ≤ 1048576) := by
  have e : wrap64 (1048576 - (l.length : Int)) = 1048576 - (l.length : Int) := wrap_id (by omega) (by omega)
  by_cases c : (1048576 : Int) - (l.length : Int) < 0
  · exact ⟨-1, by unfold laws_szMarkS.f; exact ev_pos (by rw [e]; exact c) (ev_ret rfl), fun h => by omega⟩
  · refine ⟨szF (1048576 - (l.length : Int)) (szM l), ?_, fun h => ⟨by omega, fun x hx => ?_⟩⟩
    · unfold laws_szMarkS.f
      refine ev_neg (by rw [e]; exact c) ?_
      rw [e]
      exact laws_szMarkS_l l (by omega) hw l.length 0 _ (by omega) (by omega) (by omega)
    · have h1 := szF_sum _ _ (by omega) h
      have h2 : x.f2.size ≤ (szM l).sum := le_sum (List.mem_map.2 ⟨x, hx, rfl⟩)
      omega
theorem laws_toMarkS_l (l : List LM) (hl : l.length ≤ 1048576) (d : Nat) :
    ∀ i : Nat, i + d = l.length → Ev (fun k => laws_toMarkS.l0 k l ((l.take i).map cvM ++ List.replicate (l.length - i) izM) (i : Int)) (l.map cvM) := by
  induction d with
  | zero =>
    intro i hi
    refine Ev.step (fun k => by rw [laws_toMarkS.l0]) ?_
    refine ev_neg (by omega) (ev_ret ?_)
    have : l.length - i = 0 := by omega
    rw [List.take_of_length_le (by omega), this]; simp
  | succ d ih =>
    intro i hi
    refine Ev.step (fun k => by rw [laws_toMarkS.l0]) ?_
    refine ev_pos (by omega) (ev_pos (by omega) (ev_eq rfl (ev_pos (by simp; omega) ?_)))
    rw [wrap_succ i (by omega)]
    have ih' := ih (i + 1) (by omega)
    have e : ((l.take i).map cvM ++ List.replicate (l.length - i) izM).set (i : Int).toNat (⟨(rd_T64 l (i : Int)).f0, (rd_T64 l (i : Int)).f1, (rd_T64 l (i : Int)).f2⟩ : IM) = (l.take (i + 1)).map cvM ++ List.replicate (l.length - (i + 1)) izM := by
      rw [Int.toNat_natCast, set_next _ _ _ _ _ (by simp; omega) (by omega), rd_lm, gt_take lzM l i (by omega), List.map_append]
      rfl
    exact e ▸ ih'
theorem laws_toMarkS_f (l : List LM) (hl : l.length ≤ 1048576) : Ev (fun k => laws_toMarkS.f k l) (l.map cvM) := by
  unfold laws_toMarkS.f
  refine ev_pos (by omega) (ev_pos (by omega) ?_)
  exact laws_toMarkS_l l hl l.length 0 (by omega)

theorem laws_eqMark_self (m : IM) : laws_eqMark.f m.f0 m.f1 m.f2 m.f0 m.f1 m.f2 = some true := by
  unfold laws_eqMark.f; rw [if_pos rfl]; rw [if_pos rfl]; rw [if_pos rfl]
theorem laws_eqMarkS_l (l : List IM) (hl : l.length ≤ 4611686018427387904) (d : Nat) : ∀ i : Nat, i + d = l.length → Ev (fun k => laws_eqMarkS.l0 k l l (i : Int)) true := by
  induction d with
  | zero => exact fun i hi => Ev.step (fun k => by rw [laws_eqMarkS.l0]) (ev_neg (by omega) (ev_ret rfl))
  | succ d ih =>
    intro i hi
    refine Ev.step (fun k => by rw [laws_eqMarkS.l0]) ?_
    refine ev_pos (by omega) (ev_pos (by omega) (ev_pos (by omega) (ev_eq (laws_eqMark_self _) (ev_pos rfl ?_))))
    rw [wrap_succ i (by omega)]
    exact ih (i + 1) (by omega)
theorem laws_eqMarkS_f (l : List IM) (hl : l.length ≤ 4611686018427387904) : Ev (fun k => laws_eqMarkS.f k l l) true := by
  unfold laws_eqMarkS.f
  exact ev_pos rfl (laws_eqMarkS_l l hl l.length 0 (by omega))

theorem spec_l1In_f (a b c : Int) : spec_l1In.f a b c = some (decide (b ≤ a ∧ a ≤ c)) := by
  unfold spec_l1In.f; split <;> simp <;> omega
def styleB (l : List Int) : Bool := l.all (fun c => decide (97 ≤ c ∧ c ≤ 122)) && decide (1 ≤ l.length ∧ l.length ≤ 8)
theorem spec_l5Style_l (s : ByteArray) (hs : s.size ≤ 140737488351232) (d : Nat) : ∀ i : Nat, i + d = s.size →
    Ev (fun k => spec_l5Style.l0 k s (i : Int)) (((bytesOf s).drop i).all (fun c => decide (97 ≤ c ∧ c ≤ 122)) && decide (1 ≤ s.size ∧ s.size ≤ 8)) := by
  induction d with
  | zero =>
    intro i hi
    refine Ev.step (fun k => by rw [spec_l5Style.l0]) ?_
    refine ev_neg (by omega) (ev_eq (spec_l1In_f _ _ _) (ev_ret ?_))
    rw [drop_end s i (by omega), List.all_nil, Bool.true_and]; exact decide_eq_decide.2 (by omega)
  | succ d ih =>
    intro i hi
    refine Ev.step (fun k => by rw [spec_l5Style.l0]) ?_
    refine ev_pos (by omega) (ev_pos (by omega) ?_)
    rw [drop_bytes s i (by omega), wrap_succ i (by omega), List.all_cons]
    refine ev_if (fun h => ev_ret ?_) (fun h => ev_if (fun h2 => ev_ret ?_) (fun h2 => ev_val (ih (i + 1) (by omega)) ?_))
    · have : decide (97 ≤ bt s (i : Int) ∧ bt s (i : Int) ≤ 122) = false := decide_eq_false (by omega)
      rw [this]; rfl
    · have : decide (97 ≤ bt s (i : Int) ∧ bt s (i : Int) ≤ 122) = false := decide_eq_false (by omega)
      rw [this]; rfl
    · have : decide (97 ≤ bt s (i : Int) ∧ bt s (i : Int) ≤ 122) = true := decide_eq_true (by omega)
      rw [this, Bool.true_and]
theorem spec_l5Style_f (s : ByteArray) (hs : s.size ≤ 140737488351232) : Ev (fun k => spec_l5Style.f k s) (styleB (bytesOf s)) := by
  unfold spec_l5Style.f styleB
  rw [bytesOf_length]
  exact spec_l5Style_l s hs s.size 0 (by omega)
theorem impl_isStyle_l (s : ByteArray) (hs : s.size ≤ 140737488351232) (d : Nat) : ∀ i : Nat, i + d = s.size →
    Ev (fun k => impl_isStyle.l0 k s (s.size : Int) (i : Int)) (((bytesOf s).drop i).all (fun c => decide (97 ≤ c ∧ c ≤ 122)) && decide (1 ≤ s.size ∧ s.size ≤ 8)) := by
  induction d with
  | zero =>
    intro i hi
    refine Ev.step (fun k => by rw [impl_isStyle.l0]) ?_
    refine ev_neg (by omega) ?_
    rw [drop_end s i (by omega)]
    have hz : s.toList = ([] : List UInt8) ↔ s.size = 0 := by
      rw [← List.length_eq_zero_iff]
      have := data_length s
      rw [ByteArray.toList_eq, this]
    refine ev_if (fun h => ev_ret ?_) (fun h => ev_ret ?_)
    · rw [hz] at h; simp [h]
    · rw [hz] at h
      rw [List.all_nil, Bool.true_and]; exact decide_eq_decide.2 (by omega)
  | succ d ih =>
    intro i hi
    refine Ev.step (fun k => by rw [impl_isStyle.l0]) ?_
    refine ev_pos (by omega) (ev_pos (by omega) (ev_pos (by omega) ?_))
    rw [drop_bytes s i (by omega), wrap_succ i (by omega), List.all_cons]
    refine ev_if (fun h => ev_ret ?_) (fun h => ev_if (fun h2 => ev_ret ?_) (fun h2 => ev_val (ih (i + 1) (by omega)) ?_))
    · have : decide (97 ≤ bt s (i : Int) ∧ bt s (i : Int) ≤ 122) = false := decide_eq_false (by omega)
      rw [this]; rfl
    · have : decide (97 ≤ bt s (i : Int) ∧ bt s (i : Int) ≤ 122) = false := decide_eq_false (by omega)
      rw [this]; rfl
    · have : decide (97 ≤ bt s (i : Int) ∧ bt s (i : Int) ≤ 122) = true := decide_eq_true (by omega)
      rw [this, Bool.true_and]
theorem impl_isStyle_f (s : ByteArray) (hs : s.size ≤ 140737488351232) : Ev (fun k => impl_isStyle.f k s) (styleB (bytesOf s)) := by
  unfold impl_isStyle.f styleB
  rw [bytesOf_length]
  exact impl_isStyle_l s hs s.size 0 (by omega)
def markB (m : IM) (size : Int) : Bool := styleB (bytesOf m.f2) && decide (0 ≤ m.f0 ∧ m.f0 < m.f1 ∧ m.f1 ≤ size)
theorem spec_l5Mark_f (m : IM) (size : Int) (hs : m.f2.size ≤ 140737488351232) : Ev (fun k => spec_l5Mark.f k m.f0 m.f1 m.f2 size) (markB m size) := by
  unfold spec_l5Mark.f markB
  refine Ev.bind (spec_l5Style_f _ hs) (ev_if (fun h => ?_) (fun h => ev_ret (by simp at h; simp [h])))
  rw [h, Bool.true_and]
  refine ev_if (fun h0 => ev_if (fun h1 => ev_ret ?_) (fun h1 => ev_ret ?_)) (fun h0 => ev_ret ?_)
  · exact decide_eq_decide.2 (by omega)
  · symm; exact decide_eq_false (by omega)
  · symm; exact decide_eq_false (by omega)
theorem impl_isMark_f (m : IM) (size : Int) (hs : m.f2.size ≤ 140737488351232) : Ev (fun k => impl_isMark.f k m.f0 m.f1 m.f2 size) (markB m size) := by
  unfold impl_isMark.f markB
  refine ev_if (fun h0 => ev_if (fun h1 => ev_if (fun h2 => Ev.bind (impl_isStyle_f _ hs) (ev_ret ?_)) (fun h2 => ev_ret ?_)) (fun h1 => ev_ret ?_)) (fun h0 => ev_ret ?_)
  · rw [decide_eq_true (show 0 ≤ m.f0 ∧ m.f0 < m.f1 ∧ m.f1 ≤ size by omega), Bool.and_true]
  all_goals (symm; rw [decide_eq_false (show ¬ (0 ≤ m.f0 ∧ m.f0 < m.f1 ∧ m.f1 ≤ size) by omega), Bool.and_false])
def pairB (a m : IM) : Bool := !(Op.bytesLess m.f2.toList a.f2.toList) && !(decide (a.f2.toList = m.f2.toList) && decide (a.f1 ≥ m.f0))
def goodL (size : Int) : Option IM → List IM → Bool
  | _, [] => true
  | p, m :: r => markB m size && ((match p with | none => true | some a => pairB a m) && goodL size (some m) r)
def prevAt (l : List IM) (i : Nat) : Option IM := if i = 0 then none else some (gt izM l (i - 1))
def goodM (l : List IM) (size : Int) : Bool := goodL size none l && (decide (l.length ≤ 40) && decide (0 ≤ size ∧ size ≤ 300))
theorem spec_GoodMarks_l (l : List IM) (size : Int) (hl : l.length ≤ 1048576) (hw : ∀ x ∈ l, x.f2.size ≤ 1048576) (d : Nat) : ∀ i : Nat, i + d = l.length →
    Ev (fun k => spec_GoodMarks.l0 k l size l (l.length : Int) (i : Int)) (goodL size (prevAt l i) (l.drop i) && (decide (l.length ≤ 40) && decide (0 ≤ size ∧ size ≤ 300))) := by
  induction d with
  | zero =>
    intro i hi
    refine Ev.step (fun k => by rw [spec_GoodMarks.l0]) ?_
    refine ev_neg (by omega) ?_
    rw [List.drop_eq_nil_of_le (by omega)]
    refine ev_if (fun h => ev_eq (spec_l1In_f _ _ _) (ev_ret ?_)) (fun h => ev_ret ?_)
    · simp [goodL]; omega
    · simp [goodL]; omega
  | succ d ih =>
    intro i hi
    have hm := hw _ (gt_mem izM l i (by omega))
    refine Ev.step (fun k => by rw [spec_GoodMarks.l0]) ?_
    refine ev_pos (by omega) (ev_pos (by omega) (ev_pos (by omega) ?_))
    rw [gt_drop izM l i (by omega), wrap_succ i (by omega)]
    have ih' := ih (i + 1) (by omega)
    rw [show prevAt l (i + 1) = some (gt izM l i) by simp [prevAt]] at ih'
    simp only [rd_im]
    refine Ev.bind (spec_l5Mark_f _ size (by omega)) (ev_if (fun h => ?_) (fun h => ev_ret (by simp at h; simp [goodL, h])))
    by_cases hi0 : i = 0
    · subst hi0
      refine ev_neg (by omega) (ev_val ih' ?_)
      simp [goodL, h, prevAt]
    · have ew : wrap64 ((i : Int) - 1) = ((i - 1 : Nat) : Int) := by unfold wrap64; omega
      rw [ew]
      refine ev_pos (by omega) (ev_pos (by omega) (ev_pos (by omega) ?_))
      simp only [rd_im]
      rw [show prevAt l i = some (gt izM l (i - 1)) by simp [prevAt, hi0]]
      refine ev_if (fun h1 => ev_ret ?_) (fun h1 => ?_)
      · have hp : pairB (gt izM l (i - 1)) (gt izM l i) = false := by unfold pairB; rw [h1]; rfl
        simp [goodL, hp]
      simp only [Bool.not_eq_true] at h1
      refine ev_if (fun h2 => ev_if (fun h3 => ev_ret ?_) (fun h3 => ev_val ih' ?_)) (fun h2 => ev_val ih' ?_)
      · have hp : pairB (gt izM l (i - 1)) (gt izM l i) = false := by unfold pairB; rw [h1, decide_eq_true h2, decide_eq_true h3]; rfl
        simp [goodL, hp]
      · have hp : pairB (gt izM l (i - 1)) (gt izM l i) = true := by unfold pairB; rw [h1, decide_eq_true h2, decide_eq_false h3]; rfl
        simp [goodL, h, hp]
      · have hp : pairB (gt izM l (i - 1)) (gt izM l i) = true := by unfold pairB; rw [h1, decide_eq_false h2]; rfl
        simp [goodL, h, hp]
theorem spec_GoodMarks_f (l : List IM) (size : Int) (hl : l.length ≤ 1048576) (hw : ∀ x ∈ l, x.f2.size ≤ 1048576) : Ev (fun k => spec_GoodMarks.f k l size) (goodM l size) := by
  unfold spec_GoodMarks.f
  exact spec_GoodMarks_l l size hl hw l.length 0 (by omega)
theorem impl_GoodMarks_l (l : List IM) (size : Int) (hl : l.length ≤ 1048576) (hw : ∀ x ∈ l, x.f2.size ≤ 1048576) (d : Nat) : ∀ i : Nat, i + d = l.length →
    Ev (fun k => impl_GoodMarks.l0 k l size l (l.length : Int) (i : Int)) (goodL size (prevAt l i) (l.drop i)) := by
  induction d with
  | zero =>
    intro i hi
    refine Ev.step (fun k => by rw [impl_GoodMarks.l0]) ?_
    refine ev_neg (by omega) (ev_ret ?_)
    rw [List.drop_eq_nil_of_le (by omega)]; simp [goodL]
  | succ d ih =>
    intro i hi
    have hm := hw _ (gt_mem izM l i (by omega))
    refine Ev.step (fun k => by rw [impl_GoodMarks.l0]) ?_
    refine ev_pos (by omega) (ev_pos (by omega) (ev_pos (by omega) ?_))
    rw [gt_drop izM l i (by omega), wrap_succ i (by omega)]
    have ih' := ih (i + 1) (by omega)
    rw [show prevAt l (i + 1) = some (gt izM l i) by simp [prevAt]] at ih'
    simp only [rd_im]
    refine Ev.bind (impl_isMark_f _ size (by omega)) (ev_if (fun h => ?_) (fun h => ev_ret (by simp at h; simp [goodL, h])))
    by_cases hi0 : i = 0
    · subst hi0
      refine ev_neg (by omega) (ev_val ih' ?_)
      simp [goodL, h, prevAt]
    · have ew : wrap64 ((i : Int) - 1) = ((i - 1 : Nat) : Int) := by unfold wrap64; omega
      rw [ew]
      refine ev_pos (by omega) (ev_pos (by omega) (ev_pos (by omega) ?_))
      simp only [rd_im]
      rw [show prevAt l i = some (gt izM l (i - 1)) by simp [prevAt, hi0]]
      refine ev_if (fun h1 => ev_ret ?_) (fun h1 => ?_)
      · have hp : pairB (gt izM l (i - 1)) (gt izM l i) = false := by unfold pairB; rw [h1]; rfl
        simp [goodL, hp]
      simp only [Bool.not_eq_true] at h1
      refine ev_if (fun h2 => ev_if (fun h3 => ev_ret ?_) (fun h3 => ev_val ih' ?_)) (fun h2 => ev_val ih' ?_)
      · have hp : pairB (gt izM l (i - 1)) (gt izM l i) = false := by unfold pairB; rw [h1, decide_eq_true h2, decide_eq_true h3]; rfl
        simp [goodL, hp]
      · have hp : pairB (gt izM l (i - 1)) (gt izM l i) = true := by unfold pairB; rw [h1, decide_eq_true h2, decide_eq_false h3]; rfl
        simp [goodL, h, hp]
      · have hp : pairB (gt izM l (i - 1)) (gt izM l i) = true := by unfold pairB; rw [h1, decide_eq_false h2]; rfl
        simp [goodL, h, hp]
theorem impl_GoodMarks_f (l : List IM) (size : Int) (hl : l.length ≤ 1048576) (hw : ∀ x ∈ l, x.f2.size ≤ 1048576) : Ev (fun k => impl_GoodMarks.f k l size) (goodM l size) := by
  unfold impl_GoodMarks.f
  have hj : ∀ b : Bool, (b = true → goodM l size = false) → (b = false → goodM l size = goodL size none l) → Ev (fun k => impl_GoodMarks.j0 k l size b) (goodM l size) := by
    intro b hb1 hb2
    refine Ev.step (fun k => by rw [impl_GoodMarks.j0]) ?_
    refine ev_if (fun h => ev_ret (hb1 h).symm) (fun h => ?_)
    simp only [Bool.not_eq_true] at h
    rw [hb2 h]
    exact impl_GoodMarks_l l size hl hw l.length 0 (by omega)
  refine ev_if (fun h => hj _ (fun _ => ?_) (fun h2 => by cases h2)) (fun h => ev_if (fun h1 => hj _ (fun _ => ?_) (fun h2 => by cases h2)) (fun h1 => hj _ (fun h2 => ?_) (fun h2 => ?_)))
  · unfold goodM; rw [decide_eq_false (show ¬ (0 ≤ size ∧ size ≤ 300) by omega)]; simp
  · unfold goodM; rw [decide_eq_false (show ¬ (0 ≤ size ∧ size ≤ 300) by omega)]; simp
  · have h3 := of_decide_eq_true h2
    unfold goodM; rw [decide_eq_false (show ¬ (l.length ≤ 40) by omega)]; simp
  · have h3 := of_decide_eq_false h2
    unfold goodM; rw [decide_eq_true (show l.length ≤ 40 by omega), decide_eq_true (show 0 ≤ size ∧ size ≤ 300 by omega)]; simp
theorem goodM_size {l : List IM} {size : Int} (h : goodM l size = true) : l.length ≤ 40 ∧ 0 ≤ size ∧ size ≤ 300 := by
  unfold goodM at h
  simp only [Bool.and_eq_true, decide_eq_true_eq] at h
  omega

theorem laws_markText_l (m : Nat) : ∀ (n : Nat) (t : ByteArray), n ≤ m → n ≤ 2305843009213693952 → t.size + n ≤ 2305843009213693952 → ∃ r, Ev (fun k => laws_markText.l0 k (n : Int) t) r := by
  induction m with
  | zero =>
    intro n t h0 h1 h2
    obtain rfl : n = 0 := by omega
    exact ⟨_, Ev.step (fun k => by rw [laws_markText.l0]) (ev_neg (by omega) (ev_pos (by omega) (ev_ret rfl)))⟩
  | succ m ih =>
    intro n t h0 h1 h2
    by_cases hn : n = 0
    · subst hn
      exact ⟨_, Ev.step (fun k => by rw [laws_markText.l0]) (ev_neg (by omega) (ev_pos (by omega) (ev_ret rfl)))⟩
    · have e : wrap64 (Int.tdiv (n : Int) 10) = ((n / 10 : Nat) : Int) := by
        rw [Int.tdiv_eq_ediv_of_nonneg (by omega)]; unfold wrap64; omega
      have hs : ∀ x : Int, (strOfNums [x]).size = 1 := fun x => rfl
      obtain ⟨r, hr⟩ := ih (n / 10) (strOfNums [(wrap64 (48 + (Int.tmod (n : Int) 10))) % 256] ++ t) (by omega) (by omega) (by rw [ByteArray.size_append, hs]; omega)
      refine ⟨r, ?_⟩
      refine Ev.step (fun k => by rw [laws_markText.l0]) ?_
      refine ev_pos (by omega) (ev_some ?_)
      refine ev_pos (by rw [hs]; omega) ?_
      rw [e]; exact hr
noncomputable def MT (n : Int) : ByteArray := @Classical.epsilon ByteArray ⟨ByteArray.empty⟩ (fun r => Ev (fun k => laws_markText.f k n) r)
theorem MT_ev (n : Int) (h0 : 0 ≤ n) (h1 : n ≤ 1152921504606846990) : Ev (fun k => laws_markText.f k n) (MT n) := by
  refine @Classical.epsilon_spec ByteArray (fun r => Ev (fun k => laws_markText.f k n) r) ?_
  obtain ⟨m, rfl⟩ := Int.eq_ofNat_of_zero_le h0
  by_cases hm : m = 0
  · subst hm
    exact ⟨_, by unfold laws_markText.f; exact ev_pos (by omega) (ev_ret rfl)⟩
  · obtain ⟨r, hr⟩ := laws_markText_l m m ⟨#[]⟩ (Nat.le_refl _) (by omega) (by show 0 + m ≤ _; omega)
    exact ⟨r, by unfold laws_markText.f; exact ev_neg (by omega) hr⟩

noncomputable def mvMark (kk : Int) : IM := (⟨kk, (kk + 1), (MT (kk + 2))⟩ : IM)
noncomputable def mkMark (kk : Int) (n : Nat) : List IM := (List.range n).map (fun (i : Nat) => mvMark (kk + 3 * (i : Int)))
theorem mkMark_len (kk : Int) (n : Nat) : (mkMark kk n).length = n := by simp [mkMark]
theorem mkMark_succ (kk : Int) (n : Nat) : mkMark kk (n + 1) = mkMark kk n ++ [mvMark (kk + 3 * (n : Int))] := by simp [mkMark, List.range_succ]
theorem mkMark_gt (kk : Int) (n i : Nat) (h : i < n) : gt izM (mkMark kk n) i = mvMark (kk + 3 * (i : Int)) := by
  unfold gt mkMark; rw [List.getD_eq_getElem?_getD, List.getElem?_map, List.getElem?_range h]; rfl
theorem laws_markMarkS_r (x0 : List IM) (kk : Int) (i : Nat) (hi : i < x0.length) (hx : x0.length ≤ 1152921504606846976) (h0 : 0 ≤ kk) (h1 : kk ≤ 1152921504606846976) {r : Int × List IM}
    (h : Ev (fun k => laws_markMarkS.l0 k (x0.set i (mvMark kk)) (kk + 3) ((i + 1 : Nat) : Int)) r) : Ev (fun k => laws_markMarkS.l0 k x0 kk (i : Int)) r := by
  have w1 : wrap64 (kk + 1) = kk + 1 := by unfold wrap64; omega
  have w2 : wrap64 ((kk + 1) + 1) = kk + 2 := by unfold wrap64; omega
  have w3 : wrap64 ((kk + 2) + 1) = kk + 3 := by unfold wrap64; omega
  refine Ev.step (fun k => by rw [laws_markMarkS.l0]) ?_
  refine ev_pos (by omega) ?_
  simp only [w1, w2, w3, wrap_succ i (by omega)]
  refine ev_pos (by omega) ?_
  refine ev_some ?_
  refine ev_some ?_
  refine Ev.bind (MT_ev _ (by omega) (by omega)) ?_
  refine ev_val' ?_ h; intro k; simp [rd_im, gt_set, List.set_set, hi, mvMark]
theorem laws_markMarkS_l (l : List IM) (kk : Int) (hl : l.length ≤ 1073741824) (h0 : 0 ≤ kk) (h1 : kk ≤ 1073741824) (d : Nat) : ∀ i : Nat, i + d = l.length →
    Ev (fun k => laws_markMarkS.l0 k (mkMark kk i ++ l.drop i) (kk + 3 * (i : Int)) (i : Int)) (kk + 3 * (l.length : Int), mkMark kk l.length) := by
  induction d with
  | zero =>
    intro i hi
    refine Ev.step (fun k => by rw [laws_markMarkS.l0]) ?_
    refine ev_neg (by simp [mkMark_len]; omega) (ev_ret ?_)
    have : i = l.length := by omega
    subst this; simp
  | succ d ih =>
    intro i hi
    refine laws_markMarkS_r _ _ i (by simp [mkMark_len]; omega) (by simp [mkMark_len]; omega) (by omega) (by omega) ?_
    have e : (mkMark kk i ++ l.drop i).set i (mvMark (kk + 3 * (i : Int))) = mkMark kk (i + 1) ++ l.drop (i + 1) := by
      rw [gt_drop izM l i (by omega), List.set_append_right _ _ (by simp [mkMark_len]), mkMark_len, Nat.sub_self, mkMark_succ]; simp
    have e2 : kk + 3 * (i : Int) + 3 = kk + 3 * ((i + 1 : Nat) : Int) := by omega
    rw [e, e2]
    exact ih (i + 1) (by omega)
theorem laws_markMarkS_f (l : List IM) (kk : Int) (hl : l.length ≤ 1073741824) (h0 : 0 ≤ kk) (h1 : kk ≤ 1073741824) :
    Ev (fun k => laws_markMarkS.f k l kk) (kk + 3 * (l.length : Int), mkMark kk l.length) := by
  unfold laws_markMarkS.f
  have := laws_markMarkS_l l kk hl h0 h1 l.length 0 (by omega)
  have e0 : mkMark kk 0 ++ l.drop 0 = l := by simp [mkMark]
  have e1 : kk + 3 * ((0 : Nat) : Int) = kk := by omega
  rw [e0, e1] at this
  exact this

theorem laws_heldMarkS_l (kk : Int) (n : Nat) (hl : n ≤ 1073741824) (h0 : 0 ≤ kk) (h1 : kk ≤ 1073741824) (d : Nat) : ∀ i : Nat, i + d = n →
    Ev (fun k => laws_heldMarkS.l0 k (mkMark kk n) (kk + 3 * (i : Int)) (i : Int)) (kk + 3 * (n : Int)) := by
  induction d with
  | zero =>
    intro i hi
    refine Ev.step (fun k => by rw [laws_heldMarkS.l0]) ?_
    refine ev_neg (by rw [mkMark_len]; omega) (ev_ret ?_)
    have : i = n := by omega
    subst this; rfl
  | succ d ih =>
    intro i hi
    have hn : i < n := by omega
    have ih' := ih (i + 1) (by omega)
    refine Ev.step (fun k => by rw [laws_heldMarkS.l0]) ?_
    refine ev_pos (by rw [mkMark_len]; omega) (ev_pos (by omega) ?_)
    have e2 : kk + 3 * ((i + 1 : Nat) : Int) = kk + 3 * (i : Int) + 3 := by omega
    rw [e2] at ih'
    have g0 : 0 ≤ kk + 3 * (i : Int) := by omega
    have g1 : kk + 3 * (i : Int) ≤ 1152921504606846976 := by omega
    simp only [rd_im, mkMark_gt _ _ _ hn]
    generalize kk + 3 * (i : Int) = kk at g0 g1 ih' ⊢
    have w1 : wrap64 (kk + 1) = kk + 1 := by unfold wrap64; omega
    have w2 : wrap64 ((kk + 1) + 1) = kk + 2 := by unfold wrap64; omega
    have w3 : wrap64 ((kk + 2) + 1) = kk + 3 := by unfold wrap64; omega
    simp only [w1, w2, w3, wrap_succ i (by omega)]
    refine ev_pos rfl ?_
    refine ev_pos rfl ?_
    refine Ev.bind (MT_ev _ (by omega) (by omega)) ?_
    refine ev_pos rfl ?_
    exact ih'
theorem laws_heldMarkS_f (kk : Int) (n : Nat) (hl : n ≤ 1073741824) (h0 : 0 ≤ kk) (h1 : kk ≤ 1073741824) :
    Ev (fun k => laws_heldMarkS.f k (mkMark kk n) kk) (kk + 3 * (n : Int)) := by
  unfold laws_heldMarkS.f
  have := laws_heldMarkS_l kk n hl h0 h1 n 0 (by omega)
  have e1 : kk + 3 * ((0 : Nat) : Int) = kk := by omega
  rw [e1] at this
  exact this

/-- What is left of a mark when a style is cut from a stretch. -/
def cutOne (from_ to_ : Int) (st : ByteArray) (m : IM) : List IM :=
  if m.f2.toList ≠ st.toList ∨ from_ = to_ ∨ m.f1 ≤ from_ ∨ m.f0 ≥ to_ then [⟨m.f0, m.f1, m.f2⟩]
  else (if m.f0 < from_ then [⟨m.f0, from_, st⟩] else []) ++ (if m.f1 > to_ then [⟨to_, m.f1, st⟩] else [])
def cutL (from_ to_ : Int) (st : ByteArray) (l : List IM) : List IM := l.flatMap (cutOne from_ to_ st)
theorem cutOne_len (from_ to_ : Int) (st : ByteArray) (m : IM) : (cutOne from_ to_ st m).length ≤ 2 := by
  unfold cutOne; repeat' split
  all_goals simp
theorem cutL_len (from_ to_ : Int) (st : ByteArray) : ∀ l : List IM, (cutL from_ to_ st l).length ≤ 2 * l.length
  | [] => by simp [cutL]
  | m :: r => by
    have h1 := cutOne_len from_ to_ st m
    have h2 := cutL_len from_ to_ st r
    simp only [cutL, List.flatMap_cons, List.length_append, List.length_cons] at h2 ⊢
    omega
/-- The other ways of a round meet here. -/
theorem spec_CutMarks_j (l : List IM) (from_ to_ : Int) (st : ByteArray) (i : Nat) (acc : List IM) (ha : acc.length ≤ 4194304) (b : Bool) (m : IM) {r : List IM × Bool}
    (hb : b = true ↔ (m.f2.toList ≠ st.toList ∨ from_ = to_ ∨ m.f1 ≤ from_ ∨ m.f0 ≥ to_))
    (h : Ev (fun k => spec_CutMarks.l0 k from_ to_ st (acc ++ cutOne from_ to_ st m) l (l.length : Int) (wrap64 ((i : Int) + 1))) r) :
    Ev (fun k => spec_CutMarks.j2 k from_ to_ st acc l (l.length : Int) (i : Int) b m.f0 m.f1 m.f2) r := by
  unfold cutOne at h
  refine Ev.step (fun k => by rw [spec_CutMarks.j2]) ?_
  refine ev_if (fun h1 => ?_) (fun h1 => ?_)
  · rw [if_pos (hb.1 h1)] at h; exact ev_pos (by omega) h
  · rw [if_neg (fun c => h1 (hb.2 c))] at h
    refine ev_if (fun h2 => ?_) (fun h2 => ?_)
    · rw [if_pos h2] at h
      refine ev_pos (by omega) (ev_some ?_)
      refine ev_if (fun h3 => ?_) (fun h3 => ?_)
      · rw [if_pos h3] at h
        refine ev_pos (by simp; omega) ?_
        simpa using h
      · rw [if_neg h3] at h; simpa using h
    · rw [if_neg h2] at h
      refine ev_if (fun h3 => ?_) (fun h3 => ?_)
      · rw [if_pos h3] at h
        refine ev_pos (by omega) ?_
        simpa using h
      · rw [if_neg h3] at h; simpa using h
theorem spec_CutMarks_l (l : List IM) (from_ to_ : Int) (st : ByteArray) (hl : l.length ≤ 1048576) (d : Nat) : ∀ (i : Nat) (acc : List IM), i + d = l.length → acc.length ≤ 2 * i →
    Ev (fun k => spec_CutMarks.l0 k from_ to_ st acc l (l.length : Int) (i : Int)) (if (acc ++ cutL from_ to_ st (l.drop i)).length ≤ 40 then (acc ++ cutL from_ to_ st (l.drop i), true) else ([], false)) := by
  induction d with
  | zero =>
    intro i acc hi ha
    refine Ev.step (fun k => by rw [spec_CutMarks.l0]) ?_
    refine ev_neg (by omega) ?_
    have e : acc ++ cutL from_ to_ st (l.drop i) = acc := by rw [List.drop_eq_nil_of_le (by omega)]; simp [cutL]
    rw [e]
    refine ev_if (fun h => ev_ret ?_) (fun h => ev_ret ?_)
    · rw [if_neg (by omega)]
    · rw [if_pos (by omega)]
  | succ d ih =>
    intro i acc hi ha
    refine Ev.step (fun k => by rw [spec_CutMarks.l0]) ?_
    refine ev_pos (by omega) (ev_pos (by omega) (ev_pos (by omega) ?_))
    have hc := cutOne_len from_ to_ st (gt izM l i)
    have ih' := ih (i + 1) (acc ++ cutOne from_ to_ st (gt izM l i)) (by omega) (by simp; omega)
    rw [← wrap_succ i (by omega), List.append_assoc] at ih'
    rw [gt_drop izM l i (by omega), cutL, List.flatMap_cons, ← cutL]
    simp only [rd_im]
    refine ev_if (fun h => ev_if (fun h2 => spec_CutMarks_j l from_ to_ st i acc (by omega) true _ ?_ ih') (fun h2 => ev_if (fun h3 => spec_CutMarks_j l from_ to_ st i acc (by omega) true _ ?_ ih') (fun h3 => spec_CutMarks_j l from_ to_ st i acc (by omega) _ _ ?_ ih'))) (fun h => spec_CutMarks_j l from_ to_ st i acc (by omega) true _ ?_ ih')
    · simp [h2]
    · simp [h3]
    · simp [h, h2, h3]
    · simp [h]
theorem impl_CutMarks_j (l : List IM) (size from_ to_ : Int) (st : ByteArray) (i : Nat) (acc : List IM) (ha : acc.length ≤ 4194304) (b : Bool) (m : IM) {r : List IM × Bool}
    (hb : b = true ↔ (m.f2.toList ≠ st.toList ∨ from_ = to_ ∨ m.f1 ≤ from_ ∨ m.f0 ≥ to_))
    (h : Ev (fun k => impl_CutMarks.l0 k size from_ to_ st (acc ++ cutOne from_ to_ st m) l (l.length : Int) (wrap64 ((i : Int) + 1))) r) :
    Ev (fun k => impl_CutMarks.j2 k size from_ to_ st acc l (l.length : Int) (i : Int) b m.f0 m.f1 m.f2) r := by
  unfold cutOne at h
  refine Ev.step (fun k => by rw [impl_CutMarks.j2]) ?_
  refine ev_if (fun h1 => ?_) (fun h1 => ?_)
  · rw [if_pos (hb.1 h1)] at h; exact ev_pos (by omega) h
  · rw [if_neg (fun c => h1 (hb.2 c))] at h
    refine ev_if (fun h2 => ?_) (fun h2 => ?_)
    · rw [if_pos h2] at h
      refine ev_pos (by omega) (ev_some ?_)
      refine ev_if (fun h3 => ?_) (fun h3 => ?_)
      · rw [if_pos h3] at h
        refine ev_pos (by simp; omega) ?_
        simpa using h
      · rw [if_neg h3] at h; simpa using h
    · rw [if_neg h2] at h
      refine ev_if (fun h3 => ?_) (fun h3 => ?_)
      · rw [if_pos h3] at h
        refine ev_pos (by omega) ?_
        simpa using h
      · rw [if_neg h3] at h; simpa using h
theorem impl_CutMarks_l (l : List IM) (size from_ to_ : Int) (st : ByteArray) (hl : l.length ≤ 1048576) (hg : (cutL from_ to_ st l).length ≤ 2097152 → ∀ x ∈ cutL from_ to_ st l, x.f2.size ≤ 1048576) (d : Nat) : ∀ (i : Nat) (acc : List IM), i + d = l.length → acc.length ≤ 2 * i → acc ++ cutL from_ to_ st (l.drop i) = cutL from_ to_ st l →
    (∀ r : List IM, r = cutL from_ to_ st l → ∃ b, Ev (fun k => impl_GoodMarks.f k r size) b ∧ (b = true → goodM r size = true) ∧ (b = false → goodM r size = false)) →
    Ev (fun k => impl_CutMarks.l0 k size from_ to_ st acc l (l.length : Int) (i : Int)) (if goodM (cutL from_ to_ st l) size = true then (cutL from_ to_ st l, true) else ([], false)) := by
  induction d with
  | zero =>
    intro i acc hi ha he hgm
    refine Ev.step (fun k => by rw [impl_CutMarks.l0]) ?_
    refine ev_neg (by omega) ?_
    have e : acc = cutL from_ to_ st l := by rw [← he, List.drop_eq_nil_of_le (by omega)]; simp [cutL]
    obtain ⟨b, hb, h1, h2⟩ := hgm _ e
    refine Ev.bind (a := if goodM (cutL from_ to_ st l) size = true then (cutL from_ to_ st l, true) else ([], false)) ?_ (ev_ret rfl)
    unfold impl_goodMarks.f
    refine Ev.bind hb ?_
    refine ev_if (fun h => ev_ret ?_) (fun h => ev_ret ?_)
    · rw [if_pos (by rw [← e]; exact h1 h), e]
    · rw [if_neg (by rw [← e, h2 (by simpa using h)]; simp)]
  | succ d ih =>
    intro i acc hi ha he hgm
    refine Ev.step (fun k => by rw [impl_CutMarks.l0]) ?_
    refine ev_pos (by omega) (ev_pos (by omega) (ev_pos (by omega) ?_))
    have hc := cutOne_len from_ to_ st (gt izM l i)
    rw [gt_drop izM l i (by omega), cutL, List.flatMap_cons, ← cutL, ← List.append_assoc] at he
    have ih' := ih (i + 1) (acc ++ cutOne from_ to_ st (gt izM l i)) (by omega) (by simp; omega) he hgm
    rw [← wrap_succ i (by omega)] at ih'
    simp only [rd_im]
    refine ev_if (fun h => ev_if (fun h2 => impl_CutMarks_j l size from_ to_ st i acc (by omega) true _ ?_ ih') (fun h2 => ev_if (fun h3 => impl_CutMarks_j l size from_ to_ st i acc (by omega) true _ ?_ ih') (fun h3 => impl_CutMarks_j l size from_ to_ st i acc (by omega) _ _ ?_ ih'))) (fun h => impl_CutMarks_j l size from_ to_ st i acc (by omega) true _ ?_ ih')
    · simp [h2]
    · simp [h3]
    · simp [h, h2, h3]
    · simp [h]

theorem bytesOf_eq {s t : ByteArray} (h : s.toList = t.toList) : bytesOf s = bytesOf t := by
  rw [ByteArray.toList_eq, ByteArray.toList_eq] at h
  unfold bytesOf; rw [h]
theorem pairB_iff (a m : IM) : pairB a m = true ↔ Op.bytesLess m.f2.toList a.f2.toList = false ∧ (a.f2.toList = m.f2.toList → a.f1 < m.f0) := by
  unfold pairB
  simp only [Bool.and_eq_true, Bool.not_eq_true', Bool.and_eq_false_iff, decide_eq_false_iff_not]
  refine and_congr_right fun _ => ⟨fun h e => ?_, fun h => ?_⟩
  · rcases h with h | h
    · exact absurd e h
    · omega
  · by_cases e : a.f2.toList = m.f2.toList
    · right; have := h e; omega
    · left; exact e
theorem markB_iff (m : IM) (size : Int) : markB m size = true ↔ styleB (bytesOf m.f2) = true ∧ 0 ≤ m.f0 ∧ m.f0 < m.f1 ∧ m.f1 ≤ size := by
  unfold markB; simp only [Bool.and_eq_true, decide_eq_true_eq]
def okB2 : Option IM → IM → Prop
  | none, _ => True
  | some a, m => pairB a m = true
theorem goodL_cons (size : Int) (p : Option IM) (m : IM) (r : List IM) : goodL size p (m :: r) = true ↔ markB m size = true ∧ okB2 p m ∧ goodL size (some m) r = true := by
  cases p <;> simp [goodL, okB2]
theorem pair_move {a a' m m' : IM} (h : pairB a m = true) (e1 : a'.f2.toList = a.f2.toList) (e2 : m'.f2.toList = m.f2.toList) (h1 : a'.f1 ≤ a.f1) (h2 : m.f0 ≤ m'.f0) : pairB a' m' = true := by
  rw [pairB_iff] at h ⊢
  rw [e1, e2]
  exact ⟨h.1, fun e => by have := h.2 e; omega⟩
theorem pair_trans {a b m : IM} (h1 : pairB a b = true) (hb : b.f0 < b.f1) (h2 : pairB b m = true) : pairB a m = true := by
  rw [pairB_iff] at h1 h2 ⊢
  refine ⟨Ord.nless_trans h1.1 h2.1, fun e => ?_⟩
  have hab : a.f2.toList = b.f2.toList := by
    have := h2.1; rw [← e] at this
    exact Ord.less_total this h1.1
  have h3 := h1.2 hab
  have h4 := h2.2 (hab ▸ e)
  omega
theorem goodL_cut (size from_ to_ : Int) (st : ByteArray) (hst : styleB (bytesOf st) = true) (h0 : 0 ≤ from_) (h1 : from_ ≤ to_) (h2 : to_ ≤ size) :
    ∀ (l : List IM) (p q : Option IM), (∀ m, okB2 p m → okB2 q m) → goodL size p l = true → goodL size q (cutL from_ to_ st l) = true
  | [], _, _, _, _ => by simp [cutL, goodL]
  | m :: r, p, q, hpq, h => by
    obtain ⟨hm, hp, hr⟩ := (goodL_cons size p m r).1 h
    have hq := hpq m hp
    have hm' := (markB_iff m size).1 hm
    rw [cutL, List.flatMap_cons, ← cutL]
    unfold cutOne
    by_cases c : m.f2.toList ≠ st.toList ∨ from_ = to_ ∨ m.f1 ≤ from_ ∨ m.f0 ≥ to_
    · rw [if_pos c, List.singleton_append]
      exact (goodL_cons size q m _).2 ⟨hm, hq, goodL_cut size from_ to_ st hst h0 h1 h2 r (some m) (some m) (fun _ h => h) hr⟩
    · rw [if_neg c]
      have c1 : m.f2.toList = st.toList := Classical.byContradiction fun e => c (.inl e)
      have c2 : ¬ from_ = to_ := fun e => c (.inr (.inl e))
      have c3 : ¬ m.f1 ≤ from_ := fun e => c (.inr (.inr (.inl e)))
      have c4 : ¬ m.f0 ≥ to_ := fun e => c (.inr (.inr (.inr e)))
      -- what a piece of m owes
      have hqp : ∀ x : IM, x.f2.toList = m.f2.toList → m.f0 ≤ x.f0 → okB2 q x := by
        intro x e1 e2
        cases q with
        | none => trivial
        | some a => exact pair_move hq rfl e1 (Int.le_refl _) e2
      have hpx : ∀ x : IM, x.f2.toList = m.f2.toList → x.f1 ≤ m.f1 → ∀ y, okB2 (some m) y → okB2 (some x) y := fun x e1 e2 y hy => pair_move hy e1 rfl e2 (Int.le_refl _)
      by_cases d1 : m.f0 < from_
      · rw [if_pos d1]
        by_cases d2 : m.f1 > to_
        · rw [if_pos d2]; simp only [List.cons_append, List.nil_append]
          have hl : pairB (⟨m.f0, from_, st⟩ : IM) (⟨to_, m.f1, st⟩ : IM) = true := (pairB_iff _ _).2 ⟨Ord.less_irrefl _, fun _ => by show from_ < to_; omega⟩
          refine (goodL_cons size q _ _).2 ⟨(markB_iff _ _).2 ⟨hst, hm'.2.1, d1, by show from_ ≤ size; omega⟩, hqp _ c1.symm (Int.le_refl _), (goodL_cons size _ _ _).2 ⟨(markB_iff _ _).2 ⟨hst, by show 0 ≤ to_; omega, d2, hm'.2.2.2⟩, hl, ?_⟩⟩
          exact goodL_cut size from_ to_ st hst h0 h1 h2 r (some m) _ (hpx _ c1.symm (Int.le_refl _)) hr
        · rw [if_neg d2]; simp only [List.cons_append, List.nil_append]
          refine (goodL_cons size q _ _).2 ⟨(markB_iff _ _).2 ⟨hst, hm'.2.1, d1, by show from_ ≤ size; omega⟩, hqp _ c1.symm (Int.le_refl _), ?_⟩
          exact goodL_cut size from_ to_ st hst h0 h1 h2 r (some m) _ (hpx _ c1.symm (by show from_ ≤ m.f1; omega)) hr
      · rw [if_neg d1]
        by_cases d2 : m.f1 > to_
        · rw [if_pos d2]; simp only [List.cons_append, List.nil_append]
          refine (goodL_cons size q _ _).2 ⟨(markB_iff _ _).2 ⟨hst, by show 0 ≤ to_; omega, d2, hm'.2.2.2⟩, hqp _ c1.symm (by show m.f0 ≤ to_; omega), ?_⟩
          exact goodL_cut size from_ to_ st hst h0 h1 h2 r (some m) _ (hpx _ c1.symm (Int.le_refl _)) hr
        · rw [if_neg d2]; simp only [List.cons_append, List.nil_append]
          refine goodL_cut size from_ to_ st hst h0 h1 h2 r (some m) q (fun x hx => ?_) hr
          cases q with
          | none => trivial
          | some a => exact pair_trans hq hm'.2.2.1 hx
theorem goodM_cut (size from_ to_ : Int) (st : ByteArray) (hst : styleB (bytesOf st) = true) (h0 : 0 ≤ from_) (h1 : from_ ≤ to_) (h2 : to_ ≤ size) (l : List IM) (h : goodM l size = true) :
    goodM (cutL from_ to_ st l) size = decide ((cutL from_ to_ st l).length ≤ 40) := by
  unfold goodM at h ⊢
  simp only [Bool.and_eq_true, decide_eq_true_eq] at h
  rw [goodL_cut size from_ to_ st hst h0 h1 h2 l none none (fun _ h => h) h.1, decide_eq_true h.2.2, Bool.true_and, Bool.and_true]
theorem cutL_small (from_ to_ : Int) (st : ByteArray) (l : List IM) (hw : ∀ x ∈ l, x.f2.size ≤ 1048576) (hst : st.size ≤ 1048576) : ∀ x ∈ cutL from_ to_ st l, x.f2.size ≤ 1048576 := by
  intro x hx
  obtain ⟨m, hm, hx⟩ := List.mem_flatMap.1 hx
  unfold cutOne at hx
  split at hx
  · simp only [List.mem_singleton] at hx; subst hx; exact hw m hm
  · rcases List.mem_append.1 hx with hx | hx
    · split at hx
      · simp only [List.mem_singleton] at hx; subst hx; exact hst
      · cases hx
    · split at hx
      · simp only [List.mem_singleton] at hx; subst hx; exact hst
      · cases hx
def cutR (l : List IM) (size from_ to_ : Int) (st : ByteArray) : List IM × Bool :=
  if goodM l size = true ∧ 0 ≤ from_ ∧ from_ ≤ to_ ∧ to_ ≤ size ∧ styleB (bytesOf st) = true ∧ (cutL from_ to_ st l).length ≤ 40 then (cutL from_ to_ st l, true) else ([], false)
theorem spec_CutMarks_f (l : List IM) (size from_ to_ : Int) (st : ByteArray) (hs : st.size ≤ 140737488351232) (hl : l.length ≤ 1048576) (hw : ∀ x ∈ l, x.f2.size ≤ 1048576) :
    Ev (fun k => spec_CutMarks.f k l size from_ to_ st) (cutR l size from_ to_ st) := by
  unfold spec_CutMarks.f cutR
  have hj : ∀ b : Bool, (b = true → ¬ (goodM l size = true ∧ 0 ≤ from_ ∧ from_ ≤ to_ ∧ to_ ≤ size ∧ styleB (bytesOf st) = true)) → (b = false → (goodM l size = true ∧ 0 ≤ from_ ∧ from_ ≤ to_ ∧ to_ ≤ size ∧ styleB (bytesOf st) = true)) →
      Ev (fun k => spec_CutMarks.j0 k l from_ to_ st b) (if goodM l size = true ∧ 0 ≤ from_ ∧ from_ ≤ to_ ∧ to_ ≤ size ∧ styleB (bytesOf st) = true ∧ (cutL from_ to_ st l).length ≤ 40 then (cutL from_ to_ st l, true) else ([], false)) := by
    intro b h1 h2
    refine Ev.step (fun k => by rw [spec_CutMarks.j0]) ?_
    refine ev_if (fun h => ev_ret ?_) (fun h => ev_val (spec_CutMarks_l l from_ to_ st hl l.length 0 [] (by omega) (by simp)) ?_)
    · rw [if_neg (fun c => h1 h ⟨c.1, c.2.1, c.2.2.1, c.2.2.2.1, c.2.2.2.2.1⟩)]
    · obtain ⟨a1, a2, a3, a4, a5⟩ := h2 (by simpa using h)
      rw [List.nil_append, List.drop_zero]
      by_cases c : (cutL from_ to_ st l).length ≤ 40
      · rw [if_pos c, if_pos ⟨a1, a2, a3, a4, a5, c⟩]
      · rw [if_neg c, if_neg (fun z => c z.2.2.2.2.2)]
  refine Ev.bind (spec_GoodMarks_f l size hl hw) (ev_if (fun h => ?_) (fun h => hj true (fun _ z => h z.1) (fun z => by cases z)))
  refine ev_eq (spec_l1In_f _ _ _) (ev_if (fun h1 => ?_) (fun h1 => hj true (fun _ z => h1 (decide_eq_true ⟨z.2.1, by omega⟩)) (fun z => by cases z)))
  have h1' := of_decide_eq_true h1
  refine ev_eq (spec_l1In_f _ _ _) (ev_if (fun h2 => ?_) (fun h2 => hj true (fun _ z => h2 (decide_eq_true ⟨z.2.2.1, z.2.2.2.1⟩)) (fun z => by cases z)))
  have h2' := of_decide_eq_true h2
  refine Ev.bind (spec_l5Style_f st hs) (hj _ (fun z c => ?_) (fun z => ⟨h, h1'.1, h2'.1, h2'.2, by simpa using z⟩))
  rw [c.2.2.2.2] at z; cases z
theorem impl_CutMarks_f (l : List IM) (size from_ to_ : Int) (st : ByteArray) (hs : st.size ≤ 1048576) (hl : l.length ≤ 1048576) (hw : ∀ x ∈ l, x.f2.size ≤ 1048576) :
    Ev (fun k => impl_CutMarks.f k l size from_ to_ st) (cutR l size from_ to_ st) := by
  unfold impl_CutMarks.f cutR
  have hj : ∀ b : Bool, (b = true → ¬ (goodM l size = true ∧ 0 ≤ from_ ∧ from_ ≤ to_ ∧ to_ ≤ size ∧ styleB (bytesOf st) = true)) → (b = false → (goodM l size = true ∧ 0 ≤ from_ ∧ from_ ≤ to_ ∧ to_ ≤ size ∧ styleB (bytesOf st) = true)) →
      Ev (fun k => impl_CutMarks.j0 k l size from_ to_ st b) (if goodM l size = true ∧ 0 ≤ from_ ∧ from_ ≤ to_ ∧ to_ ≤ size ∧ styleB (bytesOf st) = true ∧ (cutL from_ to_ st l).length ≤ 40 then (cutL from_ to_ st l, true) else ([], false)) := by
    intro b h1 h2
    refine Ev.step (fun k => by rw [impl_CutMarks.j0]) ?_
    refine ev_if (fun h => ev_ret ?_) (fun h => ?_)
    · rw [if_neg (fun c => h1 h ⟨c.1, c.2.1, c.2.2.1, c.2.2.2.1, c.2.2.2.2.1⟩)]
    · obtain ⟨a1, a2, a3, a4, a5⟩ := h2 (by simpa using h)
      have hsm := cutL_small from_ to_ st l hw hs
      have hln := cutL_len from_ to_ st l
      have h40 := (goodM_size a1).1
      refine ev_val (impl_CutMarks_l l size from_ to_ st hl (fun _ => hsm) l.length 0 [] (by omega) (by simp) (by simp) (fun r hr => ⟨_, impl_GoodMarks_f r size (by rw [hr]; omega) (by rw [hr]; exact hsm), fun z => z, fun z => z⟩)) ?_
      rw [goodM_cut size from_ to_ st a5 a2 a3 a4 l a1]
      by_cases c : (cutL from_ to_ st l).length ≤ 40
      · rw [if_pos (decide_eq_true c), if_pos ⟨a1, a2, a3, a4, a5, c⟩]
      · rw [if_neg (fun z => c (of_decide_eq_true z)), if_neg (fun z => c z.2.2.2.2.2)]
  refine Ev.bind (impl_GoodMarks_f l size hl hw) (ev_if (fun h => ?_) (fun h => hj true (fun _ z => h z.1) (fun z => by cases z)))
  refine ev_if (fun h1 => hj true (fun _ z => by omega) (fun z => by cases z)) (fun h1 => ?_)
  refine ev_if (fun h2 => hj true (fun _ z => by omega) (fun z => by cases z)) (fun h2 => ?_)
  refine ev_if (fun h3 => hj true (fun _ z => by omega) (fun z => by cases z)) (fun h3 => ?_)
  refine Ev.bind (impl_isStyle_f st (by omega)) (hj _ (fun z c => ?_) (fun z => ⟨h, by omega, by omega, by omega, by simpa using z⟩))
  rw [c.2.2.2.2] at z; cases z
theorem cutR_len (l : List IM) (size from_ to_ : Int) (st : ByteArray) : (cutR l size from_ to_ st).1.length ≤ 40 := by
  unfold cutR; split
  · rename_i h; exact h.2.2.2.2.2
  · simp

theorem FnExactCutMarks : laws_FnExactCutMarks.Pure := by
  intro l size from_ to_ st hl hw hsz hfr hto_ hst
  refine Ev.rounds ?_
  unfold laws_FnExactCutMarks.f
  refine ev_if (fun _ => ev_ret rfl) (fun hst2 => ?_)
  obtain ⟨v, hv, hb⟩ := laws_szMarkS_f l hl (fun x hx => (hw x hx).2.2)
  refine Ev.bind hv (ev_if (fun _ => ev_ret rfl) (fun h => ?_))
  obtain ⟨h1, h2⟩ := hb (by omega)
  have hw' : ∀ x ∈ l.map cvM, x.f2.size ≤ 1048576 := fun x hx => by obtain ⟨y, hy, rfl⟩ := List.mem_map.1 hx; exact h2 y hy
  have hl' : (l.map cvM).length ≤ 1048576 := by simpa using h1
  have hr := cutR_len (l.map cvM) size from_ to_ st
  have hto := laws_toMarkS_f l h1
  have hsp := spec_CutMarks_f _ size from_ to_ st hst hl' hw'
  have him := impl_CutMarks_f _ size from_ to_ st (by omega) hl' hw'
  have heq := laws_eqMarkS_f (cutR (l.map cvM) size from_ to_ st).1 (by omega)
  refine Ev.bind hto (Ev.bind hsp (Ev.bind hto (Ev.bind him (Ev.bind heq (ev_pos rfl ?_)))))
  refine Ev.step (fun k => by rw [laws_FnExactCutMarks.j0]) ?_
  refine ev_neg (by simp) (Ev.bind hto (Ev.bind (laws_eqMarkS_f (l.map cvM) (by omega)) (ev_pos rfl ?_)))
  refine Ev.bind (laws_markMarkS_f (l.map cvM) 1 (by omega) (by omega) (by omega)) (ev_neg (by first | omega | (simp only; omega)) (Ev.bind heq (ev_pos rfl ?_)))
  refine Ev.step (fun k => by rw [laws_FnExactCutMarks.j1]) ?_
  refine ev_neg (by simp) ?_
  have hh := laws_heldMarkS_f 1 (cutR (l.map cvM) size from_ to_ st).1.length (by omega) (by omega) (by omega)
  refine Ev.bind (laws_markMarkS_f (cutR (l.map cvM) size from_ to_ st).1 1 (by omega) (by omega) (by omega)) (Ev.bind hh (ev_neg (by first | omega | (simp only; omega)) (ev_pos rfl ?_)))
  refine Ev.bind hto (Ev.bind him (Ev.bind heq (ev_pos rfl ?_)))
  refine Ev.step (fun k => by rw [laws_FnExactCutMarks.j2]) ?_
  refine ev_neg (by simp) ?_
  exact Ev.bind hh (ev_neg (by first | omega | (simp only; omega)) (ev_pos rfl (ev_ret rfl)))

end Go.Proofs.Ytmhcmcdppimcpaa.Pure
