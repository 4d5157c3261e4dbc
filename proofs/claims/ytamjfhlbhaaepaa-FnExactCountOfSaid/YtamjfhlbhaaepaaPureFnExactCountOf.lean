/- FnExactCountOf over plain functions: at all texts and names the program's CountOf and the reference's give one answer; no condition. -/
import Derived.Test.YtamjfhlbhaaepaaPFnExactCountOfx3
import Derived.Test.YtamjfhlbhaaepaaBase
namespace Go.Proofs.Ytamjfhlbhaaepaa.Pure
open Go.RowKit Go.Proofs.Ytamjfhlbhaaepaa.PFnExactCountOf Go.Proofs.YtamjfhlbhaaepaaW.PrintWords Go.Proofs.YtamjfhlbhaaepaaW.PrintLast Go.Proofs.Ytamjfhlbhaaepaa.Base
set_option linter.unusedVariables false
set_option linter.unusedSimpArgs false

theorem spec_l1Open_f (c : Int) : spec_l1Open.f c = some (openB c) := by
  unfold spec_l1Open.f openB; split <;> simp <;> omega
theorem spec_l1Plain_f (c : Int) : spec_l1Plain.f c = some (plainB c) := by
  unfold spec_l1Plain.f plainB
  repeat' split
  all_goals (rw [Option.some.injEq, Bool.eq_iff_iff]; simp only [Bool.or_eq_true, decide_eq_true_eq, beq_iff_eq, true_iff]; omega)
theorem spec_l1Text_l (s : ByteArray) (hs : s.size ≤ 140737488351232) (d : Nat) : ∀ i : Nat, i + d = s.size → Ev (fun k => spec_l1Text.l0 k s (i : Int)) (textB ((bytesOf s).drop i)) := by
  induction d with
  | zero =>
    intro i hi
    refine Ev.step (fun k => by rw [spec_l1Text.l0]) ?_
    refine ev_neg (by omega) (ev_ret ?_)
    rw [drop_end s i (by omega)]; rfl
  | succ d ih =>
    intro i hi
    refine Ev.step (fun k => by rw [spec_l1Text.l0]) ?_
    refine ev_pos (by omega) (ev_pos (by omega) (ev_eq (spec_l1Open_f _) ?_))
    rw [drop_bytes s i (by omega), wrap_succ i (by omega)]
    have ih' := ih (i + 1) (by omega)
    refine ev_if (fun h => ev_val ih' (by simp [textB, okB, h])) (fun h => ?_)
    refine ev_eq (spec_l1Plain_f _) (ev_if (fun h2 => ev_val ih' (by simp [textB, okB, h2])) (fun h2 => ?_))
    refine ev_if (fun h3 => ev_val ih' (by simp [textB, okB, h3])) (fun h3 => ev_ret ?_)
    simp [textB, okB, h, h2, h3]
theorem spec_l1Text_f (s : ByteArray) (hs : s.size ≤ 140737488351232) : Ev (fun k => spec_l1Text.f k s) (textB (bytesOf s)) :=
  spec_l1Text_l s hs s.size 0 (by omega)
theorem spec_GoodText_f (s : ByteArray) (hs : s.size ≤ 140737488351232) : Ev (fun k => spec_GoodText.f k s) (goodB (bytesOf s)) := by
  unfold spec_GoodText.f goodB
  refine Ev.bind (spec_l1Text_f s hs) (ev_if (fun h => ev_ret ?_) (fun h => ev_ret ?_))
  · rw [h, bytesOf_length, Bool.true_and]; congr 1; simp; omega
  · simp at h; simp [h]
theorem impl_isName_f (c : Int) : impl_isName.f c = some (openB c) := by
  unfold impl_isName.f openB; split <;> simp <;> omega
theorem impl_isPlain_f (c : Int) : impl_isPlain.f c = some (plainB c) := by
  unfold impl_isPlain.f plainB
  repeat' split
  all_goals (rw [Option.some.injEq, Bool.eq_iff_iff]; simp only [Bool.or_eq_true, decide_eq_true_eq, beq_iff_eq, true_iff]; omega)
theorem impl_GoodText_l (s : ByteArray) (hs : s.size ≤ 140737488351232) (d : Nat) : ∀ i : Nat, i + d = s.size → Ev (fun k => impl_GoodText.l0 k s (s.size : Int) (i : Int)) (textB ((bytesOf s).drop i) && decide (s.size ≤ 300)) := by
  induction d with
  | zero =>
    intro i hi
    refine Ev.step (fun k => by rw [impl_GoodText.l0]) ?_
    refine ev_neg (by omega) (ev_ret ?_)
    rw [drop_end s i (by omega)]; simp [textB]; omega
  | succ d ih =>
    intro i hi
    refine Ev.step (fun k => by rw [impl_GoodText.l0]) ?_
    refine ev_pos (by omega) (ev_pos (by omega) (ev_pos (by omega) (ev_eq (impl_isName_f _) ?_)))
    rw [drop_bytes s i (by omega), wrap_succ i (by omega)]
    have ih' := ih (i + 1) (by omega)
    refine ev_if (fun h => ev_val ih' (by simp [textB, okB, h])) (fun h => ?_)
    refine ev_eq (impl_isPlain_f _) (ev_if (fun h2 => ev_val ih' (by simp [textB, okB, h2])) (fun h2 => ?_))
    refine ev_if (fun h3 => ev_val ih' (by simp [textB, okB, h3])) (fun h3 => ev_ret ?_)
    simp [textB, okB, h, h2, h3]
theorem impl_GoodText_f (s : ByteArray) (hs : s.size ≤ 140737488351232) : Ev (fun k => impl_GoodText.f k s) (goodB (bytesOf s)) := by
  unfold impl_GoodText.f
  refine ev_val (impl_GoodText_l s hs s.size 0 (by omega)) ?_
  simp [goodB, bytesOf_length]

/-- How deep it is behind a byte. -/
def stepD (d c : Int) : Int := if openB c = true then d + 1 else if c = 47 then d - 1 else d
def balF : Int → List Int → Bool
  | d, [] => d == 0
  | d, c :: r => if 0 ≤ stepD d c ∧ stepD d c ≤ 12 then balF (stepD d c) r else false
def docB (l : List Int) : Bool := goodB l && balF 0 l
theorem open_not47 {c : Int} (h : openB c = true) : ¬ c = 47 := by
  unfold openB at h; have := of_decide_eq_true h; omega
theorem open_iff (c : Int) : openB c = true ↔ 65 ≤ c ∧ c ≤ 70 := by unfold openB; exact decide_eq_true_iff
theorem spec_l1Balanced_j (s : ByteArray) (hs : s.size ≤ 140737488351232) (i : Nat) (hi : i < s.size) (x : Int) (hx : 0 ≤ x ∧ x ≤ 13) (y : Int) (hy : y = if bt s (i : Int) = 47 then x - 1 else x)
    (ih : 0 ≤ y ∧ y ≤ 12 → Ev (fun k => spec_l1Balanced.l0 k s y ((i + 1 : Nat) : Int)) (balF y ((bytesOf s).drop (i + 1)))) :
    Ev (fun k => spec_l1Balanced.j1 k s x (i : Int)) (if 0 ≤ y ∧ y ≤ 12 then balF y ((bytesOf s).drop (i + 1)) else false) := by
  refine Ev.step (fun k => by rw [spec_l1Balanced.j1]) ?_
  refine ev_pos (by omega) (ev_pos (by omega) ?_)
  have e1 : wrap64 (x - 1) = x - 1 := wrap_id (by omega) (by omega)
  rw [e1, wrap_succ i (by omega)]
  refine ev_if (fun h => ?_) (fun h => ?_)
  · rw [if_pos h] at hy
    subst hy
    refine ev_if (fun h1 => ev_ret ?_) (fun h1 => ev_if (fun h2 => ev_ret ?_) (fun h2 => ?_))
    · rw [if_neg (by omega)]
    · rw [if_neg (by omega)]
    · rw [if_pos (by omega)]; exact ih (by omega)
  · rw [if_neg h] at hy
    subst hy
    refine ev_neg (by omega) (ev_if (fun h2 => ev_ret ?_) (fun h2 => ?_))
    · rw [if_neg (by omega)]
    · rw [if_pos (by omega)]; exact ih (by omega)
theorem spec_l1Balanced_l (s : ByteArray) (hs : s.size ≤ 140737488351232) (d : Nat) : ∀ (i : Nat) (x : Int), i + d = s.size → 0 ≤ x ∧ x ≤ 12 →
    Ev (fun k => spec_l1Balanced.l0 k s x (i : Int)) (balF x ((bytesOf s).drop i)) := by
  induction d with
  | zero =>
    intro i x hi hx
    refine Ev.step (fun k => by rw [spec_l1Balanced.l0]) ?_
    refine ev_neg (by omega) (ev_ret ?_)
    rw [drop_end s i (by omega)]; rfl
  | succ d ih =>
    intro i x hi hx
    refine Ev.step (fun k => by rw [spec_l1Balanced.l0]) ?_
    refine ev_pos (by omega) (ev_pos (by omega) (ev_eq (spec_l1Open_f _) ?_))
    rw [drop_bytes s i (by omega), balF]
    refine ev_if (fun h => ?_) (fun h => ?_)
    · have e1 : wrap64 (x + 1) = x + 1 := wrap_id (by omega) (by omega)
      have es : stepD x (bt s (i : Int)) = x + 1 := by unfold stepD; rw [if_pos h]
      rw [e1, es]
      exact spec_l1Balanced_j s hs i (by omega) (x + 1) (by omega) (x + 1) (by rw [if_neg (open_not47 h)]) (fun hy => ih (i + 1) _ (by omega) hy)
    · have es : stepD x (bt s (i : Int)) = if bt s (i : Int) = 47 then x - 1 else x := by unfold stepD; rw [if_neg h]
      rw [es]
      exact spec_l1Balanced_j s hs i (by omega) x (by omega) _ rfl (fun hy => ih (i + 1) _ (by omega) hy)
theorem spec_l1Balanced_f (s : ByteArray) (hs : s.size ≤ 140737488351232) : Ev (fun k => spec_l1Balanced.f k s) (balF 0 (bytesOf s)) :=
  spec_l1Balanced_l s hs s.size 0 0 (by omega) (by omega)
theorem spec_GoodDoc_f (s : ByteArray) (hs : s.size ≤ 140737488351232) : Ev (fun k => spec_GoodDoc.f k s) (docB (bytesOf s)) := by
  unfold spec_GoodDoc.f docB
  refine Ev.bind (spec_GoodText_f s hs) (ev_if (fun h => ?_) (fun h => ev_ret ?_))
  · rw [h, Bool.true_and]
    exact Ev.bind (spec_l1Balanced_f s hs) (ev_ret rfl)
  · simp only [Bool.not_eq_true] at h; rw [h]; rfl
/-- The program's stack of places is as high as it is deep. -/
theorem run_bal : ∀ (l : List Int) (i : Int) (o : List Int) (m : List (Int × Int)), o.length ≤ 12 →
    (impl_matches.end_ (impl_matches.run i l o m)).1 = balF (o.length : Int) l
  | [], i, o, m, _ => by
    show decide (o.length = 0) = ((o.length : Int) == 0)
    by_cases h : o.length = 0
    · simp [h]
    · rw [decide_eq_false h]; symm; exact beq_eq_false_iff_ne.mpr (by omega)
  | c :: r, i, o, m, ho => by
    rw [impl_matches.run, balF]
    by_cases h : 65 ≤ c ∧ c ≤ 70
    · have es : stepD (o.length : Int) c = (o.length : Int) + 1 := by unfold stepD; rw [if_pos ((open_iff c).2 h)]
      rw [if_pos h, es]
      have e2 : (o ++ [i]).length = o.length + 1 := by simp
      by_cases h2 : (o ++ [i]).length > 12
      · rw [if_pos h2, if_neg (by omega)]; rfl
      · rw [if_neg h2, if_pos (by omega), run_bal r (i + 1) (o ++ [i]) m (by omega), e2]; rfl
    · rw [if_neg h]
      have hno : ¬ openB c = true := fun e => h ((open_iff c).1 e)
      by_cases h2 : c = 47
      · have es : stepD (o.length : Int) c = (o.length : Int) - 1 := by unfold stepD; rw [if_neg hno, if_pos h2]
        rw [if_pos h2, es]
        by_cases h3 : o.length = 0
        · rw [if_pos h3, if_neg (by omega)]; rfl
        · have e2 : ((o.take (o.length - 1)).length : Int) = (o.length : Int) - 1 := by rw [List.length_take]; omega
          rw [if_neg h3, if_pos (by omega), run_bal r _ _ _ (by rw [List.length_take]; omega), e2]
      · have es : stepD (o.length : Int) c = (o.length : Int) := by unfold stepD; rw [if_neg hno, if_neg h2]
        rw [if_neg h2, es, if_pos (by omega)]
        exact run_bal r (i + 1) o m ho
theorem goodB_len {l : List Int} (h : goodB l = true) : l.length ≤ 300 := by
  unfold goodB at h; simp only [Bool.and_eq_true, decide_eq_true_eq] at h; exact h.2
def matchR (l : List Int) : Bool × List (Int × Int) := if goodB l = true then impl_matches.end_ (impl_matches.run 0 l [] []) else (false, [])
theorem impl_matches_f (s : ByteArray) (hs : s.size ≤ 140737488351232) : Ev (fun k => impl_matches.f k s) (matchR (bytesOf s)) := by
  unfold impl_matches.f matchR
  refine Ev.bind (impl_GoodText_f s hs) (ev_if (fun h => ?_) (fun h => ev_ret (by rw [if_neg h])))
  have := goodB_len h
  rw [bytesOf_length] at this
  rw [if_pos h]
  exact ev_pos this (ev_ret rfl)
theorem matchR_doc (l : List Int) : (matchR l).1 = docB l := by
  unfold matchR docB
  by_cases h : goodB l = true
  · rw [if_pos h, h, run_bal _ _ _ _ (by simp)]; rfl
  · rw [if_neg h]; simp only [Bool.not_eq_true] at h; rw [h]; rfl

theorem impl_GoodDoc_f (s : ByteArray) (hs : s.size ≤ 140737488351232) : Ev (fun k => impl_GoodDoc.f k s) (docB (bytesOf s)) := by
  unfold impl_GoodDoc.f
  rw [← matchR_doc]
  exact Ev.bind (impl_matches_f s hs) (ev_ret rfl)

def cntL (b : Int) (l : List Int) : Nat := l.countP (fun c => decide (c = b))
theorem spec_l1Name_f (s : ByteArray) : spec_l1Name.f s = some (decide (s.size = 1) && openB (bt s 0)) := by
  unfold spec_l1Name.f
  by_cases h : s.size = 1
  · rw [if_pos (by omega), if_pos (by omega), spec_l1Open_f, decide_eq_true h]; rfl
  · rw [if_neg (by omega), decide_eq_false h]; rfl
theorem impl_isNameText_f (s : ByteArray) : impl_isNameText.f s = some (decide (s.size = 1) && openB (bt s 0)) := by
  unfold impl_isNameText.f
  by_cases h : s.size = 1
  · rw [if_pos (by omega), if_pos (by omega), impl_isName_f, decide_eq_true h]; rfl
  · rw [if_neg (by omega), decide_eq_false h]; rfl
theorem spec_CountOf_l (s t : ByteArray) (hs : s.size ≤ 300) (ht : t.size = 1) (d : Nat) : ∀ (i acc : Nat), i + d = s.size → acc ≤ i →
    Ev (fun k => spec_CountOf.l0 k s t (acc : Int) (i : Int)) (((acc + cntL (bt t 0) ((bytesOf s).drop i) : Nat) : Int), true) := by
  induction d with
  | zero =>
    intro i acc hi ha
    refine Ev.step (fun k => by rw [spec_CountOf.l0]) ?_
    refine ev_neg (by omega) (ev_ret ?_)
    rw [drop_end s i (by omega)]; simp [cntL]
  | succ d ih =>
    intro i acc hi ha
    refine Ev.step (fun k => by rw [spec_CountOf.l0]) ?_
    refine ev_pos (by omega) (ev_pos (by omega) (ev_pos (by omega) ?_))
    rw [drop_bytes s i (by omega), wrap_succ i (by omega), wrap_succ acc (by omega)]
    refine ev_if (fun h => ev_val (ih (i + 1) (acc + 1) (by omega) (by omega)) ?_) (fun h => ev_val (ih (i + 1) acc (by omega) (by omega)) ?_)
    · simp only [cntL, List.countP_cons, decide_eq_true h, if_true]
      congr 2; omega
    · simp only [cntL, List.countP_cons, decide_eq_false h]
      simp
theorem cnt_is (s t : ByteArray) (ht : t.size = 1) : Lib.countByte s.data.toList (t.data.toList.headD 0) = cntL (bt t 0) (bytesOf s) := by
  have e := one_byte t ht
  generalize t.data.toList.headD 0 = c at e
  subst e
  unfold Lib.countByte cntL bytesOf
  rw [List.count, List.countP_map]
  refine List.countP_congr fun x _ => ?_
  have hb : bt ⟨#[c]⟩ 0 = (c.toNat : Int) := rfl
  simp only [Function.comp, hb, beq_iff_eq, decide_eq_true_eq]
  constructor
  · rintro rfl; rfl
  · intro h; exact UInt8.toNat_inj.1 (by omega)
def countR (s t : ByteArray) : Int × Bool := if docB (bytesOf s) = true ∧ (decide (t.size = 1) && openB (bt t 0)) = true then ((cntL (bt t 0) (bytesOf s) : Int), true) else (0, false)
theorem spec_CountOf_f (s t : ByteArray) (hs : s.size ≤ 140737488351232) : Ev (fun k => spec_CountOf.f k s t) (countR s t) := by
  unfold spec_CountOf.f countR
  refine Ev.bind (spec_GoodDoc_f s hs) (ev_if (fun h => ?_) (fun h => ?_))
  · refine ev_eq (spec_l1Name_f _) ?_
    refine Ev.step (fun k => by rw [spec_CountOf.j0]) ?_
    refine ev_if (fun h2 => ev_ret ?_) (fun h2 => ?_)
    · rw [if_neg (fun c => by rw [c.2] at h2; cases h2)]
    · have h3 : (decide (t.size = 1) && openB (bt t 0)) = true := by simpa using h2
      rw [if_pos ⟨h, h3⟩]
      simp only [Bool.and_eq_true, decide_eq_true_eq] at h3
      have h300 : s.size ≤ 300 := by
        unfold docB at h; simp only [Bool.and_eq_true] at h
        have := goodB_len h.1; rwa [bytesOf_length] at this
      have := spec_CountOf_l s t h300 h3.1 s.size 0 0 (by omega) (by omega)
      simpa using this
  · refine Ev.step (fun k => by rw [spec_CountOf.j0]) ?_
    refine ev_pos rfl (ev_ret ?_)
    rw [if_neg (fun c => h c.1)]
theorem impl_CountOf_f (s t : ByteArray) (hs : s.size ≤ 140737488351232) : Ev (fun k => impl_CountOf.f k s t) (countR s t) := by
  unfold impl_CountOf.f countR
  refine Ev.bind (impl_GoodDoc_f s hs) (ev_if (fun h => ?_) (fun h => ev_ret (by rw [if_neg (fun c => h c.1)])))
  refine ev_eq (impl_isNameText_f _) (ev_if (fun h2 => ?_) (fun h2 => ev_ret (by rw [if_neg (fun c => h2 c.2)])))
  rw [if_pos ⟨h, h2⟩]
  simp only [Bool.and_eq_true, decide_eq_true_eq] at h2
  refine ev_eq (a := (Lib.countByte s.data.toList (t.data.toList.headD 0) : Int)) (by unfold strings_Count.f; rw [if_pos h2.1]) (ev_ret ?_)
  rw [cnt_is s t h2.1]

theorem FnExactCountOf : laws_FnExactCountOf.Pure := by
  intro s t hs ht
  refine Ev.rounds ?_
  unfold laws_FnExactCountOf.f
  refine ev_if (fun _ => ev_ret rfl) (fun _ => ev_if (fun _ => ev_ret rfl) (fun _ => ?_))
  refine Ev.bind (spec_CountOf_f s t hs) (Ev.bind (impl_CountOf_f s t hs) ?_)
  exact ev_pos rfl (ev_neg (by simp) (ev_ret rfl))

end Go.Proofs.Ytamjfhlbhaaepaa.Pure
