/- FnExactPlaceOf over plain functions: at all texts and paths the program's PlaceOf and the reference's give one answer, and the path stays; no condition. -/
import Derived.Test.YtkdablilbbbihaaPFnExactPlaceOfx6
import Derived.Test.YtkdablilbbbihaaBase
namespace Go.Proofs.Ytkdablilbbbihaa.Pure
open Go.RowKit Go.Proofs.Ytkdablilbbbihaa.PFnExactPlaceOf Go.Proofs.YtkdablilbbbihaaW.PrintWords Go.Proofs.YtkdablilbbbihaaW.PrintLast Go.Proofs.Ytkdablilbbbihaa.Base
set_option linter.unusedVariables false
set_option linter.unusedSimpArgs false

theorem spec_l1Open_f (c : Int) : spec_l1Open.f c = some (openB c) := by
  unfold spec_l1Open.f openB; split <;> simp <;> omega
theorem spec_l1Plain_f (c : Int) : spec_l1Plain.f c = some (plainB c) := by
  unfold spec_l1Plain.f plainB
  repeat' split
  all_goals (rw [Option.some.injEq, Bool.eq_iff_iff]; simp only [Bool.or_eq_true, decide_eq_true_eq, beq_iff_eq, true_iff]; omega)
theorem spec_l1Text_l (s : ByteArray) (hs : s.size ≤ 140737488351232) (d : Nat) : ∀ i : Nat, i + d = s.size → Ev (fun k => spec_l1Text.l0 k s (i : Int)) (textB ((bytesOf s).drop i)) := by
  induction d with
  | zero =>
    intro i hi
    refine Ev.step (fun k => by rw [spec_l1Text.l0]) ?_
    refine ev_neg (by omega) (ev_ret ?_)
    rw [drop_end s i (by omega)]; rfl
  | succ d ih =>
    intro i hi
    refine Ev.step (fun k => by rw [spec_l1Text.l0]) ?_
    refine ev_pos (by omega) (ev_pos (by omega) (ev_eq (spec_l1Open_f _) ?_))
    rw [drop_bytes s i (by omega), wrap_succ i (by omega)]
    have ih' := ih (i + 1) (by omega)
    refine ev_if (fun h => ev_val ih' (by simp [textB, okB, h])) (fun h => ?_)
    refine ev_eq (spec_l1Plain_f _) (ev_if (fun h2 => ev_val ih' (by simp [textB, okB, h2])) (fun h2 => ?_))
    refine ev_if (fun h3 => ev_val ih' (by simp [textB, okB, h3])) (fun h3 => ev_ret ?_)
    simp [textB, okB, h, h2, h3]
theorem spec_l1Text_f (s : ByteArray) (hs : s.size ≤ 140737488351232) : Ev (fun k => spec_l1Text.f k s) (textB (bytesOf s)) :=
  spec_l1Text_l s hs s.size 0 (by omega)
theorem spec_GoodText_f (s : ByteArray) (hs : s.size ≤ 140737488351232) : Ev (fun k => spec_GoodText.f k s) (goodB (bytesOf s)) := by
  unfold spec_GoodText.f goodB
  refine Ev.bind (spec_l1Text_f s hs) (ev_if (fun h => ev_ret ?_) (fun h => ev_ret ?_))
  · rw [h, bytesOf_length, Bool.true_and]; congr 1; simp; omega
  · simp at h; simp [h]
theorem impl_isName_f (c : Int) : impl_isName.f c = some (openB c) := by
  unfold impl_isName.f openB; split <;> simp <;> omega
theorem impl_isPlain_f (c : Int) : impl_isPlain.f c = some (plainB c) := by
  unfold impl_isPlain.f plainB
  repeat' split
  all_goals (rw [Option.some.injEq, Bool.eq_iff_iff]; simp only [Bool.or_eq_true, decide_eq_true_eq, beq_iff_eq, true_iff]; omega)
theorem impl_GoodText_l (s : ByteArray) (hs : s.size ≤ 140737488351232) (d : Nat) : ∀ i : Nat, i + d = s.size → Ev (fun k => impl_GoodText.l0 k s (s.size : Int) (i : Int)) (textB ((bytesOf s).drop i) && decide (s.size ≤ 300)) := by
  induction d with
  | zero =>
    intro i hi
    refine Ev.step (fun k => by rw [impl_GoodText.l0]) ?_
    refine ev_neg (by omega) (ev_ret ?_)
    rw [drop_end s i (by omega)]; simp [textB]; omega
  | succ d ih =>
    intro i hi
    refine Ev.step (fun k => by rw [impl_GoodText.l0]) ?_
    refine ev_pos (by omega) (ev_pos (by omega) (ev_pos (by omega) (ev_eq (impl_isName_f _) ?_)))
    rw [drop_bytes s i (by omega), wrap_succ i (by omega)]
    have ih' := ih (i + 1) (by omega)
    refine ev_if (fun h => ev_val ih' (by simp [textB, okB, h])) (fun h => ?_)
    refine ev_eq (impl_isPlain_f _) (ev_if (fun h2 => ev_val ih' (by simp [textB, okB, h2])) (fun h2 => ?_))
    refine ev_if (fun h3 => ev_val ih' (by simp [textB, okB, h3])) (fun h3 => ev_ret ?_)
    simp [textB, okB, h, h2, h3]
theorem impl_GoodText_f (s : ByteArray) (hs : s.size ≤ 140737488351232) : Ev (fun k => impl_GoodText.f k s) (goodB (bytesOf s)) := by
  unfold impl_GoodText.f
  refine ev_val (impl_GoodText_l s hs s.size 0 (by omega)) ?_
  simp [goodB, bytesOf_length]

/-- How deep it is behind a byte. -/
def stepD (d c : Int) : Int := if openB c = true then d + 1 else if c = 47 then d - 1 else d
def balF : Int → List Int → Bool
  | d, [] => d == 0
  | d, c :: r => if 0 ≤ stepD d c ∧ stepD d c ≤ 12 then balF (stepD d c) r else false
def docB (l : List Int) : Bool := goodB l && balF 0 l
theorem open_not47 {c : Int} (h : openB c = true) : ¬ c = 47 := by
  unfold openB at h; have := of_decide_eq_true h; omega
theorem open_iff (c : Int) : openB c = true ↔ 65 ≤ c ∧ c ≤ 70 := by unfold openB; exact decide_eq_true_iff
theorem spec_l1Balanced_j (s : ByteArray) (hs : s.size ≤ 140737488351232) (i : Nat) (hi : i < s.size) (x : Int) (hx : 0 ≤ x ∧ x ≤ 13) (y : Int) (hy : y = if bt s (i : Int) = 47 then x - 1 else x)
    (ih : 0 ≤ y ∧ y ≤ 12 → Ev (fun k => spec_l1Balanced.l0 k s y ((i + 1 : Nat) : Int)) (balF y ((bytesOf s).drop (i + 1)))) :
    Ev (fun k => spec_l1Balanced.j1 k s x (i : Int)) (if 0 ≤ y ∧ y ≤ 12 then balF y ((bytesOf s).drop (i + 1)) else false) := by
  refine Ev.step (fun k => by rw [spec_l1Balanced.j1]) ?_
  refine ev_pos (by omega) (ev_pos (by omega) ?_)
  have e1 : wrap64 (x - 1) = x - 1 := wrap_id (by omega) (by omega)
  rw [e1, wrap_succ i (by omega)]
  refine ev_if (fun h => ?_) (fun h => ?_)
  · rw [if_pos h] at hy
    subst hy
    refine ev_if (fun h1 => ev_ret ?_) (fun h1 => ev_if (fun h2 => ev_ret ?_) (fun h2 => ?_))
    · rw [if_neg (by omega)]
    · rw [if_neg (by omega)]
    · rw [if_pos (by omega)]; exact ih (by omega)
  · rw [if_neg h] at hy
    subst hy
    refine ev_neg (by omega) (ev_if (fun h2 => ev_ret ?_) (fun h2 => ?_))
    · rw [if_neg (by omega)]
    · rw [if_pos (by omega)]; exact ih (by omega)
theorem spec_l1Balanced_l (s : ByteArray) (hs : s.size ≤ 140737488351232) (d : Nat) : ∀ (i : Nat) (x : Int), i + d = s.size → 0 ≤ x ∧ x ≤ 12 →
    Ev (fun k => spec_l1Balanced.l0 k s x (i : Int)) (balF x ((bytesOf s).drop i)) := by
  induction d with
  | zero =>
    intro i x hi hx
    refine Ev.step (fun k => by rw [spec_l1Balanced.l0]) ?_
    refine ev_neg (by omega) (ev_ret ?_)
    rw [drop_end s i (by omega)]; rfl
  | succ d ih =>
    intro i x hi hx
    refine Ev.step (fun k => by rw [spec_l1Balanced.l0]) ?_
    refine ev_pos (by omega) (ev_pos (by omega) (ev_eq (spec_l1Open_f _) ?_))
    rw [drop_bytes s i (by omega), balF]
    refine ev_if (fun h => ?_) (fun h => ?_)
    · have e1 : wrap64 (x + 1) = x + 1 := wrap_id (by omega) (by omega)
      have es : stepD x (bt s (i : Int)) = x + 1 := by unfold stepD; rw [if_pos h]
      rw [e1, es]
      exact spec_l1Balanced_j s hs i (by omega) (x + 1) (by omega) (x + 1) (by rw [if_neg (open_not47 h)]) (fun hy => ih (i + 1) _ (by omega) hy)
    · have es : stepD x (bt s (i : Int)) = if bt s (i : Int) = 47 then x - 1 else x := by unfold stepD; rw [if_neg h]
      rw [es]
      exact spec_l1Balanced_j s hs i (by omega) x (by omega) _ rfl (fun hy => ih (i + 1) _ (by omega) hy)
theorem spec_l1Balanced_f (s : ByteArray) (hs : s.size ≤ 140737488351232) : Ev (fun k => spec_l1Balanced.f k s) (balF 0 (bytesOf s)) :=
  spec_l1Balanced_l s hs s.size 0 0 (by omega) (by omega)
theorem spec_GoodDoc_f (s : ByteArray) (hs : s.size ≤ 140737488351232) : Ev (fun k => spec_GoodDoc.f k s) (docB (bytesOf s)) := by
  unfold spec_GoodDoc.f docB
  refine Ev.bind (spec_GoodText_f s hs) (ev_if (fun h => ?_) (fun h => ev_ret ?_))
  · rw [h, Bool.true_and]
    exact Ev.bind (spec_l1Balanced_f s hs) (ev_ret rfl)
  · simp only [Bool.not_eq_true] at h; rw [h]; rfl
/-- The program's stack of places is as high as it is deep. -/
theorem run_bal : ∀ (l : List Int) (i : Int) (o : List Int) (m : List (Int × Int)), o.length ≤ 12 →
    (impl_matches.end_ (impl_matches.run i l o m)).1 = balF (o.length : Int) l
  | [], i, o, m, _ => by
    show decide (o.length = 0) = ((o.length : Int) == 0)
    by_cases h : o.length = 0
    · simp [h]
    · rw [decide_eq_false h]; symm; exact beq_eq_false_iff_ne.mpr (by omega)
  | c :: r, i, o, m, ho => by
    rw [impl_matches.run, balF]
    by_cases h : 65 ≤ c ∧ c ≤ 70
    · have es : stepD (o.length : Int) c = (o.length : Int) + 1 := by unfold stepD; rw [if_pos ((open_iff c).2 h)]
      rw [if_pos h, es]
      have e2 : (o ++ [i]).length = o.length + 1 := by simp
      by_cases h2 : (o ++ [i]).length > 12
      · rw [if_pos h2, if_neg (by omega)]; rfl
      · rw [if_neg h2, if_pos (by omega), run_bal r (i + 1) (o ++ [i]) m (by omega), e2]; rfl
    · rw [if_neg h]
      have hno : ¬ openB c = true := fun e => h ((open_iff c).1 e)
      by_cases h2 : c = 47
      · have es : stepD (o.length : Int) c = (o.length : Int) - 1 := by unfold stepD; rw [if_neg hno, if_pos h2]
        rw [if_pos h2, es]
        by_cases h3 : o.length = 0
        · rw [if_pos h3, if_neg (by omega)]; rfl
        · have e2 : ((o.take (o.length - 1)).length : Int) = (o.length : Int) - 1 := by rw [List.length_take]; omega
          rw [if_neg h3, if_pos (by omega), run_bal r _ _ _ (by rw [List.length_take]; omega), e2]
      · have es : stepD (o.length : Int) c = (o.length : Int) := by unfold stepD; rw [if_neg hno, if_neg h2]
        rw [if_neg h2, es, if_pos (by omega)]
        exact run_bal r (i + 1) o m ho
theorem goodB_len {l : List Int} (h : goodB l = true) : l.length ≤ 300 := by
  unfold goodB at h; simp only [Bool.and_eq_true, decide_eq_true_eq] at h; exact h.2
def matchR (l : List Int) : Bool × List (Int × Int) := if goodB l = true then impl_matches.end_ (impl_matches.run 0 l [] []) else (false, [])
theorem impl_matches_f (s : ByteArray) (hs : s.size ≤ 140737488351232) : Ev (fun k => impl_matches.f k s) (matchR (bytesOf s)) := by
  unfold impl_matches.f matchR
  refine Ev.bind (impl_GoodText_f s hs) (ev_if (fun h => ?_) (fun h => ev_ret (by rw [if_neg h])))
  have := goodB_len h
  rw [bytesOf_length] at this
  rw [if_pos h]
  exact ev_pos this (ev_ret rfl)
theorem matchR_doc (l : List Int) : (matchR l).1 = docB l := by
  unfold matchR docB
  by_cases h : goodB l = true
  · rw [if_pos h, h, run_bal _ _ _ _ (by simp)]; rfl
  · rw [if_neg h]; simp only [Bool.not_eq_true] at h; rw [h]; rfl

/-- How deep it is behind j bytes. -/
def D (l : List Int) (j : Nat) : Int := (l.take j).foldl stepD 0
theorem D_zero (l : List Int) : D l 0 = 0 := by simp [D]
theorem D_succ (l : List Int) (j : Nat) (h : j < l.length) : D l (j + 1) = stepD (D l j) (gt 0 l j) := by
  unfold D; rw [gt_take 0 l j h, List.foldl_append]; rfl
theorem bt_gt (s : ByteArray) (i : Nat) : bt s (i : Int) = gt 0 (bytesOf s) i := by rw [← rd_bytesOf]; rfl
theorem step_open {d c : Int} (h : openB c = true) : stepD d c = d + 1 := by unfold stepD; rw [if_pos h]
theorem step_shut {d c : Int} (h : c = 47) : stepD d c = d - 1 := by
  unfold stepD; rw [if_neg (fun e => open_not47 e h), if_pos h]
theorem step_plain {d c : Int} (h : ¬ openB c = true) (h2 : ¬ c = 47) : stepD d c = d := by unfold stepD; rw [if_neg h, if_neg h2]
/-- An element begins at p and ends at q. -/
def Mt (l : List Int) (p q : Nat) : Prop := p < q ∧ q < l.length ∧ openB (gt 0 l p) = true ∧ gt 0 l q = 47 ∧ D l (q + 1) = D l p ∧ ∀ x, p < x → x ≤ q → D l p < D l x
structure Inv (l : List Int) (i : Nat) (o : List Int) (m : List (Int × Int)) : Prop where
  deep : (o.length : Int) = D l i
  stack : ∀ j, j < o.length → ∃ pn : Nat, gt 0 o j = (pn : Int) ∧ pn < i ∧ openB (gt 0 l pn) = true ∧ D l pn = (j : Int) ∧ ∀ x, pn < x → x ≤ i → (j : Int) < D l x
  pairs : ∀ a b : Int, m.lookup a = some b → ∃ an bn : Nat, a = (an : Int) ∧ b = (bn : Int) ∧ (Mt l an bn ∨ Mt l bn an)
  opens : ∀ an, an < i → openB (gt 0 l an) = true → (∃ j, j < o.length ∧ gt 0 o j = (an : Int)) ∨ (m.lookup (an : Int)).isSome = true
  shuts : ∀ an, an < i → gt 0 l an = 47 → (m.lookup (an : Int)).isSome = true
theorem inv_start (l : List Int) : Inv l 0 [] [] :=
  ⟨by simp [D_zero], fun j h => by simp at h, fun a b h => by simp at h, fun an h => by omega, fun an h => by omega⟩
theorem lookup_cons_some (a x v : Int) (m : List (Int × Int)) (h : (m.lookup a).isSome = true) : (((x, v) :: m).lookup a).isSome = true := by
  rw [List.lookup_cons]; cases a == x <;> simp [h]
theorem gt_app_l {α : Type} (z : α) (a b : List α) (j : Nat) (h : j < a.length) : gt z (a ++ b) j = gt z a j := by
  unfold gt; rw [List.getD_eq_getElem?_getD, List.getElem?_append_left h, ← List.getD_eq_getElem?_getD]
theorem gt_app_e {α : Type} (z v : α) (a : List α) : gt z (a ++ [v]) a.length = v := by
  unfold gt; rw [List.getD_eq_getElem?_getD, List.getElem?_append_right (Nat.le_refl _)]; simp
theorem gt_takeL {α : Type} (z : α) (a : List α) (n j : Nat) (h : j < n) : gt z (a.take n) j = gt z a j := by
  unfold gt; rw [List.getD_eq_getElem?_getD, List.getElem?_take_of_lt h, ← List.getD_eq_getElem?_getD]
theorem run_inv (l : List Int) (d : Nat) : ∀ (i : Nat) (o : List Int) (m : List (Int × Int)), i + d = l.length → Inv l i o m → ∀ o' m', impl_matches.run (i : Int) (l.drop i) o m = some (o', m') → Inv l l.length o' m' := by
  induction d with
  | zero =>
    intro i o m hi hv o' m' h
    rw [List.drop_eq_nil_of_le (by omega)] at h
    have h' : some (o, m) = some (o', m') := h
    obtain ⟨rfl, rfl⟩ := Prod.mk.inj (Option.some.inj h')
    have : i = l.length := by omega
    subst this; exact hv
  | succ d ih =>
    intro i o m hi hv o' m' h
    have hD := D_succ l i (by omega)
    have hdeep := hv.deep
    rw [gt_drop 0 l i (by omega), impl_matches.run] at h
    have ei : (i : Int) + 1 = ((i + 1 : Nat) : Int) := by omega
    rw [ei] at h
    by_cases h1 : 65 ≤ gt 0 l i ∧ gt 0 l i ≤ 70
    · rw [if_pos h1] at h
      have ho := (open_iff _).2 h1
      rw [step_open ho] at hD
      by_cases h2 : (o ++ [(i : Int)]).length > 12
      · rw [if_pos h2] at h; cases h
      · rw [if_neg h2] at h
        refine ih (i + 1) _ _ (by omega) ⟨by rw [hD, List.length_append, List.length_singleton]; omega, fun j hj => ?_, hv.pairs, fun an ha hoa => ?_, fun an ha h47 => ?_⟩ o' m' h
        · by_cases hj2 : j < o.length
          · obtain ⟨pn, e1, e2, e3, e4, e5⟩ := hv.stack j hj2
            refine ⟨pn, by rw [gt_app_l _ _ _ _ hj2]; exact e1, by omega, e3, e4, fun x hx hx2 => ?_⟩
            by_cases hx3 : x ≤ i
            · exact e5 x hx hx3
            · have : x = i + 1 := by omega
              subst this; rw [hD]; omega
          · have hj3 : j = o.length := by rw [List.length_append, List.length_singleton] at hj; omega
            subst hj3
            refine ⟨i, gt_app_e _ _ _, by omega, ho, by omega, fun x hx hx2 => ?_⟩
            have : x = i + 1 := by omega
            subst this; rw [hD]; omega
        · by_cases ha2 : an < i
          · rcases hv.opens an ha2 hoa with ⟨j, hj, hj2⟩ | hl
            · exact .inl ⟨j, by rw [List.length_append]; omega, by rw [gt_app_l _ _ _ _ hj]; exact hj2⟩
            · exact .inr hl
          · have : an = i := by omega
            subst this
            exact .inl ⟨o.length, by rw [List.length_append, List.length_singleton]; omega, gt_app_e _ _ _⟩
        · by_cases ha2 : an < i
          · exact hv.shuts an ha2 h47
          · have : an = i := by omega
            subst this; exact absurd h47 (open_not47 ho)
    · rw [if_neg h1] at h
      have hno : ¬ openB (gt 0 l i) = true := fun e => h1 ((open_iff _).1 e)
      by_cases h2 : gt 0 l i = 47
      · rw [if_pos h2] at h
        rw [step_shut h2] at hD
        by_cases h3 : o.length = 0
        · rw [if_pos h3] at h; cases h
        · rw [if_neg h3] at h
          obtain ⟨pn, e1, e2, e3, e4, e5⟩ := hv.stack (o.length - 1) (by omega)
          have er : rd o ((o.length : Int) - 1) = (pn : Int) := by
            have : (o.length : Int) - 1 = ((o.length - 1 : Nat) : Int) := by omega
            rw [this]; exact e1
          rw [er] at h
          have hmt : Mt l pn i := ⟨e2, by omega, e3, h2, by omega, fun x hx hx2 => by have := e5 x hx hx2; omega⟩
          refine ih (i + 1) _ _ (by omega) ⟨by rw [hD, List.length_take]; omega, fun j hj => ?_, fun a b hab => ?_, fun an ha hoa => ?_, fun an ha h47 => ?_⟩ o' m' h
          · have hj2 : j < o.length - 1 := by rw [List.length_take] at hj; omega
            obtain ⟨qn, f1, f2, f3, f4, f5⟩ := hv.stack j (by omega)
            refine ⟨qn, by rw [gt_takeL _ _ _ _ hj2]; exact f1, by omega, f3, f4, fun x hx hx2 => ?_⟩
            by_cases hx3 : x ≤ i
            · exact f5 x hx hx3
            · have : x = i + 1 := by omega
              subst this; rw [hD]; omega
          · rw [List.lookup_cons] at hab
            by_cases ha : a = (pn : Int)
            · subst ha
              rw [beq_self_eq_true] at hab
              have hb : (i : Int) = b := Option.some.inj hab
              exact ⟨pn, i, rfl, hb.symm, .inl hmt⟩
            · rw [beq_eq_false_iff_ne.mpr ha] at hab
              simp only [List.lookup_cons] at hab
              by_cases ha2 : a = (i : Int)
              · subst ha2
                rw [beq_self_eq_true] at hab
                have hb : (pn : Int) = b := Option.some.inj hab
                exact ⟨i, pn, rfl, hb.symm, .inr hmt⟩
              · rw [beq_eq_false_iff_ne.mpr ha2] at hab
                exact hv.pairs a b hab
          · by_cases ha2 : an < i
            · rcases hv.opens an ha2 hoa with ⟨j, hj, hj2⟩ | hl
              · by_cases hj3 : j < o.length - 1
                · exact .inl ⟨j, by rw [List.length_take]; omega, by rw [gt_takeL _ _ _ _ hj3]; exact hj2⟩
                · have : j = o.length - 1 := by omega
                  subst this
                  right
                  rw [← hj2, e1, List.lookup_cons_self]; rfl
              · exact .inr (lookup_cons_some _ _ _ _ (lookup_cons_some _ _ _ _ hl))
            · have : an = i := by omega
              subst this; exact absurd h2 (open_not47 hoa)
          · by_cases ha2 : an < i
            · exact lookup_cons_some _ _ _ _ (lookup_cons_some _ _ _ _ (hv.shuts an ha2 h47))
            · have : an = i := by omega
              subst this
              exact lookup_cons_some _ _ _ _ (by rw [List.lookup_cons_self]; rfl)
      · rw [if_neg h2] at h
        rw [step_plain hno h2] at hD
        refine ih (i + 1) _ _ (by omega) ⟨by omega, fun j hj => ?_, hv.pairs, fun an ha hoa => ?_, fun an ha h47 => ?_⟩ o' m' h
        · obtain ⟨pn, e1, e2, e3, e4, e5⟩ := hv.stack j hj
          refine ⟨pn, e1, by omega, e3, e4, fun x hx hx2 => ?_⟩
          by_cases hx3 : x ≤ i
          · exact e5 x hx hx3
          · have : x = i + 1 := by omega
            subst this; rw [hD]; omega
        · by_cases ha2 : an < i
          · exact hv.opens an ha2 hoa
          · have : an = i := by omega
            subst this; exact absurd hoa hno
        · by_cases ha2 : an < i
          · exact hv.shuts an ha2 h47
          · have : an = i := by omega
            subst this; exact absurd h47 h2
/-- What the program's pairs tell of a document. -/
theorem matchR_pairs {l : List Int} (h : docB l = true) : ∃ m, matchR l = (true, m) ∧
    (∀ a b : Int, m.lookup a = some b → ∃ an bn : Nat, a = (an : Int) ∧ b = (bn : Int) ∧ (Mt l an bn ∨ Mt l bn an)) ∧
    (∀ an, an < l.length → (openB (gt 0 l an) = true ∨ gt 0 l an = 47) → (m.lookup (an : Int)).isSome = true) := by
  have hd := matchR_doc l
  rw [h] at hd
  have hg : goodB l = true := by unfold docB at h; simp only [Bool.and_eq_true] at h; exact h.1
  unfold matchR at hd ⊢
  rw [if_pos hg] at hd ⊢
  cases hr : impl_matches.run 0 l [] [] with
  | none => rw [hr] at hd; cases hd
  | some x =>
    obtain ⟨o, m⟩ := x
    rw [hr] at hd
    have ho : o.length = 0 := of_decide_eq_true hd
    have hv := run_inv l l.length 0 [] [] (by omega) (inv_start l) o m (by rw [List.drop_zero]; exact hr)
    refine ⟨m, ?_, hv.pairs, fun an ha hx => ?_⟩
    · show (decide (o.length = 0), m) = (true, m)
      rw [decide_eq_true ho]
    · rcases hx with hx | hx
      · rcases hv.opens an ha hx with ⟨j, hj, _⟩ | hl
        · omega
        · exact hl
      · exact hv.shuts an ha hx
theorem Mt_fun {l : List Int} {p q q' : Nat} (h : Mt l p q) (h' : Mt l p q') : q = q' := by
  rcases Nat.lt_trichotomy q q' with c | c | c
  · have := h'.2.2.2.2.2 (q + 1) (by have := h.1; omega) (by omega)
    have := h.2.2.2.2.1; omega
  · exact c
  · have := h.2.2.2.2.2 (q' + 1) (by have := h'.1; omega) (by omega)
    have := h'.2.2.2.2.1; omega
theorem D_bound (l : List Int) : ∀ j, j ≤ l.length → -(j : Int) ≤ D l j ∧ D l j ≤ (j : Int)
  | 0, _ => by rw [D_zero]; omega
  | j + 1, h => by
    have ih := D_bound l j (by omega)
    rw [D_succ l j (by omega)]
    unfold stepD; split
    · omega
    · split <;> omega
theorem doc_len {s : ByteArray} (h : docB (bytesOf s) = true) : s.size ≤ 300 := by
  unfold docB at h; simp only [Bool.and_eq_true] at h
  have := goodB_len h.1
  rwa [bytesOf_length] at this
theorem good_byte {l : List Int} (h : goodB l = true) (i : Nat) (hi : i < l.length) : openB (gt 0 l i) = true ∨ plainB (gt 0 l i) = true ∨ gt 0 l i = 47 := by
  unfold goodB textB at h
  simp only [Bool.and_eq_true, List.all_eq_true] at h
  have := h.1 _ (gt_mem 0 l i hi)
  unfold okB at this
  simp only [Bool.or_eq_true, decide_eq_true_eq] at this
  rcases this with (h | h) | h
  · exact .inl h
  · exact .inr (.inl h)
  · exact .inr (.inr h)
theorem plain_not {c : Int} (h : plainB c = true) : ¬ openB c = true ∧ ¬ c = 47 := by
  unfold plainB at h
  simp only [Bool.or_eq_true, decide_eq_true_eq] at h
  constructor
  · rw [open_iff]; omega
  · omega

theorem impl_GoodDoc_f (s : ByteArray) (hs : s.size ≤ 140737488351232) : Ev (fun k => impl_GoodDoc.f k s) (docB (bytesOf s)) := by
  unfold impl_GoodDoc.f
  rw [← matchR_doc]
  exact Ev.bind (impl_matches_f s hs) (ev_ret rfl)

theorem balF_nonneg : ∀ (l : List Int) (d : Int), 0 ≤ d → balF d l = true → ∀ j, j ≤ l.length → 0 ≤ (l.take j).foldl stepD d
  | [], d, h0, _, j, _ => by simpa using h0
  | c :: r, d, h0, h, j, hj => by
    rw [balF] at h
    by_cases hc : 0 ≤ stepD d c ∧ stepD d c ≤ 12
    · rw [if_pos hc] at h
      cases j with
      | zero => simpa using h0
      | succ j =>
        rw [List.take_succ_cons, List.foldl_cons]
        exact balF_nonneg r _ hc.1 h j (by simpa using hj)
    · rw [if_neg hc] at h; cases h
theorem D_nonneg {l : List Int} (h : docB l = true) (j : Nat) (hj : j ≤ l.length) : 0 ≤ D l j := by
  unfold docB at h; simp only [Bool.and_eq_true] at h
  exact balF_nonneg l 0 (Int.le_refl _) h.2 j hj

theorem bytesOf_extract (s : ByteArray) (a b : Nat) : bytesOf (s.extract a b) = ((bytesOf s).take b).drop a := by
  unfold bytesOf
  rw [ByteArray.data_extract, Array.toList_extract]
  simp only [List.extract_eq_take_drop, List.map_take, List.map_drop, List.drop_take]
theorem size_extract (s : ByteArray) (a b : Nat) (hb : b ≤ s.size) : (s.extract a b).size = b - a := by
  rw [ByteArray.size_extract]; omega

/-- An element that begins ends. -/
theorem open_mt {l : List Int} (h : docB l = true) (i : Nat) (hi : i < l.length) (ho : openB (gt 0 l i) = true) : ∃ q, Mt l i q := by
  obtain ⟨m, _, h1, h2⟩ := matchR_pairs h
  have hs := h2 i hi (.inl ho)
  obtain ⟨b, hb⟩ := Option.isSome_iff_exists.1 hs
  obtain ⟨an, bn, e1, _, e3⟩ := h1 _ _ hb
  have : i = an := by omega
  subst this
  rcases e3 with e3 | e3
  · exact ⟨bn, e3⟩
  · exact absurd e3.2.2.2.1 (open_not47 ho)
/-- A text that is what stands from b to e. -/
structure Sub (l : List Int) (u : ByteArray) (b e : Nat) : Prop where
  size : u.size = e - b
  le : b ≤ e
  len : e ≤ l.length
  at_ : ∀ x, x < e - b → gt 0 (bytesOf u) x = gt 0 l (b + x)
theorem Sub.whole (s : ByteArray) : Sub (bytesOf s) s 0 s.size := ⟨rfl, Nat.zero_le _, by rw [bytesOf_length]; exact Nat.le_refl _, fun x _ => by rw [Nat.zero_add]⟩
theorem gt_extract (s : ByteArray) (a b x : Nat) (h : x < b - a) : gt 0 (bytesOf (s.extract a b)) x = gt 0 (bytesOf s) (a + x) := by
  rw [bytesOf_extract]; unfold gt
  rw [List.getD_eq_getElem?_getD, List.getD_eq_getElem?_getD, List.getElem?_drop, List.getElem?_take_of_lt (by omega)]
theorem Sub.sub {l : List Int} {u : ByteArray} {b e : Nat} (h : Sub l u b e) (x y : Nat) (hx : b ≤ x) (hxy : x ≤ y) (hy : y ≤ e) : Sub l (u.extract (x - b) (y - b)) x y := by
  have := h.size; have := h.le; have := h.len
  refine ⟨by rw [size_extract _ _ _ (by omega)]; omega, hxy, by omega, fun z hz => ?_⟩
  rw [gt_extract _ _ _ _ (by omega), h.at_ _ (by omega)]
  congr 1; omega
theorem Sub.deep {l : List Int} {u : ByteArray} {b e : Nat} (h : Sub l u b e) : ∀ x, x ≤ e - b → D (bytesOf u) x = D l (b + x) - D l b
  | 0, _ => by rw [D_zero, Nat.add_zero, Int.sub_self]
  | x + 1, hx => by
    have h1 := h.size; have h2 := h.le; have h3 := h.len
    have ih := h.deep x (by omega)
    rw [D_succ _ _ (by rw [bytesOf_length]; omega), ih, h.at_ x (by omega), show b + (x + 1) = (b + x) + 1 by omega, D_succ l _ (by omega)]
    unfold stepD; split
    · omega
    · split <;> omega
theorem Sub.mt {l : List Int} {u : ByteArray} {b e p q : Nat} (h : Sub l u b e) (hm : Mt l p q) (hp : b ≤ p) (hq : q < e) : Mt (bytesOf u) (p - b) (q - b) := by
  have h1 := h.size; have h2 := h.le; have h3 := h.len
  obtain ⟨m1, m2, m3, m4, m5, m6⟩ := hm
  refine ⟨by omega, by rw [bytesOf_length]; omega, ?_, ?_, ?_, fun x hx hx2 => ?_⟩
  · rw [h.at_ _ (by omega), show b + (p - b) = p by omega]; exact m3
  · rw [h.at_ _ (by omega), show b + (q - b) = q by omega]; exact m4
  · rw [h.deep _ (by omega), h.deep _ (by omega), show b + (q - b + 1) = q + 1 by omega, show b + (p - b) = p by omega]; omega
  · rw [h.deep _ (by omega), h.deep _ (by omega), show b + (p - b) = p by omega]
    have := m6 (b + x) (by omega) (by omega); omega
theorem bytes_inj {a b : ByteArray} (h : bytesOf a = bytesOf b) : a = b := by
  unfold bytesOf at h
  apply ByteArray.ext
  apply Array.toList_inj.1
  refine (List.map_inj_right ?_).1 h
  intro x y hxy
  exact UInt8.toNat_inj.1 (by omega)
theorem gt_get (l : List Int) (z : Nat) (h : z < l.length) : l[z] = gt 0 l z := by
  unfold gt; rw [List.getD_eq_getElem?_getD, List.getElem?_eq_getElem h]; rfl
theorem Sub.cut {s u : ByteArray} {b e : Nat} (h : Sub (bytesOf s) u b e) (x y : Nat) (hx : b ≤ x) (hxy : x ≤ y) (hy : y ≤ e) : u.extract (x - b) (y - b) = s.extract x y := by
  have h1 := h.size; have h2 := h.le; have h3 := h.len
  rw [bytesOf_length] at h3
  apply bytes_inj
  have l1 : (bytesOf (u.extract (x - b) (y - b))).length = y - x := by rw [bytesOf_length, size_extract _ _ _ (by omega)]; omega
  have l2 : (bytesOf (s.extract x y)).length = y - x := by rw [bytesOf_length, size_extract _ _ _ (by omega)]
  refine List.ext_getElem (by omega) (fun z z1 z2 => ?_)
  rw [gt_get _ _ z1, gt_get _ _ z2, gt_extract _ _ _ _ (by omega), gt_extract _ _ _ _ (by omega), h.at_ _ (by omega)]
  congr 1; omega
/-- Elements nest. -/
theorem mt_nest {l : List Int} {p q i q' : Nat} (hm : Mt l p q) (hm' : Mt l i q') (h1 : p < i) (h2 : i < q) : q' < q := by
  have hx := hm.2.2.2.2.2 i h1 (by omega)
  have hq' := hm'.2.2.2.2.1
  have hDq := hm.2.2.2.2.1
  have hl := hm'.1
  apply Nat.lt_of_not_le
  intro hc
  have := hm'.2.2.2.2.2 q h2 hc
  by_cases hqq : q' = q
  · subst hqq; omega
  · have := hm'.2.2.2.2.2 (q + 1) (by omega) (by omega)
    omega
theorem Mt_len' {s : ByteArray} {p q : Nat} (h : Mt (bytesOf s) p q) : p < q ∧ q < s.size := by
  have := h.2.1; rw [bytesOf_length] at this; exact ⟨h.1, this⟩

/-- The elements around a place, from without to within. -/
structure St (l : List Int) (i : Nat) (o : List Int) : Prop where
  deep : (o.length : Int) = D l i
  stack : ∀ j, j < o.length → ∃ pn : Nat, gt 0 o j = (pn : Int) ∧ pn < i ∧ openB (gt 0 l pn) = true ∧ D l pn = (j : Int) ∧ ∀ x, pn < x → x ≤ i → (j : Int) < D l x
theorem St.zero (l : List Int) : St l 0 [] := ⟨by simp [D_zero], fun j h => by simp at h⟩
theorem St.open_ {l : List Int} {i : Nat} {o : List Int} (hv : St l i o) (hi : i < l.length) (ho : openB (gt 0 l i) = true) : St l (i + 1) (o ++ [(i : Int)]) := by
  have hD := D_succ l i hi
  have hdeep := hv.deep
  rw [step_open ho] at hD
  refine ⟨by rw [hD, List.length_append, List.length_singleton]; omega, fun j hj => ?_⟩
  by_cases hj2 : j < o.length
  · obtain ⟨pn, e1, e2, e3, e4, e5⟩ := hv.stack j hj2
    refine ⟨pn, by rw [gt_app_l _ _ _ _ hj2]; exact e1, by omega, e3, e4, fun x hx hx2 => ?_⟩
    by_cases hx3 : x ≤ i
    · exact e5 x hx hx3
    · have : x = i + 1 := by omega
      subst this; rw [hD]; omega
  · have hj3 : j = o.length := by rw [List.length_append, List.length_singleton] at hj; omega
    subst hj3
    refine ⟨i, gt_app_e _ _ _, by omega, ho, by omega, fun x hx hx2 => ?_⟩
    have : x = i + 1 := by omega
    subst this; rw [hD]; omega
theorem St.shut {l : List Int} {i : Nat} {o : List Int} (hv : St l i o) (hi : i < l.length) (h2 : gt 0 l i = 47) (hn : 0 ≤ D l (i + 1)) : St l (i + 1) (o.take (o.length - 1)) := by
  have hD := D_succ l i hi
  have hdeep := hv.deep
  rw [step_shut h2] at hD
  refine ⟨by rw [hD, List.length_take]; omega, fun j hj => ?_⟩
  have hj2 : j < o.length - 1 := by rw [List.length_take] at hj; omega
  obtain ⟨qn, f1, f2, f3, f4, f5⟩ := hv.stack j (by omega)
  refine ⟨qn, by rw [gt_takeL _ _ _ _ hj2]; exact f1, by omega, f3, f4, fun x hx hx2 => ?_⟩
  by_cases hx3 : x ≤ i
  · exact f5 x hx hx3
  · have : x = i + 1 := by omega
    subst this; rw [hD]; omega
theorem St.plain {l : List Int} {i : Nat} {o : List Int} (hv : St l i o) (hi : i < l.length) (h1 : ¬ openB (gt 0 l i) = true) (h2 : ¬ gt 0 l i = 47) : St l (i + 1) o := by
  have hD := D_succ l i hi
  have hdeep := hv.deep
  rw [step_plain h1 h2] at hD
  refine ⟨by omega, fun j hj => ?_⟩
  obtain ⟨pn, e1, e2, e3, e4, e5⟩ := hv.stack j hj
  refine ⟨pn, e1, by omega, e3, e4, fun x hx hx2 => ?_⟩
  by_cases hx3 : x ≤ i
  · exact e5 x hx hx3
  · have : x = i + 1 := by omega
    subst this; rw [hD]; omega
theorem impl_around_st (s : ByteArray) (hs : s.size ≤ 300) (hn : ∀ j, j ≤ s.size → 0 ≤ D (bytesOf s) j) (a : Nat) (ha : a ≤ s.size) (d : Nat) : ∀ (i : Nat) (o : List Int), i + d = a → St (bytesOf s) i o →
    ∃ r : List Int, Ev (fun k => impl_around.l0 k s o (a : Int) (i : Int)) r ∧ St (bytesOf s) a r := by
  have hlen := bytesOf_length s
  induction d with
  | zero =>
    intro i o hi ho
    have : i = a := by omega
    subst this
    exact ⟨o, by refine Ev.step (fun k => by rw [impl_around.l0]) ?_; exact ev_neg (by omega) (ev_ret rfl), ho⟩
  | succ d ih =>
    intro i o hi ho
    have b1 := D_bound (bytesOf s) i (by omega)
    have hdp := ho.deep
    have hn1 := hn (i + 1) (by omega)
    by_cases h : openB (bt s (i : Int)) = true
    · have h' := h
      rw [bt_gt] at h'
      obtain ⟨r, hr, hr2⟩ := ih (i + 1) (o ++ [(i : Int)]) (by omega) (ho.open_ (by omega) h')
      refine ⟨r, ?_, hr2⟩
      refine Ev.step (fun k => by rw [impl_around.l0]) ?_
      refine ev_pos (by omega) (ev_pos (by omega) (ev_pos (by omega) (ev_eq (impl_isName_f _) (ev_pos h (ev_pos (by omega) ?_)))))
      rw [wrap_succ i (by omega)]; exact hr
    · have h' := h
      rw [bt_gt] at h'
      by_cases h2 : gt 0 (bytesOf s) i = 47
      · have hD := D_succ (bytesOf s) i (by omega)
        rw [step_shut h2] at hD
        have e : wrap64 ((o.length : Int) - 1) = ((o.length - 1 : Nat) : Int) := by unfold wrap64; omega
        obtain ⟨r, hr, hr2⟩ := ih (i + 1) (o.take (o.length - 1)) (by omega) (ho.shut (by omega) h2 hn1)
        refine ⟨r, ?_, hr2⟩
        refine Ev.step (fun k => by rw [impl_around.l0]) ?_
        rw [e, Int.toNat_natCast]
        refine ev_pos (by omega) (ev_pos (by omega) (ev_pos (by omega) (ev_eq (impl_isName_f _) (ev_neg h (ev_pos (by rw [bt_gt]; exact h2) (ev_pos (by omega) (ev_pos (by omega) ?_)))))))
        rw [wrap_succ i (by omega)]; exact hr
      · obtain ⟨r, hr, hr2⟩ := ih (i + 1) o (by omega) (ho.plain (by omega) h' h2)
        refine ⟨r, ?_, hr2⟩
        refine Ev.step (fun k => by rw [impl_around.l0]) ?_
        refine ev_pos (by omega) (ev_pos (by omega) (ev_pos (by omega) (ev_eq (impl_isName_f _) (ev_neg h (ev_neg (by rw [bt_gt]; exact h2) ?_)))))
        rw [wrap_succ i (by omega)]; exact hr
theorem impl_around_f (s : ByteArray) (h : docB (bytesOf s) = true) (a : Nat) (ha : a ≤ s.size) : ∃ r : List Int, Ev (fun k => impl_around.f k s (a : Int)) r ∧ St (bytesOf s) a r :=
  impl_around_st s (doc_len h) (fun j hj => D_nonneg h j (by rw [bytesOf_length]; exact hj)) a ha a 0 [] (by omega) (St.zero _)

theorem spec_l1Match_j3 (s : ByteArray) (hs : s.size ≤ 300) (i : Nat) (hi : i < s.size) (st x y : Int) (hst : st = 1 ∨ st = -1) (hx : -1000 ≤ x ∧ x ≤ 1000) (hy : y = if bt s (i : Int) = 47 then x - st else x) {r : Int}
    (h : if y = 0 then r = (i : Int) else Ev (fun k => spec_l1Match.l0 k s st y ((i : Int) + st)) r) : Ev (fun k => spec_l1Match.j3 k s st x (i : Int)) r := by
  refine Ev.step (fun k => by rw [spec_l1Match.j3]) ?_
  refine ev_pos (by omega) (ev_pos (by omega) ?_)
  have e1 : wrap64 (x - st) = x - st := wrap_id (by omega) (by omega)
  have e2 : wrap64 ((i : Int) + st) = (i : Int) + st := wrap_id (by omega) (by omega)
  rw [e1, e2]
  refine ev_if (fun h1 => ?_) (fun h1 => ?_)
  · rw [if_pos h1] at hy
    subst hy
    refine ev_if (fun h2 => ev_ret ?_) (fun h2 => ?_)
    · rw [if_pos h2] at h; exact h.symm
    · rw [if_neg h2] at h; exact h
  · rw [if_neg h1] at hy
    subst hy
    refine ev_if (fun h2 => ev_ret ?_) (fun h2 => ?_)
    · rw [if_pos h2] at h; exact h.symm
    · rw [if_neg h2] at h; exact h
theorem spec_l1Match_l0 (s : ByteArray) (hs : s.size ≤ 300) (i : Nat) (hi : i < s.size) (st x y : Int) (hst : st = 1 ∨ st = -1) (hx : -999 ≤ x ∧ x ≤ 999) (hy : y = if openB (bt s (i : Int)) = true then x + st else if bt s (i : Int) = 47 then x - st else x) {r : Int}
    (h : if y = 0 then r = (i : Int) else Ev (fun k => spec_l1Match.l0 k s st y ((i : Int) + st)) r) : Ev (fun k => spec_l1Match.l0 k s st x (i : Int)) r := by
  refine Ev.step (fun k => by rw [spec_l1Match.l0]) ?_
  refine ev_pos (by omega) ?_
  rw [decide_eq_true (show (i : Int) < (s.size : Int) by omega)]
  refine Ev.step (fun k => by rw [spec_l1Match.j2]) ?_
  refine ev_pos rfl (ev_pos (by omega) (ev_pos (by omega) (ev_eq (spec_l1Open_f _) ?_)))
  refine ev_if (fun h1 => ?_) (fun h1 => ?_)
  · have e1 : wrap64 (x + st) = x + st := wrap_id (by omega) (by omega)
    rw [e1]
    rw [if_pos h1] at hy
    exact spec_l1Match_j3 s hs i hi st (x + st) y hst (by omega) (by rw [if_neg (open_not47 h1)]; exact hy) h
  · rw [if_neg h1] at hy
    exact spec_l1Match_j3 s hs i hi st x y hst (by omega) hy h
theorem match_fwd (s : ByteArray) (hs : s.size ≤ 300) (p q : Nat) (h : Mt (bytesOf s) p q) (d : Nat) : ∀ i, i + d = q → p ≤ i →
    Ev (fun k => spec_l1Match.l0 k s 1 (D (bytesOf s) i - D (bytesOf s) p) (i : Int)) (q : Int) := by
  obtain ⟨h1, h2, h3, h4, h5, h6⟩ := h
  have hlen := bytesOf_length s
  induction d with
  | zero =>
    intro i hi hp
    have : i = q := by omega
    subst this
    have b1 := D_bound (bytesOf s) i (by omega)
    have b2 := D_bound (bytesOf s) p (by omega)
    have hD := D_succ (bytesOf s) i h2
    rw [step_shut h4] at hD
    refine spec_l1Match_l0 s hs i (by omega) 1 _ (D (bytesOf s) (i + 1) - D (bytesOf s) p) (.inl rfl) (by omega) ?_ ?_
    · rw [bt_gt, if_neg (fun e => open_not47 e h4), if_pos h4]; omega
    · rw [if_pos (by omega)]
  | succ d ih =>
    intro i hi hp
    have b1 := D_bound (bytesOf s) i (by omega)
    have b2 := D_bound (bytesOf s) p (by omega)
    have hD := D_succ (bytesOf s) i (by omega)
    have hx := h6 (i + 1) (by omega) (by omega)
    refine spec_l1Match_l0 s hs i (by omega) 1 _ (D (bytesOf s) (i + 1) - D (bytesOf s) p) (.inl rfl) (by omega) ?_ ?_
    · rw [bt_gt, hD]; unfold stepD; split
      · omega
      · split <;> omega
    · rw [if_neg (by omega)]
      have e : (i : Int) + 1 = ((i + 1 : Nat) : Int) := by omega
      rw [e]; exact ih (i + 1) (by omega) (by omega)
theorem match_bwd (s : ByteArray) (hs : s.size ≤ 300) (p q : Nat) (h : Mt (bytesOf s) p q) (d : Nat) : ∀ i, i = p + d → i ≤ q →
    Ev (fun k => spec_l1Match.l0 k s (-1) (D (bytesOf s) (i + 1) - D (bytesOf s) (q + 1)) (i : Int)) (p : Int) := by
  obtain ⟨h1, h2, h3, h4, h5, h6⟩ := h
  have hlen := bytesOf_length s
  induction d with
  | zero =>
    intro i hi hp
    have : i = p := by omega
    subst this
    have b1 := D_bound (bytesOf s) (i + 1) (by omega)
    have b2 := D_bound (bytesOf s) (q + 1) (by omega)
    have hD := D_succ (bytesOf s) i (by omega)
    rw [step_open h3] at hD
    refine spec_l1Match_l0 s hs i (by omega) (-1) _ (D (bytesOf s) i - D (bytesOf s) (q + 1)) (.inr rfl) (by omega) ?_ ?_
    · rw [bt_gt, if_pos h3]; omega
    · rw [if_pos (by omega)]
  | succ d ih =>
    intro i hi hp
    have b1 := D_bound (bytesOf s) (i + 1) (by omega)
    have b2 := D_bound (bytesOf s) (q + 1) (by omega)
    have hD := D_succ (bytesOf s) i (by omega)
    have hx := h6 i (by omega) (by omega)
    refine spec_l1Match_l0 s hs i (by omega) (-1) _ (D (bytesOf s) i - D (bytesOf s) (q + 1)) (.inr rfl) (by omega) ?_ ?_
    · rw [bt_gt]; rw [hD]; unfold stepD; split
      · omega
      · split <;> omega
    · rw [if_neg (by omega)]
      have e : (i : Int) + (-1) = ((i - 1 : Nat) : Int) := by omega
      have e2 := ih (i - 1) (by omega) (by omega)
      rw [show i - 1 + 1 = i by omega] at e2
      rw [e]; exact e2
/-- The reference finds it, both ways. -/
theorem spec_l1Match_open (s : ByteArray) (hs : s.size ≤ 300) (p q : Nat) (h : Mt (bytesOf s) p q) : Ev (fun k => spec_l1Match.f k s (p : Int)) (q : Int) := by
  have hlen := bytesOf_length s
  have h1 := h.1; have h2 := h.2.1
  unfold spec_l1Match.f
  refine ev_pos (by omega) (ev_pos (by omega) (ev_neg (by rw [bt_gt]; exact open_not47 h.2.2.1) ?_))
  refine Ev.step (fun k => by rw [spec_l1Match.j0]) ?_
  have := match_fwd s hs p q h (q - p) p (by omega) (Nat.le_refl _)
  rw [Int.sub_self] at this
  exact this
theorem spec_l1Match_shut (s : ByteArray) (hs : s.size ≤ 300) (p q : Nat) (h : Mt (bytesOf s) p q) : Ev (fun k => spec_l1Match.f k s (q : Int)) (p : Int) := by
  have hlen := bytesOf_length s
  have h1 := h.1; have h2 := h.2.1
  unfold spec_l1Match.f
  refine ev_pos (by omega) (ev_pos (by omega) (ev_pos (by rw [bt_gt]; exact h.2.2.2.1) ?_))
  refine Ev.step (fun k => by rw [spec_l1Match.j0]) ?_
  have := match_bwd s hs p q h (q - p) q (by omega) (Nat.le_refl _)
  rw [Int.sub_self] at this
  exact this

theorem wf_range {x : Int} (h : (Lit.int .i64 x).wf = true) : -9223372036854775808 ≤ x ∧ x ≤ 9223372036854775807 := by
  simp [Lit.wf, IntKind.min, IntKind.max, IntKind.signed, IntKind.bits] at h
  omega

/-- What MatchOf tells of a place. -/
def MatchTells (s : ByteArray) (a : Int) (r : Int × Bool) : Prop :=
  (docB (bytesOf s) = true ∧ ∃ p q : Nat, Mt (bytesOf s) p q ∧ ((a = (p : Int) ∧ r = ((q : Int), true)) ∨ (a = (q : Int) ∧ r = ((p : Int), true)))) ∨
  ((docB (bytesOf s) = true → ∀ an : Nat, a = (an : Int) → an < s.size → plainB (gt 0 (bytesOf s) an) = true) ∧ r = (0, false))
theorem impl_MatchOf_f (s : ByteArray) (hs : s.size ≤ 140737488351232) (a : Int) (ha : -9223372036854775808 ≤ a ∧ a ≤ 9223372036854775807) : ∃ r, Ev (fun k => impl_MatchOf.f k s a) r ∧ MatchTells s a r := by
  have hm := impl_matches_f s hs
  have hd := matchR_doc (bytesOf s)
  by_cases h : docB (bytesOf s) = true
  · obtain ⟨m, e, h1, h2⟩ := matchR_pairs h
    rw [e] at hm
    refine ⟨((m.lookup a).getD 0, (m.lookup a).isSome), ?_, ?_⟩
    · unfold impl_MatchOf.f
      exact ev_pos ha (Ev.bind hm (ev_pos rfl (ev_ret rfl)))
    · cases hl : m.lookup a with
      | none =>
        refine .inr ⟨fun _ an e1 e2 => ?_, rfl⟩
        rcases good_byte (by unfold docB at h; simp only [Bool.and_eq_true] at h; exact h.1) an (by rw [bytesOf_length]; exact e2) with g | g | g
        · have := h2 an (by rw [bytesOf_length]; exact e2) (.inl g); rw [← e1, hl] at this; cases this
        · exact g
        · have := h2 an (by rw [bytesOf_length]; exact e2) (.inr g); rw [← e1, hl] at this; cases this
      | some b =>
        obtain ⟨an, bn, e1, e2, e3⟩ := h1 a b hl
        left
        rcases e3 with e3 | e3
        · exact ⟨h, an, bn, e3, .inl ⟨e1, by rw [e2]; rfl⟩⟩
        · exact ⟨h, bn, an, e3, .inr ⟨e1, by rw [e2]; rfl⟩⟩
  · refine ⟨(0, false), ?_, .inr ⟨fun e => absurd e h, rfl⟩⟩
    unfold impl_MatchOf.f
    refine ev_pos ha (Ev.bind hm (ev_neg ?_ (ev_ret rfl)))
    rw [hd]; exact h
theorem Mt_len {s : ByteArray} {p q : Nat} (h : Mt (bytesOf s) p q) : p < q ∧ q < s.size := by
  have := h.2.1; rw [bytesOf_length] at this; exact ⟨h.1, this⟩

theorem ev_unique {α : Type} {g : Nat → Option α} {r r' : α} (h : Ev g r) (h' : Ev g r') : r = r' := by
  obtain ⟨K, hK⟩ := h
  obtain ⟨K', hK'⟩ := h'
  have a := hK (max K K') (Nat.le_max_left _ _)
  rw [hK' (max K K') (Nat.le_max_right _ _)] at a
  exact (Option.some.inj a).symm
/-- So many elements lie side by side from b to t. -/
def Cnt (l : List Int) (b t c' : Nat) : Prop := c' ≤ t ∧ ∀ P : Nat → Nat → Prop,
  (∀ i c, b ≤ i → i < t → c ≤ i → ¬ openB (gt 0 l i) = true → ¬ gt 0 l i = 47 → P (i + 1) c → P i c) →
  (∀ i q c, b ≤ i → i < t → c ≤ i → Mt l i q → q < t → c + 1 ≤ c' → P (q + 1) (c + 1) → P i c) → P t c' → P b 0
theorem cnt_ex (l : List Int) (hd : docB l = true) (b at_ t : Nat) (hbt : b ≤ t) (hta : t ≤ at_) (hal : at_ ≤ l.length)
    (hr : ∀ x, b ≤ x → x ≤ at_ → D l b ≤ D l x) (hDt : D l t = D l b) (hend : ∀ x, t < x → x ≤ at_ → D l b < D l x) : ∃ c', Cnt l b t c' := by
  have key : ∀ d i c : Nat, t - i ≤ d → b ≤ i → i ≤ t → c ≤ i → D l i = D l b → ∃ c', c' ≤ t ∧ c ≤ c' ∧ ∀ P : Nat → Nat → Prop,
      (∀ i c, b ≤ i → i < t → c ≤ i → ¬ openB (gt 0 l i) = true → ¬ gt 0 l i = 47 → P (i + 1) c → P i c) →
      (∀ i q c, b ≤ i → i < t → c ≤ i → Mt l i q → q < t → c + 1 ≤ c' → P (q + 1) (c + 1) → P i c) → P t c' → P i c := by
    intro d
    induction d with
    | zero =>
      intro i c hd0 hbi hit hc hDi
      have : i = t := by omega
      subst this
      exact ⟨c, hc, Nat.le_refl _, fun P _ _ h => h⟩
    | succ d ih =>
      intro i c hd0 hbi hit hc hDi
      by_cases hlt : i < t
      · by_cases ho : openB (gt 0 l i) = true
        · obtain ⟨q, hm⟩ := open_mt hd i (by omega) ho
          have hq : q < t := by
            apply Nat.lt_of_not_le
            intro hc2
            have := hm.2.2.2.2.2 t hlt hc2
            omega
          have hDq := hm.2.2.2.2.1
          have hiq := hm.1
          obtain ⟨c', k1, k2, k3⟩ := ih (q + 1) (c + 1) (by omega) (by omega) (by omega) (by omega) (by omega)
          exact ⟨c', k1, by omega, fun P p1 p2 h => p2 i q c hbi hlt hc hm hq k2 (k3 P p1 p2 h)⟩
        · have hD := D_succ l i (by omega)
          have h47 : ¬ gt 0 l i = 47 := by
            intro h2
            rw [step_shut h2] at hD
            have := hr (i + 1) (by omega) (by omega)
            omega
          rw [step_plain ho h47] at hD
          obtain ⟨c', k1, k2, k3⟩ := ih (i + 1) c (by omega) (by omega) (by omega) (by omega) (by omega)
          exact ⟨c', k1, k2, fun P p1 p2 h => p1 i c hbi hlt hc ho h47 (k3 P p1 p2 h)⟩
      · have : i = t := by omega
        subst this
        exact ⟨c, hc, Nat.le_refl _, fun P _ _ h => h⟩
  obtain ⟨c', k1, _, k3⟩ := key (t - b) b 0 (Nat.le_refl _) (Nat.le_refl _) hbt (Nat.zero_le _) rfl
  exact ⟨c', k1, k3⟩
theorem impl_MatchOf_open (s : ByteArray) (hd : docB (bytesOf s) = true) (i q : Nat) (hm : Mt (bytesOf s) i q) : Ev (fun k => impl_MatchOf.f k s (i : Int)) ((q : Int), true) := by
  have h300 := doc_len hd
  have hl := Mt_len hm
  have ho := hm.2.2.1
  obtain ⟨rm, hrm, htm⟩ := impl_MatchOf_f s (by omega) (i : Int) (by omega)
  have erm : rm = ((q : Int), true) := by
    rcases htm with ⟨_, p', q', hm', h⟩ | ⟨h, _⟩
    · rcases h with ⟨e1, e2⟩ | ⟨e1, e2⟩
      · have : i = p' := by omega
        subst this
        rw [Mt_fun hm hm']; exact e2
      · have : i = q' := by omega
        subst this
        exact absurd hm'.2.2.2.1 (open_not47 ho)
    · exact absurd ho (plain_not (h hd i rfl (by omega))).1
  rw [erm] at hrm; exact hrm
/-- Where the level of so many begins. -/
def lvB (o : List Int) : Nat → Nat
  | 0 => 0
  | j + 1 => (gt 0 o j).toNat + 1
theorem lvB_succ {o : List Int} {j p : Nat} (h : gt 0 o j = (p : Int)) : lvB o (j + 1) = p + 1 := by show (gt 0 o j).toNat + 1 = _; rw [h, Int.toNat_natCast]
/-- A level of a place: where it ends, and that it's well formed. -/
structure Lv (s : ByteArray) (at_ : Nat) (o : List Int) (j e : Nat) : Prop where
  le : e ≤ s.size
  here : at_ ≤ e
  beg : lvB o j ≤ at_
  deep : D (bytesOf s) (lvB o j) = (j : Int)
  low : ∀ x, lvB o j ≤ x → x ≤ at_ → (j : Int) ≤ D (bytesOf s) x
  nest : ∀ i q, lvB o j ≤ i → i < e → Mt (bytesOf s) i q → q < e
theorem Lv.zero (s : ByteArray) (hd : docB (bytesOf s) = true) (at_ : Nat) (hat : at_ ≤ s.size) (o : List Int) : Lv s at_ o 0 s.size :=
  ⟨Nat.le_refl _, hat, Nat.zero_le _, D_zero _, fun x _ hx => D_nonneg hd x (by rw [bytesOf_length]; omega), fun i q _ _ hm => (Mt_len hm).2⟩
/-- The next level: the element that lies around, and how many lie ahead of it. -/
theorem Lv.next {s : ByteArray} (hd : docB (bytesOf s) = true) {at_ : Nat} (hat : at_ ≤ s.size) {o : List Int} (ho : St (bytesOf s) at_ o) {j e : Nat} (h : Lv s at_ o j e) (hj : j < o.length) :
    ∃ p q c : Nat, gt 0 o j = (p : Int) ∧ lvB o j ≤ p ∧ p < at_ ∧ at_ ≤ q ∧ q < e ∧ Mt (bytesOf s) p q ∧ Cnt (bytesOf s) (lvB o j) p c ∧ Lv s at_ o (j + 1) q := by
  have hlen := bytesOf_length s
  obtain ⟨hle, hae, hba, hDb, hr, hin⟩ := h
  obtain ⟨p, e1, e2, e3, e4, e5⟩ := ho.stack j hj
  have hbp : lvB o j ≤ p := by
    cases j with
    | zero => exact Nat.zero_le _
    | succ j' =>
      obtain ⟨p', f1, f2, f3, f4, f5⟩ := ho.stack j' (by omega)
      rw [lvB_succ f1]
      apply Nat.lt_of_not_le
      intro hc
      have : p ≠ p' := by intro e; subst e; omega
      have := e5 p' (by omega) (by omega)
      omega
  obtain ⟨q, hm⟩ := open_mt hd p (by omega) e3
  have hqe := hin p q hbp (by omega) hm
  have hql := Mt_len hm
  have haq : at_ ≤ q := by
    apply Nat.le_of_not_lt
    intro hc
    have := e5 (q + 1) (by omega) (by omega)
    have := hm.2.2.2.2.1; omega
  obtain ⟨c, hc⟩ := cnt_ex (bytesOf s) hd (lvB o j) at_ p hbp (by omega) (by omega) (fun x h1 h2 => by have := hr x h1 h2; omega) (by omega) (fun x h1 h2 => by have := e5 x h1 h2; omega)
  have hlv := lvB_succ e1
  have hDp := D_succ (bytesOf s) p (by omega)
  rw [step_open e3] at hDp
  exact ⟨p, q, c, e1, hbp, e2, haq, hqe, hm, hc, by omega, haq, by omega, by rw [hlv]; omega, fun x h1 h2 => by have := e5 x (by omega) h2; omega, fun i q' h1 h2 hm' => mt_nest hm hm' (by omega) h2⟩
/-- The path of a place. -/
structure PathIs (s : ByteArray) (at_ : Nat) (o r : List Int) : Prop where
  len : r.length = o.length + 1
  last : gt 0 r o.length = ((at_ - lvB o o.length : Nat) : Int)
  cnt : ∀ j, j < o.length → ∃ p c : Nat, gt 0 o j = (p : Int) ∧ gt 0 r j = (c : Int) ∧ Cnt (bytesOf s) (lvB o j) p c
theorem path_from (s : ByteArray) (hd : docB (bytesOf s) = true) (at_ : Nat) (hat : at_ ≤ s.size) (o : List Int) (ho : St (bytesOf s) at_ o) (d : Nat) :
    ∀ (j : Nat) (u : ByteArray) (e : Nat) (x6 : List Int), j + d = o.length → Sub (bytesOf s) u (lvB o j) e → Lv s at_ o j e → x6.length = j →
      (∀ j', j' < j → ∃ p c : Nat, gt 0 o j' = (p : Int) ∧ gt 0 x6 j' = (c : Int) ∧ Cnt (bytesOf s) (lvB o j') p c) →
      ∃ r : List Int, PathIs s at_ o r ∧ Ev (fun k => spec_l2Path.l0 k u ((at_ - lvB o j : Nat) : Int) x6) r ∧ Ev (fun k => impl_path.l0 k s (at_ : Int) x6 ((lvB o j : Nat) : Int) o (o.length : Int) (j : Int)) r := by
  have hlen := bytesOf_length s
  have h300 := doc_len hd
  have hdeep := ho.deep
  have hbd := D_bound (bytesOf s) at_ (by omega)
  -- the reference's round over one level
  have spl : ∀ (u : ByteArray) (b e t c' : Nat) (x6 r : List Int), Sub (bytesOf s) u b e → b ≤ t → t ≤ at_ → at_ ≤ e → Cnt (bytesOf s) b t c' →
      Ev (fun k => spec_l2Path.l1 k u ((at_ - b : Nat) : Int) x6 (c' : Int) (-1) ((t - b : Nat) : Int)) r → Ev (fun k => spec_l2Path.l1 k u ((at_ - b : Nat) : Int) x6 0 (-1) 0) r := by
    intro u b e t c' x6 r hu hbt hta hae hc h
    have hsz := hu.size; have hle := hu.le; have hel := hu.len
    have := hc.2 (fun i c => Ev (fun k => spec_l2Path.l1 k u ((at_ - b : Nat) : Int) x6 (c : Int) (-1) ((i - b : Nat) : Int)) r)
      (fun i c h1 h2 hci h3 h4 h' => by
        refine Ev.step (fun k => by rw [spec_l2Path.l1]) ?_
        refine ev_pos (by omega) (ev_pos (by omega) (ev_pos (by omega) (ev_eq (spec_l1Open_f _) (ev_neg ?_ ?_))))
        · rw [bt_gt, hu.at_ _ (by omega), show b + (i - b) = i by omega]; exact h3
        · rw [wrap_succ (i - b) (by omega), show i - b + 1 = i + 1 - b by omega]; exact h')
      (fun i q c h1 h2 hci hm hq hcc h' => by
        have hql := Mt_len hm
        have hmu := spec_l1Match_open u (by omega) _ _ (hu.mt hm h1 (by omega))
        have hcb := hc.1
        refine Ev.step (fun k => by rw [spec_l2Path.l1]) ?_
        refine ev_pos (by omega) (ev_pos (by omega) (ev_pos (by omega) (ev_eq (spec_l1Open_f _) (ev_pos ?_ (Ev.bind hmu (ev_neg (by omega) ?_))))))
        · rw [bt_gt, hu.at_ _ (by omega), show b + (i - b) = i by omega]; exact hm.2.2.1
        · rw [wrap_succ c (by omega), wrap_succ (q - b) (by omega)]
          rw [show q - b + 1 = q + 1 - b by omega]; exact h') h
    rw [Nat.sub_self] at this
    exact this
  induction d with
  | zero =>
    intro j u e x6 hj hu hv hx6 hpre
    obtain ⟨hle, hae, hba, hDb, hr, hin⟩ := hv
    have hsz := hu.size; have hle := hu.le; have hel := hu.len
    have hjo : j = o.length := by omega
    subst hjo
    obtain ⟨ca, hca⟩ := cnt_ex (bytesOf s) hd (lvB o o.length) at_ at_ hba (Nat.le_refl _) (by omega) (fun x h1 h2 => by have := hr x h1 h2; omega) (by omega) (fun x h1 h2 => by omega)
    refine ⟨x6 ++ [((at_ - lvB o o.length : Nat) : Int)], ⟨by rw [List.length_append, List.length_singleton, hx6], ?_, fun j hj => ?_⟩, ?_, ?_⟩
    · rw [← hx6]; exact gt_app_e _ _ _
    · obtain ⟨p, c, f1, f2, f3⟩ := hpre j hj
      exact ⟨p, c, f1, by rw [gt_app_l _ _ _ _ (by omega)]; exact f2, f3⟩
    · refine Ev.step (fun k => by rw [spec_l2Path.l0]) ?_
      refine spl u (lvB o o.length) e at_ ca x6 _ hu hba (Nat.le_refl _) hae hca ?_
      refine Ev.step (fun k => by rw [spec_l2Path.l1]) ?_
      exact ev_neg (by omega) (ev_pos (by omega) (ev_pos (by omega) (ev_ret rfl)))
    · refine Ev.step (fun k => by rw [impl_path.l0]) ?_
      refine ev_neg (by omega) (ev_pos (by omega) (ev_ret ?_))
      rw [wrap_id (by omega) (by omega), show (at_ : Int) - ((lvB o o.length : Nat) : Int) = ((at_ - lvB o o.length : Nat) : Int) by omega]
  | succ d ih =>
    intro j u e x6 hj hu hv hx6 hpre
    obtain ⟨p, q, c', e1, hbp, hpa, haq, hqe, hm, hc, hv'⟩ := hv.next hd hat ho (by omega)
    obtain ⟨hle0, hae, hba, hDb, hr, hin⟩ := hv
    have hsz := hu.size; have hle := hu.le; have hel := hu.len
    have hql := Mt_len hm
    have hlv := lvB_succ e1
    have hcb := hc.1
    have hu' := hu.sub (p + 1) q (by omega) (by omega) (by omega)
    obtain ⟨r, hrl, r1, r2⟩ := ih (j + 1) (u.extract (p + 1 - lvB o j) (q - lvB o j)) q (x6 ++ [(c' : Int)]) (by omega) (by rw [hlv]; exact hu') hv' (by rw [List.length_append, List.length_singleton, hx6])
      (fun j' hj' => by
        by_cases hjj : j' < j
        · obtain ⟨p', c, f1, f2, f3⟩ := hpre j' hjj
          exact ⟨p', c, f1, by rw [gt_app_l _ _ _ _ (by omega)]; exact f2, f3⟩
        · have : j' = j := by omega
          subst this
          exact ⟨p, c', e1, by rw [← hx6]; exact gt_app_e _ _ _, hc⟩)
    refine ⟨r, hrl, ?_, ?_⟩
    · refine Ev.step (fun k => by rw [spec_l2Path.l0]) ?_
      refine spl u (lvB o j) e p c' x6 _ hu hbp (by omega) hae hc ?_
      have hmu := spec_l1Match_open u (by omega) _ _ (hu.mt hm hbp hqe)
      refine Ev.step (fun k => by rw [spec_l2Path.l1]) ?_
      refine ev_pos (by omega) (ev_pos (by omega) (ev_pos (by omega) (ev_eq (spec_l1Open_f _) (ev_pos ?_ (Ev.bind hmu (ev_pos (by omega) (ev_neg (by omega) (ev_pos (by omega) (Ev.bind hmu ?_)))))))))
      · rw [bt_gt, hu.at_ _ (by omega), show lvB o j + (p - lvB o j) = p by omega]; exact hm.2.2.1
      · rw [wrap_succ (p - lvB o j) (by omega)]
        refine ev_pos (by omega) (ev_pos (by omega) (ev_pos (by omega) ?_))
        rw [wrap_id (by omega) (by omega), Int.toNat_natCast, Int.toNat_natCast]
        rw [show ((at_ - lvB o j : Nat) : Int) - ((p - lvB o j + 1 : Nat) : Int) = ((at_ - lvB o (j + 1) : Nat) : Int) by omega, show p - lvB o j + 1 = p + 1 - lvB o j by omega]
        exact r1
    · refine Ev.step (fun k => by rw [impl_path.l0]) ?_
      refine ev_pos (by omega) (ev_pos (by omega) (ev_pos (by omega) ?_))
      have er : rd o (j : Int) = (p : Int) := e1
      rw [er]
      refine hc.2 (fun i c => Ev (fun k => impl_path.l1 k s (at_ : Int) x6 (p : Int) (c : Int) (i : Int) o (o.length : Int) (j : Int)) r) ?_ ?_ ?_
      · intro i c h1 h2 hci h3 h4 h'
        refine Ev.step (fun k => by rw [impl_path.l1]) ?_
        refine ev_pos (by omega) (ev_pos (by omega) (ev_pos (by omega) (ev_eq (impl_isName_f _) (ev_neg (by rw [bt_gt]; exact h3) ?_))))
        rw [wrap_succ i (by omega)]; exact h'
      · intro i q' c h1 h2 hci hm' hq' hcc h'
        have hql' := Mt_len hm'
        refine Ev.step (fun k => by rw [impl_path.l1]) ?_
        refine ev_pos (by omega) (ev_pos (by omega) (ev_pos (by omega) (ev_eq (impl_isName_f _) (ev_pos (by rw [bt_gt]; exact hm'.2.2.1) (Ev.bind (impl_MatchOf_open s hd i q' hm') ?_)))))
        rw [wrap_succ c (by omega)]
        show Ev (fun k => impl_path.l1 k s (at_ : Int) x6 (p : Int) ((c + 1 : Nat) : Int) (wrap64 ((q' : Int) + 1)) o (o.length : Int) (j : Int)) r
        rw [wrap_succ q' (by omega)]; exact h'
      · refine Ev.step (fun k => by rw [impl_path.l1]) ?_
        refine ev_neg (by omega) (ev_pos (by omega) ?_)
        rw [wrap_succ p (by omega), wrap_succ j (by omega)]
        rw [hlv] at r2
        exact r2
theorem path_f (s : ByteArray) (hd : docB (bytesOf s) = true) (a : Nat) (ha : a ≤ s.size) : ∃ o r : List Int, o.length ≤ 300 ∧ St (bytesOf s) a o ∧ PathIs s a o r ∧ Ev (fun k => spec_l2Path.f k s (a : Int)) r ∧ Ev (fun k => impl_path.f k s (a : Int)) r := by
  have hlen := bytesOf_length s
  have h300 := doc_len hd
  obtain ⟨o, h1, h2⟩ := impl_around_f s hd a ha
  have hbd := D_bound (bytesOf s) a (by omega)
  have hdeep := h2.deep
  obtain ⟨r, hr, r1, r2⟩ := path_from s hd a ha o h2 o.length 0 s s.size [] (by omega) (Sub.whole s) (Lv.zero s hd a ha o) rfl (fun j' hj' => by omega)
  exact ⟨o, r, by omega, h2, hr, r1, Ev.bind h1 r2⟩

theorem rd_int (l : List Int) (i : Nat) : rd l (i : Int) = gt (0 : Int) l i := rfl
theorem laws_eqIntS_l (l : List Int) (hl : l.length ≤ 4611686018427387904) (d : Nat) : ∀ i : Nat, i + d = l.length → Ev (fun k => laws_eqIntS.l0 k l l (i : Int)) true := by
  induction d with
  | zero => exact fun i hi => Ev.step (fun k => by rw [laws_eqIntS.l0]) (ev_neg (by omega) (ev_ret rfl))
  | succ d ih =>
    intro i hi
    refine Ev.step (fun k => by rw [laws_eqIntS.l0]) ?_
    refine ev_pos (by omega) (ev_pos (by omega) (ev_pos (by omega) (ev_pos rfl ?_)))
    rw [wrap_succ i (by omega)]
    exact ih (i + 1) (by omega)
theorem laws_eqIntS_f (l : List Int) (hl : l.length ≤ 4611686018427387904) : Ev (fun k => laws_eqIntS.f k l l) true := by
  unfold laws_eqIntS.f
  exact ev_pos rfl (laws_eqIntS_l l hl l.length 0 (by omega))

theorem laws_toIntS_l (l : List Int) (hl : l.length ≤ 1048576) (d : Nat) :
    ∀ i : Nat, i + d = l.length → Ev (fun k => laws_toIntS.l0 k l (l.take i ++ List.replicate (l.length - i) 0) (i : Int)) l := by
  induction d with
  | zero =>
    intro i hi
    refine Ev.step (fun k => by rw [laws_toIntS.l0]) ?_
    refine ev_neg (by omega) (ev_ret ?_)
    have : l.length - i = 0 := by omega
    rw [List.take_of_length_le (by omega), this]; simp
  | succ d ih =>
    intro i hi
    refine Ev.step (fun k => by rw [laws_toIntS.l0]) ?_
    refine ev_pos (by omega) (ev_pos (by omega) (ev_pos (by simp; omega) ?_))
    rw [wrap_succ i (by omega)]
    have ih' := ih (i + 1) (by omega)
    have e : (l.take i ++ List.replicate (l.length - i) 0).set (i : Int).toNat (rd l (i : Int)) = l.take (i + 1) ++ List.replicate (l.length - (i + 1)) 0 := by
      rw [Int.toNat_natCast, set_next _ _ _ _ _ (by simp; omega) (by omega), rd_int, gt_take (0 : Int) l i (by omega)]
    exact e ▸ ih'
theorem laws_toIntS_f (l : List Int) (hl : l.length ≤ 1048576) : Ev (fun k => laws_toIntS.f k l) l := by
  unfold laws_toIntS.f
  refine ev_pos (by omega) (ev_pos (by omega) ?_)
  exact laws_toIntS_l l hl l.length 0 (by omega)

/-- The reference follows the path of a place down to its level. -/
theorem nav (s : ByteArray) (hd : docB (bytesOf s) = true) (at_ : Nat) (hat : at_ ≤ s.size) (o r : List Int) (ho : St (bytesOf s) at_ o) (hp : PathIs s at_ o r) (hol : o.length ≤ 300) (R : Int × Bool)
    (hR : ∀ e, Lv s at_ o o.length e → Ev (fun k => spec_PlaceOf.l0 k s r ((lvB o o.length : Nat) : Int) (e : Int) (r.take o.length) (o.length : Int) (o.length : Int)) R) (d : Nat) :
    ∀ (j e : Nat), j + d = o.length → Lv s at_ o j e → Ev (fun k => spec_PlaceOf.l0 k s r ((lvB o j : Nat) : Int) (e : Int) (r.take o.length) (o.length : Int) (j : Int)) R := by
  have hlen := bytesOf_length s
  have h300 := doc_len hd
  have hrl := hp.len
  have htl : (r.take o.length).length = o.length := by rw [List.length_take]; omega
  induction d with
  | zero =>
    intro j e hj hv
    have : j = o.length := by omega
    subst this
    exact hR e hv
  | succ d ih =>
    intro j e hj hv
    obtain ⟨p, q, c0, e1, hbp, hpa, haq, hqe, hm, hc0, hv'⟩ := hv.next hd hat ho (by omega)
    obtain ⟨p', c, f1, f2, hc⟩ := hp.cnt j (by omega)
    have : p' = p := by omega
    subst this
    have hql := Mt_len hm
    have hlv := lvB_succ e1
    have hcb := hc.1
    have hle := hv.le
    refine Ev.step (fun k => by rw [spec_PlaceOf.l0]) ?_
    refine ev_pos (by omega) (ev_pos (by omega) (ev_pos (by omega) ?_))
    have er : rd (r.take o.length) (j : Int) = (c : Int) := by rw [rd_int, gt_takeL _ _ _ _ (by omega)]; exact f2
    rw [er]
    have := hc.2 (fun i n => Ev (fun k => spec_PlaceOf.l1 k s r (e : Int) ((c - n : Nat) : Int) (-1) (i : Int) (r.take o.length) (o.length : Int) (j : Int)) R)
      (fun i n h1 h2 hni h3 h4 h' => by
        refine Ev.step (fun k => by rw [spec_PlaceOf.l1]) ?_
        refine ev_pos (by omega) (ev_pos (by omega) (ev_pos (by omega) (ev_eq (spec_l1Open_f _) (ev_neg (by rw [bt_gt]; exact h3) ?_))))
        rw [wrap_succ i (by omega)]; exact h')
      (fun i q' n h1 h2 hni hm' hq' hcc h' => by
        have hql' := Mt_len hm'
        refine Ev.step (fun k => by rw [spec_PlaceOf.l1]) ?_
        refine ev_pos (by omega) (ev_pos (by omega) (ev_pos (by omega) (ev_eq (spec_l1Open_f _) (ev_pos (by rw [bt_gt]; exact hm'.2.2.1) (ev_neg (by omega) (Ev.bind (spec_l1Match_open s (by omega) _ _ hm') ?_))))))
        rw [wrap_id (by omega) (by omega), show ((c - n : Nat) : Int) - 1 = ((c - (n + 1) : Nat) : Int) by omega, wrap_succ q' (by omega)]; exact h')
      (by
        rw [Nat.sub_self]
        refine Ev.step (fun k => by rw [spec_PlaceOf.l1]) ?_
        refine ev_pos (by omega) (ev_pos (by omega) (ev_pos (by omega) (ev_eq (spec_l1Open_f _) (ev_pos (by rw [bt_gt]; exact hm.2.2.1) (ev_pos rfl (ev_neg (by omega) (Ev.bind (spec_l1Match_open s (by omega) _ _ hm) ?_)))))))
        rw [wrap_succ p' (by omega), wrap_succ j (by omega)]
        have := ih (j + 1) q (by omega) hv'
        rw [hlv] at this
        exact this)
    exact this
/-- Two rows, one by one. -/
theorem place_l2 (x a : List Int) (v : Int) (hl : a.length = x.length) (hb : x.length ≤ 1048576) (d : Nat) : ∀ i : Nat, i + d = a.length → a.take i = x.take i →
    Ev (fun k => spec_PlaceOf.l2 k x v a (a.length : Int) (i : Int)) (if a = x then (v, true) else (0, false)) := by
  induction d with
  | zero =>
    intro i hi he
    rw [List.take_of_length_le (by omega), List.take_of_length_le (by omega)] at he
    refine Ev.step (fun k => by rw [spec_PlaceOf.l2]) ?_
    exact ev_neg (by omega) (ev_ret (by rw [if_pos he]))
  | succ d ih =>
    intro i hi he
    refine Ev.step (fun k => by rw [spec_PlaceOf.l2]) ?_
    refine ev_pos (by omega) (ev_pos (by omega) (ev_pos (by omega) (ev_pos (by omega) (ev_if (fun h => ?_) (fun h => ev_ret ?_)))))
    · rw [wrap_succ i (by omega)]
      exact ih (i + 1) (by omega) (by rw [gt_take 0 a i (by omega), gt_take 0 x i (by omega), he]; rw [rd_int, rd_int] at h; rw [h])
    · rw [if_neg (fun e => h (by rw [e]))]
theorem equal_l (a x : List Int) (hl : a.length = x.length) (hb : x.length ≤ 1048576) (d : Nat) : ∀ i : Nat, i + d = a.length → a.take i = x.take i →
    Ev (fun k => slices_Equal_int_int.l0 k a x (a.length : Int) (i : Int)) (decide (a = x)) := by
  induction d with
  | zero =>
    intro i hi he
    rw [List.take_of_length_le (by omega), List.take_of_length_le (by omega)] at he
    refine Ev.step (fun k => by rw [slices_Equal_int_int.l0]) ?_
    exact ev_neg (by omega) (ev_ret (by rw [decide_eq_true he]))
  | succ d ih =>
    intro i hi he
    refine Ev.step (fun k => by rw [slices_Equal_int_int.l0]) ?_
    refine ev_pos (by omega) (ev_pos (by omega) (ev_pos (by omega) (ev_pos (by omega) (ev_if (fun h => ?_) (fun h => ev_ret ?_)))))
    · rw [wrap_succ i (by omega)]
      exact ih (i + 1) (by omega) (by rw [gt_take 0 a i (by omega), gt_take 0 x i (by omega), he]; rw [rd_int, rd_int] at h; rw [h])
    · rw [decide_eq_false (fun e => h (by rw [e]))]
theorem equal_f (a x : List Int) (hb : x.length ≤ 1048576) : Ev (fun k => slices_Equal_int_int.f k a x) (decide (a = x)) := by
  unfold slices_Equal_int_int.f
  refine ev_if (fun h => ?_) (fun h => ev_ret ?_)
  · exact equal_l a x (by omega) hb a.length 0 (by omega) rfl
  · rw [decide_eq_false (fun e => h (by rw [e]))]
/-- The reference at the last number of a path. -/
theorem place_j3 (s : ByteArray) (hd : docB (bytesOf s) = true) (x : List Int) (hx : x.length ≤ 1048576) (b : Nat) (v : Int) (hv : 0 ≤ v) (hb : (b : Int) + v ≤ (s.size : Int)) (r : List Int) (hr : r.length ≤ 1000) (hp : Ev (fun k => spec_l2Path.f k s ((b : Int) + v)) r) :
    Ev (fun k => spec_PlaceOf.j3 k s x (b : Int) v false) (if r = x then ((b : Int) + v, true) else (0, false)) := by
  have h300 := doc_len hd
  refine Ev.step (fun k => by rw [spec_PlaceOf.j3]) ?_
  rw [wrap_id (by omega) (by omega)]
  refine ev_neg (by simp) (Ev.bind hp (ev_if (fun h => ?_) (fun h => ev_ret ?_)))
  · exact place_l2 x r _ (by omega) hx r.length 0 (by omega) rfl
  · rw [if_neg (fun e => h (by rw [e]))]
theorem spec_PlaceOf_at (s : ByteArray) (hs : s.size ≤ 140737488351232) (hd : docB (bytesOf s) = true) (a : Nat) (ha : a ≤ s.size) (o r : List Int) (hol : o.length ≤ 300) (ho : St (bytesOf s) a o) (hp : PathIs s a o r) (h1 : Ev (fun k => spec_l2Path.f k s (a : Int)) r) : Ev (fun k => spec_PlaceOf.f k s r) ((a : Int), true) := by
  have h300 := doc_len hd
  have hrl := hp.len
  unfold spec_PlaceOf.f
  refine Ev.bind (spec_GoodDoc_f s hs) (ev_pos hd ?_)
  rw [show ((r.length : Int) == 0) = false by rw [beq_eq_false_iff_ne]; omega]
  refine Ev.step (fun k => by rw [spec_PlaceOf.j0]) ?_
  have ew : wrap64 ((r.length : Int) - 1) = (o.length : Int) := by rw [wrap_id (by omega) (by omega)]; omega
  rw [ew, Int.toNat_natCast]
  have htl : (r.take o.length).length = o.length := by rw [List.length_take]; omega
  rw [htl]
  refine ev_neg (by simp) (ev_pos (by omega) (ev_pos (by omega) ?_))
  refine nav s hd a ha o r ho hp hol _ (fun e hv => ?_) o.length 0 s.size (by omega) (Lv.zero s hd a ha o)
  have hle := hv.le; have hhe := hv.here; have hbe := hv.beg
  refine Ev.step (fun k => by rw [spec_PlaceOf.l0]) ?_
  rw [ew]
  have el : rd r (o.length : Int) = ((a - lvB o o.length : Nat) : Int) := hp.last
  rw [el]
  refine ev_neg (by omega) (ev_pos (by omega) (ev_pos (by omega) (ev_neg (by omega) ?_)))
  rw [wrap_id (by omega) (by omega), decide_eq_false (by omega)]
  have e2 : ((lvB o o.length : Nat) : Int) + ((a - lvB o o.length : Nat) : Int) = (a : Int) := by omega
  have := place_j3 s hd r (by omega) (lvB o o.length) ((a - lvB o o.length : Nat) : Int) (by omega) (by omega) r (by omega) (by rw [e2]; exact h1)
  rw [if_pos rfl, e2] at this
  exact this
/-- The reference ends, and what it finds has the path. -/
theorem place_end (s : ByteArray) (hd : docB (bytesOf s) = true) (x : List Int) (m : Nat) (hm : x.length = m + 1) (hx : x.length ≤ 1048576) (d : Nat) :
    ∀ (j b e : Nat), j + d = m → b ≤ e → e ≤ s.size → (∀ y, b ≤ y → y ≤ e → D (bytesOf s) b ≤ D (bytesOf s) y) → (∀ i q, b ≤ i → i < e → Mt (bytesOf s) i q → q < e) →
      ∃ R : Int × Bool, Ev (fun k => spec_PlaceOf.l0 k s x (b : Int) (e : Int) (x.take m) (m : Int) (j : Int)) R ∧ (R = (0, false) ∨ ∃ a : Nat, a ≤ s.size ∧ R = ((a : Int), true) ∧ Ev (fun k => spec_l2Path.f k s (a : Int)) x) := by
  have hlen := bytesOf_length s
  have h300 := doc_len hd
  have htl : (x.take m).length = m := by rw [List.length_take]; omega
  have ew : wrap64 ((x.length : Int) - 1) = (m : Int) := by rw [wrap_id (by omega) (by omega)]; omega
  induction d with
  | zero =>
    intro j b e hj hbe hes hr hin
    have hstep : ∀ R, Ev (fun k => if rd x (m : Int) < 0 then spec_PlaceOf.j3 k s x (b : Int) (rd x (m : Int)) true else spec_PlaceOf.j3 k s x (b : Int) (rd x (m : Int)) (decide (rd x (m : Int) > wrap64 ((e : Int) - (b : Int))))) R → Ev (fun k => spec_PlaceOf.l0 k s x (b : Int) (e : Int) (x.take m) (m : Int) (j : Int)) R := fun R h => by
      refine Ev.step (fun k => by rw [spec_PlaceOf.l0]) ?_
      rw [ew]
      exact ev_neg (by omega) (ev_pos (by omega) (ev_pos (by omega) h))
    have hno : Ev (fun k => spec_PlaceOf.j3 k s x (b : Int) (rd x (m : Int)) true) (0, false) := by
      refine Ev.step (fun k => by rw [spec_PlaceOf.j3]) ?_
      exact ev_pos rfl (ev_ret rfl)
    have ewe : wrap64 ((e : Int) - (b : Int)) = (e : Int) - (b : Int) := wrap_id (by omega) (by omega)
    by_cases h0 : rd x (m : Int) < 0
    · exact ⟨_, hstep _ (ev_pos h0 hno), .inl rfl⟩
    · by_cases h1 : rd x (m : Int) > (e : Int) - (b : Int)
      · refine ⟨_, hstep _ (ev_neg h0 ?_), .inl rfl⟩
        rw [ewe, decide_eq_true h1]; exact hno
      · obtain ⟨v, hv⟩ := Int.eq_ofNat_of_zero_le (show 0 ≤ rd x (m : Int) by omega)
        obtain ⟨o, r, hol, hst, hp, r1, r2⟩ := path_f s hd (b + v) (by omega)
        have hrl := hp.len
        have e2 : (b : Int) + rd x (m : Int) = ((b + v : Nat) : Int) := by omega
        have := place_j3 s hd x hx b (rd x (m : Int)) (by omega) (by omega) r (by omega) (by rw [e2]; exact r1)
        refine ⟨(if r = x then ((b : Int) + rd x (m : Int), true) else (0, false)), hstep _ (ev_neg h0 ?_), ?_⟩
        · rw [ewe, decide_eq_false h1]; exact this
        · by_cases c : r = x
          · rw [if_pos c, e2]; exact .inr ⟨b + v, by omega, rfl, c ▸ r1⟩
          · rw [if_neg c]; exact .inl rfl
  | succ d ih =>
    intro j b e hj hbe hes hr hin
    have inner : ∀ (g i : Nat) (n : Int), e - i ≤ g → b ≤ i → i ≤ e → D (bytesOf s) i = D (bytesOf s) b →
        ∃ R : Int × Bool, Ev (fun k => spec_PlaceOf.l1 k s x (e : Int) n (-1) (i : Int) (x.take m) (m : Int) (j : Int)) R ∧ (R = (0, false) ∨ ∃ a : Nat, a ≤ s.size ∧ R = ((a : Int), true) ∧ Ev (fun k => spec_l2Path.f k s (a : Int)) x) := by
      intro g
      induction g with
      | zero =>
        intro i n hg hbi hie hDi
        refine ⟨(0, false), ?_, .inl rfl⟩
        refine Ev.step (fun k => by rw [spec_PlaceOf.l1]) ?_
        exact ev_neg (by omega) (ev_pos (by omega) (ev_ret rfl))
      | succ g ihg =>
        intro i n hg hbi hie hDi
        by_cases hlt : i < e
        · by_cases ho : openB (gt 0 (bytesOf s) i) = true
          · obtain ⟨q, hmt⟩ := open_mt hd i (by omega) ho
            have hqe := hin i q hbi hlt hmt
            have hql := Mt_len hmt
            have hDq := hmt.2.2.2.2.1
            by_cases hn : n = 0
            · have hDs := D_succ (bytesOf s) i (by omega)
              rw [step_open ho] at hDs
              obtain ⟨R, h1, h2⟩ := ih (j + 1) (i + 1) q (by omega) (by omega) (by omega) (fun y h1 h2 => by have := hmt.2.2.2.2.2 y (by omega) h2; omega) (fun i' q' h1 h2 hm' => mt_nest hmt hm' (by omega) h2)
              refine ⟨R, ?_, h2⟩
              refine Ev.step (fun k => by rw [spec_PlaceOf.l1]) ?_
              refine ev_pos (by omega) (ev_pos (by omega) (ev_pos (by omega) (ev_eq (spec_l1Open_f _) (ev_pos (by rw [bt_gt]; exact ho) (ev_pos hn (ev_neg (by omega) (Ev.bind (spec_l1Match_open s (by omega) _ _ hmt) ?_)))))))
              rw [wrap_succ i (by omega), wrap_succ j (by omega)]; exact h1
            · obtain ⟨R, h1, h2⟩ := ihg (q + 1) (wrap64 (n - 1)) (by omega) (by omega) (by omega) (by omega)
              refine ⟨R, ?_, h2⟩
              refine Ev.step (fun k => by rw [spec_PlaceOf.l1]) ?_
              refine ev_pos (by omega) (ev_pos (by omega) (ev_pos (by omega) (ev_eq (spec_l1Open_f _) (ev_pos (by rw [bt_gt]; exact ho) (ev_neg hn (Ev.bind (spec_l1Match_open s (by omega) _ _ hmt) ?_))))))
              rw [wrap_succ q (by omega)]; exact h1
          · have hD := D_succ (bytesOf s) i (by omega)
            have h47 : ¬ gt 0 (bytesOf s) i = 47 := by
              intro h2
              rw [step_shut h2] at hD
              have := hr (i + 1) (by omega) (by omega)
              omega
            rw [step_plain ho h47] at hD
            obtain ⟨R, h1, h2⟩ := ihg (i + 1) n (by omega) (by omega) (by omega) (by omega)
            refine ⟨R, ?_, h2⟩
            refine Ev.step (fun k => by rw [spec_PlaceOf.l1]) ?_
            refine ev_pos (by omega) (ev_pos (by omega) (ev_pos (by omega) (ev_eq (spec_l1Open_f _) (ev_neg (by rw [bt_gt]; exact ho) ?_))))
            rw [wrap_succ i (by omega)]; exact h1
        · refine ⟨(0, false), ?_, .inl rfl⟩
          refine Ev.step (fun k => by rw [spec_PlaceOf.l1]) ?_
          exact ev_neg (by omega) (ev_pos (by omega) (ev_ret rfl))
    obtain ⟨R, h1, h2⟩ := inner (e - b) b (rd (x.take m) (j : Int)) (Nat.le_refl _) (Nat.le_refl _) hbe rfl
    refine ⟨R, ?_, h2⟩
    refine Ev.step (fun k => by rw [spec_PlaceOf.l0]) ?_
    exact ev_pos (by omega) (ev_pos (by omega) (ev_pos (by omega) h1))
theorem PlaceOf_f (s : ByteArray) (hs : s.size ≤ 140737488351232) (x : List Int) (hx : x.length ≤ 1048576) : ∃ R : Int × Bool, Ev (fun k => spec_PlaceOf.f k s x) R ∧ Ev (fun k => impl_PlaceOf.f k s x) R := by
  by_cases hd : docB (bytesOf s) = true
  · have h300 := doc_len hd
    have hlen := bytesOf_length s
    -- the reference's answer
    have hsp : ∃ R : Int × Bool, Ev (fun k => spec_PlaceOf.f k s x) R ∧ (R = (0, false) ∨ ∃ a : Nat, a ≤ s.size ∧ R = ((a : Int), true) ∧ Ev (fun k => spec_l2Path.f k s (a : Int)) x) := by
      by_cases hz : x.length = 0
      · refine ⟨(0, false), ?_, .inl rfl⟩
        unfold spec_PlaceOf.f
        refine Ev.bind (spec_GoodDoc_f s hs) (ev_pos hd ?_)
        rw [show ((x.length : Int) == 0) = true by rw [beq_iff_eq]; omega]
        refine Ev.step (fun k => by rw [spec_PlaceOf.j0]) ?_
        exact ev_pos rfl (ev_ret rfl)
      · obtain ⟨m, hm⟩ := Nat.exists_eq_succ_of_ne_zero hz
        obtain ⟨R, h1, h2⟩ := place_end s hd x m hm hx m 0 0 s.size (by omega) (Nat.zero_le _) (Nat.le_refl _) (fun y _ hy => by have := D_nonneg hd y (by omega); rw [D_zero]; exact this) (fun i q _ _ hmt => (Mt_len hmt).2)
        refine ⟨R, ?_, h2⟩
        have ew : wrap64 ((x.length : Int) - 1) = (m : Int) := by rw [wrap_id (by omega) (by omega)]; omega
        have htl : (x.take m).length = m := by rw [List.length_take]; omega
        unfold spec_PlaceOf.f
        refine Ev.bind (spec_GoodDoc_f s hs) (ev_pos hd ?_)
        rw [show ((x.length : Int) == 0) = false by rw [beq_eq_false_iff_ne]; omega]
        refine Ev.step (fun k => by rw [spec_PlaceOf.j0]) ?_
        rw [ew, Int.toNat_natCast, htl]
        exact ev_neg (by simp) (ev_pos (by omega) (ev_pos (by omega) h1))
    obtain ⟨R, h1, h2⟩ := hsp
    -- a place with this path is the answer
    have huni : ∀ a : Nat, a ≤ s.size → Ev (fun k => spec_l2Path.f k s (a : Int)) x → R = ((a : Int), true) := fun a ha he => by
      obtain ⟨o, r, hol, hst, hp, r1, r2⟩ := path_f s hd a ha
      have e := ev_unique r1 he
      subst e
      exact ev_unique h1 (spec_PlaceOf_at s hs hd a ha o r hol hst hp r1)
    refine ⟨R, h1, ?_⟩
    have loop : ∀ (d i : Nat), i + d = s.size + 1 → (∀ a : Nat, R = ((a : Int), true) → i ≤ a) → Ev (fun k => impl_PlaceOf.l0 k s x ((s.size + 1 : Nat) : Int) (i : Int)) R := by
      intro d
      induction d with
      | zero =>
        intro i hi ha
        refine Ev.step (fun k => by rw [impl_PlaceOf.l0]) ?_
        refine ev_neg (by omega) (ev_ret ?_)
        rcases h2 with h2 | ⟨a, h3, h4, h5⟩
        · exact h2.symm
        · have := ha a h4; omega
      | succ d ih =>
        intro i hi ha
        obtain ⟨o, r, hol, hst, hp, r1, r2⟩ := path_f s hd i (by omega)
        refine Ev.step (fun k => by rw [impl_PlaceOf.l0]) ?_
        refine ev_pos (by omega) (Ev.bind r2 (Ev.bind (equal_f r x hx) (ev_if (fun h => ev_ret ?_) (fun h => ?_))))
        · have h := of_decide_eq_true h
          subst h
          exact (huni i (by omega) r1).symm
        · rw [wrap_succ i (by omega)]
          refine ih (i + 1) (by omega) (fun a hra => ?_)
          have hia := ha a hra
          by_cases hc : i = a
          · subst hc
            rcases h2 with h2 | ⟨a', h3, h4, h5⟩
            · rw [hra] at h2; cases h2
            · rw [hra] at h4
              have : i = a' := by have := (Prod.mk.inj h4).1; omega
              subst this
              exact absurd (decide_eq_true (ev_unique r1 h5)) h
          · omega
    unfold impl_PlaceOf.f
    refine Ev.bind (impl_GoodDoc_f s hs) (ev_pos hd ?_)
    rw [wrap_succ s.size (by omega)]
    exact loop (s.size + 1) 0 (by omega) (fun a _ => Nat.zero_le _)
  · refine ⟨(0, false), ?_, ?_⟩
    · unfold spec_PlaceOf.f
      refine Ev.bind (spec_GoodDoc_f s hs) (ev_neg hd ?_)
      refine Ev.step (fun k => by rw [spec_PlaceOf.j0]) ?_
      exact ev_pos rfl (ev_ret rfl)
    · unfold impl_PlaceOf.f
      exact Ev.bind (impl_GoodDoc_f s hs) (ev_neg hd (ev_ret rfl))
theorem FnExactPlaceOf : laws_FnExactPlaceOf.Pure := by
  intro s x hs h1 h2 h3
  refine Ev.rounds ?_
  unfold laws_FnExactPlaceOf.f
  refine ev_if (fun _ => ev_ret rfl) (fun _ => ev_if (fun _ => ev_ret rfl) (fun hx => ?_))
  obtain ⟨R, r1, r2⟩ := PlaceOf_f s hs x (by omega)
  have ht := laws_toIntS_f x (by omega)
  refine Ev.bind ht (Ev.bind r1 (Ev.bind ht (Ev.bind r2 (ev_pos rfl ?_))))
  refine Ev.step (fun k => by rw [laws_FnExactPlaceOf.j0]) ?_
  exact ev_neg (by simp) (Ev.bind ht (Ev.bind (laws_eqIntS_f x (by omega)) (ev_pos rfl (ev_ret rfl))))

end Go.Proofs.Ytkdablilbbbihaa.Pure
