/- FnExactTreeOf over plain functions: at all texts the program's TreeOf and the reference's give one answer, which is the call's own; no condition. -/
import Derived.Test.YtkdablilbbbihaaPFnExactTreeOfx7
import Derived.Test.YtkdablilbbbihaaBase
namespace Go.Proofs.Ytkdablilbbbihaa.Pure
open Go.RowKit Go.Proofs.Ytkdablilbbbihaa.PFnExactTreeOf Go.Proofs.YtkdablilbbbihaaW.PrintWords Go.Proofs.YtkdablilbbbihaaW.PrintLast Go.Proofs.Ytkdablilbbbihaa.Base
set_option linter.unusedVariables false
set_option linter.unusedSimpArgs false

abbrev IN := S54
def izN : IN := z54
theorem rd_in (l : List IN) (i : Nat) : rd_T54 l (i : Int) = gt izN l i := rfl

theorem spec_l1Open_f (c : Int) : spec_l1Open.f c = some (openB c) := by
  unfold spec_l1Open.f openB; split <;> simp <;> omega
theorem spec_l1Plain_f (c : Int) : spec_l1Plain.f c = some (plainB c) := by
  unfold spec_l1Plain.f plainB
  repeat' split
  all_goals (rw [Option.some.injEq, Bool.eq_iff_iff]; simp only [Bool.or_eq_true, decide_eq_true_eq, beq_iff_eq, true_iff]; omega)
theorem spec_l1Text_l (s : ByteArray) (hs : s.size ≤ 140737488351232) (d : Nat) : ∀ i : Nat, i + d = s.size → Ev (fun k => spec_l1Text.l0 k s (i : Int)) (textB ((bytesOf s).drop i)) := by
  induction d with
  | zero =>
    intro i hi
    refine Ev.step (fun k => by rw [spec_l1Text.l0]) ?_
    refine ev_neg (by omega) (ev_ret ?_)
    rw [drop_end s i (by omega)]; rfl
  | succ d ih =>
    intro i hi
    refine Ev.step (fun k => by rw [spec_l1Text.l0]) ?_
    refine ev_pos (by omega) (ev_pos (by omega) (ev_eq (spec_l1Open_f _) ?_))
    rw [drop_bytes s i (by omega), wrap_succ i (by omega)]
    have ih' := ih (i + 1) (by omega)
    refine ev_if (fun h => ev_val ih' (by simp [textB, okB, h])) (fun h => ?_)
    refine ev_eq (spec_l1Plain_f _) (ev_if (fun h2 => ev_val ih' (by simp [textB, okB, h2])) (fun h2 => ?_))
    refine ev_if (fun h3 => ev_val ih' (by simp [textB, okB, h3])) (fun h3 => ev_ret ?_)
    simp [textB, okB, h, h2, h3]
theorem spec_l1Text_f (s : ByteArray) (hs : s.size ≤ 140737488351232) : Ev (fun k => spec_l1Text.f k s) (textB (bytesOf s)) :=
  spec_l1Text_l s hs s.size 0 (by omega)
theorem spec_GoodText_f (s : ByteArray) (hs : s.size ≤ 140737488351232) : Ev (fun k => spec_GoodText.f k s) (goodB (bytesOf s)) := by
  unfold spec_GoodText.f goodB
  refine Ev.bind (spec_l1Text_f s hs) (ev_if (fun h => ev_ret ?_) (fun h => ev_ret ?_))
  · rw [h, bytesOf_length, Bool.true_and]; congr 1; simp; omega
  · simp at h; simp [h]
theorem impl_isName_f (c : Int) : impl_isName.f c = some (openB c) := by
  unfold impl_isName.f openB; split <;> simp <;> omega
theorem impl_isPlain_f (c : Int) : impl_isPlain.f c = some (plainB c) := by
  unfold impl_isPlain.f plainB
  repeat' split
  all_goals (rw [Option.some.injEq, Bool.eq_iff_iff]; simp only [Bool.or_eq_true, decide_eq_true_eq, beq_iff_eq, true_iff]; omega)
theorem impl_GoodText_l (s : ByteArray) (hs : s.size ≤ 140737488351232) (d : Nat) : ∀ i : Nat, i + d = s.size → Ev (fun k => impl_GoodText.l0 k s (s.size : Int) (i : Int)) (textB ((bytesOf s).drop i) && decide (s.size ≤ 300)) := by
  induction d with
  | zero =>
    intro i hi
    refine Ev.step (fun k => by rw [impl_GoodText.l0]) ?_
    refine ev_neg (by omega) (ev_ret ?_)
    rw [drop_end s i (by omega)]; simp [textB]; omega
  | succ d ih =>
    intro i hi
    refine Ev.step (fun k => by rw [impl_GoodText.l0]) ?_
    refine ev_pos (by omega) (ev_pos (by omega) (ev_pos (by omega) (ev_eq (impl_isName_f _) ?_)))
    rw [drop_bytes s i (by omega), wrap_succ i (by omega)]
    have ih' := ih (i + 1) (by omega)
    refine ev_if (fun h => ev_val ih' (by simp [textB, okB, h])) (fun h => ?_)
    refine ev_eq (impl_isPlain_f _) (ev_if (fun h2 => ev_val ih' (by simp [textB, okB, h2])) (fun h2 => ?_))
    refine ev_if (fun h3 => ev_val ih' (by simp [textB, okB, h3])) (fun h3 => ev_ret ?_)
    simp [textB, okB, h, h2, h3]
theorem impl_GoodText_f (s : ByteArray) (hs : s.size ≤ 140737488351232) : Ev (fun k => impl_GoodText.f k s) (goodB (bytesOf s)) := by
  unfold impl_GoodText.f
  refine ev_val (impl_GoodText_l s hs s.size 0 (by omega)) ?_
  simp [goodB, bytesOf_length]

/-- How deep it is behind a byte. -/
def stepD (d c : Int) : Int := if openB c = true then d + 1 else if c = 47 then d - 1 else d
def balF : Int → List Int → Bool
  | d, [] => d == 0
  | d, c :: r => if 0 ≤ stepD d c ∧ stepD d c ≤ 12 then balF (stepD d c) r else false
def docB (l : List Int) : Bool := goodB l && balF 0 l
theorem open_not47 {c : Int} (h : openB c = true) : ¬ c = 47 := by
  unfold openB at h; have := of_decide_eq_true h; omega
theorem open_iff (c : Int) : openB c = true ↔ 65 ≤ c ∧ c ≤ 70 := by unfold openB; exact decide_eq_true_iff
theorem spec_l1Balanced_j (s : ByteArray) (hs : s.size ≤ 140737488351232) (i : Nat) (hi : i < s.size) (x : Int) (hx : 0 ≤ x ∧ x ≤ 13) (y : Int) (hy : y = if bt s (i : Int) = 47 then x - 1 else x)
    (ih : 0 ≤ y ∧ y ≤ 12 → Ev (fun k => spec_l1Balanced.l0 k s y ((i + 1 : Nat) : Int)) (balF y ((bytesOf s).drop (i + 1)))) :
    Ev (fun k => spec_l1Balanced.j1 k s x (i : Int)) (if 0 ≤ y ∧ y ≤ 12 then balF y ((bytesOf s).drop (i + 1)) else false) := by
  refine Ev.step (fun k => by rw [spec_l1Balanced.j1]) ?_
  refine ev_pos (by omega) (ev_pos (by omega) ?_)
  have e1 : wrap64 (x - 1) = x - 1 := wrap_id (by omega) (by omega)
  rw [e1, wrap_succ i (by omega)]
  refine ev_if (fun h => ?_) (fun h => ?_)
  · rw [if_pos h] at hy
    subst hy
    refine ev_if (fun h1 => ev_ret ?_) (fun h1 => ev_if (fun h2 => ev_ret ?_) (fun h2 => ?_))
    · rw [if_neg (by omega)]
    · rw [if_neg (by omega)]
    · rw [if_pos (by omega)]; exact ih (by omega)
  · rw [if_neg h] at hy
    subst hy
    refine ev_neg (by omega) (ev_if (fun h2 => ev_ret ?_) (fun h2 => ?_))
    · rw [if_neg (by omega)]
    · rw [if_pos (by omega)]; exact ih (by omega)
theorem spec_l1Balanced_l (s : ByteArray) (hs : s.size ≤ 140737488351232) (d : Nat) : ∀ (i : Nat) (x : Int), i + d = s.size → 0 ≤ x ∧ x ≤ 12 →
    Ev (fun k => spec_l1Balanced.l0 k s x (i : Int)) (balF x ((bytesOf s).drop i)) := by
  induction d with
  | zero =>
    intro i x hi hx
    refine Ev.step (fun k => by rw [spec_l1Balanced.l0]) ?_
    refine ev_neg (by omega) (ev_ret ?_)
    rw [drop_end s i (by omega)]; rfl
  | succ d ih =>
    intro i x hi hx
    refine Ev.step (fun k => by rw [spec_l1Balanced.l0]) ?_
    refine ev_pos (by omega) (ev_pos (by omega) (ev_eq (spec_l1Open_f _) ?_))
    rw [drop_bytes s i (by omega), balF]
    refine ev_if (fun h => ?_) (fun h => ?_)
    · have e1 : wrap64 (x + 1) = x + 1 := wrap_id (by omega) (by omega)
      have es : stepD x (bt s (i : Int)) = x + 1 := by unfold stepD; rw [if_pos h]
      rw [e1, es]
      exact spec_l1Balanced_j s hs i (by omega) (x + 1) (by omega) (x + 1) (by rw [if_neg (open_not47 h)]) (fun hy => ih (i + 1) _ (by omega) hy)
    · have es : stepD x (bt s (i : Int)) = if bt s (i : Int) = 47 then x - 1 else x := by unfold stepD; rw [if_neg h]
      rw [es]
      exact spec_l1Balanced_j s hs i (by omega) x (by omega) _ rfl (fun hy => ih (i + 1) _ (by omega) hy)
theorem spec_l1Balanced_f (s : ByteArray) (hs : s.size ≤ 140737488351232) : Ev (fun k => spec_l1Balanced.f k s) (balF 0 (bytesOf s)) :=
  spec_l1Balanced_l s hs s.size 0 0 (by omega) (by omega)
theorem spec_GoodDoc_f (s : ByteArray) (hs : s.size ≤ 140737488351232) : Ev (fun k => spec_GoodDoc.f k s) (docB (bytesOf s)) := by
  unfold spec_GoodDoc.f docB
  refine Ev.bind (spec_GoodText_f s hs) (ev_if (fun h => ?_) (fun h => ev_ret ?_))
  · rw [h, Bool.true_and]
    exact Ev.bind (spec_l1Balanced_f s hs) (ev_ret rfl)
  · simp only [Bool.not_eq_true] at h; rw [h]; rfl
/-- The program's stack of places is as high as it is deep. -/
theorem run_bal : ∀ (l : List Int) (i : Int) (o : List Int) (m : List (Int × Int)), o.length ≤ 12 →
    (impl_matches.end_ (impl_matches.run i l o m)).1 = balF (o.length : Int) l
  | [], i, o, m, _ => by
    show decide (o.length = 0) = ((o.length : Int) == 0)
    by_cases h : o.length = 0
    · simp [h]
    · rw [decide_eq_false h]; symm; exact beq_eq_false_iff_ne.mpr (by omega)
  | c :: r, i, o, m, ho => by
    rw [impl_matches.run, balF]
    by_cases h : 65 ≤ c ∧ c ≤ 70
    · have es : stepD (o.length : Int) c = (o.length : Int) + 1 := by unfold stepD; rw [if_pos ((open_iff c).2 h)]
      rw [if_pos h, es]
      have e2 : (o ++ [i]).length = o.length + 1 := by simp
      by_cases h2 : (o ++ [i]).length > 12
      · rw [if_pos h2, if_neg (by omega)]; rfl
      · rw [if_neg h2, if_pos (by omega), run_bal r (i + 1) (o ++ [i]) m (by omega), e2]; rfl
    · rw [if_neg h]
      have hno : ¬ openB c = true := fun e => h ((open_iff c).1 e)
      by_cases h2 : c = 47
      · have es : stepD (o.length : Int) c = (o.length : Int) - 1 := by unfold stepD; rw [if_neg hno, if_pos h2]
        rw [if_pos h2, es]
        by_cases h3 : o.length = 0
        · rw [if_pos h3, if_neg (by omega)]; rfl
        · have e2 : ((o.take (o.length - 1)).length : Int) = (o.length : Int) - 1 := by rw [List.length_take]; omega
          rw [if_neg h3, if_pos (by omega), run_bal r _ _ _ (by rw [List.length_take]; omega), e2]
      · have es : stepD (o.length : Int) c = (o.length : Int) := by unfold stepD; rw [if_neg hno, if_neg h2]
        rw [if_neg h2, es, if_pos (by omega)]
        exact run_bal r (i + 1) o m ho
theorem goodB_len {l : List Int} (h : goodB l = true) : l.length ≤ 300 := by
  unfold goodB at h; simp only [Bool.and_eq_true, decide_eq_true_eq] at h; exact h.2
def matchR (l : List Int) : Bool × List (Int × Int) := if goodB l = true then impl_matches.end_ (impl_matches.run 0 l [] []) else (false, [])
theorem impl_matches_f (s : ByteArray) (hs : s.size ≤ 140737488351232) : Ev (fun k => impl_matches.f k s) (matchR (bytesOf s)) := by
  unfold impl_matches.f matchR
  refine Ev.bind (impl_GoodText_f s hs) (ev_if (fun h => ?_) (fun h => ev_ret (by rw [if_neg h])))
  have := goodB_len h
  rw [bytesOf_length] at this
  rw [if_pos h]
  exact ev_pos this (ev_ret rfl)
theorem matchR_doc (l : List Int) : (matchR l).1 = docB l := by
  unfold matchR docB
  by_cases h : goodB l = true
  · rw [if_pos h, h, run_bal _ _ _ _ (by simp)]; rfl
  · rw [if_neg h]; simp only [Bool.not_eq_true] at h; rw [h]; rfl

/-- How deep it is behind j bytes. -/
def D (l : List Int) (j : Nat) : Int := (l.take j).foldl stepD 0
theorem D_zero (l : List Int) : D l 0 = 0 := by simp [D]
theorem D_succ (l : List Int) (j : Nat) (h : j < l.length) : D l (j + 1) = stepD (D l j) (gt 0 l j) := by
  unfold D; rw [gt_take 0 l j h, List.foldl_append]; rfl
theorem bt_gt (s : ByteArray) (i : Nat) : bt s (i : Int) = gt 0 (bytesOf s) i := by rw [← rd_bytesOf]; rfl
theorem step_open {d c : Int} (h : openB c = true) : stepD d c = d + 1 := by unfold stepD; rw [if_pos h]
theorem step_shut {d c : Int} (h : c = 47) : stepD d c = d - 1 := by
  unfold stepD; rw [if_neg (fun e => open_not47 e h), if_pos h]
theorem step_plain {d c : Int} (h : ¬ openB c = true) (h2 : ¬ c = 47) : stepD d c = d := by unfold stepD; rw [if_neg h, if_neg h2]
/-- An element begins at p and ends at q. -/
def Mt (l : List Int) (p q : Nat) : Prop := p < q ∧ q < l.length ∧ openB (gt 0 l p) = true ∧ gt 0 l q = 47 ∧ D l (q + 1) = D l p ∧ ∀ x, p < x → x ≤ q → D l p < D l x
structure Inv (l : List Int) (i : Nat) (o : List Int) (m : List (Int × Int)) : Prop where
  deep : (o.length : Int) = D l i
  stack : ∀ j, j < o.length → ∃ pn : Nat, gt 0 o j = (pn : Int) ∧ pn < i ∧ openB (gt 0 l pn) = true ∧ D l pn = (j : Int) ∧ ∀ x, pn < x → x ≤ i → (j : Int) < D l x
  pairs : ∀ a b : Int, m.lookup a = some b → ∃ an bn : Nat, a = (an : Int) ∧ b = (bn : Int) ∧ (Mt l an bn ∨ Mt l bn an)
  opens : ∀ an, an < i → openB (gt 0 l an) = true → (∃ j, j < o.length ∧ gt 0 o j = (an : Int)) ∨ (m.lookup (an : Int)).isSome = true
  shuts : ∀ an, an < i → gt 0 l an = 47 → (m.lookup (an : Int)).isSome = true
theorem inv_start (l : List Int) : Inv l 0 [] [] :=
  ⟨by simp [D_zero], fun j h => by simp at h, fun a b h => by simp at h, fun an h => by omega, fun an h => by omega⟩
theorem lookup_cons_some (a x v : Int) (m : List (Int × Int)) (h : (m.lookup a).isSome = true) : (((x, v) :: m).lookup a).isSome = true := by
  rw [List.lookup_cons]; cases a == x <;> simp [h]
theorem gt_app_l {α : Type} (z : α) (a b : List α) (j : Nat) (h : j < a.length) : gt z (a ++ b) j = gt z a j := by
  unfold gt; rw [List.getD_eq_getElem?_getD, List.getElem?_append_left h, ← List.getD_eq_getElem?_getD]
theorem gt_app_e {α : Type} (z v : α) (a : List α) : gt z (a ++ [v]) a.length = v := by
  unfold gt; rw [List.getD_eq_getElem?_getD, List.getElem?_append_right (Nat.le_refl _)]; simp
theorem gt_takeL {α : Type} (z : α) (a : List α) (n j : Nat) (h : j < n) : gt z (a.take n) j = gt z a j := by
  unfold gt; rw [List.getD_eq_getElem?_getD, List.getElem?_take_of_lt h, ← List.getD_eq_getElem?_getD]
theorem run_inv (l : List Int) (d : Nat) : ∀ (i : Nat) (o : List Int) (m : List (Int × Int)), i + d = l.length → Inv l i o m → ∀ o' m', impl_matches.run (i : Int) (l.drop i) o m = some (o', m') → Inv l l.length o' m' := by
  induction d with
  | zero =>
    intro i o m hi hv o' m' h
    rw [List.drop_eq_nil_of_le (by omega)] at h
    have h' : some (o, m) = some (o', m') := h
    obtain ⟨rfl, rfl⟩ := Prod.mk.inj (Option.some.inj h')
    have : i = l.length := by omega
    subst this; exact hv
  | succ d ih =>
    intro i o m hi hv o' m' h
    have hD := D_succ l i (by omega)
    have hdeep := hv.deep
    rw [gt_drop 0 l i (by omega), impl_matches.run] at h
    have ei : (i : Int) + 1 = ((i + 1 : Nat) : Int) := by omega
    rw [ei] at h
    by_cases h1 : 65 ≤ gt 0 l i ∧ gt 0 l i ≤ 70
    · rw [if_pos h1] at h
      have ho := (open_iff _).2 h1
      rw [step_open ho] at hD
      by_cases h2 : (o ++ [(i : Int)]).length > 12
      · rw [if_pos h2] at h; cases h
      · rw [if_neg h2] at h
        refine ih (i + 1) _ _ (by omega) ⟨by rw [hD, List.length_append, List.length_singleton]; omega, fun j hj => ?_, hv.pairs, fun an ha hoa => ?_, fun an ha h47 => ?_⟩ o' m' h
        · by_cases hj2 : j < o.length
          · obtain ⟨pn, e1, e2, e3, e4, e5⟩ := hv.stack j hj2
            refine ⟨pn, by rw [gt_app_l _ _ _ _ hj2]; exact e1, by omega, e3, e4, fun x hx hx2 => ?_⟩
            by_cases hx3 : x ≤ i
            · exact e5 x hx hx3
            · have : x = i + 1 := by omega
              subst this; rw [hD]; omega
          · have hj3 : j = o.length := by rw [List.length_append, List.length_singleton] at hj; omega
            subst hj3
            refine ⟨i, gt_app_e _ _ _, by omega, ho, by omega, fun x hx hx2 => ?_⟩
            have : x = i + 1 := by omega
            subst this; rw [hD]; omega
        · by_cases ha2 : an < i
          · rcases hv.opens an ha2 hoa with ⟨j, hj, hj2⟩ | hl
            · exact .inl ⟨j, by rw [List.length_append]; omega, by rw [gt_app_l _ _ _ _ hj]; exact hj2⟩
            · exact .inr hl
          · have : an = i := by omega
            subst this
            exact .inl ⟨o.length, by rw [List.length_append, List.length_singleton]; omega, gt_app_e _ _ _⟩
        · by_cases ha2 : an < i
          · exact hv.shuts an ha2 h47
          · have : an = i := by omega
            subst this; exact absurd h47 (open_not47 ho)
    · rw [if_neg h1] at h
      have hno : ¬ openB (gt 0 l i) = true := fun e => h1 ((open_iff _).1 e)
      by_cases h2 : gt 0 l i = 47
      · rw [if_pos h2] at h
        rw [step_shut h2] at hD
        by_cases h3 : o.length = 0
        · rw [if_pos h3] at h; cases h
        · rw [if_neg h3] at h
          obtain ⟨pn, e1, e2, e3, e4, e5⟩ := hv.stack (o.length - 1) (by omega)
          have er : rd o ((o.length : Int) - 1) = (pn : Int) := by
            have : (o.length : Int) - 1 = ((o.length - 1 : Nat) : Int) := by omega
            rw [this]; exact e1
          rw [er] at h
          have hmt : Mt l pn i := ⟨e2, by omega, e3, h2, by omega, fun x hx hx2 => by have := e5 x hx hx2; omega⟩
          refine ih (i + 1) _ _ (by omega) ⟨by rw [hD, List.length_take]; omega, fun j hj => ?_, fun a b hab => ?_, fun an ha hoa => ?_, fun an ha h47 => ?_⟩ o' m' h
          · have hj2 : j < o.length - 1 := by rw [List.length_take] at hj; omega
            obtain ⟨qn, f1, f2, f3, f4, f5⟩ := hv.stack j (by omega)
            refine ⟨qn, by rw [gt_takeL _ _ _ _ hj2]; exact f1, by omega, f3, f4, fun x hx hx2 => ?_⟩
            by_cases hx3 : x ≤ i
            · exact f5 x hx hx3
            · have : x = i + 1 := by omega
              subst this; rw [hD]; omega
          · rw [List.lookup_cons] at hab
            by_cases ha : a = (pn : Int)
            · subst ha
              rw [beq_self_eq_true] at hab
              have hb : (i : Int) = b := Option.some.inj hab
              exact ⟨pn, i, rfl, hb.symm, .inl hmt⟩
            · rw [beq_eq_false_iff_ne.mpr ha] at hab
              simp only [List.lookup_cons] at hab
              by_cases ha2 : a = (i : Int)
              · subst ha2
                rw [beq_self_eq_true] at hab
                have hb : (pn : Int) = b := Option.some.inj hab
                exact ⟨i, pn, rfl, hb.symm, .inr hmt⟩
              · rw [beq_eq_false_iff_ne.mpr ha2] at hab
                exact hv.pairs a b hab
          · by_cases ha2 : an < i
            · rcases hv.opens an ha2 hoa with ⟨j, hj, hj2⟩ | hl
              · by_cases hj3 : j < o.length - 1
                · exact .inl ⟨j, by rw [List.length_take]; omega, by rw [gt_takeL _ _ _ _ hj3]; exact hj2⟩
                · have : j = o.length - 1 := by omega
                  subst this
                  right
                  rw [← hj2, e1, List.lookup_cons_self]; rfl
              · exact .inr (lookup_cons_some _ _ _ _ (lookup_cons_some _ _ _ _ hl))
            · have : an = i := by omega
              subst this; exact absurd h2 (open_not47 hoa)
          · by_cases ha2 : an < i
            · exact lookup_cons_some _ _ _ _ (lookup_cons_some _ _ _ _ (hv.shuts an ha2 h47))
            · have : an = i := by omega
              subst this
              exact lookup_cons_some _ _ _ _ (by rw [List.lookup_cons_self]; rfl)
      · rw [if_neg h2] at h
        rw [step_plain hno h2] at hD
        refine ih (i + 1) _ _ (by omega) ⟨by omega, fun j hj => ?_, hv.pairs, fun an ha hoa => ?_, fun an ha h47 => ?_⟩ o' m' h
        · obtain ⟨pn, e1, e2, e3, e4, e5⟩ := hv.stack j hj
          refine ⟨pn, e1, by omega, e3, e4, fun x hx hx2 => ?_⟩
          by_cases hx3 : x ≤ i
          · exact e5 x hx hx3
          · have : x = i + 1 := by omega
            subst this; rw [hD]; omega
        · by_cases ha2 : an < i
          · exact hv.opens an ha2 hoa
          · have : an = i := by omega
            subst this; exact absurd hoa hno
        · by_cases ha2 : an < i
          · exact hv.shuts an ha2 h47
          · have : an = i := by omega
            subst this; exact absurd h47 h2
/-- What the program's pairs tell of a document. -/
theorem matchR_pairs {l : List Int} (h : docB l = true) : ∃ m, matchR l = (true, m) ∧
    (∀ a b : Int, m.lookup a = some b → ∃ an bn : Nat, a = (an : Int) ∧ b = (bn : Int) ∧ (Mt l an bn ∨ Mt l bn an)) ∧
    (∀ an, an < l.length → (openB (gt 0 l an) = true ∨ gt 0 l an = 47) → (m.lookup (an : Int)).isSome = true) := by
  have hd := matchR_doc l
  rw [h] at hd
  have hg : goodB l = true := by unfold docB at h; simp only [Bool.and_eq_true] at h; exact h.1
  unfold matchR at hd ⊢
  rw [if_pos hg] at hd ⊢
  cases hr : impl_matches.run 0 l [] [] with
  | none => rw [hr] at hd; cases hd
  | some x =>
    obtain ⟨o, m⟩ := x
    rw [hr] at hd
    have ho : o.length = 0 := of_decide_eq_true hd
    have hv := run_inv l l.length 0 [] [] (by omega) (inv_start l) o m (by rw [List.drop_zero]; exact hr)
    refine ⟨m, ?_, hv.pairs, fun an ha hx => ?_⟩
    · show (decide (o.length = 0), m) = (true, m)
      rw [decide_eq_true ho]
    · rcases hx with hx | hx
      · rcases hv.opens an ha hx with ⟨j, hj, _⟩ | hl
        · omega
        · exact hl
      · exact hv.shuts an ha hx
theorem Mt_fun {l : List Int} {p q q' : Nat} (h : Mt l p q) (h' : Mt l p q') : q = q' := by
  rcases Nat.lt_trichotomy q q' with c | c | c
  · have := h'.2.2.2.2.2 (q + 1) (by have := h.1; omega) (by omega)
    have := h.2.2.2.2.1; omega
  · exact c
  · have := h.2.2.2.2.2 (q' + 1) (by have := h'.1; omega) (by omega)
    have := h'.2.2.2.2.1; omega
theorem D_bound (l : List Int) : ∀ j, j ≤ l.length → -(j : Int) ≤ D l j ∧ D l j ≤ (j : Int)
  | 0, _ => by rw [D_zero]; omega
  | j + 1, h => by
    have ih := D_bound l j (by omega)
    rw [D_succ l j (by omega)]
    unfold stepD; split
    · omega
    · split <;> omega
theorem doc_len {s : ByteArray} (h : docB (bytesOf s) = true) : s.size ≤ 300 := by
  unfold docB at h; simp only [Bool.and_eq_true] at h
  have := goodB_len h.1
  rwa [bytesOf_length] at this
theorem good_byte {l : List Int} (h : goodB l = true) (i : Nat) (hi : i < l.length) : openB (gt 0 l i) = true ∨ plainB (gt 0 l i) = true ∨ gt 0 l i = 47 := by
  unfold goodB textB at h
  simp only [Bool.and_eq_true, List.all_eq_true] at h
  have := h.1 _ (gt_mem 0 l i hi)
  unfold okB at this
  simp only [Bool.or_eq_true, decide_eq_true_eq] at this
  rcases this with (h | h) | h
  · exact .inl h
  · exact .inr (.inl h)
  · exact .inr (.inr h)
theorem plain_not {c : Int} (h : plainB c = true) : ¬ openB c = true ∧ ¬ c = 47 := by
  unfold plainB at h
  simp only [Bool.or_eq_true, decide_eq_true_eq] at h
  constructor
  · rw [open_iff]; omega
  · omega

theorem impl_GoodDoc_f (s : ByteArray) (hs : s.size ≤ 140737488351232) : Ev (fun k => impl_GoodDoc.f k s) (docB (bytesOf s)) := by
  unfold impl_GoodDoc.f
  rw [← matchR_doc]
  exact Ev.bind (impl_matches_f s hs) (ev_ret rfl)

theorem balF_nonneg : ∀ (l : List Int) (d : Int), 0 ≤ d → balF d l = true → ∀ j, j ≤ l.length → 0 ≤ (l.take j).foldl stepD d
  | [], d, h0, _, j, _ => by simpa using h0
  | c :: r, d, h0, h, j, hj => by
    rw [balF] at h
    by_cases hc : 0 ≤ stepD d c ∧ stepD d c ≤ 12
    · rw [if_pos hc] at h
      cases j with
      | zero => simpa using h0
      | succ j =>
        rw [List.take_succ_cons, List.foldl_cons]
        exact balF_nonneg r _ hc.1 h j (by simpa using hj)
    · rw [if_neg hc] at h; cases h
theorem D_nonneg {l : List Int} (h : docB l = true) (j : Nat) (hj : j ≤ l.length) : 0 ≤ D l j := by
  unfold docB at h; simp only [Bool.and_eq_true] at h
  exact balF_nonneg l 0 (Int.le_refl _) h.2 j hj

theorem bytesOf_extract (s : ByteArray) (a b : Nat) : bytesOf (s.extract a b) = ((bytesOf s).take b).drop a := by
  unfold bytesOf
  rw [ByteArray.data_extract, Array.toList_extract]
  simp only [List.extract_eq_take_drop, List.map_take, List.map_drop, List.drop_take]
theorem size_extract (s : ByteArray) (a b : Nat) (hb : b ≤ s.size) : (s.extract a b).size = b - a := by
  rw [ByteArray.size_extract]; omega

/-- An element that begins ends. -/
theorem open_mt {l : List Int} (h : docB l = true) (i : Nat) (hi : i < l.length) (ho : openB (gt 0 l i) = true) : ∃ q, Mt l i q := by
  obtain ⟨m, _, h1, h2⟩ := matchR_pairs h
  have hs := h2 i hi (.inl ho)
  obtain ⟨b, hb⟩ := Option.isSome_iff_exists.1 hs
  obtain ⟨an, bn, e1, _, e3⟩ := h1 _ _ hb
  have : i = an := by omega
  subst this
  rcases e3 with e3 | e3
  · exact ⟨bn, e3⟩
  · exact absurd e3.2.2.2.1 (open_not47 ho)
/-- A text that is what stands from b to e. -/
structure Sub (l : List Int) (u : ByteArray) (b e : Nat) : Prop where
  size : u.size = e - b
  le : b ≤ e
  len : e ≤ l.length
  at_ : ∀ x, x < e - b → gt 0 (bytesOf u) x = gt 0 l (b + x)
theorem Sub.whole (s : ByteArray) : Sub (bytesOf s) s 0 s.size := ⟨rfl, Nat.zero_le _, by rw [bytesOf_length]; exact Nat.le_refl _, fun x _ => by rw [Nat.zero_add]⟩
theorem gt_extract (s : ByteArray) (a b x : Nat) (h : x < b - a) : gt 0 (bytesOf (s.extract a b)) x = gt 0 (bytesOf s) (a + x) := by
  rw [bytesOf_extract]; unfold gt
  rw [List.getD_eq_getElem?_getD, List.getD_eq_getElem?_getD, List.getElem?_drop, List.getElem?_take_of_lt (by omega)]
theorem Sub.sub {l : List Int} {u : ByteArray} {b e : Nat} (h : Sub l u b e) (x y : Nat) (hx : b ≤ x) (hxy : x ≤ y) (hy : y ≤ e) : Sub l (u.extract (x - b) (y - b)) x y := by
  have := h.size; have := h.le; have := h.len
  refine ⟨by rw [size_extract _ _ _ (by omega)]; omega, hxy, by omega, fun z hz => ?_⟩
  rw [gt_extract _ _ _ _ (by omega), h.at_ _ (by omega)]
  congr 1; omega
theorem Sub.deep {l : List Int} {u : ByteArray} {b e : Nat} (h : Sub l u b e) : ∀ x, x ≤ e - b → D (bytesOf u) x = D l (b + x) - D l b
  | 0, _ => by rw [D_zero, Nat.add_zero, Int.sub_self]
  | x + 1, hx => by
    have h1 := h.size; have h2 := h.le; have h3 := h.len
    have ih := h.deep x (by omega)
    rw [D_succ _ _ (by rw [bytesOf_length]; omega), ih, h.at_ x (by omega), show b + (x + 1) = (b + x) + 1 by omega, D_succ l _ (by omega)]
    unfold stepD; split
    · omega
    · split <;> omega
theorem Sub.mt {l : List Int} {u : ByteArray} {b e p q : Nat} (h : Sub l u b e) (hm : Mt l p q) (hp : b ≤ p) (hq : q < e) : Mt (bytesOf u) (p - b) (q - b) := by
  have h1 := h.size; have h2 := h.le; have h3 := h.len
  obtain ⟨m1, m2, m3, m4, m5, m6⟩ := hm
  refine ⟨by omega, by rw [bytesOf_length]; omega, ?_, ?_, ?_, fun x hx hx2 => ?_⟩
  · rw [h.at_ _ (by omega), show b + (p - b) = p by omega]; exact m3
  · rw [h.at_ _ (by omega), show b + (q - b) = q by omega]; exact m4
  · rw [h.deep _ (by omega), h.deep _ (by omega), show b + (q - b + 1) = q + 1 by omega, show b + (p - b) = p by omega]; omega
  · rw [h.deep _ (by omega), h.deep _ (by omega), show b + (p - b) = p by omega]
    have := m6 (b + x) (by omega) (by omega); omega
theorem bytes_inj {a b : ByteArray} (h : bytesOf a = bytesOf b) : a = b := by
  unfold bytesOf at h
  apply ByteArray.ext
  apply Array.toList_inj.1
  refine (List.map_inj_right ?_).1 h
  intro x y hxy
  exact UInt8.toNat_inj.1 (by omega)
theorem gt_get (l : List Int) (z : Nat) (h : z < l.length) : l[z] = gt 0 l z := by
  unfold gt; rw [List.getD_eq_getElem?_getD, List.getElem?_eq_getElem h]; rfl
theorem Sub.cut {s u : ByteArray} {b e : Nat} (h : Sub (bytesOf s) u b e) (x y : Nat) (hx : b ≤ x) (hxy : x ≤ y) (hy : y ≤ e) : u.extract (x - b) (y - b) = s.extract x y := by
  have h1 := h.size; have h2 := h.le; have h3 := h.len
  rw [bytesOf_length] at h3
  apply bytes_inj
  have l1 : (bytesOf (u.extract (x - b) (y - b))).length = y - x := by rw [bytesOf_length, size_extract _ _ _ (by omega)]; omega
  have l2 : (bytesOf (s.extract x y)).length = y - x := by rw [bytesOf_length, size_extract _ _ _ (by omega)]
  refine List.ext_getElem (by omega) (fun z z1 z2 => ?_)
  rw [gt_get _ _ z1, gt_get _ _ z2, gt_extract _ _ _ _ (by omega), gt_extract _ _ _ _ (by omega), h.at_ _ (by omega)]
  congr 1; omega
/-- Elements nest. -/
theorem mt_nest {l : List Int} {p q i q' : Nat} (hm : Mt l p q) (hm' : Mt l i q') (h1 : p < i) (h2 : i < q) : q' < q := by
  have hx := hm.2.2.2.2.2 i h1 (by omega)
  have hq' := hm'.2.2.2.2.1
  have hDq := hm.2.2.2.2.1
  have hl := hm'.1
  apply Nat.lt_of_not_le
  intro hc
  have := hm'.2.2.2.2.2 q h2 hc
  by_cases hqq : q' = q
  · subst hqq; omega
  · have := hm'.2.2.2.2.2 (q + 1) (by omega) (by omega)
    omega
theorem Mt_len' {s : ByteArray} {p q : Nat} (h : Mt (bytesOf s) p q) : p < q ∧ q < s.size := by
  have := h.2.1; rw [bytesOf_length] at this; exact ⟨h.1, this⟩

theorem spec_l1Match_j3 (s : ByteArray) (hs : s.size ≤ 300) (i : Nat) (hi : i < s.size) (st x y : Int) (hst : st = 1 ∨ st = -1) (hx : -1000 ≤ x ∧ x ≤ 1000) (hy : y = if bt s (i : Int) = 47 then x - st else x) {r : Int}
    (h : if y = 0 then r = (i : Int) else Ev (fun k => spec_l1Match.l0 k s st y ((i : Int) + st)) r) : Ev (fun k => spec_l1Match.j3 k s st x (i : Int)) r := by
  refine Ev.step (fun k => by rw [spec_l1Match.j3]) ?_
  refine ev_pos (by omega) (ev_pos (by omega) ?_)
  have e1 : wrap64 (x - st) = x - st := wrap_id (by omega) (by omega)
  have e2 : wrap64 ((i : Int) + st) = (i : Int) + st := wrap_id (by omega) (by omega)
  rw [e1, e2]
  refine ev_if (fun h1 => ?_) (fun h1 => ?_)
  · rw [if_pos h1] at hy
    subst hy
    refine ev_if (fun h2 => ev_ret ?_) (fun h2 => ?_)
    · rw [if_pos h2] at h; exact h.symm
    · rw [if_neg h2] at h; exact h
  · rw [if_neg h1] at hy
    subst hy
    refine ev_if (fun h2 => ev_ret ?_) (fun h2 => ?_)
    · rw [if_pos h2] at h; exact h.symm
    · rw [if_neg h2] at h; exact h
theorem spec_l1Match_l0 (s : ByteArray) (hs : s.size ≤ 300) (i : Nat) (hi : i < s.size) (st x y : Int) (hst : st = 1 ∨ st = -1) (hx : -999 ≤ x ∧ x ≤ 999) (hy : y = if openB (bt s (i : Int)) = true then x + st else if bt s (i : Int) = 47 then x - st else x) {r : Int}
    (h : if y = 0 then r = (i : Int) else Ev (fun k => spec_l1Match.l0 k s st y ((i : Int) + st)) r) : Ev (fun k => spec_l1Match.l0 k s st x (i : Int)) r := by
  refine Ev.step (fun k => by rw [spec_l1Match.l0]) ?_
  refine ev_pos (by omega) ?_
  rw [decide_eq_true (show (i : Int) < (s.size : Int) by omega)]
  refine Ev.step (fun k => by rw [spec_l1Match.j2]) ?_
  refine ev_pos rfl (ev_pos (by omega) (ev_pos (by omega) (ev_eq (spec_l1Open_f _) ?_)))
  refine ev_if (fun h1 => ?_) (fun h1 => ?_)
  · have e1 : wrap64 (x + st) = x + st := wrap_id (by omega) (by omega)
    rw [e1]
    rw [if_pos h1] at hy
    exact spec_l1Match_j3 s hs i hi st (x + st) y hst (by omega) (by rw [if_neg (open_not47 h1)]; exact hy) h
  · rw [if_neg h1] at hy
    exact spec_l1Match_j3 s hs i hi st x y hst (by omega) hy h
theorem match_fwd (s : ByteArray) (hs : s.size ≤ 300) (p q : Nat) (h : Mt (bytesOf s) p q) (d : Nat) : ∀ i, i + d = q → p ≤ i →
    Ev (fun k => spec_l1Match.l0 k s 1 (D (bytesOf s) i - D (bytesOf s) p) (i : Int)) (q : Int) := by
  obtain ⟨h1, h2, h3, h4, h5, h6⟩ := h
  have hlen := bytesOf_length s
  induction d with
  | zero =>
    intro i hi hp
    have : i = q := by omega
    subst this
    have b1 := D_bound (bytesOf s) i (by omega)
    have b2 := D_bound (bytesOf s) p (by omega)
    have hD := D_succ (bytesOf s) i h2
    rw [step_shut h4] at hD
    refine spec_l1Match_l0 s hs i (by omega) 1 _ (D (bytesOf s) (i + 1) - D (bytesOf s) p) (.inl rfl) (by omega) ?_ ?_
    · rw [bt_gt, if_neg (fun e => open_not47 e h4), if_pos h4]; omega
    · rw [if_pos (by omega)]
  | succ d ih =>
    intro i hi hp
    have b1 := D_bound (bytesOf s) i (by omega)
    have b2 := D_bound (bytesOf s) p (by omega)
    have hD := D_succ (bytesOf s) i (by omega)
    have hx := h6 (i + 1) (by omega) (by omega)
    refine spec_l1Match_l0 s hs i (by omega) 1 _ (D (bytesOf s) (i + 1) - D (bytesOf s) p) (.inl rfl) (by omega) ?_ ?_
    · rw [bt_gt, hD]; unfold stepD; split
      · omega
      · split <;> omega
    · rw [if_neg (by omega)]
      have e : (i : Int) + 1 = ((i + 1 : Nat) : Int) := by omega
      rw [e]; exact ih (i + 1) (by omega) (by omega)
theorem match_bwd (s : ByteArray) (hs : s.size ≤ 300) (p q : Nat) (h : Mt (bytesOf s) p q) (d : Nat) : ∀ i, i = p + d → i ≤ q →
    Ev (fun k => spec_l1Match.l0 k s (-1) (D (bytesOf s) (i + 1) - D (bytesOf s) (q + 1)) (i : Int)) (p : Int) := by
  obtain ⟨h1, h2, h3, h4, h5, h6⟩ := h
  have hlen := bytesOf_length s
  induction d with
  | zero =>
    intro i hi hp
    have : i = p := by omega
    subst this
    have b1 := D_bound (bytesOf s) (i + 1) (by omega)
    have b2 := D_bound (bytesOf s) (q + 1) (by omega)
    have hD := D_succ (bytesOf s) i (by omega)
    rw [step_open h3] at hD
    refine spec_l1Match_l0 s hs i (by omega) (-1) _ (D (bytesOf s) i - D (bytesOf s) (q + 1)) (.inr rfl) (by omega) ?_ ?_
    · rw [bt_gt, if_pos h3]; omega
    · rw [if_pos (by omega)]
  | succ d ih =>
    intro i hi hp
    have b1 := D_bound (bytesOf s) (i + 1) (by omega)
    have b2 := D_bound (bytesOf s) (q + 1) (by omega)
    have hD := D_succ (bytesOf s) i (by omega)
    have hx := h6 i (by omega) (by omega)
    refine spec_l1Match_l0 s hs i (by omega) (-1) _ (D (bytesOf s) i - D (bytesOf s) (q + 1)) (.inr rfl) (by omega) ?_ ?_
    · rw [bt_gt]; rw [hD]; unfold stepD; split
      · omega
      · split <;> omega
    · rw [if_neg (by omega)]
      have e : (i : Int) + (-1) = ((i - 1 : Nat) : Int) := by omega
      have e2 := ih (i - 1) (by omega) (by omega)
      rw [show i - 1 + 1 = i by omega] at e2
      rw [e]; exact e2
/-- The reference finds it, both ways. -/
theorem spec_l1Match_open (s : ByteArray) (hs : s.size ≤ 300) (p q : Nat) (h : Mt (bytesOf s) p q) : Ev (fun k => spec_l1Match.f k s (p : Int)) (q : Int) := by
  have hlen := bytesOf_length s
  have h1 := h.1; have h2 := h.2.1
  unfold spec_l1Match.f
  refine ev_pos (by omega) (ev_pos (by omega) (ev_neg (by rw [bt_gt]; exact open_not47 h.2.2.1) ?_))
  refine Ev.step (fun k => by rw [spec_l1Match.j0]) ?_
  have := match_fwd s hs p q h (q - p) p (by omega) (Nat.le_refl _)
  rw [Int.sub_self] at this
  exact this
theorem spec_l1Match_shut (s : ByteArray) (hs : s.size ≤ 300) (p q : Nat) (h : Mt (bytesOf s) p q) : Ev (fun k => spec_l1Match.f k s (q : Int)) (p : Int) := by
  have hlen := bytesOf_length s
  have h1 := h.1; have h2 := h.2.1
  unfold spec_l1Match.f
  refine ev_pos (by omega) (ev_pos (by omega) (ev_pos (by rw [bt_gt]; exact h.2.2.2.1) ?_))
  refine Ev.step (fun k => by rw [spec_l1Match.j0]) ?_
  have := match_bwd s hs p q h (q - p) q (by omega) (Nat.le_refl _)
  rw [Int.sub_self] at this
  exact this

/-- A run of plain bytes, by both. -/
theorem tree_run (s u : ByteArray) (hd : docB (bytesOf s) = true) (b e : Nat) (hu : Sub (bytesOf s) u b e) (hend : e = s.size ∨ gt 0 (bytesOf s) e = 47) (out : List IN) (up : Int) (hl : out.length ≤ 100000) (f : Nat) (hf : b ≤ f) (d : Nat) :
    ∀ i, e - i ≤ d → f ≤ i → i ≤ e → ∃ t, i ≤ t ∧ t ≤ e ∧ D (bytesOf s) t = D (bytesOf s) i ∧ (i < e → plainB (gt 0 (bytesOf s) i) = true → i < t) ∧
      (∀ r, Ev (fun k => spec_l2Parse.l0 k (out ++ [⟨⟨#[]⟩, s.extract f t, up⟩]) u up ((t - b : Nat) : Int)) r → Ev (fun k => spec_l2Parse.l1 k out u up ((f - b : Nat) : Int) ((i - b : Nat) : Int)) r) ∧
      (∀ r, Ev (fun k => impl_treeOf.l0 k s (out ++ [⟨⟨#[]⟩, s.extract f t, up⟩]) up (t : Int)) r → Ev (fun k => impl_treeOf.l1 k s out up (i : Int) (f : Int)) r) := by
  have hlen := bytesOf_length s
  have h300 := doc_len hd
  have hsz := hu.size; have hle := hu.le; have hel := hu.len
  have stop : ∀ i, f ≤ i → i ≤ e → (i = e ∨ plainB (gt 0 (bytesOf s) i) = false) →
      (∀ r, Ev (fun k => spec_l2Parse.l0 k (out ++ [⟨⟨#[]⟩, s.extract f i, up⟩]) u up ((i - b : Nat) : Int)) r → Ev (fun k => spec_l2Parse.l1 k out u up ((f - b : Nat) : Int) ((i - b : Nat) : Int)) r) ∧
      (∀ r, Ev (fun k => impl_treeOf.l0 k s (out ++ [⟨⟨#[]⟩, s.extract f i, up⟩]) up (i : Int)) r → Ev (fun k => impl_treeOf.l1 k s out up (i : Int) (f : Int)) r) := by
    intro i hfi hie hc
    have ec : u.extract (f - b) (i - b) = s.extract f i := hu.cut f i hf hfi hie
    constructor
    · intro r h
      refine Ev.step (fun k => by rw [spec_l2Parse.l1]) ?_
      rw [Int.toNat_natCast, Int.toNat_natCast, ec]
      refine ev_if (fun h1 => ev_pos (by omega) (ev_eq (spec_l1Plain_f _) (ev_neg ?_ (ev_pos (by omega) (ev_pos (by omega) (ev_pos (by omega) (ev_pos (by omega) h))))))) (fun h1 => ev_pos (by omega) (ev_pos (by omega) (ev_pos (by omega) (ev_pos (by omega) h))))
      rw [bt_gt, hu.at_ _ (by omega), show b + (i - b) = i by omega]
      rcases hc with hc | hc
      · omega
      · rw [hc]; simp
    · intro r h
      refine Ev.step (fun k => by rw [impl_treeOf.l1]) ?_
      rw [Int.toNat_natCast, Int.toNat_natCast]
      refine ev_if (fun h1 => ev_pos (by omega) (ev_eq (impl_isPlain_f _) (ev_neg ?_ (ev_pos (by omega) (ev_pos (by omega) (ev_pos (by omega) (ev_pos (by omega) h))))))) (fun h1 => ev_pos (by omega) (ev_pos (by omega) (ev_pos (by omega) (ev_pos (by omega) h))))
      rw [bt_gt]
      rcases hc with hc | hc
      · subst hc
        rcases hend with he | he
        · omega
        · intro q; exact (plain_not q).2 he
      · rw [hc]; simp
  induction d with
  | zero =>
    intro i hd0 hfi hie
    have : i = e := by omega
    subst this
    obtain ⟨s1, s2⟩ := stop i hfi hie (.inl rfl)
    exact ⟨i, Nat.le_refl _, hie, rfl, fun h => by omega, s1, s2⟩
  | succ d ih =>
    intro i hd0 hfi hie
    by_cases hc : i < e ∧ plainB (gt 0 (bytesOf s) i) = true
    · obtain ⟨hc1, hc2⟩ := hc
      obtain ⟨t, t1, t2, t3, _, t5, t6⟩ := ih (i + 1) (by omega) (by omega) (by omega)
      have hD := D_succ (bytesOf s) i (by omega)
      rw [step_plain (plain_not hc2).1 (plain_not hc2).2] at hD
      refine ⟨t, by omega, t2, by omega, fun _ _ => by omega, fun r h => ?_, fun r h => ?_⟩
      · refine Ev.step (fun k => by rw [spec_l2Parse.l1]) ?_
        refine ev_pos (by omega) (ev_pos (by omega) (ev_eq (spec_l1Plain_f _) (ev_pos ?_ ?_)))
        · rw [bt_gt, hu.at_ _ (by omega), show b + (i - b) = i by omega]; exact hc2
        · rw [wrap_succ (i - b) (by omega), show i - b + 1 = i + 1 - b by omega]; exact t5 r h
      · refine Ev.step (fun k => by rw [impl_treeOf.l1]) ?_
        refine ev_pos (by omega) (ev_pos (by omega) (ev_eq (impl_isPlain_f _) (ev_pos (by rw [bt_gt]; exact hc2) ?_)))
        rw [wrap_succ i (by omega)]; exact t6 r h
    · obtain ⟨s1, s2⟩ := stop i hfi hie (by
        by_cases h : i = e
        · exact .inl h
        · exact .inr (by rw [← Bool.not_eq_true]; exact fun q => hc ⟨by omega, q⟩))
      exact ⟨i, Nat.le_refl _, hie, rfl, fun h1 h2 => absurd ⟨h1, h2⟩ hc, s1, s2⟩
theorem gt_app_lN (a b : List IN) (j : Nat) (h : j < a.length) : gt izN (a ++ b) j = gt izN a j := by
  unfold gt; rw [List.getD_eq_getElem?_getD, List.getElem?_append_left h, ← List.getD_eq_getElem?_getD]
theorem gt_app_eN (v : IN) (a : List IN) : gt izN (a ++ [v]) a.length = v := by
  unfold gt; rw [List.getD_eq_getElem?_getD, List.getElem?_append_right (Nat.le_refl _)]; simp
/-- The parts of a stretch of a document, by both. -/
theorem tree_part (s : ByteArray) (hd : docB (bytesOf s) = true) (d : Nat) : ∀ (b e i : Nat) (u : ByteArray) (out : List IN) (up : Nat), e - i ≤ d → Sub (bytesOf s) u b e → (e = s.size ∨ gt 0 (bytesOf s) e = 47) →
    (∀ x, b ≤ x → x ≤ e → D (bytesOf s) b ≤ D (bytesOf s) x) → (∀ j q, b ≤ j → j < e → Mt (bytesOf s) j q → q < e) → b ≤ i → i ≤ e → D (bytesOf s) i = D (bytesOf s) b → up < out.length → out.length + (e - i) ≤ 1000 →
    ∃ out' : List IN, out.length ≤ out'.length ∧ out'.length ≤ out.length + (e - i) ∧ (∀ j, j < out.length → gt izN out' j = gt izN out j) ∧
      Ev (fun k => spec_l2Parse.l0 k out u (up : Int) ((i - b : Nat) : Int)) out' ∧
      (∀ r, Ev (fun k => impl_treeOf.l0 k s out' (up : Int) (e : Int)) r → Ev (fun k => impl_treeOf.l0 k s out (up : Int) (i : Int)) r) := by
  have hlen := bytesOf_length s
  have h300 := doc_len hd
  induction d with
  | zero =>
    intro b e i u out up hd0 hu hend hr hin hbi hie hDi hup hol
    have hsz := hu.size; have hle := hu.le; have hel := hu.len
    have : i = e := by omega
    subst this
    refine ⟨out, Nat.le_refl _, by omega, fun _ _ => rfl, ?_, fun _ h => h⟩
    exact Ev.step (fun k => by rw [spec_l2Parse.l0]) (ev_neg (by omega) (ev_ret rfl))
  | succ d ih =>
    intro b e i u out up hd0 hu hend hr hin hbi hie hDi hup hol
    have hsz := hu.size; have hle := hu.le; have hel := hu.len
    by_cases hlt : i < e
    · by_cases ho : openB (gt 0 (bytesOf s) i) = true
      · obtain ⟨q, hm⟩ := open_mt hd i (by omega) ho
        have hqe := hin i q hbi hlt hm
        have hql := Mt_len' hm
        have hDs := D_succ (bytesOf s) i (by omega)
        rw [step_open ho] at hDs
        have hDq := hm.2.2.2.2.1
        have hu' := hu.sub (i + 1) q (by omega) (by omega) (by omega)
        let nd : IN := ⟨s.extract i (i + 1), ⟨#[]⟩, (up : Int)⟩
        have hnl : (out ++ [nd]).length = out.length + 1 := by rw [List.length_append, List.length_singleton]
        obtain ⟨o1, a1, a2, a3, a4, a5⟩ := ih (i + 1) q (i + 1) (u.extract (i + 1 - b) (q - b)) (out ++ [nd]) out.length (by omega) hu' (.inr hm.2.2.2.1)
          (fun x h1 h2 => by have := hm.2.2.2.2.2 x (by omega) h2; omega)
          (fun j q' h1 h2 hm' => mt_nest hm hm' (by omega) h2) (Nat.le_refl _) (by omega) rfl (by omega) (by omega)
        obtain ⟨o2, b1, b2, b3, b4, b5⟩ := ih b e (q + 1) u o1 up (by omega) hu hend hr hin (by omega) (by omega) (by omega) (by omega) (by omega)
        refine ⟨o2, by omega, by omega, fun j hj => ?_, ?_, fun r h => ?_⟩
        · rw [b3 j (by omega), a3 j (by omega), gt_app_lN _ _ _ hj]
        · have hmu := spec_l1Match_open u (by omega) _ _ (hu.mt hm hbi hqe)
          refine Ev.step (fun k => by rw [spec_l2Parse.l0]) ?_
          rw [wrap_succ (i - b) (by omega)]
          refine ev_pos (by omega) (ev_pos (by omega) (ev_eq (spec_l1Open_f _) (ev_pos ?_ (Ev.bind hmu ?_))))
          · rw [bt_gt, hu.at_ _ (by omega), show b + (i - b) = i by omega]; exact ho
          · refine ev_pos (by omega) (ev_pos (by omega) (ev_pos (by omega) (ev_pos (by omega) (ev_pos (by omega) (ev_pos (by omega) ?_)))))
            rw [Int.toNat_natCast, Int.toNat_natCast, Int.toNat_natCast, show i - b + 1 = i + 1 - b by omega, hu.cut i (i + 1) hbi (by omega) (by omega)]
            refine Ev.bind (a := o1) ?_ ?_
            · refine Ev.step (fun k => by rw [spec_l2Parse.f]) ?_
              rw [Nat.sub_self] at a4
              exact a4
            · rw [wrap_succ (q - b) (by omega), show q - b + 1 = q + 1 - b by omega]; exact b4
        · have h1 := b5 r h
          refine Ev.step (fun k => by rw [impl_treeOf.l0]) ?_
          rw [wrap_succ i (by omega)]
          refine ev_pos (by omega) (ev_pos (by omega) (ev_eq (impl_isName_f _) (ev_pos (by rw [bt_gt]; exact ho) (ev_pos (by omega) (ev_pos (by omega) (ev_pos (by omega) (ev_eq rfl ?_)))))))
          rw [Int.toNat_natCast, Int.toNat_natCast]
          show Ev (fun k => impl_treeOf.l0 k s (out ++ [nd]) (wrap64 (((out ++ [nd]).length : Int) - 1)) ((i + 1 : Nat) : Int)) r
          rw [hnl, show wrap64 (((out.length + 1 : Nat) : Int) - 1) = (out.length : Int) by rw [wrap_id (by omega) (by omega)]; omega]
          refine a5 r ?_
          have e1 : gt izN o1 out.length = nd := by rw [a3 _ (by omega), gt_app_eN]
          refine Ev.step (fun k => by rw [impl_treeOf.l0]) ?_
          refine ev_pos (by omega) (ev_pos (by omega) (ev_eq (impl_isName_f _) (ev_neg (by rw [bt_gt]; exact fun c => open_not47 c hm.2.2.2.1) (ev_pos (by rw [bt_gt]; exact hm.2.2.2.1) (ev_pos (by omega) (ev_pos (by omega) ?_))))))
          rw [wrap_succ q (by omega)]
          simp only [rd_in]
          rw [e1]
          exact h1
      · have hD := D_succ (bytesOf s) i (by omega)
        have h47 : ¬ gt 0 (bytesOf s) i = 47 := by
          intro h2
          rw [step_shut h2] at hD
          have := hr (i + 1) (by omega) (by omega)
          omega
        have hpl : plainB (gt 0 (bytesOf s) i) = true := by
          rcases good_byte (by unfold docB at hd; simp only [Bool.and_eq_true] at hd; exact hd.1) i (by omega) with g | g | g
          · exact absurd g ho
          · exact g
          · exact absurd g h47
        obtain ⟨t, t1, t2, t3, t4, t5, t6⟩ := tree_run s u hd b e hu hend out (up : Int) (by omega) i hbi (e - i) i (Nat.le_refl _) (Nat.le_refl _) hie
        have ht := t4 hlt hpl
        have hnl : (out ++ [(⟨⟨#[]⟩, s.extract i t, (up : Int)⟩ : IN)]).length = out.length + 1 := by rw [List.length_append, List.length_singleton]
        obtain ⟨o1, a1, a2, a3, a4, a5⟩ := ih b e t u (out ++ [⟨⟨#[]⟩, s.extract i t, (up : Int)⟩]) up (by omega) hu hend hr hin (by omega) t2 (by omega) (by omega) (by omega)
        refine ⟨o1, by omega, by omega, fun j hj => ?_, ?_, fun r h => ?_⟩
        · rw [a3 j (by omega), gt_app_lN _ _ _ hj]
        · refine Ev.step (fun k => by rw [spec_l2Parse.l0]) ?_
          refine ev_pos (by omega) (ev_pos (by omega) (ev_eq (spec_l1Open_f _) (ev_neg ?_ (t5 _ a4))))
          rw [bt_gt, hu.at_ _ (by omega), show b + (i - b) = i by omega]; exact ho
        · refine Ev.step (fun k => by rw [impl_treeOf.l0]) ?_
          exact ev_pos (by omega) (ev_pos (by omega) (ev_eq (impl_isName_f _) (ev_neg (by rw [bt_gt]; exact ho) (ev_neg (by rw [bt_gt]; exact h47) (t6 r (a5 r h))))))
    · have : i = e := by omega
      subst this
      refine ⟨out, Nat.le_refl _, by omega, fun _ _ => rfl, ?_, fun _ h => h⟩
      exact Ev.step (fun k => by rw [spec_l2Parse.l0]) (ev_neg (by omega) (ev_ret rfl))
theorem treeOf_f (s : ByteArray) (hd : docB (bytesOf s) = true) : ∃ r : List IN, r.length ≤ 301 ∧ Ev (fun k => spec_l2Tree.f k s) r ∧ Ev (fun k => impl_treeOf.f k s) r := by
  have hlen := bytesOf_length s
  have h300 := doc_len hd
  obtain ⟨r, a1, a2, a3, a4, a5⟩ := tree_part s hd s.size 0 s.size 0 s [⟨⟨#[]⟩, ⟨#[]⟩, -1⟩] 0 (by omega) (Sub.whole s) (.inl rfl) (fun x _ hx => by have := D_nonneg hd x (by omega); rw [D_zero]; exact this) (fun j q _ _ hm => (Mt_len' hm).2) (Nat.le_refl _) (Nat.zero_le _) rfl (by simp) (by simp; omega)
  refine ⟨r, by have : ([⟨⟨#[]⟩, ⟨#[]⟩, -1⟩] : List IN).length = 1 := rfl; omega, ?_, ?_⟩
  · unfold spec_l2Tree.f
    refine Ev.bind (a := r) ?_ (ev_ret rfl)
    refine Ev.step (fun k => by rw [spec_l2Parse.f]) ?_
    exact a4
  · unfold impl_treeOf.f
    refine a5 r ?_
    refine Ev.step (fun k => by rw [impl_treeOf.l0]) ?_
    exact ev_neg (by omega) (ev_ret rfl)
theorem TreeOf_f (s : ByteArray) (hs : s.size ≤ 140737488351232) : ∃ r : List IN × Bool, r.1.length ≤ 301 ∧ Ev (fun k => spec_TreeOf.f k s) r ∧ Ev (fun k => impl_TreeOf.f k s) r := by
  unfold spec_TreeOf.f impl_TreeOf.f
  by_cases hd : docB (bytesOf s) = true
  · obtain ⟨r, hr, r1, r2⟩ := treeOf_f s hd
    exact ⟨(r, true), hr, Ev.bind (spec_GoodDoc_f s hs) (ev_pos hd (Ev.bind r1 (ev_ret rfl))), Ev.bind (impl_GoodDoc_f s hs) (ev_pos hd (Ev.bind r2 (ev_ret rfl)))⟩
  · exact ⟨([], false), Nat.zero_le _, Ev.bind (spec_GoodDoc_f s hs) (ev_neg hd (ev_ret rfl)), Ev.bind (impl_GoodDoc_f s hs) (ev_neg hd (ev_ret rfl))⟩

theorem laws_markText_l (m : Nat) : ∀ (n : Nat) (t : ByteArray), n ≤ m → n ≤ 2305843009213693952 → t.size + n ≤ 2305843009213693952 → ∃ r, Ev (fun k => laws_markText.l0 k (n : Int) t) r := by
  induction m with
  | zero =>
    intro n t h0 h1 h2
    obtain rfl : n = 0 := by omega
    exact ⟨_, Ev.step (fun k => by rw [laws_markText.l0]) (ev_neg (by omega) (ev_pos (by omega) (ev_ret rfl)))⟩
  | succ m ih =>
    intro n t h0 h1 h2
    by_cases hn : n = 0
    · subst hn
      exact ⟨_, Ev.step (fun k => by rw [laws_markText.l0]) (ev_neg (by omega) (ev_pos (by omega) (ev_ret rfl)))⟩
    · have e : wrap64 (Int.tdiv (n : Int) 10) = ((n / 10 : Nat) : Int) := by
        rw [Int.tdiv_eq_ediv_of_nonneg (by omega)]; unfold wrap64; omega
      have hs : ∀ x : Int, (strOfNums [x]).size = 1 := fun x => rfl
      obtain ⟨r, hr⟩ := ih (n / 10) (strOfNums [(wrap64 (48 + (Int.tmod (n : Int) 10))) % 256] ++ t) (by omega) (by omega) (by rw [ByteArray.size_append, hs]; omega)
      refine ⟨r, ?_⟩
      refine Ev.step (fun k => by rw [laws_markText.l0]) ?_
      refine ev_pos (by omega) (ev_some ?_)
      refine ev_pos (by rw [hs]; omega) ?_
      rw [e]; exact hr
noncomputable def MT (n : Int) : ByteArray := @Classical.epsilon ByteArray ⟨ByteArray.empty⟩ (fun r => Ev (fun k => laws_markText.f k n) r)
theorem MT_ev (n : Int) (h0 : 0 ≤ n) (h1 : n ≤ 1152921504606846990) : Ev (fun k => laws_markText.f k n) (MT n) := by
  refine @Classical.epsilon_spec ByteArray (fun r => Ev (fun k => laws_markText.f k n) r) ?_
  obtain ⟨m, rfl⟩ := Int.eq_ofNat_of_zero_le h0
  by_cases hm : m = 0
  · subst hm
    exact ⟨_, by unfold laws_markText.f; exact ev_pos (by omega) (ev_ret rfl)⟩
  · obtain ⟨r, hr⟩ := laws_markText_l m m ⟨#[]⟩ (Nat.le_refl _) (by omega) (by show 0 + m ≤ _; omega)
    exact ⟨r, by unfold laws_markText.f; exact ev_neg (by omega) hr⟩

theorem laws_eqNode_self (m : IN) : laws_eqNode.f m.f0 m.f1 m.f2 m.f0 m.f1 m.f2 = some true := by
  unfold laws_eqNode.f; rw [if_pos rfl]; rw [if_pos rfl]; rw [if_pos rfl]
theorem laws_eqNodeS_l (l : List IN) (hl : l.length ≤ 4611686018427387904) (d : Nat) : ∀ i : Nat, i + d = l.length → Ev (fun k => laws_eqNodeS.l0 k l l (i : Int)) true := by
  induction d with
  | zero => exact fun i hi => Ev.step (fun k => by rw [laws_eqNodeS.l0]) (ev_neg (by omega) (ev_ret rfl))
  | succ d ih =>
    intro i hi
    refine Ev.step (fun k => by rw [laws_eqNodeS.l0]) ?_
    refine ev_pos (by omega) (ev_pos (by omega) (ev_pos (by omega) (ev_eq (laws_eqNode_self _) (ev_pos rfl ?_))))
    rw [wrap_succ i (by omega)]
    exact ih (i + 1) (by omega)
theorem laws_eqNodeS_f (l : List IN) (hl : l.length ≤ 4611686018427387904) : Ev (fun k => laws_eqNodeS.f k l l) true := by
  unfold laws_eqNodeS.f
  exact ev_pos rfl (laws_eqNodeS_l l hl l.length 0 (by omega))

noncomputable def mvNode (kk : Int) : IN := (⟨(MT kk), (MT (kk + 1)), (kk + 2)⟩ : IN)
noncomputable def mkNode (kk : Int) (n : Nat) : List IN := (List.range n).map (fun (i : Nat) => mvNode (kk + 3 * (i : Int)))
theorem mkNode_len (kk : Int) (n : Nat) : (mkNode kk n).length = n := by simp [mkNode]
theorem mkNode_succ (kk : Int) (n : Nat) : mkNode kk (n + 1) = mkNode kk n ++ [mvNode (kk + 3 * (n : Int))] := by simp [mkNode, List.range_succ]
theorem mkNode_gt (kk : Int) (n i : Nat) (h : i < n) : gt izN (mkNode kk n) i = mvNode (kk + 3 * (i : Int)) := by
  unfold gt mkNode; rw [List.getD_eq_getElem?_getD, List.getElem?_map, List.getElem?_range h]; rfl
theorem laws_markNodeS_r (x0 : List IN) (kk : Int) (i : Nat) (hi : i < x0.length) (hx : x0.length ≤ 1152921504606846976) (h0 : 0 ≤ kk) (h1 : kk ≤ 1152921504606846976) {r : Int × List IN}
    (h : Ev (fun k => laws_markNodeS.l0 k (x0.set i (mvNode kk)) (kk + 3) ((i + 1 : Nat) : Int)) r) : Ev (fun k => laws_markNodeS.l0 k x0 kk (i : Int)) r := by
  have w1 : wrap64 (kk + 1) = kk + 1 := by unfold wrap64; omega
  have w2 : wrap64 ((kk + 1) + 1) = kk + 2 := by unfold wrap64; omega
  have w3 : wrap64 ((kk + 2) + 1) = kk + 3 := by unfold wrap64; omega
  refine Ev.step (fun k => by rw [laws_markNodeS.l0]) ?_
  refine ev_pos (by omega) ?_
  simp only [w1, w2, w3, wrap_succ i (by omega)]
  refine Ev.bind (MT_ev _ (by omega) (by omega)) ?_
  refine ev_pos (by omega) ?_
  refine ev_some ?_
  refine Ev.bind (MT_ev _ (by omega) (by omega)) ?_
  refine ev_some ?_
  refine ev_val' ?_ h; intro k; simp [rd_in, gt_set, List.set_set, hi, mvNode]
theorem laws_markNodeS_l (l : List IN) (kk : Int) (hl : l.length ≤ 1073741824) (h0 : 0 ≤ kk) (h1 : kk ≤ 1073741824) (d : Nat) : ∀ i : Nat, i + d = l.length →
    Ev (fun k => laws_markNodeS.l0 k (mkNode kk i ++ l.drop i) (kk + 3 * (i : Int)) (i : Int)) (kk + 3 * (l.length : Int), mkNode kk l.length) := by
  induction d with
  | zero =>
    intro i hi
    refine Ev.step (fun k => by rw [laws_markNodeS.l0]) ?_
    refine ev_neg (by simp [mkNode_len]; omega) (ev_ret ?_)
    have : i = l.length := by omega
    subst this; simp
  | succ d ih =>
    intro i hi
    refine laws_markNodeS_r _ _ i (by simp [mkNode_len]; omega) (by simp [mkNode_len]; omega) (by omega) (by omega) ?_
    have e : (mkNode kk i ++ l.drop i).set i (mvNode (kk + 3 * (i : Int))) = mkNode kk (i + 1) ++ l.drop (i + 1) := by
      rw [gt_drop izN l i (by omega), List.set_append_right _ _ (by simp [mkNode_len]), mkNode_len, Nat.sub_self, mkNode_succ]; simp
    have e2 : kk + 3 * (i : Int) + 3 = kk + 3 * ((i + 1 : Nat) : Int) := by omega
    rw [e, e2]
    exact ih (i + 1) (by omega)
theorem laws_markNodeS_f (l : List IN) (kk : Int) (hl : l.length ≤ 1073741824) (h0 : 0 ≤ kk) (h1 : kk ≤ 1073741824) :
    Ev (fun k => laws_markNodeS.f k l kk) (kk + 3 * (l.length : Int), mkNode kk l.length) := by
  unfold laws_markNodeS.f
  have := laws_markNodeS_l l kk hl h0 h1 l.length 0 (by omega)
  have e0 : mkNode kk 0 ++ l.drop 0 = l := by simp [mkNode]
  have e1 : kk + 3 * ((0 : Nat) : Int) = kk := by omega
  rw [e0, e1] at this
  exact this

theorem laws_heldNodeS_l (kk : Int) (n : Nat) (hl : n ≤ 1073741824) (h0 : 0 ≤ kk) (h1 : kk ≤ 1073741824) (d : Nat) : ∀ i : Nat, i + d = n →
    Ev (fun k => laws_heldNodeS.l0 k (mkNode kk n) (kk + 3 * (i : Int)) (i : Int)) (kk + 3 * (n : Int)) := by
  induction d with
  | zero =>
    intro i hi
    refine Ev.step (fun k => by rw [laws_heldNodeS.l0]) ?_
    refine ev_neg (by rw [mkNode_len]; omega) (ev_ret ?_)
    have : i = n := by omega
    subst this; rfl
  | succ d ih =>
    intro i hi
    have hn : i < n := by omega
    have ih' := ih (i + 1) (by omega)
    refine Ev.step (fun k => by rw [laws_heldNodeS.l0]) ?_
    refine ev_pos (by rw [mkNode_len]; omega) (ev_pos (by omega) ?_)
    have e2 : kk + 3 * ((i + 1 : Nat) : Int) = kk + 3 * (i : Int) + 3 := by omega
    rw [e2] at ih'
    have g0 : 0 ≤ kk + 3 * (i : Int) := by omega
    have g1 : kk + 3 * (i : Int) ≤ 1152921504606846976 := by omega
    simp only [rd_in, mkNode_gt _ _ _ hn]
    generalize kk + 3 * (i : Int) = kk at g0 g1 ih' ⊢
    have w1 : wrap64 (kk + 1) = kk + 1 := by unfold wrap64; omega
    have w2 : wrap64 ((kk + 1) + 1) = kk + 2 := by unfold wrap64; omega
    have w3 : wrap64 ((kk + 2) + 1) = kk + 3 := by unfold wrap64; omega
    simp only [w1, w2, w3, wrap_succ i (by omega)]
    refine Ev.bind (MT_ev _ (by omega) (by omega)) ?_
    refine ev_pos rfl ?_
    refine Ev.bind (MT_ev _ (by omega) (by omega)) ?_
    refine ev_pos rfl ?_
    refine ev_pos rfl ?_
    exact ih'
theorem laws_heldNodeS_f (kk : Int) (n : Nat) (hl : n ≤ 1073741824) (h0 : 0 ≤ kk) (h1 : kk ≤ 1073741824) :
    Ev (fun k => laws_heldNodeS.f k (mkNode kk n) kk) (kk + 3 * (n : Int)) := by
  unfold laws_heldNodeS.f
  have := laws_heldNodeS_l kk n hl h0 h1 n 0 (by omega)
  have e1 : kk + 3 * ((0 : Nat) : Int) = kk := by omega
  rw [e1] at this
  exact this

theorem FnExactTreeOf : laws_FnExactTreeOf.Pure := by
  intro s hs
  refine Ev.rounds ?_
  unfold laws_FnExactTreeOf.f
  refine ev_if (fun _ => ev_ret rfl) (fun h => ?_)
  obtain ⟨r, hr, h1, h2⟩ := TreeOf_f s hs
  have heq := laws_eqNodeS_f r.1 (by omega)
  have hh := laws_heldNodeS_f 1 r.1.length (by omega) (by omega) (by omega)
  refine Ev.bind h1 (Ev.bind h2 (Ev.bind heq (ev_pos rfl ?_)))
  refine Ev.step (fun k => by rw [laws_FnExactTreeOf.j0]) ?_
  refine ev_neg (by simp) ?_
  refine Ev.bind (laws_markNodeS_f r.1 1 (by omega) (by omega) (by omega)) (Ev.bind hh (ev_neg (by first | omega | (simp only; omega)) (ev_pos (by first | rfl | (simp only; omega)) ?_)))
  refine Ev.bind h2 (Ev.bind heq (ev_pos rfl ?_))
  refine Ev.step (fun k => by rw [laws_FnExactTreeOf.j1]) ?_
  refine ev_neg (by simp) ?_
  exact Ev.bind hh (ev_neg (by first | omega | (simp only; omega)) (ev_pos (by first | rfl | (simp only; omega)) (ev_ret rfl)))

end Go.Proofs.Ytkdablilbbbihaa.Pure
