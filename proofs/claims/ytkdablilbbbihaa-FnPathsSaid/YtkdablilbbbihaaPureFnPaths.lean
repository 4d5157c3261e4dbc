/- FnPaths over plain functions: a drawn place comes back from its path, which is one longer than the place is deep, and what is cut out of a drawn tree makes it less by its size; no condition. -/
import Derived.Test.YtkdablilbbbihaaPFnPathsx16
import Derived.Test.YtkdablilbbbihaaBase
namespace Go.Proofs.Ytkdablilbbbihaa.Pure
open Go.RowKit Go.Proofs.Ytkdablilbbbihaa.PFnPaths Go.Proofs.YtkdablilbbbihaaW.PrintWords Go.Proofs.YtkdablilbbbihaaW.PrintLast Go.Proofs.Ytkdablilbbbihaa.Base
set_option linter.unusedVariables false
set_option linter.unusedSimpArgs false
abbrev IN := S54
def izN : IN := z54
theorem rd_in (l : List IN) (i : Nat) : rd_T54 l (i : Int) = gt izN l i := rfl
theorem spec_l1Open_f (c : Int) : spec_l1Open.f c = some (openB c) := by
 unfold spec_l1Open.f openB; split <;> simp <;> omega
theorem spec_l1Plain_f (c : Int) : spec_l1Plain.f c = some (plainB c) := by
 unfold spec_l1Plain.f plainB
 repeat' split
 all_goals (rw [Option.some.injEq, Bool.eq_iff_iff]; simp only [Bool.or_eq_true, decide_eq_true_eq, beq_iff_eq, true_iff]; omega)
theorem spec_l1Text_l (s : ByteArray) (hs : s.size ≤ 140737488351232) (d : Nat) : ∀ i : Nat, i + d = s.size → Ev (fun k => spec_l1Text.l0 k s (i : Int)) (textB ((bytesOf s).drop i)) := by
 induction d with
 | zero =>
  intro i hi
  refine Ev.step (fun k => by rw [spec_l1Text.l0]) ?_
  refine ev_neg (by omega) (ev_ret ?_)
  rw [drop_end s i (by omega)]; rfl
 | succ d ih =>
  intro i hi
  refine Ev.step (fun k => by rw [spec_l1Text.l0]) ?_
  refine ev_pos (by omega) (ev_pos (by omega) (ev_eq (spec_l1Open_f _) ?_))
  rw [drop_bytes s i (by omega), wrap_succ i (by omega)]
  have ih' := ih (i + 1) (by omega)
  refine ev_if (fun h => ev_val ih' (by simp [textB, okB, h])) (fun h => ?_)
  refine ev_eq (spec_l1Plain_f _) (ev_if (fun h2 => ev_val ih' (by simp [textB, okB, h2])) (fun h2 => ?_))
  refine ev_if (fun h3 => ev_val ih' (by simp [textB, okB, h3])) (fun h3 => ev_ret ?_)
  simp [textB, okB, h, h2, h3]
theorem spec_l1Text_f (s : ByteArray) (hs : s.size ≤ 140737488351232) : Ev (fun k => spec_l1Text.f k s) (textB (bytesOf s)) :=
 spec_l1Text_l s hs s.size 0 (by omega)
theorem spec_GoodText_f (s : ByteArray) (hs : s.size ≤ 140737488351232) : Ev (fun k => spec_GoodText.f k s) (goodB (bytesOf s)) := by
 unfold spec_GoodText.f goodB
 refine Ev.bind (spec_l1Text_f s hs) (ev_if (fun h => ev_ret ?_) (fun h => ev_ret ?_))
 ·rw [h, bytesOf_length, Bool.true_and]; congr 1; simp; omega
 ·simp at h; simp [h]
theorem impl_isName_f (c : Int) : impl_isName.f c = some (openB c) := by
 unfold impl_isName.f openB; split <;> simp <;> omega
theorem impl_isPlain_f (c : Int) : impl_isPlain.f c = some (plainB c) := by
 unfold impl_isPlain.f plainB
 repeat' split
 all_goals (rw [Option.some.injEq, Bool.eq_iff_iff]; simp only [Bool.or_eq_true, decide_eq_true_eq, beq_iff_eq, true_iff]; omega)
theorem impl_GoodText_l (s : ByteArray) (hs : s.size ≤ 140737488351232) (d : Nat) : ∀ i : Nat, i + d = s.size → Ev (fun k => impl_GoodText.l0 k s (s.size : Int) (i : Int)) (textB ((bytesOf s).drop i) && decide (s.size ≤ 300)) := by
 induction d with
 | zero =>
  intro i hi
  refine Ev.step (fun k => by rw [impl_GoodText.l0]) ?_
  refine ev_neg (by omega) (ev_ret ?_)
  rw [drop_end s i (by omega)]; simp [textB]; omega
 | succ d ih =>
  intro i hi
  refine Ev.step (fun k => by rw [impl_GoodText.l0]) ?_
  refine ev_pos (by omega) (ev_pos (by omega) (ev_pos (by omega) (ev_eq (impl_isName_f _) ?_)))
  rw [drop_bytes s i (by omega), wrap_succ i (by omega)]
  have ih' := ih (i + 1) (by omega)
  refine ev_if (fun h => ev_val ih' (by simp [textB, okB, h])) (fun h => ?_)
  refine ev_eq (impl_isPlain_f _) (ev_if (fun h2 => ev_val ih' (by simp [textB, okB, h2])) (fun h2 => ?_))
  refine ev_if (fun h3 => ev_val ih' (by simp [textB, okB, h3])) (fun h3 => ev_ret ?_)
  simp [textB, okB, h, h2, h3]
theorem impl_GoodText_f (s : ByteArray) (hs : s.size ≤ 140737488351232) : Ev (fun k => impl_GoodText.f k s) (goodB (bytesOf s)) := by
 unfold impl_GoodText.f
 refine ev_val (impl_GoodText_l s hs s.size 0 (by omega)) ?_
 simp [goodB, bytesOf_length]
/-- How deep it is behind a byte. -/
def stepD (d c : Int) : Int := if openB c = true then d + 1 else if c = 47 then d - 1 else d
def balF : Int → List Int → Bool
 | d, [] => d == 0
 | d, c :: r => if 0 ≤ stepD d c ∧ stepD d c ≤ 12 then balF (stepD d c) r else false
def docB (l : List Int) : Bool := goodB l && balF 0 l
theorem open_not47 {c : Int} (h : openB c = true) : ¬ c = 47 := by
 unfold openB at h; have := of_decide_eq_true h; omega
theorem open_iff (c : Int) : openB c = true ↔ 65 ≤ c ∧ c ≤ 70 := by unfold openB; exact decide_eq_true_iff
theorem spec_l1Balanced_j (s : ByteArray) (hs : s.size ≤ 140737488351232) (i : Nat) (hi : i < s.size) (x : Int) (hx : 0 ≤ x ∧ x ≤ 13) (y : Int) (hy : y = if bt s (i : Int) = 47 then x - 1 else x)
  (ih : 0 ≤ y ∧ y ≤ 12 → Ev (fun k => spec_l1Balanced.l0 k s y ((i + 1 : Nat) : Int)) (balF y ((bytesOf s).drop (i + 1)))) :
  Ev (fun k => spec_l1Balanced.j1 k s x (i : Int)) (if 0 ≤ y ∧ y ≤ 12 then balF y ((bytesOf s).drop (i + 1)) else false) := by
 refine Ev.step (fun k => by rw [spec_l1Balanced.j1]) ?_
 refine ev_pos (by omega) (ev_pos (by omega) ?_)
 have e1 : wrap64 (x - 1) = x - 1 := wrap_id (by omega) (by omega)
 rw [e1, wrap_succ i (by omega)]
 refine ev_if (fun h => ?_) (fun h => ?_)
 ·rw [if_pos h] at hy
  subst hy
  refine ev_if (fun h1 => ev_ret ?_) (fun h1 => ev_if (fun h2 => ev_ret ?_) (fun h2 => ?_))
  ·rw [if_neg (by omega)]
  ·rw [if_neg (by omega)]
  ·rw [if_pos (by omega)]; exact ih (by omega)
 ·rw [if_neg h] at hy
  subst hy
  refine ev_neg (by omega) (ev_if (fun h2 => ev_ret ?_) (fun h2 => ?_))
  ·rw [if_neg (by omega)]
  ·rw [if_pos (by omega)]; exact ih (by omega)
theorem spec_l1Balanced_l (s : ByteArray) (hs : s.size ≤ 140737488351232) (d : Nat) : ∀ (i : Nat) (x : Int), i + d = s.size → 0 ≤ x ∧ x ≤ 12 →
  Ev (fun k => spec_l1Balanced.l0 k s x (i : Int)) (balF x ((bytesOf s).drop i)) := by
 induction d with
 | zero =>
  intro i x hi hx
  refine Ev.step (fun k => by rw [spec_l1Balanced.l0]) ?_
  refine ev_neg (by omega) (ev_ret ?_)
  rw [drop_end s i (by omega)]; rfl
 | succ d ih =>
  intro i x hi hx
  refine Ev.step (fun k => by rw [spec_l1Balanced.l0]) ?_
  refine ev_pos (by omega) (ev_pos (by omega) (ev_eq (spec_l1Open_f _) ?_))
  rw [drop_bytes s i (by omega), balF]
  refine ev_if (fun h => ?_) (fun h => ?_)
  ·have e1 : wrap64 (x + 1) = x + 1 := wrap_id (by omega) (by omega)
   have es : stepD x (bt s (i : Int)) = x + 1 := by unfold stepD; rw [if_pos h]
   rw [e1, es]
   exact spec_l1Balanced_j s hs i (by omega) (x + 1) (by omega) (x + 1) (by rw [if_neg (open_not47 h)]) (fun hy => ih (i + 1) _ (by omega) hy)
  ·have es : stepD x (bt s (i : Int)) = if bt s (i : Int) = 47 then x - 1 else x := by unfold stepD; rw [if_neg h]
   rw [es]
   exact spec_l1Balanced_j s hs i (by omega) x (by omega) _ rfl (fun hy => ih (i + 1) _ (by omega) hy)
theorem spec_l1Balanced_f (s : ByteArray) (hs : s.size ≤ 140737488351232) : Ev (fun k => spec_l1Balanced.f k s) (balF 0 (bytesOf s)) :=
 spec_l1Balanced_l s hs s.size 0 0 (by omega) (by omega)
theorem spec_GoodDoc_f (s : ByteArray) (hs : s.size ≤ 140737488351232) : Ev (fun k => spec_GoodDoc.f k s) (docB (bytesOf s)) := by
 unfold spec_GoodDoc.f docB
 refine Ev.bind (spec_GoodText_f s hs) (ev_if (fun h => ?_) (fun h => ev_ret ?_))
 ·rw [h, Bool.true_and]
  exact Ev.bind (spec_l1Balanced_f s hs) (ev_ret rfl)
 ·simp only [Bool.not_eq_true] at h; rw [h]; rfl
/-- The program's stack of places is as high as it is deep. -/
theorem run_bal : ∀ (l : List Int) (i : Int) (o : List Int) (m : List (Int × Int)), o.length ≤ 12 →
  (impl_matches.end_ (impl_matches.run i l o m)).1 = balF (o.length : Int) l
 | [], i, o, m, _ => by
  show decide (o.length = 0) = ((o.length : Int) == 0)
  by_cases h : o.length = 0
  ·simp [h]
  ·rw [decide_eq_false h]; symm; exact beq_eq_false_iff_ne.mpr (by omega)
 | c :: r, i, o, m, ho => by
  rw [impl_matches.run, balF]
  by_cases h : 65 ≤ c ∧ c ≤ 70
  ·have es : stepD (o.length : Int) c = (o.length : Int) + 1 := by unfold stepD; rw [if_pos ((open_iff c).2 h)]
   rw [if_pos h, es]
   have e2 : (o ++ [i]).length = o.length + 1 := by simp
   by_cases h2 : (o ++ [i]).length > 12
   ·rw [if_pos h2, if_neg (by omega)]; rfl
   ·rw [if_neg h2, if_pos (by omega), run_bal r (i + 1) (o ++ [i]) m (by omega), e2]; rfl
  ·rw [if_neg h]
   have hno : ¬ openB c = true := fun e => h ((open_iff c).1 e)
   by_cases h2 : c = 47
   ·have es : stepD (o.length : Int) c = (o.length : Int) - 1 := by unfold stepD; rw [if_neg hno, if_pos h2]
    rw [if_pos h2, es]
    by_cases h3 : o.length = 0
    ·rw [if_pos h3, if_neg (by omega)]; rfl
    ·have e2 : ((o.take (o.length - 1)).length : Int) = (o.length : Int) - 1 := by rw [List.length_take]; omega
     rw [if_neg h3, if_pos (by omega), run_bal r _ _ _ (by rw [List.length_take]; omega), e2]
   ·have es : stepD (o.length : Int) c = (o.length : Int) := by unfold stepD; rw [if_neg hno, if_neg h2]
    rw [if_neg h2, es, if_pos (by omega)]
    exact run_bal r (i + 1) o m ho
theorem goodB_len {l : List Int} (h : goodB l = true) : l.length ≤ 300 := by
 unfold goodB at h; simp only [Bool.and_eq_true, decide_eq_true_eq] at h; exact h.2
def matchR (l : List Int) : Bool × List (Int × Int) := if goodB l = true then impl_matches.end_ (impl_matches.run 0 l [] []) else (false, [])
theorem impl_matches_f (s : ByteArray) (hs : s.size ≤ 140737488351232) : Ev (fun k => impl_matches.f k s) (matchR (bytesOf s)) := by
 unfold impl_matches.f matchR
 refine Ev.bind (impl_GoodText_f s hs) (ev_if (fun h => ?_) (fun h => ev_ret (by rw [if_neg h])))
 have := goodB_len h
 rw [bytesOf_length] at this
 rw [if_pos h]
 exact ev_pos this (ev_ret rfl)
theorem matchR_doc (l : List Int) : (matchR l).1 = docB l := by
 unfold matchR docB
 by_cases h : goodB l = true
 ·rw [if_pos h, h, run_bal _ _ _ _ (by simp)]; rfl
 ·rw [if_neg h]; simp only [Bool.not_eq_true] at h; rw [h]; rfl
/-- How deep it is behind j bytes. -/
def D (l : List Int) (j : Nat) : Int := (l.take j).foldl stepD 0
theorem D_zero (l : List Int) : D l 0 = 0 := by simp [D]
theorem D_succ (l : List Int) (j : Nat) (h : j < l.length) : D l (j + 1) = stepD (D l j) (gt 0 l j) := by
 unfold D; rw [gt_take 0 l j h, List.foldl_append]; rfl
theorem bt_gt (s : ByteArray) (i : Nat) : bt s (i : Int) = gt 0 (bytesOf s) i := by rw [← rd_bytesOf]; rfl
theorem step_open {d c : Int} (h : openB c = true) : stepD d c = d + 1 := by unfold stepD; rw [if_pos h]
theorem step_shut {d c : Int} (h : c = 47) : stepD d c = d - 1 := by
 unfold stepD; rw [if_neg (fun e => open_not47 e h), if_pos h]
theorem step_plain {d c : Int} (h : ¬ openB c = true) (h2 : ¬ c = 47) : stepD d c = d := by unfold stepD; rw [if_neg h, if_neg h2]
/-- An element begins at p and ends at q. -/
def Mt (l : List Int) (p q : Nat) : Prop := p < q ∧ q < l.length ∧ openB (gt 0 l p) = true ∧ gt 0 l q = 47 ∧ D l (q + 1) = D l p ∧ ∀ x, p < x → x ≤ q → D l p < D l x
structure Inv (l : List Int) (i : Nat) (o : List Int) (m : List (Int × Int)) : Prop where
 deep : (o.length : Int) = D l i
 stack : ∀ j, j < o.length → ∃ pn : Nat, gt 0 o j = (pn : Int) ∧ pn < i ∧ openB (gt 0 l pn) = true ∧ D l pn = (j : Int) ∧ ∀ x, pn < x → x ≤ i → (j : Int) < D l x
 pairs : ∀ a b : Int, m.lookup a = some b → ∃ an bn : Nat, a = (an : Int) ∧ b = (bn : Int) ∧ (Mt l an bn ∨ Mt l bn an)
 opens : ∀ an, an < i → openB (gt 0 l an) = true → (∃ j, j < o.length ∧ gt 0 o j = (an : Int)) ∨ (m.lookup (an : Int)).isSome = true
 shuts : ∀ an, an < i → gt 0 l an = 47 → (m.lookup (an : Int)).isSome = true
theorem inv_start (l : List Int) : Inv l 0 [] [] :=
 ⟨by simp [D_zero], fun j h => by simp at h, fun a b h => by simp at h, fun an h => by omega, fun an h => by omega⟩
theorem lookup_cons_some (a x v : Int) (m : List (Int × Int)) (h : (m.lookup a).isSome = true) : (((x, v) :: m).lookup a).isSome = true := by
 rw [List.lookup_cons]; cases a == x <;> simp [h]
theorem gt_app_l {α : Type} (z : α) (a b : List α) (j : Nat) (h : j < a.length) : gt z (a ++ b) j = gt z a j := by
 unfold gt; rw [List.getD_eq_getElem?_getD, List.getElem?_append_left h, ← List.getD_eq_getElem?_getD]
theorem gt_app_e {α : Type} (z v : α) (a : List α) : gt z (a ++ [v]) a.length = v := by
 unfold gt; rw [List.getD_eq_getElem?_getD, List.getElem?_append_right (Nat.le_refl _)]; simp
theorem gt_takeL {α : Type} (z : α) (a : List α) (n j : Nat) (h : j < n) : gt z (a.take n) j = gt z a j := by
 unfold gt; rw [List.getD_eq_getElem?_getD, List.getElem?_take_of_lt h, ← List.getD_eq_getElem?_getD]
theorem run_inv (l : List Int) (d : Nat) : ∀ (i : Nat) (o : List Int) (m : List (Int × Int)), i + d = l.length → Inv l i o m → ∀ o' m', impl_matches.run (i : Int) (l.drop i) o m = some (o', m') → Inv l l.length o' m' := by
 induction d with
 | zero =>
  intro i o m hi hv o' m' h
  rw [List.drop_eq_nil_of_le (by omega)] at h
  have h' : some (o, m) = some (o', m') := h
  obtain ⟨rfl, rfl⟩ := Prod.mk.inj (Option.some.inj h')
  have : i = l.length := by omega
  subst this; exact hv
 | succ d ih =>
  intro i o m hi hv o' m' h
  have hD := D_succ l i (by omega)
  have hdeep := hv.deep
  rw [gt_drop 0 l i (by omega), impl_matches.run] at h
  have ei : (i : Int) + 1 = ((i + 1 : Nat) : Int) := by omega
  rw [ei] at h
  by_cases h1 : 65 ≤ gt 0 l i ∧ gt 0 l i ≤ 70
  ·rw [if_pos h1] at h
   have ho := (open_iff _).2 h1
   rw [step_open ho] at hD
   by_cases h2 : (o ++ [(i : Int)]).length > 12
   ·rw [if_pos h2] at h; cases h
   ·rw [if_neg h2] at h
    refine ih (i + 1) _ _ (by omega) ⟨by rw [hD, List.length_append, List.length_singleton]; omega, fun j hj => ?_, hv.pairs, fun an ha hoa => ?_, fun an ha h47 => ?_⟩ o' m' h
    ·by_cases hj2 : j < o.length
     ·obtain ⟨pn, e1, e2, e3, e4, e5⟩ := hv.stack j hj2
      refine ⟨pn, by rw [gt_app_l _ _ _ _ hj2]; exact e1, by omega, e3, e4, fun x hx hx2 => ?_⟩
      by_cases hx3 : x ≤ i
      ·exact e5 x hx hx3
      ·have : x = i + 1 := by omega
       subst this; rw [hD]; omega
     ·have hj3 : j = o.length := by rw [List.length_append, List.length_singleton] at hj; omega
      subst hj3
      refine ⟨i, gt_app_e _ _ _, by omega, ho, by omega, fun x hx hx2 => ?_⟩
      have : x = i + 1 := by omega
      subst this; rw [hD]; omega
    ·by_cases ha2 : an < i
     ·rcases hv.opens an ha2 hoa with ⟨j, hj, hj2⟩ | hl
      ·exact .inl ⟨j, by rw [List.length_append]; omega, by rw [gt_app_l _ _ _ _ hj]; exact hj2⟩
      ·exact .inr hl
     ·have : an = i := by omega
      subst this
      exact .inl ⟨o.length, by rw [List.length_append, List.length_singleton]; omega, gt_app_e _ _ _⟩
    ·by_cases ha2 : an < i
     ·exact hv.shuts an ha2 h47
     ·have : an = i := by omega
      subst this; exact absurd h47 (open_not47 ho)
  ·rw [if_neg h1] at h
   have hno : ¬ openB (gt 0 l i) = true := fun e => h1 ((open_iff _).1 e)
   by_cases h2 : gt 0 l i = 47
   ·rw [if_pos h2] at h
    rw [step_shut h2] at hD
    by_cases h3 : o.length = 0
    ·rw [if_pos h3] at h; cases h
    ·rw [if_neg h3] at h
     obtain ⟨pn, e1, e2, e3, e4, e5⟩ := hv.stack (o.length - 1) (by omega)
     have er : rd o ((o.length : Int) - 1) = (pn : Int) := by
      have : (o.length : Int) - 1 = ((o.length - 1 : Nat) : Int) := by omega
      rw [this]; exact e1
     rw [er] at h
     have hmt : Mt l pn i := ⟨e2, by omega, e3, h2, by omega, fun x hx hx2 => by have := e5 x hx hx2; omega⟩
     refine ih (i + 1) _ _ (by omega) ⟨by rw [hD, List.length_take]; omega, fun j hj => ?_, fun a b hab => ?_, fun an ha hoa => ?_, fun an ha h47 => ?_⟩ o' m' h
     ·have hj2 : j < o.length - 1 := by rw [List.length_take] at hj; omega
      obtain ⟨qn, f1, f2, f3, f4, f5⟩ := hv.stack j (by omega)
      refine ⟨qn, by rw [gt_takeL _ _ _ _ hj2]; exact f1, by omega, f3, f4, fun x hx hx2 => ?_⟩
      by_cases hx3 : x ≤ i
      ·exact f5 x hx hx3
      ·have : x = i + 1 := by omega
       subst this; rw [hD]; omega
     ·rw [List.lookup_cons] at hab
      by_cases ha : a = (pn : Int)
      ·subst ha
       rw [beq_self_eq_true] at hab
       have hb : (i : Int) = b := Option.some.inj hab
       exact ⟨pn, i, rfl, hb.symm, .inl hmt⟩
      ·rw [beq_eq_false_iff_ne.mpr ha] at hab
       simp only [List.lookup_cons] at hab
       by_cases ha2 : a = (i : Int)
       ·subst ha2
        rw [beq_self_eq_true] at hab
        have hb : (pn : Int) = b := Option.some.inj hab
        exact ⟨i, pn, rfl, hb.symm, .inr hmt⟩
       ·rw [beq_eq_false_iff_ne.mpr ha2] at hab
        exact hv.pairs a b hab
     ·by_cases ha2 : an < i
      ·rcases hv.opens an ha2 hoa with ⟨j, hj, hj2⟩ | hl
       ·by_cases hj3 : j < o.length - 1
        ·exact .inl ⟨j, by rw [List.length_take]; omega, by rw [gt_takeL _ _ _ _ hj3]; exact hj2⟩
        ·have : j = o.length - 1 := by omega
         subst this
         right
         rw [← hj2, e1, List.lookup_cons_self]; rfl
       ·exact .inr (lookup_cons_some _ _ _ _ (lookup_cons_some _ _ _ _ hl))
      ·have : an = i := by omega
       subst this; exact absurd h2 (open_not47 hoa)
     ·by_cases ha2 : an < i
      ·exact lookup_cons_some _ _ _ _ (lookup_cons_some _ _ _ _ (hv.shuts an ha2 h47))
      ·have : an = i := by omega
       subst this
       exact lookup_cons_some _ _ _ _ (by rw [List.lookup_cons_self]; rfl)
   ·rw [if_neg h2] at h
    rw [step_plain hno h2] at hD
    refine ih (i + 1) _ _ (by omega) ⟨by omega, fun j hj => ?_, hv.pairs, fun an ha hoa => ?_, fun an ha h47 => ?_⟩ o' m' h
    ·obtain ⟨pn, e1, e2, e3, e4, e5⟩ := hv.stack j hj
     refine ⟨pn, e1, by omega, e3, e4, fun x hx hx2 => ?_⟩
     by_cases hx3 : x ≤ i
     ·exact e5 x hx hx3
     ·have : x = i + 1 := by omega
      subst this; rw [hD]; omega
    ·by_cases ha2 : an < i
     ·exact hv.opens an ha2 hoa
     ·have : an = i := by omega
      subst this; exact absurd hoa hno
    ·by_cases ha2 : an < i
     ·exact hv.shuts an ha2 h47
     ·have : an = i := by omega
      subst this; exact absurd h47 h2
/-- What the program's pairs tell of a document. -/
theorem matchR_pairs {l : List Int} (h : docB l = true) : ∃ m, matchR l = (true, m) ∧
  (∀ a b : Int, m.lookup a = some b → ∃ an bn : Nat, a = (an : Int) ∧ b = (bn : Int) ∧ (Mt l an bn ∨ Mt l bn an)) ∧
  (∀ an, an < l.length → (openB (gt 0 l an) = true ∨ gt 0 l an = 47) → (m.lookup (an : Int)).isSome = true) := by
 have hd := matchR_doc l
 rw [h] at hd
 have hg : goodB l = true := by unfold docB at h; simp only [Bool.and_eq_true] at h; exact h.1
 unfold matchR at hd ⊢
 rw [if_pos hg] at hd ⊢
 cases hr : impl_matches.run 0 l [] [] with
 | none => rw [hr] at hd; cases hd
 | some x =>
  obtain ⟨o, m⟩ := x
  rw [hr] at hd
  have ho : o.length = 0 := of_decide_eq_true hd
  have hv := run_inv l l.length 0 [] [] (by omega) (inv_start l) o m (by rw [List.drop_zero]; exact hr)
  refine ⟨m, ?_, hv.pairs, fun an ha hx => ?_⟩
  ·show (decide (o.length = 0), m) = (true, m)
   rw [decide_eq_true ho]
  ·rcases hx with hx | hx
   ·rcases hv.opens an ha hx with ⟨j, hj, _⟩ | hl
    ·omega
    ·exact hl
   ·exact hv.shuts an ha hx
theorem Mt_fun {l : List Int} {p q q' : Nat} (h : Mt l p q) (h' : Mt l p q') : q = q' := by
 rcases Nat.lt_trichotomy q q' with c | c | c
 ·have := h'.2.2.2.2.2 (q + 1) (by have := h.1; omega) (by omega)
  have := h.2.2.2.2.1; omega
 ·exact c
 ·have := h.2.2.2.2.2 (q' + 1) (by have := h'.1; omega) (by omega)
  have := h'.2.2.2.2.1; omega
theorem D_bound (l : List Int) : ∀ j, j ≤ l.length → -(j : Int) ≤ D l j ∧ D l j ≤ (j : Int)
 | 0, _ => by rw [D_zero]; omega
 | j + 1, h => by
  have ih := D_bound l j (by omega)
  rw [D_succ l j (by omega)]
  unfold stepD; split
  ·omega
  ·split <;> omega
theorem doc_len {s : ByteArray} (h : docB (bytesOf s) = true) : s.size ≤ 300 := by
 unfold docB at h; simp only [Bool.and_eq_true] at h
 have := goodB_len h.1
 rwa [bytesOf_length] at this
theorem good_byte {l : List Int} (h : goodB l = true) (i : Nat) (hi : i < l.length) : openB (gt 0 l i) = true ∨ plainB (gt 0 l i) = true ∨ gt 0 l i = 47 := by
 unfold goodB textB at h
 simp only [Bool.and_eq_true, List.all_eq_true] at h
 have := h.1 _ (gt_mem 0 l i hi)
 unfold okB at this
 simp only [Bool.or_eq_true, decide_eq_true_eq] at this
 rcases this with (h | h) | h
 ·exact .inl h
 ·exact .inr (.inl h)
 ·exact .inr (.inr h)
theorem plain_not {c : Int} (h : plainB c = true) : ¬ openB c = true ∧ ¬ c = 47 := by
 unfold plainB at h
 simp only [Bool.or_eq_true, decide_eq_true_eq] at h
 constructor
 ·rw [open_iff]; omega
 ·omega
theorem bytesOf_extract (s : ByteArray) (a b : Nat) : bytesOf (s.extract a b) = ((bytesOf s).take b).drop a := by
 unfold bytesOf
 rw [ByteArray.data_extract, Array.toList_extract]
 simp only [List.extract_eq_take_drop, List.map_take, List.map_drop, List.drop_take]
theorem size_extract (s : ByteArray) (a b : Nat) (hb : b ≤ s.size) : (s.extract a b).size = b - a := by
 rw [ByteArray.size_extract]; omega
/-- An element that begins ends. -/
theorem open_mt {l : List Int} (h : docB l = true) (i : Nat) (hi : i < l.length) (ho : openB (gt 0 l i) = true) : ∃ q, Mt l i q := by
 obtain ⟨m, _, h1, h2⟩ := matchR_pairs h
 have hs := h2 i hi (.inl ho)
 obtain ⟨b, hb⟩ := Option.isSome_iff_exists.1 hs
 obtain ⟨an, bn, e1, _, e3⟩ := h1 _ _ hb
 have : i = an := by omega
 subst this
 rcases e3 with e3 | e3
 ·exact ⟨bn, e3⟩
 ·exact absurd e3.2.2.2.1 (open_not47 ho)
/-- A text that is what stands from b to e. -/
structure Sub (l : List Int) (u : ByteArray) (b e : Nat) : Prop where
 size : u.size = e - b
 le : b ≤ e
 len : e ≤ l.length
 at_ : ∀ x, x < e - b → gt 0 (bytesOf u) x = gt 0 l (b + x)
theorem Sub.whole (s : ByteArray) : Sub (bytesOf s) s 0 s.size := ⟨rfl, Nat.zero_le _, by rw [bytesOf_length]; exact Nat.le_refl _, fun x _ => by rw [Nat.zero_add]⟩
theorem gt_extract (s : ByteArray) (a b x : Nat) (h : x < b - a) : gt 0 (bytesOf (s.extract a b)) x = gt 0 (bytesOf s) (a + x) := by
 rw [bytesOf_extract]; unfold gt
 rw [List.getD_eq_getElem?_getD, List.getD_eq_getElem?_getD, List.getElem?_drop, List.getElem?_take_of_lt (by omega)]
theorem Sub.sub {l : List Int} {u : ByteArray} {b e : Nat} (h : Sub l u b e) (x y : Nat) (hx : b ≤ x) (hxy : x ≤ y) (hy : y ≤ e) : Sub l (u.extract (x - b) (y - b)) x y := by
 have := h.size; have := h.le; have := h.len
 refine ⟨by rw [size_extract _ _ _ (by omega)]; omega, hxy, by omega, fun z hz => ?_⟩
 rw [gt_extract _ _ _ _ (by omega), h.at_ _ (by omega)]
 congr 1; omega
theorem Sub.deep {l : List Int} {u : ByteArray} {b e : Nat} (h : Sub l u b e) : ∀ x, x ≤ e - b → D (bytesOf u) x = D l (b + x) - D l b
 | 0, _ => by rw [D_zero, Nat.add_zero, Int.sub_self]
 | x + 1, hx => by
  have h1 := h.size; have h2 := h.le; have h3 := h.len
  have ih := h.deep x (by omega)
  rw [D_succ _ _ (by rw [bytesOf_length]; omega), ih, h.at_ x (by omega), show b + (x + 1) = (b + x) + 1 by omega, D_succ l _ (by omega)]
  unfold stepD; split
  ·omega
  ·split <;> omega
theorem Sub.mt {l : List Int} {u : ByteArray} {b e p q : Nat} (h : Sub l u b e) (hm : Mt l p q) (hp : b ≤ p) (hq : q < e) : Mt (bytesOf u) (p - b) (q - b) := by
 have h1 := h.size; have h2 := h.le; have h3 := h.len
 obtain ⟨m1, m2, m3, m4, m5, m6⟩ := hm
 refine ⟨by omega, by rw [bytesOf_length]; omega, ?_, ?_, ?_, fun x hx hx2 => ?_⟩
 ·rw [h.at_ _ (by omega), show b + (p - b) = p by omega]; exact m3
 ·rw [h.at_ _ (by omega), show b + (q - b) = q by omega]; exact m4
 ·rw [h.deep _ (by omega), h.deep _ (by omega), show b + (q - b + 1) = q + 1 by omega, show b + (p - b) = p by omega]; omega
 ·rw [h.deep _ (by omega), h.deep _ (by omega), show b + (p - b) = p by omega]
  have := m6 (b + x) (by omega) (by omega); omega
theorem bytes_inj {a b : ByteArray} (h : bytesOf a = bytesOf b) : a = b := by
 unfold bytesOf at h
 apply ByteArray.ext
 apply Array.toList_inj.1
 refine (List.map_inj_right ?_).1 h
 intro x y hxy
 exact UInt8.toNat_inj.1 (by omega)
/-- Elements nest. -/
theorem mt_nest {l : List Int} {p q i q' : Nat} (hm : Mt l p q) (hm' : Mt l i q') (h1 : p < i) (h2 : i < q) : q' < q := by
 have hx := hm.2.2.2.2.2 i h1 (by omega)
 have hq' := hm'.2.2.2.2.1
 have hDq := hm.2.2.2.2.1
 have hl := hm'.1
 apply Nat.lt_of_not_le
 intro hc
 have := hm'.2.2.2.2.2 q h2 hc
 by_cases hqq : q' = q
 ·subst hqq; omega
 ·have := hm'.2.2.2.2.2 (q + 1) (by omega) (by omega)
  omega
theorem Mt_len' {s : ByteArray} {p q : Nat} (h : Mt (bytesOf s) p q) : p < q ∧ q < s.size := by
 have := h.2.1; rw [bytesOf_length] at this; exact ⟨h.1, this⟩
theorem spec_l1Match_j3 (s : ByteArray) (hs : s.size ≤ 300) (i : Nat) (hi : i < s.size) (st x y : Int) (hst : st = 1 ∨ st = -1) (hx : -1000 ≤ x ∧ x ≤ 1000) (hy : y = if bt s (i : Int) = 47 then x - st else x) {r : Int}
  (h : if y = 0 then r = (i : Int) else Ev (fun k => spec_l1Match.l0 k s st y ((i : Int) + st)) r) : Ev (fun k => spec_l1Match.j3 k s st x (i : Int)) r := by
 refine Ev.step (fun k => by rw [spec_l1Match.j3]) ?_
 refine ev_pos (by omega) (ev_pos (by omega) ?_)
 have e1 : wrap64 (x - st) = x - st := wrap_id (by omega) (by omega)
 have e2 : wrap64 ((i : Int) + st) = (i : Int) + st := wrap_id (by omega) (by omega)
 rw [e1, e2]
 refine ev_if (fun h1 => ?_) (fun h1 => ?_)
 ·rw [if_pos h1] at hy
  subst hy
  refine ev_if (fun h2 => ev_ret ?_) (fun h2 => ?_)
  ·rw [if_pos h2] at h; exact h.symm
  ·rw [if_neg h2] at h; exact h
 ·rw [if_neg h1] at hy
  subst hy
  refine ev_if (fun h2 => ev_ret ?_) (fun h2 => ?_)
  ·rw [if_pos h2] at h; exact h.symm
  ·rw [if_neg h2] at h; exact h
theorem spec_l1Match_l0 (s : ByteArray) (hs : s.size ≤ 300) (i : Nat) (hi : i < s.size) (st x y : Int) (hst : st = 1 ∨ st = -1) (hx : -999 ≤ x ∧ x ≤ 999) (hy : y = if openB (bt s (i : Int)) = true then x + st else if bt s (i : Int) = 47 then x - st else x) {r : Int}
  (h : if y = 0 then r = (i : Int) else Ev (fun k => spec_l1Match.l0 k s st y ((i : Int) + st)) r) : Ev (fun k => spec_l1Match.l0 k s st x (i : Int)) r := by
 refine Ev.step (fun k => by rw [spec_l1Match.l0]) ?_
 refine ev_pos (by omega) ?_
 rw [decide_eq_true (show (i : Int) < (s.size : Int) by omega)]
 refine Ev.step (fun k => by rw [spec_l1Match.j2]) ?_
 refine ev_pos rfl (ev_pos (by omega) (ev_pos (by omega) (ev_eq (spec_l1Open_f _) ?_)))
 refine ev_if (fun h1 => ?_) (fun h1 => ?_)
 ·have e1 : wrap64 (x + st) = x + st := wrap_id (by omega) (by omega)
  rw [e1]
  rw [if_pos h1] at hy
  exact spec_l1Match_j3 s hs i hi st (x + st) y hst (by omega) (by rw [if_neg (open_not47 h1)]; exact hy) h
 ·rw [if_neg h1] at hy
  exact spec_l1Match_j3 s hs i hi st x y hst (by omega) hy h
theorem match_fwd (s : ByteArray) (hs : s.size ≤ 300) (p q : Nat) (h : Mt (bytesOf s) p q) (d : Nat) : ∀ i, i + d = q → p ≤ i →
  Ev (fun k => spec_l1Match.l0 k s 1 (D (bytesOf s) i - D (bytesOf s) p) (i : Int)) (q : Int) := by
 obtain ⟨h1, h2, h3, h4, h5, h6⟩ := h
 have hlen := bytesOf_length s
 induction d with
 | zero =>
  intro i hi hp
  have : i = q := by omega
  subst this
  have b1 := D_bound (bytesOf s) i (by omega)
  have b2 := D_bound (bytesOf s) p (by omega)
  have hD := D_succ (bytesOf s) i h2
  rw [step_shut h4] at hD
  refine spec_l1Match_l0 s hs i (by omega) 1 _ (D (bytesOf s) (i + 1) - D (bytesOf s) p) (.inl rfl) (by omega) ?_ ?_
  ·rw [bt_gt, if_neg (fun e => open_not47 e h4), if_pos h4]; omega
  ·rw [if_pos (by omega)]
 | succ d ih =>
  intro i hi hp
  have b1 := D_bound (bytesOf s) i (by omega)
  have b2 := D_bound (bytesOf s) p (by omega)
  have hD := D_succ (bytesOf s) i (by omega)
  have hx := h6 (i + 1) (by omega) (by omega)
  refine spec_l1Match_l0 s hs i (by omega) 1 _ (D (bytesOf s) (i + 1) - D (bytesOf s) p) (.inl rfl) (by omega) ?_ ?_
  ·rw [bt_gt, hD]; unfold stepD; split
   ·omega
   ·split <;> omega
  ·rw [if_neg (by omega)]
   have e : (i : Int) + 1 = ((i + 1 : Nat) : Int) := by omega
   rw [e]; exact ih (i + 1) (by omega) (by omega)
/-- The reference finds it, both ways. -/
theorem spec_l1Match_open (s : ByteArray) (hs : s.size ≤ 300) (p q : Nat) (h : Mt (bytesOf s) p q) : Ev (fun k => spec_l1Match.f k s (p : Int)) (q : Int) := by
 have hlen := bytesOf_length s
 have h1 := h.1; have h2 := h.2.1
 unfold spec_l1Match.f
 refine ev_pos (by omega) (ev_pos (by omega) (ev_neg (by rw [bt_gt]; exact open_not47 h.2.2.1) ?_))
 refine Ev.step (fun k => by rw [spec_l1Match.j0]) ?_
 have := match_fwd s hs p q h (q - p) p (by omega) (Nat.le_refl _)
 rw [Int.sub_self] at this
 exact this
theorem impl_GoodDoc_f (s : ByteArray) (hs : s.size ≤ 140737488351232) : Ev (fun k => impl_GoodDoc.f k s) (docB (bytesOf s)) := by
 unfold impl_GoodDoc.f
 rw [← matchR_doc]
 exact Ev.bind (impl_matches_f s hs) (ev_ret rfl)
theorem balF_nonneg : ∀ (l : List Int) (d : Int), 0 ≤ d → balF d l = true → ∀ j, j ≤ l.length → 0 ≤ (l.take j).foldl stepD d
 | [], d, h0, _, j, _ => by simpa using h0
 | c :: r, d, h0, h, j, hj => by
  rw [balF] at h
  by_cases hc : 0 ≤ stepD d c ∧ stepD d c ≤ 12
  ·rw [if_pos hc] at h
   cases j with
   | zero => simpa using h0
   | succ j =>
    rw [List.take_succ_cons, List.foldl_cons]
    exact balF_nonneg r _ hc.1 h j (by simpa using hj)
  ·rw [if_neg hc] at h; cases h
theorem D_nonneg {l : List Int} (h : docB l = true) (j : Nat) (hj : j ≤ l.length) : 0 ≤ D l j := by
 unfold docB at h; simp only [Bool.and_eq_true] at h
 exact balF_nonneg l 0 (Int.le_refl _) h.2 j hj
theorem balF_of : ∀ (l : List Int) (d : Int), (∀ j, j ≤ l.length → 0 ≤ (l.take j).foldl stepD d ∧ (l.take j).foldl stepD d ≤ 12) → l.foldl stepD d = 0 → balF d l = true
 | [], d, _, h => by
  have : d = 0 := h
  subst this; rfl
 | c :: r, d, hb, h => by
  rw [balF]
  have h1 := hb 1 (by simp)
  have e : ((c :: r).take 1).foldl stepD d = stepD d c := rfl
  rw [e] at h1
  rw [if_pos h1]
  refine balF_of r (stepD d c) (fun j hj => ?_) h
  have := hb (j + 1) (by simp; omega)
  rw [List.take_succ_cons, List.foldl_cons] at this
  exact this
theorem balF_to : ∀ (l : List Int) (d : Int), 0 ≤ d → d ≤ 12 → balF d l = true → (∀ j, j ≤ l.length → 0 ≤ (l.take j).foldl stepD d ∧ (l.take j).foldl stepD d ≤ 12) ∧ l.foldl stepD d = 0
 | [], d, h0, h1, h => by
  refine ⟨fun j hj => ?_, ?_⟩
  ·rw [List.take_nil]; exact ⟨h0, h1⟩
  ·have : (d == 0) = true := h
   exact beq_iff_eq.1 this
 | c :: r, d, h0, h1, h => by
  rw [balF] at h
  by_cases hc : 0 ≤ stepD d c ∧ stepD d c ≤ 12
  ·rw [if_pos hc] at h
   obtain ⟨a, b⟩ := balF_to r (stepD d c) hc.1 hc.2 h
   refine ⟨fun j hj => ?_, b⟩
   cases j with
   | zero => exact ⟨h0, h1⟩
   | succ j => rw [List.take_succ_cons, List.foldl_cons]; exact a j (by simpa using hj)
  ·rw [if_neg hc] at h; cases h
theorem Mt_deep {l : List Int} {p q : Nat} (h : Mt l p q) : D l q = D l p + 1 := by
 have hD := D_succ l q h.2.1
 rw [step_shut h.2.2.2.1] at hD
 have := h.2.2.2.2.1; omega
/-- A row of parts: a run of plain bytes, or an element with what lies within, and what follows. -/
inductive Fo where
 | nil : Fo
 | run : ByteArray → Fo → Fo
 | el : ByteArray → Fo → Fo → Fo
def Fo.size : Fo → Nat
 | .nil => 0
 | .run _ r => r.size + 1
 | .el _ ks r => ks.size + r.size + 1
def Fo.rows : Fo → Int → Nat → List IN
 | .nil, _, _ => []
 | .run t r, up, a => ⟨⟨#[]⟩, t, up⟩ :: r.rows up (a + 1)
 | .el n ks r, up, a => ⟨n, ⟨#[]⟩, up⟩ :: (ks.rows (a : Int) (a + 1) ++ r.rows up (a + 1 + ks.size))
def bts (s : ByteArray) : List UInt8 := s.data.toList
def nums (l : List UInt8) : List Int := l.map (fun b => (b.toNat : Int))
theorem nums_app (a b : List UInt8) : nums (a ++ b) = nums a ++ nums b := List.map_append
theorem nums_len (a : List UInt8) : (nums a).length = a.length := List.length_map _
theorem nums_bts (s : ByteArray) : nums (bts s) = bytesOf s := rfl
theorem bts_len (s : ByteArray) : (bts s).length = s.size := by rw [← nums_len, nums_bts, bytesOf_length]
theorem bts_app (a b : ByteArray) : bts (a ++ b) = bts a ++ bts b := by unfold bts; simp
theorem bts_nil : bts ⟨#[]⟩ = [] := rfl
theorem bts_mk (l : List UInt8) : bts ⟨l.toArray⟩ = l := by unfold bts; simp
theorem bts_inj {a b : ByteArray} (h : bts a = bts b) : a = b := bytes_inj (by rw [← nums_bts, ← nums_bts, h])
def Fo.text : Fo → List UInt8
 | .nil => []
 | .run t r => bts t ++ r.text
 | .el n ks r => bts n ++ (ks.text ++ 47 :: r.text)
def Fo.isRun : Fo → Bool
 | .run _ _ => true
 | _ => false
def Fo.ok : Fo → Prop
 | .nil => True
 | .run t r => 0 < t.size ∧ (∀ c ∈ bytesOf t, plainB c = true) ∧ r.isRun = false ∧ r.ok
 | .el n ks r => (∃ c, bytesOf n = [c] ∧ openB c = true) ∧ ks.ok ∧ r.ok
theorem Fo.rows_len : ∀ (F : Fo) (up : Int) (a : Nat), (F.rows up a).length = F.size
 | .nil, _, _ => rfl
 | .run t r, up, a => by rw [Fo.rows, List.length_cons, r.rows_len, Fo.size]
 | .el n ks r, up, a => by rw [Fo.rows, List.length_cons, List.length_append, ks.rows_len, r.rows_len, Fo.size]
theorem name_len {n : ByteArray} (h : ∃ c, bytesOf n = [c] ∧ openB c = true) : n.size = 1 := by
 obtain ⟨c, h, _⟩ := h; rw [← bytesOf_length, h]; rfl
theorem Fo.size_le : ∀ (F : Fo), F.ok → F.size ≤ F.text.length
 | .nil, _ => Nat.le_refl _
 | .run t r, h => by
  have := r.size_le h.2.2.2
  have := h.1
  rw [Fo.size, Fo.text, List.length_append, bts_len]; omega
 | .el n ks r, h => by
  have := ks.size_le h.2.1
  have := r.size_le h.2.2
  rw [Fo.size, Fo.text, List.length_append, List.length_append, List.length_cons]; omega
theorem gt_cons0 {α : Type} (z a : α) (l : List α) : gt z (a :: l) 0 = a := rfl
theorem gt_consS {α : Type} (z a : α) (l : List α) (j : Nat) : gt z (a :: l) (j + 1) = gt z l j := rfl
theorem gt_appR {α : Type} (z : α) (a b : List α) (j : Nat) (h : a.length ≤ j) : gt z (a ++ b) j = gt z b (j - a.length) := by
 unfold gt; rw [List.getD_eq_getElem?_getD, List.getElem?_append_right h, ← List.getD_eq_getElem?_getD]
/-- Where the nodes of a row lie: at the top, or below a node of the row that is ahead. -/
theorem Fo.rows_up : ∀ (F : Fo) (up : Int) (a j : Nat), j < F.size → (gt izN (F.rows up a) j).f2 = up ∨ ((a : Int) ≤ (gt izN (F.rows up a) j).f2 ∧ (gt izN (F.rows up a) j).f2 < (a + j : Nat))
 | .nil, _, _, j, h => by rw [Fo.size] at h; omega
 | .run t r, up, a, j, h => by
  rw [Fo.rows]
  cases j with
  | zero => exact .inl rfl
  | succ j =>
   rw [gt_consS]
   rcases r.rows_up up (a + 1) j (by rw [Fo.size] at h; omega) with h1 | h1
   ·exact .inl h1
   ·exact .inr (by omega)
 | .el n ks r, up, a, j, h => by
  rw [Fo.rows]
  cases j with
  | zero => exact .inl rfl
  | succ j =>
   rw [gt_consS]
   rw [Fo.size] at h
   by_cases hj : j < ks.size
   ·rw [gt_app_l _ _ _ _ (by rw [ks.rows_len]; exact hj)]
    rcases ks.rows_up (a : Int) (a + 1) j hj with h1 | h1
    ·exact .inr (by omega)
    ·exact .inr (by omega)
   ·rw [gt_appR _ _ _ _ (by rw [ks.rows_len]; omega), ks.rows_len]
    rcases r.rows_up up (a + 1 + ks.size) (j - ks.size) (by omega) with h1 | h1
    ·exact .inl h1
    ·exact .inr (by omega)
theorem nums_inj {a b : List UInt8} (h : nums a = nums b) : a = b := by
 refine (List.map_inj_right ?_).1 h
 intro x y hxy
 exact UInt8.toNat_inj.1 (by omega)
theorem seg_cons (l : List Int) (i e : Nat) (h : i < e) (he : e ≤ l.length) : (l.take e).drop i = gt 0 l i :: (l.take e).drop (i + 1) := by
 rw [gt_drop 0 (l.take e) i (by rw [List.length_take]; omega), gt_takeL _ _ _ _ h]
theorem seg_split (l : List Int) (i m e : Nat) (h : i ≤ m) (hm : m ≤ e) (he : e ≤ l.length) : (l.take e).drop i = (l.take m).drop i ++ (l.take e).drop m := by
 have e1 : (l.take e).drop i = ((l.take e).drop i).take (m - i) ++ ((l.take e).drop i).drop (m - i) := (List.take_append_drop _ _).symm
 rw [e1, List.drop_drop, List.take_drop, List.take_take]
 rw [show i + (m - i) = m by omega, Nat.min_eq_left hm]
/-- Each stretch of a document that is as deep at its end as at its begin, and never less deep, is a row of parts. -/
theorem part_forest (s : ByteArray) (hd : docB (bytesOf s) = true) (d : Nat) : ∀ (i e : Nat), e - i ≤ d → i ≤ e → e ≤ s.size → (∀ x, i ≤ x → x ≤ e → D (bytesOf s) i ≤ D (bytesOf s) x) → D (bytesOf s) e = D (bytesOf s) i →
  ∃ F : Fo, F.ok ∧ nums F.text = ((bytesOf s).take e).drop i := by
 have hlen := bytesOf_length s
 induction d with
 | zero =>
  intro i e hd0 hie he _ _
  refine ⟨.nil, trivial, ?_⟩
  rw [List.drop_eq_nil_of_le (by rw [List.length_take]; omega)]; rfl
 | succ d ih =>
  intro i e hd0 hie he hlow hend
  by_cases hlt : i < e
  ·have hDs := D_succ (bytesOf s) i (by omega)
   by_cases ho : openB (gt 0 (bytesOf s) i) = true
   ·obtain ⟨q, hm⟩ := open_mt hd i (by omega) ho
    have hql := Mt_len' hm
    rw [step_open ho] at hDs
    have hDq := hm.2.2.2.2.1
    have hqd := Mt_deep hm
    have hqe : q < e := by
     apply Nat.lt_of_not_le
     intro c
     have := hm.2.2.2.2.2 e (by omega) c
     omega
    obtain ⟨ks, k1, k2⟩ := ih (i + 1) q (by omega) (by omega) (by omega) (fun x h1 h2 => by have := hm.2.2.2.2.2 x (by omega) h2; omega) (by omega)
    obtain ⟨r, r1, r2⟩ := ih (q + 1) e (by omega) (by omega) he (fun x h1 h2 => by have := hlow x (by omega) h2; omega) (by omega)
    have e1 : bytesOf (s.extract i (i + 1)) = [gt 0 (bytesOf s) i] := by
     rw [bytesOf_extract, seg_cons _ _ _ (by omega) (by omega), List.drop_eq_nil_of_le (by rw [List.length_take]; omega)]
    refine ⟨.el (s.extract i (i + 1)) ks r, ⟨⟨_, e1, ho⟩, k1, r1⟩, ?_⟩
    rw [Fo.text, nums_app, nums_app, nums_bts, e1, k2]
    have e2 : nums (47 :: r.text) = 47 :: nums r.text := rfl
    rw [e2, r2, seg_cons _ i e hlt (by omega), seg_split _ (i + 1) q e (by omega) (by omega) (by omega), seg_cons _ q e hqe (by omega), hm.2.2.2.1]
    rfl
   ·have h47 : ¬ gt 0 (bytesOf s) i = 47 := by
     intro h2
     rw [step_shut h2] at hDs
     have := hlow (i + 1) (by omega) (by omega)
     omega
    have hpl : plainB (gt 0 (bytesOf s) i) = true := by
     rcases good_byte (by unfold docB at hd; simp only [Bool.and_eq_true] at hd; exact hd.1) i (by omega) with g | g | g
     ·exact absurd g ho
     ·exact g
     ·exact absurd g h47
    rw [step_plain ho h47] at hDs
    obtain ⟨F, f1, f2⟩ := ih (i + 1) e (by omega) (by omega) he (fun x h1 h2 => by have := hlow x (by omega) h2; omega) (by omega)
    have e1 : bytesOf (s.extract i (i + 1)) = [gt 0 (bytesOf s) i] := by
     rw [bytesOf_extract, seg_cons _ _ _ (by omega) (by omega), List.drop_eq_nil_of_le (by rw [List.length_take]; omega)]
    have hone : (s.extract i (i + 1)).size = 1 := by rw [← bytesOf_length, e1]; rfl
    by_cases hF : F.isRun = true
    ·cases F with
     | nil => cases hF
     | el n ks r => cases hF
     | run t r =>
      have e3 : bytesOf (s.extract i (i + 1) ++ t) = gt 0 (bytesOf s) i :: bytesOf t := by
       rw [← nums_bts, bts_app, nums_app, nums_bts, nums_bts, e1]; rfl
      refine ⟨.run (s.extract i (i + 1) ++ t) r, ⟨by rw [ByteArray.size_append]; omega, ?_, f1.2.2.1, f1.2.2.2⟩, ?_⟩
      ·rw [e3]
       intro c hc
       rcases List.mem_cons.1 hc with rfl | hc
       ·exact hpl
       ·exact f1.2.1 c hc
      ·rw [Fo.text, nums_app, nums_bts] at f2
       rw [Fo.text, nums_app, nums_bts, e3, seg_cons _ i e hlt (by omega), ← f2]; rfl
    ·refine ⟨.run (s.extract i (i + 1)) F, ⟨by omega, ?_, by simpa using hF, f1⟩, ?_⟩
     ·rw [e1]
      intro c hc
      rw [List.mem_singleton] at hc
      subst hc; exact hpl
     ·rw [Fo.text, nums_app, nums_bts, e1, f2, seg_cons _ i e hlt (by omega)]; rfl
  ·have : i = e := by omega
   subst this
   refine ⟨.nil, trivial, ?_⟩
   rw [List.drop_eq_nil_of_le (by rw [List.length_take]; omega)]; rfl
theorem doc_forest (s : ByteArray) (hd : docB (bytesOf s) = true) : ∃ F : Fo, F.ok ∧ F.text = bts s := by
 have hlen := bytesOf_length s
 obtain ⟨F, h1, h2⟩ := part_forest s hd s.size 0 s.size (by omega) (by omega) (Nat.le_refl _) (fun x _ hx => by have := D_nonneg hd x (by omega); rw [D_zero]; exact this)
  (by
   have h := hd
   unfold docB at h; simp only [Bool.and_eq_true] at h
   have := (balF_to _ 0 (Int.le_refl _) (by decide) h.2).2
   rw [D_zero]; unfold D; rw [List.take_of_length_le (by omega)]; exact this)
 refine ⟨F, h1, nums_inj ?_⟩
 rw [h2, nums_bts, List.drop_zero, List.take_of_length_le (by omega)]
def Fo.textA : Fo → Nat → Int → List UInt8
 | .nil, _, _ => []
 | .run t r, a, w => (if (a : Int) = w then [] else bts t) ++ r.textA (a + 1) w
 | .el n ks r, a, w => (if (a : Int) = w then [] else bts n ++ (ks.textA (a + 1) w ++ [47])) ++ r.textA (a + 1 + ks.size) w
theorem Fo.textA_out : ∀ (F : Fo) (a : Nat) (w : Int), w < (a : Int) ∨ (a + F.size : Nat) ≤ w → F.textA a w = F.text
 | .nil, _, _, _ => rfl
 | .run t r, a, w, h => by
  rw [Fo.size] at h
  rw [Fo.textA, Fo.text, if_neg (by omega), r.textA_out (a + 1) w (by omega)]
 | .el n ks r, a, w, h => by
  rw [Fo.size] at h
  rw [Fo.textA, Fo.text, if_neg (by omega), ks.textA_out (a + 1) w (by omega), r.textA_out _ w (by omega)]
  simp
theorem tl_bts (s : ByteArray) : s.toList = bts s := by rw [ByteArray.toList_eq]; rfl
theorem wrKids_add (g : Int → Option (List UInt8)) (l : List IN) (k : Int) (d2 : Nat) : ∀ (d1 i : Nat), wrKids g l k (d1 + d2) i = (wrKids g l k d1 i).bind fun x => (wrKids g l k d2 (i + d1)).bind fun y => some (x ++ y)
 | 0, i => by
  rw [Nat.zero_add, wrKids, Nat.add_zero]
  cases wrKids g l k d2 i <;> rfl
 | d1 + 1, i => by
  rw [show d1 + 1 + d2 = (d1 + d2) + 1 by omega, wrKids, wrKids, wrKids_add g l k d2 d1 (i + 1), show i + 1 + d1 = i + (d1 + 1) by omega]
  split
  ·cases g (i : Int) with
   | none => rfl
   | some a =>
    cases wrKids g l k d1 (i + 1) with
    | none => rfl
    | some b =>
     cases wrKids g l k d2 (i + (d1 + 1)) with
     | none => rfl
     | some c => simp
  ·rfl
theorem wrKids_none (g : Int → Option (List UInt8)) (l : List IN) (k : Int) : ∀ (d i : Nat), (∀ j, i ≤ j → j < i + d → (gt izN l j).f2 ≠ k) → wrKids g l k d i = some []
 | 0, _, _ => rfl
 | d + 1, i, h => by
  rw [wrKids, rd_in, if_neg (h i (Nat.le_refl _) (by omega)), wrKids_none g l k d (i + 1) (fun j h1 h2 => h j (by omega) (by omega))]
/-- A row of parts lies in a tree. -/
structure Lies (l : List IN) (F : Fo) (up : Int) (a : Nat) : Prop where
 up_ : up < (a : Int)
 at_ : ∀ j, j < F.size → gt izN l (a + j) = gt izN (F.rows up a) j
 rest : ∀ j, a + F.size ≤ j → j < l.length → (gt izN l j).f2 < (a : Int) ∨ (a + F.size : Nat) ≤ (gt izN l j).f2
 len : a + F.size ≤ l.length
theorem Lies.head_run {l : List IN} {t : ByteArray} {r : Fo} {up : Int} {a : Nat} (h : Lies l (.run t r) up a) : gt izN l a = ⟨⟨#[]⟩, t, up⟩ := by
 have := h.at_ 0 (by rw [Fo.size]; omega)
 rw [Nat.add_zero, Fo.rows] at this; exact this
theorem Lies.head_el {l : List IN} {n : ByteArray} {ks r : Fo} {up : Int} {a : Nat} (h : Lies l (.el n ks r) up a) : gt izN l a = ⟨n, ⟨#[]⟩, up⟩ := by
 have := h.at_ 0 (by rw [Fo.size]; omega)
 rw [Nat.add_zero, Fo.rows] at this; exact this
theorem Lies.next_run {l : List IN} {t : ByteArray} {r : Fo} {up : Int} {a : Nat} (h : Lies l (.run t r) up a) : Lies l r up (a + 1) := by
 obtain ⟨h1, h2, h3, h4⟩ := h
 rw [Fo.size] at h2 h3 h4
 refine ⟨by omega, fun j hj => ?_, fun j h5 h6 => ?_, by omega⟩
 ·have := h2 (j + 1) (by omega)
  rw [Fo.rows, gt_consS] at this
  rw [show a + 1 + j = a + (j + 1) by omega]; exact this
 ·rcases h3 j (by omega) h6 with h | h
  ·exact .inl (by omega)
  ·exact .inr (by omega)
theorem Lies.kids {l : List IN} {n : ByteArray} {ks r : Fo} {up : Int} {a : Nat} (h : Lies l (.el n ks r) up a) : Lies l ks (a : Int) (a + 1) := by
 obtain ⟨h1, h2, h3, h4⟩ := h
 rw [Fo.size] at h2 h3 h4
 refine ⟨by omega, fun j hj => ?_, fun j h5 h6 => ?_, by omega⟩
 ·have := h2 (j + 1) (by omega)
  rw [Fo.rows, gt_consS, gt_app_l _ _ _ _ (by rw [ks.rows_len]; exact hj)] at this
  rw [show a + 1 + j = a + (j + 1) by omega]; exact this
 ·by_cases hj : j < a + (ks.size + r.size + 1)
  ·have := h2 (j - a) (by omega)
   obtain ⟨m, rfl⟩ : ∃ m, j = a + 1 + ks.size + m := ⟨j - (a + 1 + ks.size), by omega⟩
   rw [show a + 1 + ks.size + m - a = (ks.size + m) + 1 by omega, Fo.rows, gt_consS, gt_appR _ _ _ _ (by rw [ks.rows_len]; omega), ks.rows_len, show ks.size + m - ks.size = m by omega, show a + (ks.size + m + 1) = a + 1 + ks.size + m by omega] at this
   rw [this]
   rcases r.rows_up up (a + 1 + ks.size) m (by omega) with h | h
   ·exact .inl (by omega)
   ·exact .inr (by omega)
  ·rcases h3 j (by omega) h6 with h | h
   ·exact .inl (by omega)
   ·exact .inr (by omega)
theorem Lies.next_el {l : List IN} {n : ByteArray} {ks r : Fo} {up : Int} {a : Nat} (h : Lies l (.el n ks r) up a) : Lies l r up (a + 1 + ks.size) := by
 obtain ⟨h1, h2, h3, h4⟩ := h
 rw [Fo.size] at h2 h3 h4
 refine ⟨by omega, fun j hj => ?_, fun j h5 h6 => ?_, by omega⟩
 ·have := h2 ((ks.size + j) + 1) (by omega)
  rw [Fo.rows, gt_consS, gt_appR _ _ _ _ (by rw [ks.rows_len]; omega), ks.rows_len, show ks.size + j - ks.size = j by omega] at this
  rw [show a + 1 + ks.size + j = a + ((ks.size + j) + 1) by omega]; exact this
 ·rcases h3 j (by omega) h6 with h | h
  ·exact .inl (by omega)
  ·exact .inr (by omega)
/-- Who lies behind a node that begins a row is no child of it, but for those within. -/
theorem Lies.run_none {l : List IN} {t : ByteArray} {r : Fo} {up : Int} {a : Nat} (h : Lies l (.run t r) up a) (j : Nat) (h1 : a + 1 ≤ j) (h2 : j < l.length) : (gt izN l j).f2 ≠ (a : Int) := by
 have hn := h.next_run
 by_cases hj : j < a + 1 + r.size
 ·obtain ⟨m, rfl⟩ : ∃ m, j = a + 1 + m := ⟨j - (a + 1), by omega⟩
  rw [hn.at_ m (by omega)]
  have := h.up_
  rcases r.rows_up up (a + 1) m (by omega) with h | h <;> omega
 ·have := h.rest j (by rw [Fo.size]; omega) h2
  rw [Fo.size] at this
  omega
theorem Lies.el_none {l : List IN} {n : ByteArray} {ks r : Fo} {up : Int} {a : Nat} (h : Lies l (.el n ks r) up a) (j : Nat) (h1 : a + 1 + ks.size ≤ j) (h2 : j < l.length) : (gt izN l j).f2 ≠ (a : Int) := by
 have hn := h.next_el
 by_cases hj : j < a + 1 + ks.size + r.size
 ·obtain ⟨m, rfl⟩ : ∃ m, j = a + 1 + ks.size + m := ⟨j - (a + 1 + ks.size), by omega⟩
  rw [hn.at_ m (by omega)]
  have := h.up_
  rcases r.rows_up up (a + 1 + ks.size) m (by omega) with h | h <;> omega
 ·have := h.rest j (by rw [Fo.size]; omega) h2
  rw [Fo.size] at this
  omega
theorem Lies.kids_not {l : List IN} {n : ByteArray} {ks r : Fo} {up : Int} {a : Nat} (h : Lies l (.el n ks r) up a) (j : Nat) (h1 : a + 1 ≤ j) (h2 : j < a + 1 + ks.size) : (gt izN l j).f2 ≠ up := by
 have hk := h.kids
 obtain ⟨m, rfl⟩ : ∃ m, j = a + 1 + m := ⟨j - (a + 1), by omega⟩
 rw [hk.at_ m (by omega)]
 have := h.up_
 rcases ks.rows_up (a : Int) (a + 1) m (by omega) with h | h <;> omega
theorem app_e0 (t : ByteArray) : (⟨#[]⟩ : ByteArray) ++ t = t := bts_inj (by rw [bts_app, bts_nil, List.nil_append])
theorem app_e1 (t : ByteArray) : t ++ (⟨#[]⟩ : ByteArray) = t := bts_inj (by rw [bts_app, bts_nil, List.append_nil])
/-- What is written of one node that begins a row. -/
theorem wrF_run {l : List IN} {t : ByteArray} {r : Fo} {up : Int} {a : Nat} (h : Lies l (.run t r) up a) (away : Int) (f : Nat) : wrF l away (f + 1) (a : Int) = some (if (a : Int) = away then [] else bts t) := by
 have hl := h.len
 rw [Fo.size] at hl
 rw [wrF]
 by_cases hw : (a : Int) = away
 ·rw [if_pos hw, if_pos hw]
 ·rw [if_neg hw, if_neg hw, if_pos ⟨by omega, by omega⟩, Int.toNat_natCast, wrKids_none _ _ _ _ _ (fun j h1 h2 => h.run_none j h1 (by omega)), rd_in, h.head_run]
  simp [tl_bts, app_e0, bts_nil]
theorem name_bts {n : ByteArray} (h : n.size = 1) : ¬ bts n = [] := by
 intro c; have := bts_len n; rw [c] at this; simp at this; omega
theorem wrKids_forest (l : List IN) (away : Int) : ∀ (F : Fo) (_ : F.ok) (up : Int) (a : Nat), Lies l F up a → ∀ f, F.size ≤ f → wrKids (wrF l away f) l up F.size a = some (F.textA a away)
 | .nil, _, up, a, _, f, _ => rfl
 | .run t r, hk, up, a, h, f, hf => by
  have hz := hf
  rw [Fo.size] at hz
  obtain ⟨f, rfl⟩ : ∃ m, f = m + 1 := ⟨f - 1, by omega⟩
  have ih := wrKids_forest l away r hk.2.2.2 up (a + 1) h.next_run (f + 1) (by omega)
  rw [Fo.size, wrKids, rd_in, h.head_run, if_pos rfl, wrF_run h, ih]
  rfl
 | .el n ks r, hk, up, a, h, f, hf => by
  have hz := hf
  rw [Fo.size] at hz
  obtain ⟨f, rfl⟩ : ∃ m, f = m + 1 := ⟨f - 1, by omega⟩
  have hl := h.len
  rw [Fo.size] at hl
  have ih1 := wrKids_forest l away ks hk.2.1 (a : Int) (a + 1) h.kids f (by omega)
  have ih2 := wrKids_forest l away r hk.2.2 up (a + 1 + ks.size) h.next_el (f + 1) (by omega)
  have e1 : wrF l away (f + 1) (a : Int) = some (if (a : Int) = away then [] else bts n ++ (ks.textA (a + 1) away ++ [47])) := by
   rw [wrF]
   by_cases hw : (a : Int) = away
   ·rw [if_pos hw, if_pos hw]
   ·have e : l.length - (a + 1) = ks.size + (l.length - (a + 1) - ks.size) := by omega
    rw [if_neg hw, if_neg hw, if_pos ⟨by omega, by omega⟩, Int.toNat_natCast, e, wrKids_add, ih1, wrKids_none _ _ _ _ _ (fun j h1 h2 => h.el_none j h1 (by omega)), rd_in, h.head_el]
    simp only [Option.bind_some, tl_bts, app_e1]
    rw [if_neg (name_bts (name_len hk.1)), List.append_nil]
  rw [Fo.size, show ks.size + r.size + 1 = (ks.size + r.size) + 1 from rfl, wrKids, rd_in, h.head_el, if_pos rfl, e1, wrKids_add, wrKids_none _ _ _ _ _ (fun j h1 h2 => h.kids_not j h1 h2), ih2]
  rfl
def root : IN := ⟨⟨#[]⟩, ⟨#[]⟩, -1⟩
theorem lies_root (F : Fo) : Lies (root :: F.rows 0 1) F 0 1 := by
 refine ⟨by decide, fun j hj => ?_, fun j h1 h2 => ?_, ?_⟩
 ·rw [Nat.add_comm, gt_consS]
 ·rw [List.length_cons, F.rows_len] at h2; omega
 ·rw [List.length_cons, F.rows_len]; omega
/-- What is written of a whole tree, but for a node. -/
theorem wrF_root (F : Fo) (hF : F.ok) (away : Int) (hw : away ≠ 0) (f : Nat) (hf : F.size ≤ f) : wrF (root :: F.rows 0 1) away (f + 1) 0 = some (F.textA 1 away) := by
 have hl : (root :: F.rows 0 1).length = F.size + 1 := by rw [List.length_cons, F.rows_len]
 rw [wrF, if_neg (fun e => hw e.symm), if_pos ⟨by decide, by omega⟩]
 have e : (root :: F.rows 0 1).length - ((0 : Int).toNat + 1) = F.size := by rw [hl]; rfl
 rw [e, show (0 : Int).toNat + 1 = 1 from rfl, wrKids_forest _ _ F hF 0 1 (lies_root F) f hf]
 have e2 : rd_T54 (root :: F.rows 0 1) 0 = root := rfl
 rw [e2]
 simp [tl_bts, root, bts_nil, app_e0]
/-- The sum of d values from i on. -/
def sm (p : Nat → Nat) : Nat → Nat → Nat
 | 0, _ => 0
 | d + 1, i => p i + sm p d (i + 1)
theorem sm_add (p q : Nat → Nat) : ∀ d i, sm (fun j => p j + q j) d i = sm p d i + sm q d i
 | 0, _ => rfl
 | d + 1, i => by rw [sm, sm, sm, sm_add p q d (i + 1)]; omega
theorem sm_congr (p q : Nat → Nat) : ∀ d i, (∀ j, i ≤ j → j < i + d → p j = q j) → sm p d i = sm q d i
 | 0, _, _ => rfl
 | d + 1, i, h => by rw [sm, sm, h i (Nat.le_refl _) (by omega), sm_congr p q d (i + 1) (fun j h1 h2 => h j (by omega) (by omega))]
theorem sm_le (p : Nat → Nat) : ∀ d i j, i ≤ j → j < i + d → p j ≤ sm p d i
 | 0, _, _, _, h => by omega
 | d + 1, i, j, h1, h2 => by
  rw [sm]
  by_cases c : j = i
  ·subst c; omega
  ·have := sm_le p d (i + 1) j (by omega) (by omega); omega
theorem sm_split (p : Nat → Nat) (b : Nat) : ∀ a i, sm p (a + b) i = sm p a i + sm p b (i + a)
 | 0, i => by rw [Nat.zero_add, sm, Nat.zero_add, Nat.add_zero]
 | a + 1, i => by rw [show a + 1 + b = (a + b) + 1 by omega, sm, sm, sm_split p b a (i + 1), show i + 1 + a = i + (a + 1) by omega]; omega
/-- What a node's kids from a place on come to. -/
def KT (T : Nat → List UInt8) (l : List IN) (k : Int) : Nat → Nat → List UInt8
 | 0, _ => []
 | d + 1, i => if (gt izN l i).f2 = k then T i ++ KT T l k d (i + 1) else KT T l k d (i + 1)
theorem wrKids_some (g : Int → Option (List UInt8)) (T : Nat → List UInt8) (l : List IN) (k : Int) : ∀ (d i : Nat), (∀ j : Nat, i ≤ j → j < i + d → (gt izN l j).f2 = k → g (j : Int) = some (T j)) → wrKids g l k d i = some (KT T l k d i)
 | 0, _, _ => rfl
 | d + 1, i, h => by
  have ih := wrKids_some g T l k d (i + 1) (fun j h1 h2 h3 => h j (by omega) (by omega) h3)
  rw [wrKids, KT, rd_in, ih]
  by_cases c : (gt izN l i).f2 = k
  ·rw [if_pos c, if_pos c, h i (Nat.le_refl _) (by omega) c]; rfl
  ·rw [if_neg c, if_neg c]
theorem KT_len (T : Nat → List UInt8) (l : List IN) (k : Int) : ∀ (d i : Nat), (KT T l k d i).length = sm (fun j => if (gt izN l j).f2 = k then (T j).length else 0) d i
 | 0, _ => rfl
 | d + 1, i => by
  rw [KT, sm, ← KT_len T l k d (i + 1)]
  by_cases c : (gt izN l i).f2 = k
  ·rw [if_pos c, if_pos c, List.length_append]
  ·rw [if_neg c, if_neg c, Nat.zero_add]
theorem leO_some {α : Type} {a b : Option α} {r : α} (h : LeO a b) (ha : a = some r) : b = some r := h r ha
theorem wrF_more (l : List IN) (away k : Int) (r : List UInt8) (f : Nat) (h : wrF l away f k = some r) : ∀ d, wrF l away (f + d) k = some r
 | 0 => h
 | d + 1 => leO_some (wrF_mono l away (f + d) k) (wrF_more l away k r f h d)
theorem wrF_more' (l : List IN) (away k : Int) (r : List UInt8) (f f' : Nat) (hf : f ≤ f') (h : wrF l away f k = some r) : wrF l away f' k = some r := by
 have := wrF_more l away k r f h (f' - f)
 rwa [show f + (f' - f) = f' by omega] at this
/-- What is written of each node where each lies below one that is ahead. -/
noncomputable def TT (l : List IN) (k : Nat) : List UInt8 := (wrF l (-1) (l.length - k) (k : Int)).getD []
def slash (n : IN) : List UInt8 := if bts n.f0 = [] then [] else [47]
def wN (n : IN) : Nat := n.f0.size + n.f1.size + (slash n).length
def Ahead (l : List IN) : Prop := ∀ k, k < l.length → (gt izN l k).f2 < (k : Int)
theorem TT_all (l : List IN) (ha : Ahead l) (d : Nat) : ∀ m, m + d = l.length → (∀ k, m ≤ k → k < l.length → wrF l (-1) (l.length - k) (k : Int) = some (TT l k) ∧ TT l k = bts (gt izN l k).f0 ++ bts (gt izN l k).f1 ++ (KT (TT l) l (k : Int) (l.length - (k + 1)) (k + 1) ++ slash (gt izN l k))) ∧
  sm (fun j => if (gt izN l j).f2 < (m : Int) then (TT l j).length else 0) d m = sm (fun j => wN (gt izN l j)) d m := by
 induction d with
 | zero => exact fun m hm => ⟨fun k h1 h2 => by omega, rfl⟩
 | succ d ih =>
  intro m hm
  obtain ⟨i1, i2⟩ := ih (m + 1) (by omega)
  have hk : wrKids (wrF l (-1) (l.length - (m + 1))) l (m : Int) (l.length - (m + 1)) (m + 1) = some (KT (TT l) l (m : Int) (l.length - (m + 1)) (m + 1)) := by
   refine wrKids_some _ _ _ _ _ _ (fun j h1 h2 _ => ?_)
   exact wrF_more' l (-1) _ _ _ _ (by omega) (i1 j (by omega) (by omega)).1
  have e0 : wrF l (-1) (l.length - m) (m : Int) = some (bts (gt izN l m).f0 ++ bts (gt izN l m).f1 ++ (KT (TT l) l (m : Int) (l.length - (m + 1)) (m + 1) ++ slash (gt izN l m))) := by
   rw [show l.length - m = (l.length - (m + 1)) + 1 by omega, wrF, if_neg (by omega), if_pos ⟨by omega, by omega⟩, Int.toNat_natCast, hk, rd_in]
   simp only [Option.bind_some, tl_bts, bts_app]
   rfl
  have e1 : TT l m = bts (gt izN l m).f0 ++ bts (gt izN l m).f1 ++ (KT (TT l) l (m : Int) (l.length - (m + 1)) (m + 1) ++ slash (gt izN l m)) := by
   unfold TT; rw [e0]; rfl
  refine ⟨fun k h1 h2 => ?_, ?_⟩
  ·by_cases c : k = m
   ·subst c; exact ⟨by rw [e1]; exact e0, e1⟩
   ·exact i1 k (by omega) h2
  ·rw [sm, sm, if_pos (ha m (by omega)), ← i2]
   have e2 : (TT l m).length = wN (gt izN l m) + sm (fun j => if (gt izN l j).f2 = (m : Int) then (TT l j).length else 0) d (m + 1) := by
    rw [e1, List.length_append, List.length_append, List.length_append, KT_len, bts_len, bts_len, show l.length - (m + 1) = d by omega]; unfold wN; omega
   have e3 : sm (fun j => if (gt izN l j).f2 < ((m + 1 : Nat) : Int) then (TT l j).length else 0) d (m + 1) = sm (fun j => if (gt izN l j).f2 = (m : Int) then (TT l j).length else 0) d (m + 1) + sm (fun j => if (gt izN l j).f2 < (m : Int) then (TT l j).length else 0) d (m + 1) := by
    rw [← sm_add]
    refine sm_congr _ _ _ _ (fun j _ _ => ?_)
    rcases Int.lt_trichotomy (gt izN l j).f2 (m : Int) with c | c | c
    ·rw [if_pos (by omega), if_neg (by omega), if_pos c]; omega
    ·rw [if_pos (by omega), if_pos c, if_neg (by omega)]; omega
    ·rw [if_neg (by omega), if_neg (by omega), if_neg (by omega)]
   rw [e2, e3]; omega
theorem TT_wr (l : List IN) (ha : Ahead l) (k : Nat) (hk : k < l.length) : wrF l (-1) (l.length - k) (k : Int) = some (TT l k) := ((TT_all l ha l.length 0 (by omega)).1 k (by omega) hk).1
theorem TT_is (l : List IN) (ha : Ahead l) (k : Nat) (hk : k < l.length) : TT l k = bts (gt izN l k).f0 ++ bts (gt izN l k).f1 ++ (KT (TT l) l (k : Int) (l.length - (k + 1)) (k + 1) ++ slash (gt izN l k)) := ((TT_all l ha l.length 0 (by omega)).1 k (by omega) hk).2
theorem TT_len (l : List IN) (ha : Ahead l) (k : Nat) (hk : k < l.length) : (TT l k).length ≤ sm (fun j => wN (gt izN l j)) (l.length - k) k := by
 obtain ⟨_, h⟩ := TT_all l ha (l.length - k) k (by omega)
 rw [← h]
 have := sm_le (fun j => if (gt izN l j).f2 < (k : Int) then (TT l j).length else 0) (l.length - k) k k (Nat.le_refl _) (by omega)
 rw [if_pos (ha k hk)] at this; exact this
theorem slash_len (n : IN) : (slash n).length ≤ 1 := by unfold slash; split <;> simp
theorem wN_sum (l : List IN) (B : Nat) (hB : (l.map (fun x => x.f0.size + x.f1.size)).sum ≤ B) (k : Nat) (hk : k ≤ l.length) : sm (fun j => wN (gt izN l j)) (l.length - k) k ≤ B + l.length := by
 have h0 : ∀ d i, i + d = l.length → sm (fun j => wN (gt izN l j)) d i ≤ ((l.drop i).map (fun x => x.f0.size + x.f1.size)).sum + d := by
  intro d
  induction d with
  | zero => intro i _; rw [sm]; omega
  | succ d ih =>
   intro i hi
   have := ih (i + 1) (by omega)
   have h2 := slash_len (gt izN l i)
   rw [sm, gt_drop izN l i (by omega), List.map_cons, List.sum_cons]
   have e : wN (gt izN l i) = (gt izN l i).f0.size + (gt izN l i).f1.size + (slash (gt izN l i)).length := rfl
   omega
 have h1 : ∀ (q : List Nat) n, (q.drop n).sum ≤ q.sum := by
  intro q
  induction q with
  | nil => intro n; simp
  | cons a q ih =>
   intro n
   cases n with
   | zero => exact Nat.le_refl _
   | succ n => rw [List.drop_succ_cons, List.sum_cons]; have := ih n; omega
 have h2 := h0 (l.length - k) k (by omega)
 have h3 := h1 (l.map (fun x => x.f0.size + x.f1.size)) k
 rw [← List.map_drop] at h3
 omega
/-! ### the reference's flat text -/
def kidsL (l : List IN) (k : Int) : Nat → Nat → List Int
 | 0, _ => []
 | d + 1, i => if (gt izN l i).f2 = k then (i : Int) :: kidsL l k d (i + 1) else kidsL l k d (i + 1)
theorem kidsL_len (l : List IN) (k : Int) : ∀ d i, (kidsL l k d i).length ≤ d
 | 0, _ => Nat.le_refl _
 | d + 1, i => by
  have := kidsL_len l k d (i + 1)
  rw [kidsL]; split
  ·rw [List.length_cons]; omega
  ·omega
theorem kidsL_mem (l : List IN) (k : Int) : ∀ d i x, x ∈ kidsL l k d i → ∃ j : Nat, x = (j : Int) ∧ i ≤ j ∧ j < i + d ∧ (gt izN l j).f2 = k
 | 0, _, x, h => by cases h
 | d + 1, i, x, h => by
  rw [kidsL] at h
  by_cases c : (gt izN l i).f2 = k
  ·rw [if_pos c] at h
   rcases List.mem_cons.1 h with rfl | h
   ·exact ⟨i, rfl, by omega, by omega, c⟩
   ·obtain ⟨j, h1, h2, h3, h4⟩ := kidsL_mem l k d (i + 1) x h
    exact ⟨j, h1, by omega, by omega, h4⟩
  ·rw [if_neg c] at h
   obtain ⟨j, h1, h2, h3, h4⟩ := kidsL_mem l k d (i + 1) x h
   exact ⟨j, h1, by omega, by omega, h4⟩
theorem KT_kids (T : Nat → List UInt8) (l : List IN) (k : Int) : ∀ d i, KT T l k d i = (kidsL l k d i).flatMap (fun x => T x.toNat)
 | 0, _ => rfl
 | d + 1, i => by
  rw [KT, kidsL, KT_kids T l k d (i + 1)]
  by_cases c : (gt izN l i).f2 = k
  ·rw [if_pos c, if_pos c, List.flatMap_cons, Int.toNat_natCast]
  ·rw [if_neg c, if_neg c]
theorem spec_l2Kids_l (l : List IN) (hl : l.length ≤ 1048576) (a : Int) (d : Nat) : ∀ (i : Nat) (acc : List Int), i + d = l.length → acc.length ≤ i → Ev (fun k => spec_l2Kids.l0 k l a acc (i : Int)) (acc ++ kidsL l a d i) := by
 induction d with
 | zero =>
  intro i acc hi hacc
  refine Ev.step (fun k => by rw [spec_l2Kids.l0]) ?_
  refine ev_neg (by omega) (ev_ret ?_)
  rw [kidsL, List.append_nil]
 | succ d ih =>
  intro i acc hi hacc
  refine Ev.step (fun k => by rw [spec_l2Kids.l0]) ?_
  rw [kidsL, wrap_succ i (by omega), rd_in]
  refine ev_pos (by omega) (ev_pos (by omega) (ev_if (fun c => ev_pos (by omega) ?_) (fun c => ?_)))
  ·rw [if_pos c]
   have := ih (i + 1) (acc ++ [(i : Int)]) (by omega) (by rw [List.length_append, List.length_singleton]; omega)
   rw [List.append_assoc] at this; exact this
  ·rw [if_neg c]; exact ih (i + 1) acc (by omega) (by omega)
theorem spec_l2Kids_f (l : List IN) (hl : l.length ≤ 1048576) (a : Nat) (ha : a < l.length) : Ev (fun k => spec_l2Kids.f k l (a : Int)) (kidsL l (a : Int) (l.length - (a + 1)) (a + 1)) := by
 unfold spec_l2Kids.f
 rw [wrap_succ a (by omega)]
 have := spec_l2Kids_l l hl (a : Int) (l.length - (a + 1)) (a + 1) [] (by omega) (by simp)
 rw [List.nil_append] at this; exact this
theorem spec_l2Flat_l (l : List IN) (T : Nat → List UInt8) (a : Nat) (ha : a < l.length) (ks : List Int) (hks : ks.length ≤ 1048576) (hT : ∀ x ∈ ks, ∃ j : Nat, x = (j : Int) ∧ Ev (fun k => spec_l2Flat.f k l x) ⟨(T j).toArray⟩) (d : Nat) :
  ∀ (p : Nat) (acc : ByteArray), p + d = ks.length → acc.size + ((ks.drop p).flatMap (fun x => T x.toNat)).length + (gt izN l a).f0.size ≤ 4000000 → ∃ r, Ev (fun k => spec_l2Flat.l0 k l (a : Int) acc ks (ks.length : Int) (p : Int)) r ∧ bts r = bts (gt izN l a).f0 ++ (bts acc ++ (ks.drop p).flatMap (fun x => T x.toNat)) ++ slash (gt izN l a) := by
 induction d with
 | zero =>
  intro p acc hp hb
  have hn : ks.drop p = [] := List.drop_eq_nil_of_le (by omega)
  rw [hn] at hb ⊢
  rw [List.flatMap_nil, List.append_nil]
  rw [List.flatMap_nil, List.length_nil] at hb
  by_cases c : (gt izN l a).f0.toList = ([] : List UInt8)
  ·refine ⟨acc, ?_, ?_⟩
   ·refine Ev.step (fun k => by rw [spec_l2Flat.l0]) ?_
    rw [rd_in]
    exact ev_neg (by omega) (ev_pos (by omega) (ev_pos (by omega) (ev_pos c (ev_ret rfl))))
   ·rw [tl_bts] at c
    unfold slash
    rw [c, if_pos rfl]; simp
  ·refine ⟨(gt izN l a).f0 ++ acc ++ ⟨#[47]⟩, ?_, ?_⟩
   ·refine Ev.step (fun k => by rw [spec_l2Flat.l0]) ?_
    rw [rd_in]
    exact ev_neg (by omega) (ev_pos (by omega) (ev_pos (by omega) (ev_neg c (ev_pos (by omega) (ev_pos (by rw [ByteArray.size_append]; omega) (ev_ret rfl))))))
   ·rw [tl_bts] at c
    unfold slash
    rw [if_neg c, bts_app, bts_app]; rfl
 | succ d ih =>
  intro p acc hp hb
  have e := gt_drop 0 ks p (by omega)
  rw [e, List.flatMap_cons] at hb ⊢
  obtain ⟨j, ej, hj⟩ := hT _ (gt_mem 0 ks p (by omega))
  rw [ej, Int.toNat_natCast, List.length_append] at hb
  rw [ej, Int.toNat_natCast]
  rw [ej] at hj
  have hz : (⟨(T j).toArray⟩ : ByteArray).size = (T j).length := by rw [← bts_len, bts_mk]
  obtain ⟨r, r1, r2⟩ := ih (p + 1) (acc ++ ⟨(T j).toArray⟩) (by omega) (by rw [ByteArray.size_append, hz]; omega)
  refine ⟨r, ?_, ?_⟩
  ·refine Ev.step (fun k => by rw [spec_l2Flat.l0]) ?_
   rw [wrap_succ p (by omega)]
   have er : rd ks (p : Int) = (j : Int) := by
    rw [← ej]; rfl
   rw [er]
   exact ev_pos (by omega) (ev_pos (by omega) (ev_pos (by omega) (Ev.bind hj (ev_pos (by omega) r1))))
  ·rw [r2, bts_app, bts_mk (T j), List.append_assoc (bts acc)]
theorem KT_le (l : List IN) (ha : Ahead l) (k : Nat) (hk : k < l.length) : (gt izN l k).f0.size + (gt izN l k).f1.size + (KT (TT l) l (k : Int) (l.length - (k + 1)) (k + 1)).length ≤ (TT l k).length := by
 rw [TT_is l ha k hk, List.length_append, List.length_append, List.length_append, bts_len, bts_len]; omega
theorem spec_l2Flat_f (l : List IN) (ha : Ahead l) (hl : l.length ≤ 1048576) (hs : (l.map (fun x => x.f0.size + x.f1.size)).sum ≤ 1048576) (d : Nat) : ∀ k : Nat, k + d = l.length → ∀ j, k ≤ j → j < l.length → Ev (fun n => spec_l2Flat.f n l (j : Int)) ⟨(TT l j).toArray⟩ := by
 induction d with
 | zero => intro k hk j h1 h2; omega
 | succ d ih =>
  intro k hk j h1 h2
  by_cases c : j = k
  ·subst c
   have h3 := TT_len l ha j h2
   have h4 := wN_sum l _ hs j (by omega)
   have h5 := KT_le l ha j h2
   obtain ⟨r, r1, r2⟩ := spec_l2Flat_l l (TT l) j h2 (kidsL l (j : Int) (l.length - (j + 1)) (j + 1)) (by have := kidsL_len l (j : Int) (l.length - (j + 1)) (j + 1); omega)
    (fun x hx => by
     obtain ⟨i, e, i1, i2, _⟩ := kidsL_mem _ _ _ _ _ hx
     subst e
     exact ⟨i, rfl, ih (j + 1) (by omega) i (by omega) (by omega)⟩) _ 0 (gt izN l j).f1 (Nat.zero_add _)
    (by rw [List.drop_zero, ← KT_kids]; omega)
   rw [List.drop_zero, ← KT_kids] at r2
   have e : r = ⟨(TT l j).toArray⟩ := by
    apply bts_inj
    rw [r2, bts_mk (TT l j), TT_is l ha j h2]
    simp only [List.append_assoc]
   rw [← e]
   refine Ev.step (fun k => by rw [spec_l2Flat.f]) ?_
   rw [rd_in]
   exact ev_pos (by omega) (ev_pos (by omega) (Ev.bind (spec_l2Kids_f l hl j h2) r1))
  ·exact ih (k + 1) (by omega) j (by omega) h2
theorem spec_l2Flat_g (l : List IN) (ha : Ahead l) (hl : l.length ≤ 1048576) (hs : (l.map (fun x => x.f0.size + x.f1.size)).sum ≤ 1048576) (j : Nat) (h2 : j < l.length) : Ev (fun n => spec_l2Flat.f n l (j : Int)) ⟨(TT l j).toArray⟩ :=
 spec_l2Flat_f l ha hl hs l.length 0 (by omega) j (by omega) h2
theorem tl_nil (s : ByteArray) : s.toList = ([] : List UInt8) ↔ s.size = 0 := by
 rw [← List.length_eq_zero_iff, tl_bts, bts_len]
theorem size0 {s : ByteArray} (h : s.size = 0) : s = ⟨#[]⟩ := bts_inj (by rw [bts_nil]; exact List.length_eq_zero_iff.1 (by rw [bts_len]; exact h))
def runB (n : IN) : Bool := decide (n.f0.size = 0 ∧ 0 < n.f1.size)
theorem isRun_f (n : IN) : impl_Node_isRun.f n.f0 n.f1 n.f2 = some (runB n) := by
 unfold impl_Node_isRun.f runB
 by_cases c : n.f0.toList = ([] : List UInt8)
 ·rw [if_pos c]
  have c' := (tl_nil _).1 c
  by_cases c1 : n.f1.toList = ([] : List UInt8)
  ·have := (tl_nil _).1 c1
   rw [c1, decide_eq_false (by omega)]; rfl
  ·have : ¬ n.f1.size = 0 := fun q => c1 ((tl_nil _).2 q)
   rw [decide_eq_true (by omega), bne_iff_ne.2 c1]
 ·rw [if_neg c]
  have c' : ¬ n.f0.size = 0 := fun q => c ((tl_nil _).2 q)
  rw [decide_eq_false (by omega)]
def NameT (s : ByteArray) : Prop := ∃ c, bytesOf s = [c] ∧ openB c = true
theorem isNameText_f (s : ByteArray) : ∃ b, impl_isNameText.f s = some b ∧ (b = true ↔ NameT s) := by
 unfold impl_isNameText.f NameT
 have hlen := bytesOf_length s
 by_cases c : (s.size : Int) = 1
 ·have e : bytesOf s = [bt s 0] := by
   have := drop_bytes s 0 (by omega)
   rw [List.drop_zero, drop_end s 1 (by omega)] at this
   exact this
  refine ⟨openB (bt s 0), ?_, ?_⟩
  ·rw [if_pos c, if_pos (by omega), impl_isName_f]; rfl
  ·rw [e]
   constructor
   ·intro h; exact ⟨_, rfl, h⟩
   ·rintro ⟨c', h1, h2⟩
    injection h1 with h1 _
    rw [h1]; exact h2
 ·refine ⟨false, by rw [if_neg c], ?_⟩
  constructor
  ·intro h; cases h
  ·rintro ⟨c', h1, _⟩
   rw [h1, List.length_singleton] at hlen; omega
def nodeP (n : IN) : Prop := (NameT n.f0 ∧ n.f1 = ⟨#[]⟩) ∨ (n.f0 = ⟨#[]⟩ ∧ 0 < n.f1.size ∧ ∀ c ∈ bytesOf n.f1, plainB c = true)
theorem name_not_run {n : IN} (h : NameT n.f0) : runB n = false := by
 have := name_len h
 unfold runB; rw [decide_eq_false (by omega)]
theorem keep_all (t : ByteArray) : (keepL plainP t).size = t.size ↔ ∀ c ∈ bytesOf t, plainB c = true := by
 rw [← bts_len, ← bts_len]
 have e : bts (keepL plainP t) = (bts t).filter (fun c => plainP (c.toNat : Int)) := bts_mk _
 rw [e, List.length_filter_eq_length_iff]
 have hp : ∀ c, plainP c = plainB c := fun c => by unfold plainP; rw [impl_isPlain_f]; rfl
 constructor
 ·intro h c hc
  obtain ⟨b, hb, rfl⟩ := List.mem_map.1 hc
  rw [← hp]; exact h b hb
 ·intro h b hb
  rw [hp]; exact h _ (List.mem_map.2 ⟨b, hb, rfl⟩)
/-- Who is above a node, itself among them. -/
inductive Ch (l : List IN) : Int → Int → Prop where
 | here (u : Int) (h : 0 ≤ u) : Ch l u u
 | up (u v : Int) (h : 0 ≤ u) (k : Ch l (gt izN l u.toNat).f2 v) : Ch l u v
theorem Ch.trans {l : List IN} {a b c : Int} (h : Ch l a b) (k : Ch l b c) : Ch l a c := by
 induction h with
 | here u h => exact k
 | up u v h _ ih => exact Ch.up u _ h (ih k)
def startN (l : List IN) (i : Nat) : Int := if runB (gt izN l (i - 1)) = true then (gt izN l (i - 1)).f2 else ((i - 1 : Nat) : Int)
def condN (l : List IN) (i : Nat) : Prop := nodeP (gt izN l i) ∧ Ch l (startN l i) (gt izN l i).f2 ∧ ¬ (runB (gt izN l (i - 1)) = true ∧ runB (gt izN l i) = true ∧ (gt izN l i).f2 = (gt izN l (i - 1)).f2)
def Prior (l : List IN) (i : Nat) : Prop := ∀ j, j < i → -1 ≤ (gt izN l j).f2 ∧ (gt izN l j).f2 < (j : Int)
theorem Ch_bound {l : List IN} {i : Nat} (hp : Prior l i) {x v : Int} (h : Ch l x v) : x < (i : Int) → 0 ≤ v ∧ v ≤ x := by
 induction h with
 | here u h => exact fun _ => ⟨h, Int.le_refl _⟩
 | up u v h _ ih =>
  intro hx
  have := hp u.toNat (by omega)
  have := ih (by omega)
  omega
theorem start_lt {l : List IN} {i : Nat} (hi : 1 ≤ i) (hp : Prior l i) : -1 ≤ startN l i ∧ startN l i < (i : Int) := by
 unfold startN
 have := hp (i - 1) (by omega)
 split
 ·omega
 ·omega
theorem shaped_l1 (l : List IN) (i : Nat) (hi : i < l.length) (hl : l.length ≤ 301) (hp : Prior l i) (n0 n1 : ByteArray) (t : Int) (d : Nat) : ∀ x : Int, x + 1 ≤ (d : Int) → -1 ≤ x → x < (i : Int) →
  (Ch l x t → ∀ r, Ev (fun k => impl_shaped.l0 k l ((i + 1 : Nat) : Int)) r → Ev (fun k => impl_shaped.l1 k l (i : Int) x n0 n1 t) r) ∧ (¬ Ch l x t → Ev (fun k => impl_shaped.l1 k l (i : Int) x n0 n1 t) false) := by
 induction d with
 | zero =>
  intro x h1 h2 h3
  refine ⟨fun h => ?_, fun _ => ?_⟩
  ·cases h <;> omega
  ·refine Ev.step (fun k => by rw [impl_shaped.l1]) ?_
   exact ev_neg (by omega) (ev_pos (by omega) (ev_ret rfl))
 | succ d ih =>
  intro x h1 h2 h3
  by_cases h0 : 0 ≤ x
  ·by_cases ht : x = t
   ·subst ht
    refine ⟨fun _ r hr => ?_, fun h => absurd (Ch.here x h0) h⟩
    refine Ev.step (fun k => by rw [impl_shaped.l1]) ?_
    rw [wrap_succ i (by omega)]
    exact ev_pos (by omega) (ev_pos rfl (ev_neg (by omega) hr))
   ·obtain ⟨xn, rfl⟩ := Int.eq_ofNat_of_zero_le h0
    have hpx := hp xn (by omega)
    obtain ⟨i1, i2⟩ := ih (gt izN l xn).f2 (by omega) (by omega) (by omega)
    refine ⟨fun h r hr => ?_, fun h => ?_⟩
    ·refine Ev.step (fun k => by rw [impl_shaped.l1]) ?_
     rw [rd_in]
     refine ev_pos (by omega) (ev_neg ht (ev_pos h0 (ev_pos (by omega) (i1 ?_ r hr))))
     cases h with
     | here _ _ => exact absurd rfl ht
     | up _ _ _ k => rw [Int.toNat_natCast] at k; exact k
    ·refine Ev.step (fun k => by rw [impl_shaped.l1]) ?_
     rw [rd_in]
     refine ev_pos (by omega) (ev_neg ht (ev_pos h0 (ev_pos (by omega) (i2 (fun c => h (Ch.up _ _ h0 (by rw [Int.toNat_natCast]; exact c)))))))
  ·refine ⟨fun h => ?_, fun _ => ?_⟩
   ·cases h <;> omega
   ·refine Ev.step (fun k => by rw [impl_shaped.l1]) ?_
    exact ev_neg (by omega) (ev_pos (by omega) (ev_ret rfl))
theorem shaped_node (l : List IN) (i : Nat) (hi : i < l.length) (hz : ∀ x ∈ l, x.f1.size ≤ 1048576) :
  (nodeP (gt izN l i) → ∀ r, Ev (fun k => impl_shaped.j3 k l (i : Int) (gt izN l i).f0 (gt izN l i).f1 (gt izN l i).f2) r → Ev (fun k => impl_shaped.l0 k l (i : Int)) r) ∧ (¬ nodeP (gt izN l i) → Ev (fun k => impl_shaped.l0 k l (i : Int)) false) := by
 have hz' := hz _ (gt_mem izN l i hi)
 obtain ⟨b, b1, b2⟩ := isNameText_f (gt izN l i).f0
 have hrun := isRun_f (gt izN l i)
 -- the parts that follow the name's test
 have go : ∀ (x : Bool) (r : Bool), Ev (fun k => impl_shaped.j2 k l (i : Int) x (gt izN l i).f0 (gt izN l i).f1 (gt izN l i).f2) r → (if b = true then ((gt izN l i).f1.toList == ([] : List UInt8)) = x else x = false) → Ev (fun k => impl_shaped.l0 k l (i : Int)) r := by
  intro x r h hx
  refine Ev.step (fun k => by rw [impl_shaped.l0]) ?_
  rw [rd_in]
  refine ev_pos (by omega) (ev_pos (by omega) (ev_eq b1 (ev_if (fun hb => ?_) (fun hb => ?_))))
  ·rw [if_pos hb] at hx; rw [hx]; exact h
  ·rw [if_neg hb] at hx; rw [hx] at h; exact h
 have second : ∀ r : Bool, (if (gt izN l i).f0 = ⟨#[]⟩ ∧ 0 < (gt izN l i).f1.size ∧ (∀ c ∈ bytesOf (gt izN l i).f1, plainB c = true) then Ev (fun k => impl_shaped.j3 k l (i : Int) (gt izN l i).f0 (gt izN l i).f1 (gt izN l i).f2) r else r = false) → Ev (fun k => impl_shaped.j2 k l (i : Int) false (gt izN l i).f0 (gt izN l i).f1 (gt izN l i).f2) r := by
  intro r h
  refine Ev.step (fun k => by rw [impl_shaped.j2]) ?_
  refine ev_neg (by simp) (ev_eq hrun ?_)
  have hk := keep_all (gt izN l i).f1
  have hk2 : impl_keepBytes.f (gt izN l i).f1 = some (keepL plainP (gt izN l i).f1) := by unfold impl_keepBytes.f; rw [if_pos (by omega)]
  by_cases hr : runB (gt izN l i) = true
  ·have hr' := hr
   unfold runB at hr'
   have hr'' := of_decide_eq_true hr'
   refine ev_pos hr (ev_eq hk2 ?_)
   by_cases hp : ∀ c ∈ bytesOf (gt izN l i).f1, plainB c = true
   ·rw [if_pos ⟨size0 hr''.1, hr''.2, hp⟩] at h
    exact ev_pos (by have := hk.2 hp; omega) h
   ·rw [if_neg (fun q => hp q.2.2)] at h
    rw [h]
    exact ev_neg (fun q => hp (hk.1 (by omega))) (ev_ret rfl)
  ·have hn : ¬ ((gt izN l i).f0 = ⟨#[]⟩ ∧ 0 < (gt izN l i).f1.size ∧ ∀ c ∈ bytesOf (gt izN l i).f1, plainB c = true) := by
    intro q
    apply hr
    unfold runB
    exact decide_eq_true ⟨by rw [q.1]; rfl, q.2.1⟩
   rw [if_neg hn] at h
   rw [h]
   exact ev_neg hr (ev_ret rfl)
 constructor
 ·intro hn r hr
  rcases hn with ⟨h1, h2⟩ | hn
  ·have hb := b2.2 h1
   refine go true r ?_ (by rw [if_pos hb, h2, (tl_nil _).2 rfl]; rfl)
   refine Ev.step (fun k => by rw [impl_shaped.j2]) ?_
   exact ev_pos rfl hr
  ·have hb : ¬ b = true := by
    intro q
    have := name_len (b2.1 q)
    rw [hn.1] at this; cases this
   refine go false r (second r ?_) (by rw [if_neg hb])
   rw [if_pos hn]; exact hr
 ·intro hn
  by_cases hb : b = true
  ·have h2 : ¬ (gt izN l i).f1 = ⟨#[]⟩ := fun q => hn (.inl ⟨b2.1 hb, q⟩)
   refine go false false (second false ?_) ?_
   ·rw [if_neg (fun q => hn (.inr q))]
   ·rw [if_pos hb]
    exact beq_eq_false_iff_ne.2 (fun q => h2 (size0 ((tl_nil _).1 q)))
  ·refine go false false (second false ?_) (by rw [if_neg hb])
   rw [if_neg (fun q => hn (.inr q))]
theorem shaped_j3 (l : List IN) (i : Nat) (h1 : 1 ≤ i) (hi : i < l.length) (hl : l.length ≤ 301) (hp : Prior l i) :
  ((Ch l (startN l i) (gt izN l i).f2 ∧ ¬ (runB (gt izN l (i - 1)) = true ∧ runB (gt izN l i) = true ∧ (gt izN l i).f2 = (gt izN l (i - 1)).f2)) → ∀ r, Ev (fun k => impl_shaped.l0 k l ((i + 1 : Nat) : Int)) r → Ev (fun k => impl_shaped.j3 k l (i : Int) (gt izN l i).f0 (gt izN l i).f1 (gt izN l i).f2) r) ∧
  (¬ (Ch l (startN l i) (gt izN l i).f2 ∧ ¬ (runB (gt izN l (i - 1)) = true ∧ runB (gt izN l i) = true ∧ (gt izN l i).f2 = (gt izN l (i - 1)).f2)) → Ev (fun k => impl_shaped.j3 k l (i : Int) (gt izN l i).f0 (gt izN l i).f1 (gt izN l i).f2) false) := by
 have hs := start_lt h1 hp
 have e : wrap64 ((i : Int) - 1) = ((i - 1 : Nat) : Int) := by rw [wrap_id (by omega) (by omega)]; omega
 obtain ⟨a1, a2⟩ := shaped_l1 l i hi hl hp (gt izN l i).f0 (gt izN l i).f1 (gt izN l i).f2 (i + 1) (startN l i) (by omega) hs.1 hs.2
 have j4 : ∀ r, Ev (fun k => impl_shaped.l1 k l (i : Int) (startN l i) (gt izN l i).f0 (gt izN l i).f1 (gt izN l i).f2) r → Ev (fun k => impl_shaped.j4 k l (i : Int) (startN l i) (gt izN l i).f0 (gt izN l i).f1 (gt izN l i).f2) r := fun r h => Ev.step (fun k => by rw [impl_shaped.j4]) h
 have enter : ∀ r, (if runB (gt izN l (i - 1)) = true ∧ runB (gt izN l i) = true ∧ (gt izN l i).f2 = (gt izN l (i - 1)).f2 then r = false else Ev (fun k => impl_shaped.j4 k l (i : Int) (startN l i) (gt izN l i).f0 (gt izN l i).f1 (gt izN l i).f2) r) → Ev (fun k => impl_shaped.j3 k l (i : Int) (gt izN l i).f0 (gt izN l i).f1 (gt izN l i).f2) r := by
  intro r h
  refine Ev.step (fun k => by rw [impl_shaped.j3]) ?_
  rw [e, rd_in]
  refine ev_pos (by omega) (ev_pos (by omega) (ev_eq (isRun_f _) (ev_if (fun c1 => ?_) (fun c1 => ?_))))
  ·have es : startN l i = (gt izN l (i - 1)).f2 := by unfold startN; rw [if_pos c1]
   rw [es] at h
   refine ev_eq (isRun_f _) (ev_if (fun c2 => ev_if (fun c3 => ?_) (fun c3 => ?_)) (fun c2 => ?_))
   ·rw [if_pos ⟨c1, c2, c3⟩] at h; exact ev_ret h.symm
   ·rw [if_neg (fun q => c3 q.2.2)] at h; exact h
   ·rw [if_neg (fun q => c2 q.2.1)] at h; exact h
  ·have es : startN l i = ((i - 1 : Nat) : Int) := by unfold startN; rw [if_neg c1]
   rw [es] at h
   rw [if_neg (fun q => c1 q.1)] at h; exact h
 constructor
 ·rintro ⟨c1, c2⟩ r hr
  refine enter r ?_
  rw [if_neg c2]
  exact j4 r (a1 c1 r hr)
 ·intro hn
  refine enter false ?_
  by_cases c2 : runB (gt izN l (i - 1)) = true ∧ runB (gt izN l i) = true ∧ (gt izN l i).f2 = (gt izN l (i - 1)).f2
  ·rw [if_pos c2]
  ·rw [if_neg c2]
   exact j4 false (a2 (fun q => hn ⟨q, c2⟩))
theorem shaped_l0 (l : List IN) (hl : l.length ≤ 301) (hz : ∀ x ∈ l, x.f1.size ≤ 1048576) (d : Nat) : ∀ i : Nat, 1 ≤ i → i + d = l.length → Prior l i →
  ∃ b, Ev (fun k => impl_shaped.l0 k l (i : Int)) b ∧ (b = true ↔ ∀ j, i ≤ j → j < l.length → condN l j) := by
 induction d with
 | zero =>
  intro i h1 hi hp
  refine ⟨true, ?_, ⟨fun _ j h2 h3 => by omega, fun _ => rfl⟩⟩
  refine Ev.step (fun k => by rw [impl_shaped.l0]) ?_
  exact ev_neg (by omega) (ev_ret rfl)
 | succ d ih =>
  intro i h1 hi hp
  obtain ⟨n1, n2⟩ := shaped_node l i (by omega) hz
  obtain ⟨c1, c2⟩ := shaped_j3 l i h1 (by omega) hl hp
  by_cases hn : nodeP (gt izN l i)
  ·by_cases hc : Ch l (startN l i) (gt izN l i).f2 ∧ ¬ (runB (gt izN l (i - 1)) = true ∧ runB (gt izN l i) = true ∧ (gt izN l i).f2 = (gt izN l (i - 1)).f2)
   ·have hs := start_lt h1 hp
    have hb := Ch_bound hp hc.1 hs.2
    have hp' : Prior l (i + 1) := by
     intro j hj
     by_cases hji : j = i
     ·subst hji; exact ⟨by omega, by omega⟩
     ·exact hp j (by omega)
    obtain ⟨b, b1, b2⟩ := ih (i + 1) (by omega) (by omega) hp'
    refine ⟨b, n1 hn b (c1 hc b b1), ?_⟩
    rw [b2]
    constructor
    ·intro h j h2 h3
     by_cases hji : j = i
     ·subst hji; exact ⟨hn, hc.1, hc.2⟩
     ·exact h j (by omega) h3
    ·intro h j h2 h3
     exact h j (by omega) h3
   ·refine ⟨false, n1 hn false (c2 hc), ⟨(fun h => by cases h), fun h => ?_⟩⟩
    have := h i (Nat.le_refl _) (by omega)
    exact absurd ⟨this.2.1, this.2.2⟩ hc
  ·refine ⟨false, n2 hn, ⟨(fun h => by cases h), fun h => ?_⟩⟩
   exact absurd (h i (Nat.le_refl _) (by omega)).1 hn
def ShapedP (l : List IN) : Prop := 1 ≤ l.length ∧ l.length ≤ 301 ∧ gt izN l 0 = root ∧ ∀ j, 1 ≤ j → j < l.length → condN l j
theorem impl_shaped_f (l : List IN) (hl : l.length ≤ 1048576) (hz : ∀ x ∈ l, x.f1.size ≤ 1048576) : ∃ b, Ev (fun k => impl_shaped.f k l) b ∧ (b = true ↔ ShapedP l) := by
 unfold impl_shaped.f ShapedP
 have j0 : Ev (fun k => impl_shaped.j0 k l true) false := Ev.step (fun k => by rw [impl_shaped.j0]) (ev_pos rfl (ev_ret rfl))
 by_cases c1 : (l.length : Int) < 1
 ·exact ⟨false, ev_pos c1 j0, ⟨(fun h => by cases h), fun h => by omega⟩⟩
 by_cases c2 : (l.length : Int) > 301
 ·exact ⟨false, ev_neg c1 (ev_pos c2 j0), ⟨(fun h => by cases h), fun h => by omega⟩⟩
 have e0 : rd_T54 l 0 = gt izN l 0 := rfl
 rw [e0]
 by_cases hr : gt izN l 0 = root
 ·have hp : Prior l 1 := by
   intro j hj
   have : j = 0 := by omega
   subst this
   rw [hr]; exact ⟨Int.le_refl _, by decide⟩
  obtain ⟨b, b1, b2⟩ := shaped_l0 l (by omega) hz (l.length - 1) 1 (Nat.le_refl _) (by omega) hp
  refine ⟨b, ev_neg c1 (ev_neg c2 (ev_pos (by omega) ?_)), ?_⟩
  ·rw [hr]
   refine Ev.step (fun k => by rw [impl_shaped.j0]) ?_
   refine ev_neg ?_ b1
   have : root.f0.toList = [] := (tl_nil _).2 rfl
   have h2 : root.f1.toList = [] := (tl_nil _).2 rfl
   rw [this, h2]; decide
  ·rw [b2]
   exact ⟨fun h => ⟨by omega, by omega, hr, h⟩, fun h => h.2.2.2⟩
 ·refine ⟨false, ev_neg c1 (ev_neg c2 (ev_pos (by omega) ?_)), ⟨(fun h => by cases h), fun h => absurd h.2.2.1 hr⟩⟩
  refine Ev.step (fun k => by rw [impl_shaped.j0]) ?_
  refine ev_pos ?_ (ev_ret rfl)
  generalize gt izN l 0 = n at hr
  obtain ⟨n0, n1, n2⟩ := n
  rw [← Bool.not_eq_false]
  intro q
  simp only [Bool.or_eq_false_iff, Bool.not_eq_false', beq_iff_eq] at q
  apply hr
  obtain ⟨q0, q1, q2⟩ := q
  have q0' := size0 ((tl_nil _).1 q0)
  have q1' := size0 ((tl_nil _).1 q1)
  rw [q0', q1', q2]; rfl
theorem build_forest (l : List IN) (hc : ∀ j, 1 ≤ j → j < l.length → condN l j) (d : Nat) : ∀ (i up : Nat) (b : Bool), l.length - i ≤ d → 1 ≤ i → i ≤ l.length → up < i → (i < l.length → Ch l (up : Int) (gt izN l i).f2) → (b = true → i < l.length → (gt izN l i).f2 = (up : Int) → runB (gt izN l i) = false) →
  ∃ F : Fo, F.ok ∧ (b = true → F.isRun = false) ∧ i + F.size ≤ l.length ∧ (∀ j, j < F.size → gt izN l (i + j) = gt izN (F.rows (up : Int) i) j) ∧ (i + F.size < l.length → Ch l (gt izN l up).f2 (gt izN l (i + F.size)).f2) := by
 induction d with
 | zero =>
  intro i up b hd h1 hi hup hch hb
  refine ⟨.nil, trivial, fun _ => rfl, by rw [Fo.size]; omega, fun j hj => by rw [Fo.size] at hj; omega, fun h => by rw [Fo.size] at h; omega⟩
 | succ d ih =>
  intro i up b hd h1 hi hup hch hb
  by_cases hlt : i < l.length
  ·by_cases hu : (gt izN l i).f2 = (up : Int)
   ·obtain ⟨k1, k2, k3⟩ := hc i h1 hlt
    rcases k1 with ⟨m1, m2⟩ | ⟨m1, m2, m3⟩
    ·have hnr := name_not_run m1
     obtain ⟨ks, s1, _, s3, s4, s5⟩ := ih (i + 1) i false (by omega) (by omega) (by omega) (by omega) (fun h => by
      have := (hc (i + 1) (by omega) h).2.1
      unfold startN at this
      rw [Nat.add_sub_cancel, hnr, if_neg (by decide)] at this; exact this) (fun h => by cases h)
     rw [hu] at s5
     obtain ⟨r, t1, _, t3, t4, t5⟩ := ih (i + 1 + ks.size) up false (by omega) (by omega) s3 (by omega) s5 (fun h => by cases h)
     refine ⟨.el (gt izN l i).f0 ks r, ⟨m1, s1, t1⟩, fun _ => rfl, by rw [Fo.size]; omega, fun j hj => ?_, fun h => ?_⟩
     ·rw [Fo.size] at hj
      rw [Fo.rows]
      cases j with
      | zero =>
       rw [Nat.add_zero, gt_cons0]
       rw [← m2, ← hu]
      | succ j =>
       rw [gt_consS]
       by_cases hj2 : j < ks.size
       ·rw [gt_app_l _ _ _ _ (by rw [ks.rows_len]; exact hj2), ← s4 j hj2]; congr 1; omega
       ·rw [gt_appR _ _ _ _ (by rw [ks.rows_len]; omega), ks.rows_len, ← t4 (j - ks.size) (by omega)]; congr 1; omega
     ·rw [Fo.size] at h ⊢
      have := t5 (by omega)
      rw [show i + 1 + ks.size + r.size = i + (ks.size + r.size + 1) by omega] at this; exact this
    ·have hrun : runB (gt izN l i) = true := by unfold runB; exact decide_eq_true ⟨by rw [m1]; rfl, m2⟩
     have hbf : ¬ b = true := fun q => by have := hb q hlt hu; rw [hrun] at this; cases this
     obtain ⟨r, t1, t2, t3, t4, t5⟩ := ih (i + 1) up true (by omega) (by omega) (by omega) (by omega) (fun h => by
      have := (hc (i + 1) (by omega) h).2.1
      unfold startN at this
      rw [Nat.add_sub_cancel, if_pos hrun, hu] at this; exact this) (fun _ h hq => by
      have := (hc (i + 1) (by omega) h).2.2
      rw [Nat.add_sub_cancel] at this
      rw [← Bool.not_eq_true]
      exact fun q => this ⟨hrun, q, by rw [hu]; exact hq⟩)
     refine ⟨.run (gt izN l i).f1 r, ⟨m2, m3, t2 rfl, t1⟩, fun q => absurd q hbf, by rw [Fo.size]; omega, fun j hj => ?_, fun h => ?_⟩
     ·rw [Fo.size] at hj
      rw [Fo.rows]
      cases j with
      | zero =>
       rw [Nat.add_zero, gt_cons0]
       rw [← m1, ← hu]
      | succ j => rw [gt_consS, ← t4 j (by omega)]; congr 1; omega
     ·rw [Fo.size] at h ⊢
      have := t5 (by omega)
      rw [show i + 1 + r.size = i + (r.size + 1) by omega] at this; exact this
   ·refine ⟨.nil, trivial, fun _ => rfl, by rw [Fo.size]; omega, fun j hj => by rw [Fo.size] at hj; omega, fun h => ?_⟩
    rw [Fo.size, Nat.add_zero]
    have hcc := hch hlt
    generalize (gt izN l i).f2 = v at hcc hu
    cases hcc with
    | here _ _ => exact absurd rfl hu
    | up _ _ _ k => rw [Int.toNat_natCast] at k; exact k
  ·refine ⟨.nil, trivial, fun _ => rfl, by rw [Fo.size]; omega, fun j hj => by rw [Fo.size] at hj; omega, fun h => by rw [Fo.size] at h; omega⟩
theorem ext_gt (a b : List IN) (h : a.length = b.length) (k : ∀ j, j < a.length → gt izN a j = gt izN b j) : a = b := by
 refine List.ext_getElem h (fun j h1 h2 => ?_)
 have := k j h1
 unfold gt at this
 rw [List.getD_eq_getElem?_getD, List.getD_eq_getElem?_getD, List.getElem?_eq_getElem h1, List.getElem?_eq_getElem h2] at this
 exact this
theorem shaped_forest {l : List IN} (h : ShapedP l) : ∃ F : Fo, F.ok ∧ l = root :: F.rows 0 1 := by
 obtain ⟨h1, h2, h3, h4⟩ := h
 have hr : runB root = false := rfl
 obtain ⟨F, f1, _, f3, f4, f5⟩ := build_forest l h4 l.length 1 0 false (by omega) (Nat.le_refl _) (by omega) (by omega) (fun h => by
  have := (h4 1 (Nat.le_refl _) h).2.1
  unfold startN at this
  rw [Nat.sub_self, h3, hr, if_neg (by decide)] at this; exact this) (fun h => by cases h)
 have hn : ¬ 1 + F.size < l.length := by
  intro q
  have := f5 q
  rw [h3] at this
  generalize (gt izN l (1 + F.size)).f2 = v at this
  have e : root.f2 = -1 := rfl
  rw [e] at this
  cases this <;> omega
 refine ⟨F, f1, ext_gt _ _ (by rw [List.length_cons, F.rows_len]; omega) (fun j hj => ?_)⟩
 cases j with
 | zero => rw [gt_cons0]; exact h3
 | succ j =>
  rw [gt_consS]
  have := f4 j (by omega)
  rw [show 1 + j = j + 1 by omega] at this; exact this
/-- Each node of a row of parts stands where it may. -/
theorem forest_cond (l : List IN) : ∀ (F : Fo) (_ : F.ok) (up : Int) (a : Nat), Lies l F up a → 0 ≤ up → Ch l (startN l a) up → (F.isRun = true → ¬ (runB (gt izN l (a - 1)) = true ∧ (gt izN l (a - 1)).f2 = up)) → 1 ≤ a →
  (∀ j, a ≤ j → j < a + F.size → condN l j) ∧ Ch l (startN l (a + F.size)) up
 | .nil, _, up, a, h, h0, hs, hr, h1 => ⟨fun j h2 h3 => by rw [Fo.size] at h3; omega, hs⟩
 | .run t r, hk, up, a, h, h0, hs, hr, h1 => by
  obtain ⟨k1, k2, k3, k4⟩ := hk
  have hh := h.head_run
  have hrun : runB (gt izN l a) = true := by rw [hh]; unfold runB; exact decide_eq_true ⟨rfl, k1⟩
  have hst : startN l (a + 1) = up := by unfold startN; rw [Nat.add_sub_cancel, if_pos hrun, hh]
  obtain ⟨i1, i2⟩ := forest_cond l r k4 up (a + 1) h.next_run h0 (by rw [hst]; exact Ch.here up h0) (fun q => by rw [k3] at q; cases q) (by omega)
  refine ⟨fun j h2 h3 => ?_, ?_⟩
  ·by_cases hj : j = a
   ·subst hj
    refine ⟨.inr (by rw [hh]; exact ⟨rfl, k1, k2⟩), by rw [hh]; exact hs, fun q => hr rfl ⟨q.1, ?_⟩⟩
    have := q.2.2
    rw [hh] at this; exact this.symm
   ·exact i1 j (by omega) (by rw [Fo.size] at h3; omega)
  ·rw [Fo.size, show a + (r.size + 1) = a + 1 + r.size by omega]; exact i2
 | .el n ks r, hk, up, a, h, h0, hs, hr, h1 => by
  obtain ⟨k1, k2, k3⟩ := hk
  have hh := h.head_el
  have hup := h.up_
  have hnr : runB (gt izN l a) = false := by rw [hh]; exact name_not_run (n := ⟨n, ⟨#[]⟩, up⟩) k1
  have hst : startN l (a + 1) = (a : Int) := by unfold startN; rw [Nat.add_sub_cancel, hnr, if_neg (by decide)]
  obtain ⟨i1, i2⟩ := forest_cond l ks k2 (a : Int) (a + 1) h.kids (by omega) (by rw [hst]; exact Ch.here _ (by omega)) (fun _ q => by rw [Nat.add_sub_cancel, hnr] at q; cases q.1) (by omega)
  have hback : Ch l (a : Int) up := Ch.up _ _ (by omega) (by rw [Int.toNat_natCast, hh]; exact Ch.here up h0)
  obtain ⟨j1, j2⟩ := forest_cond l r k3 up (a + 1 + ks.size) h.next_el h0 (Ch.trans i2 hback) (fun _ q => by
   by_cases hz : ks.size = 0
   ·rw [hz, Nat.add_zero, Nat.add_sub_cancel, hnr] at q; cases q.1
   ·have hlast := h.kids.at_ (ks.size - 1) (by omega)
    rw [show a + 1 + (ks.size - 1) = a + 1 + ks.size - 1 by omega] at hlast
    rw [hlast] at q
    rcases ks.rows_up (a : Int) (a + 1) (ks.size - 1) (by omega) with h | h <;> omega) (by omega)
  refine ⟨fun j h2 h3 => ?_, ?_⟩
  ·rw [Fo.size] at h3
   by_cases hj : j = a
   ·subst hj
    exact ⟨.inl (by rw [hh]; exact ⟨k1, rfl⟩), by rw [hh]; exact hs, fun q => by rw [hnr] at q; cases q.2.1⟩
   ·by_cases hj2 : j < a + 1 + ks.size
    ·exact i1 j (by omega) hj2
    ·exact j1 j (by omega) (by omega)
  ·rw [Fo.size, show a + (ks.size + r.size + 1) = a + 1 + ks.size + r.size by omega]; exact j2
theorem forest_shaped (F : Fo) (hF : F.ok) (hs : F.size ≤ 300) : ShapedP (root :: F.rows 0 1) := by
 have hl : (root :: F.rows 0 1).length = F.size + 1 := by rw [List.length_cons, F.rows_len]
 have hst : startN (root :: F.rows 0 1) 1 = 0 := rfl
 obtain ⟨h1, _⟩ := forest_cond (root :: F.rows 0 1) F hF 0 1 (lies_root F) (Int.le_refl _) (by rw [hst]; exact Ch.here 0 (Int.le_refl _)) (fun _ q => by have : runB root = true := q.1; cases this) (Nat.le_refl _)
 exact ⟨by omega, by omega, rfl, fun j h2 h3 => h1 j h2 (by omega)⟩
theorem spec_l1In_f (a b c : Int) : spec_l1In.f a b c = some (decide (b ≤ a ∧ a ≤ c)) := by
 unfold spec_l1In.f; split <;> simp <;> omega
theorem drop_cons {l : List Int} {i : Nat} {c : Int} {r : List Int} (h : l.drop i = c :: r) : i < l.length ∧ gt 0 l i = c ∧ l.drop (i + 1) = r := by
 have hi : i < l.length := by
  apply Nat.lt_of_not_le; intro hc; rw [List.drop_eq_nil_of_le hc] at h; cases h
 rw [gt_drop 0 l i hi] at h
 injection h with h1 h2
 exact ⟨hi, h1, h2⟩
theorem drop_app {l a b : List Int} {i : Nat} (h : l.drop i = a ++ b) : l.drop (i + a.length) = b := by
 rw [← List.drop_drop, h, List.drop_left]
theorem take_app {l a b : List Int} {i : Nat} (h : l.drop i = a ++ b) : (l.take (i + a.length)).drop i = a := by
 rw [List.drop_take, h, Nat.add_sub_cancel_left, List.take_left]
/-- What follows a run. -/
def Stop (l : List Int) : Prop := ∀ c r, l = c :: r → plainB c = false
theorem open_notplain {c : Int} (h : openB c = true) : plainB c = false := by
 rw [← Bool.not_eq_true]; intro q; exact (plain_not q).1 h
theorem stop47 (r : List Int) : Stop (47 :: r) := by
 intro c r' h; injection h with h1 h2; subst h1; rfl
theorem Fo.stop {F : Fo} (h : F.isRun = false) (hk : F.ok) {rest : List Int} (hr : Stop rest) : Stop (nums F.text ++ rest) := by
 cases F with
 | nil => exact hr
 | run t r => cases h
 | el n ks r =>
  obtain ⟨⟨c, hc, ho⟩, _⟩ := hk
  rw [Fo.text, nums_app, nums_bts, hc]
  intro c' r' h
  injection h with h1 h2
  subst h1; exact open_notplain ho
theorem plain_D (l : List Int) : ∀ (u : List Int) (i : Nat) (rest : List Int), l.drop i = u ++ rest → (∀ c ∈ u, plainB c = true) → ∀ x, i ≤ x → x ≤ i + u.length → D l x = D l i
 | [], i, rest, _, _, x, h1, h2 => by
  have : x = i := by rw [List.length_nil] at h2; omega
  rw [this]
 | c :: u, i, rest, h, hp, x, h1, h2 => by
  obtain ⟨a1, a2, a3⟩ := drop_cons h
  have hc := plain_not (hp c List.mem_cons_self)
  have hD := D_succ l i a1
  rw [a2, step_plain hc.1 hc.2] at hD
  by_cases hx : x = i
  ·rw [hx]
  ·rw [List.length_cons] at h2
   rw [plain_D l u (i + 1) rest a3 (fun c' hc' => hp c' (List.mem_cons_of_mem _ hc')) x (by omega) (by omega), hD]
theorem forest_D (l : List Int) : ∀ (F : Fo) (_ : F.ok) (i : Nat) (rest : List Int), l.drop i = nums F.text ++ rest → D l (i + F.text.length) = D l i ∧ ∀ x, i ≤ x → x ≤ i + F.text.length → D l i ≤ D l x
 | .nil, _, i, rest, _ => ⟨rfl, fun x h1 h2 => by
  have : x = i := by rw [Fo.text, List.length_nil] at h2; omega
  rw [this]; exact Int.le_refl _⟩
 | .run t r, hk, i, rest, h => by
  rw [Fo.text, nums_app, nums_bts, List.append_assoc] at h
  have hp := plain_D l (bytesOf t) i _ h hk.2.1
  have h2 := drop_app h
  rw [bytesOf_length] at hp h2
  obtain ⟨r1, r2⟩ := forest_D l r hk.2.2.2 _ rest h2
  have he := hp (i + t.size) (by omega) (by omega)
  rw [he] at r1 r2
  rw [Fo.text, List.length_append, bts_len, ← Nat.add_assoc]
  refine ⟨r1, fun x h3 h4 => ?_⟩
  by_cases hx : x ≤ i + t.size
  ·rw [hp x h3 hx]; exact Int.le_refl _
  ·exact r2 x (by omega) h4
 | .el n ks r, hk, i, rest, h => by
  obtain ⟨⟨c, hc, ho⟩, k2, k3⟩ := hk
  have hnl : n.size = 1 := by rw [← bytesOf_length, hc]; rfl
  rw [Fo.text, nums_app, nums_bts, nums_app, hc, List.append_assoc, List.append_assoc] at h
  obtain ⟨h1, h2, h3⟩ := drop_cons h
  have h4 : l.drop (i + 1) = nums ks.text ++ (47 :: (nums r.text ++ rest)) := h3
  have h5 := drop_app h4
  rw [nums_len] at h5
  obtain ⟨h6, h7, h8⟩ := drop_cons h5
  obtain ⟨a1, a2⟩ := forest_D l ks k2 _ _ h4
  obtain ⟨b1, b2⟩ := forest_D l r k3 _ _ h8
  have d1 := D_succ l i h1
  rw [h2, step_open ho] at d1
  have d2 := D_succ l _ h6
  rw [h7, step_shut rfl] at d2
  have hd : D l (i + 1 + ks.text.length + 1) = D l i := by omega
  rw [hd] at b1 b2
  rw [Fo.text, List.length_append, List.length_append, List.length_cons, bts_len, hnl, show i + (1 + (ks.text.length + (r.text.length + 1))) = i + 1 + ks.text.length + 1 + r.text.length by omega]
  refine ⟨b1, fun x h9 h10 => ?_⟩
  by_cases hx : x = i
  ·rw [hx]; exact Int.le_refl _
  ·by_cases hx2 : x ≤ i + 1 + ks.text.length
   ·have := a2 x (by omega) hx2; omega
   ·exact b2 x (by omega) h10
theorem forest_Mt (l : List Int) {n : ByteArray} {ks r : Fo} (hk : (Fo.el n ks r).ok) {i : Nat} {rest : List Int} (h : l.drop i = nums (Fo.el n ks r).text ++ rest) :
  Mt l i (i + 1 + ks.text.length) ∧ l.drop (i + 1) = nums ks.text ++ (47 :: (nums r.text ++ rest)) ∧ l.drop (i + 1 + ks.text.length + 1) = nums r.text ++ rest := by
 obtain ⟨⟨c, hc, ho⟩, k2, k3⟩ := hk
 rw [Fo.text, nums_app, nums_bts, nums_app, hc, List.append_assoc, List.append_assoc] at h
 obtain ⟨h1, h2, h3⟩ := drop_cons h
 have h4 : l.drop (i + 1) = nums ks.text ++ (47 :: (nums r.text ++ rest)) := h3
 have h5 := drop_app h4
 rw [nums_len] at h5
 obtain ⟨h6, h7, h8⟩ := drop_cons h5
 obtain ⟨a1, a2⟩ := forest_D l ks k2 _ _ h4
 have d1 := D_succ l i h1
 rw [h2, step_open ho] at d1
 have d2 := D_succ l _ h6
 rw [h7, step_shut rfl] at d2
 refine ⟨⟨by omega, h6, by rw [h2]; exact ho, h7, by omega, fun x hx hx2 => ?_⟩, h4, h8⟩
 have := a2 x (by omega) hx2; omega
theorem spec_run (u : ByteArray) (h300 : u.size ≤ 300) (out : List IN) (up : Int) (hl : out.length ≤ 100000) (f : Nat) (rest : List Int) (hrest : Stop rest) : ∀ (v : List Int) (i : Nat), f ≤ i → i ≤ u.size → (bytesOf u).drop i = v ++ rest → (∀ c ∈ v, plainB c = true) →
  ∀ r, Ev (fun k => spec_l2Parse.l0 k (out ++ [⟨⟨#[]⟩, u.extract f (i + v.length), up⟩]) u up ((i + v.length : Nat) : Int)) r → Ev (fun k => spec_l2Parse.l1 k out u up (f : Int) (i : Int)) r
 | [], i, hfi, his, hd, _, r, h => by
  have hlen := bytesOf_length u
  refine Ev.step (fun k => by rw [spec_l2Parse.l1]) ?_
  rw [Int.toNat_natCast, Int.toNat_natCast]
  rw [List.length_nil, Nat.add_zero] at h
  refine ev_if (fun h1 => ev_pos (by omega) (ev_eq (spec_l1Plain_f _) (ev_neg ?_ (ev_pos (by omega) (ev_pos (by omega) (ev_pos (by omega) (ev_pos (by omega) h))))))) (fun h1 => ev_pos (by omega) (ev_pos (by omega) (ev_pos (by omega) (ev_pos (by omega) h))))
  rw [bt_gt]
  have hd2 : gt 0 (bytesOf u) i :: (bytesOf u).drop (i + 1) = rest := by rw [← gt_drop 0 _ i (by omega), hd]; rfl
  rw [hrest _ _ hd2.symm]; simp
 | c :: v, i, hfi, his, hd, hp, r, h => by
  have hlen := bytesOf_length u
  obtain ⟨h1, h2, h3⟩ := drop_cons hd
  refine Ev.step (fun k => by rw [spec_l2Parse.l1]) ?_
  refine ev_pos (by omega) (ev_pos (by omega) (ev_eq (spec_l1Plain_f _) (ev_pos (by rw [bt_gt, h2]; exact hp c (List.mem_cons_self)) ?_)))
  rw [wrap_succ i (by omega)]
  refine spec_run u h300 out up hl f rest hrest v (i + 1) (by omega) (by omega) h3 (fun c' hc' => hp c' (List.mem_cons_of_mem _ hc')) r ?_
  rw [List.length_cons] at h
  rw [show i + 1 + v.length = i + (v.length + 1) by omega]; exact h
/-- The reference's reader of a tree over a row of parts. -/
theorem spec_forest : ∀ (F : Fo) (_ : F.ok) (u : ByteArray) (out : List IN) (up : Int) (i : Nat), u.size ≤ 300 → (bytesOf u).drop i = nums F.text → i ≤ u.size → out.length + F.size ≤ 1000 →
  Ev (fun k => spec_l2Parse.l0 k out u up (i : Int)) (out ++ F.rows up out.length)
 | .nil, _, u, out, up, i, h300, hd, hi, hol => by
  have hlen := bytesOf_length u
  have : ¬ i < u.size := by
   intro q
   rw [gt_drop 0 _ i (by omega)] at hd; cases hd
  rw [Fo.rows, List.append_nil]
  exact Ev.step (fun k => by rw [spec_l2Parse.l0]) (ev_neg (by omega) (ev_ret rfl))
 | .run t F, hF, u, out, up, i, h300, hd, hi, hol => by
  have hlen := bytesOf_length u
  obtain ⟨k1, k2, k3, k4⟩ := hF
  rw [Fo.size] at hol
  rw [Fo.text, nums_app, nums_bts] at hd
  have hlt : i < u.size := by
   apply Nat.lt_of_not_le; intro hc
   have := congrArg List.length hd
   rw [List.length_drop, List.length_append, bytesOf_length, bytesOf_length] at this
   omega
  have hpl : plainB (gt 0 (bytesOf u) i) = true := by
   cases hb : bytesOf t with
   | nil => have := bytesOf_length t; rw [hb] at this; simp at this; omega
   | cons c v =>
    rw [hb, List.cons_append] at hd
    rw [(drop_cons hd).2.1]
    exact k2 c (by rw [hb]; exact List.mem_cons_self)
  have et : u.extract i (i + (bytesOf t).length) = t := bytes_inj (by rw [bytesOf_extract]; exact take_app hd)
  have hst : Stop (nums F.text) := by
   have := Fo.stop k3 k4 (rest := []) (fun c r h => by cases h)
   rwa [List.append_nil] at this
  have hend : i + (bytesOf t).length ≤ u.size := by
   have := congrArg List.length hd
   rw [List.length_drop, List.length_append] at this; omega
  refine Ev.step (fun k => by rw [spec_l2Parse.l0]) ?_
  refine ev_pos (by omega) (ev_pos (by omega) (ev_eq (spec_l1Open_f _) (ev_neg (by rw [bt_gt]; exact (plain_not hpl).1) ?_)))
  refine spec_run u h300 out up (by omega) i _ hst (bytesOf t) i (Nat.le_refl _) (by omega) hd k2 _ ?_
  rw [et]
  have hn : (out ++ [(⟨⟨#[]⟩, t, up⟩ : IN)]).length = out.length + 1 := by rw [List.length_append, List.length_singleton]
  have ih := spec_forest F k4 u (out ++ [(⟨⟨#[]⟩, t, up⟩ : IN)]) up (i + (bytesOf t).length) h300 (drop_app hd) hend (by omega)
  rw [hn, List.append_assoc] at ih
  rw [Fo.rows]; exact ih
 | .el n ks F, hF, u, out, up, i, h300, hd, hi, hol => by
  have hlen := bytesOf_length u
  rw [Fo.size] at hol
  have hd' : (bytesOf u).drop i = nums (Fo.el n ks F).text ++ [] := by rw [List.append_nil]; exact hd
  obtain ⟨hm, hk2, hk3⟩ := forest_Mt _ hF hd'
  rw [List.append_nil] at hk3
  obtain ⟨⟨c, hc, ho⟩, f2, f3⟩ := hF
  have hql := Mt_len' hm
  have hnl : n.size = 1 := by rw [← bytesOf_length, hc]; rfl
  have et : u.extract i (i + 1) = n := by
   apply bytes_inj
   rw [bytesOf_extract, hc]
   rw [Fo.text, nums_app, nums_bts, hc, List.cons_append] at hd
   exact take_app (a := [c]) hd
  have hmu := spec_l1Match_open u h300 _ _ hm
  have hn : (out ++ [(⟨n, ⟨#[]⟩, up⟩ : IN)]).length = out.length + 1 := by rw [List.length_append, List.length_singleton]
  have hsz : (u.extract (i + 1) (i + 1 + ks.text.length)).size = ks.text.length := by rw [size_extract _ _ _ (by omega)]; omega
  have hks : bytesOf (u.extract (i + 1) (i + 1 + ks.text.length)) = nums ks.text := by
   rw [bytesOf_extract]
   have := take_app hk2
   rw [nums_len] at this; exact this
  have ih1 := spec_forest ks f2 (u.extract (i + 1) (i + 1 + ks.text.length)) (out ++ [(⟨n, ⟨#[]⟩, up⟩ : IN)]) (out.length : Int) 0 (by omega) (by rw [List.drop_zero]; exact hks) (Nat.zero_le _) (by omega)
  rw [hn] at ih1
  have hln : ((out ++ [(⟨n, ⟨#[]⟩, up⟩ : IN)]) ++ ks.rows (out.length : Int) (out.length + 1)).length = out.length + 1 + ks.size := by rw [List.length_append, hn, Fo.rows_len]
  have ih2 := spec_forest F f3 u ((out ++ [(⟨n, ⟨#[]⟩, up⟩ : IN)]) ++ ks.rows (out.length : Int) (out.length + 1)) up (i + 1 + ks.text.length + 1) h300 hk3 (by omega) (by omega)
  rw [hln] at ih2
  refine Ev.step (fun k => by rw [spec_l2Parse.l0]) ?_
  rw [wrap_succ i (by omega)]
  refine ev_pos (by omega) (ev_pos (by omega) (ev_eq (spec_l1Open_f _) (ev_pos (by rw [bt_gt]; exact hm.2.2.1) (Ev.bind hmu ?_))))
  refine ev_pos (by omega) (ev_pos (by omega) (ev_pos (by omega) (ev_pos (by omega) (ev_pos (by omega) (ev_pos (by omega) ?_)))))
  rw [Int.toNat_natCast, Int.toNat_natCast, Int.toNat_natCast, et]
  refine Ev.bind (a := (out ++ [(⟨n, ⟨#[]⟩, up⟩ : IN)]) ++ ks.rows (out.length : Int) (out.length + 1)) ?_ ?_
  ·refine Ev.step (fun k => by rw [spec_l2Parse.f]) ?_
   exact ih1
  ·rw [wrap_succ (i + 1 + ks.text.length) (by omega)]
   refine ev_val ih2 ?_
   rw [Fo.rows, List.append_assoc, List.append_assoc]; rfl
theorem spec_tree_forest (s : ByteArray) (h300 : s.size ≤ 300) (F : Fo) (hF : F.ok) (ht : F.text = bts s) : Ev (fun k => spec_l2Tree.f k s) (⟨⟨#[]⟩, ⟨#[]⟩, -1⟩ :: F.rows 0 1) := by
 have hsz := F.size_le hF
 rw [ht, bts_len] at hsz
 unfold spec_l2Tree.f
 refine Ev.bind (a := ⟨⟨#[]⟩, ⟨#[]⟩, -1⟩ :: F.rows 0 1) ?_ (ev_ret rfl)
 refine Ev.step (fun k => by rw [spec_l2Parse.f]) ?_
 exact spec_forest F hF s [⟨⟨#[]⟩, ⟨#[]⟩, -1⟩] 0 0 h300 (by rw [List.drop_zero, ht, nums_bts]) (Nat.zero_le _) (by rw [List.length_singleton]; omega)
theorem ev_uniq {α : Type} {g : Nat → Option α} {a b : α} (h : Ev g a) (k : Ev g b) : a = b := by
 obtain ⟨K, hK⟩ := h
 obtain ⟨L, hL⟩ := k
 have h1 := hK (K + L) (by omega)
 rw [hL (K + L) (by omega)] at h1
 exact (Option.some.inj h1).symm
def nsz (n : IN) : Nat := n.f1.size + 2 * n.f0.size
theorem Fo.rows_sum : ∀ (F : Fo) (_ : F.ok) (up : Int) (a : Nat), ((F.rows up a).map nsz).sum = F.text.length
 | .nil, _, _, _ => rfl
 | .run t r, h, up, a => by
  have e : nsz ⟨⟨#[]⟩, t, up⟩ = t.size := by unfold nsz; show t.size + 2 * 0 = t.size; omega
  rw [Fo.rows, List.map_cons, List.sum_cons, r.rows_sum h.2.2.2, Fo.text, List.length_append, bts_len, e]
 | .el n ks r, h, up, a => by
  have hn := name_len h.1
  have e : nsz ⟨n, ⟨#[]⟩, up⟩ = 2 := by unfold nsz; show 0 + 2 * n.size = 2; omega
  rw [Fo.rows, List.map_cons, List.sum_cons, List.map_append, List.sum_append, ks.rows_sum h.2.1, r.rows_sum h.2.2, Fo.text, List.length_append, List.length_append, List.length_cons, bts_len, e]
  omega
theorem impl_GoodTree_l (l : List IN) (hl : l.length ≤ 1048576) (hz : ∀ x ∈ l, x.f0.size ≤ 1048576 ∧ x.f1.size ≤ 1048576) (d : Nat) : ∀ (i acc : Nat), i + d = l.length → acc ≤ 300 →
  (acc + ((l.drop i).map nsz).sum ≤ 300 → ∀ r, Ev (fun k => (impl_flat.f k l 0 (-1)).bind fun t => (impl_GoodDoc.f k t).bind fun t => some t) r → Ev (fun k => impl_GoodTree.l0 k l (acc : Int) l (l.length : Int) (i : Int)) r) ∧
  (¬ acc + ((l.drop i).map nsz).sum ≤ 300 → Ev (fun k => impl_GoodTree.l0 k l (acc : Int) l (l.length : Int) (i : Int)) false) := by
 induction d with
 | zero =>
  intro i acc hi ha
  rw [List.drop_eq_nil_of_le (by omega)]
  refine ⟨fun _ r h => ?_, fun h => absurd ha h⟩
  refine Ev.step (fun k => by rw [impl_GoodTree.l0]) ?_
  exact ev_neg (by omega) h
 | succ d ih =>
  intro i acc hi ha
  have hz' := hz _ (gt_mem izN l i (by omega))
  rw [gt_drop izN l i (by omega), List.map_cons, List.sum_cons]
  have e1 : wrap64 (2 * ((gt izN l i).f0.size : Int)) = 2 * ((gt izN l i).f0.size : Int) := wrap_id (by omega) (by omega)
  have e2 : wrap64 (((gt izN l i).f1.size : Int) + 2 * ((gt izN l i).f0.size : Int)) = (nsz (gt izN l i) : Int) := by rw [wrap_id (by omega) (by omega)]; unfold nsz; omega
  have hn : nsz (gt izN l i) ≤ 4000000 := by unfold nsz; omega
  have e3 : wrap64 ((acc : Int) + (nsz (gt izN l i) : Int)) = ((acc + nsz (gt izN l i) : Nat) : Int) := by rw [wrap_id (by omega) (by omega)]; omega
  by_cases c : acc + nsz (gt izN l i) ≤ 300
  ·obtain ⟨i1, i2⟩ := ih (i + 1) (acc + nsz (gt izN l i)) (by omega) c
   refine ⟨fun h r hr => ?_, fun h => ?_⟩
   ·refine Ev.step (fun k => by rw [impl_GoodTree.l0]) ?_
    rw [rd_in, e1, e2, e3, wrap_succ i (by omega)]
    exact ev_pos (by omega) (ev_pos (by omega) (ev_pos (by omega) (ev_neg (by omega) (i1 (by omega) r hr))))
   ·refine Ev.step (fun k => by rw [impl_GoodTree.l0]) ?_
    rw [rd_in, e1, e2, e3, wrap_succ i (by omega)]
    exact ev_pos (by omega) (ev_pos (by omega) (ev_pos (by omega) (ev_neg (by omega) (i2 (by omega)))))
  ·refine ⟨fun h => by omega, fun _ => ?_⟩
   refine Ev.step (fun k => by rw [impl_GoodTree.l0]) ?_
   rw [rd_in, e1, e2, e3]
   exact ev_pos (by omega) (ev_pos (by omega) (ev_pos (by omega) (ev_pos (by omega) (ev_ret rfl))))
/-- What a good tree is. -/
def treeP (l : List IN) : Prop := ∃ F : Fo, F.ok ∧ l = root :: F.rows 0 1 ∧ F.text.length ≤ 300 ∧ docB (nums F.text) = true
noncomputable def goodT (l : List IN) : Bool := @decide (treeP l) (Classical.propDecidable _)
theorem goodT_iff (l : List IN) : goodT l = true ↔ treeP l := by unfold goodT; exact @decide_eq_true_iff _ (Classical.propDecidable _)
theorem bytesOf_mk (l : List UInt8) : bytesOf ⟨l.toArray⟩ = nums l := by rw [← nums_bts, bts_mk]
theorem flat_forest (F : Fo) (hF : F.ok) (hs : F.size ≤ 1000) (away : Int) (hw : away ≠ 0) (ht : (F.textA 1 away).length ≤ 100000) : Ev (fun k => impl_flat.f k (root :: F.rows 0 1) 0 away) ⟨(F.textA 1 away).toArray⟩ := by
 have hl : (root :: F.rows 0 1).length = F.size + 1 := by rw [List.length_cons, F.rows_len]
 refine ⟨F.size + 1, fun k hk => ?_⟩
 obtain ⟨m, rfl⟩ : ∃ m, k = m + 1 := ⟨k - 1, by omega⟩
 unfold impl_flat.f
 show (if (root :: F.rows 0 1).length ≤ 1000000 then (wrF (root :: F.rows 0 1) away (m + 1) 0).bind (fun r => if r.length ≤ 140737488355328 then some (⟨r.toArray⟩ : ByteArray) else none) else none) = _
 rw [if_pos (by omega), wrF_root F hF away hw m (by omega), Option.bind_some, if_pos (by omega)]
theorem text_of_rows {F F' : Fo} (h : F.ok) (h' : F'.ok) (e : root :: F.rows 0 1 = root :: F'.rows 0 1) : F.text = F'.text := by
 have h1 := wrF_root F h (-1) (by decide) (F.size + F'.size) (by omega)
 have h2 := wrF_root F' h' (-1) (by decide) (F.size + F'.size) (by omega)
 rw [e, h2] at h1
 have := Option.some.inj h1
 rw [F.textA_out 1 (-1) (.inl (by decide)), F'.textA_out 1 (-1) (.inl (by decide))] at this
 exact this.symm
theorem impl_GoodTree_f (l : List IN) (hl : l.length ≤ 1048576) (hz : ∀ x ∈ l, x.f0.size ≤ 1048576 ∧ x.f1.size ≤ 1048576) : Ev (fun k => impl_GoodTree.f k l) (goodT l) := by
 unfold impl_GoodTree.f
 obtain ⟨b, b1, b2⟩ := impl_shaped_f l hl (fun x hx => (hz x hx).2)
 refine Ev.bind b1 (ev_if (fun hb => ?_) (fun hb => ?_))
 ·have hs := b2.1 hb
  obtain ⟨F, hF, e⟩ := shaped_forest hs
  have hlen : F.size ≤ 300 := by
   have := hs.2.1
   rw [e, List.length_cons, F.rows_len] at this; omega
  obtain ⟨i1, i2⟩ := impl_GoodTree_l l hl hz l.length 0 0 (by omega) (by omega)
  have hsum : ((l.drop 0).map nsz).sum = F.text.length := by
   rw [List.drop_zero, e, List.map_cons, List.sum_cons, F.rows_sum hF]
   show 0 + _ = _
   omega
  rw [hsum] at i1 i2
  by_cases c : F.text.length ≤ 300
  ·have hfl := flat_forest F hF (by omega) (-1) (by decide) (by rw [F.textA_out 1 (-1) (.inl (by decide))]; omega)
   rw [F.textA_out 1 (-1) (.inl (by decide)), ← e] at hfl
   have hsz : (⟨F.text.toArray⟩ : ByteArray).size ≤ 300 := by rw [← bts_len, bts_mk]; exact c
   have hg := impl_GoodDoc_f ⟨F.text.toArray⟩ (by omega)
   rw [bytesOf_mk] at hg
   have hval : docB (nums F.text) = goodT l := by
    rw [Bool.eq_iff_iff, goodT_iff]
    constructor
    ·intro h; exact ⟨F, hF, e, c, h⟩
    ·rintro ⟨F', hF', e', _, h'⟩
     have e2 : root :: F.rows 0 1 = root :: F'.rows 0 1 := by rw [← e, e']
     rw [text_of_rows hF hF' e2]; exact h'
   rw [← hval]
   exact i1 (by omega) _ (Ev.bind hfl (Ev.bind hg (ev_ret rfl)))
  ·have hval : goodT l = false := by
    rw [← Bool.not_eq_true, goodT_iff]
    rintro ⟨F', hF', e', c', _⟩
    have e2 : root :: F.rows 0 1 = root :: F'.rows 0 1 := by rw [← e, e']
    rw [text_of_rows hF hF' e2] at c; exact c c'
   rw [hval]
   exact i2 (by omega)
 ·refine ev_ret ?_
  symm
  rw [← Bool.not_eq_true, goodT_iff]
  rintro ⟨F', hF', e', c', _⟩
  apply hb
  rw [b2, e']
  have := F'.size_le hF'
  exact forest_shaped F' hF' (by omega)
/-! ### the reference -/
def Shape2 (l : List IN) (k : Nat) : Prop := ((k = 0) ↔ (gt izN l k).f2 = -1) ∧ -1 ≤ (gt izN l k).f2 ∧ (gt izN l k).f2 ≤ (k : Int) - 1
theorem spec_l2Shape_l (l : List IN) (hl : l.length ≤ 1048576) (d : Nat) : ∀ i : Nat, i + d = l.length → ∃ b, Ev (fun k => spec_l2Shape.l0 k l l (l.length : Int) (i : Int)) b ∧ (b = true ↔ (1 ≤ l.length ∧ l.length ≤ 301 ∧ ∀ k, i ≤ k → k < l.length → Shape2 l k)) := by
 induction d with
 | zero =>
  intro i hi
  refine ⟨decide ((1 : Int) ≤ (l.length : Int) ∧ (l.length : Int) ≤ 301), ?_, ?_⟩
  ·refine Ev.step (fun k => by rw [spec_l2Shape.l0]) ?_
   exact ev_neg (by omega) (ev_eq (spec_l1In_f _ _ _) (ev_ret rfl))
  ·rw [decide_eq_true_eq]
   exact ⟨fun h => ⟨by omega, by omega, fun k h1 h2 => by omega⟩, fun h => ⟨by omega, by omega⟩⟩
 | succ d ih =>
  intro i hi
  obtain ⟨b, b1, b2⟩ := ih (i + 1) (by omega)
  by_cases hs : Shape2 l i
  ·refine ⟨b, ?_, ?_⟩
   ·refine Ev.step (fun k => by rw [spec_l2Shape.l0]) ?_
    rw [rd_in, wrap_succ i (by omega), wrap_id (x := (i : Int) - 1) (by omega) (by omega)]
    refine ev_pos (by omega) (ev_pos (by omega) (ev_pos (by omega) (ev_neg ?_ (ev_eq (spec_l1In_f _ _ _) (ev_pos (decide_eq_true hs.2) b1)))))
    have h1 := hs.1
    by_cases c : i = 0
    ·have := h1.1 c
     rw [this, c]; decide
    ·have h2 : ¬ (gt izN l i).f2 = -1 := fun q => c (h1.2 q)
     have h3 : ¬ (i : Int) = 0 := by omega
     rw [beq_eq_false_iff_ne.2 h2, beq_eq_false_iff_ne.2 h3]; decide
   ·rw [b2]
    constructor
    ·rintro ⟨h1, h2, h3⟩
     refine ⟨h1, h2, fun k h4 h5 => ?_⟩
     by_cases c : k = i
     ·subst c; exact hs
     ·exact h3 k (by omega) h5
    ·rintro ⟨h1, h2, h3⟩
     exact ⟨h1, h2, fun k h4 h5 => h3 k (by omega) h5⟩
  ·refine ⟨false, ?_, ⟨(fun h => by cases h), fun h => absurd (h.2.2 i (Nat.le_refl _) (by omega)) hs⟩⟩
   refine Ev.step (fun k => by rw [spec_l2Shape.l0]) ?_
   rw [rd_in, wrap_id (x := (i : Int) - 1) (by omega) (by omega)]
   refine ev_pos (by omega) (ev_pos (by omega) (ev_pos (by omega) (ev_if (fun _ => ev_ret rfl) (fun hc => ev_eq (spec_l1In_f _ _ _) (ev_neg (fun q => ?_) (ev_ret rfl))))))
   apply hs
   refine ⟨?_, of_decide_eq_true q⟩
   by_cases c : i = 0
   ·refine ⟨fun _ => ?_, fun _ => c⟩
    apply Classical.byContradiction
    intro h2
    apply hc
    rw [beq_eq_false_iff_ne.2 h2, c]; decide
   ·refine ⟨fun q => absurd q c, fun h2 => ?_⟩
    exfalso
    apply hc
    have h3 : ¬ (i : Int) = 0 := by omega
    rw [h2, beq_eq_false_iff_ne.2 h3]; decide
theorem spec_l2Shape_f (l : List IN) (hl : l.length ≤ 1048576) : ∃ b, Ev (fun k => spec_l2Shape.f k l) b ∧ (b = true ↔ (1 ≤ l.length ∧ l.length ≤ 301 ∧ ∀ k, k < l.length → Shape2 l k)) := by
 obtain ⟨b, b1, b2⟩ := spec_l2Shape_l l hl l.length 0 (by omega)
 exact ⟨b, b1, b2.trans ⟨fun h => ⟨h.1, h.2.1, fun k hk => h.2.2 k (by omega) hk⟩, fun h => ⟨h.1, h.2.1, fun k _ hk => h.2.2 k hk⟩⟩⟩
theorem spec_l2Same_l (a c : List IN) (he : a.length = c.length) (hl : a.length ≤ 1048576) (d : Nat) : ∀ i : Nat, i + d = a.length → ∃ b, Ev (fun k => spec_l2Same.l0 k a c (a.length : Int) (i : Int)) b ∧ (b = true ↔ ∀ k, i ≤ k → k < a.length → gt izN a k = gt izN c k) := by
 induction d with
 | zero =>
  intro i hi
  refine ⟨true, ?_, ⟨fun _ k h1 h2 => by omega, fun _ => rfl⟩⟩
  exact Ev.step (fun k => by rw [spec_l2Same.l0]) (ev_neg (by omega) (ev_ret rfl))
 | succ d ih =>
  intro i hi
  obtain ⟨b, b1, b2⟩ := ih (i + 1) (by omega)
  by_cases h : gt izN a i = gt izN c i
  ·refine ⟨b, ?_, ?_⟩
   ·refine Ev.step (fun k => by rw [spec_l2Same.l0]) ?_
    rw [rd_in, rd_in, wrap_succ i (by omega), h]
    refine ev_pos (by omega) (ev_pos (by omega) (ev_pos (by omega) (ev_pos (by omega) (ev_neg (by simp) b1))))
   ·rw [b2]
    constructor
    ·intro h3 k h4 h5
     by_cases c : k = i
     ·subst c; exact h
     ·exact h3 k (by omega) h5
    ·intro h3 k h4 h5
     exact h3 k (by omega) h5
  ·refine ⟨false, ?_, ⟨(fun q => by cases q), fun q => absurd (q i (Nat.le_refl _) (by omega)) h⟩⟩
   refine Ev.step (fun k => by rw [spec_l2Same.l0]) ?_
   rw [rd_in, rd_in]
   refine ev_pos (by omega) (ev_pos (by omega) (ev_pos (by omega) (ev_pos (by omega) (ev_pos ?_ (ev_ret rfl)))))
   generalize gt izN a i = x at h
   generalize gt izN c i = y at h
   obtain ⟨x0, x1, x2⟩ := x
   obtain ⟨y0, y1, y2⟩ := y
   rw [← Bool.not_eq_false]
   intro q
   simp only [Bool.or_eq_false_iff, Bool.not_eq_false', beq_iff_eq, tl_bts] at q
   apply h
   obtain ⟨q0, q1, q2⟩ := q
   rw [bts_inj q0, bts_inj q1, q2]
theorem spec_l2Same_f (a c : List IN) (hl : a.length ≤ 1048576) : ∃ b, Ev (fun k => spec_l2Same.f k a c) b ∧ (b = true ↔ a = c) := by
 unfold spec_l2Same.f
 by_cases he : a.length = c.length
 ·obtain ⟨b, b1, b2⟩ := spec_l2Same_l a c he hl a.length 0 (by omega)
  refine ⟨b, ev_pos (by omega) b1, b2.trans ⟨fun h => ext_gt a c he (fun j hj => h j (by omega) hj), fun h => by subst h; exact fun _ _ _ => rfl⟩⟩
 ·exact ⟨false, ev_neg (by omega) (ev_ret rfl), ⟨(fun q => by cases q), fun q => absurd (congrArg List.length q) he⟩⟩
theorem forest_shape2 (F : Fo) (k : Nat) (hk : k < (root :: F.rows 0 1).length) : Shape2 (root :: F.rows 0 1) k := by
 rw [List.length_cons, F.rows_len] at hk
 cases k with
 | zero =>
  have e : (gt izN (root :: F.rows 0 1) 0).f2 = -1 := rfl
  unfold Shape2
  rw [e]
  exact ⟨⟨fun _ => rfl, fun _ => rfl⟩, Int.le_refl _, by omega⟩
 | succ k =>
  unfold Shape2
  rw [gt_consS]
  rcases F.rows_up 0 1 k (by omega) with h | h
  ·rw [h]; exact ⟨⟨fun q => by omega, fun q => by omega⟩, by omega, by omega⟩
  ·exact ⟨⟨fun q => by omega, fun q => by omega⟩, by omega, by omega⟩
theorem forest_ahead (F : Fo) : Ahead (root :: F.rows 0 1) := fun k hk => by have := (forest_shape2 F k hk).2.2; omega
theorem TT_root (F : Fo) (hF : F.ok) : TT (root :: F.rows 0 1) 0 = F.text := by
 have hl : (root :: F.rows 0 1).length = F.size + 1 := by rw [List.length_cons, F.rows_len]
 have h1 := TT_wr (root :: F.rows 0 1) (forest_ahead F) 0 (by omega)
 have h2 := wrF_root F hF (-1) (by decide) F.size (Nat.le_refl _)
 rw [hl, Nat.sub_zero] at h1
 rw [F.textA_out 1 (-1) (.inl (by decide))] at h2
 exact Option.some.inj (h1.symm.trans h2)
theorem spec_GoodTree_f (l : List IN) (hl : l.length ≤ 1048576) (hs : (l.map (fun x => x.f0.size + x.f1.size)).sum ≤ 1048576) : Ev (fun k => spec_GoodTree.f k l) (goodT l) := by
 unfold spec_GoodTree.f
 obtain ⟨b, b1, b2⟩ := spec_l2Shape_f l hl
 refine Ev.bind b1 (ev_if (fun hb => ?_) (fun hb => ?_))
 ·obtain ⟨s1, s2, s3⟩ := b2.1 hb
  have ha : Ahead l := fun k hk => by have := (s3 k hk).2.2; omega
  have hfl := spec_l2Flat_g l ha hl hs 0 (by omega)
  have hT1 := TT_len l ha 0 (by omega)
  have hT2 := wN_sum l _ hs 0 (by omega)
  have hsz : (⟨(TT l 0).toArray⟩ : ByteArray).size = (TT l 0).length := by rw [← bts_len, bts_mk]
  have hgd := spec_GoodDoc_f ⟨(TT l 0).toArray⟩ (by omega)
  refine Ev.bind hfl (Ev.bind hgd (ev_if (fun hd => ?_) (fun hd => ?_)))
  ·have h300 := doc_len hd
   obtain ⟨F, hF, hFt⟩ := doc_forest _ hd
   rw [bts_mk] at hFt
   have r2 := spec_tree_forest _ h300 F hF (by rw [bts_mk]; exact hFt)
   have hr : (root :: F.rows 0 1).length ≤ 1048576 := by
    have := F.size_le hF
    rw [List.length_cons, F.rows_len]; rw [hFt] at this; omega
   obtain ⟨c, c1, c2⟩ := spec_l2Same_f _ l hr
   refine Ev.bind r2 (Ev.bind c1 (ev_ret ?_))
   rw [Bool.eq_iff_iff, goodT_iff, c2]
   constructor
   ·intro h
    refine ⟨F, hF, h.symm, by rw [hFt]; omega, ?_⟩
    rw [hFt, ← bytesOf_mk]; exact hd
   ·rintro ⟨F', hF', e', _, _⟩
    have h1 := TT_root F' hF'
    rw [← e'] at h1
    have r5 := spec_tree_forest _ h300 F' hF' (by rw [bts_mk]; exact h1.symm)
    rw [e']
    exact ev_uniq r2 r5
  ·refine ev_ret ?_
   symm
   rw [← Bool.not_eq_true, goodT_iff]
   rintro ⟨F', hF', e', _, h'⟩
   apply hd
   have h1 := TT_root F' hF'
   rw [← e'] at h1
   rw [bytesOf_mk, h1]; exact h'
 ·refine ev_ret ?_
  symm
  rw [← Bool.not_eq_true, goodT_iff]
  rintro ⟨F', hF', e', c', _⟩
  apply hb
  rw [b2, e']
  have := F'.size_le hF'
  have hl' : (root :: F'.rows 0 1).length = F'.size + 1 := by rw [List.length_cons, F'.rows_len]
  exact ⟨by omega, by omega, fun k hk => forest_shape2 F' k hk⟩
/-- What a good tree tells of its nodes. -/
theorem good_facts {l : List IN} (h : goodT l = true) : ∃ F : Fo, F.ok ∧ l = root :: F.rows 0 1 ∧ F.text.length ≤ 300 ∧ docB (nums F.text) = true ∧ l.length = F.size + 1 ∧ F.size ≤ 300 ∧ Ahead l ∧ (l.map (fun x => x.f0.size + x.f1.size)).sum ≤ 300 := by
 obtain ⟨F, h1, h2, h3, h4⟩ := (goodT_iff l).1 h
 have hs := F.size_le h1
 refine ⟨F, h1, h2, h3, h4, by rw [h2, List.length_cons, F.rows_len], by omega, by rw [h2]; exact forest_ahead F, ?_⟩
 have hsum := F.rows_sum h1 0 1
 have hle : ∀ q : List IN, (q.map (fun x => x.f0.size + x.f1.size)).sum ≤ (q.map nsz).sum := by
  intro q
  induction q with
  | nil => exact Nat.le_refl _
  | cons a q ih => rw [List.map_cons, List.map_cons, List.sum_cons, List.sum_cons]; unfold nsz at ih ⊢; omega
 have h5 := hle (F.rows 0 1)
 rw [h2, List.map_cons, List.sum_cons]
 show 0 + _ ≤ _
 omega
theorem TT_small {l : List IN} (ha : Ahead l) (hl : l.length ≤ 301) (hs : (l.map (fun x => x.f0.size + x.f1.size)).sum ≤ 300) (k : Nat) (hk : k < l.length) : (TT l k).length ≤ 601 := by
 have h1 := TT_len l ha k hk
 have h2 := wN_sum l _ hs k (by omega)
 omega
theorem impl_flat_node {l : List IN} (ha : Ahead l) (hl : l.length ≤ 301) (hs : (l.map (fun x => x.f0.size + x.f1.size)).sum ≤ 300) (k : Nat) (hk : k < l.length) : Ev (fun n => impl_flat.f n l (k : Int) (-1)) ⟨(TT l k).toArray⟩ := by
 have h1 := TT_small ha hl hs k hk
 have h2 := TT_wr l ha k hk
 refine ⟨l.length, fun n hn => ?_⟩
 unfold impl_flat.f
 show (if l.length ≤ 1000000 then (wrF l (-1) n (k : Int)).bind (fun r => if r.length ≤ 140737488355328 then some (⟨r.toArray⟩ : ByteArray) else none) else none) = _
 rw [if_pos (by omega), wrF_more' l (-1) _ _ _ n (by omega) h2, Option.bind_some, if_pos (by omega)]
theorem laws_sameNodes_l (l : List IN) (hl : l.length ≤ 1000000) (d : Nat) : ∀ i : Nat, i + d = l.length → Ev (fun k => laws_sameNodes.l0 k l l (l.length : Int) (i : Int)) true := by
 induction d with
 | zero =>
  intro i hi
  exact Ev.step (fun k => by rw [laws_sameNodes.l0]) (ev_neg (by omega) (ev_ret rfl))
 | succ d ih =>
  intro i hi
  refine Ev.step (fun k => by rw [laws_sameNodes.l0]) ?_
  refine ev_pos (by omega) (ev_pos (by omega) (ev_pos (by omega) (ev_pos (by omega) (ev_neg (by simp) ?_))))
  rw [wrap_succ i (by omega)]
  exact ih (i + 1) (by omega)
theorem laws_sameNodes_f (l : List IN) (hl : l.length ≤ 1000000) : Ev (fun k => laws_sameNodes.f k l l) true := by
 unfold laws_sameNodes.f
 exact ev_pos rfl (laws_sameNodes_l l hl l.length 0 (by omega))
theorem laws_sameInts_l (l : List Int) (hl : l.length ≤ 1000000) (d : Nat) : ∀ i : Nat, i + d = l.length → Ev (fun k => laws_sameInts.l0 k l l (l.length : Int) (i : Int)) true := by
 induction d with
 | zero =>
  intro i hi
  exact Ev.step (fun k => by rw [laws_sameInts.l0]) (ev_neg (by omega) (ev_ret rfl))
 | succ d ih =>
  intro i hi
  refine Ev.step (fun k => by rw [laws_sameInts.l0]) ?_
  refine ev_pos (by omega) (ev_pos (by omega) (ev_pos (by omega) (ev_pos (by omega) (ev_pos rfl ?_))))
  rw [wrap_succ i (by omega)]
  exact ih (i + 1) (by omega)
theorem laws_sameInts_f (l : List Int) (hl : l.length ≤ 1000000) : Ev (fun k => laws_sameInts.f k l l) true := by
 unfold laws_sameInts.f
 exact ev_pos rfl (laws_sameInts_l l hl l.length 0 (by omega))
theorem good_of {F : Fo} (h1 : F.ok) (h2 : F.text.length ≤ 300) (h3 : docB (nums F.text) = true) : goodT (root :: F.rows 0 1) = true := (goodT_iff _).2 ⟨F, h1, rfl, h2, h3⟩
theorem and255 (E : Int) (h0 : 0 ≤ E) (h1 : E ≤ 18446744073709551615) : 0 ≤ Go.bits .and .u64 E 255 ∧ Go.bits .and .u64 E 255 ≤ 255 := by
 have h := Go.bits_and_u64_nat E.toNat 255 (by omega) (by omega)
 rw [Int.toNat_of_nonneg h0] at h
 have h2 : E.toNat &&& 255 ≤ 255 := Nat.and_le_right
 have h3 : Go.bits .and .u64 E 255 = ((E.toNat &&& 255 : Nat) : Int) := h
 rw [h3]; omega
theorem and255q (x : Int) : 0 ≤ wrap64 (Go.bits .and .u64 (Go.IntKind.u64.wrap x / 1099511627776) 255) ∧ wrap64 (Go.bits .and .u64 (Go.IntKind.u64.wrap x / 1099511627776) 255) ≤ 255 := by
 have hw := Go.IntKind.wrap_u64 x
 obtain ⟨a, b⟩ := and255 (Go.IntKind.u64.wrap x / 1099511627776) (by rw [hw]; omega) (by rw [hw]; omega)
 rw [wrap_id (by omega) (by omega)]; exact ⟨a, b⟩
/-- Bytes as they come in. -/
def Code (s : List Int) : Prop := (∀ x ∈ s, 0 ≤ x ∧ x ≤ 255) ∧ s.length ≤ 1000000000000
theorem next_f {s : List Int} (hs : Code s) (at_ seed : Int) (h0 : 0 ≤ at_) (h1 : at_ ≤ 1000000000000) : ∃ x seed', spec_l1Cur_next.f s at_ seed = some (x, at_ + 1, seed') ∧ 0 ≤ x ∧ x ≤ 255 := by
 unfold spec_l1Cur_next.f
 rw [wrap_id (x := at_ + 1) (by omega) (by omega)]
 by_cases c : at_ < (s.length : Int)
 ·rw [if_pos c, if_pos h0]
  have hx : 0 ≤ rd s at_ ∧ rd s at_ ≤ 255 := by
   obtain ⟨n, rfl⟩ := Int.eq_ofNat_of_zero_le h0
   exact hs.1 _ (gt_mem 0 s n (by omega))
  have e : wrap64 (rd s at_) = rd s at_ := wrap_id (by omega) (by omega)
  by_cases c2 : at_ + 1 ≤ (s.length : Int)
  ·rw [if_pos c2]; exact ⟨_, _, rfl, by rw [e]; exact hx.1, by rw [e]; exact hx.2⟩
  ·rw [if_neg c2]; exact ⟨_, _, rfl, and255q _⟩
 ·rw [if_neg c]
  by_cases c2 : at_ + 1 ≤ (s.length : Int)
  ·rw [if_pos c2]; exact ⟨_, _, rfl, Int.le_refl _, by decide⟩
  ·rw [if_neg c2]; exact ⟨_, _, rfl, and255q _⟩
theorem wrap_pred (n : Nat) (h : n ≤ 4611686018427387904) : wrap64 (((n + 1 : Nat) : Int) - 1) = (n : Int) := by rw [wrap_id (by omega) (by omega)]; omega
theorem tmod_in {x n : Int} (hx : 0 ≤ x) (hn : 0 < n) : 0 ≤ Int.tmod x n ∧ Int.tmod x n < n := by
 rw [Int.tmod_eq_emod_of_nonneg hx]
 exact ⟨Int.emod_nonneg _ (by omega), Int.emod_lt_of_pos _ hn⟩
theorem pick_f {s : List Int} (hs : Code s) (at_ seed n : Int) (h0 : 0 ≤ at_) (h1 : at_ ≤ 100000000000) : ∃ r at' seed', spec_l1Cur_pick.f s at_ seed n = some (r, at', seed') ∧ 0 ≤ r ∧ (1 ≤ n → r < n) ∧ at_ ≤ at' ∧ at' ≤ at_ + 2 := by
 unfold spec_l1Cur_pick.f
 by_cases c : n ≤ 1
 ·rw [if_pos c]; exact ⟨_, _, _, rfl, Int.le_refl _, fun h => by omega, Int.le_refl _, by omega⟩
 ·rw [if_neg c]
  obtain ⟨x, s1, e1, x0, x1⟩ := next_f hs at_ seed h0 (by omega)
  rw [e1]
  simp only [Option.bind_some]
  by_cases c2 : n > 200
  ·rw [if_pos c2]
   obtain ⟨y, s2, e2, y0, y1⟩ := next_f hs (at_ + 1) s1 (by omega) (by omega)
   rw [e2]
   simp only [Option.bind_some]
   rw [if_neg (by omega)]
   have e3 : wrap64 (wrap64 (x * 256) + y) = x * 256 + y := by rw [wrap_id (x := x * 256) (by omega) (by omega), wrap_id (by omega) (by omega)]
   rw [e3]
   obtain ⟨t1, t2⟩ := tmod_in (x := x * 256 + y) (n := n) (by omega) (by omega)
   exact ⟨_, _, _, rfl, t1, fun _ => t2, by omega, by omega⟩
  ·rw [if_neg c2, if_neg (by omega)]
   obtain ⟨t1, t2⟩ := tmod_in (x := x) (n := n) x0 (by omega)
   exact ⟨_, _, _, rfl, t1, fun _ => t2, by omega, by omega⟩
theorem one_f {s : List Int} (hs : Code s) (at_ seed n : Int) (h0 : 0 ≤ at_) (h1 : at_ ≤ 100000000000) : ∃ b at' seed', spec_l1Cur_one.f s at_ seed n = some (b, at', seed') ∧ at_ ≤ at' ∧ at' ≤ at_ + 2 := by
 unfold spec_l1Cur_one.f
 obtain ⟨r, a, z, e, _, _, h2, h3⟩ := pick_f hs at_ seed n h0 h1
 rw [e]
 exact ⟨_, _, _, rfl, h2, h3⟩
theorem of_f {s : List Int} (hs : Code s) (at_ seed : Int) (l : List ByteArray) (h0 : 0 ≤ at_) (h1 : at_ ≤ 100000000000) (hl : 1 ≤ l.length) (hl2 : l.length ≤ 1000) (m : Nat) (hm : ∀ x ∈ l, x.size ≤ m) : ∃ r at' seed', spec_l1Cur_of.f s at_ seed l = some (r, at', seed') ∧ r.size ≤ m ∧ at_ ≤ at' ∧ at' ≤ at_ + 2 := by
 unfold spec_l1Cur_of.f
 obtain ⟨r, a, z, e, r0, r1, h2, h3⟩ := pick_f hs at_ seed (l.length : Int) h0 h1
 rw [e]
 simp only [Option.bind_some]
 have := r1 (by omega)
 rw [if_pos r0, if_pos this]
 refine ⟨_, _, _, rfl, ?_, h2, h3⟩
 obtain ⟨n, rfl⟩ := Int.eq_ofNat_of_zero_le r0
 exact hm _ (gt_mem ByteArray.empty l n (by omega))
/-- A run of so many parts, so deep: it ends, and is not too long. -/
def InnerOk (s : List Int) (d C S : Nat) : Prop := ∀ (n : Nat) (x7 : ByteArray) (at_ seed : Int), n ≤ 60 → 0 ≤ at_ → at_ + ((n * C : Nat) : Int) ≤ 1000000000 → x7.size + n * S ≤ 1000000000 →
 ∃ (r : ByteArray) (at' seed' : Int), Ev (fun k => spec_l1Cur_inner.l0 k (n : Int) (d : Int) x7 s at_ seed) (r, at', seed') ∧ at_ ≤ at' ∧ at' ≤ at_ + ((n * C : Nat) : Int) ∧ r.size ≤ x7.size + n * S
theorem ba_len (a b : ByteArray) : (a ++ b).size = a.size + b.size := ByteArray.size_append
theorem inner_step {s : List Int} (hs : Code s) (d C S : Nat) (hd : d ≤ 10) (hC : 4 ≤ C ∧ C ≤ 1000) (hS : 3 ≤ S ∧ S ≤ 1000) (hin : d = 0 ∨ ∃ e c z, d = e + 1 ∧ InnerOk s e c z ∧ 6 + 3 * c ≤ C ∧ 2 + 3 * z ≤ S) : InnerOk s d C S := by
 intro n
 induction n with
 | zero =>
  intro x7 at_ seed hn h0 h1 h2
  refine ⟨x7, at_, seed, ?_, Int.le_refl _, by omega, by omega⟩
  refine Ev.step (fun k => by rw [spec_l1Cur_inner.l0]) ?_
  exact ev_neg (by omega) (ev_ret rfl)
 | succ n ih =>
  intro x7 at_ seed hn h0 h1 h2
  have m1 : (n + 1) * C = n * C + C := Nat.succ_mul n C
  have m2 : (n + 1) * S = n * S + S := Nat.succ_mul n S
  generalize (n + 1) * C = CC at m1 h1 ⊢
  generalize (n + 1) * S = SS at m2 h2 ⊢
  generalize n * C = cc at m1 ih
  generalize n * S = ss at m2 ih
  -- a part without elements
  have flat : ∀ (a z : Int), 0 ≤ a → a ≤ at_ + 2 → at_ ≤ a → ∃ (r : ByteArray) (at' seed' : Int), Ev (fun k => spec_l1Cur_inner.j1 k ((n + 1 : Nat) : Int) (d : Int) x7 false s a z) (r, at', seed') ∧ at_ ≤ at' ∧ at' ≤ at_ + (CC : Int) ∧ r.size ≤ x7.size + SS := fun a z a0 a1 a2 => by
   obtain ⟨t, a', z', e, ht, b1, b2⟩ := of_f hs a z [(⟨#[97]⟩ : ByteArray), (⟨#[98]⟩ : ByteArray), (⟨#[97, 98]⟩ : ByteArray), (⟨#[120]⟩ : ByteArray), (⟨#[32]⟩ : ByteArray), (⟨#[111, 110, 101]⟩ : ByteArray), (⟨#[49]⟩ : ByteArray), (⟨#[122, 46]⟩ : ByteArray)] (by omega) (by omega) (by simp) (by simp) 3 (by
    intro x hx
    simp only [List.mem_cons, List.not_mem_nil, or_false] at hx
    rcases hx with rfl | rfl | rfl | rfl | rfl | rfl | rfl | rfl <;> decide)
   obtain ⟨r, at', seed', q1, q2, q3, q4⟩ := ih (x7 ++ t) a' z' (by omega) (by omega) (by omega) (by rw [ba_len]; omega)
   rw [ba_len] at q4
   refine ⟨r, at', seed', ?_, by omega, by omega, by omega⟩
   refine Ev.step (fun k => by rw [spec_l1Cur_inner.j1]) ?_
   refine ev_neg (by simp) (ev_eq e (ev_pos (by dsimp only; omega) ?_))
   rw [wrap_pred n (by omega)]; exact q1
  rcases hin with rfl | ⟨e, c, z, rfl, hok, hc, hz⟩
  ·obtain ⟨r, at', seed', q1, q2, q3, q4⟩ := flat at_ seed h0 (by omega) (Int.le_refl _)
   refine ⟨r, at', seed', ?_, q2, q3, q4⟩
   refine Ev.step (fun k => by rw [spec_l1Cur_inner.l0]) ?_
   exact ev_pos (by omega) (ev_neg (by omega) q1)
  ·obtain ⟨b, a, z1, e1, b1, b2⟩ := one_f hs at_ seed 3 h0 (by omega)
   have hstart : ∀ r, Ev (fun k => spec_l1Cur_inner.j1 k ((n + 1 : Nat) : Int) ((e + 1 : Nat) : Int) x7 b s a z1) r → Ev (fun k => spec_l1Cur_inner.l0 k ((n + 1 : Nat) : Int) ((e + 1 : Nat) : Int) x7 s at_ seed) r := fun r h => by
    refine Ev.step (fun k => by rw [spec_l1Cur_inner.l0]) ?_
    exact ev_pos (by omega) (ev_pos (by omega) (ev_eq e1 h))
   cases b with
   | false =>
    obtain ⟨r, at', seed', q1, q2, q3, q4⟩ := flat a z1 (by omega) b2 b1
    exact ⟨r, at', seed', hstart _ q1, q2, q3, q4⟩
   | true =>
    obtain ⟨p, a2, z2, e2, p0, p1, b3, b4⟩ := pick_f hs a z1 4 (by omega) (by omega)
    obtain ⟨m, a3, z3, e3, m0, m1', b5, b6⟩ := pick_f hs a2 z2 4 (by omega) (by omega)
    have m3 := m1' (by omega)
    obtain ⟨mn, rfl⟩ := Int.eq_ofNat_of_zero_le m0
    have c1 : mn * c ≤ 3 * c := Nat.mul_le_mul_right c (by omega)
    have c2 : mn * z ≤ 3 * z := Nat.mul_le_mul_right z (by omega)
    obtain ⟨t, a4, z4, t1, t2, t3, t4⟩ := hok mn (⟨#[]⟩ : ByteArray) a3 z3 (by omega) (by omega) (by omega) (by show 0 + mn * z ≤ _; omega)
    have t4' : t.size ≤ mn * z := by have : (⟨#[]⟩ : ByteArray).size = 0 := rfl; omega
    have hsz : ∀ y : List Int, y.length = 1 → (Go.strOfNums y).size = 1 := fun y hy => by rw [Go.strOfNums_size, hy]
    have hs1 : (Go.strOfNums [(wrap64 (65 + p)) % 256]).size = 1 := hsz _ rfl
    have hs2 : (⟨#[47]⟩ : ByteArray).size = 1 := rfl
    have hs3 : ((Go.strOfNums [(wrap64 (65 + p)) % 256] ++ t) ++ (⟨#[47]⟩ : ByteArray)).size = 2 + t.size := by rw [ba_len, ba_len, hs1, hs2]; omega
    obtain ⟨r, at', seed', q1, q2, q3, q4⟩ := ih (x7 ++ ((Go.strOfNums [(wrap64 (65 + p)) % 256] ++ t) ++ (⟨#[47]⟩ : ByteArray))) a4 z4 (by omega) (by omega) (by omega) (by rw [ba_len, hs3]; omega)
    rw [ba_len, hs3] at q4
    refine ⟨r, at', seed', hstart _ ?_, by omega, by omega, by omega⟩
    refine Ev.step (fun k => by rw [spec_l1Cur_inner.j1]) ?_
    rw [wrap_pred e (by omega), wrap_pred n (by omega)]
    refine ev_pos rfl (ev_eq e2 (ev_eq rfl (ev_eq e3 (Ev.bind (a := (t, a4, z4)) ?_ (ev_pos (by rw [hs1]; simp only; omega) (ev_pos (by rw [ba_len, hs1]; simp only; omega) (ev_pos (by rw [hs3]; omega) q1)))))))
    refine Ev.step (fun k => by rw [spec_l1Cur_inner.f]) ?_
    exact t1
theorem inner_ok3 {s : List Int} (hs : Code s) : InnerOk s 3 186 107 :=
 inner_step hs 3 186 107 (by omega) (by omega) (by omega) (.inr ⟨2, 60, 35, rfl, inner_step hs 2 60 35 (by omega) (by omega) (by omega) (.inr ⟨1, 18, 11, rfl, inner_step hs 1 18 11 (by omega) (by omega) (by omega) (.inr ⟨0, 4, 3, rfl, inner_step hs 0 4 3 (by omega) (by omega) (by omega) (.inl rfl), by omega, by omega⟩), by omega, by omega⟩), by omega, by omega⟩)
theorem inner_f {s : List Int} (hs : Code s) (n : Nat) (hn : n ≤ 60) (at_ seed : Int) (h0 : 0 ≤ at_) (h1 : at_ ≤ 100000000) : ∃ (r : ByteArray) (at' seed' : Int), Ev (fun k => spec_l1Cur_inner.f k s at_ seed (n : Int) 3) (r, at', seed') ∧ at_ ≤ at' ∧ at' ≤ at_ + 20000 ∧ r.size ≤ 10000 := by
 obtain ⟨r, a, z, q1, q2, q3, q4⟩ := inner_ok3 hs n (⟨#[]⟩ : ByteArray) at_ seed hn h0 (by omega) (by show 0 + n * 107 ≤ _; omega)
 have e0 : (⟨#[]⟩ : ByteArray).size = 0 := rfl
 refine ⟨r, a, z, ?_, q2, by omega, by omega⟩
 refine Ev.step (fun k => by rw [spec_l1Cur_inner.f]) ?_
 exact q1
theorem extract_size (x : ByteArray) (a b : Nat) (h : b ≤ x.size) : (x.extract a b).size = b - a := by rw [ByteArray.size_extract]; omega
set_option maxHeartbeats 4000000 in
theorem spoilt_l {s : List Int} (hs : Code s) (w : ByteArray) (hw : 1 ≤ w.size ∧ w.size ≤ 100) : ∀ (n : Nat) (x : ByteArray) (at_ seed : Int), n ≤ 3 → 0 ≤ at_ → at_ + 6 * (n : Int) ≤ 60000000000 → x.size + n ≤ 1000000 →
  ∃ (r : ByteArray) (at' seed' : Int), Ev (fun k => spec_l1Cur_spoilt.l0 k x w (n : Int) s at_ seed) (r, at', seed') ∧ at_ ≤ at' ∧ at' ≤ at_ + 6 * (n : Int) ∧ r.size ≤ x.size + n
 | 0, x, at_, seed, hn, h0, h1, hx => by
  refine ⟨x, at_, seed, ?_, Int.le_refl _, by omega, by omega⟩
  refine Ev.step (fun k => by rw [spec_l1Cur_spoilt.l0]) ?_
  refine ev_neg (by omega) ?_
  refine Ev.step (fun k => by rw [spec_l1Cur_spoilt.j1]) ?_
  exact ev_neg (by simp) (ev_ret rfl)
 | n + 1, x, at_, seed, hn, h0, h1, hx => by
  have hstart : ∀ r, Ev (fun k => spec_l1Cur_spoilt.j1 k x w ((n + 1 : Nat) : Int) (decide ((x.size : Int) > 0)) s at_ seed) r → Ev (fun k => spec_l1Cur_spoilt.l0 k x w ((n + 1 : Nat) : Int) s at_ seed) r := fun r h => by
   refine Ev.step (fun k => by rw [spec_l1Cur_spoilt.l0]) ?_
   exact ev_pos (by omega) h
  by_cases hx0 : (x.size : Int) > 0
  ·rw [decide_eq_true hx0] at hstart
   obtain ⟨i, a1, z1, e1, i0, i1, b1, b2⟩ := pick_f hs at_ seed (x.size : Int) h0 (by omega)
   obtain ⟨j, a2, z2, e2, j0, j1, b3, b4⟩ := pick_f hs a1 z1 (w.size : Int) (by omega) (by omega)
   obtain ⟨c, a3, z3, e3, c0, c1, b5, b6⟩ := pick_f hs a2 z2 3 (by omega) (by omega)
   have i2 := i1 (by omega)
   have j2 := j1 (by omega)
   have hone : (Go.strOfNums [bt w j]).size = 1 := by rw [Go.strOfNums_size]; rfl
   obtain ⟨im, rfl⟩ := Int.eq_ofNat_of_zero_le i0
   have s1 := extract_size x 0 im (by omega)
   have s2 := extract_size x im x.size (Nat.le_refl _)
   have s3 := extract_size x (im + 1) x.size (Nat.le_refl _)
   by_cases h3 : c = 0
   ·obtain ⟨r, at', seed', q1, q2, q3, q4⟩ := spoilt_l hs w hw n (((x.extract 0 im) ++ (Go.strOfNums [bt w j])) ++ (x.extract im x.size)) a3 z3 (by omega) (by omega) (by omega) (by rw [ba_len, ba_len, hone]; omega)
    rw [ba_len, ba_len, hone] at q4
    refine ⟨r, at', seed', hstart _ ?_, by omega, by omega, by omega⟩
    refine Ev.step (fun k => by rw [spec_l1Cur_spoilt.j1]) ?_
    refine ev_pos rfl (ev_eq e1 (ev_eq e2 (ev_pos j0 (ev_pos j2 (ev_eq rfl (ev_eq e3 ?_))))))
    dsimp only
    rw [wrap_succ im (by omega), wrap_pred n (by omega), Int.toNat_natCast, Int.toNat_natCast]
    exact ev_pos h3 (ev_pos (by omega) (ev_pos (by omega) (ev_pos (by omega) (ev_pos (by rw [ba_len]; omega) q1))))
   ·by_cases h4 : c = 1
    ·obtain ⟨r, at', seed', q1, q2, q3, q4⟩ := spoilt_l hs w hw n (((x.extract 0 im) ++ (Go.strOfNums [bt w j])) ++ (x.extract (im + 1) x.size)) a3 z3 (by omega) (by omega) (by omega) (by rw [ba_len, ba_len, hone]; omega)
     rw [ba_len, ba_len, hone] at q4
     refine ⟨r, at', seed', hstart _ ?_, by omega, by omega, by omega⟩
     refine Ev.step (fun k => by rw [spec_l1Cur_spoilt.j1]) ?_
     refine ev_pos rfl (ev_eq e1 (ev_eq e2 (ev_pos j0 (ev_pos j2 (ev_eq rfl (ev_eq e3 ?_))))))
     dsimp only
     rw [wrap_succ im (by omega), wrap_pred n (by omega), Int.toNat_natCast, Int.toNat_natCast]
     exact ev_neg h3 (ev_pos h4 (ev_pos (by omega) (ev_pos (by omega) (ev_pos (by omega) (ev_pos (by omega) (ev_pos (by omega) (ev_pos (by rw [ba_len]; omega) q1)))))))
    ·obtain ⟨r, at', seed', q1, q2, q3, q4⟩ := spoilt_l hs w hw n ((x.extract 0 im) ++ (x.extract (im + 1) x.size)) a3 z3 (by omega) (by omega) (by omega) (by rw [ba_len]; omega)
     rw [ba_len] at q4
     refine ⟨r, at', seed', hstart _ ?_, by omega, by omega, by omega⟩
     refine Ev.step (fun k => by rw [spec_l1Cur_spoilt.j1]) ?_
     refine ev_pos rfl (ev_eq e1 (ev_eq e2 (ev_pos j0 (ev_pos j2 (ev_eq rfl (ev_eq e3 ?_))))))
     dsimp only
     rw [wrap_succ im (by omega), wrap_pred n (by omega), Int.toNat_natCast, Int.toNat_natCast]
     exact ev_neg h3 (ev_neg h4 (ev_pos (by omega) (ev_pos (by omega) (ev_pos (by omega) (ev_pos (by omega) (ev_pos (by omega) q1))))))
  ·rw [decide_eq_false hx0] at hstart
   refine ⟨x, at_, seed, hstart _ ?_, Int.le_refl _, by omega, by omega⟩
   refine Ev.step (fun k => by rw [spec_l1Cur_spoilt.j1]) ?_
   exact ev_neg (by simp) (ev_ret rfl)
theorem spoilt_f {s : List Int} (hs : Code s) (x w : ByteArray) (hw : 1 ≤ w.size ∧ w.size ≤ 100) (hx : x.size ≤ 900000) (at_ seed : Int) (h0 : 0 ≤ at_) (h1 : at_ ≤ 59000000000) : ∃ (r : ByteArray) (at' seed' : Int), Ev (fun k => spec_l1Cur_spoilt.f k s at_ seed x w) (r, at', seed') ∧ at_ ≤ at' ∧ at' ≤ at_ + 20 ∧ r.size ≤ x.size + 3 := by
 obtain ⟨m, a, z, e, m0, m1, b1, b2⟩ := pick_f hs at_ seed 3 h0 (by omega)
 have m2 := m1 (by omega)
 obtain ⟨mn, rfl⟩ := Int.eq_ofNat_of_zero_le m0
 obtain ⟨r, at', seed', q1, q2, q3, q4⟩ := spoilt_l hs w hw mn x a z (by omega) (by omega) (by omega) (by omega)
 refine ⟨r, at', seed', ?_, by omega, by omega, by omega⟩
 unfold spec_l1Cur_spoilt.f
 exact ev_eq e q1
theorem doc_f {s : List Int} (hs : Code s) (at_ seed : Int) (h0 : 0 ≤ at_) (h1 : at_ ≤ 10000000) : ∃ (r : ByteArray) (at' seed' : Int), Ev (fun k => spec_l1Cur_doc.f k s at_ seed) (r, at', seed') ∧ at_ ≤ at' ∧ at' ≤ at_ + 50000 ∧ r.size ≤ 20000 := by
 have last : ∀ (x : ByteArray) (a z : Int), 0 ≤ a → a ≤ 20000000 → x.size ≤ 10000 → ∃ (r : ByteArray) (at' seed' : Int), Ev (fun k => spec_l1Cur_doc.j0 k x s a z) (r, at', seed') ∧ a ≤ at' ∧ at' ≤ a + 30 ∧ r.size ≤ 20000 := fun x a z a0 a1 hx => by
  obtain ⟨b, a2, z2, e2, b1, b2⟩ := one_f hs a z 12 a0 (by omega)
  cases b with
  | true =>
   obtain ⟨r, at', seed', q1, q2, q3, q4⟩ := spoilt_f hs x (⟨#[65, 47, 97, 90]⟩ : ByteArray) (by decide) (by omega) a2 z2 (by omega) (by omega)
   refine ⟨r, at', seed', ?_, by omega, by omega, by omega⟩
   refine Ev.step (fun k => by rw [spec_l1Cur_doc.j0]) ?_
   exact ev_eq e2 (ev_pos rfl (Ev.bind q1 (ev_ret rfl)))
  | false =>
   refine ⟨x, a2, z2, ?_, by omega, by omega, by omega⟩
   refine Ev.step (fun k => by rw [spec_l1Cur_doc.j0]) ?_
   exact ev_eq e2 (ev_neg (by simp) (ev_ret rfl))
 obtain ⟨m, a1, z1, e1, m0, m1, b1, b2⟩ := pick_f hs at_ seed 7 h0 (by omega)
 have m2 := m1 (by omega)
 obtain ⟨mn, rfl⟩ := Int.eq_ofNat_of_zero_le m0
 obtain ⟨x, a2, z2, q1, q2, q3, q4⟩ := inner_f hs mn (by omega) a1 z1 (by omega) (by omega)
 obtain ⟨c, a3, z3, e3, c0, c1, b3, b4⟩ := pick_f hs a2 z2 30 (by omega) (by omega)
 unfold spec_l1Cur_doc.f
 by_cases h3 : c = 0
 ·obtain ⟨y, a4, z4, p1, p2, p3, p4⟩ := inner_f hs 60 (Nat.le_refl _) a3 z3 (by omega) (by omega)
  obtain ⟨r, at', seed', r1, r2, r3, r4⟩ := last y a4 z4 (by omega) (by omega) (by omega)
  exact ⟨r, at', seed', ev_eq e1 (Ev.bind q1 (ev_eq e3 (ev_pos h3 (Ev.bind p1 r1)))), by omega, by omega, r4⟩
 ·by_cases h4 : c = 1
  ·obtain ⟨y, a4, z4, e4, p4, p2, p3⟩ := of_f hs a3 z3 [(⟨#[65, 65, 65, 65, 65, 65, 65, 65, 65, 65, 65, 65, 47, 47, 47, 47, 47, 47, 47, 47, 47, 47, 47, 47]⟩ : ByteArray), (⟨#[65, 65, 65, 65, 65, 65, 65, 65, 65, 65, 65, 65, 65, 47, 47, 47, 47, 47, 47, 47, 47, 47, 47, 47, 47, 47]⟩ : ByteArray)] (by omega) (by omega) (by simp) (by simp) 30 (by
    intro x hx
    simp only [List.mem_cons, List.not_mem_nil, or_false] at hx
    rcases hx with rfl | rfl <;> decide)
   obtain ⟨r, at', seed', r1, r2, r3, r4⟩ := last y a4 z4 (by omega) (by omega) (by omega)
   exact ⟨r, at', seed', ev_eq e1 (Ev.bind q1 (ev_eq e3 (ev_neg h3 (ev_pos h4 (ev_eq e4 r1))))), by omega, by omega, r4⟩
  ·obtain ⟨r, at', seed', r1, r2, r3, r4⟩ := last x a3 z3 (by omega) (by omega) (by omega)
   exact ⟨r, at', seed', ev_eq e1 (Ev.bind q1 (ev_eq e3 (ev_neg h3 (ev_neg h4 r1)))), by omega, by omega, r4⟩
theorem wf_u8 {x : Int} (h : (Lit.int .u8 x).wf = true) : 0 ≤ x ∧ x ≤ 255 := by
 simp [Lit.wf, IntKind.min, IntKind.max, IntKind.signed, IntKind.bits] at h
 omega
theorem code_of {l : List Int} (hl : l.length ≤ 1048576) (h : ∀ x ∈ l, (Lit.int .u8 x).wf = true) : Code l := ⟨fun x hx => wf_u8 (h x hx), by omega⟩
theorem set_sum (w : IN → Nat) (v : IN) : ∀ (l : List IN) (i : Nat), ((l.set i v).map w).sum ≤ (l.map w).sum + w v
 | [], i => by rw [List.set_nil]; simp
 | a :: r, 0 => by rw [List.set_cons_zero, List.map_cons, List.map_cons, List.sum_cons, List.sum_cons]; omega
 | a :: r, i + 1 => by rw [List.set_cons_succ, List.map_cons, List.map_cons, List.sum_cons, List.sum_cons]; have := set_sum w v r i; omega
theorem sum_mem {l : List IN} {x : IN} (h : x ∈ l) : x.f0.size + x.f1.size ≤ (l.map (fun x => x.f0.size + x.f1.size)).sum := le_sum (List.mem_map.2 ⟨x, h, rfl⟩)
/-- What is drawn for a tree is small. -/
def SmallT (m : List IN) : Prop := 1 ≤ m.length ∧ m.length ≤ 301 ∧ (m.map (fun x => x.f0.size + x.f1.size)).sum ≤ 2000
theorem SmallT.mem {m : List IN} (h : SmallT m) : ∀ x ∈ m, x.f0.size ≤ 1048576 ∧ x.f1.size ≤ 1048576 := fun x hx => by
 have := sum_mem hx; have := h.2.2; omega
theorem small_set {l : List IN} (h1 : 1 ≤ l.length) (h2 : l.length ≤ 301) (h3 : (l.map (fun x => x.f0.size + x.f1.size)).sum ≤ 300) (i : Nat) (v : IN) (hv : v.f0.size + v.f1.size ≤ 1000) : SmallT (l.set i v) := by
 have : ((l.set i v).map (fun x => x.f0.size + x.f1.size)).sum ≤ (l.map (fun x => x.f0.size + x.f1.size)).sum + (v.f0.size + v.f1.size) := set_sum (fun x => x.f0.size + x.f1.size) v l i
 exact ⟨by rw [List.length_set]; exact h1, by rw [List.length_set]; exact h2, by omega⟩
theorem tree_text {s : List Int} (hs : Code s) (x : ByteArray) (hd : docB (bytesOf x) = true) (a z : Int) (h0 : 0 ≤ a) (h1 : a ≤ 1000000) : ∃ (m : List IN) (a' z' : Int), Ev (fun k => spec_l1Cur_tree.j0 k x s a z) (m, a', z') ∧ 0 ≤ a' ∧ a' ≤ 2000000 ∧ SmallT m := by
 have h300 := doc_len hd
 obtain ⟨F, f1, f2⟩ := doc_forest x hd
 have ht := spec_tree_forest x h300 F f1 f2
 have hsz := F.size_le f1
 rw [f2, bts_len] at hsz
 have hg : goodT (root :: F.rows 0 1) = true := (goodT_iff _).2 ⟨F, f1, rfl, by rw [f2, bts_len]; omega, by rw [f2, nums_bts]; exact hd⟩
 obtain ⟨_, _, _, _, _, _, _, _, hsum⟩ := good_facts hg
 have hl : (root :: F.rows 0 1).length = F.size + 1 := by rw [List.length_cons, F.rows_len]
 have e9 : (⟨⟨#[]⟩, ⟨#[]⟩, -1⟩ :: F.rows 0 1 : List IN) = root :: F.rows 0 1 := rfl
 rw [e9] at ht
 generalize root :: F.rows 0 1 = l at ht hsum hl
 have hl1 : 1 ≤ l.length := by omega
 have hl2 : l.length ≤ 301 := by omega
 clear hl hg hsz f1 f2 e9
 obtain ⟨b, a1, z1, e1, b1, b2⟩ := one_f hs a z 12 h0 (by omega)
 have step : ∀ r : List IN × Int × Int, (Ev (fun k => if b = true then ((spec_l1Cur_pick.f s a1 z1 3).bind fun bt311 => (if bt311.1 = 0 then ((spec_l1Cur_pick.f s bt311.2.1 bt311.2.2 (l.length : Int)).bind fun bt314 => ((spec_l1Cur_of.f s bt314.2.1 bt314.2.2 (([(⟨#[]⟩ : ByteArray), (⟨#[65]⟩ : ByteArray), (⟨#[90]⟩ : ByteArray)] : List ByteArray))).bind fun bt320 => (if 0 ≤ bt314.1 then (if bt314.1 < (l.length : Int) then (some ((l.set (bt314.1 : Int).toNat (⟨bt320.1, (rd_T54 l bt314.1).f1, (rd_T54 l bt314.1).f2⟩ : IN)), bt320.2.1, bt320.2.2)) else (none)) else (none)))) else (if bt311.1 = 1 then ((spec_l1Cur_pick.f s bt311.2.1 bt311.2.2 (l.length : Int)).bind fun bt324 => ((spec_l1Cur_pick.f s bt324.2.1 bt324.2.2 5).bind fun bt327 => (if 0 ≤ bt324.1 then (if bt324.1 < (l.length : Int) then (some ((l.set (bt324.1 : Int).toNat (⟨(rd_T54 l bt324.1).f0, (rd_T54 l bt324.1).f1, wrap64 (bt327.1 - 1)⟩ : IN)), bt327.2.1, bt327.2.2)) else (none)) else (none)))) else ((spec_l1Cur_pick.f s bt311.2.1 bt311.2.2 (l.length : Int)).bind fun bt331 => ((spec_l1Cur_of.f s bt331.2.1 bt331.2.2 (([(⟨#[]⟩ : ByteArray), (⟨#[120]⟩ : ByteArray), (⟨#[65]⟩ : ByteArray)] : List ByteArray))).bind fun bt337 => (if 0 ≤ bt331.1 then (if bt331.1 < (l.length : Int) then (some ((l.set (bt331.1 : Int).toNat (⟨(rd_T54 l bt331.1).f0, bt337.1, (rd_T54 l bt331.1).f2⟩ : IN)), bt337.2.1, bt337.2.2)) else (none)) else (none))))))) else (some (l, a1, z1))) r) → Ev (fun k => spec_l1Cur_tree.j0 k x s a z) r := fun r h => by
  refine Ev.step (fun k => by rw [spec_l1Cur_tree.j0]) ?_
  exact Ev.bind ht (ev_eq e1 h)
 cases b with
 | false => exact ⟨l, a1, z1, step _ (ev_neg (by simp) (ev_ret rfl)), by omega, by omega, hl1, hl2, by omega⟩
 | true =>
  obtain ⟨c, a2, z2, e2, c0, c1, b3, b4⟩ := pick_f hs a1 z1 3 (by omega) (by omega)
  obtain ⟨i, a3, z3, e3, i0, i1, b5, b6⟩ := pick_f hs a2 z2 (l.length : Int) (by omega) (by omega)
  have i2 := i1 (by omega)
  obtain ⟨i, rfl⟩ := Int.eq_ofNat_of_zero_le i0
  have hm := sum_mem (gt_mem izN l i (by omega))
  by_cases h3 : c = 0
  ·obtain ⟨v, a4, z4, e4, v1, b7, b8⟩ := of_f hs a3 z3 [(⟨#[]⟩ : ByteArray), (⟨#[65]⟩ : ByteArray), (⟨#[90]⟩ : ByteArray)] (by omega) (by omega) (by simp) (by simp) 1 (by
    intro x hx
    simp only [List.mem_cons, List.not_mem_nil, or_false] at hx
    rcases hx with rfl | rfl | rfl <;> decide)
   refine ⟨_, a4, z4, step _ (ev_pos rfl (ev_eq e2 (ev_pos h3 (ev_eq e3 (ev_eq e4 (ev_pos i0 (ev_pos i2 (ev_ret rfl)))))))), by omega, by omega, ?_⟩
   refine small_set hl1 hl2 hsum _ _ ?_
   rw [rd_in]
   simp only
   omega
  ·by_cases h4 : c = 1
   ·obtain ⟨v, a4, z4, e4, v0, v1, b7, b8⟩ := pick_f hs a3 z3 5 (by omega) (by omega)
    refine ⟨_, a4, z4, step _ (ev_pos rfl (ev_eq e2 (ev_neg h3 (ev_pos h4 (ev_eq e3 (ev_eq e4 (ev_pos i0 (ev_pos i2 (ev_ret rfl))))))))), by omega, by omega, ?_⟩
    refine small_set hl1 hl2 hsum _ _ ?_
    rw [rd_in]
    simp only
    omega
   ·obtain ⟨v, a4, z4, e4, v1, b7, b8⟩ := of_f hs a3 z3 [(⟨#[]⟩ : ByteArray), (⟨#[120]⟩ : ByteArray), (⟨#[65]⟩ : ByteArray)] (by omega) (by omega) (by simp) (by simp) 1 (by
     intro x hx
     simp only [List.mem_cons, List.not_mem_nil, or_false] at hx
     rcases hx with rfl | rfl | rfl <;> decide)
    refine ⟨_, a4, z4, step _ (ev_pos rfl (ev_eq e2 (ev_neg h3 (ev_neg h4 (ev_eq e3 (ev_eq e4 (ev_pos i0 (ev_pos i2 (ev_ret rfl))))))))), by omega, by omega, ?_⟩
    refine small_set hl1 hl2 hsum _ _ ?_
    rw [rd_in]
    simp only
    omega
theorem tree_f {s : List Int} (hs : Code s) : ∃ (m : List IN) (a z : Int), Ev (fun k => spec_l1Cur_tree.f k s 0 0) (m, a, z) ∧ 0 ≤ a ∧ a ≤ 2000000 ∧ SmallT m := by
 obtain ⟨t, a, z, q1, q2, q3, q4⟩ := doc_f hs 0 0 (Int.le_refl _) (by omega)
 have hgd := spec_GoodDoc_f t (by omega)
 unfold spec_l1Cur_tree.f
 by_cases hd : docB (bytesOf t) = true
 ·obtain ⟨m, a', z', r1, r2, r3, r4⟩ := tree_text hs t hd a z q2 (by omega)
  exact ⟨m, a', z', Ev.bind q1 (Ev.bind hgd (ev_pos hd r1)), r2, r3, r4⟩
 ·obtain ⟨m, a', z', r1, r2, r3, r4⟩ := tree_text hs (⟨#[65, 97, 47]⟩ : ByteArray) (by decide) a z q2 (by omega)
  exact ⟨m, a', z', Ev.bind q1 (Ev.bind hgd (ev_neg hd r1)), r2, r3, r4⟩
theorem DrawKidsOf_f {s : List Int} (hs : Code s) : ∃ (m : List IN) (k : Int), Ev (fun n => spec_DrawKidsOf.f n s) (m, k) ∧ SmallT m := by
 obtain ⟨m, a, z, q1, q2, q3, q4⟩ := tree_f hs
 obtain ⟨u, a2, z2, e, u0, u1, _, _⟩ := pick_f hs a z (wrap64 ((m.length : Int) + 2)) q2 (by omega)
 refine ⟨m, wrap64 (u - 1), ?_, q4⟩
 unfold spec_DrawKidsOf.f
 exact Ev.bind q1 (ev_eq e (ev_ret rfl))
noncomputable def hasT (l : List IN) (a : Int) : Bool := decide (0 ≤ a ∧ a < (l.length : Int)) && goodT l
theorem impl_hasNode_f (l : List IN) (hl : l.length ≤ 1048576) (hz : ∀ x ∈ l, x.f0.size ≤ 1048576 ∧ x.f1.size ≤ 1048576) (a : Int) : Ev (fun k => impl_hasNode.f k l a) (hasT l a) := by
 unfold impl_hasNode.f hasT
 refine ev_if (fun h1 => ev_if (fun h2 => ?_) (fun h2 => ev_ret ?_)) (fun h1 => ev_ret ?_)
 ·rw [decide_eq_true ⟨h1, h2⟩, Bool.true_and]
  exact Ev.bind (impl_GoodTree_f l hl hz) (ev_ret rfl)
 ·rw [decide_eq_false (fun q => h2 q.2)]; rfl
 ·rw [decide_eq_false (fun q => h1 q.1)]; rfl
theorem hasT_facts {l : List IN} {a : Int} (h : hasT l a = true) : goodT l = true ∧ ∃ k : Nat, a = (k : Int) ∧ k < l.length := by
 unfold hasT at h
 simp only [Bool.and_eq_true, decide_eq_true_eq] at h
 obtain ⟨k, rfl⟩ := Int.eq_ofNat_of_zero_le h.1.1
 exact ⟨h.2, k, rfl, by omega⟩
theorem mk_size (t : List UInt8) : (⟨t.toArray⟩ : ByteArray).size = t.length := by rw [← bts_len, bts_mk]
theorem treeOf_run (s : ByteArray) (h300 : s.size ≤ 300) (out : List IN) (up : Int) (hl : out.length ≤ 100000) (f : Nat) (rest : List Int) (hrest : Stop rest) : ∀ (u : List Int) (i : Nat), f ≤ i → i ≤ s.size → (bytesOf s).drop i = u ++ rest → (∀ c ∈ u, plainB c = true) →
  ∀ r, Ev (fun k => impl_treeOf.l0 k s (out ++ [⟨⟨#[]⟩, s.extract f (i + u.length), up⟩]) up ((i + u.length : Nat) : Int)) r → Ev (fun k => impl_treeOf.l1 k s out up (i : Int) (f : Int)) r
 | [], i, hfi, his, hd, _, r, h => by
  have hlen := bytesOf_length s
  refine Ev.step (fun k => by rw [impl_treeOf.l1]) ?_
  rw [Int.toNat_natCast, Int.toNat_natCast]
  rw [List.length_nil, Nat.add_zero] at h
  refine ev_if (fun h1 => ev_pos (by omega) (ev_eq (impl_isPlain_f _) (ev_neg ?_ (ev_pos (by omega) (ev_pos (by omega) (ev_pos (by omega) (ev_pos (by omega) h))))))) (fun h1 => ev_pos (by omega) (ev_pos (by omega) (ev_pos (by omega) (ev_pos (by omega) h))))
  rw [bt_gt]
  have hd2 : gt 0 (bytesOf s) i :: (bytesOf s).drop (i + 1) = rest := by rw [← gt_drop 0 _ i (by omega), hd]; rfl
  rw [hrest _ _ hd2.symm]; simp
 | c :: u, i, hfi, his, hd, hp, r, h => by
  have hlen := bytesOf_length s
  obtain ⟨h1, h2, h3⟩ := drop_cons hd
  refine Ev.step (fun k => by rw [impl_treeOf.l1]) ?_
  refine ev_pos (by omega) (ev_pos (by omega) (ev_eq (impl_isPlain_f _) (ev_pos (by rw [bt_gt, h2]; exact hp c (List.mem_cons_self)) ?_)))
  rw [wrap_succ i (by omega)]
  refine treeOf_run s h300 out up hl f rest hrest u (i + 1) (by omega) (by omega) h3 (fun c' hc' => hp c' (List.mem_cons_of_mem _ hc')) r ?_
  rw [List.length_cons] at h
  rw [show i + 1 + u.length = i + (u.length + 1) by omega]; exact h
/-- The program's reader of a tree over a row of parts. -/
theorem treeOf_forest (s : ByteArray) (h300 : s.size ≤ 300) : ∀ (F : Fo) (_ : F.ok) (out : List IN) (up i : Nat) (rest : List Int), (bytesOf s).drop i = nums F.text ++ rest → Stop rest → up < out.length → out.length + F.size ≤ 1000 →
  ∀ r, Ev (fun k => impl_treeOf.l0 k s (out ++ F.rows (up : Int) out.length) (up : Int) ((i + F.text.length : Nat) : Int)) r → Ev (fun k => impl_treeOf.l0 k s out (up : Int) (i : Int)) r
 | .nil, _, out, up, i, rest, _, _, _, _, r, h => by
  rw [Fo.rows, List.append_nil] at h; exact h
 | .run t F, hF, out, up, i, rest, hd, hst, hup, hol, r, h => by
  have hlen := bytesOf_length s
  obtain ⟨k1, k2, k3, k4⟩ := hF
  rw [Fo.size] at hol
  rw [Fo.text, nums_app, nums_bts, List.append_assoc] at hd
  have hi : i < s.size := by
   apply Nat.lt_of_not_le; intro hc
   have := congrArg List.length hd
   rw [List.length_drop, List.length_append, bytesOf_length, bytesOf_length] at this
   omega
  have hpl : plainB (gt 0 (bytesOf s) i) = true := by
   cases hb : bytesOf t with
   | nil => have := bytesOf_length t; rw [hb] at this; simp at this; omega
   | cons c u =>
    rw [hb, List.cons_append] at hd
    rw [(drop_cons hd).2.1]
    exact k2 c (by rw [hb]; exact List.mem_cons_self)
  have et : s.extract i (i + (bytesOf t).length) = t := bytes_inj (by rw [bytesOf_extract]; exact take_app hd)
  refine Ev.step (fun k => by rw [impl_treeOf.l0]) ?_
  refine ev_pos (by omega) (ev_pos (by omega) (ev_eq (impl_isName_f _) (ev_neg (by rw [bt_gt]; exact (plain_not hpl).1) (ev_neg (by rw [bt_gt]; exact (plain_not hpl).2) ?_))))
  refine treeOf_run s h300 out (up : Int) (by omega) i _ (Fo.stop k3 k4 hst) (bytesOf t) i (Nat.le_refl _) (by omega) hd k2 r ?_
  rw [et]
  have hn : (out ++ [(⟨⟨#[]⟩, t, (up : Int)⟩ : IN)]).length = out.length + 1 := by rw [List.length_append, List.length_singleton]
  refine treeOf_forest s h300 F k4 _ up _ rest (drop_app hd) hst (by omega) (by omega) r ?_
  rw [hn, List.append_assoc]
  rw [Fo.rows, Fo.text, List.length_append, bts_len] at h
  rw [bytesOf_length, Nat.add_assoc]; exact h
 | .el n ks F, hF, out, up, i, rest, hd, hst, hup, hol, r, h => by
  have hlen := bytesOf_length s
  obtain ⟨⟨c, hc, ho⟩, k2, k3⟩ := hF
  rw [Fo.size] at hol
  have hnl : n.size = 1 := by rw [← bytesOf_length, hc]; rfl
  rw [Fo.text, nums_app, nums_bts, nums_app, hc, List.append_assoc, List.append_assoc] at hd
  obtain ⟨h1, h2, h3⟩ := drop_cons hd
  have et : s.extract i (i + 1) = n := bytes_inj (by rw [bytesOf_extract, hc]; exact take_app (a := [c]) hd)
  have h4 : (bytesOf s).drop (i + 1) = nums ks.text ++ (47 :: (nums F.text ++ rest)) := h3
  have h5 := drop_app h4
  rw [nums_len] at h5
  obtain ⟨h6, h7, h8⟩ := drop_cons h5
  have hn : (out ++ [(⟨n, ⟨#[]⟩, (up : Int)⟩ : IN)]).length = out.length + 1 := by rw [List.length_append, List.length_singleton]
  refine Ev.step (fun k => by rw [impl_treeOf.l0]) ?_
  rw [wrap_succ i (by omega)]
  refine ev_pos (by omega) (ev_pos (by omega) (ev_eq (impl_isName_f _) (ev_pos (by rw [bt_gt, h2]; exact ho) (ev_pos (by omega) (ev_pos (by omega) (ev_pos (by omega) (ev_eq rfl ?_)))))))
  rw [Int.toNat_natCast, Int.toNat_natCast, et]
  show Ev (fun k => impl_treeOf.l0 k s (out ++ [(⟨n, ⟨#[]⟩, (up : Int)⟩ : IN)]) (wrap64 (((out ++ [(⟨n, ⟨#[]⟩, (up : Int)⟩ : IN)]).length : Int) - 1)) ((i + 1 : Nat) : Int)) r
  rw [hn, show wrap64 (((out.length + 1 : Nat) : Int) - 1) = (out.length : Int) by rw [wrap_id (by omega) (by omega)]; omega]
  refine treeOf_forest s h300 ks k2 _ out.length (i + 1) _ h4 (stop47 _) (by omega) (by omega) r ?_
  rw [hn]
  have hln : ((out ++ [(⟨n, ⟨#[]⟩, (up : Int)⟩ : IN)]) ++ ks.rows (out.length : Int) (out.length + 1)).length = out.length + 1 + ks.size := by rw [List.length_append, hn, Fo.rows_len]
  have e1 : gt izN ((out ++ [(⟨n, ⟨#[]⟩, (up : Int)⟩ : IN)]) ++ ks.rows (out.length : Int) (out.length + 1)) out.length = ⟨n, ⟨#[]⟩, (up : Int)⟩ := by
   rw [gt_app_l _ _ _ _ (by omega), gt_app_e]
  refine Ev.step (fun k => by rw [impl_treeOf.l0]) ?_
  refine ev_pos (by omega) (ev_pos (by omega) (ev_eq (impl_isName_f _) (ev_neg (by rw [bt_gt, h7]; decide) (ev_pos (by rw [bt_gt, h7]) (ev_pos (by omega) (ev_pos (by omega) ?_))))))
  rw [wrap_succ _ (by omega)]
  simp only [rd_in]
  rw [e1]
  refine treeOf_forest s h300 F k3 _ up _ rest h8 hst (by omega) (by omega) r ?_
  rw [hln]
  rw [Fo.rows, Fo.text, List.length_append, List.length_append, List.length_cons, bts_len, hnl] at h
  rw [List.append_assoc, List.append_assoc]
  rw [show i + 1 + ks.text.length + 1 + F.text.length = i + (1 + (ks.text.length + (F.text.length + 1))) by omega]
  exact h
/-- A text's tree, by its parts. -/
theorem tree_forest (s : ByteArray) (h300 : s.size ≤ 300) (F : Fo) (hF : F.ok) (ht : F.text = bts s) : Ev (fun k => impl_treeOf.f k s) (⟨⟨#[]⟩, ⟨#[]⟩, -1⟩ :: F.rows 0 1) := by
 have hlen := bytesOf_length s
 have hsz := F.size_le hF
 rw [ht, bts_len] at hsz
 unfold impl_treeOf.f
 refine treeOf_forest s h300 F hF [⟨⟨#[]⟩, ⟨#[]⟩, -1⟩] 0 0 [] (by rw [List.drop_zero, List.append_nil, ht, nums_bts]) (fun c r h => by cases h) (by simp) (by rw [List.length_singleton]; omega) _ ?_
 refine Ev.step (fun k => by rw [impl_treeOf.l0]) ?_
 refine ev_neg (by rw [ht, bts_len]; omega) (ev_ret rfl)
theorem KT_add (T : Nat → List UInt8) (l : List IN) (k : Int) (d2 : Nat) : ∀ (d1 i : Nat), KT T l k (d1 + d2) i = KT T l k d1 i ++ KT T l k d2 (i + d1)
 | 0, i => by rw [Nat.zero_add, Nat.add_zero]; rfl
 | d1 + 1, i => by
  rw [show d1 + 1 + d2 = (d1 + d2) + 1 by omega, KT, KT, KT_add T l k d2 d1 (i + 1), show i + 1 + d1 = i + (d1 + 1) by omega]
  split
  ·rw [List.append_assoc]
  ·rfl
theorem KT_none (T : Nat → List UInt8) (l : List IN) (k : Int) : ∀ (d i : Nat), (∀ j, i ≤ j → j < i + d → (gt izN l j).f2 ≠ k) → KT T l k d i = []
 | 0, _, _ => rfl
 | d + 1, i, h => by rw [KT, if_neg (h i (Nat.le_refl _) (by omega)), KT_none T l k d (i + 1) (fun j h1 h2 => h j (by omega) (by omega))]
theorem begin_l (l : List IN) (ha : Ahead l) (hl : l.length ≤ 301) (hs : (l.map (fun x => x.f0.size + x.f1.size)).sum ≤ 300) (u k : Nat) (hk : k < l.length) (hu : (gt izN l k).f2 = (u : Int)) (ks : List Int) (hks : ks.length ≤ 1000) (d : Nat) :
  ∀ (i : Nat) (A : List Int) (acc : Nat), i + d = l.length → ks = A ++ kidsL l (u : Int) d i → i ≤ k → acc + d * 601 ≤ 1000000 → Ev (fun n => spec_l2Begin.l0 n l (k : Int) (acc : Int) ks (ks.length : Int) (A.length : Int)) ((acc + (KT (TT l) l (u : Int) (k - i) i).length : Nat) : Int) := by
 induction d with
 | zero => intro i A acc hi _ hik; omega
 | succ d ih =>
  intro i A acc hi he hik hacc
  rw [kidsL] at he
  by_cases c : (gt izN l i).f2 = (u : Int)
  ·rw [if_pos c] at he
   have hkl : ks.length = A.length + 1 + (kidsL l (u : Int) d (i + 1)).length := by rw [he, List.length_append, List.length_cons]; omega
   have hr : rd ks (A.length : Int) = (i : Int) := by
    show gt (0 : Int) ks A.length = _
    rw [he, gt_appR _ _ _ _ (Nat.le_refl _), Nat.sub_self]; rfl
   by_cases e : i = k
   ·subst e
    refine Ev.step (fun n => by rw [spec_l2Begin.l0]) ?_
    rw [hr, Nat.sub_self]
    exact ev_pos (by omega) (ev_pos (by omega) (ev_pos (by omega) (ev_pos rfl (ev_ret rfl))))
   ·have hT := TT_small ha hl hs i (by omega)
    have hfl := spec_l2Flat_g l ha (by omega) (by omega) i (by omega)
    have ih' := ih (i + 1) (A ++ [(i : Int)]) (acc + (TT l i).length) (by omega) (by rw [he, List.append_assoc]; rfl) (by omega) (by omega)
    rw [List.length_append, List.length_singleton] at ih'
    refine Ev.step (fun n => by rw [spec_l2Begin.l0]) ?_
    rw [hr, wrap_succ _ (by omega)]
    refine ev_pos (by omega) (ev_pos (by omega) (ev_pos (by omega) (ev_neg (by omega) (Ev.bind hfl ?_))))
    rw [mk_size, wrap_id (by omega) (by omega)]
    have e2 : KT (TT l) l (u : Int) (k - i) i = TT l i ++ KT (TT l) l (u : Int) (k - (i + 1)) (i + 1) := by
     rw [show k - i = (k - (i + 1)) + 1 by omega, KT, if_pos c]
    rw [e2, List.length_append]
    have e3 : ((acc : Int) + ((TT l i).length : Int)) = ((acc + (TT l i).length : Nat) : Int) := by omega
    rw [e3, ← Nat.add_assoc]
    exact ih'
  ·rw [if_neg c] at he
   have e : ¬ i = k := fun q => c (by rw [q]; exact hu)
   have hk1 : i + 1 ≤ k := Nat.lt_of_le_of_ne hik e
   have ih' := ih (i + 1) A acc (by omega) he hk1 (Nat.le_trans (Nat.add_le_add_left (Nat.mul_le_mul_right 601 (Nat.le_succ d)) acc) hacc)
   rw [show k - i = (k - (i + 1)) + 1 by omega, KT, if_neg c]
   exact ih'
theorem begin_f (l : List IN) (ha : Ahead l) (hl : l.length ≤ 301) (hs : (l.map (fun x => x.f0.size + x.f1.size)).sum ≤ 300) (u k : Nat) (hk : k < l.length) (h1 : 1 ≤ k) (hu : (gt izN l k).f2 = (u : Int)) (b : Nat) (hb : b ≤ 500000) (hB : Ev (fun n => spec_l2Begin.f n l (u : Int)) (b : Int)) :
  Ev (fun n => spec_l2Begin.f n l (k : Int)) ((b + (if bts (gt izN l u).f0 = [] then 0 else 1) + (KT (TT l) l (u : Int) (k - (u + 1)) (u + 1)).length : Nat) : Int) := by
 have hu2 := ha k hk
 rw [hu] at hu2
 have j0 : ∀ x : Nat, x ≤ 600000 → Ev (fun n => spec_l2Begin.j0 n l (k : Int) (x : Int)) ((x + (KT (TT l) l (u : Int) (k - (u + 1)) (u + 1)).length : Nat) : Int) := by
  intro x hx
  refine Ev.step (fun n => by rw [spec_l2Begin.j0]) ?_
  rw [rd_in, hu]
  refine ev_pos (by omega) (ev_pos (by omega) (Ev.bind (spec_l2Kids_f l (by omega) u (by omega)) ?_))
  have hkl := kidsL_len l (u : Int) (l.length - (u + 1)) (u + 1)
  exact begin_l l ha hl hs u k hk hu _ (by omega) (l.length - (u + 1)) (u + 1) [] x (by omega) rfl (by omega) (by omega)
 refine Ev.step (fun n => by rw [spec_l2Begin.f]) ?_
 rw [rd_in, hu, rd_in, tl_bts]
 refine ev_neg (by omega) (ev_pos (by omega) (ev_pos (by omega) (Ev.bind hB (ev_pos (by omega) (ev_pos (by omega) (ev_if (fun c => ?_) (fun c => ?_)))))))
 ·rw [if_pos c]; exact j0 b (by omega)
 ·rw [if_neg c, wrap_succ b (by omega)]; exact j0 (b + 1) (by omega)
theorem plain_fold : ∀ (l : List Int) (d : Int), (∀ c ∈ l, plainB c = true) → l.foldl stepD d = d
 | [], _, _ => rfl
 | c :: r, d, h => by
  have hc := plain_not (h c List.mem_cons_self)
  rw [List.foldl_cons, step_plain hc.1 hc.2, plain_fold r d (fun c' hc' => h c' (List.mem_cons_of_mem _ hc'))]
theorem forest_fold : ∀ (F : Fo) (_ : F.ok) (d : Int), (nums F.text).foldl stepD d = d
 | .nil, _, _ => rfl
 | .run t r, h, d => by rw [Fo.text, nums_app, nums_bts, List.foldl_append, plain_fold _ _ h.2.1, forest_fold r h.2.2.2]
 | .el n ks r, h, d => by
  obtain ⟨⟨c, hc, ho⟩, k2, k3⟩ := h
  have e : nums (47 :: r.text) = 47 :: nums r.text := rfl
  rw [Fo.text, nums_app, nums_app, nums_bts, hc, e, List.foldl_append, List.foldl_append, List.foldl_cons, List.foldl_cons, List.foldl_nil, step_open ho, forest_fold ks k2, step_shut rfl, forest_fold r k3]
  omega
theorem wrF_el {l : List IN} {n : ByteArray} {ks r : Fo} {up : Int} {a : Nat} (hk : (Fo.el n ks r).ok) (h : Lies l (.el n ks r) up a) (away : Int) (f : Nat) (hf : ks.size ≤ f) : wrF l away (f + 1) (a : Int) = some (if (a : Int) = away then [] else bts n ++ (ks.textA (a + 1) away ++ [47])) := by
 have hl := h.len
 rw [Fo.size] at hl
 have ih1 := wrKids_forest l away ks hk.2.1 (a : Int) (a + 1) h.kids f hf
 rw [wrF]
 by_cases hw : (a : Int) = away
 ·rw [if_pos hw, if_pos hw]
 ·have e : l.length - (a + 1) = ks.size + (l.length - (a + 1) - ks.size) := by omega
  rw [if_neg hw, if_neg hw, if_pos ⟨by omega, by omega⟩, Int.toNat_natCast, e, wrKids_add, ih1, wrKids_none _ _ _ _ _ (fun j h1 h2 => h.el_none j h1 (by omega)), rd_in, h.head_el]
  simp only [Option.bind_some, tl_bts, app_e1]
  rw [if_neg (name_bts (name_len hk.1)), List.append_nil]
theorem TT_run {l : List IN} (ha : Ahead l) {t : ByteArray} {r : Fo} {up : Int} {a : Nat} (h : Lies l (.run t r) up a) : TT l a = bts t := by
 have hl := h.len
 rw [Fo.size] at hl
 have h1 := TT_wr l ha a (by omega)
 have h2 := wrF_run h (-1) (l.length - a - 1)
 rw [show l.length - a - 1 + 1 = l.length - a by omega, if_neg (by omega)] at h2
 exact Option.some.inj (h1.symm.trans h2)
theorem TT_el {l : List IN} (ha : Ahead l) {n : ByteArray} {ks r : Fo} {up : Int} {a : Nat} (hk : (Fo.el n ks r).ok) (h : Lies l (.el n ks r) up a) : TT l a = bts n ++ (ks.text ++ [47]) := by
 have hl := h.len
 rw [Fo.size] at hl
 have h1 := TT_wr l ha a (by omega)
 have h2 := wrF_el hk h (-1) (l.length - a - 1) (by omega)
 rw [show l.length - a - 1 + 1 = l.length - a by omega, if_neg (by omega), ks.textA_out _ _ (.inl (by omega))] at h2
 exact Option.some.inj (h1.symm.trans h2)
/-- A node of a row of parts, its text and where it begins. -/
theorem cut_forest (l : List IN) (ha : Ahead l) (hl : l.length ≤ 301) (hs : (l.map (fun x => x.f0.size + x.f1.size)).sum ≤ 300) : ∀ (F : Fo) (_ : F.ok) (u a : Nat), Lies l F (u : Int) a → ∀ k, a ≤ k → k < a + F.size → ∀ (b : Nat), b + (KT (TT l) l (u : Int) (a - (u + 1)) (u + 1)).length + F.text.length ≤ 400000 → Ev (fun n => spec_l2Begin.f n l (u : Int)) (b : Int) →
  ∃ pre post : List UInt8, F.text = pre ++ TT l k ++ post ∧ F.textA a (k : Int) = pre ++ post ∧ (∀ d, (nums (TT l k)).foldl stepD d = d) ∧
   Ev (fun n => spec_l2Begin.f n l (k : Int)) ((b + (if bts (gt izN l u).f0 = [] then 0 else 1) + (KT (TT l) l (u : Int) (a - (u + 1)) (u + 1)).length + pre.length : Nat) : Int)
 | .nil, _, u, a, h, k, h1, h2, b, hb, hB => by rw [Fo.size] at h2; omega
 | .run t r, hk, u, a, h, k, h1, h2, b, hb, hB => by
  have hT := TT_run ha h
  have hua := h.up_
  have hlen := h.len
  rw [Fo.size] at h2 hlen
  have hh := h.head_run
  rw [Fo.text, List.length_append] at hb
  by_cases c : k = a
  ·subst c
   refine ⟨[], r.text, by rw [hT, Fo.text]; rfl, ?_, ?_, ?_⟩
   ·rw [Fo.textA, if_pos rfl, r.textA_out _ _ (.inl (by omega))]
   ·intro d; rw [hT, nums_bts]; exact plain_fold _ _ hk.2.1
   ·rw [List.length_nil, Nat.add_zero]
    exact begin_f l ha hl hs u k (by omega) (by omega) (by rw [hh]) b (by omega) hB
  ·have eQ : KT (TT l) l (u : Int) (a + 1 - (u + 1)) (u + 1) = KT (TT l) l (u : Int) (a - (u + 1)) (u + 1) ++ TT l a := by
    rw [show a + 1 - (u + 1) = (a - (u + 1)) + 1 by omega, KT_add, show u + 1 + (a - (u + 1)) = a by omega, KT, KT, if_pos (by rw [hh]), List.append_nil]
   obtain ⟨pre, post, p1, p2, p3, p4⟩ := cut_forest l ha hl hs r hk.2.2.2 u (a + 1) h.next_run k (by omega) (by omega) b (by rw [eQ, List.length_append, hT]; omega) hB
   refine ⟨bts t ++ pre, post, ?_, ?_, p3, ?_⟩
   ·rw [Fo.text, p1]; simp only [List.append_assoc]
   ·rw [Fo.textA, if_neg (by omega), p2, List.append_assoc]
   ·rw [eQ, List.length_append, hT] at p4
    rw [List.length_append]
    refine ev_val p4 ?_
    omega
 | .el n ks r, hk, u, a, h, k, h1, h2, b, hb, hB => by
  have hT := TT_el ha hk h
  have hua := h.up_
  have hlen := h.len
  rw [Fo.size] at h2 hlen
  have hh := h.head_el
  have hn := name_len hk.1
  rw [Fo.text, List.length_append, List.length_append, List.length_cons, bts_len] at hb
  have hBa := begin_f l ha hl hs u a (by omega) (by omega) (by rw [hh]) b (by omega) hB
  have hif : (if bts (gt izN l u).f0 = [] then 0 else 1 : Nat) ≤ 1 := by split <;> omega
  by_cases c : k = a
  ·subst c
   refine ⟨[], r.text, by rw [hT, Fo.text]; simp, ?_, ?_, ?_⟩
   ·rw [Fo.textA, if_pos rfl, r.textA_out _ _ (.inl (by omega))]
   ·intro d
    obtain ⟨⟨c, hc, ho⟩, k2, k3⟩ := hk
    have e : nums [47] = [47] := rfl
    have e1 : ∀ x : Int, [c].foldl stepD x = stepD x c := fun _ => rfl
    have e2 : ∀ x : Int, [47].foldl stepD x = stepD x 47 := fun _ => rfl
    rw [hT, nums_app, nums_app, nums_bts, hc, e, List.foldl_append, List.foldl_append, e1, e2, step_open ho, forest_fold ks k2, step_shut rfl]; omega
   ·rw [List.length_nil, Nat.add_zero]; exact hBa
  ·by_cases c2 : k < a + 1 + ks.size
   ·have e0 : KT (TT l) l (a : Int) (a + 1 - (a + 1)) (a + 1) = [] := by rw [Nat.sub_self]; rfl
    obtain ⟨pre, post, p1, p2, p3, p4⟩ := cut_forest l ha hl hs ks hk.2.1 a (a + 1) h.kids k (by omega) c2 _ (by rw [e0, List.length_nil]; omega) hBa
    rw [e0, List.length_nil, hh, if_neg (name_bts hn)] at p4
    refine ⟨bts n ++ pre, post ++ 47 :: r.text, ?_, ?_, p3, ?_⟩
    ·rw [Fo.text, p1]; simp only [List.append_assoc]
    ·rw [Fo.textA, if_neg (by omega), p2, r.textA_out _ _ (.inl (by omega))]
     simp only [List.append_assoc, List.cons_append, List.nil_append]
    ·rw [List.length_append, bts_len]
     refine ev_val p4 ?_
     omega
   ·have eQ : KT (TT l) l (u : Int) (a + 1 + ks.size - (u + 1)) (u + 1) = KT (TT l) l (u : Int) (a - (u + 1)) (u + 1) ++ TT l a := by
     rw [show a + 1 + ks.size - (u + 1) = (a - (u + 1)) + (ks.size + 1) by omega, KT_add, show u + 1 + (a - (u + 1)) = a by omega, KT, if_pos (by rw [hh]), KT_none _ _ _ _ _ (fun j h3 h4 => h.kids_not j h3 (by omega)), List.append_nil]
    have hTl : (TT l a).length = n.size + (ks.text.length + 1) := by rw [hT, List.length_append, List.length_append, List.length_singleton, bts_len]
    obtain ⟨pre, post, p1, p2, p3, p4⟩ := cut_forest l ha hl hs r hk.2.2 u (a + 1 + ks.size) h.next_el k (by omega) (by omega) b (by rw [eQ, List.length_append, hTl]; omega) hB
    refine ⟨bts n ++ (ks.text ++ 47 :: pre), post, ?_, ?_, p3, ?_⟩
    ·rw [Fo.text, p1]; simp only [List.append_assoc, List.cons_append]
    ·rw [Fo.textA, if_neg (by omega), p2, ks.textA_out _ _ (.inr (by omega))]
     simp only [List.append_assoc, List.cons_append, List.nil_append]
    ·rw [eQ, List.length_append, hTl] at p4
     rw [List.length_append, List.length_append, List.length_cons, bts_len]
     refine ev_val p4 ?_
     omega
theorem doc_cut {p s q : List Int} (h : docB (p ++ s ++ q) = true) (hs : ∀ d, s.foldl stepD d = d) : docB (p ++ q) = true := by
 unfold docB goodB textB at h ⊢
 simp only [Bool.and_eq_true, decide_eq_true_eq, List.all_append, List.length_append] at h ⊢
 obtain ⟨⟨⟨⟨h1, h2⟩, h3⟩, h4⟩, h5⟩ := h
 refine ⟨⟨⟨h1, h3⟩, by omega⟩, ?_⟩
 obtain ⟨b1, b2⟩ := balF_to _ 0 (Int.le_refl _) (by decide) h5
 rw [List.foldl_append, List.foldl_append, hs] at b2
 refine balF_of _ 0 (fun j hj => ?_) (by rw [List.foldl_append]; exact b2)
 rw [List.length_append] at hj
 by_cases c : j ≤ p.length
 ·have := b1 j (by rw [List.length_append, List.length_append]; omega)
  rw [List.append_assoc, List.take_append_of_le_length c] at this
  rw [List.take_append_of_le_length c]; exact this
 ·have := b1 (j + s.length) (by rw [List.length_append, List.length_append]; omega)
  rw [List.take_append, List.take_of_length_le (by rw [List.length_append]; omega), List.length_append, show j + s.length - (p.length + s.length) = j - p.length by omega, List.foldl_append, List.foldl_append, hs] at this
  rw [List.take_append, List.take_of_length_le (by omega), List.foldl_append]; exact this
theorem bts_extract (s : ByteArray) (a b : Nat) : bts (s.extract a b) = ((bts s).take b).drop a := by
 apply nums_inj
 rw [nums_bts, bytesOf_extract]
 unfold nums bts bytesOf
 rw [List.map_drop, List.map_take]
theorem begin_0 (l : List IN) : Ev (fun n => spec_l2Begin.f n l ((0 : Nat) : Int)) ((0 : Nat) : Int) := by
 refine Ev.step (fun n => by rw [spec_l2Begin.f]) ?_
 exact ev_pos (by omega) (ev_ret rfl)
/-- What a tree less a node is: a document, by both. -/
theorem cut_text {F : Fo} (hF : F.ok) (ht : F.text.length ≤ 300) (hd : docB (nums F.text) = true) (hs : ((root :: F.rows 0 1).map (fun x => x.f0.size + x.f1.size)).sum ≤ 300) (k : Nat) (h1 : 1 ≤ k) (hk : k < F.size + 1) :
  ∃ pre post : List UInt8, F.text = pre ++ TT (root :: F.rows 0 1) k ++ post ∧ F.textA 1 (k : Int) = pre ++ post ∧ docB (nums (pre ++ post)) = true ∧ Ev (fun n => spec_l2Begin.f n (root :: F.rows 0 1) (k : Int)) (pre.length : Int) := by
 have hl : (root :: F.rows 0 1).length = F.size + 1 := by rw [List.length_cons, F.rows_len]
 have hz := F.size_le hF
 have e0 : KT (TT (root :: F.rows 0 1)) (root :: F.rows 0 1) ((0 : Nat) : Int) (1 - (0 + 1)) (0 + 1) = [] := rfl
 obtain ⟨pre, post, p1, p2, p3, p4⟩ := cut_forest _ (forest_ahead F) (by omega) hs F hF 0 1 (lies_root F) k h1 (by omega) 0 (by rw [e0, List.length_nil]; omega) (begin_0 _)
 rw [e0, List.length_nil, gt_cons0, if_pos (show bts root.f0 = [] from rfl)] at p4
 refine ⟨pre, post, p1, p2, ?_, ev_val p4 (by omega)⟩
 rw [p1, nums_app, nums_app] at hd
 rw [nums_app]
 exact doc_cut hd p3
/-- A tree of a document less a node, by both. -/
theorem CutNode_yes {l : List IN} (hg : goodT l = true) (k : Nat) (h1 : 1 ≤ k) (hk : k < l.length) :
  ∃ F' : Fo, F'.ok ∧ F'.text.length + (TT l k).length = (TT l 0).length ∧ F'.text.length ≤ 300 ∧ docB (nums F'.text) = true ∧ Ev (fun n => spec_CutNode.j0 n l (k : Int) false) (root :: F'.rows 0 1, true) ∧ Ev (fun n => impl_CutNode.j0 n l (k : Int) false) (root :: F'.rows 0 1, true) := by
 obtain ⟨F, f1, f2, f3, f4, f5, f6, f7, f8⟩ := good_facts hg
 have hl : l.length ≤ 1048576 := by omega
 have hs : (l.map (fun x => x.f0.size + x.f1.size)).sum ≤ 1048576 := by omega
 subst f2
 obtain ⟨pre, post, p1, p2, p3, p4⟩ := cut_text f1 f3 f4 f8 k h1 (by omega)
 have hlen := congrArg List.length p1
 rw [List.length_append, List.length_append] at hlen
 have hfl := flat_forest F f1 (by omega) (k : Int) (by omega) (by rw [p2, List.length_append]; omega)
 rw [p2] at hfl
 have hd : docB (bytesOf ⟨(pre ++ post).toArray⟩) = true := by rw [bytesOf_mk]; exact p3
 obtain ⟨F', g1, g2⟩ := doc_forest _ hd
 have h300 := doc_len hd
 have r2 := spec_tree_forest _ h300 F' g1 g2
 have r3 := tree_forest _ h300 F' g1 g2
 rw [bts_mk] at g2
 refine ⟨F', g1, by rw [TT_root F f1, g2, List.length_append]; omega, by rw [g2, List.length_append]; omega, by rw [g2]; exact p3, ?_, ?_⟩
 ·refine Ev.step (fun k => by rw [spec_CutNode.j0]) ?_
  refine ev_neg (by simp) (Ev.bind (spec_l2Flat_g _ f7 hl hs 0 (by omega)) (Ev.bind p4 ?_))
  rw [TT_root F f1]
  refine ev_pos (by omega) (ev_pos (by rw [mk_size]; omega) (Ev.bind (spec_l2Flat_g _ f7 hl hs k (by omega)) ?_))
  rw [mk_size, mk_size, wrap_id (by omega) (by omega)]
  have e3 : ((pre.length : Int) + ((TT (root :: F.rows 0 1) k).length : Int)) = ((pre.length + (TT (root :: F.rows 0 1) k).length : Nat) : Int) := by omega
  rw [e3, Int.toNat_natCast, Int.toNat_natCast]
  have e4 : (⟨F.text.toArray⟩ : ByteArray).extract 0 pre.length ++ (⟨F.text.toArray⟩ : ByteArray).extract (pre.length + (TT (root :: F.rows 0 1) k).length) F.text.length = ⟨(pre ++ post).toArray⟩ := by
   apply bts_inj
   rw [bts_app, bts_extract, bts_extract, bts_mk F.text, bts_mk (pre ++ post), List.drop_zero, List.take_of_length_le (Nat.le_refl _)]
   rw [p1, List.append_assoc, List.take_left, ← List.append_assoc, ← List.length_append, List.drop_left]
  refine ev_pos (by omega) (ev_pos (by omega) (ev_pos ?_ ?_))
  ·rw [← ByteArray.size_append, e4, mk_size, List.length_append]; omega
  ·rw [e4]; exact Ev.bind r2 (ev_ret rfl)
 ·refine Ev.step (fun k => by rw [impl_CutNode.j0]) ?_
  exact ev_neg (by simp) (Ev.bind hfl (Ev.bind r3 (ev_ret rfl)))
/-- What a cut tells. -/
def CutTells (l : List IN) (a : Int) (r : List IN × Bool) : Prop := r = ([], false) ∨ ∃ (F' : Fo) (k : Nat), a = (k : Int) ∧ k < l.length ∧ goodT l = true ∧ F'.ok ∧ F'.text.length + (TT l k).length = (TT l 0).length ∧ F'.text.length ≤ 300 ∧ docB (nums F'.text) = true ∧ r = (root :: F'.rows 0 1, true)
theorem CutNode_f (l : List IN) (hl : l.length ≤ 1048576) (hz : ∀ x ∈ l, x.f0.size ≤ 1048576 ∧ x.f1.size ≤ 1048576) (hs : (l.map (fun x => x.f0.size + x.f1.size)).sum ≤ 1048576) (a : Int) : ∃ r : List IN × Bool, r.1.length ≤ 301 ∧ Ev (fun k => spec_CutNode.f k l a) r ∧ Ev (fun k => impl_CutNode.f k l a) r ∧ CutTells l a r := by
 have sj : Ev (fun k => spec_CutNode.j0 k l a true) ([], false) := Ev.step (fun k => by rw [spec_CutNode.j0]) (ev_pos rfl (ev_ret rfl))
 have ij : Ev (fun k => impl_CutNode.j0 k l a true) ([], false) := Ev.step (fun k => by rw [impl_CutNode.j0]) (ev_pos rfl (ev_ret rfl))
 unfold spec_CutNode.f impl_CutNode.f
 by_cases hg : goodT l = true
 ·obtain ⟨F, f1, f2, f3, f4, f5, f6, f7, f8⟩ := good_facts hg
  have hgs := spec_GoodTree_f l hl hs
  rw [hg] at hgs
  have hgi := impl_hasNode_f l hl hz a
  by_cases hk : 1 ≤ a ∧ a < (l.length : Int)
  ·obtain ⟨k, rfl⟩ := Int.eq_ofNat_of_zero_le (show 0 ≤ a by omega)
   have e1 : hasT l (k : Int) = true := by unfold hasT; rw [hg, decide_eq_true ⟨by omega, hk.2⟩]; rfl
   rw [e1] at hgi
   obtain ⟨F', g1, g2, g3, g4, g5, g6⟩ := CutNode_yes hg k (by omega) (by omega)
   have g7 := F'.size_le g1
   refine ⟨(root :: F'.rows 0 1, true), by show (root :: F'.rows 0 1).length ≤ 301; rw [List.length_cons, F'.rows_len]; omega, ?_, ?_, .inr ⟨F', k, rfl, by omega, hg, g1, g2, g3, g4, rfl⟩⟩
   ·refine Ev.bind hgs (ev_pos rfl (ev_eq (spec_l1In_f _ _ _) ?_))
    rw [wrap_id (by omega) (by omega), decide_eq_true (show (1 : Int) ≤ (k : Int) ∧ (k : Int) ≤ (l.length : Int) - 1 by omega)]
    exact g5
   ·refine Ev.bind hgi (ev_pos rfl ?_)
    rw [beq_eq_false_iff_ne.2 (show (k : Int) ≠ 0 by omega)]
    exact g6
  ·refine ⟨([], false), Nat.zero_le _, ?_, ?_, .inl rfl⟩
   ·refine Ev.bind hgs (ev_pos rfl (ev_eq (spec_l1In_f _ _ _) ?_))
    rw [wrap_id (by omega) (by omega), decide_eq_false (by omega)]
    exact sj
   ·refine Ev.bind hgi (ev_if (fun h => ?_) (fun _ => ij))
    obtain ⟨_, k, rfl, hk2⟩ := hasT_facts h
    have : k = 0 := by omega
    subst this
    exact ij
 ·rw [Bool.not_eq_true] at hg
  have hgs := spec_GoodTree_f l hl hs
  have hgi := impl_hasNode_f l hl hz a
  have e1 : hasT l a = false := by unfold hasT; rw [hg, Bool.and_false]
  rw [hg] at hgs
  rw [e1] at hgi
  exact ⟨([], false), Nat.zero_le _, Ev.bind hgs (ev_neg (by simp) sj), Ev.bind hgi (ev_neg (by simp) ij), .inl rfl⟩
noncomputable def sizeR (l : List IN) (a : Int) : Int × Bool := if hasT l a = true then (((TT l a.toNat).length : Int), true) else (0, false)
theorem impl_SizeOf_f (l : List IN) (hl : l.length ≤ 1048576) (hz : ∀ x ∈ l, x.f0.size ≤ 1048576 ∧ x.f1.size ≤ 1048576) (a : Int) : Ev (fun k => impl_SizeOf.f k l a) (sizeR l a) := by
 unfold impl_SizeOf.f sizeR
 refine Ev.bind (impl_hasNode_f l hl hz a) (ev_if (fun h => ?_) (fun h => ?_))
 ·obtain ⟨hg, k, rfl, hk⟩ := hasT_facts h
  obtain ⟨F, f1, f2, f3, f4, f5, f6, f7, f8⟩ := good_facts hg
  rw [if_pos h, Int.toNat_natCast]
  refine Ev.bind (impl_flat_node f7 (by omega) f8 k hk) (ev_ret ?_)
  rw [mk_size]
 ·rw [if_neg h]; exact ev_ret rfl
/-- The elements around a place, from without to within. -/
structure St (l : List Int) (i : Nat) (o : List Int) : Prop where
 deep : (o.length : Int) = D l i
 stack : ∀ j, j < o.length → ∃ pn : Nat, gt 0 o j = (pn : Int) ∧ pn < i ∧ openB (gt 0 l pn) = true ∧ D l pn = (j : Int) ∧ ∀ x, pn < x → x ≤ i → (j : Int) < D l x
theorem St.zero (l : List Int) : St l 0 [] := ⟨by simp [D_zero], fun j h => by simp at h⟩
theorem St.open_ {l : List Int} {i : Nat} {o : List Int} (hv : St l i o) (hi : i < l.length) (ho : openB (gt 0 l i) = true) : St l (i + 1) (o ++ [(i : Int)]) := by
 have hD := D_succ l i hi
 have hdeep := hv.deep
 rw [step_open ho] at hD
 refine ⟨by rw [hD, List.length_append, List.length_singleton]; omega, fun j hj => ?_⟩
 by_cases hj2 : j < o.length
 ·obtain ⟨pn, e1, e2, e3, e4, e5⟩ := hv.stack j hj2
  refine ⟨pn, by rw [gt_app_l _ _ _ _ hj2]; exact e1, by omega, e3, e4, fun x hx hx2 => ?_⟩
  by_cases hx3 : x ≤ i
  ·exact e5 x hx hx3
  ·have : x = i + 1 := by omega
   subst this; rw [hD]; omega
 ·have hj3 : j = o.length := by rw [List.length_append, List.length_singleton] at hj; omega
  subst hj3
  refine ⟨i, gt_app_e _ _ _, by omega, ho, by omega, fun x hx hx2 => ?_⟩
  have : x = i + 1 := by omega
  subst this; rw [hD]; omega
theorem St.shut {l : List Int} {i : Nat} {o : List Int} (hv : St l i o) (hi : i < l.length) (h2 : gt 0 l i = 47) (hn : 0 ≤ D l (i + 1)) : St l (i + 1) (o.take (o.length - 1)) := by
 have hD := D_succ l i hi
 have hdeep := hv.deep
 rw [step_shut h2] at hD
 refine ⟨by rw [hD, List.length_take]; omega, fun j hj => ?_⟩
 have hj2 : j < o.length - 1 := by rw [List.length_take] at hj; omega
 obtain ⟨qn, f1, f2, f3, f4, f5⟩ := hv.stack j (by omega)
 refine ⟨qn, by rw [gt_takeL _ _ _ _ hj2]; exact f1, by omega, f3, f4, fun x hx hx2 => ?_⟩
 by_cases hx3 : x ≤ i
 ·exact f5 x hx hx3
 ·have : x = i + 1 := by omega
  subst this; rw [hD]; omega
theorem St.plain {l : List Int} {i : Nat} {o : List Int} (hv : St l i o) (hi : i < l.length) (h1 : ¬ openB (gt 0 l i) = true) (h2 : ¬ gt 0 l i = 47) : St l (i + 1) o := by
 have hD := D_succ l i hi
 have hdeep := hv.deep
 rw [step_plain h1 h2] at hD
 refine ⟨by omega, fun j hj => ?_⟩
 obtain ⟨pn, e1, e2, e3, e4, e5⟩ := hv.stack j hj
 refine ⟨pn, e1, by omega, e3, e4, fun x hx hx2 => ?_⟩
 by_cases hx3 : x ≤ i
 ·exact e5 x hx hx3
 ·have : x = i + 1 := by omega
  subst this; rw [hD]; omega
theorem impl_around_st (s : ByteArray) (hs : s.size ≤ 300) (hn : ∀ j, j ≤ s.size → 0 ≤ D (bytesOf s) j) (a : Nat) (ha : a ≤ s.size) (d : Nat) : ∀ (i : Nat) (o : List Int), i + d = a → St (bytesOf s) i o →
  ∃ r : List Int, Ev (fun k => impl_around.l0 k s o (a : Int) (i : Int)) r ∧ St (bytesOf s) a r := by
 have hlen := bytesOf_length s
 induction d with
 | zero =>
  intro i o hi ho
  have : i = a := by omega
  subst this
  exact ⟨o, by refine Ev.step (fun k => by rw [impl_around.l0]) ?_; exact ev_neg (by omega) (ev_ret rfl), ho⟩
 | succ d ih =>
  intro i o hi ho
  have b1 := D_bound (bytesOf s) i (by omega)
  have hdp := ho.deep
  have hn1 := hn (i + 1) (by omega)
  by_cases h : openB (bt s (i : Int)) = true
  ·have h' := h
   rw [bt_gt] at h'
   obtain ⟨r, hr, hr2⟩ := ih (i + 1) (o ++ [(i : Int)]) (by omega) (ho.open_ (by omega) h')
   refine ⟨r, ?_, hr2⟩
   refine Ev.step (fun k => by rw [impl_around.l0]) ?_
   refine ev_pos (by omega) (ev_pos (by omega) (ev_pos (by omega) (ev_eq (impl_isName_f _) (ev_pos h (ev_pos (by omega) ?_)))))
   rw [wrap_succ i (by omega)]; exact hr
  ·have h' := h
   rw [bt_gt] at h'
   by_cases h2 : gt 0 (bytesOf s) i = 47
   ·have hD := D_succ (bytesOf s) i (by omega)
    rw [step_shut h2] at hD
    have e : wrap64 ((o.length : Int) - 1) = ((o.length - 1 : Nat) : Int) := by unfold wrap64; omega
    obtain ⟨r, hr, hr2⟩ := ih (i + 1) (o.take (o.length - 1)) (by omega) (ho.shut (by omega) h2 hn1)
    refine ⟨r, ?_, hr2⟩
    refine Ev.step (fun k => by rw [impl_around.l0]) ?_
    rw [e, Int.toNat_natCast]
    refine ev_pos (by omega) (ev_pos (by omega) (ev_pos (by omega) (ev_eq (impl_isName_f _) (ev_neg h (ev_pos (by rw [bt_gt]; exact h2) (ev_pos (by omega) (ev_pos (by omega) ?_)))))))
    rw [wrap_succ i (by omega)]; exact hr
   ·obtain ⟨r, hr, hr2⟩ := ih (i + 1) o (by omega) (ho.plain (by omega) h' h2)
    refine ⟨r, ?_, hr2⟩
    refine Ev.step (fun k => by rw [impl_around.l0]) ?_
    refine ev_pos (by omega) (ev_pos (by omega) (ev_pos (by omega) (ev_eq (impl_isName_f _) (ev_neg h (ev_neg (by rw [bt_gt]; exact h2) ?_)))))
    rw [wrap_succ i (by omega)]; exact hr
theorem impl_around_f (s : ByteArray) (h : docB (bytesOf s) = true) (a : Nat) (ha : a ≤ s.size) : ∃ r : List Int, Ev (fun k => impl_around.f k s (a : Int)) r ∧ St (bytesOf s) a r :=
 impl_around_st s (doc_len h) (fun j hj => D_nonneg h j (by rw [bytesOf_length]; exact hj)) a ha a 0 [] (by omega) (St.zero _)
/-- What MatchOf tells of a place. -/
def MatchTells (s : ByteArray) (a : Int) (r : Int × Bool) : Prop :=
 (docB (bytesOf s) = true ∧ ∃ p q : Nat, Mt (bytesOf s) p q ∧ ((a = (p : Int) ∧ r = ((q : Int), true)) ∨ (a = (q : Int) ∧ r = ((p : Int), true)))) ∨
 ((docB (bytesOf s) = true → ∀ an : Nat, a = (an : Int) → an < s.size → plainB (gt 0 (bytesOf s) an) = true) ∧ r = (0, false))
theorem impl_MatchOf_f (s : ByteArray) (hs : s.size ≤ 140737488351232) (a : Int) (ha : -9223372036854775808 ≤ a ∧ a ≤ 9223372036854775807) : ∃ r, Ev (fun k => impl_MatchOf.f k s a) r ∧ MatchTells s a r := by
 have hm := impl_matches_f s hs
 have hd := matchR_doc (bytesOf s)
 by_cases h : docB (bytesOf s) = true
 ·obtain ⟨m, e, h1, h2⟩ := matchR_pairs h
  rw [e] at hm
  refine ⟨((m.lookup a).getD 0, (m.lookup a).isSome), ?_, ?_⟩
  ·unfold impl_MatchOf.f
   exact ev_pos ha (Ev.bind hm (ev_pos rfl (ev_ret rfl)))
  ·cases hl : m.lookup a with
   | none =>
    refine .inr ⟨fun _ an e1 e2 => ?_, rfl⟩
    rcases good_byte (by unfold docB at h; simp only [Bool.and_eq_true] at h; exact h.1) an (by rw [bytesOf_length]; exact e2) with g | g | g
    ·have := h2 an (by rw [bytesOf_length]; exact e2) (.inl g); rw [← e1, hl] at this; cases this
    ·exact g
    ·have := h2 an (by rw [bytesOf_length]; exact e2) (.inr g); rw [← e1, hl] at this; cases this
   | some b =>
    obtain ⟨an, bn, e1, e2, e3⟩ := h1 a b hl
    left
    rcases e3 with e3 | e3
    ·exact ⟨h, an, bn, e3, .inl ⟨e1, by rw [e2]; rfl⟩⟩
    ·exact ⟨h, bn, an, e3, .inr ⟨e1, by rw [e2]; rfl⟩⟩
 ·refine ⟨(0, false), ?_, .inr ⟨fun e => absurd e h, rfl⟩⟩
  unfold impl_MatchOf.f
  refine ev_pos ha (Ev.bind hm (ev_neg ?_ (ev_ret rfl)))
  rw [hd]; exact h
theorem Mt_len {s : ByteArray} {p q : Nat} (h : Mt (bytesOf s) p q) : p < q ∧ q < s.size := by
 have := h.2.1; rw [bytesOf_length] at this; exact ⟨h.1, this⟩
/-- So many elements lie side by side from b to t. -/
def Cnt (l : List Int) (b t c' : Nat) : Prop := c' ≤ t ∧ ∀ P : Nat → Nat → Prop,
 (∀ i c, b ≤ i → i < t → c ≤ i → ¬ openB (gt 0 l i) = true → ¬ gt 0 l i = 47 → P (i + 1) c → P i c) →
 (∀ i q c, b ≤ i → i < t → c ≤ i → Mt l i q → q < t → c + 1 ≤ c' → P (q + 1) (c + 1) → P i c) → P t c' → P b 0
theorem cnt_ex (l : List Int) (hd : docB l = true) (b at_ t : Nat) (hbt : b ≤ t) (hta : t ≤ at_) (hal : at_ ≤ l.length)
  (hr : ∀ x, b ≤ x → x ≤ at_ → D l b ≤ D l x) (hDt : D l t = D l b) (hend : ∀ x, t < x → x ≤ at_ → D l b < D l x) : ∃ c', Cnt l b t c' := by
 have key : ∀ d i c : Nat, t - i ≤ d → b ≤ i → i ≤ t → c ≤ i → D l i = D l b → ∃ c', c' ≤ t ∧ c ≤ c' ∧ ∀ P : Nat → Nat → Prop,
   (∀ i c, b ≤ i → i < t → c ≤ i → ¬ openB (gt 0 l i) = true → ¬ gt 0 l i = 47 → P (i + 1) c → P i c) →
   (∀ i q c, b ≤ i → i < t → c ≤ i → Mt l i q → q < t → c + 1 ≤ c' → P (q + 1) (c + 1) → P i c) → P t c' → P i c := by
  intro d
  induction d with
  | zero =>
   intro i c hd0 hbi hit hc hDi
   have : i = t := by omega
   subst this
   exact ⟨c, hc, Nat.le_refl _, fun P _ _ h => h⟩
  | succ d ih =>
   intro i c hd0 hbi hit hc hDi
   by_cases hlt : i < t
   ·by_cases ho : openB (gt 0 l i) = true
    ·obtain ⟨q, hm⟩ := open_mt hd i (by omega) ho
     have hq : q < t := by
      apply Nat.lt_of_not_le
      intro hc2
      have := hm.2.2.2.2.2 t hlt hc2
      omega
     have hDq := hm.2.2.2.2.1
     have hiq := hm.1
     obtain ⟨c', k1, k2, k3⟩ := ih (q + 1) (c + 1) (by omega) (by omega) (by omega) (by omega) (by omega)
     exact ⟨c', k1, by omega, fun P p1 p2 h => p2 i q c hbi hlt hc hm hq k2 (k3 P p1 p2 h)⟩
    ·have hD := D_succ l i (by omega)
     have h47 : ¬ gt 0 l i = 47 := by
      intro h2
      rw [step_shut h2] at hD
      have := hr (i + 1) (by omega) (by omega)
      omega
     rw [step_plain ho h47] at hD
     obtain ⟨c', k1, k2, k3⟩ := ih (i + 1) c (by omega) (by omega) (by omega) (by omega) (by omega)
     exact ⟨c', k1, k2, fun P p1 p2 h => p1 i c hbi hlt hc ho h47 (k3 P p1 p2 h)⟩
   ·have : i = t := by omega
    subst this
    exact ⟨c, hc, Nat.le_refl _, fun P _ _ h => h⟩
 obtain ⟨c', k1, _, k3⟩ := key (t - b) b 0 (Nat.le_refl _) (Nat.le_refl _) hbt (Nat.zero_le _) rfl
 exact ⟨c', k1, k3⟩
theorem impl_MatchOf_open (s : ByteArray) (hd : docB (bytesOf s) = true) (i q : Nat) (hm : Mt (bytesOf s) i q) : Ev (fun k => impl_MatchOf.f k s (i : Int)) ((q : Int), true) := by
 have h300 := doc_len hd
 have hl := Mt_len hm
 have ho := hm.2.2.1
 obtain ⟨rm, hrm, htm⟩ := impl_MatchOf_f s (by omega) (i : Int) (by omega)
 have erm : rm = ((q : Int), true) := by
  rcases htm with ⟨_, p', q', hm', h⟩ | ⟨h, _⟩
  ·rcases h with ⟨e1, e2⟩ | ⟨e1, e2⟩
   ·have : i = p' := by omega
    subst this
    rw [Mt_fun hm hm']; exact e2
   ·have : i = q' := by omega
    subst this
    exact absurd hm'.2.2.2.1 (open_not47 ho)
  ·exact absurd ho (plain_not (h hd i rfl (by omega))).1
 rw [erm] at hrm; exact hrm
/-- Where the level of so many begins. -/
def lvB (o : List Int) : Nat → Nat
 | 0 => 0
 | j + 1 => (gt 0 o j).toNat + 1
theorem lvB_succ {o : List Int} {j p : Nat} (h : gt 0 o j = (p : Int)) : lvB o (j + 1) = p + 1 := by show (gt 0 o j).toNat + 1 = _; rw [h, Int.toNat_natCast]
/-- A level of a place: where it ends, and that it's well formed. -/
structure Lv (s : ByteArray) (at_ : Nat) (o : List Int) (j e : Nat) : Prop where
 le : e ≤ s.size
 here : at_ ≤ e
 beg : lvB o j ≤ at_
 deep : D (bytesOf s) (lvB o j) = (j : Int)
 low : ∀ x, lvB o j ≤ x → x ≤ at_ → (j : Int) ≤ D (bytesOf s) x
 nest : ∀ i q, lvB o j ≤ i → i < e → Mt (bytesOf s) i q → q < e
theorem Lv.zero (s : ByteArray) (hd : docB (bytesOf s) = true) (at_ : Nat) (hat : at_ ≤ s.size) (o : List Int) : Lv s at_ o 0 s.size :=
 ⟨Nat.le_refl _, hat, Nat.zero_le _, D_zero _, fun x _ hx => D_nonneg hd x (by rw [bytesOf_length]; omega), fun i q _ _ hm => (Mt_len hm).2⟩
/-- The next level: the element that lies around, and how many lie ahead of it. -/
theorem Lv.next {s : ByteArray} (hd : docB (bytesOf s) = true) {at_ : Nat} (hat : at_ ≤ s.size) {o : List Int} (ho : St (bytesOf s) at_ o) {j e : Nat} (h : Lv s at_ o j e) (hj : j < o.length) :
  ∃ p q c : Nat, gt 0 o j = (p : Int) ∧ lvB o j ≤ p ∧ p < at_ ∧ at_ ≤ q ∧ q < e ∧ Mt (bytesOf s) p q ∧ Cnt (bytesOf s) (lvB o j) p c ∧ Lv s at_ o (j + 1) q := by
 have hlen := bytesOf_length s
 obtain ⟨hle, hae, hba, hDb, hr, hin⟩ := h
 obtain ⟨p, e1, e2, e3, e4, e5⟩ := ho.stack j hj
 have hbp : lvB o j ≤ p := by
  cases j with
  | zero => exact Nat.zero_le _
  | succ j' =>
   obtain ⟨p', f1, f2, f3, f4, f5⟩ := ho.stack j' (by omega)
   rw [lvB_succ f1]
   apply Nat.lt_of_not_le
   intro hc
   have : p ≠ p' := by intro e; subst e; omega
   have := e5 p' (by omega) (by omega)
   omega
 obtain ⟨q, hm⟩ := open_mt hd p (by omega) e3
 have hqe := hin p q hbp (by omega) hm
 have hql := Mt_len hm
 have haq : at_ ≤ q := by
  apply Nat.le_of_not_lt
  intro hc
  have := e5 (q + 1) (by omega) (by omega)
  have := hm.2.2.2.2.1; omega
 obtain ⟨c, hc⟩ := cnt_ex (bytesOf s) hd (lvB o j) at_ p hbp (by omega) (by omega) (fun x h1 h2 => by have := hr x h1 h2; omega) (by omega) (fun x h1 h2 => by have := e5 x h1 h2; omega)
 have hlv := lvB_succ e1
 have hDp := D_succ (bytesOf s) p (by omega)
 rw [step_open e3] at hDp
 exact ⟨p, q, c, e1, hbp, e2, haq, hqe, hm, hc, by omega, haq, by omega, by rw [hlv]; omega, fun x h1 h2 => by have := e5 x (by omega) h2; omega, fun i q' h1 h2 hm' => mt_nest hm hm' (by omega) h2⟩
/-- The path of a place. -/
structure PathIs (s : ByteArray) (at_ : Nat) (o r : List Int) : Prop where
 len : r.length = o.length + 1
 last : gt 0 r o.length = ((at_ - lvB o o.length : Nat) : Int)
 cnt : ∀ j, j < o.length → ∃ p c : Nat, gt 0 o j = (p : Int) ∧ gt 0 r j = (c : Int) ∧ Cnt (bytesOf s) (lvB o j) p c
theorem path_from (s : ByteArray) (hd : docB (bytesOf s) = true) (at_ : Nat) (hat : at_ ≤ s.size) (o : List Int) (ho : St (bytesOf s) at_ o) (d : Nat) :
  ∀ (j : Nat) (u : ByteArray) (e : Nat) (x6 : List Int), j + d = o.length → Sub (bytesOf s) u (lvB o j) e → Lv s at_ o j e → x6.length = j →
   (∀ j', j' < j → ∃ p c : Nat, gt 0 o j' = (p : Int) ∧ gt 0 x6 j' = (c : Int) ∧ Cnt (bytesOf s) (lvB o j') p c) →
   ∃ r : List Int, PathIs s at_ o r ∧ Ev (fun k => spec_l2Path.l0 k u ((at_ - lvB o j : Nat) : Int) x6) r ∧ Ev (fun k => impl_path.l0 k s (at_ : Int) x6 ((lvB o j : Nat) : Int) o (o.length : Int) (j : Int)) r := by
 have hlen := bytesOf_length s
 have h300 := doc_len hd
 have hdeep := ho.deep
 have hbd := D_bound (bytesOf s) at_ (by omega)
 -- the reference's round over one level
 have spl : ∀ (u : ByteArray) (b e t c' : Nat) (x6 r : List Int), Sub (bytesOf s) u b e → b ≤ t → t ≤ at_ → at_ ≤ e → Cnt (bytesOf s) b t c' →
   Ev (fun k => spec_l2Path.l1 k u ((at_ - b : Nat) : Int) x6 (c' : Int) (-1) ((t - b : Nat) : Int)) r → Ev (fun k => spec_l2Path.l1 k u ((at_ - b : Nat) : Int) x6 0 (-1) 0) r := by
  intro u b e t c' x6 r hu hbt hta hae hc h
  have hsz := hu.size; have hle := hu.le; have hel := hu.len
  have := hc.2 (fun i c => Ev (fun k => spec_l2Path.l1 k u ((at_ - b : Nat) : Int) x6 (c : Int) (-1) ((i - b : Nat) : Int)) r)
   (fun i c h1 h2 hci h3 h4 h' => by
    refine Ev.step (fun k => by rw [spec_l2Path.l1]) ?_
    refine ev_pos (by omega) (ev_pos (by omega) (ev_pos (by omega) (ev_eq (spec_l1Open_f _) (ev_neg ?_ ?_))))
    ·rw [bt_gt, hu.at_ _ (by omega), show b + (i - b) = i by omega]; exact h3
    ·rw [wrap_succ (i - b) (by omega), show i - b + 1 = i + 1 - b by omega]; exact h')
   (fun i q c h1 h2 hci hm hq hcc h' => by
    have hql := Mt_len hm
    have hmu := spec_l1Match_open u (by omega) _ _ (hu.mt hm h1 (by omega))
    have hcb := hc.1
    refine Ev.step (fun k => by rw [spec_l2Path.l1]) ?_
    refine ev_pos (by omega) (ev_pos (by omega) (ev_pos (by omega) (ev_eq (spec_l1Open_f _) (ev_pos ?_ (Ev.bind hmu (ev_neg (by omega) ?_))))))
    ·rw [bt_gt, hu.at_ _ (by omega), show b + (i - b) = i by omega]; exact hm.2.2.1
    ·rw [wrap_succ c (by omega), wrap_succ (q - b) (by omega)]
     rw [show q - b + 1 = q + 1 - b by omega]; exact h') h
  rw [Nat.sub_self] at this
  exact this
 induction d with
 | zero =>
  intro j u e x6 hj hu hv hx6 hpre
  obtain ⟨hle, hae, hba, hDb, hr, hin⟩ := hv
  have hsz := hu.size; have hle := hu.le; have hel := hu.len
  have hjo : j = o.length := by omega
  subst hjo
  obtain ⟨ca, hca⟩ := cnt_ex (bytesOf s) hd (lvB o o.length) at_ at_ hba (Nat.le_refl _) (by omega) (fun x h1 h2 => by have := hr x h1 h2; omega) (by omega) (fun x h1 h2 => by omega)
  refine ⟨x6 ++ [((at_ - lvB o o.length : Nat) : Int)], ⟨by rw [List.length_append, List.length_singleton, hx6], ?_, fun j hj => ?_⟩, ?_, ?_⟩
  ·rw [← hx6]; exact gt_app_e _ _ _
  ·obtain ⟨p, c, f1, f2, f3⟩ := hpre j hj
   exact ⟨p, c, f1, by rw [gt_app_l _ _ _ _ (by omega)]; exact f2, f3⟩
  ·refine Ev.step (fun k => by rw [spec_l2Path.l0]) ?_
   refine spl u (lvB o o.length) e at_ ca x6 _ hu hba (Nat.le_refl _) hae hca ?_
   refine Ev.step (fun k => by rw [spec_l2Path.l1]) ?_
   exact ev_neg (by omega) (ev_pos (by omega) (ev_pos (by omega) (ev_ret rfl)))
  ·refine Ev.step (fun k => by rw [impl_path.l0]) ?_
   refine ev_neg (by omega) (ev_pos (by omega) (ev_ret ?_))
   rw [wrap_id (by omega) (by omega), show (at_ : Int) - ((lvB o o.length : Nat) : Int) = ((at_ - lvB o o.length : Nat) : Int) by omega]
 | succ d ih =>
  intro j u e x6 hj hu hv hx6 hpre
  obtain ⟨p, q, c', e1, hbp, hpa, haq, hqe, hm, hc, hv'⟩ := hv.next hd hat ho (by omega)
  obtain ⟨hle0, hae, hba, hDb, hr, hin⟩ := hv
  have hsz := hu.size; have hle := hu.le; have hel := hu.len
  have hql := Mt_len hm
  have hlv := lvB_succ e1
  have hcb := hc.1
  have hu' := hu.sub (p + 1) q (by omega) (by omega) (by omega)
  obtain ⟨r, hrl, r1, r2⟩ := ih (j + 1) (u.extract (p + 1 - lvB o j) (q - lvB o j)) q (x6 ++ [(c' : Int)]) (by omega) (by rw [hlv]; exact hu') hv' (by rw [List.length_append, List.length_singleton, hx6])
   (fun j' hj' => by
    by_cases hjj : j' < j
    ·obtain ⟨p', c, f1, f2, f3⟩ := hpre j' hjj
     exact ⟨p', c, f1, by rw [gt_app_l _ _ _ _ (by omega)]; exact f2, f3⟩
    ·have : j' = j := by omega
     subst this
     exact ⟨p, c', e1, by rw [← hx6]; exact gt_app_e _ _ _, hc⟩)
  refine ⟨r, hrl, ?_, ?_⟩
  ·refine Ev.step (fun k => by rw [spec_l2Path.l0]) ?_
   refine spl u (lvB o j) e p c' x6 _ hu hbp (by omega) hae hc ?_
   have hmu := spec_l1Match_open u (by omega) _ _ (hu.mt hm hbp hqe)
   refine Ev.step (fun k => by rw [spec_l2Path.l1]) ?_
   refine ev_pos (by omega) (ev_pos (by omega) (ev_pos (by omega) (ev_eq (spec_l1Open_f _) (ev_pos ?_ (Ev.bind hmu (ev_pos (by omega) (ev_neg (by omega) (ev_pos (by omega) (Ev.bind hmu ?_)))))))))
   ·rw [bt_gt, hu.at_ _ (by omega), show lvB o j + (p - lvB o j) = p by omega]; exact hm.2.2.1
   ·rw [wrap_succ (p - lvB o j) (by omega)]
    refine ev_pos (by omega) (ev_pos (by omega) (ev_pos (by omega) ?_))
    rw [wrap_id (by omega) (by omega), Int.toNat_natCast, Int.toNat_natCast]
    rw [show ((at_ - lvB o j : Nat) : Int) - ((p - lvB o j + 1 : Nat) : Int) = ((at_ - lvB o (j + 1) : Nat) : Int) by omega, show p - lvB o j + 1 = p + 1 - lvB o j by omega]
    exact r1
  ·refine Ev.step (fun k => by rw [impl_path.l0]) ?_
   refine ev_pos (by omega) (ev_pos (by omega) (ev_pos (by omega) ?_))
   have er : rd o (j : Int) = (p : Int) := e1
   rw [er]
   refine hc.2 (fun i c => Ev (fun k => impl_path.l1 k s (at_ : Int) x6 (p : Int) (c : Int) (i : Int) o (o.length : Int) (j : Int)) r) ?_ ?_ ?_
   ·intro i c h1 h2 hci h3 h4 h'
    refine Ev.step (fun k => by rw [impl_path.l1]) ?_
    refine ev_pos (by omega) (ev_pos (by omega) (ev_pos (by omega) (ev_eq (impl_isName_f _) (ev_neg (by rw [bt_gt]; exact h3) ?_))))
    rw [wrap_succ i (by omega)]; exact h'
   ·intro i q' c h1 h2 hci hm' hq' hcc h'
    have hql' := Mt_len hm'
    refine Ev.step (fun k => by rw [impl_path.l1]) ?_
    refine ev_pos (by omega) (ev_pos (by omega) (ev_pos (by omega) (ev_eq (impl_isName_f _) (ev_pos (by rw [bt_gt]; exact hm'.2.2.1) (Ev.bind (impl_MatchOf_open s hd i q' hm') ?_)))))
    rw [wrap_succ c (by omega)]
    show Ev (fun k => impl_path.l1 k s (at_ : Int) x6 (p : Int) ((c + 1 : Nat) : Int) (wrap64 ((q' : Int) + 1)) o (o.length : Int) (j : Int)) r
    rw [wrap_succ q' (by omega)]; exact h'
   ·refine Ev.step (fun k => by rw [impl_path.l1]) ?_
    refine ev_neg (by omega) (ev_pos (by omega) ?_)
    rw [wrap_succ p (by omega), wrap_succ j (by omega)]
    rw [hlv] at r2
    exact r2
theorem path_f (s : ByteArray) (hd : docB (bytesOf s) = true) (a : Nat) (ha : a ≤ s.size) : ∃ o r : List Int, o.length ≤ 300 ∧ St (bytesOf s) a o ∧ PathIs s a o r ∧ Ev (fun k => spec_l2Path.f k s (a : Int)) r ∧ Ev (fun k => impl_path.f k s (a : Int)) r := by
 have hlen := bytesOf_length s
 have h300 := doc_len hd
 obtain ⟨o, h1, h2⟩ := impl_around_f s hd a ha
 have hbd := D_bound (bytesOf s) a (by omega)
 have hdeep := h2.deep
 obtain ⟨r, hr, r1, r2⟩ := path_from s hd a ha o h2 o.length 0 s s.size [] (by omega) (Sub.whole s) (Lv.zero s hd a ha o) rfl (fun j' hj' => by omega)
 exact ⟨o, r, by omega, h2, hr, r1, Ev.bind h1 r2⟩
theorem rd_int (l : List Int) (i : Nat) : rd l (i : Int) = gt (0 : Int) l i := rfl
theorem equal_l (a x : List Int) (hl : a.length = x.length) (hb : x.length ≤ 1048576) (d : Nat) : ∀ i : Nat, i + d = a.length → a.take i = x.take i →
  Ev (fun k => slices_Equal_int_int.l0 k a x (a.length : Int) (i : Int)) (decide (a = x)) := by
 induction d with
 | zero =>
  intro i hi he
  rw [List.take_of_length_le (by omega), List.take_of_length_le (by omega)] at he
  refine Ev.step (fun k => by rw [slices_Equal_int_int.l0]) ?_
  exact ev_neg (by omega) (ev_ret (by rw [decide_eq_true he]))
 | succ d ih =>
  intro i hi he
  refine Ev.step (fun k => by rw [slices_Equal_int_int.l0]) ?_
  refine ev_pos (by omega) (ev_pos (by omega) (ev_pos (by omega) (ev_pos (by omega) (ev_if (fun h => ?_) (fun h => ev_ret ?_)))))
  ·rw [wrap_succ i (by omega)]
   exact ih (i + 1) (by omega) (by rw [gt_take 0 a i (by omega), gt_take 0 x i (by omega), he]; rw [rd_int, rd_int] at h; rw [h])
  ·rw [decide_eq_false (fun e => h (by rw [e]))]
theorem equal_f (a x : List Int) (hb : x.length ≤ 1048576) : Ev (fun k => slices_Equal_int_int.f k a x) (decide (a = x)) := by
 unfold slices_Equal_int_int.f
 refine ev_if (fun h => ?_) (fun h => ev_ret ?_)
 ·exact equal_l a x (by omega) hb a.length 0 (by omega) rfl
 ·rw [decide_eq_false (fun e => h (by rw [e]))]
theorem sm_zero (p : Nat → Nat) : ∀ d i, (∀ j, i ≤ j → j < i + d → p j = 0) → sm p d i = 0
 | 0, _, _ => rfl
 | d + 1, i, h => by rw [sm, h i (Nat.le_refl _) (by omega), sm_zero p d (i + 1) (fun j h1 h2 => h j (by omega) (by omega))]
/-- How many elements begin at a depth, from a place up to another one. -/
def opens (l : List Int) (dd : Int) (i t : Nat) : Nat := sm (fun x => if openB (gt 0 l x) = true ∧ D l x = dd then 1 else 0) (t - i) i
theorem opens_succ (l : List Int) (dd : Int) (i t : Nat) (h : i < t) : opens l dd i t = (if openB (gt 0 l i) = true ∧ D l i = dd then 1 else 0) + opens l dd (i + 1) t := by
 unfold opens
 rw [show t - i = (t - (i + 1)) + 1 by omega, sm]
theorem opens_split (l : List Int) (dd : Int) (i m t : Nat) (h : i ≤ m) (h2 : m ≤ t) : opens l dd i t = opens l dd i m + opens l dd m t := by
 unfold opens
 rw [show t - i = (m - i) + (t - m) by omega, sm_split, show i + (m - i) = m by omega]
theorem cnt_opens {l : List Int} {b t c : Nat} (hbt : b ≤ t) (htl : t ≤ l.length) (h : Cnt l b t c) : D l b = D l t ∧ opens l (D l t) b t = c := by
 have := h.2 (fun i n => i ≤ t → D l i = D l t ∧ n ≤ c ∧ opens l (D l t) i t + n = c)
  (fun i n h1 h2 _ ho h47 hp _ => by
   obtain ⟨p1, p2, p3⟩ := hp (by omega)
   have hD := D_succ l i (by omega)
   rw [step_plain ho h47] at hD
   refine ⟨by omega, p2, ?_⟩
   rw [opens_succ l _ i t h2, if_neg (fun q => ho q.1), Nat.zero_add]; exact p3)
  (fun i q n h1 h2 _ hm hq hn hp _ => by
   obtain ⟨p1, p2, p3⟩ := hp (by omega)
   have hDq := hm.2.2.2.2.1
   have hiq := hm.1
   refine ⟨by omega, by omega, ?_⟩
   rw [opens_succ l _ i t h2, if_pos ⟨hm.2.2.1, by omega⟩, opens_split l _ (i + 1) (q + 1) t (by omega) (by omega)]
   have h0 : opens l (D l t) (i + 1) (q + 1) = 0 := by
    unfold opens
    refine sm_zero _ _ _ (fun j h3 h4 => if_neg (fun hh => ?_))
    have := hm.2.2.2.2.2 j (by omega) (by omega)
    omega
   omega)
  (fun _ => ⟨rfl, Nat.le_refl _, by unfold opens; rw [Nat.sub_self, sm]; omega⟩) hbt
 exact ⟨this.1, by omega⟩
theorem cnt_uniq {l : List Int} {b p p' c : Nat} (h1 : b ≤ p) (h2 : b ≤ p') (hl : p < l.length) (hl' : p' < l.length) (ho : openB (gt 0 l p) = true) (ho' : openB (gt 0 l p') = true) (h : Cnt l b p c) (h' : Cnt l b p' c) : p = p' := by
 obtain ⟨a1, a2⟩ := cnt_opens h1 (by omega) h
 obtain ⟨b1, b2⟩ := cnt_opens h2 (by omega) h'
 have e : D l p = D l p' := by omega
 rcases Nat.lt_trichotomy p p' with q | q | q
 ·have := opens_split l (D l p') b p p' h1 (by omega)
  rw [opens_succ l (D l p') p p' q, if_pos ⟨ho, e⟩] at this
  rw [e] at a2; omega
 ·exact q
 ·have := opens_split l (D l p) b p' p h2 (by omega)
  rw [opens_succ l (D l p) p' p q, if_pos ⟨ho', e.symm⟩] at this
  rw [← e] at b2; omega
/-- A path tells its place. -/
theorem path_uniq (s : ByteArray) (hd : docB (bytesOf s) = true) {a b : Nat} (ha : a ≤ s.size) (hb : b ≤ s.size) {o o' r : List Int} (ho : St (bytesOf s) a o) (ho' : St (bytesOf s) b o') (hp : PathIs s a o r) (hp' : PathIs s b o' r) : a = b := by
 have hlen := bytesOf_length s
 have l1 := hp.len
 have l2 := hp'.len
 have lb : ∀ {x : Nat} {q : List Int}, St (bytesOf s) x q → ∀ j, j ≤ q.length → lvB q j ≤ x := by
  intro x q hq j hj
  cases j with
  | zero => exact Nat.zero_le _
  | succ j =>
   obtain ⟨pn, e1, e2, _⟩ := hq.stack j (by omega)
   rw [lvB_succ e1]; omega
 have mono : ∀ {x : Nat} {q : List Int}, St (bytesOf s) x q → ∀ j p : Nat, j < q.length → gt 0 q j = (p : Int) → lvB q j ≤ p := by
  intro x q hq j p hj hgt
  cases j with
  | zero => exact Nat.zero_le _
  | succ j' =>
   obtain ⟨p0, e1, e2, e3, e4, e5⟩ := hq.stack (j' + 1) hj
   obtain ⟨p', f1, f2, f3, f4, f5⟩ := hq.stack j' (by omega)
   have : p0 = p := by omega
   subst this
   rw [lvB_succ f1]
   apply Nat.lt_of_not_le
   intro hc
   have hne : p0 ≠ p' := by intro e; subst e; omega
   have := e5 p' (by omega) (by omega)
   omega
 have key : ∀ j, j ≤ o.length → lvB o j = lvB o' j := by
  intro j
  induction j with
  | zero => intro _; rfl
  | succ j ih =>
   intro hj
   have ih' := ih (by omega)
   obtain ⟨p, c, e1, e2, e3⟩ := hp.cnt j (by omega)
   obtain ⟨p', c', f1, f2, f3⟩ := hp'.cnt j (by omega)
   obtain ⟨pn, g1, g2, g3, _⟩ := ho.stack j (by omega)
   obtain ⟨pn', g1', g2', g3', _⟩ := ho'.stack j (by omega)
   have : pn = p := by omega
   subst this
   have : pn' = p' := by omega
   subst this
   have ec : c = c' := by omega
   subst ec
   have m1 := mono ho j pn (by omega) e1
   have m2 := mono ho' j pn' (by omega) f1
   rw [← ih'] at f3 m2
   have := cnt_uniq m1 m2 (by omega) (by omega) g3 g3' e3 f3
   rw [lvB_succ e1, lvB_succ f1, this]
 have k := key o.length (Nat.le_refl _)
 have t1 := hp.last
 have t2 := hp'.last
 have el : o'.length = o.length := by omega
 rw [el] at t2
 have b1 := lb ho o.length (Nat.le_refl _)
 have b2 := lb ho' o'.length (Nat.le_refl _)
 rw [el] at b2
 rw [t1, k] at t2
 rw [k] at b1
 omega
/-- The program finds the place of a path. -/
theorem impl_PlaceOf_at (s : ByteArray) (hs : s.size ≤ 140737488351232) (hd : docB (bytesOf s) = true) (a : Nat) (ha : a ≤ s.size) (o r : List Int) (ho : St (bytesOf s) a o) (hp : PathIs s a o r) (hrl : r.length ≤ 1000) (r2 : Ev (fun k => impl_path.f k s (a : Int)) r) : Ev (fun k => impl_PlaceOf.f k s r) ((a : Int), true) := by
 have h300 := doc_len hd
 have loop : ∀ (d i : Nat), i + d = a → Ev (fun k => impl_PlaceOf.l0 k s r ((s.size + 1 : Nat) : Int) (i : Int)) ((a : Int), true) := by
  intro d
  induction d with
  | zero =>
   intro i hi
   have : i = a := by omega
   subst this
   refine Ev.step (fun k => by rw [impl_PlaceOf.l0]) ?_
   exact ev_pos (by omega) (Ev.bind r2 (Ev.bind (equal_f r r (by omega)) (ev_pos (decide_eq_true rfl) (ev_ret rfl))))
  | succ d ih =>
   intro i hi
   obtain ⟨o', r', hol', hst', hp', q1, q2⟩ := path_f s hd i (by omega)
   refine Ev.step (fun k => by rw [impl_PlaceOf.l0]) ?_
   refine ev_pos (by omega) (Ev.bind q2 (Ev.bind (equal_f r' r (by omega)) (ev_neg (fun h => ?_) ?_)))
   ·have h := of_decide_eq_true h
    subst h
    have := path_uniq s hd (by omega) ha hst' ho hp' hp
    omega
   ·rw [wrap_succ i (by omega)]
    exact ih (i + 1) (by omega)
 unfold impl_PlaceOf.f
 refine Ev.bind (impl_GoodDoc_f s hs) (ev_pos hd ?_)
 rw [wrap_succ s.size (by omega)]
 exact loop a 0 (by omega)
theorem impl_hasPlace_f (s : ByteArray) (a : Int) : impl_hasPlace.f s a = some (decide (0 ≤ a ∧ a ≤ (s.size : Int))) := by
 unfold impl_hasPlace.f; split
 ·rw [Option.some.injEq]; exact decide_eq_decide.2 (by omega)
 ·symm; rw [decide_eq_false (by omega)]
/-- What lies around: as many as it is deep. -/
theorem impl_around_l (s : ByteArray) (hs : s.size ≤ 300) (hn : ∀ j, j ≤ s.size → 0 ≤ D (bytesOf s) j) (a : Nat) (ha : a ≤ s.size) (d : Nat) : ∀ (i : Nat) (o : List Int), i + d = a → (o.length : Int) = D (bytesOf s) i →
  ∃ r : List Int, Ev (fun k => impl_around.l0 k s o (a : Int) (i : Int)) r ∧ (r.length : Int) = D (bytesOf s) a := by
 have hlen := bytesOf_length s
 induction d with
 | zero =>
  intro i o hi ho
  have : i = a := by omega
  subst this
  exact ⟨o, by refine Ev.step (fun k => by rw [impl_around.l0]) ?_; exact ev_neg (by omega) (ev_ret rfl), ho⟩
 | succ d ih =>
  intro i o hi ho
  have b1 := D_bound (bytesOf s) i (by omega)
  have hD := D_succ (bytesOf s) i (by omega)
  have hn1 := hn (i + 1) (by omega)
  by_cases h : openB (bt s (i : Int)) = true
  ·rw [bt_gt] at h
   rw [step_open h] at hD
   obtain ⟨r, hr, hr2⟩ := ih (i + 1) (o ++ [(i : Int)]) (by omega) (by rw [List.length_append, List.length_singleton]; omega)
   refine ⟨r, ?_, hr2⟩
   refine Ev.step (fun k => by rw [impl_around.l0]) ?_
   refine ev_pos (by omega) (ev_pos (by omega) (ev_pos (by omega) (ev_eq (impl_isName_f _) (ev_pos (by rw [bt_gt]; exact h) (ev_pos (by omega) ?_)))))
   rw [wrap_succ i (by omega)]; exact hr
  ·rw [bt_gt] at h
   by_cases h2 : gt 0 (bytesOf s) i = 47
   ·rw [step_shut h2] at hD
    have e : wrap64 ((o.length : Int) - 1) = ((o.length - 1 : Nat) : Int) := by unfold wrap64; omega
    obtain ⟨r, hr, hr2⟩ := ih (i + 1) (o.take (o.length - 1)) (by omega) (by rw [List.length_take]; omega)
    refine ⟨r, ?_, hr2⟩
    refine Ev.step (fun k => by rw [impl_around.l0]) ?_
    rw [e, Int.toNat_natCast]
    refine ev_pos (by omega) (ev_pos (by omega) (ev_pos (by omega) (ev_eq (impl_isName_f _) (ev_neg (by rw [bt_gt]; exact h) (ev_pos (by rw [bt_gt]; exact h2) (ev_pos (by omega) (ev_pos (by omega) ?_)))))))
    rw [wrap_succ i (by omega)]; exact hr
   ·rw [step_plain h h2] at hD
    obtain ⟨r, hr, hr2⟩ := ih (i + 1) o (by omega) (by omega)
    refine ⟨r, ?_, hr2⟩
    refine Ev.step (fun k => by rw [impl_around.l0]) ?_
    refine ev_pos (by omega) (ev_pos (by omega) (ev_pos (by omega) (ev_eq (impl_isName_f _) (ev_neg (by rw [bt_gt]; exact h) (ev_neg (by rw [bt_gt]; exact h2) ?_)))))
    rw [wrap_succ i (by omega)]; exact hr
def depthR (s : ByteArray) (a : Int) : Int × Bool := if docB (bytesOf s) = true ∧ 0 ≤ a ∧ a ≤ (s.size : Int) then (D (bytesOf s) a.toNat, true) else (0, false)
theorem impl_DepthAt_f (s : ByteArray) (hs : s.size ≤ 140737488351232) (a : Int) : Ev (fun k => impl_DepthAt.f k s a) (depthR s a) := by
 unfold impl_DepthAt.f depthR
 refine Ev.bind (impl_GoodDoc_f s hs) (ev_if (fun h => ?_) (fun h => ev_ret (by rw [if_neg (fun c => h c.1)])))
 refine ev_eq (impl_hasPlace_f _ _) (ev_if (fun h1 => ?_) (fun h1 => ev_ret (by rw [if_neg (fun c => h1 (decide_eq_true c.2))])))
 have h1' := of_decide_eq_true h1
 rw [if_pos ⟨h, h1'⟩]
 obtain ⟨an, rfl⟩ := Int.eq_ofNat_of_zero_le h1'.1
 obtain ⟨r, hr, hr2⟩ := impl_around_l s (doc_len h) (fun j hj => D_nonneg h j (by rw [bytesOf_length]; exact hj)) an (by omega) an 0 [] (by omega) (by simp [D_zero])
 rw [Int.toNat_natCast]
 refine Ev.bind (a := r) hr (ev_ret ?_)
 rw [hr2]
theorem DrawPathOf_f {s : List Int} (hs : Code s) : ∃ r : ByteArray × Int, Ev (fun k => spec_DrawPathOf.f k s) r ∧ r.1.size ≤ 20000 ∧ -1 ≤ r.2 ∧ r.2 ≤ 30000 := by
 obtain ⟨t, a, z, q1, q2, q3, q4⟩ := doc_f hs 0 0 (Int.le_refl _) (by omega)
 obtain ⟨u, a2, z2, e, u0, u1, _, _⟩ := pick_f hs a z ((t.size : Int) + 3) q2 (by omega)
 have u2 := u1 (by omega)
 refine ⟨(t, u - 1), ?_, q4, by simp only; omega, by simp only; omega⟩
 unfold spec_DrawPathOf.f spec_DrawDepthAt.f
 refine Ev.bind (a := (t, u - 1)) (Ev.bind q1 ?_) (ev_ret rfl)
 have ew : wrap64 ((t.size : Int) + 3) = (t.size : Int) + 3 := wrap_id (by omega) (by omega)
 simp only [ew]
 exact ev_eq e (ev_ret (by rw [wrap_id (by omega) (by omega)]))
theorem FnPaths : laws_FnPaths.Pure := by
 intro code more h1 h2 h3 h4 h5 h6
 refine Ev.rounds ?_
 unfold laws_FnPaths.f
 rw [wrap_id (by omega) (by omega)]
 refine ev_if (fun _ => ev_ret rfl) (fun hgd => ?_)
 obtain ⟨⟨s, at_⟩, hdr, hsz, ha1, ha2⟩ := DrawPathOf_f (code_of (l := code) (by omega) h3)
 simp only at hsz ha1 ha2
 have hs : s.size ≤ 140737488351232 := by omega
 -- the second half
 have two : Ev (fun k => laws_FnPaths.j1 k more) true := by
  obtain ⟨m, kk, d1, hm⟩ := DrawKidsOf_f (code_of (l := more) (by omega) h6)
  have d2 : Ev (fun k => spec_DrawCutNode.f k more) (m, kk) := by unfold spec_DrawCutNode.f; exact Ev.bind d1 (ev_ret rfl)
  have hml : m.length ≤ 1048576 := by have := hm.2.1; omega
  have hsum : (m.map (fun x => x.f0.size + x.f1.size)).sum ≤ 1048576 := by have := hm.2.2; omega
  obtain ⟨r, r1, r2, r3, r4⟩ := CutNode_f m hml hm.mem hsum kk
  refine Ev.step (fun k => by rw [laws_FnPaths.j1]) ?_
  refine Ev.bind d2 (Ev.bind r3 (Ev.bind r2 (ev_neg (by simp) (Ev.bind (laws_sameNodes_f _ (by omega)) ?_))))
  refine Ev.step (fun k => by rw [laws_FnPaths.j2]) ?_
  refine ev_neg (by simp) ?_
  rcases r4 with rfl | ⟨F', k, rfl, hk, hg, g1, g2, g3, g4, rfl⟩
  ·exact ev_neg (by simp) (ev_ret rfl)
  ·have hg' := good_of g1 g3 g4
   obtain ⟨F, f1, f2, f3, f4, f5, f6, f7, f8⟩ := good_facts hg
   obtain ⟨_, _, _, _, _, hlen, hsz2, ha, hsum2⟩ := good_facts hg'
   have hl : (root :: F'.rows 0 1).length = F'.size + 1 := by rw [List.length_cons, F'.rows_len]
   have hmem : ∀ x ∈ root :: F'.rows 0 1, x.f0.size ≤ 1048576 ∧ x.f1.size ≤ 1048576 := fun x hx => by have := sum_mem hx; omega
   have e1 : sizeR m 0 = (((TT m 0).length : Int), true) := by
    unfold sizeR hasT; rw [hg, decide_eq_true ⟨Int.le_refl _, by omega⟩]; rfl
   have e2 : sizeR (root :: F'.rows 0 1) 0 = ((F'.text.length : Int), true) := by
    unfold sizeR hasT; rw [hg', decide_eq_true ⟨Int.le_refl _, by omega⟩]
    show (((TT (root :: F'.rows 0 1) 0).length : Int), true) = _
    rw [TT_root F' g1]
   have e3 : sizeR m (k : Int) = (((TT m k).length : Int), true) := by
    unfold sizeR hasT; rw [hg, decide_eq_true ⟨by omega, by omega⟩, Int.toNat_natCast]; rfl
   have s1 := impl_SizeOf_f m hml hm.mem 0
   have s2 := impl_SizeOf_f (root :: F'.rows 0 1) (by omega) hmem 0
   have s3 := impl_SizeOf_f m hml hm.mem (k : Int)
   have s4 := impl_GoodTree_f (root :: F'.rows 0 1) (by omega) hmem
   rw [e1] at s1
   rw [e2] at s2
   rw [e3] at s3
   rw [hg'] at s4
   have hT := TT_small f7 (by omega) f8 k hk
   refine ev_pos rfl (Ev.bind s1 (Ev.bind s2 (Ev.bind s3 (ev_pos rfl (ev_pos rfl (ev_pos rfl (ev_pos ?_ (Ev.bind s4 (ev_ret rfl)))))))))
   rw [wrap_id (by simp only; omega) (by simp only; omega)]
   simp only
   omega
 refine Ev.bind hdr ?_
 have gs := spec_GoodDoc_f s hs
 have gi := impl_GoodDoc_f s hs
 by_cases hd : docB (bytesOf s) = true ∧ 0 ≤ at_ ∧ at_ ≤ (s.size : Int)
 ·obtain ⟨hd, h0, h9⟩ := hd
  have h300 := doc_len hd
  obtain ⟨a, rfl⟩ := Int.eq_ofNat_of_zero_le h0
  obtain ⟨o, r, hol, hst, hp, r1, r2⟩ := path_f s hd a (by omega)
  have hrl := hp.len
  have hdeep := hst.deep
  have p1 : Ev (fun k => impl_PathOf.f k s (a : Int)) (r, true) := by
   unfold impl_PathOf.f
   refine Ev.bind gi (ev_pos hd (ev_eq (impl_hasPlace_f s (a : Int)) ?_))
   rw [decide_eq_true ⟨h0, h9⟩]
   exact ev_pos rfl (Ev.bind r2 (ev_ret rfl))
  have p2 : Ev (fun k => spec_PathOf.f k s (a : Int)) (r, true) := by
   unfold spec_PathOf.f
   refine Ev.bind gs (ev_pos hd (ev_eq (spec_l1In_f _ _ _) ?_))
   rw [decide_eq_true ⟨h0, h9⟩]
   exact ev_pos rfl (Ev.bind r1 (ev_ret rfl))
  have hpl : Ev (fun k => impl_PlaceOf.f k s r) ((a : Int), true) := impl_PlaceOf_at s hs hd a (by omega) o r hst hp (by omega) r2
  have hdp : Ev (fun k => impl_DepthAt.f k s (a : Int)) (D (bytesOf s) a, true) := by
   have := impl_DepthAt_f s hs (a : Int)
   unfold depthR at this
   rw [if_pos ⟨hd, h0, h9⟩, Int.toNat_natCast] at this
   exact this
  refine Ev.bind p1 (Ev.bind p2 (ev_neg (by simp) (Ev.bind (laws_sameInts_f _ (by simp only; omega)) ?_)))
  refine Ev.step (fun k => by rw [laws_FnPaths.j0]) ?_
  refine ev_neg (by simp) (ev_pos rfl (Ev.bind hpl (Ev.bind hdp (ev_pos rfl (ev_pos rfl (ev_pos rfl (ev_pos ?_ two)))))))
  rw [← hdeep, wrap_succ _ (by omega)]
  simp only
  omega
 ·have p1 : Ev (fun k => impl_PathOf.f k s at_) ([], false) := by
   unfold impl_PathOf.f
   refine Ev.bind gi (ev_if (fun h => ev_eq (impl_hasPlace_f s at_) ?_) (fun _ => ev_ret rfl))
   rw [decide_eq_false (fun q => hd ⟨h, q⟩)]
   exact ev_neg (by simp) (ev_ret rfl)
  have p2 : Ev (fun k => spec_PathOf.f k s at_) ([], false) := by
   unfold spec_PathOf.f
   refine Ev.bind gs (ev_if (fun h => ev_eq (spec_l1In_f _ _ _) ?_) (fun _ => ev_ret rfl))
   rw [decide_eq_false (fun q => hd ⟨h, q⟩)]
   exact ev_neg (by simp) (ev_ret rfl)
  refine Ev.bind p1 (Ev.bind p2 (ev_neg (by simp) (Ev.bind (laws_sameInts_f _ (by simp)) ?_)))
  refine Ev.step (fun k => by rw [laws_FnPaths.j0]) ?_
  exact ev_neg (by simp) (ev_neg (by simp) two)
end Go.Proofs.Ytkdablilbbbihaa.Pure
