/- FnExactOutlineOf over plain functions: at every text the program's OutlineOf and the reference's give one answer; no condition. -/
import Derived.Test.YtamjfhlbhaaepaaPFnExactOutlineOfx2
import Derived.Test.YtamjfhlbhaaepaaBase
namespace Go.Proofs.Ytamjfhlbhaaepaa.Pure
open Go.RowKit Go.Proofs.Ytamjfhlbhaaepaa.PFnExactOutlineOf Go.Proofs.YtamjfhlbhaaepaaW.PrintWords Go.Proofs.YtamjfhlbhaaepaaW.PrintLast Go.Proofs.Ytamjfhlbhaaepaa.Base
set_option linter.unusedVariables false
set_option linter.unusedSimpArgs false

theorem spec_l1Open_f (c : Int) : spec_l1Open.f c = some (openB c) := by
  unfold spec_l1Open.f openB; split <;> simp <;> omega
theorem spec_l1Plain_f (c : Int) : spec_l1Plain.f c = some (plainB c) := by
  unfold spec_l1Plain.f plainB
  repeat' split
  all_goals (rw [Option.some.injEq, Bool.eq_iff_iff]; simp only [Bool.or_eq_true, decide_eq_true_eq, beq_iff_eq, true_iff]; omega)
theorem spec_l1Text_l (s : ByteArray) (hs : s.size ≤ 140737488351232) (d : Nat) : ∀ i : Nat, i + d = s.size → Ev (fun k => spec_l1Text.l0 k s (i : Int)) (textB ((bytesOf s).drop i)) := by
  induction d with
  | zero =>
    intro i hi
    refine Ev.step (fun k => by rw [spec_l1Text.l0]) ?_
    refine ev_neg (by omega) (ev_ret ?_)
    rw [drop_end s i (by omega)]; rfl
  | succ d ih =>
    intro i hi
    refine Ev.step (fun k => by rw [spec_l1Text.l0]) ?_
    refine ev_pos (by omega) (ev_pos (by omega) (ev_eq (spec_l1Open_f _) ?_))
    rw [drop_bytes s i (by omega), wrap_succ i (by omega)]
    have ih' := ih (i + 1) (by omega)
    refine ev_if (fun h => ev_val ih' (by simp [textB, okB, h])) (fun h => ?_)
    refine ev_eq (spec_l1Plain_f _) (ev_if (fun h2 => ev_val ih' (by simp [textB, okB, h2])) (fun h2 => ?_))
    refine ev_if (fun h3 => ev_val ih' (by simp [textB, okB, h3])) (fun h3 => ev_ret ?_)
    simp [textB, okB, h, h2, h3]
theorem spec_l1Text_f (s : ByteArray) (hs : s.size ≤ 140737488351232) : Ev (fun k => spec_l1Text.f k s) (textB (bytesOf s)) :=
  spec_l1Text_l s hs s.size 0 (by omega)
theorem spec_GoodText_f (s : ByteArray) (hs : s.size ≤ 140737488351232) : Ev (fun k => spec_GoodText.f k s) (goodB (bytesOf s)) := by
  unfold spec_GoodText.f goodB
  refine Ev.bind (spec_l1Text_f s hs) (ev_if (fun h => ev_ret ?_) (fun h => ev_ret ?_))
  · rw [h, bytesOf_length, Bool.true_and]; congr 1; simp; omega
  · simp at h; simp [h]
theorem impl_isName_f (c : Int) : impl_isName.f c = some (openB c) := by
  unfold impl_isName.f openB; split <;> simp <;> omega
theorem impl_isPlain_f (c : Int) : impl_isPlain.f c = some (plainB c) := by
  unfold impl_isPlain.f plainB
  repeat' split
  all_goals (rw [Option.some.injEq, Bool.eq_iff_iff]; simp only [Bool.or_eq_true, decide_eq_true_eq, beq_iff_eq, true_iff]; omega)
theorem impl_GoodText_l (s : ByteArray) (hs : s.size ≤ 140737488351232) (d : Nat) : ∀ i : Nat, i + d = s.size → Ev (fun k => impl_GoodText.l0 k s (s.size : Int) (i : Int)) (textB ((bytesOf s).drop i) && decide (s.size ≤ 300)) := by
  induction d with
  | zero =>
    intro i hi
    refine Ev.step (fun k => by rw [impl_GoodText.l0]) ?_
    refine ev_neg (by omega) (ev_ret ?_)
    rw [drop_end s i (by omega)]; simp [textB]; omega
  | succ d ih =>
    intro i hi
    refine Ev.step (fun k => by rw [impl_GoodText.l0]) ?_
    refine ev_pos (by omega) (ev_pos (by omega) (ev_pos (by omega) (ev_eq (impl_isName_f _) ?_)))
    rw [drop_bytes s i (by omega), wrap_succ i (by omega)]
    have ih' := ih (i + 1) (by omega)
    refine ev_if (fun h => ev_val ih' (by simp [textB, okB, h])) (fun h => ?_)
    refine ev_eq (impl_isPlain_f _) (ev_if (fun h2 => ev_val ih' (by simp [textB, okB, h2])) (fun h2 => ?_))
    refine ev_if (fun h3 => ev_val ih' (by simp [textB, okB, h3])) (fun h3 => ev_ret ?_)
    simp [textB, okB, h, h2, h3]
theorem impl_GoodText_f (s : ByteArray) (hs : s.size ≤ 140737488351232) : Ev (fun k => impl_GoodText.f k s) (goodB (bytesOf s)) := by
  unfold impl_GoodText.f
  refine ev_val (impl_GoodText_l s hs s.size 0 (by omega)) ?_
  simp [goodB, bytesOf_length]

def onlyL (f : Bool) (l : List Int) : List Int := l.filter (fun c => plainB c == f)
theorem spec_l1Only_l (s : ByteArray) (hs : s.size ≤ 300) (f : Bool) (d : Nat) : ∀ (i : Nat) (acc : List Int), i + d = s.size → acc.length ≤ i →
    Ev (fun k => spec_l1Only.l0 k s f acc (i : Int)) (strOfNums (acc ++ onlyL f ((bytesOf s).drop i))) := by
  induction d with
  | zero =>
    intro i acc hi ha
    refine Ev.step (fun k => by rw [spec_l1Only.l0]) ?_
    refine ev_neg (by omega) (ev_ret ?_)
    rw [drop_end s i (by omega)]; simp [onlyL]
  | succ d ih =>
    intro i acc hi ha
    refine Ev.step (fun k => by rw [spec_l1Only.l0]) ?_
    refine ev_pos (by omega) (ev_pos (by omega) (ev_eq (spec_l1Plain_f _) ?_))
    rw [drop_bytes s i (by omega), wrap_succ i (by omega)]
    refine ev_if (fun h => ev_pos (by omega) (ev_val (ih (i + 1) _ (by omega) (by simp; omega)) ?_)) (fun h => ev_val (ih (i + 1) _ (by omega) (by omega)) ?_)
    · simp [onlyL, List.filter_cons, h]
    · simp [onlyL, List.filter_cons, h]
theorem spec_l1Only_f (s : ByteArray) (hs : s.size ≤ 300) (f : Bool) : Ev (fun k => spec_l1Only.f k s f) (strOfNums (onlyL f (bytesOf s))) := by
  have := spec_l1Only_l s hs f s.size 0 [] (by omega) (by simp)
  unfold spec_l1Only.f
  simpa using this
theorem strOf_only (s : ByteArray) (f : Bool) (p : Int → Bool) (h : ∀ c, p c = (plainB c == f)) : keepL p s = strOfNums (onlyL f (bytesOf s)) := by
  unfold keepL strOfNums onlyL bytesOf
  congr 2
  rw [List.filter_map, List.map_map]
  have e : ((fun n : Int => UInt8.ofNat n.toNat) ∘ fun b : UInt8 => (b.toNat : Int)) = id := by
    funext b; simp
  rw [e, List.map_id]
  refine List.filter_congr fun c _ => ?_
  rw [h]; rfl
theorem goodB_size {s : ByteArray} (h : goodB (bytesOf s) = true) : s.size ≤ 300 := by
  unfold goodB at h; simp only [Bool.and_eq_true, decide_eq_true_eq] at h
  have := h.2; rwa [bytesOf_length] at this
def onlyR (f : Bool) (s : ByteArray) : ByteArray × Bool := if goodB (bytesOf s) = true then (strOfNums (onlyL f (bytesOf s)), true) else ((⟨#[]⟩ : ByteArray), false)
theorem plainP_is (c : Int) : plainP c = (plainB c == true) := by unfold plainP; rw [impl_isPlain_f]; simp

theorem otherP_is (c : Int) : otherP c = (plainB c == false) := by
  unfold otherP impl_OutlineOf_1.f; rw [impl_isPlain_f]
  cases plainB c <;> rfl
theorem spec_OutlineOf_f (s : ByteArray) (hs : s.size ≤ 140737488351232) : Ev (fun k => spec_OutlineOf.f k s) (onlyR false s) := by
  unfold spec_OutlineOf.f onlyR
  refine Ev.bind (spec_GoodText_f s hs) (ev_if (fun h => ?_) (fun h => ev_ret (by rw [if_neg h])))
  rw [if_pos h]
  exact Ev.bind (spec_l1Only_f s (goodB_size h) false) (ev_ret rfl)
theorem impl_OutlineOf_f (s : ByteArray) (hs : s.size ≤ 140737488351232) : Ev (fun k => impl_OutlineOf.f k s) (onlyR false s) := by
  unfold impl_OutlineOf.f onlyR
  refine Ev.bind (impl_GoodText_f s hs) (ev_if (fun h => ?_) (fun h => ev_ret (by rw [if_neg h])))
  rw [if_pos h]
  refine ev_pos (goodB_size h) (ev_ret ?_)
  rw [strOf_only s false otherP otherP_is]

theorem FnExactOutlineOf : laws_FnExactOutlineOf.Pure := by
  intro s hs
  refine Ev.rounds ?_
  unfold laws_FnExactOutlineOf.f
  refine ev_if (fun _ => ev_ret rfl) (fun _ => ?_)
  refine Ev.bind (spec_OutlineOf_f s hs) (Ev.bind (impl_OutlineOf_f s hs) ?_)
  exact ev_pos rfl (ev_neg (by simp) (ev_ret rfl))

end Go.Proofs.Ytamjfhlbhaaepaa.Pure
