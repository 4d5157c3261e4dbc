/- The order of texts by bytes: it goes on, and two that are neither way below are one. Nothing of the program stands here. -/
import Derived.Test.YtmhcmcdppimcpaaCmp
namespace Go.Proofs.Ytmhcmcdppimcpaa.Ord
open Go.Proofs.Ytmhcmcdppimcpaa.Cmp
theorem less_irrefl : ∀ a : List UInt8, Op.bytesLess a a = false
  | [] => by simp [Op.bytesLess]
  | x :: a => by
    have h2 : ¬ x < x := by simp only [UInt8.lt_iff_toNat_lt]; omega
    simp [Op.bytesLess, h2, less_irrefl a]
theorem less_trans : ∀ a b c : List UInt8, Op.bytesLess a b = true → Op.bytesLess b c = true → Op.bytesLess a c = true
  | _, [], _, h, _ => by cases ‹List UInt8› <;> simp [Op.bytesLess] at h
  | _, _ :: _, [], _, h => by simp [Op.bytesLess] at h
  | [], _ :: _, _ :: _, _, _ => by simp [Op.bytesLess]
  | x :: a, y :: b, z :: c, h, k => by
    simp only [Op.bytesLess, Bool.or_eq_true, decide_eq_true_eq, Bool.and_eq_true, beq_iff_eq, UInt8.lt_iff_toNat_lt] at h k ⊢
    rcases h with h | ⟨rfl, h⟩
    · rcases k with k | ⟨rfl, k⟩
      · left; omega
      · left; omega
    · rcases k with k | ⟨rfl, k⟩
      · left; omega
      · right; exact ⟨rfl, less_trans a b c h k⟩
theorem less_total {a b : List UInt8} (h1 : Op.bytesLess a b = false) (h2 : Op.bytesLess b a = false) : a = b := by
  have := less_swap a b
  rw [h1, h2] at this
  simpa using this
/-- 'not below' goes on. -/
theorem nless_trans {a b c : List UInt8} (h1 : Op.bytesLess b a = false) (h2 : Op.bytesLess c b = false) : Op.bytesLess c a = false := by
  cases h : Op.bytesLess c a with
  | false => rfl
  | true =>
    cases h3 : Op.bytesLess a b with
    | false => have := less_total h3 h1; subst this; rw [h] at h2; cases h2
    | true => rw [less_trans _ _ _ h h3] at h2; cases h2
end Go.Proofs.Ytmhcmcdppimcpaa.Ord
