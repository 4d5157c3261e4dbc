/- Two laws of the walk: '>' and '<=' of two texts, said by 'less' of the two the other way round. Nothing of the program stands here. -/
import Derived.WalkKit
import Derived.Laws.Strings
namespace Go.Proofs.Ytoagljlnfakgjaa.Cmp
theorem less_swap : ∀ a b : List UInt8, (!(Op.bytesLess a b || a == b)) = Op.bytesLess b a
  | [], [] => by simp [Op.bytesLess]
  | [], _ :: _ => by simp [Op.bytesLess]
  | _ :: _, [] => by simp [Op.bytesLess]
  | x :: a, y :: b => by
    have ih := less_swap a b
    simp only [Op.bytesLess]
    rcases Nat.lt_trichotomy x.toNat y.toNat with h | h | h
    · have h1 : x < y := by simpa [UInt8.lt_iff_toNat_lt] using h
      have h2 : ¬ y < x := by simp only [UInt8.lt_iff_toNat_lt]; omega
      have h3 : ¬ y = x := fun e => by subst e; omega
      simp [h1, h2, h3]
    · have h3 : x = y := UInt8.toNat_inj.1 h
      subst h3
      have h2 : ¬ x < x := by simp only [UInt8.lt_iff_toNat_lt]; omega
      simp only [h2, decide_false, Bool.false_or, beq_self_eq_true, Bool.true_and, List.cons_beq_cons]
      exact ih
    · have h1 : ¬ x < y := by simp only [UInt8.lt_iff_toNat_lt]; omega
      have h2 : y < x := by simpa [UInt8.lt_iff_toNat_lt] using h
      have h3 : ¬ x = y := fun e => by subst e; omega
      simp [h1, h2, h3]
@[go_sem] theorem binOp_string_gtr_ (t : TypeId) (a b : ByteArray) : binOp .gtr t (.string a) (.string b) = pure (.bool (Op.bytesLess b.toList a.toList)) := by
  rw [← less_swap]; simp [binOp, Op.stringOp]
@[go_sem] theorem binOp_string_leq_ (t : TypeId) (a b : ByteArray) : binOp .leq t (.string a) (.string b) = pure (.bool (!(Op.bytesLess b.toList a.toList))) := by
  rw [← less_swap, Bool.not_not]; simp [binOp, Op.stringOp]
@[go_sem] theorem binOp_string_geq_ (t : TypeId) (a b : ByteArray) : binOp .geq t (.string a) (.string b) = pure (.bool (!(Op.bytesLess a.toList b.toList))) := by simp [binOp, Op.stringOp]
end Go.Proofs.Ytoagljlnfakgjaa.Cmp
