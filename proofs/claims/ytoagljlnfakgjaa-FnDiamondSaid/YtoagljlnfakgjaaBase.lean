/- Plain lemmas on bytes, texts and rounds that this seat's pure statements share. Nothing of the program stands here. -/
import Derived.Test.YtoagljlnfakgjaaWWords
import Derived.Test.YtoagljlnfakgjaaWLast
import Derived.Test.YtoagljlnfakgjaaWMore
namespace Go.Proofs.Ytoagljlnfakgjaa.Base
open Go.RowKit Go.Proofs.YtoagljlnfakgjaaW.PrintWords Go.Proofs.YtoagljlnfakgjaaW.PrintLast

/-! ### rounds -/
theorem ev_pos {α : Type} {c : Prop} [Decidable c] {A B : Nat → Option α} {r : α} (h : c) (k : Ev A r) : Ev (fun n => if c then A n else B n) r :=
  Ev.congr (fun _ => if_pos h) k
theorem ev_neg {α : Type} {c : Prop} [Decidable c] {A B : Nat → Option α} {r : α} (h : ¬ c) (k : Ev B r) : Ev (fun n => if c then A n else B n) r :=
  Ev.congr (fun _ => if_neg h) k
theorem ev_some {α β : Type} {a : α} {f : Nat → α → Option β} {r : β} (k : Ev (fun n => f n a) r) : Ev (fun n => (some a).bind (f n)) r :=
  Ev.congr (fun _ => rfl) k
theorem ev_eq {α β : Type} {o : Option α} {a : α} {f : Nat → α → Option β} {r : β} (h : o = some a) (k : Ev (fun n => f n a) r) : Ev (fun n => o.bind (f n)) r := by
  subst h; exact k
theorem ev_val {α : Type} {g : Nat → Option α} {r r' : α} (h : Ev g r) (e : r = r') : Ev g r' := e ▸ h
theorem ev_val' {α : Type} {g f : Nat → Option α} {r : α} (e : ∀ k, f k = g k) (h : Ev f r) : Ev g r := Ev.congr (fun k => (e k).symm) h
theorem ev_ret {α : Type} {a r : α} (e : a = r) : Ev (fun _ => some a) r := e ▸ Ev.now a
theorem ev_if {α : Type} {c : Prop} [Decidable c] {A B : Nat → Option α} {r : α} (h : c → Ev A r) (k : ¬ c → Ev B r) : Ev (fun n => if c then A n else B n) r := by
  by_cases hc : c
  · exact ev_pos hc (h hc)
  · exact ev_neg hc (k hc)

/-! ### numbers -/
theorem wrap_id {x : Int} (h0 : -9223372036854775808 ≤ x) (h1 : x ≤ 9223372036854775807) : wrap64 x = x := by unfold wrap64; omega
theorem wrap_succ (i : Nat) (h : i ≤ 4611686018427387904) : wrap64 ((i : Int) + 1) = ((i + 1 : Nat) : Int) := by unfold wrap64; omega

/-! ### bytes -/
def openB (c : Int) : Bool := decide (65 ≤ c ∧ c ≤ 70)
def plainB (c : Int) : Bool := decide (97 ≤ c ∧ c ≤ 122) || decide (48 ≤ c ∧ c ≤ 57) || decide (c = 32) || decide (c = 46) || decide (c = 44)
def okB (c : Int) : Bool := openB c || plainB c || decide (c = 47)
theorem drop_bytes (s : ByteArray) (i : Nat) (h : i < s.size) : (bytesOf s).drop i = bt s i :: (bytesOf s).drop (i + 1) := by
  have h' : i < (bytesOf s).length := by rw [bytesOf_length]; exact h
  rw [List.drop_eq_getElem_cons h']
  congr 1
  have := rd_bytesOf s (i : Int)
  unfold rd at this
  simp only [Int.toNat_natCast] at this
  rw [← this, List.getD_eq_getElem?_getD, List.getElem?_eq_getElem h']
  rfl
theorem drop_end (s : ByteArray) (i : Nat) (h : s.size ≤ i) : (bytesOf s).drop i = [] := by
  apply List.drop_eq_nil_of_le; rw [bytesOf_length]; exact h
def textB (l : List Int) : Bool := l.all okB
def goodB (l : List Int) : Bool := textB l && decide (l.length ≤ 300)

theorem isE (l : List UInt8) : l.isEmpty = !(l != []) := by cases l <;> rfl
/-! ### rows -/
/-- An element of a row, by its place. -/
def gt {α : Type} (z : α) (l : List α) (i : Nat) : α := l.getD i z
theorem gt_drop {α : Type} (z : α) (l : List α) (i : Nat) (h : i < l.length) : l.drop i = gt z l i :: l.drop (i + 1) := by
  unfold gt; rw [List.drop_eq_getElem_cons h, List.getD_eq_getElem?_getD, List.getElem?_eq_getElem h]; rfl
theorem gt_mem {α : Type} (z : α) (l : List α) (i : Nat) (h : i < l.length) : gt z l i ∈ l := by
  unfold gt; rw [List.getD_eq_getElem?_getD, List.getElem?_eq_getElem h]; exact List.getElem_mem h
theorem gt_take {α : Type} (z : α) (l : List α) (i : Nat) (h : i < l.length) : l.take (i + 1) = l.take i ++ [gt z l i] := by
  unfold gt; rw [List.take_succ_eq_append_getElem h, List.getD_eq_getElem?_getD, List.getElem?_eq_getElem h]; rfl
theorem gt_set {α : Type} (z : α) (l : List α) (i : Nat) (v : α) (h : i < l.length) : gt z (l.set i v) i = v := by
  unfold gt; rw [List.getD_eq_getElem?_getD, List.getElem?_set_self h]; rfl
theorem getD_drop {α : Type} (l : List α) (z : α) (i : Nat) (h : i < l.length) : l.drop i = l.getD i z :: l.drop (i + 1) := by
  rw [List.drop_eq_getElem_cons h, List.getD_eq_getElem?_getD, List.getElem?_eq_getElem h]; rfl
theorem getD_mem {α : Type} (l : List α) (z : α) (i : Nat) (h : i < l.length) : l.getD i z ∈ l := by
  rw [List.getD_eq_getElem?_getD, List.getElem?_eq_getElem h]; exact List.getElem_mem h
/-- What is left of a size when lengths are taken off one by one, -1 where it is not enough. -/
def szF (left : Int) : List Nat → Int
  | [] => left
  | n :: r => if left - n < 0 then -1 else szF (left - n) r
theorem szF_sum : ∀ (l : List Nat) (left : Int), 0 ≤ left → 0 ≤ szF left l → (l.sum : Int) ≤ left
  | [], left, h, _ => by simpa using h
  | n :: r, left, h, h2 => by
    unfold szF at h2
    by_cases c : left - n < 0
    · rw [if_pos c] at h2; omega
    · rw [if_neg c] at h2
      have := szF_sum r (left - n) (by omega) h2
      simp only [List.sum_cons, Int.natCast_add]; omega
theorem le_sum {l : List Nat} {n : Nat} (h : n ∈ l) : n ≤ l.sum := by
  induction l with
  | nil => cases h
  | cons a r ih =>
    rw [List.sum_cons]
    rcases List.mem_cons.1 h with rfl | h
    · omega
    · have := ih h; omega
theorem set_next {α : Type} (f : List α) (n : Nat) (z v : α) (i : Nat) (hi : f.length = i) (hn : i < n) :
    (f ++ List.replicate (n - i) z).set i v = (f ++ [v]) ++ List.replicate (n - (i + 1)) z := by
  obtain ⟨m, hm⟩ : ∃ m, n - i = m + 1 := ⟨n - i - 1, by omega⟩
  have hm' : n - (i + 1) = m := by omega
  rw [hm, hm', List.replicate_succ, List.set_append_right _ _ (by omega), hi, Nat.sub_self]
  simp

end Go.Proofs.Ytoagljlnfakgjaa.Base
