/- FnNormal over plain functions: a drawn change that is brought to its normal form does what it did, twice is once, keep-all ahead of it is its normal form, and a splice does the splice; no condition. -/
import Derived.Test.YtlelpomnblaciaaPFnNormalx13
import Derived.Test.YtlelpomnblaciaaBase
import Derived.Test.YtlelpomnblaciaaMk
namespace Go.Proofs.Ytlelpomnblaciaa.Pure
open Go.RowKit Go.Proofs.Ytlelpomnblaciaa.PFnNormal Go.Proofs.YtlelpomnblaciaaW.PrintWords Go.Proofs.YtlelpomnblaciaaW.PrintLast Go.Proofs.Ytlelpomnblaciaa.Base Go.Proofs.Ytlelpomnblaciaa.Mk
set_option linter.unusedVariables false
set_option linter.unusedSimpArgs false
abbrev IP := S53
def izP : IP := z53
theorem rd_ip (l : List IP) (i : Nat) : rd_T53 l (i : Int) = gt izP l i := rfl
theorem toList_nil (s : ByteArray) : s.toList = ([] : List UInt8) ↔ s.size = 0 := by
 rw [← List.length_eq_zero_iff]
 have := data_length s
 rw [ByteArray.toList_eq, this]
theorem ba_nil {s : ByteArray} (h : s.size = 0) : s = (⟨#[]⟩ : ByteArray) := by
 obtain ⟨d⟩ := s
 have h' : d.size = 0 := h
 rw [Array.size_eq_zero_iff.1 h']
theorem ba_app (s : ByteArray) : s ++ (⟨#[]⟩ : ByteArray) = s := by
 apply ByteArray.ext; rw [ByteArray.data_append]; simp
theorem ba_len_app (a b : ByteArray) : (a ++ b).size = a.size + b.size := ByteArray.size_append
theorem nil_nil : (⟨#[]⟩ : ByteArray).toList = ([] : List UInt8) := (toList_nil _).2 rfl
/-- A part with one side at most. -/
def One (p : IP) : Prop := 0 ≤ p.f0 ∧ p.f0 ≤ 300 ∧ p.f1.size ≤ 300 ∧ p.f2.size ≤ 300 ∧ (p.f0 = 0 ∨ (p.f1.size = 0 ∧ p.f2.size = 0)) ∧ (p.f1.size = 0 ∨ p.f2.size = 0)
theorem set_last (m : List IP) (z v : IP) : (m ++ [z]).set m.length v = m ++ [v] := by
 rw [List.set_append_right _ _ (Nat.le_refl _), Nat.sub_self]; rfl
theorem set_last2 (m : List IP) (y z v : IP) : (m ++ [y, z]).set m.length v = m ++ [v, z] := by
 rw [List.set_append_right _ _ (Nat.le_refl _), Nat.sub_self]; rfl
theorem gt_app_2 (m : List IP) (y z : IP) : gt izP (m ++ [y, z]) m.length = y := by
 unfold gt; rw [List.getD_eq_getElem?_getD, List.getElem?_append_right (Nat.le_refl _)]; simp
theorem gt_app_1 (m : List IP) (z : IP) : gt izP (m ++ [z]) m.length = z := by
 unfold gt; rw [List.getD_eq_getElem?_getD, List.getElem?_append_right (Nat.le_refl _)]; simp
theorem len_m1 (m : List IP) (z : IP) (h : m.length ≤ 100000) : wrap64 (((m ++ [z]).length : Int) - 1) = (m.length : Int) := by
 rw [List.length_append, List.length_singleton, wrap_id (by omega) (by omega)]; omega
/-- Nothing is put behind. -/
theorem add_none (l : List IP) (p : IP) (h0 : p.f0 = 0) (h1 : p.f1.size = 0) (h2 : p.f2.size = 0) : Ev (fun k => spec_l3Add.f k l p.f0 p.f1 p.f2) l := by
 unfold spec_l3Add.f
 rw [beq_iff_eq.2 ((toList_nil _).2 h2)]
 refine ev_pos h0 (ev_pos ((toList_nil _).2 h1) ?_)
 refine Ev.step (fun k => by rw [spec_l3Add.j0]) ?_
 exact ev_pos rfl (ev_ret rfl)
/-- Where the part is one, the walk begins at j0. -/
theorem add_start (l : List IP) (p : IP) (h : p.f0 ≠ 0 ∨ p.f1.size ≠ 0 ∨ p.f2.size ≠ 0) {r : List IP} (hr : Ev (fun k => spec_l3Add.j0 k l (l.length : Int) false p.f0 p.f1 p.f2) r) : Ev (fun k => spec_l3Add.f k l p.f0 p.f1 p.f2) r := by
 unfold spec_l3Add.f
 refine ev_if (fun h0 => ev_if (fun h1 => ?_) (fun _ => hr)) (fun _ => hr)
 rw [toList_nil] at h1
 have h2 : ¬ p.f2.toList = ([] : List UInt8) := by rw [toList_nil]; omega
 rw [beq_eq_false_iff_ne.2 h2]; exact hr
theorem add_first (p : IP) (h : p.f0 ≠ 0 ∨ p.f1.size ≠ 0 ∨ p.f2.size ≠ 0) : Ev (fun k => spec_l3Add.f k [] p.f0 p.f1 p.f2) [p] := by
 refine add_start [] p h ?_
 refine Ev.step (fun k => by rw [spec_l3Add.j0]) ?_
 exact ev_neg (by simp) (ev_pos (by simp) (ev_pos (by simp) (ev_ret rfl)))
theorem add_j1 (m : List IP) (z p : IP) (hm : m.length ≤ 100000) (h : p.f0 ≠ 0 ∨ p.f1.size ≠ 0 ∨ p.f2.size ≠ 0) {r : List IP}
  (hr : Ev (fun k => spec_l3Add.j1 k (m ++ [z]) ((m ++ [z]).length : Int) (decide (p.f0 > 0 ∧ z.f0 > 0)) p.f0 p.f1 p.f2 z.f0 z.f1 z.f2) r) : Ev (fun k => spec_l3Add.f k (m ++ [z]) p.f0 p.f1 p.f2) r := by
 refine add_start _ p h ?_
 refine Ev.step (fun k => by rw [spec_l3Add.j0]) ?_
 rw [len_m1 m z hm, rd_ip, gt_app_1]
 have hl : (m ++ [z]).length = m.length + 1 := by rw [List.length_append, List.length_singleton]
 refine ev_neg (by simp) (ev_neg (by omega) (ev_pos (by omega) (ev_pos (by omega) (ev_if (fun c => ?_) (fun c => ?_)))))
 ·simp only [c, true_and] at hr; exact hr
 ·rw [decide_eq_false (fun q => c q.1)] at hr; exact hr
theorem add_j2 (m : List IP) (z p : IP) (hm : m.length ≤ 100000) (h : p.f0 ≠ 0 ∨ p.f1.size ≠ 0 ∨ p.f2.size ≠ 0) (h1 : ¬ (p.f0 > 0 ∧ z.f0 > 0)) {r : List IP}
  (hr : Ev (fun k => spec_l3Add.j2 k (m ++ [z]) ((m ++ [z]).length : Int) (decide (p.f2.size ≠ 0 ∧ z.f2.size ≠ 0)) p.f0 p.f1 p.f2 z.f0 z.f1 z.f2) r) : Ev (fun k => spec_l3Add.f k (m ++ [z]) p.f0 p.f1 p.f2) r := by
 refine add_j1 m z p hm h ?_
 rw [decide_eq_false h1]
 refine Ev.step (fun k => by rw [spec_l3Add.j1]) ?_
 refine ev_neg (by simp) (ev_if (fun c => ?_) (fun c => ?_))
 ·rw [toList_nil] at c
  rw [decide_eq_false (fun q => q.1 c)] at hr; exact hr
 ·rw [toList_nil] at c
  have e : (z.f2.toList != ([] : List UInt8)) = decide (p.f2.size ≠ 0 ∧ z.f2.size ≠ 0) := by
   by_cases q : z.f2.size = 0
   ·rw [decide_eq_false (fun x => x.2 q), bne_eq_false_iff_eq]; exact (toList_nil _).2 q
   ·rw [decide_eq_true ⟨c, q⟩, bne_iff_ne]; exact fun x => q ((toList_nil _).1 x)
  rw [e]; exact hr
theorem add_j3 (m : List IP) (z p : IP) (hm : m.length ≤ 100000) (h : p.f0 ≠ 0 ∨ p.f1.size ≠ 0 ∨ p.f2.size ≠ 0) (h1 : ¬ (p.f0 > 0 ∧ z.f0 > 0)) (h2 : ¬ (p.f2.size ≠ 0 ∧ z.f2.size ≠ 0)) {r : List IP}
  (hr : Ev (fun k => spec_l3Add.j3 k (m ++ [z]) ((m ++ [z]).length : Int) (decide (p.f1.size ≠ 0 ∧ z.f1.size ≠ 0)) p.f0 p.f1 p.f2 z.f0 z.f1 z.f2) r) : Ev (fun k => spec_l3Add.f k (m ++ [z]) p.f0 p.f1 p.f2) r := by
 refine add_j2 m z p hm h h1 ?_
 rw [decide_eq_false h2]
 refine Ev.step (fun k => by rw [spec_l3Add.j2]) ?_
 refine ev_neg (by simp) (ev_if (fun c => ?_) (fun c => ?_))
 ·rw [toList_nil] at c
  rw [decide_eq_false (fun q => q.1 c)] at hr; exact hr
 ·rw [toList_nil] at c
  have e : (z.f1.toList != ([] : List UInt8)) = decide (p.f1.size ≠ 0 ∧ z.f1.size ≠ 0) := by
   by_cases q : z.f1.size = 0
   ·rw [decide_eq_false (fun x => x.2 q), bne_eq_false_iff_eq]; exact (toList_nil _).2 q
   ·rw [decide_eq_true ⟨c, q⟩, bne_iff_ne]; exact fun x => q ((toList_nil _).1 x)
  rw [e]; exact hr
theorem add_j4 (m : List IP) (z p : IP) (hm : m.length ≤ 100000) (h : p.f0 ≠ 0 ∨ p.f1.size ≠ 0 ∨ p.f2.size ≠ 0) (h1 : ¬ (p.f0 > 0 ∧ z.f0 > 0)) (h2 : ¬ (p.f2.size ≠ 0 ∧ z.f2.size ≠ 0)) (h3 : ¬ (p.f1.size ≠ 0 ∧ z.f1.size ≠ 0)) {r : List IP}
  (hr : Ev (fun k => spec_l3Add.j4 k (m ++ [z]) ((m ++ [z]).length : Int) (decide (p.f1.size ≠ 0 ∧ z.f2.size ≠ 0)) p.f0 p.f1 p.f2 z.f0 z.f1 z.f2) r) : Ev (fun k => spec_l3Add.f k (m ++ [z]) p.f0 p.f1 p.f2) r := by
 refine add_j3 m z p hm h h1 h2 ?_
 rw [decide_eq_false h3]
 refine Ev.step (fun k => by rw [spec_l3Add.j3]) ?_
 refine ev_neg (by simp) (ev_if (fun c => ?_) (fun c => ?_))
 ·rw [toList_nil] at c
  rw [decide_eq_false (fun q => q.1 c)] at hr; exact hr
 ·rw [toList_nil] at c
  have e : (z.f2.toList != ([] : List UInt8)) = decide (p.f1.size ≠ 0 ∧ z.f2.size ≠ 0) := by
   by_cases q : z.f2.size = 0
   ·rw [decide_eq_false (fun x => x.2 q), bne_eq_false_iff_eq]; exact (toList_nil _).2 q
   ·rw [decide_eq_true ⟨c, q⟩, bne_iff_ne]; exact fun x => q ((toList_nil _).1 x)
  rw [e]; exact hr
/-- Both keep. -/
theorem add_keep (m : List IP) (z p : IP) (hm : m.length ≤ 100000) (h1 : p.f0 > 0 ∧ z.f0 > 0) : Ev (fun k => spec_l3Add.f k (m ++ [z]) p.f0 p.f1 p.f2) (m ++ [⟨wrap64 (z.f0 + p.f0), z.f1, z.f2⟩]) := by
 refine add_j1 m z p hm (.inl (by omega)) ?_
 rw [decide_eq_true h1]
 refine Ev.step (fun k => by rw [spec_l3Add.j1]) ?_
 rw [len_m1 m z hm, rd_ip, gt_app_1, Int.toNat_natCast, set_last]
 exact ev_pos rfl (ev_pos (by omega) (ev_pos (by rw [List.length_append, List.length_singleton]; omega) (ev_ret rfl)))
/-- Both drop. -/
theorem add_drop (m : List IP) (z p : IP) (hm : m.length ≤ 100000) (h1 : ¬ (p.f0 > 0 ∧ z.f0 > 0)) (h2 : p.f2.size ≠ 0 ∧ z.f2.size ≠ 0) (hs : z.f2.size + p.f2.size ≤ 9223372036854775807) : Ev (fun k => spec_l3Add.f k (m ++ [z]) p.f0 p.f1 p.f2) (m ++ [⟨z.f0, z.f1, z.f2 ++ p.f2⟩]) := by
 refine add_j2 m z p hm (.inr (.inr h2.1)) h1 ?_
 rw [decide_eq_true h2]
 refine Ev.step (fun k => by rw [spec_l3Add.j2]) ?_
 rw [len_m1 m z hm, rd_ip, gt_app_1, Int.toNat_natCast, set_last]
 exact ev_pos rfl (ev_pos (by omega) (ev_pos (by rw [List.length_append, List.length_singleton]; omega) (ev_pos hs (ev_ret rfl))))
/-- Both put. -/
theorem add_put (m : List IP) (z p : IP) (hm : m.length ≤ 100000) (h1 : ¬ (p.f0 > 0 ∧ z.f0 > 0)) (h2 : ¬ (p.f2.size ≠ 0 ∧ z.f2.size ≠ 0)) (h3 : p.f1.size ≠ 0 ∧ z.f1.size ≠ 0) (hs : z.f1.size + p.f1.size ≤ 9223372036854775807) : Ev (fun k => spec_l3Add.f k (m ++ [z]) p.f0 p.f1 p.f2) (m ++ [⟨z.f0, z.f1 ++ p.f1, z.f2⟩]) := by
 refine add_j3 m z p hm (.inr (.inl h3.1)) h1 h2 ?_
 rw [decide_eq_true h3]
 refine Ev.step (fun k => by rw [spec_l3Add.j3]) ?_
 rw [len_m1 m z hm, rd_ip, gt_app_1, Int.toNat_natCast, set_last]
 exact ev_pos rfl (ev_pos (by omega) (ev_pos (by rw [List.length_append, List.length_singleton]; omega) (ev_pos hs (ev_ret rfl))))
/-- Nothing joins. -/
theorem add_apart (m : List IP) (z p : IP) (hm : m.length ≤ 100000) (h : p.f0 ≠ 0 ∨ p.f1.size ≠ 0 ∨ p.f2.size ≠ 0) (h1 : ¬ (p.f0 > 0 ∧ z.f0 > 0)) (h2 : ¬ (p.f2.size ≠ 0 ∧ z.f2.size ≠ 0)) (h3 : ¬ (p.f1.size ≠ 0 ∧ z.f1.size ≠ 0)) (h4 : ¬ (p.f1.size ≠ 0 ∧ z.f2.size ≠ 0)) : Ev (fun k => spec_l3Add.f k (m ++ [z]) p.f0 p.f1 p.f2) (m ++ [z, p]) := by
 refine add_j4 m z p hm h h1 h2 h3 ?_
 rw [decide_eq_false h4]
 refine Ev.step (fun k => by rw [spec_l3Add.j4]) ?_
 exact ev_neg (by simp) (ev_pos (by rw [List.length_append, List.length_singleton]; omega) (ev_ret (by rw [List.append_assoc]; rfl)))
/-- A put goes ahead of a drop. -/
theorem add_ahead1 (z p : IP) (h1 : ¬ (p.f0 > 0 ∧ z.f0 > 0)) (h2 : ¬ (p.f2.size ≠ 0 ∧ z.f2.size ≠ 0)) (h3 : ¬ (p.f1.size ≠ 0 ∧ z.f1.size ≠ 0)) (h4 : p.f1.size ≠ 0 ∧ z.f2.size ≠ 0) : Ev (fun k => spec_l3Add.f k [z] p.f0 p.f1 p.f2) [p, z] := by
 refine add_j4 [] z p (by simp) (.inr (.inl h4.1)) h1 h2 h3 ?_
 rw [decide_eq_true h4]
 refine Ev.step (fun k => by rw [spec_l3Add.j4]) ?_
 rw [len_m1 [] z (by simp), Int.toNat_natCast, set_last]
 exact ev_pos rfl (ev_neg (by simp) (ev_pos (by simp) (ev_pos (by simp) (ev_eq rfl (ev_pos (by simp) (ev_ret rfl))))))
theorem len_m2 (m : List IP) (y z : IP) (h : m.length ≤ 90000) : wrap64 (((m ++ [y, z]).length : Int) - 2) = (m.length : Int) := by
 have : (m ++ [y, z]).length = m.length + 2 := by rw [List.length_append]; rfl
 rw [this, wrap_id (by omega) (by omega)]; omega
theorem add_ahead2 (m : List IP) (y z p : IP) (hm : m.length ≤ 90000) (h1 : ¬ (p.f0 > 0 ∧ z.f0 > 0)) (h2 : ¬ (p.f2.size ≠ 0 ∧ z.f2.size ≠ 0)) (h3 : ¬ (p.f1.size ≠ 0 ∧ z.f1.size ≠ 0)) (h4 : p.f1.size ≠ 0 ∧ z.f2.size ≠ 0) (hs : y.f1.size + p.f1.size ≤ 9223372036854775807) :
  Ev (fun k => spec_l3Add.f k (m ++ [y, z]) p.f0 p.f1 p.f2) (if y.f1.size = 0 then m ++ [y, p, z] else m ++ [⟨y.f0, y.f1 ++ p.f1, y.f2⟩, z]) := by
 have em : m ++ [y, z] = (m ++ [y]) ++ [z] := by rw [List.append_assoc]; rfl
 have hl1 : (m ++ [y]).length = m.length + 1 := by rw [List.length_append, List.length_singleton]
 have hl2 : (m ++ [y, z]).length = m.length + 2 := by rw [List.length_append]; rfl
 rw [em]
 refine add_j4 (m ++ [y]) z p (by omega) (.inr (.inl h4.1)) h1 h2 h3 ?_
 rw [decide_eq_true h4]
 refine Ev.step (fun k => by rw [spec_l3Add.j4]) ?_
 rw [len_m1 (m ++ [y]) z (by omega), Int.toNat_natCast, set_last]
 rw [← em, len_m2 m y z hm, rd_ip, gt_app_2, Int.toNat_natCast, set_last2]
 refine ev_pos rfl (ev_pos (by omega) (ev_pos (by omega) (ev_pos (by omega) (ev_if (fun c => ?_) (fun c => ?_)))))
 ·rw [toList_nil] at c
  rw [if_pos c]
  refine ev_pos (by omega) (ev_pos (by omega) (ev_eq rfl (ev_pos (by rw [List.length_append, List.length_singleton]; omega) (ev_ret ?_))))
  rw [List.append_assoc, List.append_assoc]; rfl
 ·rw [toList_nil] at c
  rw [if_neg c]
  exact ev_pos hs (ev_ret rfl)
/-- The state of the maker is that of the reference: the parts so far, and what is held back. -/
structure Fit (n : Nat) (s : List Pt × ByteArray × ByteArray) : Prop where
 last : s.1 = [] ∨ ∃ m x, s.1 = m ++ [(x, (⟨#[]⟩ : ByteArray), (⟨#[]⟩ : ByteArray))] ∧ 0 < x ∧ x ≤ 300 * (n : Int)
 len : s.1.length ≤ 3 * n
 put : s.2.1.size ≤ 300 * n
 drop : s.2.2.size ≤ 300 * n
def allP (s : List Pt × ByteArray × ByteArray) : List IP := (s.1 ++ endL s.2.1 s.2.2).map ofP
theorem endL_00 {a b : ByteArray} (ha : a.size = 0) (hb : b.size = 0) : endL a b = [] := by
 unfold endL; rw [if_pos ((toList_nil _).2 ha), if_pos ((toList_nil _).2 hb)]; rfl
theorem endL_10 {a b : ByteArray} (ha : a.size ≠ 0) (hb : b.size = 0) : endL a b = [(0, a, ⟨#[]⟩)] := by
 unfold endL; rw [if_neg (fun e => ha ((toList_nil _).1 e)), if_pos ((toList_nil _).2 hb)]; rfl
theorem endL_01 {a b : ByteArray} (ha : a.size = 0) (hb : b.size ≠ 0) : endL a b = [(0, ⟨#[]⟩, b)] := by
 unfold endL; rw [if_pos ((toList_nil _).2 ha), if_neg (fun e => hb ((toList_nil _).1 e))]; rfl
theorem endL_11 {a b : ByteArray} (ha : a.size ≠ 0) (hb : b.size ≠ 0) : endL a b = [(0, a, ⟨#[]⟩), (0, ⟨#[]⟩, b)] := by
 unfold endL; rw [if_neg (fun e => ha ((toList_nil _).1 e)), if_neg (fun e => hb ((toList_nil _).1 e))]; rfl
theorem endL_len (a b : ByteArray) : (endL a b).length ≤ 2 := by unfold endL; rw [List.length_append]; split <;> split <;> simp
theorem sz0 : (⟨#[]⟩ : ByteArray).size = 0 := rfl
theorem keepA_app (m : List Pt) (q : Pt) (x : Int) : keepA (m ++ [q]) x = if q.1 > 0 then m ++ [(wrap64 (q.1 + x), q.2.1, q.2.2)] else m ++ [q, (x, ⟨#[]⟩, ⟨#[]⟩)] := by
 unfold keepA
 rw [List.getLast?_append]
 simp only [List.getLast?_singleton, Option.some_or]
 split
 ·rw [List.dropLast_concat]
 ·rw [List.append_assoc]; rfl
/-- One part more, by the maker and by the reference. -/
theorem add_step (n : Nat) (s : List Pt × ByteArray × ByteArray) (p : IP) (hn : n ≤ 1000) (hf : Fit n s) (hp : One p) :
  Ev (fun k => spec_l3Add.f k (allP s) p.f0 p.f1 p.f2) (allP (takeP s (toP p))) ∧ Fit (n + 1) (takeP s (toP p)) := by
 obtain ⟨l, a, b⟩ := s
 obtain ⟨f1, f2, f3, f4⟩ := hf
 obtain ⟨p0, p1, p2⟩ := p
 obtain ⟨q1, q2, q3, q4, q5, q6⟩ := hp
 simp only at f1 f2 f3 f4 q1 q2 q3 q4 q5 q6
 have hel := endL_len a b
 by_cases h0 : p0 = 0
 ·-- nothing is kept
  subst h0
  have et : takeP (l, a, b) (toP ⟨0, p1, p2⟩) = (l, a ++ p1, b ++ p2) := rfl
  rw [et]
  refine ⟨?_, ?_⟩
  ·unfold allP
   simp only
   by_cases h1 : p1.size = 0
   ·by_cases h2 : p2.size = 0
    ·rw [ba_nil h1, ba_nil h2, ba_app, ba_app]
     exact add_none _ ⟨0, ⟨#[]⟩, ⟨#[]⟩⟩ rfl rfl rfl
    ·rw [ba_nil h1, ba_app]
     by_cases hb : b.size = 0
     ·rw [ba_nil hb, show (⟨#[]⟩ : ByteArray) ++ p2 = p2 by apply ByteArray.ext; rw [ByteArray.data_append]; simp]
      by_cases ha : a.size = 0
      ·rw [endL_00 ha sz0, endL_01 ha h2, List.append_nil, List.map_append]
       rcases f1 with e | ⟨m, x, e, hx, _⟩
       ·rw [e]; exact add_first ⟨0, ⟨#[]⟩, p2⟩ (.inr (.inr h2))
       ·rw [e, List.map_append]
        have := add_apart (m.map ofP) (ofP (x, ⟨#[]⟩, ⟨#[]⟩)) ⟨0, ⟨#[]⟩, p2⟩ (by rw [e] at f2; simp at f2 ⊢; omega) (.inr (.inr h2)) (by simp) (by simp [ofP, sz0]) (by simp [sz0]) (by simp [sz0])
        rw [List.append_assoc]; exact this
      ·rw [endL_10 ha sz0, endL_11 ha h2, List.map_append, List.map_append]
       exact add_apart (l.map ofP) (ofP (0, a, ⟨#[]⟩)) ⟨0, ⟨#[]⟩, p2⟩ (by rw [List.length_map]; omega) (.inr (.inr h2)) (by simp) (by simp [ofP, sz0]) (by simp [sz0]) (by simp [sz0])
     ·have hb2 : (b ++ p2).size ≠ 0 := by rw [ba_len_app]; omega
      by_cases ha : a.size = 0
      ·rw [endL_01 ha hb, endL_01 ha hb2, List.map_append, List.map_append]
       exact add_drop (l.map ofP) (ofP (0, ⟨#[]⟩, b)) ⟨0, ⟨#[]⟩, p2⟩ (by rw [List.length_map]; omega) (by simp) ⟨h2, hb⟩ (by simp only [ofP]; omega)
      ·rw [endL_11 ha hb, endL_11 ha hb2, List.map_append, List.map_append]
       have := add_drop (l.map ofP ++ [ofP (0, a, ⟨#[]⟩)]) (ofP (0, ⟨#[]⟩, b)) ⟨0, ⟨#[]⟩, p2⟩ (by rw [List.length_append, List.length_map, List.length_singleton]; omega) (by simp) ⟨h2, hb⟩ (by simp only [ofP]; omega)
       rw [List.append_assoc, List.append_assoc] at this; exact this
   ·have h2 : p2.size = 0 := by omega
    rw [ba_nil h2, ba_app]
    by_cases ha : a.size = 0
    ·rw [ba_nil ha, show (⟨#[]⟩ : ByteArray) ++ p1 = p1 by apply ByteArray.ext; rw [ByteArray.data_append]; simp]
     by_cases hb : b.size = 0
     ·rw [endL_00 sz0 hb, endL_10 h1 hb, List.append_nil, List.map_append]
      rcases f1 with e | ⟨m, x, e, hx, _⟩
      ·rw [e]; exact add_first ⟨0, p1, ⟨#[]⟩⟩ (.inr (.inl h1))
      ·rw [e, List.map_append]
       have := add_apart (m.map ofP) (ofP (x, ⟨#[]⟩, ⟨#[]⟩)) ⟨0, p1, ⟨#[]⟩⟩ (by rw [e] at f2; simp at f2 ⊢; omega) (.inr (.inl h1)) (by simp) (by simp [ofP, sz0]) (by simp [ofP, sz0]) (by simp [ofP, sz0])
       rw [List.append_assoc]; exact this
     ·rw [endL_01 sz0 hb, endL_11 h1 hb, List.map_append, List.map_append]
      rcases f1 with e | ⟨m, x, e, hx, _⟩
      ·rw [e]; exact add_ahead1 (ofP (0, ⟨#[]⟩, b)) ⟨0, p1, ⟨#[]⟩⟩ (by simp) (by simp [sz0]) (by simp [ofP, sz0]) ⟨h1, hb⟩
      ·rw [e, List.map_append]
       have := add_ahead2 (m.map ofP) (ofP (x, ⟨#[]⟩, ⟨#[]⟩)) (ofP (0, ⟨#[]⟩, b)) ⟨0, p1, ⟨#[]⟩⟩ (by rw [e] at f2; simp at f2 ⊢; omega) (by simp) (by simp [sz0]) (by simp [ofP, sz0]) ⟨h1, hb⟩ (by simp only [ofP, sz0]; omega)
       rw [if_pos (by rfl)] at this
       rw [List.append_assoc, List.append_assoc]; exact this
    ·have ha2 : (a ++ p1).size ≠ 0 := by rw [ba_len_app]; omega
     by_cases hb : b.size = 0
     ·rw [endL_10 ha hb, endL_10 ha2 hb, List.map_append, List.map_append]
      exact add_put (l.map ofP) (ofP (0, a, ⟨#[]⟩)) ⟨0, p1, ⟨#[]⟩⟩ (by rw [List.length_map]; omega) (by simp) (by simp [sz0]) ⟨h1, ha⟩ (by simp only [ofP]; omega)
     ·rw [endL_11 ha hb, endL_11 ha2 hb, List.map_append, List.map_append]
      have := add_ahead2 (l.map ofP) (ofP (0, a, ⟨#[]⟩)) (ofP (0, ⟨#[]⟩, b)) ⟨0, p1, ⟨#[]⟩⟩ (by rw [List.length_map]; omega) (by simp) (by simp [sz0]) (by simp [ofP, sz0]) ⟨h1, hb⟩ (by simp only [ofP]; omega)
      rw [if_neg (by simp only [ofP]; exact ha)] at this
      exact this
  ·refine ⟨?_, by show l.length ≤ _; omega, by show (a ++ p1).size ≤ _; rw [ba_len_app]; omega, by show (b ++ p2).size ≤ _; rw [ba_len_app]; omega⟩
   rcases f1 with e | ⟨m, x, e, hx, hx2⟩
   ·exact .inl e
   ·exact .inr ⟨m, x, e, hx, by omega⟩
 ·-- bytes are kept
  obtain ⟨h1, h2⟩ := q5.resolve_left h0
  have hk : keepS l a b p0 = (keepA (l ++ endL a b) p0, ⟨#[]⟩, ⟨#[]⟩) := by unfold keepS; rw [if_neg h0]
  have et : takeP (l, a, b) (toP ⟨p0, p1, p2⟩) = (keepA (l ++ endL a b) p0, ⟨#[]⟩, ⟨#[]⟩) := by
   unfold takeP toP
   simp only [hk]
   rw [ba_nil h1, ba_nil h2, ba_app]
  rw [et, ba_nil h1, ba_nil h2]
  have hq : ∀ (M : List Pt) (q : Pt), l ++ endL a b = M ++ [q] → q.1 ≤ 300 * (n : Int) → (q.1 > 0 → q.2.1 = ⟨#[]⟩ ∧ q.2.2 = ⟨#[]⟩) →
    Ev (fun k => spec_l3Add.f k (allP (l, a, b)) p0 ⟨#[]⟩ ⟨#[]⟩) (allP (keepA (l ++ endL a b) p0, ⟨#[]⟩, ⟨#[]⟩)) ∧ Fit (n + 1) (keepA (l ++ endL a b) p0, ⟨#[]⟩, ⟨#[]⟩) := by
   intro M q e hq1 hq2
   have hML : M.length + 1 ≤ 3 * n + 2 := by
    have := congrArg List.length e
    rw [List.length_append, List.length_append, List.length_singleton] at this
    omega
   unfold allP
   simp only
   rw [endL_00 sz0 sz0, List.append_nil, e, keepA_app]
   by_cases hx : q.1 > 0
   ·rw [if_pos hx, List.map_append, List.map_append]
    refine ⟨add_keep (M.map ofP) (ofP q) ⟨p0, ⟨#[]⟩, ⟨#[]⟩⟩ (by rw [List.length_map]; omega) ⟨by simp only; omega, hx⟩, ?_⟩
    rw [wrap_id (by omega) (by omega)]
    obtain ⟨e1, e2⟩ := hq2 hx
    refine ⟨.inr ⟨M, q.1 + p0, by rw [e1, e2], by omega, by omega⟩, ?_, Nat.zero_le _, Nat.zero_le _⟩
    simp only [List.length_append, List.length_cons, List.length_nil]; omega
   ·rw [if_neg hx, List.map_append, List.map_append]
    refine ⟨add_apart (M.map ofP) (ofP q) ⟨p0, ⟨#[]⟩, ⟨#[]⟩⟩ (by rw [List.length_map]; omega) (.inl (by simp only; omega)) (fun c => hx c.2) (by simp [sz0]) (by simp [sz0]) (by simp [sz0]), ?_⟩
    refine ⟨.inr ⟨M ++ [q], p0, by rw [List.append_assoc]; rfl, by omega, by omega⟩, ?_, Nat.zero_le _, Nat.zero_le _⟩
    simp only [List.length_append, List.length_cons, List.length_nil]; omega
  by_cases ha : a.size = 0
  ·by_cases hb : b.size = 0
   ·rcases f1 with e | ⟨m, x, e, hx, hx2⟩
    ·subst e
     unfold allP
     rw [endL_00 ha hb]
     simp only [List.nil_append, List.map_nil]
     rw [endL_00 sz0 sz0]
     refine ⟨add_first ⟨p0, ⟨#[]⟩, ⟨#[]⟩⟩ (.inl h0), ⟨.inr ⟨[], p0, rfl, by omega, by omega⟩, by show 1 ≤ _; omega, Nat.zero_le _, Nat.zero_le _⟩⟩
    ·exact hq m (x, ⟨#[]⟩, ⟨#[]⟩) (by rw [endL_00 ha hb, List.append_nil]; exact e) (by simp only; omega) (fun _ => ⟨rfl, rfl⟩)
   ·exact hq l (0, ⟨#[]⟩, b) (by rw [endL_01 ha hb]) (by simp only; omega) (fun c => absurd c (by simp))
  ·by_cases hb : b.size = 0
   ·exact hq l (0, a, ⟨#[]⟩) (by rw [endL_10 ha hb]) (by simp only; omega) (fun c => absurd c (by simp))
   ·exact hq (l ++ [(0, a, ⟨#[]⟩)]) (0, ⟨#[]⟩, b) (by rw [endL_11 ha hb, List.append_assoc]; rfl) (by simp only; omega) (fun c => absurd c (by simp))
theorem fit_zero : Fit 0 ([], (⟨#[]⟩ : ByteArray), (⟨#[]⟩ : ByteArray)) := ⟨.inl rfl, Nat.le_refl _, Nat.le_refl _, Nat.le_refl _⟩
def normI (l : List IP) : List IP := (normP (l.map toP)).map ofP
theorem one_guard (l : List IP) (hl : l.length ≤ 60) (hp : ∀ p ∈ l, One p) : l.length ≤ 60 ∧ (l.all fun x => decide (x.f1.size ≤ 300 ∧ x.f2.size ≤ 300)) = true :=
 ⟨hl, List.all_eq_true.2 fun x hx => decide_eq_true ⟨(hp x hx).2.2.1, (hp x hx).2.2.2.1⟩⟩
theorem impl_normal_f (l : List IP) (hl : l.length ≤ 60) (hp : ∀ p ∈ l, One p) : impl_normal.f l = some (normI l) := by
 unfold impl_normal.f
 rw [if_pos (one_guard l hl hp)]; rfl
theorem normI_len (l : List IP) (hl : l.length ≤ 60) (hp : ∀ p ∈ l, One p) : (normI l).length ≤ 200 := by
 obtain ⟨b1, _, _⟩ := stN_bound l (fun x hx => ⟨(hp x hx).2.2.1, (hp x hx).2.2.2.1⟩) l.length (Nat.le_refl _)
 have e : stN l l.length = (l.map toP).foldl takeP ([], ⟨#[]⟩, ⟨#[]⟩) := by unfold stN; rw [List.take_of_length_le (Nat.le_refl _)]
 rw [e] at b1
 have := endL_len ((l.map toP).foldl takeP ([], ⟨#[]⟩, ⟨#[]⟩)).2.1 ((l.map toP).foldl takeP ([], ⟨#[]⟩, ⟨#[]⟩)).2.2
 unfold normI normP
 rw [List.length_map, List.length_append]; omega
theorem spec_l1In_f (a b c : Int) : spec_l1In.f a b c = some (decide (b ≤ a ∧ a ≤ c)) := by
 unfold spec_l1In.f; split <;> simp <;> omega
theorem spec_l1Open_f (c : Int) : spec_l1Open.f c = some (openB c) := by
 unfold spec_l1Open.f openB; split <;> simp <;> omega
theorem spec_l1Plain_f (c : Int) : spec_l1Plain.f c = some (plainB c) := by
 unfold spec_l1Plain.f plainB
 repeat' split
 all_goals (rw [Option.some.injEq, Bool.eq_iff_iff]; simp only [Bool.or_eq_true, decide_eq_true_eq, beq_iff_eq, true_iff]; omega)
theorem spec_l1Text_l (s : ByteArray) (hs : s.size ≤ 140737488351232) (d : Nat) : ∀ i : Nat, i + d = s.size → Ev (fun k => spec_l1Text.l0 k s (i : Int)) (textB ((bytesOf s).drop i)) := by
 induction d with
 | zero =>
  intro i hi
  refine Ev.step (fun k => by rw [spec_l1Text.l0]) ?_
  refine ev_neg (by omega) (ev_ret ?_)
  rw [drop_end s i (by omega)]; rfl
 | succ d ih =>
  intro i hi
  refine Ev.step (fun k => by rw [spec_l1Text.l0]) ?_
  refine ev_pos (by omega) (ev_pos (by omega) (ev_eq (spec_l1Open_f _) ?_))
  rw [drop_bytes s i (by omega), wrap_succ i (by omega)]
  have ih' := ih (i + 1) (by omega)
  refine ev_if (fun h => ev_val ih' (by simp [textB, okB, h])) (fun h => ?_)
  refine ev_eq (spec_l1Plain_f _) (ev_if (fun h2 => ev_val ih' (by simp [textB, okB, h2])) (fun h2 => ?_))
  refine ev_if (fun h3 => ev_val ih' (by simp [textB, okB, h3])) (fun h3 => ev_ret ?_)
  simp [textB, okB, h, h2, h3]
theorem spec_l1Text_f (s : ByteArray) (hs : s.size ≤ 140737488351232) : Ev (fun k => spec_l1Text.f k s) (textB (bytesOf s)) :=
 spec_l1Text_l s hs s.size 0 (by omega)
theorem spec_GoodText_f (s : ByteArray) (hs : s.size ≤ 140737488351232) : Ev (fun k => spec_GoodText.f k s) (goodB (bytesOf s)) := by
 unfold spec_GoodText.f goodB
 refine Ev.bind (spec_l1Text_f s hs) (ev_if (fun h => ev_ret ?_) (fun h => ev_ret ?_))
 ·rw [h, bytesOf_length, Bool.true_and]; congr 1; simp; omega
 ·simp at h; simp [h]
theorem impl_isName_f (c : Int) : impl_isName.f c = some (openB c) := by
 unfold impl_isName.f openB; split <;> simp <;> omega
theorem impl_isPlain_f (c : Int) : impl_isPlain.f c = some (plainB c) := by
 unfold impl_isPlain.f plainB
 repeat' split
 all_goals (rw [Option.some.injEq, Bool.eq_iff_iff]; simp only [Bool.or_eq_true, decide_eq_true_eq, beq_iff_eq, true_iff]; omega)
theorem impl_GoodText_l (s : ByteArray) (hs : s.size ≤ 140737488351232) (d : Nat) : ∀ i : Nat, i + d = s.size → Ev (fun k => impl_GoodText.l0 k s (s.size : Int) (i : Int)) (textB ((bytesOf s).drop i) && decide (s.size ≤ 300)) := by
 induction d with
 | zero =>
  intro i hi
  refine Ev.step (fun k => by rw [impl_GoodText.l0]) ?_
  refine ev_neg (by omega) (ev_ret ?_)
  rw [drop_end s i (by omega)]; simp [textB]; omega
 | succ d ih =>
  intro i hi
  refine Ev.step (fun k => by rw [impl_GoodText.l0]) ?_
  refine ev_pos (by omega) (ev_pos (by omega) (ev_pos (by omega) (ev_eq (impl_isName_f _) ?_)))
  rw [drop_bytes s i (by omega), wrap_succ i (by omega)]
  have ih' := ih (i + 1) (by omega)
  refine ev_if (fun h => ev_val ih' (by simp [textB, okB, h])) (fun h => ?_)
  refine ev_eq (impl_isPlain_f _) (ev_if (fun h2 => ev_val ih' (by simp [textB, okB, h2])) (fun h2 => ?_))
  refine ev_if (fun h3 => ev_val ih' (by simp [textB, okB, h3])) (fun h3 => ev_ret ?_)
  simp [textB, okB, h, h2, h3]
theorem impl_GoodText_f (s : ByteArray) (hs : s.size ≤ 140737488351232) : Ev (fun k => impl_GoodText.f k s) (goodB (bytesOf s)) := by
 unfold impl_GoodText.f
 refine ev_val (impl_GoodText_l s hs s.size 0 (by omega)) ?_
 simp [goodB, bytesOf_length]
def partB (p : IP) : Bool := if p.f0 = 0 then (if p.f1.toList = ([] : List UInt8) then (if p.f2.toList = ([] : List UInt8) then false else goodB (bytesOf p.f2)) else (if p.f2.toList = ([] : List UInt8) then goodB (bytesOf p.f1) else false)) else (decide (1 ≤ p.f0 ∧ p.f0 ≤ 300) && (decide (p.f1.toList = ([] : List UInt8)) && (p.f2.toList == ([] : List UInt8))))
theorem spec_l3Part_f (p : IP) (h1 : p.f1.size ≤ 140737488351232) (h2 : p.f2.size ≤ 140737488351232) : Ev (fun k => spec_l3Part.f k p.f0 p.f1 p.f2) (partB p) := by
 unfold spec_l3Part.f partB
 by_cases c0 : p.f0 = 0
 ·rw [if_pos c0]
  refine ev_pos c0 ?_
  by_cases c1 : p.f1.toList = ([] : List UInt8)
  ·rw [if_pos c1]
   refine ev_pos c1 ?_
   by_cases c2 : p.f2.toList = ([] : List UInt8)
   ·rw [if_pos c2]; exact ev_pos c2 (ev_ret rfl)
   ·rw [if_neg c2]; exact ev_neg c2 (Ev.bind (spec_GoodText_f _ h2) (ev_ret rfl))
  ·rw [if_neg c1]
   refine ev_neg c1 ?_
   by_cases c2 : p.f2.toList = ([] : List UInt8)
   ·rw [if_pos c2]; exact ev_pos c2 (Ev.bind (spec_GoodText_f _ h1) (ev_ret rfl))
   ·rw [if_neg c2]; exact ev_neg c2 (ev_ret rfl)
 ·rw [if_neg c0]
  refine ev_neg c0 (ev_eq (spec_l1In_f _ _ _) ?_)
  refine ev_if (fun h => ?_) (fun h => ev_ret (by rw [Bool.not_eq_true] at h; rw [h]; rfl))
  rw [h, Bool.true_and]
  exact ev_if (fun h1 => ev_ret (by rw [decide_eq_true h1, Bool.true_and])) (fun h1 => ev_ret (by rw [decide_eq_false h1]; rfl))
theorem impl_Part_isPart_f (p : IP) (h1 : p.f1.size ≤ 140737488351232) (h2 : p.f2.size ≤ 140737488351232) : Ev (fun k => impl_Part_isPart.f k p.f0 p.f1 p.f2) (partB p) := by
 unfold impl_Part_isPart.f partB
 by_cases c0 : p.f0 = 0
 ·rw [if_pos c0]
  refine ev_pos c0 ?_
  by_cases c1 : p.f1.toList = ([] : List UInt8)
  ·rw [if_pos c1]
   refine ev_pos c1 ?_
   by_cases c2 : p.f2.toList = ([] : List UInt8)
   ·rw [if_pos c2]; exact ev_pos c2 (ev_ret rfl)
   ·rw [if_neg c2]; exact ev_neg c2 (Ev.bind (impl_GoodText_f _ h2) (ev_ret rfl))
  ·rw [if_neg c1]
   refine ev_neg c1 ?_
   by_cases c2 : p.f2.toList = ([] : List UInt8)
   ·rw [if_pos c2]; exact ev_pos c2 (Ev.bind (impl_GoodText_f _ h1) (ev_ret rfl))
   ·rw [if_neg c2]; exact ev_neg c2 (ev_ret rfl)
 ·rw [if_neg c0]
  refine ev_neg c0 ?_
  refine ev_if (fun h => ?_) (fun h => ev_ret (by rw [decide_eq_false (by omega)]; rfl))
  refine ev_if (fun h' => ?_) (fun h' => ev_ret (by rw [decide_eq_false (by omega)]; rfl))
  rw [decide_eq_true (show 1 ≤ p.f0 ∧ p.f0 ≤ 300 from ⟨h, h'⟩), Bool.true_and]
  exact ev_if (fun h1 => ev_ret (by rw [decide_eq_true h1, Bool.true_and])) (fun h1 => ev_ret (by rw [decide_eq_false h1]; rfl))
def tkS : List IP → Int → Int
 | [], a => a
 | p :: r, a => tkS r (wrap64 (a + wrap64 (p.f0 + (p.f2.size : Int))))
def mkS : List IP → Int → Int
 | [], a => a
 | p :: r, a => mkS r (wrap64 (a + wrap64 (p.f0 + (p.f1.size : Int))))
theorem spec_l3Sizes_l (l : List IP) (hl : l.length ≤ 1048576) (d : Nat) : ∀ (i : Nat) (a b : Int), i + d = l.length →
  Ev (fun k => spec_l3Sizes.l0 k a b l (l.length : Int) (i : Int)) (tkS (l.drop i) a, mkS (l.drop i) b) := by
 induction d with
 | zero =>
  intro i a b hi
  refine Ev.step (fun k => by rw [spec_l3Sizes.l0]) ?_
  refine ev_neg (by omega) (ev_ret ?_)
  rw [List.drop_eq_nil_of_le (by omega)]; rfl
 | succ d ih =>
  intro i a b hi
  refine Ev.step (fun k => by rw [spec_l3Sizes.l0]) ?_
  refine ev_pos (by omega) (ev_pos (by omega) (ev_pos (by omega) ?_))
  rw [gt_drop izP l i (by omega), wrap_succ i (by omega)]
  exact ih (i + 1) _ _ (by omega)
theorem spec_l3Sizes_f (l : List IP) (hl : l.length ≤ 1048576) : Ev (fun k => spec_l3Sizes.f k l) (tkS l 0, mkS l 0) := by
 unfold spec_l3Sizes.f
 exact spec_l3Sizes_l l hl l.length 0 0 0 (by omega)
theorem impl_sizes_l (l : List IP) (hl : l.length ≤ 1048576) (d : Nat) : ∀ (i : Nat) (a b : Int), i + d = l.length →
  Ev (fun k => impl_sizes.l0 k a b l (l.length : Int) (i : Int)) (tkS (l.drop i) a, mkS (l.drop i) b) := by
 induction d with
 | zero =>
  intro i a b hi
  refine Ev.step (fun k => by rw [impl_sizes.l0]) ?_
  refine ev_neg (by omega) (ev_ret ?_)
  rw [List.drop_eq_nil_of_le (by omega)]; rfl
 | succ d ih =>
  intro i a b hi
  refine Ev.step (fun k => by rw [impl_sizes.l0]) ?_
  refine ev_pos (by omega) (ev_pos (by omega) (ev_pos (by omega) ?_))
  rw [gt_drop izP l i (by omega), wrap_succ i (by omega)]
  exact ih (i + 1) _ _ (by omega)
theorem impl_sizes_f (l : List IP) (hl : l.length ≤ 1048576) : Ev (fun k => impl_sizes.f k l) (tkS l 0, mkS l 0) := by
 unfold impl_sizes.f
 exact impl_sizes_l l hl l.length 0 0 0 (by omega)
def goodO (l : List IP) : Bool := decide (l.length ≤ 60) && (l.all partB && decide (tkS l 0 ≤ 300 ∧ mkS l 0 ≤ 300))
theorem goodO_len {l : List IP} (h : ¬ l.length ≤ 60) : goodO l = false := by unfold goodO; rw [decide_eq_false h]; rfl
theorem goodO_part {l : List IP} {p : IP} (hp : p ∈ l) (h : partB p = false) : goodO l = false := by
 unfold goodO
 have : l.all partB = false := by
  rw [Bool.eq_false_iff]; intro e
  rw [List.all_eq_true] at e
  rw [e p hp] at h; cases h
 rw [this]; simp
theorem spec_GoodOp_l (l : List IP) (hl : l.length ≤ 60) (hw : ∀ x ∈ l, x.f1.size ≤ 1048576 ∧ x.f2.size ≤ 1048576) (d : Nat) : ∀ i : Nat, i + d = l.length →
  (l.take i).all partB = true → Ev (fun k => spec_GoodOp.l0 k l l (l.length : Int) (i : Int)) (goodO l) := by
 induction d with
 | zero =>
  intro i hi hg
  refine Ev.step (fun k => by rw [spec_GoodOp.l0]) ?_
  rw [List.take_of_length_le (by omega)] at hg
  have e : goodO l = decide (tkS l 0 ≤ 300 ∧ mkS l 0 ≤ 300) := by unfold goodO; rw [hg, decide_eq_true hl]; rfl
  rw [e]
  refine ev_neg (by omega) (Ev.bind (spec_l3Sizes_f l (by omega)) ?_)
  exact ev_if (fun h => ev_ret (decide_eq_decide.2 (by constructor <;> intro q; exact ⟨h, q⟩; exact q.2))) (fun h => ev_ret (by rw [decide_eq_false (fun q => h q.1)]))
 | succ d ih =>
  intro i hi hg
  have hm := hw _ (gt_mem izP l i (by omega))
  refine Ev.step (fun k => by rw [spec_GoodOp.l0]) ?_
  refine ev_pos (by omega) (ev_pos (by omega) (ev_pos (by omega) ?_))
  rw [wrap_succ i (by omega)]
  simp only [rd_ip]
  refine Ev.bind (spec_l3Part_f _ (by omega) (by omega)) (ev_if (fun h => ?_) (fun h => ev_ret (goodO_part (gt_mem izP l i (by omega)) (by simpa using h)).symm))
  refine ih (i + 1) (by omega) ?_
  rw [gt_take izP l i (by omega), List.all_append, hg]
  simp [h]
theorem spec_GoodOp_f (l : List IP) (hw : ∀ x ∈ l, x.f1.size ≤ 1048576 ∧ x.f2.size ≤ 1048576) : Ev (fun k => spec_GoodOp.f k l) (goodO l) := by
 unfold spec_GoodOp.f
 refine ev_if (fun h => ev_ret (goodO_len (by omega)).symm) (fun h => ?_)
 exact spec_GoodOp_l l (by omega) hw l.length 0 (by omega) rfl
theorem idxBad_f (l : List IP) (hw : ∀ x ∈ l, x.f1.size ≤ 1048576 ∧ x.f2.size ≤ 1048576) : ∀ n : Int, 0 ≤ n → ∃ v : Int, Ev (fun k => idxBad k l n) v ∧ (v ≥ 0 ↔ l.all partB = false) := by
 induction l with
 | nil => exact fun n _ => ⟨-1, by unfold idxBad; exact ev_ret rfl, by simp⟩
 | cons p r ih =>
  intro n hn
  have hm := hw p (List.mem_cons_self ..)
  obtain ⟨v, hv, hb⟩ := ih (fun x hx => hw x (List.mem_cons_of_mem _ hx)) (n + 1) (by omega)
  have hp : Ev (fun k => impl_GoodOp_1.f k p.f0 p.f1 p.f2) (!(partB p)) := by unfold impl_GoodOp_1.f; exact Ev.bind (impl_Part_isPart_f p (by omega) (by omega)) (ev_ret rfl)
  by_cases c : partB p = true
  ·refine ⟨v, ?_, by rw [hb, List.all_cons, c, Bool.true_and]⟩
   unfold idxBad
   refine Ev.bind hp (ev_neg (by rw [c]; simp) hv)
  ·rw [Bool.not_eq_true] at c
   refine ⟨n, ?_, by rw [List.all_cons, c]; simp; omega⟩
   unfold idxBad
   exact Ev.bind hp (ev_pos (by rw [c]; rfl) (ev_ret rfl))
theorem impl_GoodOp_f (l : List IP) (hw : ∀ x ∈ l, x.f1.size ≤ 1048576 ∧ x.f2.size ≤ 1048576) : Ev (fun k => impl_GoodOp.f k l) (goodO l) := by
 unfold impl_GoodOp.f
 refine ev_if (fun h => ev_ret (goodO_len (by omega)).symm) (fun h => ?_)
 obtain ⟨v, hv, hb⟩ := idxBad_f l hw 0 (by omega)
 refine Ev.bind hv (ev_if (fun c => ev_ret ?_) (fun c => Ev.bind (impl_sizes_f l (by omega)) ?_))
 ·unfold goodO; rw [hb.1 c]; simp
 ·have hg : l.all partB = true := by
   by_cases q : l.all partB = true
   ·exact q
   ·exact absurd (hb.2 (by simpa using q)) c
  have e : goodO l = decide (tkS l 0 ≤ 300 ∧ mkS l 0 ≤ 300) := by unfold goodO; rw [hg, decide_eq_true (by omega : l.length ≤ 60)]; rfl
  rw [e]
  exact ev_if (fun h => ev_ret (decide_eq_decide.2 (by constructor <;> intro q; exact ⟨h, q⟩; exact q.2))) (fun h => ev_ret (by rw [decide_eq_false (fun q => h q.1)]))
theorem goodB_size' {s : ByteArray} (h : goodB (bytesOf s) = true) : s.size ≤ 300 := by
 unfold goodB at h
 rw [Bool.and_eq_true, bytesOf_length] at h
 exact of_decide_eq_true h.2
theorem part_facts {p : IP} (h : partB p = true) : 0 ≤ p.f0 ∧ p.f0 ≤ 300 ∧ p.f1.size ≤ 300 ∧ p.f2.size ≤ 300 ∧ (p.f0 = 0 ∨ p.f2.size = 0) := by
 unfold partB at h
 by_cases c0 : p.f0 = 0
 ·rw [if_pos c0] at h
  by_cases c1 : p.f1.toList = ([] : List UInt8)
  ·rw [if_pos c1] at h
   rw [toList_nil] at c1
   by_cases c2 : p.f2.toList = ([] : List UInt8)
   ·rw [if_pos c2] at h; cases h
   ·rw [if_neg c2] at h
    have := goodB_size' h
    exact ⟨by omega, by omega, by omega, by omega, Or.inl c0⟩
  ·rw [if_neg c1] at h
   by_cases c2 : p.f2.toList = ([] : List UInt8)
   ·rw [if_pos c2] at h
    rw [toList_nil] at c2
    have := goodB_size' h
    exact ⟨by omega, by omega, by omega, by omega, Or.inl c0⟩
   ·rw [if_neg c2] at h; cases h
 ·rw [if_neg c0, Bool.and_eq_true, Bool.and_eq_true] at h
  obtain ⟨a, b, c⟩ := h
  have a := of_decide_eq_true a
  have b := (toList_nil _).1 (of_decide_eq_true b)
  have c := (toList_nil _).1 (by simpa using c)
  exact ⟨by omega, by omega, by omega, by omega, Or.inr c⟩
theorem goodO_facts {l : List IP} (h : goodO l = true) : l.length ≤ 60 ∧ (∀ p ∈ l, partB p = true) ∧ tkS l 0 ≤ 300 ∧ mkS l 0 ≤ 300 := by
 unfold goodO at h
 rw [Bool.and_eq_true, Bool.and_eq_true, List.all_eq_true] at h
 have a := of_decide_eq_true h.1
 have b := of_decide_eq_true h.2.2
 exact ⟨a, h.2.1, b.1, b.2⟩
theorem part_one {p : IP} (h : partB p = true) : One p := by
 obtain ⟨a1, a2, a3, a4, a5⟩ := part_facts h
 refine ⟨a1, a2, a3, a4, ?_, ?_⟩
 ·unfold partB at h
  by_cases c0 : p.f0 = 0
  ·exact .inl c0
  ·rw [if_neg c0, Bool.and_eq_true, Bool.and_eq_true] at h
   exact .inr ⟨(toList_nil _).1 (of_decide_eq_true h.2.1), a5.resolve_left c0⟩
 ·unfold partB at h
  by_cases c0 : p.f0 = 0
  ·rw [if_pos c0] at h
   by_cases c1 : p.f1.toList = ([] : List UInt8)
   ·exact .inl ((toList_nil _).1 c1)
   ·rw [if_neg c1] at h
    by_cases c2 : p.f2.toList = ([] : List UInt8)
    ·exact .inr ((toList_nil _).1 c2)
    ·rw [if_neg c2] at h; cases h
  ·exact .inr (a5.resolve_left c0)
def dropL : List IP → List Int
 | [] => []
 | p :: r => (List.replicate p.f0.toNat 0 ++ bytesOf p.f2) ++ dropL r
abbrev Seg := ByteArray × ByteArray × Int
/-- A normal change, by what it keeps: what is put and dropped ahead of each. -/
def flatS (l : List Seg) : List Pt := l.flatMap (fun s => endL s.1 s.2.1 ++ [(s.2.2, (⟨#[]⟩ : ByteArray), (⟨#[]⟩ : ByteArray))])
def byteS (l : List Seg) : List Int := l.flatMap (fun s => bytesOf s.2.1 ++ List.replicate s.2.2.toNat 0)
theorem flatS_app (a b : List Seg) : flatS (a ++ b) = flatS a ++ flatS b := by simp [flatS]
theorem flatS_cons (s : Seg) (b : List Seg) : flatS (s :: b) = endL s.1 s.2.1 ++ (s.2.2, (⟨#[]⟩ : ByteArray), (⟨#[]⟩ : ByteArray)) :: flatS b := by simp [flatS]
theorem bytesOf_app (a b : ByteArray) : bytesOf (a ++ b) = bytesOf a ++ bytesOf b := by unfold bytesOf; rw [ByteArray.data_append]; simp
theorem bytesOf_nil {s : ByteArray} (h : s.size = 0) : bytesOf s = [] := by
 rw [← List.length_eq_zero_iff, bytesOf_length]; exact h
def NZ (s : ByteArray) : Prop := ∀ x ∈ bytesOf s, x ≠ 0
structure SegOk (n : Nat) (s : Seg) : Prop where
 put : s.1.size ≤ 300 * n
 drop : s.2.1.size ≤ 300 * n
 nz : NZ s.2.1
 pos : 0 < s.2.2
 top : s.2.2 ≤ 300 * (n : Int)
theorem SegOk.more {n : Nat} {s : Seg} (h : SegOk n s) : SegOk (n + 1) s := by
 obtain ⟨a, b, c, d, e⟩ := h
 exact ⟨by omega, by omega, c, d, by omega⟩
structure SegIs (n : Nat) (l : List IP) (s : List Pt × ByteArray × ByteArray) (g : List Seg) : Prop where
 flat : s.1 = flatS g
 ok : ∀ x ∈ g, SegOk n x
 put : s.2.1.size ≤ 300 * n
 drop : s.2.2.size ≤ 300 * n
 nz : NZ s.2.2
 bytes : byteS g ++ bytesOf s.2.2 = dropL l
 len : g.length ≤ n
theorem keepA_end (L : List Pt) (a b : ByteArray) (x : Int) (h : a.size ≠ 0 ∨ b.size ≠ 0) : keepA (L ++ endL a b) x = L ++ (endL a b ++ [(x, (⟨#[]⟩ : ByteArray), (⟨#[]⟩ : ByteArray))]) := by
 have z : ∀ (M : List Pt) (q : Pt), q.1 = 0 → keepA (M ++ [q]) x = M ++ ([q] ++ [(x, (⟨#[]⟩ : ByteArray), (⟨#[]⟩ : ByteArray))]) := fun M q hq => by rw [keepA_app, if_neg (by omega)]; rfl
 by_cases ha : a.size = 0
 ·have hb : b.size ≠ 0 := by omega
  rw [endL_01 ha hb]; exact z L _ rfl
 ·by_cases hb : b.size = 0
  ·rw [endL_10 ha hb]; exact z L _ rfl
  ·rw [endL_11 ha hb]
   have := z (L ++ [(0, a, ⟨#[]⟩)]) (0, ⟨#[]⟩, b) rfl
   rw [List.append_assoc, List.append_assoc] at this
   exact this
abbrev E0 : ByteArray := ⟨#[]⟩
def nP (p : IP) : Nat := p.f0.toNat + p.f2.size
def tsum : List IP → Nat
 | [] => 0
 | p :: r => nP p + tsum r
theorem nP_le {p : IP} (h : partB p = true) : nP p ≤ 600 := by
 obtain ⟨f1, f2, f3, f4, f5⟩ := part_facts h
 unfold nP; omega
theorem wrap_nP {p : IP} (h : partB p = true) : wrap64 (p.f0 + (p.f2.size : Int)) = (nP p : Int) := by
 obtain ⟨f1, f2, f3, f4, f5⟩ := part_facts h
 rw [wrap_id (by omega) (by omega)]; unfold nP; omega
theorem tkS_is : ∀ (l : List IP), (∀ p ∈ l, partB p = true) → ∀ a : Nat, a + 600 * l.length ≤ 4611686018427387904 → tkS l (a : Int) = ((a + tsum l : Nat) : Int)
 | [], _, a, _ => by simp [tkS, tsum]
 | p :: r, h, a, hb => by
  have hp := h p (List.mem_cons_self ..)
  have hn := nP_le hp
  rw [List.length_cons] at hb
  unfold tkS tsum
  rw [wrap_nP hp, show wrap64 ((a : Int) + (nP p : Int)) = ((a + nP p : Nat) : Int) by rw [wrap_id (by omega) (by omega)]; omega, tkS_is r (fun x hx => h x (List.mem_cons_of_mem _ hx)) (a + nP p) (by omega), Nat.add_assoc]
def apI : List IP → ByteArray → ByteArray → ByteArray × Bool
 | [], _, o => (o, true)
 | p :: r, s, o => if (s.extract 0 p.f2.size).toList = p.f2.toList then apI r (s.extract (nP p) s.size) (o ++ (s.extract 0 p.f0.toNat ++ p.f1)) else (E0, false)
theorem size_ext (s : ByteArray) (a b : Nat) : (s.extract a b).size = min b s.size - a := by simp
theorem bnd2 {b c : Nat} (h1 : b ≤ 300) (h2 : c ≤ 300) : b + c ≤ 9223372036854775807 := by omega
theorem bnd3 {i a b c : Nat} (h0 : a ≤ 1000 * i) (h1 : b ≤ 300) (h2 : c ≤ 300) (h3 : i ≤ 60) : a + (b + c) ≤ 9223372036854775807 := by omega
theorem bnd4 {i a b c : Nat} (h0 : a ≤ 1000 * i) (h1 : b ≤ 300) (h2 : c ≤ 300) : a + (b + c) ≤ 1000 * (i + 1) := by omega
theorem bnd5 {f : Int} {n t s g : Nat} (h : s = n + t) (hd : n = f.toNat + g) (f1 : 0 ≤ f) : f ≤ (s : Int) ∧ (n : Int) ≤ (s : Int) ∧ (g : Int) ≤ (s : Int) := by omega
theorem size0 (s : ByteArray) (n : Nat) (h : n = 0) : s.extract 0 n = E0 := by subst h; simp [E0]; rfl
theorem e0_app (x : ByteArray) : E0 ++ x = x := ByteArray.empty_append
def apR (l : List IP) (s : ByteArray) : ByteArray × Bool := if goodO l = true then (if goodB (bytesOf s) = true then (if s.size = tsum l then (if (apI l s E0).2 = true then apI l s E0 else (E0, false)) else (E0, false)) else (E0, false)) else (E0, false)
theorem apI_no : ∀ (l : List IP) (s o : ByteArray), (apI l s o).2 = false → apI l s o = (E0, false)
 | [], s, o, h => by unfold apI at h; cases h
 | p :: r, s, o, h => by
  unfold apI at h ⊢
  by_cases e : (s.extract 0 p.f2.size).toList = p.f2.toList
  ·rw [if_pos e] at h ⊢; exact apI_no r _ _ h
  ·rw [if_neg e]
/-- A part turned round. (Where the program's inverted is walked, its text has this too: leave this block out there.) -/
def swS (x : IP) : IP := ⟨x.f0, x.f2, x.f1⟩
abbrev GS := List Seg × ByteArray × ByteArray
/-- One keep more, behind what is put and dropped. -/
def addG (g : List Seg) (a b : ByteArray) (k : Int) : List Seg :=
 if a.size = 0 ∧ b.size = 0 then (match g.getLast? with | some s => g.dropLast ++ [(s.1, s.2.1, s.2.2 + k)] | none => [(a, b, k)]) else g ++ [(a, b, k)]
def stepG (s : GS) (p : IP) : GS := if p.f0 = 0 then (s.1, s.2.1 ++ p.f1, s.2.2 ++ p.f2) else (addG s.1 s.2.1 s.2.2 p.f0, ⟨#[]⟩, ⟨#[]⟩)
def foldG (l : List IP) : GS := l.foldl stepG ([], ⟨#[]⟩, ⟨#[]⟩)
theorem addG_nil {a b : ByteArray} (h : a.size = 0 ∧ b.size = 0) (k : Int) : addG [] a b k = [(a, b, k)] := by unfold addG; rw [if_pos h]; rfl
theorem addG_join {a b : ByteArray} (h : a.size = 0 ∧ b.size = 0) (g : List Seg) (s : Seg) (k : Int) : addG (g ++ [s]) a b k = g ++ [(s.1, s.2.1, s.2.2 + k)] := by
 unfold addG; rw [if_pos h]; simp
theorem addG_new {a b : ByteArray} (h : ¬ (a.size = 0 ∧ b.size = 0)) (g : List Seg) (k : Int) : addG g a b k = g ++ [(a, b, k)] := by unfold addG; rw [if_neg h]
def BdG (B : Int) (g : List Seg) : Prop := ∀ x ∈ g, 0 < x.2.2 ∧ x.2.2 ≤ B
theorem bd_add {B : Int} {g : List Seg} (h : BdG B g) (hB : 0 ≤ B) (a b : ByteArray) (k : Int) (hk : 0 < k) (hk2 : k ≤ 300) : BdG (B + 300) (addG g a b k) := by
 have h' : BdG (B + 300) g := fun x hx => by have := h x hx; omega
 have hn : ∀ u v : ByteArray, 0 < (u, v, k).2.2 ∧ (u, v, k).2.2 ≤ B + 300 := fun u v => by dsimp only; omega
 by_cases c : a.size = 0 ∧ b.size = 0
 ·rcases List.eq_nil_or_concat g with e | ⟨g0, s0, e⟩
  ·subst e
   rw [addG_nil c]
   intro x hx; rw [List.mem_singleton.1 hx]; exact hn _ _
  ·rw [List.concat_eq_append] at e
   subst e
   rw [addG_join c]
   intro x hx
   rcases List.mem_append.1 hx with q | q
   ·exact h' x (List.mem_append_left _ q)
   ·rw [List.mem_singleton.1 q]
    have := h s0 (by simp)
    dsimp only; omega
 ·rw [addG_new c]
  intro x hx
  rcases List.mem_append.1 hx with q | q
  ·exact h' x q
  ·rw [List.mem_singleton.1 q]; exact hn _ _
theorem sim_step {B : Int} {g : List Seg} (h : BdG B g) (hB : 0 ≤ B) (hB2 : B ≤ 1000000000) (a b : ByteArray) (p : IP) (hp : One p) :
  takeP (flatS g, a, b) (toP p) = (flatS (stepG (g, a, b) p).1, (stepG (g, a, b) p).2) ∧ BdG (B + 300) (stepG (g, a, b) p).1 := by
 obtain ⟨p0, p1, p2⟩ := p
 obtain ⟨q1, q2, q3, q4, q5, q6⟩ := hp
 simp only at q1 q2 q3 q4 q5 q6
 by_cases h0 : p0 = 0
 ·subst h0
  exact ⟨rfl, fun x hx => by have := h x hx; omega⟩
 ·obtain ⟨h1, h2⟩ := q5.resolve_left h0
  have es : stepG (g, a, b) ⟨p0, p1, p2⟩ = (addG g a b p0, ⟨#[]⟩, ⟨#[]⟩) := by unfold stepG; rw [if_neg h0]
  have hk : keepS (flatS g) a b p0 = (keepA (flatS g ++ endL a b) p0, ⟨#[]⟩, ⟨#[]⟩) := by unfold keepS; rw [if_neg h0]
  have et : takeP (flatS g, a, b) (toP ⟨p0, p1, p2⟩) = (keepA (flatS g ++ endL a b) p0, ⟨#[]⟩, ⟨#[]⟩) := by
   unfold takeP toP
   simp only [hk]
   rw [ba_nil h1, ba_nil h2, ba_app]
  rw [et, es]
  refine ⟨?_, bd_add h hB a b p0 (by omega) q2⟩
  congr 1
  by_cases c : a.size = 0 ∧ b.size = 0
  ·rw [endL_00 c.1 c.2, List.append_nil]
   rcases List.eq_nil_or_concat g with e | ⟨g0, s0, e⟩
   ·subst e
    rw [addG_nil c, flatS_cons, endL_00 c.1 c.2]; rfl
   ·rw [List.concat_eq_append] at e
    subst e
    have hs := h s0 (by simp)
    rw [addG_join c, flatS_app, flatS_app, flatS_cons, flatS_cons]
    have e1 : flatS g0 ++ (endL s0.1 s0.2.1 ++ (s0.2.2, (⟨#[]⟩ : ByteArray), (⟨#[]⟩ : ByteArray)) :: flatS []) = (flatS g0 ++ endL s0.1 s0.2.1) ++ [(s0.2.2, (⟨#[]⟩ : ByteArray), (⟨#[]⟩ : ByteArray))] := by rw [List.append_assoc]; rfl
    rw [e1, keepA_app, if_pos hs.1, wrap_id (by dsimp only; omega) (by dsimp only; omega), List.append_assoc]; rfl
  ·rw [addG_new c, flatS_app, flatS_cons, keepA_end _ _ _ _ (by omega)]; rfl
theorem sim_fold : ∀ (l : List IP) (g : List Seg) (a b : ByteArray) (B : Int), (∀ p ∈ l, One p) → BdG B g → 0 ≤ B → B + 300 * (l.length : Int) ≤ 1000000000 →
  (l.map toP).foldl takeP (flatS g, a, b) = (flatS (l.foldl stepG (g, a, b)).1, (l.foldl stepG (g, a, b)).2) ∧ BdG (B + 300 * (l.length : Int)) (l.foldl stepG (g, a, b)).1
 | [], g, a, b, B, _, h, hB, hB2 => ⟨rfl, by simpa using h⟩
 | p :: r, g, a, b, B, hp, h, hB, hB2 => by
  rw [List.length_cons] at hB2 ⊢
  obtain ⟨e1, e2⟩ := sim_step h hB (by omega) a b p (hp p (List.mem_cons_self ..))
  obtain ⟨e3, e4⟩ := sim_fold r _ (stepG (g, a, b) p).2.1 (stepG (g, a, b) p).2.2 (B + 300) (fun x hx => hp x (List.mem_cons_of_mem _ hx)) e2 (by omega) (by omega)
  rw [List.map_cons, List.foldl_cons, e1, List.foldl_cons]
  refine ⟨e3, ?_⟩
  have : B + 300 + 300 * (r.length : Int) = B + 300 * ((r.length + 1 : Nat) : Int) := by omega
  rw [← this]; exact e4
/-- The normal change is the fold, laid flat. -/
theorem norm_fold (l : List IP) (hl : l.length ≤ 1000) (hp : ∀ p ∈ l, One p) : normI l = (flatS (foldG l).1 ++ endL (foldG l).2.1 (foldG l).2.2).map ofP ∧ BdG 300000 (foldG l).1 := by
 obtain ⟨e, h⟩ := sim_fold l [] ⟨#[]⟩ ⟨#[]⟩ 0 hp (fun x hx => by cases hx) (Int.le_refl _) (by omega)
 refine ⟨?_, fun x hx => by have := h x hx; omega⟩
 have e0 : flatS [] = [] := rfl
 rw [e0] at e
 unfold normI normP foldG
 rw [e]
def swG (s : GS) : GS := (s.1.map (fun x => (x.2.1, x.1, x.2.2)), s.2.2, s.2.1)
theorem add_sw (g : List Seg) (a b : ByteArray) (k : Int) : addG (g.map (fun x => (x.2.1, x.1, x.2.2))) b a k = (addG g a b k).map (fun x => (x.2.1, x.1, x.2.2)) := by
 by_cases c : a.size = 0 ∧ b.size = 0
 ·have c' : b.size = 0 ∧ a.size = 0 := ⟨c.2, c.1⟩
  rcases List.eq_nil_or_concat g with e | ⟨g0, s0, e⟩
  ·subst e; rw [addG_nil c, List.map_nil, addG_nil c']; rfl
  ·rw [List.concat_eq_append] at e
   subst e
   rw [addG_join c, List.map_append, List.map_append]
   exact addG_join c' _ _ _
 ·rw [addG_new c, addG_new (fun q => c ⟨q.2, q.1⟩), List.map_append]; rfl
theorem step_sw (s : GS) (p : IP) : stepG (swG s) (swS p) = swG (stepG s p) := by
 unfold stepG
 by_cases h0 : p.f0 = 0
 ·rw [if_pos h0, if_pos (show (swS p).f0 = 0 from h0)]; rfl
 ·rw [if_neg h0, if_neg (show ¬ (swS p).f0 = 0 from h0)]
  show (addG (s.1.map _) s.2.2 s.2.1 p.f0, _) = _
  rw [add_sw]; rfl
theorem fold_sw : ∀ (l : List IP) (s : GS), (l.map swS).foldl stepG (swG s) = swG (l.foldl stepG s)
 | [], s => rfl
 | p :: r, s => by rw [List.map_cons, List.foldl_cons, step_sw, fold_sw r, List.foldl_cons]
/-- Turned round, the fold is turned round. -/
theorem foldG_sw (l : List IP) : foldG (l.map swS) = swG (foldG l) := fold_sw l ([], ⟨#[]⟩, ⟨#[]⟩)
def WfG (g : List Seg) : Prop := ∀ x ∈ g.tail, ¬ (x.1.size = 0 ∧ x.2.1.size = 0)
theorem tail_app {α : Type} {g : List α} (h : g ≠ []) (r : List α) : (g ++ r).tail = g.tail ++ r := by
 cases g with
 | nil => exact absurd rfl h
 | cons a t => rfl
theorem wf_step {s : GS} (h : WfG s.1) (p : IP) : WfG (stepG s p).1 := by
 unfold stepG
 by_cases h0 : p.f0 = 0
 ·rw [if_pos h0]; exact h
 ·rw [if_neg h0]
  show WfG (addG s.1 s.2.1 s.2.2 p.f0)
  obtain ⟨g, a, b⟩ := s
  dsimp only at h ⊢
  by_cases c : a.size = 0 ∧ b.size = 0
  ·rcases List.eq_nil_or_concat g with e | ⟨g0, s0, e⟩
   ·subst e; rw [addG_nil c]; intro x hx; cases hx
   ·rw [List.concat_eq_append] at e
    subst e
    rw [addG_join c]
    by_cases hg : g0 = []
    ·subst hg; intro x hx; cases hx
    ·unfold WfG at h ⊢
     rw [tail_app hg] at h ⊢
     intro x hx
     rcases List.mem_append.1 hx with q | q
     ·exact h x (List.mem_append_left _ q)
     ·rw [List.mem_singleton.1 q]; exact h s0 (by simp)
  ·rw [addG_new c]
   by_cases hg : g = []
   ·subst hg; intro x hx; cases hx
   ·unfold WfG at h ⊢
    rw [tail_app hg]
    intro x hx
    rcases List.mem_append.1 hx with q | q
    ·exact h x q
    ·rw [List.mem_singleton.1 q]; exact c
theorem wf_fold : ∀ (l : List IP) (s : GS), WfG s.1 → WfG (l.foldl stepG s).1
 | [], s, h => h
 | p :: r, s, h => wf_fold r _ (wf_step h p)
theorem wf_foldG (l : List IP) : WfG (foldG l).1 := wf_fold l _ (fun x hx => by cases hx)
theorem fold_end (g : List Seg) (a b : ByteArray) : ((endL a b).map ofP).foldl stepG (g, ⟨#[]⟩, ⟨#[]⟩) = (g, a, b) := by
 have s1 : ∀ x y : ByteArray, stepG (g, x, y) (ofP (0, a, ⟨#[]⟩)) = (g, x ++ a, y) := fun x y => by
  show (g, x ++ a, y ++ (⟨#[]⟩ : ByteArray)) = _
  rw [ba_app]
 have s2 : ∀ x y : ByteArray, stepG (g, x, y) (ofP (0, ⟨#[]⟩, b)) = (g, x, y ++ b) := fun x y => by
  show (g, x ++ (⟨#[]⟩ : ByteArray), y ++ b) = _
  rw [ba_app]
 by_cases ha : a.size = 0
 ·by_cases hb : b.size = 0
  ·rw [endL_00 ha hb, ba_nil ha, ba_nil hb]; rfl
  ·rw [endL_01 ha hb]
   show stepG (g, ⟨#[]⟩, ⟨#[]⟩) (ofP (0, ⟨#[]⟩, b)) = _
   rw [s2, ba_nil ha, e0_app]
 ·by_cases hb : b.size = 0
  ·rw [endL_10 ha hb]
   show stepG (g, ⟨#[]⟩, ⟨#[]⟩) (ofP (0, a, ⟨#[]⟩)) = _
   rw [s1, ba_nil hb, e0_app]
  ·rw [endL_11 ha hb]
   show stepG (stepG (g, ⟨#[]⟩, ⟨#[]⟩) (ofP (0, a, ⟨#[]⟩))) (ofP (0, ⟨#[]⟩, b)) = _
   rw [s1, s2, e0_app, e0_app]
theorem fold_flat (g : List Seg) (hb : BdG 300000 g) (hw : WfG g) : ∀ (n : Nat) (h : List Seg), h.length = n → (∃ t, h ++ t = g) → ((flatS h).map ofP).foldl stepG ([], ⟨#[]⟩, ⟨#[]⟩) = (h, ⟨#[]⟩, ⟨#[]⟩)
 | 0, h, e, _ => by rw [List.length_eq_zero_iff.1 e]; rfl
 | n + 1, h, e, ⟨t, ht⟩ => by
  obtain ⟨h0, s, e'⟩ := (List.eq_nil_or_concat h).resolve_left (fun q => by rw [q] at e; cases e)
  rw [List.concat_eq_append] at e'
  subst e'
  rw [List.length_append, List.length_singleton] at e
  have ih' := fold_flat g hb hw n h0 (by omega) ⟨s :: t, by rw [← ht, List.append_assoc]; rfl⟩
  have hs := hb s (by rw [← ht]; simp)
  rw [flatS_app, flatS_cons, List.map_append, List.foldl_append, ih', List.map_append, List.foldl_append, fold_end]
  show stepG (h0, s.1, s.2.1) (ofP (s.2.2, ⟨#[]⟩, ⟨#[]⟩)) = _
  unfold stepG
  rw [if_neg (show ¬ (ofP (s.2.2, ⟨#[]⟩, ⟨#[]⟩)).f0 = 0 by show ¬ s.2.2 = 0; omega)]
  show (addG h0 s.1 s.2.1 s.2.2, _) = _
  by_cases hg : h0 = []
  ·subst hg
   by_cases c : s.1.size = 0 ∧ s.2.1.size = 0
   ·rw [addG_nil c]; rfl
   ·rw [addG_new c]
  ·have hm : s ∈ g.tail := by rw [← ht, List.append_assoc, tail_app hg]; simp
   rw [addG_new (hw s hm)]
/-- What is laid flat folds up again. -/
theorem fold_back (g : List Seg) (a b : ByteArray) (hb : BdG 300000 g) (hw : WfG g) : foldG ((flatS g ++ endL a b).map ofP) = (g, a, b) := by
 unfold foldG
 rw [List.map_append, List.foldl_append, fold_flat g hb hw g.length g rfl ⟨[], List.append_nil g⟩, fold_end]
theorem foldG_norm (l : List IP) (hl : l.length ≤ 1000) (hp : ∀ p ∈ l, One p) : foldG (normI l) = foldG l := by
 obtain ⟨e, h⟩ := norm_fold l hl hp
 rw [e]; exact fold_back _ _ _ h (wf_foldG l)
theorem partB_sw (p : IP) : partB (swS p) = partB p := by
 obtain ⟨p0, p1, p2⟩ := p
 unfold partB swS
 dsimp only
 by_cases h0 : p0 = 0
 ·rw [if_pos h0, if_pos h0]
  by_cases h1 : p1.toList = ([] : List UInt8)
  ·by_cases h2 : p2.toList = ([] : List UInt8)
   ·simp [h1, h2]
   ·simp [h1, h2]
  ·by_cases h2 : p2.toList = ([] : List UInt8)
   ·simp [h1, h2]
   ·simp [h1, h2]
 ·rw [if_neg h0, if_neg h0]
  by_cases h1 : p1.toList = ([] : List UInt8)
  ·by_cases h2 : p2.toList = ([] : List UInt8)
   ·simp [h1, h2]
   ·simp [h1, h2]
  ·by_cases h2 : p2.toList = ([] : List UInt8)
   ·simp [h1, h2]
   ·simp [h1, h2]
theorem tkS_sw : ∀ (l : List IP) (a : Int), tkS (l.map swS) a = mkS l a
 | [], a => rfl
 | p :: r, a => by rw [List.map_cons]; unfold tkS mkS; exact tkS_sw r _
theorem tsum_cons (p : IP) (r : List IP) : tsum (p :: r) = nP p + tsum r := rfl
theorem tsum_nil : tsum [] = 0 := rfl
theorem tsum_app : ∀ (a b : List IP), tsum (a ++ b) = tsum a + tsum b
 | [], b => by rw [List.nil_append, tsum_nil]; omega
 | p :: r, b => by rw [List.cons_append, tsum_cons, tsum_cons, tsum_app r b]; omega
def flI (g : List Seg) : List IP := (flatS g).map ofP
def enI (a b : ByteArray) : List IP := (endL a b).map ofP
theorem flI_app (g h : List Seg) : flI (g ++ h) = flI g ++ flI h := by unfold flI; rw [flatS_app, List.map_append]
theorem flI_one (s : Seg) : flI [s] = enI s.1 s.2.1 ++ [⟨s.2.2, ⟨#[]⟩, ⟨#[]⟩⟩] := by unfold flI enI; rw [flatS_cons, List.map_append]; rfl
theorem tsum_en (a b : ByteArray) : tsum (enI a b) = b.size := by
 unfold enI
 by_cases ha : a.size = 0
 ·by_cases hb : b.size = 0
  ·rw [endL_00 ha hb, hb]; rfl
  ·rw [endL_01 ha hb]; show (0 : Int).toNat + b.size + 0 = _; omega
 ·by_cases hb : b.size = 0
  ·rw [endL_10 ha hb, hb]; rfl
  ·rw [endL_11 ha hb]; show (0 : Int).toNat + 0 + ((0 : Int).toNat + b.size + 0) = _; omega
theorem tsum_sen (a b : ByteArray) : tsum ((enI a b).map swS) = a.size := by
 unfold enI
 by_cases ha : a.size = 0
 ·by_cases hb : b.size = 0
  ·rw [endL_00 ha hb, ha]; rfl
  ·rw [endL_01 ha hb, ha]; rfl
 ·by_cases hb : b.size = 0
  ·rw [endL_10 ha hb]; show (0 : Int).toNat + a.size + 0 = _; omega
  ·rw [endL_11 ha hb]; show (0 : Int).toNat + a.size + ((0 : Int).toNat + 0 + 0) = _; omega
theorem tsum_keep (k : Int) : tsum [⟨k, ⟨#[]⟩, ⟨#[]⟩⟩] = k.toNat := by show k.toNat + 0 + 0 = _; omega
theorem len_en (a b : ByteArray) : (enI a b).length = (if a.size = 0 then 0 else 1) + (if b.size = 0 then 0 else 1) := by
 unfold enI
 rw [List.length_map]
 by_cases ha : a.size = 0
 ·by_cases hb : b.size = 0
  ·rw [endL_00 ha hb, if_pos ha, if_pos hb]; rfl
  ·rw [endL_01 ha hb, if_pos ha, if_neg hb]; rfl
 ·by_cases hb : b.size = 0
  ·rw [endL_10 ha hb, if_neg ha, if_pos hb]; rfl
  ·rw [endL_11 ha hb, if_neg ha, if_neg hb]; rfl
theorem add_sum {B : Int} {g : List Seg} (h : BdG B g) (a b : ByteArray) (k : Int) (hk : 0 < k) : tsum (flI (addG g a b k)) = tsum (flI g) + b.size + k.toNat ∧ (flI (addG g a b k)).length ≤ (flI g).length + (enI a b).length + 1 := by
 by_cases c : a.size = 0 ∧ b.size = 0
 ·rcases List.eq_nil_or_concat g with e | ⟨g0, s0, e⟩
  ·subst e
   rw [addG_nil c, flI_one, tsum_app, tsum_en, tsum_keep, List.length_append]
   refine ⟨?_, ?_⟩
   ·show b.size + k.toNat = 0 + b.size + k.toNat; omega
   ·show _ ≤ 0 + _ + _; simp only [List.length_singleton]; omega
  ·rw [List.concat_eq_append] at e
   subst e
   have hs := (h s0 (by simp)).1
   rw [addG_join c, flI_app, flI_app, flI_one, flI_one, tsum_app, tsum_app, tsum_app, tsum_app, tsum_keep, tsum_keep]
   refine ⟨by dsimp only; omega, ?_⟩
   simp only [List.length_append, List.length_singleton]; omega
 ·rw [addG_new c, flI_app, flI_one, tsum_app, tsum_app, tsum_en, tsum_keep]
  refine ⟨by dsimp only; omega, ?_⟩
  simp only [List.length_append, List.length_singleton]; omega
def TxB (s : ByteArray) : Prop := textB (bytesOf s) = true
theorem txB_app {a b : ByteArray} (ha : TxB a) (hb : TxB b) : TxB (a ++ b) := by
 unfold TxB textB at ha hb ⊢
 rw [bytesOf_app, List.all_append, ha, hb]; rfl
theorem txB_nil {a : ByteArray} (h : a.size = 0) : TxB a := by unfold TxB; rw [bytesOf_nil h]; rfl
theorem goodB_tx {s : ByteArray} (h : goodB (bytesOf s) = true) : TxB s := by
 unfold goodB at h; rw [Bool.and_eq_true] at h; exact h.1
theorem tx_goodB {s : ByteArray} (h : TxB s) (hs : s.size ≤ 300) : goodB (bytesOf s) = true := by
 unfold goodB; rw [Bool.and_eq_true, bytesOf_length]; exact ⟨h, decide_eq_true hs⟩
theorem part_tx {p : IP} (h : partB p = true) : TxB p.f1 ∧ TxB p.f2 := by
 unfold partB at h
 by_cases c0 : p.f0 = 0
 ·rw [if_pos c0] at h
  by_cases c1 : p.f1.toList = ([] : List UInt8)
  ·rw [if_pos c1] at h
   by_cases c2 : p.f2.toList = ([] : List UInt8)
   ·rw [if_pos c2] at h; cases h
   ·rw [if_neg c2] at h; exact ⟨txB_nil ((toList_nil _).1 c1), goodB_tx h⟩
  ·rw [if_neg c1] at h
   by_cases c2 : p.f2.toList = ([] : List UInt8)
   ·rw [if_pos c2] at h; exact ⟨goodB_tx h, txB_nil ((toList_nil _).1 c2)⟩
   ·rw [if_neg c2] at h; cases h
 ·rw [if_neg c0, Bool.and_eq_true, Bool.and_eq_true] at h
  exact ⟨txB_nil ((toList_nil _).1 (of_decide_eq_true h.2.1)), txB_nil ((toList_nil _).1 (by simpa using h.2.2))⟩
structure GI (n : Nat) (T : Nat) (s : GS) : Prop where
 bd : BdG (300 * (n : Int)) s.1
 sum : tsum (flI s.1) + s.2.2.size = T
 len : (flI s.1).length + (enI s.2.1 s.2.2).length ≤ n
 txt : ∀ x ∈ s.1, TxB x.1 ∧ TxB x.2.1
 txa : TxB s.2.1
 txb : TxB s.2.2
theorem gi_step {n T : Nat} {s : GS} (h : GI n T s) (p : IP) (hg : partB p = true) : GI (n + 1) (T + nP p) (stepG s p) := by
 obtain ⟨g, a, b⟩ := s
 obtain ⟨i1, i2, i3, i4, i5, i6⟩ := h
 obtain ⟨q1, q2, q3, q4, q5, q6⟩ := part_one hg
 obtain ⟨t1, t2⟩ := part_tx hg
 dsimp only at i1 i2 i3 i4 i5 i6
 have hn : nP p = p.f0.toNat + p.f2.size := rfl
 by_cases h0 : p.f0 = 0
 ·have e : stepG (g, a, b) p = (g, a ++ p.f1, b ++ p.f2) := by unfold stepG; rw [if_pos h0]
  rw [e]
  refine ⟨fun x hx => by have := i1 x hx; omega, ?_, ?_, i4, txB_app i5 t1, txB_app i6 t2⟩
  ·dsimp only; rw [ba_len_app]; omega
  ·dsimp only
   rw [len_en] at i3 ⊢
   rw [ba_len_app, ba_len_app]
   rcases q6 with c | c
   ·rw [c, Nat.add_zero]
    split <;> split <;> split at i3 <;> omega
   ·rw [c, Nat.add_zero]
    split <;> split <;> split at i3 <;> omega
 ·obtain ⟨h1, h2⟩ := q5.resolve_left h0
  have e : stepG (g, a, b) p = (addG g a b p.f0, ⟨#[]⟩, ⟨#[]⟩) := by unfold stepG; rw [if_neg h0]
  rw [e]
  obtain ⟨u1, u2⟩ := add_sum i1 a b p.f0 (by omega)
  have e0 : (enI (⟨#[]⟩ : ByteArray) (⟨#[]⟩ : ByteArray)).length = 0 := by rw [len_en]; rfl
  refine ⟨?_, ?_, ?_, ?_, txB_nil rfl, txB_nil rfl⟩
  ·have := bd_add i1 (by omega) a b p.f0 (by omega) q2
   intro x hx; have := this x hx; omega
  ·dsimp only; rw [u1, sz0]; omega
  ·dsimp only; rw [e0]; omega
  ·dsimp only
   by_cases c : a.size = 0 ∧ b.size = 0
   ·rcases List.eq_nil_or_concat g with e | ⟨g0, s0, e⟩
    ·subst e
     rw [addG_nil c]
     intro x hx; rw [List.mem_singleton.1 hx]; exact ⟨i5, i6⟩
    ·rw [List.concat_eq_append] at e
     subst e
     rw [addG_join c]
     intro x hx
     rcases List.mem_append.1 hx with q | q
     ·exact i4 x (List.mem_append_left _ q)
     ·rw [List.mem_singleton.1 q]; exact i4 s0 (by simp)
   ·rw [addG_new c]
    intro x hx
    rcases List.mem_append.1 hx with q | q
    ·exact i4 x q
    ·rw [List.mem_singleton.1 q]; exact ⟨i5, i6⟩
theorem gi_fold : ∀ (l : List IP) (n T : Nat) (s : GS), (∀ p ∈ l, partB p = true) → GI n T s → GI (n + l.length) (T + tsum l) (l.foldl stepG s)
 | [], n, T, s, _, h => h
 | p :: r, n, T, s, hp, h => by
  have := gi_fold r (n + 1) (T + nP p) (stepG s p) (fun x hx => hp x (List.mem_cons_of_mem _ hx)) (gi_step h p (hp p (List.mem_cons_self ..)))
  rw [List.foldl_cons, List.length_cons, tsum_cons]
  rw [show n + (r.length + 1) = n + 1 + r.length by omega, show T + (nP p + tsum r) = T + nP p + tsum r by omega]; exact this
theorem gi_all (l : List IP) (hp : ∀ p ∈ l, partB p = true) : GI l.length (tsum l) (foldG l) := by
 have := gi_fold l 0 0 ([], ⟨#[]⟩, ⟨#[]⟩) hp ⟨fun x hx => (by cases hx), rfl, by rw [len_en]; exact Nat.le_refl _, fun x hx => (by cases hx), txB_nil rfl, txB_nil rfl⟩
 rw [Nat.zero_add, Nat.zero_add] at this
 exact this
theorem partB_put {u : ByteArray} (h : u.size ≠ 0) (ht : TxB u) (hs : u.size ≤ 300) : partB ⟨0, u, ⟨#[]⟩⟩ = true := by
 unfold partB
 dsimp only
 rw [if_pos rfl, if_neg (fun e => h ((toList_nil _).1 e)), if_pos ((toList_nil _).2 sz0)]
 exact tx_goodB ht hs
theorem partB_drop {u : ByteArray} (h : u.size ≠ 0) (ht : TxB u) (hs : u.size ≤ 300) : partB ⟨0, ⟨#[]⟩, u⟩ = true := by
 rw [← partB_sw]; exact partB_put h ht hs
theorem partB_keep {k : Int} (h : 1 ≤ k) (h2 : k ≤ 300) : partB ⟨k, ⟨#[]⟩, ⟨#[]⟩⟩ = true := by
 unfold partB
 dsimp only
 have e := (toList_nil (⟨#[]⟩ : ByteArray)).2 sz0
 rw [if_neg (by omega), decide_eq_true (show 1 ≤ k ∧ k ≤ 300 from ⟨h, h2⟩), decide_eq_true e]
 simp [e]
theorem partB_en {a b : ByteArray} (ha : TxB a) (hb : TxB b) (sa : a.size ≤ 300) (sb : b.size ≤ 300) : ∀ p ∈ enI a b, partB p = true := by
 intro p hp
 unfold enI at hp
 by_cases za : a.size = 0
 ·by_cases zb : b.size = 0
  ·rw [endL_00 za zb] at hp; cases hp
  ·rw [endL_01 za zb] at hp; rw [List.mem_singleton.1 hp]; exact partB_drop zb hb sb
 ·by_cases zb : b.size = 0
  ·rw [endL_10 za zb] at hp; rw [List.mem_singleton.1 hp]; exact partB_put za ha sa
  ·rw [endL_11 za zb] at hp
   simp only [List.map_cons, List.map_nil, List.mem_cons, List.not_mem_nil, or_false] at hp
   rcases hp with rfl | rfl
   ·exact partB_put za ha sa
   ·exact partB_drop zb hb sb
theorem flI_mem {g : List Seg} {p : IP} (h : p ∈ flI g) : ∃ s ∈ g, p ∈ flI [s] := by
 induction g with
 | nil => cases h
 | cons s r ih =>
  rw [show s :: r = [s] ++ r from rfl, flI_app] at h
  rcases List.mem_append.1 h with q | q
  ·exact ⟨s, List.mem_cons_self .., q⟩
  ·obtain ⟨x, hx, hp⟩ := ih q; exact ⟨x, List.mem_cons_of_mem _ hx, hp⟩
theorem flI_sub {g : List Seg} {s : Seg} (h : s ∈ g) : tsum (flI [s]) ≤ tsum (flI g) := by
 induction g with
 | nil => cases h
 | cons x r ih =>
  rw [show x :: r = [x] ++ r from rfl, flI_app, tsum_app]
  rcases List.mem_cons.1 h with rfl | q
  ·omega
  ·have := ih q; omega
theorem tsum_sfl : ∀ g : List Seg, tsum ((flI g).map swS) = tsum (flI (g.map (fun x => (x.2.1, x.1, x.2.2))))
 | [] => rfl
 | s :: r => by
  rw [show s :: r = [s] ++ r from rfl, flI_app, List.map_append, tsum_app, tsum_sfl r, List.map_append, flI_app, tsum_app]
  congr 1
  rw [flI_one, List.map_append, tsum_app, tsum_sen, List.map_singleton, List.map_singleton, flI_one, tsum_app, tsum_en]; rfl
theorem tkS_ts (l : List IP) (hp : ∀ p ∈ l, partB p = true) (hl : l.length ≤ 1000000) : tkS l 0 = ((tsum l : Nat) : Int) := by
 have := tkS_is l hp 0 (by omega)
 rw [Nat.zero_add] at this; exact this
theorem mkS_ts (l : List IP) (hp : ∀ p ∈ l, partB p = true) (hl : l.length ≤ 1000000) : mkS l 0 = ((tsum (l.map swS) : Nat) : Int) := by
 rw [← tkS_sw]
 exact tkS_ts _ (fun p h => by obtain ⟨q, hq, rfl⟩ := List.mem_map.1 h; rw [partB_sw]; exact hp q hq) (by rw [List.length_map]; exact hl)
theorem normI_fl (l : List IP) (hl : l.length ≤ 1000) (hp : ∀ p ∈ l, One p) : normI l = flI (foldG l).1 ++ enI (foldG l).2.1 (foldG l).2.2 := by
 rw [(norm_fold l hl hp).1, List.map_append]; rfl
/-- A good change is good when it is normal, of the same sizes. -/
theorem norm_good {l : List IP} (h : goodO l = true) : goodO (normI l) = true ∧ tsum (normI l) = tsum l ∧ tsum ((normI l).map swS) = tsum (l.map swS) := by
 obtain ⟨hl, hp, hk, hm⟩ := goodO_facts h
 have ho : ∀ p ∈ l, One p := fun p h => part_one (hp p h)
 have hps : ∀ p ∈ l.map swS, partB p = true := fun p h => by obtain ⟨q, hq, rfl⟩ := List.mem_map.1 h; rw [partB_sw]; exact hp q hq
 obtain ⟨b1, b2, b3, b4, b5, b6⟩ := gi_all l hp
 obtain ⟨_, c2, _, _, _, _⟩ := gi_all (l.map swS) hps
 rw [foldG_sw] at c2
 rw [tkS_ts l hp (by omega)] at hk
 rw [mkS_ts l hp (by omega)] at hm
 have e := normI_fl l (by omega) ho
 generalize foldG l = s at b1 b2 b3 b4 b5 b6 c2 e
 obtain ⟨g, a, b⟩ := s
 unfold swG at c2
 dsimp only at b1 b2 b3 b4 b5 b6 c2 e
 have t1 : tsum (normI l) = tsum l := by rw [e, tsum_app, tsum_en]; omega
 have t2 : tsum ((normI l).map swS) = tsum (l.map swS) := by rw [e, List.map_append, tsum_app, tsum_sen, tsum_sfl]; omega
 have hpn : ∀ p ∈ normI l, partB p = true := by
  rw [e]
  intro p hp'
  rcases List.mem_append.1 hp' with q | q
  ·obtain ⟨s, hs, hps'⟩ := flI_mem q
   have z1 := flI_sub hs
   have z2 := flI_sub (List.mem_map.2 ⟨s, hs, rfl⟩ : (s.2.1, s.1, s.2.2) ∈ g.map (fun x => (x.2.1, x.1, x.2.2)))
   rw [flI_one, tsum_app, tsum_en, tsum_keep] at z1 z2
   dsimp only at z2
   rw [flI_one] at hps'
   obtain ⟨x1, x2⟩ := b4 s hs
   have x3 := (b1 s hs).1
   rcases List.mem_append.1 hps' with w | w
   ·exact partB_en x1 x2 (by omega) (by omega) p w
   ·rw [List.mem_singleton.1 w]; exact partB_keep (by omega) (by omega)
  ·exact partB_en b5 b6 (by omega) (by omega) p q
 have hln : (normI l).length ≤ 60 := by rw [e, List.length_append]; omega
 refine ⟨?_, t1, t2⟩
 unfold goodO
 rw [decide_eq_true hln, List.all_eq_true.2 hpn, tkS_ts _ hpn (by omega), mkS_ts _ hpn (by omega), t1, t2, decide_eq_true ⟨hk, hm⟩]; rfl
/-- What a change leads from and to. -/
def Rel : List IP → ByteArray → ByteArray → Prop
 | [], s, t => s = E0 ∧ t = E0
 | p :: r, s, t => ∃ K s' t' : ByteArray, K.size = p.f0.toNat ∧ s = K ++ (p.f2 ++ s') ∧ t = K ++ (p.f1 ++ t') ∧ Rel r s' t'
theorem rel_sw : ∀ (l : List IP) (s t : ByteArray), Rel l s t → Rel (l.map swS) t s
 | [], s, t, h => ⟨h.2, h.1⟩
 | p :: r, s, t, ⟨K, s', t', h1, h2, h3, h4⟩ => ⟨K, t', s', h1, h3, h2, rel_sw r s' t' h4⟩
theorem rel_app : ∀ (l m : List IP) (s t s2 t2 : ByteArray), Rel l s t → Rel m s2 t2 → Rel (l ++ m) (s ++ s2) (t ++ t2)
 | [], m, s, t, s2, t2, h, h2 => by
  obtain ⟨rfl, rfl⟩ := h
  rw [e0_app, e0_app]; exact h2
 | p :: r, m, s, t, s2, t2, ⟨K, s', t', h1, h2, h3, h4⟩, hm => by
  refine ⟨K, s' ++ s2, t' ++ t2, h1, ?_, ?_, rel_app r m s' t' s2 t2 h4 hm⟩
  ·rw [h2, ByteArray.append_assoc, ByteArray.append_assoc]
  ·rw [h3, ByteArray.append_assoc, ByteArray.append_assoc]
theorem rel_split : ∀ (l m : List IP) (s t : ByteArray), Rel (l ++ m) s t → ∃ s1 t1 s2 t2, s = s1 ++ s2 ∧ t = t1 ++ t2 ∧ Rel l s1 t1 ∧ Rel m s2 t2
 | [], m, s, t, h => ⟨E0, E0, s, t, (e0_app s).symm, (e0_app t).symm, ⟨rfl, rfl⟩, h⟩
 | p :: r, m, s, t, ⟨K, s', t', h1, h2, h3, h4⟩ => by
  obtain ⟨s1, t1, s2, t2, a, b, c, d⟩ := rel_split r m s' t' h4
  refine ⟨K ++ (p.f2 ++ s1), K ++ (p.f1 ++ t1), s2, t2, ?_, ?_, ⟨K, s1, t1, h1, rfl, rfl, c⟩, d⟩
  ·rw [h2, a, ByteArray.append_assoc, ByteArray.append_assoc]
  ·rw [h3, b, ByteArray.append_assoc, ByteArray.append_assoc]
theorem rel_one {k : Int} {a b : ByteArray} {s t : ByteArray} (h : Rel [⟨k, a, b⟩] s t) : ∃ K : ByteArray, K.size = k.toNat ∧ s = K ++ b ∧ t = K ++ a := by
 obtain ⟨K, s', t', h1, h2, h3, h4, h5⟩ := h
 subst h4 h5
 exact ⟨K, h1, by rw [h2]; congr 1; exact ba_app _, by rw [h3]; congr 1; exact ba_app _⟩
theorem rel_mk (k : Int) (a b K : ByteArray) (h : K.size = k.toNat) : Rel [⟨k, a, b⟩] (K ++ b) (K ++ a) :=
 ⟨K, E0, E0, h, by congr 1; exact (ba_app _).symm, by congr 1; exact (ba_app _).symm, rfl, rfl⟩
theorem rel_keep (k : Int) (K : ByteArray) (h : K.size = k.toNat) : Rel [⟨k, ⟨#[]⟩, ⟨#[]⟩⟩] K K := by
 have := rel_mk k ⟨#[]⟩ ⟨#[]⟩ K h
 rw [ba_app] at this; exact this
theorem rel_en (a b : ByteArray) : Rel (enI a b) b a := by
 unfold enI
 have m1 := rel_mk 0 a ⟨#[]⟩ E0 rfl
 have m2 := rel_mk 0 ⟨#[]⟩ b E0 rfl
 rw [e0_app, e0_app] at m1 m2
 by_cases ha : a.size = 0
 ·by_cases hb : b.size = 0
  ·rw [endL_00 ha hb, ba_nil ha, ba_nil hb]; exact ⟨rfl, rfl⟩
  ·rw [endL_01 ha hb, ba_nil ha]; exact m2
 ·by_cases hb : b.size = 0
  ·rw [endL_10 ha hb, ba_nil hb]; exact m1
  ·rw [endL_11 ha hb]
   have := rel_app _ _ _ _ _ _ m1 m2
   rw [ba_app] at this
   have e : (⟨#[]⟩ : ByteArray) ++ b = b := e0_app b
   rw [e] at this; exact this
def RelG (s : GS) (S T : ByteArray) : Prop := ∃ s1 t1, Rel (flI s.1) s1 t1 ∧ S = s1 ++ s.2.2 ∧ T = t1 ++ s.2.1
theorem relG_step {B : Int} {s : GS} (hb : BdG B s.1) {S T : ByteArray} (h : RelG s S T) (p : IP) (hp : One p) {s' t' : ByteArray} (hr : Rel [p] s' t') : RelG (stepG s p) (S ++ s') (T ++ t') := by
 obtain ⟨g, a, b⟩ := s
 obtain ⟨p0, p1, p2⟩ := p
 obtain ⟨s1, t1, h1, h2, h3⟩ := h
 dsimp only at h1 h2 h3 hb
 obtain ⟨K, k1, k2, k3⟩ := rel_one hr
 subst h2 h3 k2 k3
 obtain ⟨q1, q2, q3, q4, q5, q6⟩ := hp
 dsimp only at q1 q2 q3 q4 q5 q6
 by_cases h0 : p0 = 0
 ·subst h0
  have e : stepG (g, a, b) ⟨0, p1, p2⟩ = (g, a ++ p1, b ++ p2) := rfl
  have ek : K = (⟨#[]⟩ : ByteArray) := ba_nil (by rw [k1]; rfl)
  have en : ∀ x : ByteArray, (⟨#[]⟩ : ByteArray) ++ x = x := e0_app
  rw [e, ek, en, en]
  exact ⟨s1, t1, h1, by rw [ByteArray.append_assoc], by rw [ByteArray.append_assoc]⟩
 ·obtain ⟨z1, z2⟩ := q5.resolve_left h0
  have e : stepG (g, a, b) ⟨p0, p1, p2⟩ = (addG g a b p0, ⟨#[]⟩, ⟨#[]⟩) := by unfold stepG; rw [if_neg h0]
  rw [e, ba_nil z1, ba_nil z2, ba_app]
  have key : Rel (flI (addG g a b p0)) (s1 ++ b ++ K) (t1 ++ a ++ K) := by
   by_cases c : a.size = 0 ∧ b.size = 0
   ·rw [ba_nil c.1, ba_nil c.2, ba_app, ba_app]
    have c0 : (⟨#[]⟩ : ByteArray).size = 0 ∧ (⟨#[]⟩ : ByteArray).size = 0 := ⟨rfl, rfl⟩
    rcases List.eq_nil_or_concat g with e | ⟨g0, s0, e⟩
    ·subst e
     obtain ⟨rfl, rfl⟩ := h1
     rw [addG_nil c0, e0_app, flI_one]
     have := rel_app _ _ _ _ _ _ (rel_en ⟨#[]⟩ ⟨#[]⟩) (rel_keep p0 K k1)
     have en : (⟨#[]⟩ : ByteArray) ++ K = K := e0_app K
     rw [en] at this; exact this
    ·rw [List.concat_eq_append] at e
     subst e
     have hs := hb s0 (by simp)
     rw [flI_app, flI_one, ← List.append_assoc] at h1
     obtain ⟨x1, y1, x2, y2, rfl, rfl, r1, r2⟩ := rel_split _ _ _ _ h1
     obtain ⟨K0, w1, w2, w3⟩ := rel_one r2
     rw [ba_app] at w2 w3
     rw [w2, w3, addG_join c0, flI_app, flI_one, ← List.append_assoc, ByteArray.append_assoc, ByteArray.append_assoc]
     exact rel_app _ _ _ _ _ _ r1 (rel_keep _ (K0 ++ K) (by rw [ba_len_app, w1, k1]; dsimp only; omega))
   ·rw [addG_new c, flI_app, flI_one, ← List.append_assoc]
    exact rel_app _ _ _ _ _ _ (rel_app _ _ _ _ _ _ h1 (rel_en a b)) (rel_keep p0 K k1)
  exact ⟨_, _, key, by rw [ba_app, ByteArray.append_assoc], by rw [ba_app, ByteArray.append_assoc]⟩
theorem relG_fold : ∀ (l : List IP) (s : GS) (B : Int) (S T s' t' : ByteArray), BdG B s.1 → 0 ≤ B → B + 300 * (l.length : Int) ≤ 1000000000 → (∀ p ∈ l, One p) → RelG s S T → Rel l s' t' → RelG (l.foldl stepG s) (S ++ s') (T ++ t')
 | [], s, B, S, T, s', t', _, _, _, _, h, hr => by
  obtain ⟨rfl, rfl⟩ := hr
  rw [show S ++ E0 = S from ba_app S, show T ++ E0 = T from ba_app T]; exact h
 | p :: r, s, B, S, T, s', t', hb, hB, hB2, hp, h, hr => by
  rw [List.length_cons] at hB2
  obtain ⟨s1, t1, s2, t2, rfl, rfl, r1, r2⟩ := rel_split [p] r s' t' hr
  have h1 := relG_step hb h p (hp p (List.mem_cons_self ..)) r1
  have h2 := (sim_step (g := s.1) hb hB (by omega) s.2.1 s.2.2 p (hp p (List.mem_cons_self ..))).2
  have := relG_fold r (stepG s p) (B + 300) _ _ s2 t2 h2 (by omega) (by omega) (fun x hx => hp x (List.mem_cons_of_mem _ hx)) h1 r2
  rw [List.foldl_cons, ← ByteArray.append_assoc, ← ByteArray.append_assoc]; exact this
/-- The normal change leads from and to the same. -/
theorem rel_norm (l : List IP) (hl : l.length ≤ 1000) (hp : ∀ p ∈ l, One p) (s t : ByteArray) (h : Rel l s t) : Rel (normI l) s t := by
 have := relG_fold l ([], ⟨#[]⟩, ⟨#[]⟩) 0 E0 E0 s t (fun x hx => by cases hx) (Int.le_refl _) (by omega) hp ⟨E0, E0, ⟨rfl, rfl⟩, rfl, rfl⟩ h
 rw [e0_app, e0_app] at this
 obtain ⟨s1, t1, r1, rfl, rfl⟩ := this
 rw [normI_fl l hl hp]
 exact rel_app _ _ _ _ _ _ r1 (rel_en _ _)
theorem rel_size : ∀ (l : List IP) (s t : ByteArray), Rel l s t → s.size = tsum l
 | [], s, t, h => by rw [h.1]; rfl
 | p :: r, s, t, ⟨K, s', t', h1, h2, h3, h4⟩ => by
  have := rel_size r s' t' h4
  rw [h2, ba_len_app, ba_len_app, h1, this, tsum_cons]; unfold nP; omega
theorem ext_left (a b : ByteArray) : (a ++ b).extract 0 a.size = a := ByteArray.extract_append_eq_left rfl
theorem ext_right (a b : ByteArray) : (a ++ b).extract a.size (a ++ b).size = b := ByteArray.extract_append_eq_right rfl (by rw [ba_len_app])
theorem ext_back (s : ByteArray) (n : Nat) (h : n ≤ s.size) : s = s.extract 0 n ++ s.extract n s.size := by
 have := ByteArray.extract_append_extract (a := s) (i := 0) (j := n) (k := s.size)
 rw [this]
 have e1 : min 0 n = 0 := by omega
 have e2 : max n s.size = s.size := by omega
 rw [e1, e2, ByteArray.extract_zero_size]
theorem rel_ap : ∀ (l : List IP), (∀ p ∈ l, partB p = true) → ∀ (s t o : ByteArray), Rel l s t → apI l s o = (o ++ t, true)
 | [], _, s, t, o, h => by unfold apI; rw [h.2, show o ++ E0 = o from ba_app o]
 | p :: r, hp, s, t, o, ⟨K, s', t', h1, h2, h3, h4⟩ => by
  obtain ⟨f1, f2, f3, f4, f5⟩ := part_facts (hp p (List.mem_cons_self ..))
  have hn : nP p = p.f0.toNat + p.f2.size := rfl
  have ih := fun o => rel_ap r (fun x hx => hp x (List.mem_cons_of_mem _ hx)) s' t' o h4
  have en : ∀ x : ByteArray, (⟨#[]⟩ : ByteArray) ++ x = x := e0_app
  unfold apI
  have e1 : s.extract 0 p.f2.size = p.f2 := by
   rcases f5 with c | c
   ·have ek : K = (⟨#[]⟩ : ByteArray) := ba_nil (by omega)
    rw [h2, ek, en]; exact ext_left _ _
   ·rw [c, ba_nil c]; exact size0 s 0 rfl
  have e2 : s.extract 0 p.f0.toNat = K := by rw [h2, ← h1]; exact ext_left _ _
  have e3 : s.extract (nP p) s.size = s' := by
   have : s = (K ++ p.f2) ++ s' := by rw [ByteArray.append_assoc]; exact h2
   rw [this, show nP p = (K ++ p.f2).size by rw [ba_len_app, h1]; exact hn]; exact ext_right _ _
  rw [if_pos (by rw [e1]), e2, e3, ih, h3, ByteArray.append_assoc, ByteArray.append_assoc]
theorem bytes_inj2 {a b : ByteArray} (h : a.toList = b.toList) : a = b := by
 rw [ByteArray.toList_eq, ByteArray.toList_eq] at h
 exact ByteArray.ext (Array.toList_inj.1 h)
theorem ap_rel : ∀ (l : List IP), (∀ p ∈ l, partB p = true) → ∀ (s o : ByteArray), s.size = tsum l → (apI l s o).2 = true → ∃ t, apI l s o = (o ++ t, true) ∧ Rel l s t
 | [], _, s, o, hs, _ => ⟨E0, by unfold apI; rw [show o ++ E0 = o from ba_app o], ba_nil hs, rfl⟩
 | p :: r, hp, s, o, hs, h => by
  obtain ⟨f1, f2, f3, f4, f5⟩ := part_facts (hp p (List.mem_cons_self ..))
  have hn : nP p = p.f0.toNat + p.f2.size := rfl
  rw [tsum_cons] at hs
  unfold apI at h ⊢
  by_cases c : (s.extract 0 p.f2.size).toList = p.f2.toList
  ·rw [if_pos c] at h ⊢
   have c' := bytes_inj2 c
   obtain ⟨t, e, hr⟩ := ap_rel r (fun x hx => hp x (List.mem_cons_of_mem _ hx)) (s.extract (nP p) s.size) (o ++ (s.extract 0 p.f0.toNat ++ p.f1)) (by rw [size_ext]; omega) h
   have en : ∀ x : ByteArray, (⟨#[]⟩ : ByteArray) ++ x = x := e0_app
   refine ⟨s.extract 0 p.f0.toNat ++ (p.f1 ++ t), by rw [e, ByteArray.append_assoc, ByteArray.append_assoc], s.extract 0 p.f0.toNat, s.extract (nP p) s.size, t, by rw [size_ext]; omega, ?_, rfl, hr⟩
   have hb := ext_back s (nP p) (by omega)
   rcases f5 with q | q
   ·have e0 : s.extract 0 p.f0.toNat = (⟨#[]⟩ : ByteArray) := by rw [q]; exact size0 s _ rfl
    rw [e0, en]
    rw [show nP p = p.f2.size by omega, c'] at hb
    rw [show nP p = p.f2.size by omega]; exact hb
   ·rw [ba_nil q, en, show p.f0.toNat = nP p by rw [hn, q]; rfl]; exact hb
  ·rw [if_neg c] at h; cases h
theorem rel_tx : ∀ (l : List IP), (∀ p ∈ l, partB p = true) → ∀ (s t : ByteArray), Rel l s t → TxB s → TxB t
 | [], _, s, t, h, _ => by rw [h.2]; exact txB_nil rfl
 | p :: r, hp, s, t, ⟨K, s', t', h1, h2, h3, h4⟩, hs => by
  have hs' : TxB K ∧ TxB s' := by
   unfold TxB textB at hs ⊢
   rw [h2, bytesOf_app, bytesOf_app, List.all_append, List.all_append, Bool.and_eq_true, Bool.and_eq_true] at hs
   exact ⟨hs.1, hs.2.2⟩
  rw [h3]
  exact txB_app hs'.1 (txB_app (part_tx (hp p (List.mem_cons_self ..))).1 (rel_tx r (fun x hx => hp x (List.mem_cons_of_mem _ hx)) s' t' h4 hs'.2))
/-- What ApplyOp answers, by the relation. -/
theorem apR_yes {l : List IP} (h : goodO l = true) {s t : ByteArray} (hr : Rel l s t) (hs : goodB (bytesOf s) = true) : apR l s = (t, true) ∧ goodB (bytesOf t) = true ∧ s.size = tsum l ∧ t.size = tsum (l.map swS) := by
 obtain ⟨hl, hp, hk, hm⟩ := goodO_facts h
 have h1 := rel_size l s t hr
 have h2 := rel_size _ t s (rel_sw l s t hr)
 have h3 := rel_ap l hp s t E0 hr
 rw [mkS_ts l hp (by omega)] at hm
 refine ⟨?_, tx_goodB (rel_tx l hp s t hr (goodB_tx hs)) (by omega), h1, h2⟩
 unfold apR
 rw [if_pos h, if_pos hs, if_pos h1, h3, if_pos rfl, e0_app]
theorem apR_rel {l : List IP} {s : ByteArray} (h : (apR l s).2 = true) : goodO l = true ∧ goodB (bytesOf s) = true ∧ ∃ t, apR l s = (t, true) ∧ Rel l s t := by
 unfold apR at h ⊢
 by_cases h1 : goodO l = true
 ·rw [if_pos h1] at h ⊢
  by_cases h2 : goodB (bytesOf s) = true
  ·rw [if_pos h2] at h ⊢
   by_cases h3 : s.size = tsum l
   ·rw [if_pos h3] at h ⊢
    by_cases h4 : (apI l s E0).2 = true
    ·rw [if_pos h4] at h ⊢
     obtain ⟨t, e, hr⟩ := ap_rel l (goodO_facts h1).2.1 s E0 h3 h4
     rw [e0_app] at e
     exact ⟨h1, h2, t, e, hr⟩
    ·rw [if_neg h4] at h; cases h
   ·rw [if_neg h3] at h; cases h
  ·rw [if_neg h2] at h; cases h
 ·rw [if_neg h1] at h; cases h
theorem laws_sameOps_l (l : List IP) (hl : l.length ≤ 1000000) (d : Nat) : ∀ i : Nat, i + d = l.length → Ev (fun k => laws_sameOps.l0 k l l (l.length : Int) (i : Int)) true := by
 induction d with
 | zero =>
  intro i hi
  refine Ev.step (fun k => by rw [laws_sameOps.l0]) ?_
  exact ev_neg (by omega) (ev_ret rfl)
 | succ d ih =>
  intro i hi
  refine Ev.step (fun k => by rw [laws_sameOps.l0]) ?_
  refine ev_pos (by omega) (ev_pos (by omega) (ev_pos (by omega) (ev_pos (by omega) (ev_neg (by simp) ?_))))
  rw [wrap_succ i (by omega)]
  exact ih (i + 1) (by omega)
theorem laws_sameOps_f (l : List IP) (hl : l.length ≤ 1000000) : Ev (fun k => laws_sameOps.f k l l) true := by
 unfold laws_sameOps.f
 exact ev_pos rfl (laws_sameOps_l l hl l.length 0 (by omega))
theorem and255 (E : Int) (h0 : 0 ≤ E) (h1 : E ≤ 18446744073709551615) : 0 ≤ Go.bits .and .u64 E 255 ∧ Go.bits .and .u64 E 255 ≤ 255 := by
 have h := Go.bits_and_u64_nat E.toNat 255 (by omega) (by omega)
 rw [Int.toNat_of_nonneg h0] at h
 have h2 : E.toNat &&& 255 ≤ 255 := Nat.and_le_right
 have h3 : Go.bits .and .u64 E 255 = ((E.toNat &&& 255 : Nat) : Int) := h
 rw [h3]; omega
theorem and255q (x : Int) : 0 ≤ wrap64 (Go.bits .and .u64 (Go.IntKind.u64.wrap x / 1099511627776) 255) ∧ wrap64 (Go.bits .and .u64 (Go.IntKind.u64.wrap x / 1099511627776) 255) ≤ 255 := by
 have hw := Go.IntKind.wrap_u64 x
 obtain ⟨a, b⟩ := and255 (Go.IntKind.u64.wrap x / 1099511627776) (by rw [hw]; omega) (by rw [hw]; omega)
 rw [wrap_id (by omega) (by omega)]; exact ⟨a, b⟩
/-- Bytes as they come in. -/
def Code (s : List Int) : Prop := (∀ x ∈ s, 0 ≤ x ∧ x ≤ 255) ∧ s.length ≤ 1000000000000
theorem next_f {s : List Int} (hs : Code s) (at_ seed : Int) (h0 : 0 ≤ at_) (h1 : at_ ≤ 1000000000000) : ∃ x seed', spec_l1Cur_next.f s at_ seed = some (x, at_ + 1, seed') ∧ 0 ≤ x ∧ x ≤ 255 := by
 unfold spec_l1Cur_next.f
 rw [wrap_id (x := at_ + 1) (by omega) (by omega)]
 by_cases c : at_ < (s.length : Int)
 ·rw [if_pos c, if_pos h0]
  have hx : 0 ≤ rd s at_ ∧ rd s at_ ≤ 255 := by
   obtain ⟨n, rfl⟩ := Int.eq_ofNat_of_zero_le h0
   exact hs.1 _ (gt_mem 0 s n (by omega))
  have e : wrap64 (rd s at_) = rd s at_ := wrap_id (by omega) (by omega)
  by_cases c2 : at_ + 1 ≤ (s.length : Int)
  ·rw [if_pos c2]; exact ⟨_, _, rfl, by rw [e]; exact hx.1, by rw [e]; exact hx.2⟩
  ·rw [if_neg c2]; exact ⟨_, _, rfl, and255q _⟩
 ·rw [if_neg c]
  by_cases c2 : at_ + 1 ≤ (s.length : Int)
  ·rw [if_pos c2]; exact ⟨_, _, rfl, Int.le_refl _, by decide⟩
  ·rw [if_neg c2]; exact ⟨_, _, rfl, and255q _⟩
theorem wrap_pred (n : Nat) (h : n ≤ 4611686018427387904) : wrap64 (((n + 1 : Nat) : Int) - 1) = (n : Int) := by rw [wrap_id (by omega) (by omega)]; omega
theorem tmod_in {x n : Int} (hx : 0 ≤ x) (hn : 0 < n) : 0 ≤ Int.tmod x n ∧ Int.tmod x n < n := by
 rw [Int.tmod_eq_emod_of_nonneg hx]
 exact ⟨Int.emod_nonneg _ (by omega), Int.emod_lt_of_pos _ hn⟩
theorem pick_f {s : List Int} (hs : Code s) (at_ seed n : Int) (h0 : 0 ≤ at_) (h1 : at_ ≤ 100000000000) : ∃ r at' seed', spec_l1Cur_pick.f s at_ seed n = some (r, at', seed') ∧ 0 ≤ r ∧ (1 ≤ n → r < n) ∧ at_ ≤ at' ∧ at' ≤ at_ + 2 := by
 unfold spec_l1Cur_pick.f
 by_cases c : n ≤ 1
 ·rw [if_pos c]; exact ⟨_, _, _, rfl, Int.le_refl _, fun h => by omega, Int.le_refl _, by omega⟩
 ·rw [if_neg c]
  obtain ⟨x, s1, e1, x0, x1⟩ := next_f hs at_ seed h0 (by omega)
  rw [e1]
  simp only [Option.bind_some]
  by_cases c2 : n > 200
  ·rw [if_pos c2]
   obtain ⟨y, s2, e2, y0, y1⟩ := next_f hs (at_ + 1) s1 (by omega) (by omega)
   rw [e2]
   simp only [Option.bind_some]
   rw [if_neg (by omega)]
   have e3 : wrap64 (wrap64 (x * 256) + y) = x * 256 + y := by rw [wrap_id (x := x * 256) (by omega) (by omega), wrap_id (by omega) (by omega)]
   rw [e3]
   obtain ⟨t1, t2⟩ := tmod_in (x := x * 256 + y) (n := n) (by omega) (by omega)
   exact ⟨_, _, _, rfl, t1, fun _ => t2, by omega, by omega⟩
  ·rw [if_neg c2, if_neg (by omega)]
   obtain ⟨t1, t2⟩ := tmod_in (x := x) (n := n) x0 (by omega)
   exact ⟨_, _, _, rfl, t1, fun _ => t2, by omega, by omega⟩
theorem one_f {s : List Int} (hs : Code s) (at_ seed n : Int) (h0 : 0 ≤ at_) (h1 : at_ ≤ 100000000000) : ∃ b at' seed', spec_l1Cur_one.f s at_ seed n = some (b, at', seed') ∧ at_ ≤ at' ∧ at' ≤ at_ + 2 := by
 unfold spec_l1Cur_one.f
 obtain ⟨r, a, z, e, _, _, h2, h3⟩ := pick_f hs at_ seed n h0 h1
 rw [e]
 exact ⟨_, _, _, rfl, h2, h3⟩
theorem of_f {s : List Int} (hs : Code s) (at_ seed : Int) (l : List ByteArray) (h0 : 0 ≤ at_) (h1 : at_ ≤ 100000000000) (hl : 1 ≤ l.length) (hl2 : l.length ≤ 1000) (m : Nat) (hm : ∀ x ∈ l, x.size ≤ m) : ∃ r at' seed', spec_l1Cur_of.f s at_ seed l = some (r, at', seed') ∧ r.size ≤ m ∧ at_ ≤ at' ∧ at' ≤ at_ + 2 := by
 unfold spec_l1Cur_of.f
 obtain ⟨r, a, z, e, r0, r1, h2, h3⟩ := pick_f hs at_ seed (l.length : Int) h0 h1
 rw [e]
 simp only [Option.bind_some]
 have := r1 (by omega)
 rw [if_pos r0, if_pos this]
 refine ⟨_, _, _, rfl, ?_, h2, h3⟩
 obtain ⟨n, rfl⟩ := Int.eq_ofNat_of_zero_le r0
 exact hm _ (gt_mem ByteArray.empty l n (by omega))
/-- A run of so many parts, so deep: it ends, and is not too long. -/
def InnerOk (s : List Int) (d C S : Nat) : Prop := ∀ (n : Nat) (x7 : ByteArray) (at_ seed : Int), n ≤ 60 → 0 ≤ at_ → at_ + ((n * C : Nat) : Int) ≤ 1000000000 → x7.size + n * S ≤ 1000000000 →
 ∃ (r : ByteArray) (at' seed' : Int), Ev (fun k => spec_l1Cur_inner.l0 k (n : Int) (d : Int) x7 s at_ seed) (r, at', seed') ∧ at_ ≤ at' ∧ at' ≤ at_ + ((n * C : Nat) : Int) ∧ r.size ≤ x7.size + n * S
theorem ba_len (a b : ByteArray) : (a ++ b).size = a.size + b.size := ByteArray.size_append
theorem inner_step {s : List Int} (hs : Code s) (d C S : Nat) (hd : d ≤ 10) (hC : 4 ≤ C ∧ C ≤ 1000) (hS : 3 ≤ S ∧ S ≤ 1000) (hin : d = 0 ∨ ∃ e c z, d = e + 1 ∧ InnerOk s e c z ∧ 6 + 3 * c ≤ C ∧ 2 + 3 * z ≤ S) : InnerOk s d C S := by
 intro n
 induction n with
 | zero =>
  intro x7 at_ seed hn h0 h1 h2
  refine ⟨x7, at_, seed, ?_, Int.le_refl _, by omega, by omega⟩
  refine Ev.step (fun k => by rw [spec_l1Cur_inner.l0]) ?_
  exact ev_neg (by omega) (ev_ret rfl)
 | succ n ih =>
  intro x7 at_ seed hn h0 h1 h2
  have m1 : (n + 1) * C = n * C + C := Nat.succ_mul n C
  have m2 : (n + 1) * S = n * S + S := Nat.succ_mul n S
  generalize (n + 1) * C = CC at m1 h1 ⊢
  generalize (n + 1) * S = SS at m2 h2 ⊢
  generalize n * C = cc at m1 ih
  generalize n * S = ss at m2 ih
  -- a part without elements
  have flat : ∀ (a z : Int), 0 ≤ a → a ≤ at_ + 2 → at_ ≤ a → ∃ (r : ByteArray) (at' seed' : Int), Ev (fun k => spec_l1Cur_inner.j1 k ((n + 1 : Nat) : Int) (d : Int) x7 false s a z) (r, at', seed') ∧ at_ ≤ at' ∧ at' ≤ at_ + (CC : Int) ∧ r.size ≤ x7.size + SS := fun a z a0 a1 a2 => by
   obtain ⟨t, a', z', e, ht, b1, b2⟩ := of_f hs a z [(⟨#[97]⟩ : ByteArray), (⟨#[98]⟩ : ByteArray), (⟨#[97, 98]⟩ : ByteArray), (⟨#[120]⟩ : ByteArray), (⟨#[32]⟩ : ByteArray), (⟨#[111, 110, 101]⟩ : ByteArray), (⟨#[49]⟩ : ByteArray), (⟨#[122, 46]⟩ : ByteArray)] (by omega) (by omega) (by simp) (by simp) 3 (by
    intro x hx
    simp only [List.mem_cons, List.not_mem_nil, or_false] at hx
    rcases hx with rfl | rfl | rfl | rfl | rfl | rfl | rfl | rfl <;> decide)
   obtain ⟨r, at', seed', q1, q2, q3, q4⟩ := ih (x7 ++ t) a' z' (by omega) (by omega) (by omega) (by rw [ba_len]; omega)
   rw [ba_len] at q4
   refine ⟨r, at', seed', ?_, by omega, by omega, by omega⟩
   refine Ev.step (fun k => by rw [spec_l1Cur_inner.j1]) ?_
   refine ev_neg (by simp) (ev_eq e (ev_pos (by dsimp only; omega) ?_))
   rw [wrap_pred n (by omega)]; exact q1
  rcases hin with rfl | ⟨e, c, z, rfl, hok, hc, hz⟩
  ·obtain ⟨r, at', seed', q1, q2, q3, q4⟩ := flat at_ seed h0 (by omega) (Int.le_refl _)
   refine ⟨r, at', seed', ?_, q2, q3, q4⟩
   refine Ev.step (fun k => by rw [spec_l1Cur_inner.l0]) ?_
   exact ev_pos (by omega) (ev_neg (by omega) q1)
  ·obtain ⟨b, a, z1, e1, b1, b2⟩ := one_f hs at_ seed 3 h0 (by omega)
   have hstart : ∀ r, Ev (fun k => spec_l1Cur_inner.j1 k ((n + 1 : Nat) : Int) ((e + 1 : Nat) : Int) x7 b s a z1) r → Ev (fun k => spec_l1Cur_inner.l0 k ((n + 1 : Nat) : Int) ((e + 1 : Nat) : Int) x7 s at_ seed) r := fun r h => by
    refine Ev.step (fun k => by rw [spec_l1Cur_inner.l0]) ?_
    exact ev_pos (by omega) (ev_pos (by omega) (ev_eq e1 h))
   cases b with
   | false =>
    obtain ⟨r, at', seed', q1, q2, q3, q4⟩ := flat a z1 (by omega) b2 b1
    exact ⟨r, at', seed', hstart _ q1, q2, q3, q4⟩
   | true =>
    obtain ⟨p, a2, z2, e2, p0, p1, b3, b4⟩ := pick_f hs a z1 4 (by omega) (by omega)
    obtain ⟨m, a3, z3, e3, m0, m1', b5, b6⟩ := pick_f hs a2 z2 4 (by omega) (by omega)
    have m3 := m1' (by omega)
    obtain ⟨mn, rfl⟩ := Int.eq_ofNat_of_zero_le m0
    have c1 : mn * c ≤ 3 * c := Nat.mul_le_mul_right c (by omega)
    have c2 : mn * z ≤ 3 * z := Nat.mul_le_mul_right z (by omega)
    obtain ⟨t, a4, z4, t1, t2, t3, t4⟩ := hok mn (⟨#[]⟩ : ByteArray) a3 z3 (by omega) (by omega) (by omega) (by show 0 + mn * z ≤ _; omega)
    have t4' : t.size ≤ mn * z := by have : (⟨#[]⟩ : ByteArray).size = 0 := rfl; omega
    have hsz : ∀ y : List Int, y.length = 1 → (Go.strOfNums y).size = 1 := fun y hy => by rw [Go.strOfNums_size, hy]
    have hs1 : (Go.strOfNums [(wrap64 (65 + p)) % 256]).size = 1 := hsz _ rfl
    have hs2 : (⟨#[47]⟩ : ByteArray).size = 1 := rfl
    have hs3 : ((Go.strOfNums [(wrap64 (65 + p)) % 256] ++ t) ++ (⟨#[47]⟩ : ByteArray)).size = 2 + t.size := by rw [ba_len, ba_len, hs1, hs2]; omega
    obtain ⟨r, at', seed', q1, q2, q3, q4⟩ := ih (x7 ++ ((Go.strOfNums [(wrap64 (65 + p)) % 256] ++ t) ++ (⟨#[47]⟩ : ByteArray))) a4 z4 (by omega) (by omega) (by omega) (by rw [ba_len, hs3]; omega)
    rw [ba_len, hs3] at q4
    refine ⟨r, at', seed', hstart _ ?_, by omega, by omega, by omega⟩
    refine Ev.step (fun k => by rw [spec_l1Cur_inner.j1]) ?_
    rw [wrap_pred e (by omega), wrap_pred n (by omega)]
    refine ev_pos rfl (ev_eq e2 (ev_eq rfl (ev_eq e3 (Ev.bind (a := (t, a4, z4)) ?_ (ev_pos (by rw [hs1]; simp only; omega) (ev_pos (by rw [ba_len, hs1]; simp only; omega) (ev_pos (by rw [hs3]; omega) q1)))))))
    refine Ev.step (fun k => by rw [spec_l1Cur_inner.f]) ?_
    exact t1
theorem inner_ok3 {s : List Int} (hs : Code s) : InnerOk s 3 186 107 :=
 inner_step hs 3 186 107 (by omega) (by omega) (by omega) (.inr ⟨2, 60, 35, rfl, inner_step hs 2 60 35 (by omega) (by omega) (by omega) (.inr ⟨1, 18, 11, rfl, inner_step hs 1 18 11 (by omega) (by omega) (by omega) (.inr ⟨0, 4, 3, rfl, inner_step hs 0 4 3 (by omega) (by omega) (by omega) (.inl rfl), by omega, by omega⟩), by omega, by omega⟩), by omega, by omega⟩)
theorem inner_f {s : List Int} (hs : Code s) (n : Nat) (hn : n ≤ 60) (at_ seed : Int) (h0 : 0 ≤ at_) (h1 : at_ ≤ 100000000) : ∃ (r : ByteArray) (at' seed' : Int), Ev (fun k => spec_l1Cur_inner.f k s at_ seed (n : Int) 3) (r, at', seed') ∧ at_ ≤ at' ∧ at' ≤ at_ + 20000 ∧ r.size ≤ 10000 := by
 obtain ⟨r, a, z, q1, q2, q3, q4⟩ := inner_ok3 hs n (⟨#[]⟩ : ByteArray) at_ seed hn h0 (by omega) (by show 0 + n * 107 ≤ _; omega)
 have e0 : (⟨#[]⟩ : ByteArray).size = 0 := rfl
 refine ⟨r, a, z, ?_, q2, by omega, by omega⟩
 refine Ev.step (fun k => by rw [spec_l1Cur_inner.f]) ?_
 exact q1
theorem extract_size (x : ByteArray) (a b : Nat) (h : b ≤ x.size) : (x.extract a b).size = b - a := by rw [ByteArray.size_extract]; omega
set_option maxHeartbeats 4000000 in
theorem spoilt_l {s : List Int} (hs : Code s) (w : ByteArray) (hw : 1 ≤ w.size ∧ w.size ≤ 100) : ∀ (n : Nat) (x : ByteArray) (at_ seed : Int), n ≤ 3 → 0 ≤ at_ → at_ + 6 * (n : Int) ≤ 60000000000 → x.size + n ≤ 1000000 →
  ∃ (r : ByteArray) (at' seed' : Int), Ev (fun k => spec_l1Cur_spoilt.l0 k x w (n : Int) s at_ seed) (r, at', seed') ∧ at_ ≤ at' ∧ at' ≤ at_ + 6 * (n : Int) ∧ r.size ≤ x.size + n
 | 0, x, at_, seed, hn, h0, h1, hx => by
  refine ⟨x, at_, seed, ?_, Int.le_refl _, by omega, by omega⟩
  refine Ev.step (fun k => by rw [spec_l1Cur_spoilt.l0]) ?_
  refine ev_neg (by omega) ?_
  refine Ev.step (fun k => by rw [spec_l1Cur_spoilt.j1]) ?_
  exact ev_neg (by simp) (ev_ret rfl)
 | n + 1, x, at_, seed, hn, h0, h1, hx => by
  have hstart : ∀ r, Ev (fun k => spec_l1Cur_spoilt.j1 k x w ((n + 1 : Nat) : Int) (decide ((x.size : Int) > 0)) s at_ seed) r → Ev (fun k => spec_l1Cur_spoilt.l0 k x w ((n + 1 : Nat) : Int) s at_ seed) r := fun r h => by
   refine Ev.step (fun k => by rw [spec_l1Cur_spoilt.l0]) ?_
   exact ev_pos (by omega) h
  by_cases hx0 : (x.size : Int) > 0
  ·rw [decide_eq_true hx0] at hstart
   obtain ⟨i, a1, z1, e1, i0, i1, b1, b2⟩ := pick_f hs at_ seed (x.size : Int) h0 (by omega)
   obtain ⟨j, a2, z2, e2, j0, j1, b3, b4⟩ := pick_f hs a1 z1 (w.size : Int) (by omega) (by omega)
   obtain ⟨c, a3, z3, e3, c0, c1, b5, b6⟩ := pick_f hs a2 z2 3 (by omega) (by omega)
   have i2 := i1 (by omega)
   have j2 := j1 (by omega)
   have hone : (Go.strOfNums [bt w j]).size = 1 := by rw [Go.strOfNums_size]; rfl
   obtain ⟨im, rfl⟩ := Int.eq_ofNat_of_zero_le i0
   have s1 := extract_size x 0 im (by omega)
   have s2 := extract_size x im x.size (Nat.le_refl _)
   have s3 := extract_size x (im + 1) x.size (Nat.le_refl _)
   by_cases h3 : c = 0
   ·obtain ⟨r, at', seed', q1, q2, q3, q4⟩ := spoilt_l hs w hw n (((x.extract 0 im) ++ (Go.strOfNums [bt w j])) ++ (x.extract im x.size)) a3 z3 (by omega) (by omega) (by omega) (by rw [ba_len, ba_len, hone]; omega)
    rw [ba_len, ba_len, hone] at q4
    refine ⟨r, at', seed', hstart _ ?_, by omega, by omega, by omega⟩
    refine Ev.step (fun k => by rw [spec_l1Cur_spoilt.j1]) ?_
    refine ev_pos rfl (ev_eq e1 (ev_eq e2 (ev_pos j0 (ev_pos j2 (ev_eq rfl (ev_eq e3 ?_))))))
    dsimp only
    rw [wrap_succ im (by omega), wrap_pred n (by omega), Int.toNat_natCast, Int.toNat_natCast]
    exact ev_pos h3 (ev_pos (by omega) (ev_pos (by omega) (ev_pos (by omega) (ev_pos (by rw [ba_len]; omega) q1))))
   ·by_cases h4 : c = 1
    ·obtain ⟨r, at', seed', q1, q2, q3, q4⟩ := spoilt_l hs w hw n (((x.extract 0 im) ++ (Go.strOfNums [bt w j])) ++ (x.extract (im + 1) x.size)) a3 z3 (by omega) (by omega) (by omega) (by rw [ba_len, ba_len, hone]; omega)
     rw [ba_len, ba_len, hone] at q4
     refine ⟨r, at', seed', hstart _ ?_, by omega, by omega, by omega⟩
     refine Ev.step (fun k => by rw [spec_l1Cur_spoilt.j1]) ?_
     refine ev_pos rfl (ev_eq e1 (ev_eq e2 (ev_pos j0 (ev_pos j2 (ev_eq rfl (ev_eq e3 ?_))))))
     dsimp only
     rw [wrap_succ im (by omega), wrap_pred n (by omega), Int.toNat_natCast, Int.toNat_natCast]
     exact ev_neg h3 (ev_pos h4 (ev_pos (by omega) (ev_pos (by omega) (ev_pos (by omega) (ev_pos (by omega) (ev_pos (by omega) (ev_pos (by rw [ba_len]; omega) q1)))))))
    ·obtain ⟨r, at', seed', q1, q2, q3, q4⟩ := spoilt_l hs w hw n ((x.extract 0 im) ++ (x.extract (im + 1) x.size)) a3 z3 (by omega) (by omega) (by omega) (by rw [ba_len]; omega)
     rw [ba_len] at q4
     refine ⟨r, at', seed', hstart _ ?_, by omega, by omega, by omega⟩
     refine Ev.step (fun k => by rw [spec_l1Cur_spoilt.j1]) ?_
     refine ev_pos rfl (ev_eq e1 (ev_eq e2 (ev_pos j0 (ev_pos j2 (ev_eq rfl (ev_eq e3 ?_))))))
     dsimp only
     rw [wrap_succ im (by omega), wrap_pred n (by omega), Int.toNat_natCast, Int.toNat_natCast]
     exact ev_neg h3 (ev_neg h4 (ev_pos (by omega) (ev_pos (by omega) (ev_pos (by omega) (ev_pos (by omega) (ev_pos (by omega) q1))))))
  ·rw [decide_eq_false hx0] at hstart
   refine ⟨x, at_, seed, hstart _ ?_, Int.le_refl _, by omega, by omega⟩
   refine Ev.step (fun k => by rw [spec_l1Cur_spoilt.j1]) ?_
   exact ev_neg (by simp) (ev_ret rfl)
theorem spoilt_f {s : List Int} (hs : Code s) (x w : ByteArray) (hw : 1 ≤ w.size ∧ w.size ≤ 100) (hx : x.size ≤ 900000) (at_ seed : Int) (h0 : 0 ≤ at_) (h1 : at_ ≤ 59000000000) : ∃ (r : ByteArray) (at' seed' : Int), Ev (fun k => spec_l1Cur_spoilt.f k s at_ seed x w) (r, at', seed') ∧ at_ ≤ at' ∧ at' ≤ at_ + 20 ∧ r.size ≤ x.size + 3 := by
 obtain ⟨m, a, z, e, m0, m1, b1, b2⟩ := pick_f hs at_ seed 3 h0 (by omega)
 have m2 := m1 (by omega)
 obtain ⟨mn, rfl⟩ := Int.eq_ofNat_of_zero_le m0
 obtain ⟨r, at', seed', q1, q2, q3, q4⟩ := spoilt_l hs w hw mn x a z (by omega) (by omega) (by omega) (by omega)
 refine ⟨r, at', seed', ?_, by omega, by omega, by omega⟩
 unfold spec_l1Cur_spoilt.f
 exact ev_eq e q1
theorem doc_f {s : List Int} (hs : Code s) (at_ seed : Int) (h0 : 0 ≤ at_) (h1 : at_ ≤ 10000000) : ∃ (r : ByteArray) (at' seed' : Int), Ev (fun k => spec_l1Cur_doc.f k s at_ seed) (r, at', seed') ∧ at_ ≤ at' ∧ at' ≤ at_ + 50000 ∧ r.size ≤ 20000 := by
 have last : ∀ (x : ByteArray) (a z : Int), 0 ≤ a → a ≤ 20000000 → x.size ≤ 10000 → ∃ (r : ByteArray) (at' seed' : Int), Ev (fun k => spec_l1Cur_doc.j0 k x s a z) (r, at', seed') ∧ a ≤ at' ∧ at' ≤ a + 30 ∧ r.size ≤ 20000 := fun x a z a0 a1 hx => by
  obtain ⟨b, a2, z2, e2, b1, b2⟩ := one_f hs a z 12 a0 (by omega)
  cases b with
  | true =>
   obtain ⟨r, at', seed', q1, q2, q3, q4⟩ := spoilt_f hs x (⟨#[65, 47, 97, 90]⟩ : ByteArray) (by decide) (by omega) a2 z2 (by omega) (by omega)
   refine ⟨r, at', seed', ?_, by omega, by omega, by omega⟩
   refine Ev.step (fun k => by rw [spec_l1Cur_doc.j0]) ?_
   exact ev_eq e2 (ev_pos rfl (Ev.bind q1 (ev_ret rfl)))
  | false =>
   refine ⟨x, a2, z2, ?_, by omega, by omega, by omega⟩
   refine Ev.step (fun k => by rw [spec_l1Cur_doc.j0]) ?_
   exact ev_eq e2 (ev_neg (by simp) (ev_ret rfl))
 obtain ⟨m, a1, z1, e1, m0, m1, b1, b2⟩ := pick_f hs at_ seed 7 h0 (by omega)
 have m2 := m1 (by omega)
 obtain ⟨mn, rfl⟩ := Int.eq_ofNat_of_zero_le m0
 obtain ⟨x, a2, z2, q1, q2, q3, q4⟩ := inner_f hs mn (by omega) a1 z1 (by omega) (by omega)
 obtain ⟨c, a3, z3, e3, c0, c1, b3, b4⟩ := pick_f hs a2 z2 30 (by omega) (by omega)
 unfold spec_l1Cur_doc.f
 by_cases h3 : c = 0
 ·obtain ⟨y, a4, z4, p1, p2, p3, p4⟩ := inner_f hs 60 (Nat.le_refl _) a3 z3 (by omega) (by omega)
  obtain ⟨r, at', seed', r1, r2, r3, r4⟩ := last y a4 z4 (by omega) (by omega) (by omega)
  exact ⟨r, at', seed', ev_eq e1 (Ev.bind q1 (ev_eq e3 (ev_pos h3 (Ev.bind p1 r1)))), by omega, by omega, r4⟩
 ·by_cases h4 : c = 1
  ·obtain ⟨y, a4, z4, e4, p4, p2, p3⟩ := of_f hs a3 z3 [(⟨#[65, 65, 65, 65, 65, 65, 65, 65, 65, 65, 65, 65, 47, 47, 47, 47, 47, 47, 47, 47, 47, 47, 47, 47]⟩ : ByteArray), (⟨#[65, 65, 65, 65, 65, 65, 65, 65, 65, 65, 65, 65, 65, 47, 47, 47, 47, 47, 47, 47, 47, 47, 47, 47, 47, 47]⟩ : ByteArray)] (by omega) (by omega) (by simp) (by simp) 30 (by
    intro x hx
    simp only [List.mem_cons, List.not_mem_nil, or_false] at hx
    rcases hx with rfl | rfl <;> decide)
   obtain ⟨r, at', seed', r1, r2, r3, r4⟩ := last y a4 z4 (by omega) (by omega) (by omega)
   exact ⟨r, at', seed', ev_eq e1 (Ev.bind q1 (ev_eq e3 (ev_neg h3 (ev_pos h4 (ev_eq e4 r1))))), by omega, by omega, r4⟩
  ·obtain ⟨r, at', seed', r1, r2, r3, r4⟩ := last x a3 z3 (by omega) (by omega) (by omega)
   exact ⟨r, at', seed', ev_eq e1 (Ev.bind q1 (ev_eq e3 (ev_neg h3 (ev_neg h4 r1)))), by omega, by omega, r4⟩
/-! ### the numbers drawn behind the code: they don't stay in one quarter -/
def stp (z : Int) : Int := (z * 6364136223846793005 + 1442695040888963407) % 18446744073709551616
def stp3 (z : Int) : Int := stp (stp (stp z))
def tI : Nat → Int → Int
 | 0, z => z
 | n + 1, z => tI n (stp3 z)
theorem tI_add : ∀ (m n : Nat) (z : Int), tI (m + n) z = tI n (tI m z)
 | 0, n, z => by rw [Nat.zero_add]; rfl
 | m + 1, n, z => by rw [Nat.add_right_comm]; exact tI_add m n (stp3 z)
theorem tI_succ (n : Nat) (z : Int) : tI (n + 1) z = stp3 (tI n z) := by rw [tI_add n 1 z]; rfl
/-- So many steps, as one. -/
def Jump (n : Nat) (p : Int × Int) : Prop := ∀ z, tI n z % 4398046511104 = (p.1 * z + p.2) % 4398046511104
def dbl : Nat → Int × Int
 | 0 => (1610380290293, 146808144153)
 | k + 1 => let p := dbl k; (p.1 * p.1 % 4398046511104, (p.1 * p.2 + p.2) % 4398046511104)
theorem jump_dbl (n : Nat) (p : Int × Int) (h : Jump n p) : Jump (n + n) (p.1 * p.1 % 4398046511104, (p.1 * p.2 + p.2) % 4398046511104) := by
 intro z
 rw [tI_add, h]
 have h1 := h z
 have e1 : (p.1 * tI n z + p.2) % 4398046511104 = (p.1 * (p.1 * z + p.2) + p.2) % 4398046511104 := by
  rw [Int.add_emod, Int.mul_emod, h1, ← Int.mul_emod, ← Int.add_emod]
 rw [e1]
 have e2 : p.1 * (p.1 * z + p.2) + p.2 = p.1 * p.1 * z + (p.1 * p.2 + p.2) := by rw [Int.mul_add, Int.mul_assoc, Int.add_assoc]
 rw [e2]
 show _ = ((p.1 * p.1 % 4398046511104) * z + (p.1 * p.2 + p.2) % 4398046511104) % 4398046511104
 rw [← Int.add_emod_emod]
 have e3 : (p.1 * p.1 * z) % 4398046511104 = (p.1 * p.1 % 4398046511104 * z) % 4398046511104 := by rw [Int.mul_emod (p.1 * p.1) z, Int.mul_emod (p.1 * p.1 % 4398046511104) z, Int.emod_emod_of_dvd (p.1 * p.1) (Int.dvd_refl 4398046511104)]
 rw [Int.add_emod, e3, ← Int.add_emod]
theorem jump_one : Jump 1 (dbl 0) := by
 intro z
 show stp3 z % 4398046511104 = (1610380290293 * z + 146808144153) % 4398046511104
 unfold stp3 stp; omega
theorem jump_all : ∀ k : Nat, Jump (2 ^ k) (dbl k)
 | 0 => jump_one
 | k + 1 => by
  have := jump_dbl _ _ (jump_all k)
  rw [← Nat.two_mul, Nat.mul_comm, ← Nat.pow_succ] at this
  exact this
theorem jump19 (z : Int) : tI 524288 z % 4398046511104 = (1304887820289 * z + 2957227065344) % 4398046511104 := by
 have h := jump_all 19 z
 have e : dbl 19 = (1304887820289, 2957227065344) := by decide +kernel
 rw [e] at h; exact h
theorem jump20 (z : Int) : tI 1048576 z % 4398046511104 = (2609775640577 * z + 2615919247360) % 4398046511104 := by
 have h := jump_all 20 z
 have e : dbl 20 = (2609775640577, 2615919247360) := by decide +kernel
 rw [e] at h; exact h
def Qr (w : Int) : Prop := w / 1099511627776 % 4 = 1
theorem qr_pair (w v : Int) (h : v % 4398046511104 = (2609775640577 * w + 2615919247360) % 4398046511104) (h1 : Qr w) (h2 : Qr v) :
  (2488876 * w + 2494735) % 4194304 < 1048576 ∨ (2488876 * w + 2494735) % 4194304 > 3145728 := by
 unfold Qr at h1 h2
 have e1 : 2609775640577 * w + 2615919247360 = w + 1048576 * (2488876 * w + 2494735) := by omega
 rw [e1] at h
 generalize 2488876 * w + 2494735 = E at h ⊢
 have e2 : (w + 1048576 * E) % 4398046511104 = (w + 1048576 * (E % 4194304)) % 4398046511104 := by omega
 rw [e2] at h
 have e3 : 0 ≤ E % 4194304 ∧ E % 4194304 < 4194304 := by omega
 clear e1 e2
 generalize E % 4194304 = e at h e3 ⊢
 omega
theorem qr_shift (w v : Int) (h : v % 4398046511104 = (1304887820289 * w + 2957227065344) % 4398046511104) :
  (2488876 * v + 2494735) % 4194304 = ((2488876 * w + 2494735) % 4194304 + 2097152) % 4194304 := by
 omega
/-- Behind so many steps one has left the quarter. -/
theorem qr_leaves (w : Int) (h : ∀ i, i ≤ 1572864 → Qr (tI i w)) : False := by
 have a1 := qr_pair w (tI 1048576 w) (jump20 w) (h 0 (by omega)) (h 1048576 (by omega))
 have e : tI 1572864 w = tI 1048576 (tI 524288 w) := by rw [← tI_add]
 have a2 := qr_pair (tI 524288 w) (tI 1572864 w) (by rw [e]; exact jump20 _) (h 524288 (by omega)) (h 1572864 (by omega))
 have a3 := qr_shift w (tI 524288 w) (jump19 w)
 rw [a3] at a2
 have e3 : 0 ≤ (2488876 * w + 2494735) % 4194304 ∧ (2488876 * w + 2494735) % 4194304 < 4194304 := by omega
 clear a3
 generalize (2488876 * w + 2494735) % 4194304 = x at a1 a2 e3
 omega
theorem next_end {s : List Int} (at_ seed : Int) (h0 : (s.length : Int) ≤ at_) (h1 : at_ ≤ 1000000000000) : spec_l1Cur_next.f s at_ seed = some (stp seed / 1099511627776 % 256, at_ + 1, stp seed) := by
 unfold spec_l1Cur_next.f
 have e1 : IntKind.u64.wrap ((IntKind.u64.wrap ((IntKind.u64.wrap (seed * 6364136223846793005)) + 0)) + 1442695040888963407) = stp seed := by
  rw [Go.IntKind.wrap_u64, Go.IntKind.wrap_u64, Go.IntKind.wrap_u64]; unfold stp; omega
 have hs : 0 ≤ stp seed ∧ stp seed < 18446744073709551616 := by unfold stp; omega
 rw [wrap_id (x := at_ + 1) (by omega) (by omega), if_neg (by omega), if_neg (by omega), e1]
 have e2 : Go.bits .and .u64 (stp seed / 1099511627776) 255 = stp seed / 1099511627776 % 256 := by
  have h := Go.bits_and_u64_nat (stp seed / 1099511627776).toNat 255 (by omega) (by omega)
  rw [Int.toNat_of_nonneg (by omega)] at h
  have h2 : (stp seed / 1099511627776).toNat &&& 255 = (stp seed / 1099511627776).toNat % 256 := Nat.and_two_pow_sub_one_eq_mod _ 8
  have h3 : Go.bits .and .u64 (stp seed / 1099511627776) 255 = (((stp seed / 1099511627776).toNat &&& 255 : Nat) : Int) := h
  rw [h3, h2]; omega
 rw [e2, wrap_id (by omega) (by omega)]
theorem pick_end {s : List Int} (at_ seed n : Int) (h0 : (s.length : Int) ≤ at_) (h1 : at_ ≤ 1000000000000) (hn : 1 < n) (hn2 : n ≤ 200) : spec_l1Cur_pick.f s at_ seed n = some (stp seed / 1099511627776 % 256 % n, at_ + 1, stp seed) := by
 unfold spec_l1Cur_pick.f
 rw [if_neg (by omega), next_end at_ seed h0 h1]
 simp only [Option.bind_some]
 rw [if_neg (by omega), if_neg (by omega), Int.tmod_eq_emod_of_nonneg (by omega)]
theorem of_end {s : List Int} (at_ seed : Int) (l : List ByteArray) (h0 : (s.length : Int) ≤ at_) (h1 : at_ ≤ 1000000000000) (hl : 1 < l.length) (hl2 : l.length ≤ 200) : ∃ x, spec_l1Cur_of.f s at_ seed l = some (x, at_ + 1, stp seed) := by
 unfold spec_l1Cur_of.f
 rw [pick_end at_ seed (l.length : Int) h0 h1 (by omega) (by omega)]
 simp only [Option.bind_some]
 have a : 0 ≤ stp seed / 1099511627776 % 256 % (l.length : Int) := Int.emod_nonneg _ (by omega)
 have b : stp seed / 1099511627776 % 256 % (l.length : Int) < (l.length : Int) := Int.emod_lt_of_pos _ (by omega)
 rw [if_pos a, if_pos b]
 exact ⟨_, rfl⟩
def SmP (x : IP) : Prop := x.f1.size ≤ 1048576 ∧ x.f2.size ≤ 1048576
theorem all_one {l : List IP} {p : IP} (h : ∀ x ∈ l, SmP x) (hp : SmP p) : ∀ x ∈ l ++ [p], SmP x := fun x hx => by
 rcases List.mem_append.1 hx with q | q
 ·exact h x q
 ·rw [List.mem_singleton.1 q]; exact hp
def putNames : List ByteArray := [(⟨#[120]⟩ : ByteArray), (⟨#[121, 121]⟩ : ByteArray), (⟨#[65, 47]⟩ : ByteArray), (⟨#[110, 101, 119]⟩ : ByteArray), (⟨#[66]⟩ : ByteArray)]
/-- One round of a drawn change. -/
theorem opstep {s : List Int} (hs : Code s) (x1 : ByteArray) (h1 : x1.size ≤ 1000000) (x5 : List IP) (hl : x5.length ≤ 1000000000000) (p : Nat) (hp : p < x1.size) (at_ seed : Int) (h0 : 0 ≤ at_) (ha : at_ ≤ 90000000000) :
  ∃ (at' seed' : Int) (q : IP) (p' : Nat), at_ < at' ∧ at' ≤ at_ + 6 ∧ p' ≤ x1.size ∧ SmP q ∧ (p < p' ∨ (p' = p ∧ ((s.length : Int) ≤ at_ → Qr (stp (stp seed)) ∧ seed' = stp3 seed))) ∧
   ∀ r, Ev (fun k => spec_l1Cur_opOn.l0 k x1 (x5 ++ [q]) (p' : Int) s at' seed') r → Ev (fun k => spec_l1Cur_opOn.l0 k x1 x5 (p : Int) s at_ seed) r := by
 obtain ⟨n, a1, z1, e1, n0, n1, b1, b2⟩ := pick_f hs at_ seed 5 h0 (by omega)
 have n2 := n1 (by omega)
 have b1' : at_ < a1 := by
  by_cases q : at_ < (s.length : Int)
  ·obtain ⟨x, z, e, _⟩ := next_f hs at_ seed h0 (by omega)
   unfold spec_l1Cur_pick.f at e1
   rw [if_neg (by omega), e] at e1
   simp only [Option.bind_some] at e1
   rw [if_neg (by omega), if_neg (by omega)] at e1
   injection e1 with e1; injection e1 with _ e1; injection e1 with e1 _; omega
  ·rw [pick_end at_ seed 5 (by omega) (by omega) (by omega) (by omega)] at e1
   injection e1 with e1; injection e1 with _ e1; injection e1 with e1 _; omega
 obtain ⟨c, a2, z2, e2, c0, c1, b3, b4⟩ := pick_f hs a1 z1 4 (by omega) (by omega)
 -- how many bytes
 obtain ⟨t, ht1, ht2, ht3, hst⟩ : ∃ t : Nat, 1 ≤ t ∧ p + t ≤ x1.size ∧ t ≤ 5 ∧ ∀ r, Ev (fun k => spec_l1Cur_opOn.j1 k x1 x5 (p : Int) (t : Int) s a1 z1) r → Ev (fun k => spec_l1Cur_opOn.l0 k x1 x5 (p : Int) s at_ seed) r := by
  have w1 : wrap64 (1 + n) = 1 + n := wrap_id (by omega) (by omega)
  have w2 : wrap64 ((x1.size : Int) - (p : Int)) = (x1.size : Int) - (p : Int) := wrap_id (by omega) (by omega)
  by_cases g : 1 + n > (x1.size : Int) - (p : Int)
  ·refine ⟨x1.size - p, by omega, by omega, by omega, fun r h => ?_⟩
   refine Ev.step (fun k => by rw [spec_l1Cur_opOn.l0]) ?_
   refine ev_pos (by omega) (ev_eq e1 ?_)
   rw [w1, w2]
   refine ev_pos g ?_
   rw [show (x1.size : Int) - (p : Int) = ((x1.size - p : Nat) : Int) by omega]; exact h
  ·obtain ⟨nn, rfl⟩ := Int.eq_ofNat_of_zero_le n0
   refine ⟨1 + nn, by omega, by omega, by omega, fun r h => ?_⟩
   refine Ev.step (fun k => by rw [spec_l1Cur_opOn.l0]) ?_
   refine ev_pos (by omega) (ev_eq e1 ?_)
   rw [w1, w2]
   refine ev_neg g ?_
   rw [show 1 + (nn : Int) = ((1 + nn : Nat) : Int) by omega]; exact h
 have w3 : wrap64 ((p : Int) + (t : Int)) = ((p + t : Nat) : Int) := by rw [wrap_id (by omega) (by omega)]; omega
 by_cases h3 : c = 0
 ·refine ⟨a2, z2, ⟨0, (⟨#[]⟩ : ByteArray), x1.extract p (p + t)⟩, p + t, by omega, by omega, by omega, ⟨Nat.zero_le _, ?_⟩, .inl (by omega), fun r h => hst r ?_⟩
  ·show (x1.extract p (p + t)).size ≤ _
   rw [ByteArray.size_extract]; omega
  ·refine Ev.step (fun k => by rw [spec_l1Cur_opOn.j1]) ?_
   rw [w3, Int.toNat_natCast, Int.toNat_natCast]
   exact ev_eq e2 (ev_pos h3 (ev_pos (by omega) (ev_pos (by omega) (ev_pos (by omega) (ev_pos (by omega) h)))))
 ·by_cases h4 : c = 1
  ·obtain ⟨u, a3, z3, e3, u1, b5, b6⟩ := of_f hs a2 z2 putNames (by omega) (by omega) (by simp [putNames]) (by simp [putNames]) 3 (by
    intro x hx
    simp only [putNames, List.mem_cons, List.not_mem_nil, or_false] at hx
    rcases hx with rfl | rfl | rfl | rfl | rfl <;> decide)
   refine ⟨a3, z3, ⟨0, u, (⟨#[]⟩ : ByteArray)⟩, p, by omega, by omega, by omega, ⟨by show u.size ≤ _; omega, Nat.zero_le _⟩, .inr ⟨rfl, fun hc => ?_⟩, fun r h => hst r ?_⟩
   ·rw [pick_end at_ seed 5 (by omega) (by omega) (by omega) (by omega)] at e1
    injection e1 with e1; injection e1 with _ e1; injection e1 with f1 g1
    rw [pick_end a1 z1 4 (by omega) (by omega) (by omega) (by omega)] at e2
    injection e2 with e2; injection e2 with k2 e2; injection e2 with f2 g2
    obtain ⟨x, hx⟩ := of_end (s := s) a2 z2 putNames (by omega) (by omega) (by simp [putNames]) (by simp [putNames])
    rw [hx] at e3
    injection e3 with e3; injection e3 with _ e3; injection e3 with f3 g3
    rw [← g1] at g2 k2
    refine ⟨?_, ?_⟩
    ·rw [h4] at k2
     unfold Qr
     clear hst
     generalize stp (stp seed) / 1099511627776 = X at k2 ⊢
     omega
    ·rw [← g3, ← g2]; rfl
   ·refine Ev.step (fun k => by rw [spec_l1Cur_opOn.j1]) ?_
    exact ev_eq e2 (ev_neg h3 (ev_pos h4 (ev_eq e3 (ev_pos (by omega) h))))
  ·refine ⟨a2, z2, ⟨(t : Int), (⟨#[]⟩ : ByteArray), (⟨#[]⟩ : ByteArray)⟩, p + t, by omega, by omega, by omega, ⟨Nat.zero_le _, Nat.zero_le _⟩, .inl (by omega), fun r h => hst r ?_⟩
   refine Ev.step (fun k => by rw [spec_l1Cur_opOn.j1]) ?_
   rw [w3]
   exact ev_eq e2 (ev_neg h3 (ev_neg h4 (ev_pos (by omega) h)))
def OpRun (s : List Int) (x1 : ByteArray) (r K : Nat) (m : Int → Int → Prop) : Prop := ∀ (x5 : List IP) (p : Nat) (at_ seed : Int), p + r = x1.size → m at_ seed → 0 ≤ at_ → at_ + 6 * (K : Int) ≤ 80000000000 → x5.length + K ≤ 80000000000 → (∀ x ∈ x5, SmP x) →
 ∃ (o : List IP) (at' seed' : Int), Ev (fun k => spec_l1Cur_opOn.l0 k x1 x5 (p : Int) s at_ seed) (o, at', seed') ∧ at_ ≤ at' ∧ at' ≤ at_ + 6 * (K : Int) ∧ o.length ≤ x5.length + K ∧ ∀ x ∈ o, SmP x
theorem oprun_end {s : List Int} (hs : Code s) (x1 : ByteArray) (h1 : x1.size ≤ 1000000) : OpRun s x1 0 2 (fun _ _ => True) := by
 intro x5 p at_ seed hp _ h0 ha hl hsm
 obtain ⟨b, a1, z1, e1, b1, b2⟩ := one_f hs at_ seed 3 h0 (by omega)
 cases b with
 | false =>
  refine ⟨x5, a1, z1, ?_, by omega, by omega, by omega, hsm⟩
  refine Ev.step (fun k => by rw [spec_l1Cur_opOn.l0]) ?_
  exact ev_neg (by omega) (ev_eq e1 (ev_neg (by simp) (ev_ret rfl)))
 | true =>
  obtain ⟨u, a2, z2, e2, u1, b3, b4⟩ := of_f hs a1 z1 [(⟨#[101, 110, 100]⟩ : ByteArray), (⟨#[46]⟩ : ByteArray)] (by omega) (by omega) (by simp) (by simp) 3 (by
   intro x hx
   simp only [List.mem_cons, List.not_mem_nil, or_false] at hx
   rcases hx with rfl | rfl <;> decide)
  refine ⟨x5 ++ [⟨0, u, (⟨#[]⟩ : ByteArray)⟩], a2, z2, ?_, by omega, by omega, by rw [List.length_append, List.length_singleton]; omega, all_one hsm ⟨by show u.size ≤ _; omega, Nat.zero_le _⟩⟩
  refine Ev.step (fun k => by rw [spec_l1Cur_opOn.l0]) ?_
  exact ev_neg (by omega) (ev_eq e1 (ev_pos rfl (ev_eq e2 (ev_pos (by omega) (ev_ret rfl)))))
/-- One round, then what follows. -/
theorem oprun_step {s : List Int} (hs : Code s) (x1 : ByteArray) (h1 : x1.size ≤ 1000000) (r K : Nat) (m : Int → Int → Prop) (hr : 0 < r)
  (hadv : ∀ r', r' < r → OpRun s x1 r' K (fun at_ _ => ∃ a z, m a z ∧ a < at_))
  (hput : OpRun s x1 r K (fun at_ seed => ∃ a z, m a z ∧ a < at_ ∧ ((s.length : Int) ≤ a → Qr (stp (stp z)) ∧ seed = stp3 z))) : OpRun s x1 r (K + 1) m := by
 intro x5 p at_ seed hp hm h0 ha hl hsm
 obtain ⟨a', z', q, p', c1, c2, c3, c4, c5, c6⟩ := opstep hs x1 h1 x5 (by omega) p (by omega) at_ seed h0 (by omega)
 have hlen : (x5 ++ [q]).length = x5.length + 1 := by rw [List.length_append, List.length_singleton]
 rcases c5 with c5 | ⟨c5, c7⟩
 ·obtain ⟨o, at', seed', q1, q2, q3, q4, q5⟩ := hadv (x1.size - p') (by omega) (x5 ++ [q]) p' a' z' (by omega) ⟨at_, seed, hm, c1⟩ (by omega) (by omega) (by omega) (all_one hsm c4)
  exact ⟨o, at', seed', c6 _ q1, by omega, by omega, by omega, q5⟩
 ·subst c5
  obtain ⟨o, at', seed', q1, q2, q3, q4, q5⟩ := hput (x5 ++ [q]) p' a' z' hp ⟨at_, seed, hm, c1, c7⟩ (by omega) (by omega) (by omega) (all_one hsm c4)
  exact ⟨o, at', seed', c6 _ q1, by omega, by omega, by omega, q5⟩
theorem OpRun.imp {s : List Int} {x1 : ByteArray} {r K K' : Nat} {m m' : Int → Int → Prop} (h : OpRun s x1 r K m) (hm : ∀ a z, m' a z → m a z) (hK : K ≤ K') : OpRun s x1 r K' m' := by
 intro x5 p at_ seed hp hm' h0 ha hl hsm
 obtain ⟨o, at', seed', q1, q2, q3, q4, q5⟩ := h x5 p at_ seed hp (hm _ _ hm') h0 (by omega) (by omega) hsm
 exact ⟨o, at', seed', q1, q2, by omega, by omega, q5⟩
theorem stp3_comm (z : Int) : stp (stp (stp3 z)) = stp3 (stp (stp z)) := rfl
theorem oprun_far {s : List Int} (hs : Code s) (x1 : ByteArray) (h1 : x1.size ≤ 1000000) (r K : Nat) (hr : 0 < r)
  (hadv : ∀ r', r' < r → OpRun s x1 r' K (fun at_ _ => (s.length : Int) ≤ at_)) (w : Int) (d : Nat) : ∀ i : Nat, i + d = 1572865 → (∀ j, j < i → Qr (tI j w)) →
   OpRun s x1 r (K + d) (fun at_ seed => (s.length : Int) ≤ at_ ∧ stp (stp seed) = tI i w) := by
 induction d with
 | zero =>
  intro i hi hq
  exact absurd (qr_leaves w (fun j hj => hq j (by omega))) id
 | succ d ih =>
  intro i hi hq
  refine oprun_step hs x1 h1 r (K + d) _ hr (fun r' hr' => (hadv r' hr').imp (fun a z ⟨a0, z0, q, q2⟩ => by have := q.1; omega) (by omega)) ?_
  by_cases hqi : Qr (tI i w)
  ·refine (ih (i + 1) (by omega) (fun j hj => ?_)).imp (fun a z ⟨a0, z0, q, q2, q3⟩ => ?_) (Nat.le_refl _)
   ·by_cases hji : j < i
    ·exact hq j hji
    ·have : j = i := by omega
     subst this; exact hqi
   ·obtain ⟨_, g2⟩ := q3 q.1
    refine ⟨by have := q.1; omega, ?_⟩
    rw [g2, stp3_comm, q.2, tI_succ]
  ·intro x5 p at_ seed hp ⟨a0, z0, q, q2, q3⟩
   obtain ⟨g1, _⟩ := q3 q.1
   rw [q.2] at g1
   exact absurd g1 hqi
theorem oprun_code {s : List Int} (hs : Code s) (x1 : ByteArray) (h1 : x1.size ≤ 1000000) (r K : Nat) (hr : 0 < r)
  (hadv : ∀ r', r' < r → ∀ m : Nat, OpRun s x1 r' (K + m) (fun at_ _ => (s.length : Int) ≤ at_ + (m : Int))) : ∀ m : Nat,
   OpRun s x1 r (K + 1572865 + m) (fun at_ _ => (s.length : Int) ≤ at_ + (m : Int))
 | 0 => by
  intro x5 p at_ seed hp hm
  exact oprun_far hs x1 h1 r K hr (fun r' hr' => (hadv r' hr' 0).imp (fun a z q => by omega) (Nat.le_refl _)) (stp (stp seed)) 1572865 0 (by omega) (fun j hj => by omega) x5 p at_ seed hp ⟨by omega, rfl⟩
 | m + 1 => by
  refine oprun_step hs x1 h1 r (K + 1572865 + m) _ hr (fun r' hr' => (hadv r' hr' m).imp (fun a z ⟨a0, z0, q, q2⟩ => by omega) (by omega)) ?_
  exact (oprun_code hs x1 h1 r K hr hadv m).imp (fun a z ⟨a0, z0, q, q2, _⟩ => by omega) (Nat.le_refl _)
theorem oprun_all {s : List Int} (hs : Code s) (x1 : ByteArray) (h1 : x1.size ≤ 1000000) (r : Nat) : ∀ r', r' ≤ r → ∀ m : Nat, OpRun s x1 r' (r * 1572865 + 2 + m) (fun at_ _ => (s.length : Int) ≤ at_ + (m : Int)) := by
 induction r with
 | zero =>
  intro r' hr' m
  have : r' = 0 := by omega
  subst this
  exact (oprun_end hs x1 h1).imp (fun _ _ _ => trivial) (by omega)
 | succ r ih =>
  intro r' hr' m
  have e : (r + 1) * 1572865 = r * 1572865 + 1572865 := Nat.succ_mul _ _
  by_cases h : r' ≤ r
  ·exact (ih r' h m).imp (fun _ _ q => q) (by omega)
  ·exact (oprun_code hs x1 h1 r' (r * 1572865 + 2) (by omega) (fun r'' hr'' m => ih r'' (by omega) m) m).imp (fun _ _ q => q) (by omega)
/-- A drawn change of a text ends. -/
theorem opOn_f {s : List Int} (hs : Code s) (hsl : s.length ≤ 2000000) (t : ByteArray) (ht : t.size ≤ 1000) (at_ seed : Int) (h0 : 0 ≤ at_) (h1 : at_ ≤ 60000000000) :
  ∃ (o : List IP) (at' seed' : Int), Ev (fun k => spec_l1Cur_opOn.f k s at_ seed t) (o, at', seed') ∧ at_ ≤ at' ∧ at' ≤ at_ + 10000000000 ∧ o.length ≤ 1600000000 ∧ ∀ x ∈ o, SmP x := by
 obtain ⟨o, at', seed', q1, q2, q3, q4, q5⟩ := oprun_all hs t (by omega) t.size t.size (Nat.le_refl _) s.length [] 0 at_ seed (by omega) (by omega) h0 (by omega) (by simp only [List.length_nil]; omega) (fun x hx => by cases hx)
 refine ⟨o, at', seed', q1, q2, by omega, by simp only [List.length_nil] at q4; omega, q5⟩
theorem plainText_f {s : List Int} (hs : Code s) (at_ seed : Int) (h0 : 0 ≤ at_) (h1 : at_ ≤ 10000000) :
  ∃ (t : ByteArray) (at' seed' : Int), Ev (fun k => spec_l1Cur_plainText.f k s at_ seed) (t, at', seed') ∧ at_ ≤ at' ∧ at' ≤ at_ + 60000 ∧ t.size ≤ 300 := by
 obtain ⟨x, a1, z1, e1, b1, b2, hx⟩ := doc_f hs at_ seed h0 h1
 have hg := spec_GoodText_f x (by omega)
 unfold spec_l1Cur_plainText.f
 by_cases g : goodB (bytesOf x) = true
 ·have hz := goodB_size' g
  by_cases c : (x.size : Int) > 40
  ·obtain ⟨b, a2, z2, e2, b3, b4⟩ := one_f hs a1 z1 20 (by omega) (by omega)
   cases b with
   | true => exact ⟨x, a2, z2, Ev.bind e1 (Ev.bind hg (ev_pos g (ev_pos c (ev_eq e2 (ev_pos rfl (ev_ret rfl)))))), by omega, by omega, hz⟩
   | false => exact ⟨x.extract 0 40, a2, z2, Ev.bind e1 (Ev.bind hg (ev_pos g (ev_pos c (ev_eq e2 (ev_neg (by simp) (ev_pos (by omega) (ev_pos (by dsimp only; omega) (ev_ret rfl)))))))), by omega, by omega, by rw [ByteArray.size_extract]; omega⟩
  ·exact ⟨x, a1, z1, Ev.bind e1 (Ev.bind hg (ev_pos g (ev_neg c (ev_ret rfl)))), by omega, by omega, hz⟩
 ·exact ⟨(⟨#[116, 101, 120, 116]⟩ : ByteArray), a1, z1, Ev.bind e1 (Ev.bind hg (ev_neg g (ev_neg (by omega) (ev_ret rfl)))), by omega, by omega, by decide⟩
theorem DrawApplyOp_f {s : List Int} (hs : Code s) (hsl : s.length ≤ 2000000) : ∃ r : List IP × ByteArray, Ev (fun k => spec_DrawApplyOp.f k s) r ∧ r.1.length ≤ 1600000000 ∧ (∀ x ∈ r.1, SmP x) ∧ r.2.size ≤ 1000 := by
 obtain ⟨t, a1, z1, e1, b1, b2, ht⟩ := plainText_f hs 0 0 (Int.le_refl _) (by omega)
 obtain ⟨o, a2, z2, e2, b3, b4, ho, hsm⟩ := opOn_f hs hsl t (by omega) a1 z1 (by omega) (by omega)
 obtain ⟨b, a3, z3, e3, b5, b6⟩ := one_f hs a2 z2 6 (by omega) (by omega)
 unfold spec_DrawApplyOp.f
 cases b with
 | true =>
  obtain ⟨u, a4, z4, e4, b7, b8, hu⟩ := spoilt_f hs t (⟨#[120, 65]⟩ : ByteArray) (by decide) (by omega) a3 z3 (by omega) (by omega)
  exact ⟨(o, u), Ev.bind e1 (Ev.bind e2 (ev_eq e3 (ev_pos rfl (Ev.bind e4 (ev_ret rfl))))), ho, hsm, by show u.size ≤ _; omega⟩
 | false => exact ⟨(o, t), Ev.bind e1 (Ev.bind e2 (ev_eq e3 (ev_neg (by simp) (ev_ret rfl)))), ho, hsm, by show t.size ≤ _; omega⟩
theorem DrawSpliceOp_f {s : List Int} (hs : Code s) : ∃ r : ByteArray × Int × Int × ByteArray, Ev (fun k => spec_DrawSpliceOp.f k s) r ∧ r.1.size ≤ 300 ∧ r.2.2.2.size ≤ 300 := by
 obtain ⟨t, a1, z1, e1, b1, b2, ht⟩ := plainText_f hs 0 0 (Int.le_refl _) (by omega)
 obtain ⟨a, a2, z2, e2, c1, c2, b3, b4⟩ := pick_f hs a1 z1 (wrap64 ((t.size : Int) + 1)) (by omega) (by omega)
 rw [wrap_id (by omega) (by omega)] at c2
 have c2' := c2 (by omega)
 have w2 : wrap64 ((t.size : Int) - a) = (t.size : Int) - a := wrap_id (by omega) (by omega)
 obtain ⟨b, a3, z3, e3, d1, d2, b5, b6⟩ := pick_f hs a2 z2 (wrap64 ((wrap64 ((t.size : Int) - a)) + 2)) (by omega) (by omega)
 rw [w2, wrap_id (by omega) (by omega)] at d2
 have d2' := d2 (by omega)
 obtain ⟨p, a4, z4, e4, b7, b8, hp⟩ := plainText_f hs a3 z3 (by omega) (by omega)
 obtain ⟨c, a5, z5, e5, b9, b10⟩ := one_f hs a4 z4 4 (by omega) (by omega)
 have w : wrap64 (a + b) = a + b := wrap_id (by omega) (by omega)
 unfold spec_DrawSpliceOp.f
 cases c with
 | true =>
  by_cases q : a + b ≤ (t.size : Int)
  ·exact ⟨(t, a, wrap64 (a + b), t.extract (a : Int).toNat ((wrap64 (a + b)) : Int).toNat), Ev.bind e1 (ev_eq e2 (ev_eq e3 (Ev.bind e4 (ev_eq e5 (ev_pos rfl (ev_pos (by dsimp only; rw [w]; exact q) (ev_pos c1 (ev_pos (by dsimp only; rw [w]; omega) (ev_ret rfl))))))))), ht, by show (t.extract _ _).size ≤ 300; rw [ByteArray.size_extract]; omega⟩
  ·exact ⟨(t, a, wrap64 (a + b), p), Ev.bind e1 (ev_eq e2 (ev_eq e3 (Ev.bind e4 (ev_eq e5 (ev_pos rfl (ev_neg (by dsimp only; rw [w]; exact q) (ev_ret rfl))))))), ht, hp⟩
 | false => exact ⟨(t, a, wrap64 (a + b), p), Ev.bind e1 (ev_eq e2 (ev_eq e3 (Ev.bind e4 (ev_eq e5 (ev_neg (by simp) (ev_ret rfl)))))), ht, hp⟩
/-- What a change does, byte by byte: it keeps one, puts one or drops one. -/
inductive At where
 | k : At
 | p (c : UInt8) : At
 | d (c : UInt8) : At
/-- The same but for puts and drops that stand side by side. -/
inductive Sim : List At → List At → Prop where
 | refl (l : List At) : Sim l l
 | cons (a : At) {l m : List At} : Sim l m → Sim (a :: l) (a :: m)
 | swap (c d : UInt8) (l : List At) : Sim (.p c :: .d d :: l) (.d d :: .p c :: l)
 | symm {l m : List At} : Sim l m → Sim m l
 | trans {l m n : List At} : Sim l m → Sim m n → Sim l n
def OSim : Option (List At) → Option (List At) → Prop
 | none, none => True
 | some l, some m => Sim l m
 | _, _ => False
theorem OSim.refl : ∀ o, OSim o o
 | none => True.intro
 | some l => Sim.refl l
theorem OSim.symm : ∀ {o q}, OSim o q → OSim q o
 | none, none, _ => True.intro
 | some _, some _, h => Sim.symm h
theorem OSim.trans : ∀ {o q r}, OSim o q → OSim q r → OSim o r
 | none, none, none, _, _ => True.intro
 | some _, some _, some _, h, h' => Sim.trans h h'
theorem OSim.map (a : At) : ∀ {o q}, OSim o q → OSim (o.map (a :: ·)) (q.map (a :: ·))
 | none, none, _ => True.intro
 | some _, some _, h => Sim.cons a h
theorem OSim.swap (c d : UInt8) : ∀ o : Option (List At), OSim ((o.map (At.d d :: ·)).map (At.p c :: ·)) ((o.map (At.p c :: ·)).map (At.d d :: ·))
 | none => True.intro
 | some l => Sim.swap c d l
/-- Two changes put together, byte by byte. -/
def emA : List At → List At → Option (List At)
 | .d c :: x, y => (emA x y).map (At.d c :: ·)
 | x, .p c :: y => (emA x y).map (At.p c :: ·)
 | [], [] => some []
 | .k :: x, .k :: y => (emA x y).map (At.k :: ·)
 | .k :: x, .d c :: y => (emA x y).map (At.d c :: ·)
 | .p c :: x, .k :: y => (emA x y).map (At.p c :: ·)
 | .p c :: x, .d e :: y => if c = e then emA x y else none
 | _, _ => none
termination_by x y => x.length + y.length
theorem em_d (c : UInt8) (x y : List At) : emA (.d c :: x) y = (emA x y).map (At.d c :: ·) := by
 cases y with
 | nil => rw [emA]
 | cons b y => cases b <;> rw [emA]
theorem em_p0 (c : UInt8) (y : List At) : emA [] (.p c :: y) = (emA [] y).map (At.p c :: ·) := by rw [emA]; intro _ _ h; cases h
theorem em_pk (c : UInt8) (x y : List At) : emA (.k :: x) (.p c :: y) = (emA (.k :: x) y).map (At.p c :: ·) := by rw [emA]; intro _ _ h; cases h
theorem em_pp (c e : UInt8) (x y : List At) : emA (.p e :: x) (.p c :: y) = (emA (.p e :: x) y).map (At.p c :: ·) := by rw [emA]; intro _ _ h; cases h
theorem em_00 : emA [] [] = some [] := by rw [emA]
theorem em_0k (y : List At) : emA [] (.k :: y) = none := by rw [emA] <;> (intros; simp_all)
theorem em_0d (c : UInt8) (y : List At) : emA [] (.d c :: y) = none := by rw [emA] <;> (intros; simp_all)
theorem em_k0 (x : List At) : emA (.k :: x) [] = none := by rw [emA] <;> (intros; simp_all)
theorem em_p00 (c : UInt8) (x : List At) : emA (.p c :: x) [] = none := by rw [emA] <;> (intros; simp_all)
theorem em_kk (x y : List At) : emA (.k :: x) (.k :: y) = (emA x y).map (At.k :: ·) := by rw [emA]
theorem em_kd (c : UInt8) (x y : List At) : emA (.k :: x) (.d c :: y) = (emA x y).map (At.d c :: ·) := by rw [emA]
theorem em_pk' (c : UInt8) (x y : List At) : emA (.p c :: x) (.k :: y) = (emA x y).map (At.p c :: ·) := by rw [emA]
theorem em_pd (c e : UInt8) (x y : List At) : emA (.p c :: x) (.d e :: y) = if c = e then emA x y else none := by rw [emA]
/-- How many bytes are made, and taken. -/
def mkA : List At → Nat
 | [] => 0
 | .d _ :: x => mkA x
 | _ :: x => mkA x + 1
def tkA : List At → Nat
 | [] => 0
 | .p _ :: x => tkA x
 | _ :: x => tkA x + 1
theorem em_len : ∀ (n : Nat) (x y z : List At), x.length + y.length ≤ n → emA x y = some z → mkA x = tkA y ∧ tkA z = tkA x ∧ mkA z = mkA y
 | n, [], [], z, _, h => by rw [em_00] at h; cases h; exact ⟨rfl, rfl, rfl⟩
 | 0, .d c :: x, y, z, hn, h => absurd hn (by simp only [List.length_cons]; omega)
 | 0, [], .p c :: y, z, hn, h => absurd hn (by simp only [List.length_cons]; omega)
 | 0, .k :: x, .p c :: y, z, hn, h => absurd hn (by simp only [List.length_cons]; omega)
 | 0, .p e :: x, .p c :: y, z, hn, h => absurd hn (by simp only [List.length_cons]; omega)
 | 0, .k :: x, .k :: y, z, hn, h => absurd hn (by simp only [List.length_cons]; omega)
 | 0, .k :: x, .d c :: y, z, hn, h => absurd hn (by simp only [List.length_cons]; omega)
 | 0, .p c :: x, .k :: y, z, hn, h => absurd hn (by simp only [List.length_cons]; omega)
 | 0, .p c :: x, .d e :: y, z, hn, h => absurd hn (by simp only [List.length_cons]; omega)
 | n + 1, .d c :: x, y, z, hn, h => by
  rw [em_d] at h
  obtain ⟨z', h1, rfl⟩ := Option.map_eq_some_iff.1 h
  obtain ⟨a, b, c⟩ := em_len n x y z' (by simp only [List.length_cons] at hn; omega) h1
  simp only [mkA, tkA]; omega
 | n + 1, [], .p c :: y, z, hn, h => by
  rw [em_p0] at h
  obtain ⟨z', h1, rfl⟩ := Option.map_eq_some_iff.1 h
  obtain ⟨a, b, c⟩ := em_len n [] y z' (by simp only [List.length_cons] at hn ⊢; omega) h1
  simp only [mkA, tkA] at a b ⊢; omega
 | n + 1, .k :: x, .p c :: y, z, hn, h => by
  rw [em_pk] at h
  obtain ⟨z', h1, rfl⟩ := Option.map_eq_some_iff.1 h
  obtain ⟨a, b, c⟩ := em_len n _ y z' (by simp only [List.length_cons] at hn ⊢; omega) h1
  simp only [mkA, tkA] at a b ⊢; omega
 | n + 1, .p e :: x, .p c :: y, z, hn, h => by
  rw [em_pp] at h
  obtain ⟨z', h1, rfl⟩ := Option.map_eq_some_iff.1 h
  obtain ⟨a, b, c⟩ := em_len n _ y z' (by simp only [List.length_cons] at hn ⊢; omega) h1
  simp only [mkA, tkA] at a b ⊢; omega
 | n, [], .k :: y, z, _, h => by rw [em_0k] at h; cases h
 | n, [], .d c :: y, z, _, h => by rw [em_0d] at h; cases h
 | n, .k :: x, [], z, _, h => by rw [em_k0] at h; cases h
 | n, .p c :: x, [], z, _, h => by rw [em_p00] at h; cases h
 | n + 1, .k :: x, .k :: y, z, hn, h => by
  rw [em_kk] at h
  obtain ⟨z', h1, rfl⟩ := Option.map_eq_some_iff.1 h
  obtain ⟨a, b, c⟩ := em_len n x y z' (by simp only [List.length_cons] at hn; omega) h1
  simp only [mkA, tkA] at a b ⊢; omega
 | n + 1, .k :: x, .d c :: y, z, hn, h => by
  rw [em_kd] at h
  obtain ⟨z', h1, rfl⟩ := Option.map_eq_some_iff.1 h
  obtain ⟨a, b, c⟩ := em_len n x y z' (by simp only [List.length_cons] at hn; omega) h1
  simp only [mkA, tkA] at a b ⊢; omega
 | n + 1, .p c :: x, .k :: y, z, hn, h => by
  rw [em_pk'] at h
  obtain ⟨z', h1, rfl⟩ := Option.map_eq_some_iff.1 h
  obtain ⟨a, b, c⟩ := em_len n x y z' (by simp only [List.length_cons] at hn; omega) h1
  simp only [mkA, tkA] at a b ⊢; omega
 | n + 1, .p c :: x, .d e :: y, z, hn, h => by
  rw [em_pd] at h
  by_cases q : c = e
  ·rw [if_pos q] at h
   obtain ⟨a, b, c⟩ := em_len n x y z (by simp only [List.length_cons] at hn; omega) h
   simp only [mkA, tkA] at a b ⊢; omega
  ·rw [if_neg q] at h; cases h
/-- The parts' bytes. -/
def kA (n : Nat) : List At := List.replicate n .k
def pA (s : ByteArray) : List At := s.data.toList.map .p
def dA (s : ByteArray) : List At := s.data.toList.map .d
def atP (p : IP) : List At := kA p.f0.toNat ++ (pA p.f1 ++ dA p.f2)
def atL (l : List IP) : List At := l.flatMap atP
theorem atL_nil : atL [] = [] := rfl
theorem atL_cons (p : IP) (l : List IP) : atL (p :: l) = atP p ++ atL l := rfl
theorem pA_nil {s : ByteArray} (h : s.size = 0) : pA s = [] := by rw [ba_nil h]; rfl
theorem dA_nil {s : ByteArray} (h : s.size = 0) : dA s = [] := by rw [ba_nil h]; rfl
def mapA (f : UInt8 → At) (s : ByteArray) : List At := s.data.toList.map f
theorem mapA_app (f : UInt8 → At) (a b : ByteArray) : mapA f (a ++ b) = mapA f a ++ mapA f b := by unfold mapA; rw [ByteArray.data_append, Array.toList_append, List.map_append]
theorem pA_app (a b : ByteArray) : pA (a ++ b) = pA a ++ pA b := mapA_app _ a b
theorem dA_app (a b : ByteArray) : dA (a ++ b) = dA a ++ dA b := mapA_app _ a b
theorem mapA_ext (f : UInt8 → At) (s : ByteArray) (n : Nat) (h : n ≤ s.size) : mapA f s = mapA f (s.extract 0 n) ++ mapA f (s.extract n s.size) := by
 rw [← mapA_app, ← ext_back s n h]
theorem kA_add (a b : Nat) : kA (a + b) = kA a ++ kA b := by unfold kA; rw [List.replicate_append_replicate]
/-- Whole drops of the first. -/
theorem em_drops : ∀ (l : List UInt8) (x y : List At), emA (l.map At.d ++ x) y = (emA x y).map ((l.map At.d) ++ ·)
 | [], x, y => by simp
 | c :: l, x, y => by
  rw [List.map_cons, List.cons_append, em_d, em_drops l x y]
  cases emA x y <;> rfl
/-- Whole puts of the second, where the first does not begin with a drop. -/
def NoD : List At → Prop
 | .d _ :: _ => False
 | _ => True
theorem em_p {x : List At} (h : NoD x) (c : UInt8) (y : List At) : emA x (.p c :: y) = (emA x y).map (At.p c :: ·) := by
 cases x with
 | nil => exact em_p0 c y
 | cons a x =>
  cases a with
  | k => exact em_pk c x y
  | p e => exact em_pp c e x y
  | d e => exact h.elim
theorem em_puts {x : List At} (h : NoD x) : ∀ (l : List UInt8) (y : List At), emA x (l.map At.p ++ y) = (emA x y).map ((l.map At.p) ++ ·)
 | [], y => by simp
 | c :: l, y => by
  rw [List.map_cons, List.cons_append, em_p h, em_puts h l y]
  cases emA x y <;> rfl
theorem em_kks : ∀ (n : Nat) (x y : List At), emA (kA n ++ x) (kA n ++ y) = (emA x y).map (kA n ++ ·)
 | 0, x, y => by simp [kA]
 | n + 1, x, y => by
  have e : kA (n + 1) = At.k :: kA n := rfl
  rw [e, List.cons_append, List.cons_append, em_kk, em_kks n x y]
  cases emA x y <;> rfl
theorem em_kds : ∀ (l : List UInt8) (x y : List At), emA (kA l.length ++ x) (l.map At.d ++ y) = (emA x y).map ((l.map At.d) ++ ·)
 | [], x, y => by simp [kA]
 | c :: l, x, y => by
  have e : kA (c :: l).length = At.k :: kA l.length := rfl
  rw [e, List.map_cons, List.cons_append, List.cons_append, em_kd, em_kds l x y]
  cases emA x y <;> rfl
theorem em_pks : ∀ (l : List UInt8) (x y : List At), emA (l.map At.p ++ x) (kA l.length ++ y) = (emA x y).map ((l.map At.p) ++ ·)
 | [], x, y => by simp [kA]
 | c :: l, x, y => by
  have e : kA (c :: l).length = At.k :: kA l.length := rfl
  rw [e, List.map_cons, List.cons_append, List.cons_append, em_pk', em_pks l x y]
  cases emA x y <;> rfl
theorem em_pds : ∀ (l m : List UInt8) (x y : List At), l.length = m.length → emA (l.map At.p ++ x) (m.map At.d ++ y) = if l = m then emA x y else none
 | [], [], x, y, _ => by simp
 | c :: l, e :: m, x, y, h => by
  rw [List.map_cons, List.map_cons, List.cons_append, List.cons_append, em_pd, em_pds l m x y (by simpa using h)]
  by_cases q : c = e
  ·subst q
   rw [if_pos rfl]
   by_cases r : l = m
   ·subst r; rw [if_pos rfl, if_pos rfl]
   ·rw [if_neg r, if_neg (fun z => r (List.cons.inj z).2)]
  ·rw [if_neg q, if_neg (fun z => q (List.cons.inj z).1)]
/-- The fold over bytes. -/
def E1 (c : UInt8) : ByteArray := ⟨#[c]⟩
def stA (s : GS) : At → GS
 | .k => (addG s.1 s.2.1 s.2.2 1, ⟨#[]⟩, ⟨#[]⟩)
 | .p c => (s.1, s.2.1 ++ E1 c, s.2.2)
 | .d c => (s.1, s.2.1, s.2.2 ++ E1 c)
theorem sim_fold_st {l m : List At} (h : Sim l m) : ∀ s : GS, l.foldl stA s = m.foldl stA s := by
 induction h with
 | refl l => exact fun _ => rfl
 | cons a _ ih => exact fun s => by rw [List.foldl_cons, List.foldl_cons, ih]
 | swap c d l => exact fun s => rfl
 | symm _ ih => exact fun s => (ih s).symm
 | trans _ _ i1 i2 => exact fun s => (i1 s).trans (i2 s)
theorem e1_app (c : UInt8) (l : List UInt8) : E1 c ++ (⟨l.toArray⟩ : ByteArray) = ⟨(c :: l).toArray⟩ := by
 apply ByteArray.ext; rw [ByteArray.data_append]; simp [E1]
theorem st_puts : ∀ (l : List UInt8) (g : List Seg) (a b : ByteArray), (l.map At.p).foldl stA (g, a, b) = (g, a ++ ⟨l.toArray⟩, b)
 | [], g, a, b => by
  show (g, a, b) = (g, a ++ (⟨#[]⟩ : ByteArray), b)
  rw [ba_app]
 | c :: l, g, a, b => by
  rw [List.map_cons, List.foldl_cons]
  show (l.map At.p).foldl stA (g, a ++ E1 c, b) = _
  rw [st_puts l, ByteArray.append_assoc, e1_app]
theorem st_drops : ∀ (l : List UInt8) (g : List Seg) (a b : ByteArray), (l.map At.d).foldl stA (g, a, b) = (g, a, b ++ ⟨l.toArray⟩)
 | [], g, a, b => by
  show (g, a, b) = (g, a, b ++ (⟨#[]⟩ : ByteArray))
  rw [ba_app]
 | c :: l, g, a, b => by
  rw [List.map_cons, List.foldl_cons]
  show (l.map At.d).foldl stA (g, a, b ++ E1 c) = _
  rw [st_drops l, ByteArray.append_assoc, e1_app]
theorem ba_eta (s : ByteArray) : (⟨s.data.toList.toArray⟩ : ByteArray) = s := by apply ByteArray.ext; simp
theorem addG_more (g : List Seg) (a b : ByteArray) (j : Int) : addG (addG g a b j) ⟨#[]⟩ ⟨#[]⟩ 1 = addG g a b (j + 1) := by
 have c0 : (⟨#[]⟩ : ByteArray).size = 0 ∧ (⟨#[]⟩ : ByteArray).size = 0 := ⟨rfl, rfl⟩
 by_cases c : a.size = 0 ∧ b.size = 0
 ·rcases List.eq_nil_or_concat g with e | ⟨g0, s0, e⟩
  ·subst e
   rw [addG_nil c, addG_nil c]
   exact addG_join c0 [] (a, b, j) 1
  ·rw [List.concat_eq_append] at e
   subst e
   rw [addG_join c, addG_join c, addG_join c0]
   dsimp only
   rw [Int.add_assoc]
 ·rw [addG_new c, addG_new c, addG_join c0]
theorem st_keeps : ∀ (n : Nat) (g : List Seg) (a b : ByteArray), (kA (n + 1)).foldl stA (g, a, b) = (addG g a b ((n + 1 : Nat) : Int), ⟨#[]⟩, ⟨#[]⟩)
 | 0, g, a, b => rfl
 | n + 1, g, a, b => by
  have e : kA (n + 1 + 1) = kA (n + 1) ++ [At.k] := by rw [kA_add (n + 1) 1]; rfl
  rw [e, List.foldl_append, st_keeps n g a b]
  show (addG (addG g a b ((n + 1 : Nat) : Int)) ⟨#[]⟩ ⟨#[]⟩ 1, _, _) = _
  rw [addG_more]; rfl
theorem st_part (s : GS) (p : IP) (hp : One p) : (atP p).foldl stA s = stepG s p := by
 obtain ⟨g, a, b⟩ := s
 obtain ⟨p0, p1, p2⟩ := p
 obtain ⟨q1, q2, q3, q4, q5, q6⟩ := hp
 dsimp only at q1 q2 q3 q4 q5 q6
 unfold atP stepG
 dsimp only
 by_cases h0 : p0 = 0
 ·rw [if_pos h0, h0]
  show (pA p1 ++ dA p2).foldl stA (g, a, b) = _
  unfold pA dA
  rw [List.foldl_append, st_puts, st_drops, ba_eta, ba_eta]
 ·obtain ⟨z1, z2⟩ := q5.resolve_left h0
  rw [if_neg h0, pA_nil z1, dA_nil z2, List.append_nil, List.append_nil]
  obtain ⟨n, hn⟩ : ∃ n : Nat, p0 = ((n + 1 : Nat) : Int) := ⟨p0.toNat - 1, by omega⟩
  subst hn
  rw [Int.toNat_natCast, st_keeps]
theorem st_list : ∀ (l : List IP) (s : GS), (∀ p ∈ l, One p) → (atL l).foldl stA s = l.foldl stepG s
 | [], s, _ => rfl
 | p :: l, s, h => by
  rw [atL_cons, List.foldl_append, st_part s p (h p (List.mem_cons_self ..)), List.foldl_cons]
  exact st_list l _ (fun x hx => h x (List.mem_cons_of_mem _ hx))
/-- What a change makes of bytes. -/
def runA : List At → List UInt8 → Option (List UInt8)
 | [], [] => some []
 | .k :: x, c :: s => (runA x s).map (c :: ·)
 | .p c :: x, s => (runA x s).map (c :: ·)
 | .d c :: x, e :: s => if c = e then runA x s else none
 | _, _ => none
theorem run_p (c : UInt8) (x : List At) (s : List UInt8) : runA (.p c :: x) s = (runA x s).map (c :: ·) := by cases s <;> rfl
theorem run_k0 (x : List At) : runA (.k :: x) [] = none := rfl
theorem run_d0 (c : UInt8) (x : List At) : runA (.d c :: x) [] = none := rfl
theorem run_n (c : UInt8) (s : List UInt8) : runA [] (c :: s) = none := rfl
/-- Alike changes make the same. -/
theorem run_sim {x y : List At} (h : Sim x y) : ∀ s, runA x s = runA y s := by
 induction h with
 | refl _ => exact fun _ => rfl
 | cons a _ ih =>
  intro s
  cases a with
  | k => cases s with
   | nil => rfl
   | cons c s => show (runA _ s).map _ = (runA _ s).map _; rw [ih]
  | p c => rw [run_p, run_p, ih]
  | d c => cases s with
   | nil => rfl
   | cons e s => show (if c = e then runA _ s else none) = (if c = e then runA _ s else none); rw [ih]
 | swap c d m =>
  intro s
  rw [run_p]
  cases s with
  | nil => rfl
  | cons e s =>
   show Option.map _ (if d = e then runA m s else none) = (if d = e then runA (.p c :: m) s else none)
   by_cases q : d = e
   ·rw [if_pos q, if_pos q, run_p]
   ·rw [if_neg q, if_neg q]; rfl
 | symm _ ih => exact fun s => (ih s).symm
 | trans _ _ i1 i2 => exact fun s => (i1 s).trans (i2 s)
theorem sim_left {x y : List At} (h : Sim x y) : ∀ l : List At, Sim (l ++ x) (l ++ y)
 | [] => h
 | a :: l => Sim.cons a (sim_left h l)
theorem sim_right {x y : List At} (h : Sim x y) (l : List At) : Sim (x ++ l) (y ++ l) := by
 induction h with
 | refl _ => exact Sim.refl _
 | cons a _ ih => exact Sim.cons a ih
 | swap c d m => exact Sim.swap c d _
 | symm _ ih => exact ih.symm
 | trans _ _ i1 i2 => exact i1.trans i2
theorem sim_move (c : UInt8) (l : List At) : ∀ ds : List UInt8, Sim (ds.map At.d ++ At.p c :: l) (At.p c :: (ds.map At.d ++ l))
 | [] => Sim.refl _
 | d :: ds => (Sim.cons (.d d) (sim_move c l ds)).trans (Sim.swap c d _).symm
def PosG (g : List Seg) : Prop := ∀ x ∈ g, 0 ≤ x.2.2
def unS (g : List Seg) : List At := g.flatMap (fun x => pA x.1 ++ (dA x.2.1 ++ kA x.2.2.toNat))
def unG (s : GS) : List At := unS s.1 ++ (pA s.2.1 ++ dA s.2.2)
theorem unS_app (g h : List Seg) : unS (g ++ h) = unS g ++ unS h := by unfold unS; rw [List.flatMap_append]
theorem unS_one (x : Seg) : unS [x] = pA x.1 ++ (dA x.2.1 ++ kA x.2.2.toNat) := by unfold unS; simp
theorem pos_add {g : List Seg} (h : PosG g) (a b : ByteArray) : PosG (addG g a b 1) := by
 by_cases c : a.size = 0 ∧ b.size = 0
 ·rcases List.eq_nil_or_concat g with e | ⟨g0, s0, e⟩
  ·subst e
   rw [addG_nil c]
   intro x hx; rw [List.mem_singleton.1 hx]; show (0 : Int) ≤ 1; omega
  ·rw [List.concat_eq_append] at e
   subst e
   rw [addG_join c]
   intro x hx
   rcases List.mem_append.1 hx with q | q
   ·exact h x (List.mem_append_left _ q)
   ·rw [List.mem_singleton.1 q]
    have := h s0 (by simp)
    show 0 ≤ s0.2.2 + 1; omega
 ·rw [addG_new c]
  intro x hx
  rcases List.mem_append.1 hx with q | q
  ·exact h x q
  ·rw [List.mem_singleton.1 q]; show (0 : Int) ≤ 1; omega
theorem pos_step {s : GS} (h : PosG s.1) (a : At) : PosG (stA s a).1 := by
 cases a with
 | k => exact pos_add h _ _
 | p c => exact h
 | d c => exact h
theorem e1_pA (c : UInt8) : pA (E1 c) = [At.p c] := rfl
theorem e1_dA (c : UInt8) : dA (E1 c) = [At.d c] := rfl
theorem un_add {g : List Seg} (h : PosG g) (a b : ByteArray) : unS (addG g a b 1) = unS g ++ (pA a ++ (dA b ++ [At.k])) := by
 by_cases c : a.size = 0 ∧ b.size = 0
 ·rcases List.eq_nil_or_concat g with e | ⟨g0, s0, e⟩
  ·subst e
   rw [addG_nil c, unS_one]; rfl
  ·rw [List.concat_eq_append] at e
   subst e
   have hs := h s0 (by simp)
   have e2 : kA (s0.2.2 + 1).toNat = kA s0.2.2.toNat ++ [At.k] := by
    rw [show (s0.2.2 + 1).toNat = s0.2.2.toNat + 1 by omega, kA_add]; rfl
   rw [addG_join c, unS_app, unS_app, unS_one, unS_one, pA_nil c.1, dA_nil c.2]
   dsimp only
   rw [e2]
   simp only [List.append_assoc, List.nil_append]
 ·rw [addG_new c, unS_app, unS_one]; rfl
theorem un_step (s : GS) (h : PosG s.1) (a : At) : Sim (unG s ++ [a]) (unG (stA s a)) := by
 obtain ⟨g, u, v⟩ := s
 cases a with
 | k =>
  have e : unG (stA (g, u, v) .k) = unG (g, u, v) ++ [At.k] := by
   show unS (addG g u v 1) ++ (pA ⟨#[]⟩ ++ dA ⟨#[]⟩) = unS g ++ (pA u ++ dA v) ++ [At.k]
   rw [un_add h, pA_nil (s := ⟨#[]⟩) rfl, dA_nil (s := ⟨#[]⟩) rfl]; simp only [List.append_assoc, List.append_nil]
  rw [e]; exact Sim.refl _
 | p c =>
  show Sim (unS g ++ (pA u ++ dA v) ++ [At.p c]) (unS g ++ (pA (u ++ E1 c) ++ dA v))
  rw [pA_app, e1_pA]
  simp only [List.append_assoc]
  refine sim_left (sim_left ?_ _) _
  have := sim_move c [] v.data.toList
  rw [List.append_nil] at this
  exact this
 | d c =>
  show Sim (unS g ++ (pA u ++ dA v) ++ [At.d c]) (unS g ++ (pA u ++ dA (v ++ E1 c)))
  rw [dA_app, e1_dA]
  simp only [List.append_assoc]
  exact Sim.refl _
theorem un_fold : ∀ (z : List At) (s : GS), PosG s.1 → Sim (unG s ++ z) (unG (z.foldl stA s))
 | [], s, _ => by rw [List.append_nil]; exact Sim.refl _
 | a :: z, s, h => by
  have e : unG s ++ a :: z = (unG s ++ [a]) ++ z := by simp
  rw [e, List.foldl_cons]
  exact (sim_right (un_step s h a) z).trans (un_fold z _ (pos_step h a))
def foldA (z : List At) : GS := z.foldl stA ([], ⟨#[]⟩, ⟨#[]⟩)
theorem sim_can (z : List At) : Sim z (unG (foldA z)) := by
 have := un_fold z ([], ⟨#[]⟩, ⟨#[]⟩) (fun x hx => by cases hx)
 exact this
/-- Alike is: one fold. -/
theorem sim_iff {z w : List At} : Sim z w ↔ foldA z = foldA w :=
 ⟨fun h => sim_fold_st h _, fun h => (sim_can z).trans (by rw [h]; exact (sim_can w).symm)⟩
theorem foldA_list (l : List IP) (h : ∀ p ∈ l, One p) : foldA (atL l) = foldG l := st_list l _ h
/-- The normal change of bytes. -/
def nfA (z : List At) : List IP := (flatS (foldA z).1 ++ endL (foldA z).2.1 (foldA z).2.2).map ofP
theorem nf_norm (l : List IP) (hl : l.length ≤ 1000) (h : ∀ p ∈ l, One p) : normI l = nfA (atL l) := by
 rw [(norm_fold l hl h).1]; unfold nfA; rw [foldA_list l h]
theorem nf_sim {z w : List At} (h : Sim z w) : nfA z = nfA w := by unfold nfA; rw [sim_iff.1 h]
/-- A change and its normal change are alike. -/
theorem sim_norm {l : List IP} (h : goodO l = true) : Sim (atL l) (atL (normI l)) := by
 obtain ⟨hl, hp, _, _⟩ := goodO_facts h
 obtain ⟨hl2, hp2, _, _⟩ := goodO_facts (norm_good h).1
 rw [sim_iff, foldA_list _ (fun p q => part_one (hp p q)), foldA_list _ (fun p q => part_one (hp2 p q)), foldG_norm l (by omega) (fun p q => part_one (hp p q))]
def Bt (s : ByteArray) : List UInt8 := s.data.toList
def oB (l : List UInt8) : ByteArray := ⟨l.toArray⟩
theorem bt_app (a b : ByteArray) : Bt (a ++ b) = Bt a ++ Bt b := by unfold Bt; rw [ByteArray.data_append, Array.toList_append]
theorem bt_len (a : ByteArray) : (Bt a).length = a.size := by unfold Bt; rw [Array.length_toList]; rfl
theorem bt_inj {a b : ByteArray} (h : Bt a = Bt b) : a = b := ByteArray.ext (Array.toList_inj.1 h)
theorem bt_oB (l : List UInt8) : Bt (oB l) = l := by simp [Bt, oB]
theorem oB_size (l : List UInt8) : (oB l).size = l.length := by rw [← bt_len, bt_oB]
theorem run_keeps : ∀ (K : List UInt8) (x : List At) (s : List UInt8), runA (kA K.length ++ x) (K ++ s) = (runA x s).map (K ++ ·)
 | [], x, s => by simp [kA]
 | c :: K, x, s => by
  have e : kA (c :: K).length = At.k :: kA K.length := rfl
  have e1 : ∀ y t, runA (.k :: y) (c :: t) = (runA y t).map (c :: ·) := fun _ _ => rfl
  rw [e, List.cons_append, List.cons_append, e1, run_keeps K x s]
  cases runA x s <;> rfl
theorem run_puts : ∀ (P : List UInt8) (x : List At) (s : List UInt8), runA (P.map At.p ++ x) s = (runA x s).map (P ++ ·)
 | [], x, s => by simp
 | c :: P, x, s => by
  rw [List.map_cons, List.cons_append, run_p, run_puts P x s]; cases runA x s <;> rfl
theorem run_drops : ∀ (D : List UInt8) (x : List At) (s : List UInt8), runA (D.map At.d ++ x) (D ++ s) = runA x s
 | [], x, s => by simp
 | c :: D, x, s => by
  have e1 : ∀ y t, runA (.d c :: y) (c :: t) = if c = c then runA y t else none := fun _ _ => rfl
  rw [List.map_cons, List.cons_append, List.cons_append, e1, if_pos rfl]; exact run_drops D x s
theorem run_keeps_inv : ∀ (n : Nat) (x : List At) (s u : List UInt8), runA (kA n ++ x) s = some u → ∃ K s' u', K.length = n ∧ s = K ++ s' ∧ u = K ++ u' ∧ runA x s' = some u'
 | 0, x, s, u, h => ⟨[], s, u, rfl, rfl, rfl, h⟩
 | n + 1, x, s, u, h => by
  have e : kA (n + 1) = At.k :: kA n := rfl
  rw [e, List.cons_append] at h
  cases s with
  | nil => rw [run_k0] at h; cases h
  | cons c s =>
   have e1 : runA (.k :: (kA n ++ x)) (c :: s) = (runA (kA n ++ x) s).map (c :: ·) := rfl
   rw [e1] at h
   obtain ⟨u1, h1, rfl⟩ := Option.map_eq_some_iff.1 h
   obtain ⟨K, s', u', a, b, c', d⟩ := run_keeps_inv n x s u1 h1
   exact ⟨c :: K, s', u', by rw [List.length_cons, a], by rw [b]; rfl, by rw [c']; rfl, d⟩
theorem run_drops_inv : ∀ (D : List UInt8) (x : List At) (s u : List UInt8), runA (D.map At.d ++ x) s = some u → ∃ s', s = D ++ s' ∧ runA x s' = some u
 | [], x, s, u, h => ⟨s, rfl, h⟩
 | c :: D, x, s, u, h => by
  rw [List.map_cons, List.cons_append] at h
  cases s with
  | nil => rw [run_d0] at h; cases h
  | cons e s =>
   have e1 : runA (.d c :: (D.map At.d ++ x)) (e :: s) = if c = e then runA (D.map At.d ++ x) s else none := rfl
   rw [e1] at h
   by_cases q : c = e
   ·rw [if_pos q] at h
    obtain ⟨s', a, b⟩ := run_drops_inv D x s u h
    exact ⟨s', by rw [q, a]; rfl, b⟩
   ·rw [if_neg q] at h; cases h
theorem atL_bt (p : IP) (r : List IP) : atL (p :: r) = kA p.f0.toNat ++ ((Bt p.f1).map At.p ++ ((Bt p.f2).map At.d ++ atL r)) := by
 rw [atL_cons]; unfold atP; rw [List.append_assoc, List.append_assoc]; rfl
theorem rel_run : ∀ (l : List IP) (s t : ByteArray), Rel l s t → runA (atL l) (Bt s) = some (Bt t)
 | [], s, t, h => by rw [h.1, h.2]; rfl
 | p :: r, s, t, ⟨K, s', t', h1, h2, h3, h4⟩ => by
  have ih := rel_run r s' t' h4
  rw [atL_bt, ← h1, ← bt_len K, h2, h3, bt_app, bt_app, bt_app, bt_app, run_keeps, run_puts, run_drops, ih]; rfl
theorem run_rel : ∀ (l : List IP) (s u : List UInt8), runA (atL l) s = some u → Rel l (oB s) (oB u)
 | [], s, u, h => by
  cases s with
  | nil => cases h; exact ⟨rfl, rfl⟩
  | cons c s => rw [atL_nil, run_n] at h; cases h
 | p :: r, s, u, h => by
  rw [atL_bt] at h
  obtain ⟨K, s1, u1, k1, rfl, rfl, h1⟩ := run_keeps_inv _ _ _ _ h
  rw [run_puts] at h1
  obtain ⟨u2, h2, rfl⟩ := Option.map_eq_some_iff.1 h1
  obtain ⟨s2, rfl, h3⟩ := run_drops_inv _ _ _ _ h2
  exact ⟨oB K, oB s2, oB u2, by rw [oB_size, k1], bt_inj (by rw [bt_app, bt_app, bt_oB, bt_oB, bt_oB]), bt_inj (by rw [bt_app, bt_app, bt_oB, bt_oB, bt_oB]), run_rel r s2 u2 h3⟩
theorem oB_bt (s : ByteArray) : oB (Bt s) = s := bt_inj (bt_oB _)
theorem rel_sim {l m : List IP} (h : Sim (atL l) (atL m)) {s t : ByteArray} (hr : Rel l s t) : Rel m s t := by
 have := rel_run l s t hr
 rw [run_sim h] at this
 have := run_rel m _ _ this
 rw [oB_bt, oB_bt] at this; exact this
theorem apR_no {l : List IP} {s : ByteArray} (h : ¬ (apR l s).2 = true) : apR l s = (E0, false) := by
 unfold apR at h ⊢
 split
 ·rename_i h1; rw [if_pos h1] at h
  split
  ·rename_i h2; rw [if_pos h2] at h
   split
   ·rename_i h3; rw [if_pos h3] at h
    split
    ·rename_i h4; rw [if_pos h4] at h; exact absurd h4 h
    ·rfl
   ·rfl
  ·rfl
 ·rfl
/-- The normal change does what the change does. -/
theorem apR_norm {l : List IP} (h : goodO l = true) (s : ByteArray) : apR (normI l) s = apR l s := by
 have n1 := (norm_good h).1
 by_cases g : (apR l s).2 = true
 ·obtain ⟨_, h2, t, h3, h4⟩ := apR_rel g
  rw [h3]; exact (apR_yes n1 (rel_sim (sim_norm h) h4) h2).1
 ·by_cases g' : (apR (normI l) s).2 = true
  ·obtain ⟨_, h2, t, h3, h4⟩ := apR_rel g'
   rw [h3]; exact (apR_yes h (rel_sim (sim_norm h).symm h4) h2).1.symm
  ·rw [apR_no g, apR_no g']
theorem norm_norm {l : List IP} (h : goodO l = true) : normI (normI l) = normI l := by
 obtain ⟨hl, hp, _, _⟩ := goodO_facts h
 obtain ⟨hl2, hp2, _, _⟩ := goodO_facts (norm_good h).1
 have e1 := nf_norm (normI l) (by omega) (fun p q => part_one (hp2 p q))
 have e2 := nf_norm l (by omega) (fun p q => part_one (hp p q))
 rw [e1, ← nf_sim (sim_norm h), ← e2]
theorem em_keep : ∀ y : List At, emA (kA (tkA y)) y = some y
 | [] => em_00
 | .k :: y => by
  have e : kA (tkA (.k :: y)) = At.k :: kA (tkA y) := rfl
  rw [e, em_kk, em_keep y]; rfl
 | .d c :: y => by
  have e : kA (tkA (.d c :: y)) = At.k :: kA (tkA y) := rfl
  rw [e, em_kd, em_keep y]; rfl
 | .p c :: y => by
  have e : kA (tkA (.p c :: y)) = kA (tkA y) := rfl
  have ih := em_keep y
  rw [e]
  cases q : tkA y with
  | zero => rw [q] at ih; rw [show kA 0 = [] from rfl] at ih ⊢; rw [em_p0, ih]; rfl
  | succ n => rw [q] at ih; rw [show kA (n + 1) = At.k :: kA n from rfl] at ih ⊢; rw [em_pk, ih]; rfl
def Small (n : Nat) (L : List Pt) : Prop := ∀ q ∈ L, q.2.1.size ≤ 300 * n ∧ q.2.2.size ≤ 300 * n
theorem Small.app {n : Nat} {A B : List Pt} (ha : Small n A) (hb : Small n B) : Small n (A ++ B) := fun q h => (List.mem_append.1 h).elim (ha q) (hb q)
theorem small_endL {n : Nat} {a b : ByteArray} (ha : a.size ≤ 300 * n) (hb : b.size ≤ 300 * n) : Small n (endL a b) := by
 intro q hq
 unfold endL at hq
 rcases List.mem_append.1 hq with h | h
 ·split at h
  ·cases h
  ·rw [List.mem_singleton.1 h]; exact ⟨ha, Nat.zero_le _⟩
 ·split at h
  ·cases h
  ·rw [List.mem_singleton.1 h]; exact ⟨Nat.zero_le _, hb⟩
theorem small_keepA {n : Nat} {L : List Pt} (h : Small n L) (x : Int) : Small n (keepA L x) := by
 unfold keepA
 split
 ·rename_i p hp
  have hm := List.mem_of_getLast? hp
  split
  ·exact Small.app (fun q hq => h q (List.dropLast_subset _ hq)) (fun q hq => by rw [List.mem_singleton.1 hq]; exact h p hm)
  ·exact Small.app h (fun q hq => by rw [List.mem_singleton.1 hq]; exact ⟨Nat.zero_le _, Nat.zero_le _⟩)
 ·intro q hq; rw [List.mem_singleton.1 hq]; exact ⟨Nat.zero_le _, Nat.zero_le _⟩
theorem small_take {n : Nat} {s : List Pt × ByteArray × ByteArray} (p : Pt) (h : Small n s.1) (ha : s.2.1.size ≤ 300 * n) (hb : s.2.2.size ≤ 300 * n) : Small n (takeP s p).1 := by
 unfold takeP keepS
 simp only
 split
 ·exact h
 ·exact small_keepA (Small.app h (small_endL ha hb)) _
theorem small_stN (l : List IP) (hs : ∀ x ∈ l, x.f1.size ≤ 300 ∧ x.f2.size ≤ 300) : ∀ i, i ≤ l.length → Small i (stN l i).1
 | 0, _ => fun q h => by cases h
 | i + 1, h => by
  have ih := small_stN l hs i (by omega)
  obtain ⟨_, h2, h3⟩ := stN_bound l hs i (by omega)
  rw [stN_succ l i (by omega)]
  intro q hq
  have := small_take (toP (l[i]'(by omega))) ih h2 h3 q hq
  omega
theorem normI_small (l : List IP) (hl : l.length ≤ 60) (hp : ∀ p ∈ l, One p) : ∀ x ∈ normI l, x.f1.size ≤ 1048576 ∧ x.f2.size ≤ 1048576 := by
 have hs : ∀ x ∈ l, x.f1.size ≤ 300 ∧ x.f2.size ≤ 300 := fun x hx => ⟨(hp x hx).2.2.1, (hp x hx).2.2.2.1⟩
 obtain ⟨_, b2, b3⟩ := stN_bound l hs l.length (Nat.le_refl _)
 have b1 := small_stN l hs l.length (Nat.le_refl _)
 have e : stN l l.length = (l.map toP).foldl takeP ([], ⟨#[]⟩, ⟨#[]⟩) := by unfold stN; rw [List.take_of_length_le (Nat.le_refl _)]
 rw [e] at b1 b2 b3
 intro x hx
 unfold normI normP at hx
 obtain ⟨q, hq, rfl⟩ := List.mem_map.1 hx
 have := Small.app b1 (small_endL b2 b3) q hq
 exact ⟨by show q.2.1.size ≤ _; omega, by show q.2.2.size ≤ _; omega⟩
theorem size_extract (s : ByteArray) (a b : Nat) (hb : b ≤ s.size) : (s.extract a b).size = b - a := by
 rw [ByteArray.size_extract]; omega
abbrev Mst := List Pt × ByteArray × ByteArray
/-- How many bytes a part has. -/
def psz (p : IP) : Nat := p.f0.toNat + p.f1.size + p.f2.size
def GoodR (l : List IP) : Prop := ∀ p ∈ l, One p ∧ 0 < psz p
theorem goodR_cons {p : IP} {l : List IP} (h : GoodR (p :: l)) : (One p ∧ 0 < psz p) ∧ GoodR l := ⟨h p (List.mem_cons_self ..), fun x hx => h x (List.mem_cons_of_mem _ hx)⟩
theorem goodR_mk {p : IP} {l : List IP} (h1 : One p) (h2 : 0 < psz p) (h : GoodR l) : GoodR (p :: l) := fun x hx => (List.mem_cons.1 hx).elim (fun e => by rw [e]; exact ⟨h1, h2⟩) (h x)
/-- A part of a part: so many of its first bytes. -/
structure CutIs (p : IP) (n : Nat) (a : IP) : Prop where
 one : One a
 sz : psz a = n
 k : 0 < a.f0 ↔ 0 < p.f0
 put : a.f1.size = 0 ↔ p.f1.size = 0
 drop : a.f2.size = 0 ↔ p.f2.size = 0
theorem extract_sz (s : ByteArray) (n : Nat) (h : n ≤ s.size) : (s.extract 0 n).size = n ∧ (s.extract n s.size).size = s.size - n := by
 rw [ByteArray.size_extract, ByteArray.size_extract]; omega
theorem cut_keep {p : IP} {n : Nat} (h : One p) (h0 : 0 < n) (h1 : n < psz p) (hk : 0 < p.f0) : CutIs p n ⟨n, p.f1, p.f2⟩ ∧ (One ⟨p.f0 - n, p.f1, p.f2⟩ ∧ psz ⟨p.f0 - n, p.f1, p.f2⟩ = psz p - n) ∧ atP p = atP ⟨n, p.f1, p.f2⟩ ++ atP ⟨p.f0 - n, p.f1, p.f2⟩ := by
 obtain ⟨p0, p1, p2⟩ := p
 obtain ⟨q1, q2, q3, q4, q5, q6⟩ := h
 unfold psz at *
 dsimp only at *
 obtain ⟨z1, z2⟩ := q5.resolve_left (by omega)
 refine ⟨⟨⟨by dsimp only; omega, by dsimp only; omega, by dsimp only; omega, by dsimp only; omega, .inr ⟨z1, z2⟩, .inl z1⟩, by unfold psz; dsimp only; omega, by dsimp only; omega, Iff.rfl, Iff.rfl⟩, ⟨⟨by dsimp only; omega, by dsimp only; omega, by dsimp only; omega, by dsimp only; omega, .inr ⟨z1, z2⟩, .inl z1⟩, by omega⟩, ?_⟩
 unfold atP
 dsimp only
 rw [pA_nil z1, dA_nil z2]
 simp only [List.append_nil]
 rw [← kA_add]
 congr 1; omega
theorem cut_put {p : IP} {n : Nat} (h : One p) (h0 : 0 < n) (h1 : n < psz p) (hk : ¬ 0 < p.f0) (hp : p.f1.size ≠ 0) : n ≤ p.f1.size ∧ CutIs p n ⟨p.f0, p.f1.extract 0 n, p.f2⟩ ∧ (One ⟨p.f0, p.f1.extract n p.f1.size, p.f2⟩ ∧ psz ⟨p.f0, p.f1.extract n p.f1.size, p.f2⟩ = psz p - n) ∧ atP p = atP ⟨p.f0, p.f1.extract 0 n, p.f2⟩ ++ atP ⟨p.f0, p.f1.extract n p.f1.size, p.f2⟩ := by
 obtain ⟨p0, p1, p2⟩ := p
 obtain ⟨q1, q2, q3, q4, q5, q6⟩ := h
 unfold psz at *
 dsimp only at *
 have z2 : p2.size = 0 := by omega
 have z0 : p0 = 0 := by omega
 have hn : n ≤ p1.size := by omega
 obtain ⟨e1, e2⟩ := extract_sz p1 n hn
 refine ⟨hn, ⟨⟨by dsimp only; omega, by dsimp only; omega, by dsimp only; omega, by dsimp only; omega, .inl z0, .inr z2⟩, by unfold psz; dsimp only; omega, by dsimp only; omega, by dsimp only; omega, Iff.rfl⟩, ⟨⟨by dsimp only; omega, by dsimp only; omega, by dsimp only; omega, by dsimp only; omega, .inl z0, .inr z2⟩, by omega⟩, ?_⟩
 unfold atP
 dsimp only
 rw [z0, dA_nil z2, List.append_nil, List.append_nil, List.append_nil]
 exact mapA_ext At.p p1 n hn
theorem cut_drop {p : IP} {n : Nat} (h : One p) (h0 : 0 < n) (h1 : n < psz p) (hk : ¬ 0 < p.f0) (hp : p.f1.size = 0) : n ≤ p.f2.size ∧ CutIs p n ⟨p.f0, p.f1, p.f2.extract 0 n⟩ ∧ (One ⟨p.f0, p.f1, p.f2.extract n p.f2.size⟩ ∧ psz ⟨p.f0, p.f1, p.f2.extract n p.f2.size⟩ = psz p - n) ∧ atP p = atP ⟨p.f0, p.f1, p.f2.extract 0 n⟩ ++ atP ⟨p.f0, p.f1, p.f2.extract n p.f2.size⟩ := by
 obtain ⟨p0, p1, p2⟩ := p
 obtain ⟨q1, q2, q3, q4, q5, q6⟩ := h
 unfold psz at *
 dsimp only at *
 have z0 : p0 = 0 := by omega
 have hn : n ≤ p2.size := by omega
 obtain ⟨e1, e2⟩ := extract_sz p2 n hn
 refine ⟨hn, ⟨⟨by dsimp only; omega, by dsimp only; omega, by dsimp only; omega, by dsimp only; omega, .inl z0, .inl hp⟩, by unfold psz; dsimp only; omega, by dsimp only; omega, Iff.rfl, by dsimp only; omega⟩, ⟨⟨by dsimp only; omega, by dsimp only; omega, by dsimp only; omega, by dsimp only; omega, .inl z0, .inl hp⟩, by omega⟩, ?_⟩
 unfold atP
 dsimp only
 rw [z0, pA_nil hp]
 exact mapA_ext At.d p2 n hn
theorem cut_all {p : IP} (h : One p) : CutIs p (psz p) p := ⟨h, rfl, Iff.rfl, Iff.rfl, Iff.rfl⟩
theorem keep_eta {a : IP} (h : One a) (hk : 0 < a.f0) : a = ⟨psz a, ⟨#[]⟩, ⟨#[]⟩⟩ ∧ atP a = kA (psz a) := by
 obtain ⟨p0, p1, p2⟩ := a
 obtain ⟨q1, q2, q3, q4, q5, q6⟩ := h
 unfold psz
 dsimp only at *
 obtain ⟨z1, z2⟩ := q5.resolve_left (by omega)
 refine ⟨?_, ?_⟩
 ·rw [ba_nil z1, ba_nil z2]
  congr 1
  show p0 = ((p0.toNat + 0 + 0 : Nat) : Int); omega
 ·unfold atP
  dsimp only
  rw [pA_nil z1, dA_nil z2, z1, z2, List.append_nil, List.append_nil]; rfl
theorem put_eta {a : IP} (h : One a) (hk : ¬ 0 < a.f0) (hd : a.f2.size = 0) : atP a = a.f1.data.toList.map At.p ∧ a.f1.data.toList.length = psz a := by
 obtain ⟨p0, p1, p2⟩ := a
 obtain ⟨q1, q2, q3, q4, q5, q6⟩ := h
 unfold psz atP
 dsimp only at *
 have z : p0 = 0 := by omega
 rw [z, dA_nil hd, hd, List.append_nil]
 refine ⟨rfl, ?_⟩
 rw [Array.length_toList]; show p1.size = 0 + p1.size + 0; omega
theorem drop_eta {a : IP} (h : One a) (hk : ¬ 0 < a.f0) (hd : a.f1.size = 0) : atP a = a.f2.data.toList.map At.d ∧ a.f2.data.toList.length = psz a := by
 obtain ⟨p0, p1, p2⟩ := a
 obtain ⟨q1, q2, q3, q4, q5, q6⟩ := h
 unfold psz atP
 dsimp only at *
 have z : p0 = 0 := by omega
 rw [z, pA_nil hd, hd]
 refine ⟨rfl, ?_⟩
 rw [Array.length_toList]; show p2.size = 0 + 0 + p2.size; omega
/-- Two pieces of one size, byte by byte. -/
theorem em_step (a b : IP) (x y : List At) (ha : One a) (hb : One b) (hs : psz a = psz b) (hd : a.f2.size = 0) (hq : b.f1.size = 0) :
  emA (atP a ++ x) (atP b ++ y) = if 0 < a.f0 then (emA x y).map (atP b ++ ·) else if 0 < b.f0 then (emA x y).map (atP a ++ ·) else if a.f1 = b.f2 then emA x y else none := by
 by_cases ka : 0 < a.f0
 ·rw [if_pos ka, (keep_eta ha ka).2]
  by_cases kb : 0 < b.f0
  ·rw [(keep_eta hb kb).2, hs]; exact em_kks _ x y
  ·obtain ⟨e1, e2⟩ := drop_eta hb kb hq
   rw [e1, hs, ← e2]; exact em_kds _ x y
 ·rw [if_neg ka]
  obtain ⟨f1, f2⟩ := put_eta ha ka hd
  by_cases kb : 0 < b.f0
  ·rw [if_pos kb, (keep_eta hb kb).2, f1, ← hs, ← f2]; exact em_pks _ x y
  ·obtain ⟨e1, e2⟩ := drop_eta hb kb hq
   rw [if_neg kb, f1, e1, em_pds _ _ x y (by omega)]
   by_cases q : a.f1 = b.f2
   ·rw [if_pos q, if_pos (by rw [q])]
   ·rw [if_neg q, if_neg (fun z => q (ByteArray.ext (Array.toList_inj.1 z)))]
/-- A whole drop of the first, a whole put of the second. -/
theorem em_dropP (p : IP) (x : List At) (y : List At) (h : One p) (hd : p.f2.size ≠ 0) : emA (atP p ++ x) y = (emA x y).map (atP p ++ ·) := by
 have hk : ¬ 0 < p.f0 := fun q => by have := h.2.2.2.2.1; omega
 have h1 : p.f1.size = 0 := by have := h.2.2.2.2.2; omega
 rw [(drop_eta h hk h1).1]; exact em_drops _ x y
theorem em_putP (q : IP) (x : List At) (y : List At) (h : One q) (hd : q.f1.size ≠ 0) (hn : NoD x) : emA x (atP q ++ y) = (emA x y).map (atP q ++ ·) := by
 have hk : ¬ 0 < q.f0 := fun z => by have := h.2.2.2.2.1; omega
 have h1 : q.f2.size = 0 := by have := h.2.2.2.2.2; omega
 rw [(put_eta h hk h1).1]; exact em_puts hn _ y
theorem noD_cons (p : IP) (x : List IP) (h : One p) (hz : 0 < psz p) (hd : p.f2.size = 0) : NoD (atL (p :: x)) := by
 rw [atL_cons]
 by_cases hk : 0 < p.f0
 ·rw [(keep_eta h hk).2]
  obtain ⟨m, hm⟩ : ∃ m, psz p = m + 1 := ⟨psz p - 1, by omega⟩
  rw [hm]; exact True.intro
 ·obtain ⟨e1, e2⟩ := put_eta h hk hd
  rw [e1]
  cases hl : p.f1.data.toList with
  | nil => rw [hl] at e2; simp at e2; omega
  | cons c l => exact True.intro
/-- What changes put together answer. -/
def cmpR (a b : List IP) : List IP × Bool :=
 if goodO a = true ∧ goodO b = true then
  (match emA (atL a) (atL b) with
   | some z => if goodO (nfA z) = true then (nfA z, true) else ([], false)
   | none => ([], false))
 else ([], false)
theorem cmpR_no {a b : List IP} (h : ¬ (goodO a = true ∧ goodO b = true)) : cmpR a b = ([], false) := by unfold cmpR; rw [if_neg h]
theorem cmpR_none {a b : List IP} (h : emA (atL a) (atL b) = none) : cmpR a b = ([], false) := by unfold cmpR; rw [h]; split <;> rfl
theorem cmpR_some {a b : List IP} (h : goodO a = true ∧ goodO b = true) {z : List At} (hz : emA (atL a) (atL b) = some z) : cmpR a b = if goodO (nfA z) = true then (nfA z, true) else ([], false) := by unfold cmpR; rw [if_pos h, hz]
theorem normI_small2 (l : List IP) (hl : l.length ≤ 1000) (hp : ∀ p ∈ l, One p) : (∀ x ∈ normI l, x.f1.size ≤ 1048576 ∧ x.f2.size ≤ 1048576) ∧ (normI l).length ≤ 3 * l.length + 2 := by
 have hs : ∀ x ∈ l, x.f1.size ≤ 300 ∧ x.f2.size ≤ 300 := fun x hx => ⟨(hp x hx).2.2.1, (hp x hx).2.2.2.1⟩
 obtain ⟨b0, b2, b3⟩ := stN_bound l hs l.length (Nat.le_refl _)
 have b1 := small_stN l hs l.length (Nat.le_refl _)
 have e : stN l l.length = (l.map toP).foldl takeP ([], ⟨#[]⟩, ⟨#[]⟩) := by unfold stN; rw [List.take_of_length_le (Nat.le_refl _)]
 rw [e] at b0 b1 b2 b3
 refine ⟨fun x hx => ?_, ?_⟩
 ·unfold normI normP at hx
  obtain ⟨q, hq, rfl⟩ := List.mem_map.1 hx
  have := Small.app b1 (small_endL b2 b3) q hq
  exact ⟨by show q.2.1.size ≤ _; omega, by show q.2.2.size ≤ _; omega⟩
 ·have := endL_len ((l.map toP).foldl takeP ([], ⟨#[]⟩, ⟨#[]⟩)).2.1 ((l.map toP).foldl takeP ([], ⟨#[]⟩, ⟨#[]⟩)).2.2
  unfold normI normP
  rw [List.length_map, List.length_append]; omega
theorem fold_len (l : List IP) (hp : ∀ p ∈ l, One p) : ((l.map toP).foldl takeP ([], ⟨#[]⟩, ⟨#[]⟩)).1.length ≤ 3 * l.length := by
 have hs : ∀ x ∈ l, x.f1.size ≤ 300 ∧ x.f2.size ≤ 300 := fun x hx => ⟨(hp x hx).2.2.1, (hp x hx).2.2.2.1⟩
 obtain ⟨b0, _, _⟩ := stN_bound l hs l.length (Nat.le_refl _)
 have e : stN l l.length = (l.map toP).foldl takeP ([], ⟨#[]⟩, ⟨#[]⟩) := by unfold stN; rw [List.take_of_length_le (Nat.le_refl _)]
 rw [e] at b0; exact b0
theorem goodR_of {l : List IP} (h : goodO l = true) : GoodR l := by
 obtain ⟨_, hp, _, _⟩ := goodO_facts h
 intro p hm
 refine ⟨part_one (hp p hm), ?_⟩
 have hb := hp p hm
 unfold partB at hb
 unfold psz
 by_cases c0 : p.f0 = 0
 ·rw [if_pos c0] at hb
  by_cases c1 : p.f1.toList = ([] : List UInt8)
  ·rw [if_pos c1] at hb
   by_cases c2 : p.f2.toList = ([] : List UInt8)
   ·rw [if_pos c2] at hb; cases hb
   ·rw [toList_nil] at c2; omega
  ·rw [toList_nil] at c1; omega
 ·have := (part_one (hp p hm)).1; omega
theorem mkA_app : ∀ a b : List At, mkA (a ++ b) = mkA a + mkA b
 | [], b => by simp [mkA]
 | .k :: a, b => by rw [List.cons_append]; simp only [mkA]; rw [mkA_app a b]; omega
 | .p c :: a, b => by rw [List.cons_append]; simp only [mkA]; rw [mkA_app a b]; omega
 | .d c :: a, b => by rw [List.cons_append]; simp only [mkA]; rw [mkA_app a b]
theorem tkA_app : ∀ a b : List At, tkA (a ++ b) = tkA a + tkA b
 | [], b => by simp [tkA]
 | .k :: a, b => by rw [List.cons_append]; simp only [tkA]; rw [tkA_app a b]; omega
 | .p c :: a, b => by rw [List.cons_append]; simp only [tkA]; rw [tkA_app a b]
 | .d c :: a, b => by rw [List.cons_append]; simp only [tkA]; rw [tkA_app a b]; omega
theorem mkA_k : ∀ n, mkA (kA n) = n
 | 0 => rfl
 | n + 1 => by show mkA (kA n) + 1 = _; rw [mkA_k n]
theorem tkA_k : ∀ n, tkA (kA n) = n
 | 0 => rfl
 | n + 1 => by show tkA (kA n) + 1 = _; rw [tkA_k n]
theorem mkA_ps : ∀ l : List UInt8, mkA (l.map At.p) = l.length
 | [] => rfl
 | c :: l => by show mkA (l.map At.p) + 1 = _; rw [mkA_ps l]; rfl
theorem mkA_ds : ∀ l : List UInt8, mkA (l.map At.d) = 0
 | [] => rfl
 | c :: l => mkA_ds l
theorem tkA_ps : ∀ l : List UInt8, tkA (l.map At.p) = 0
 | [] => rfl
 | c :: l => tkA_ps l
theorem tkA_ds : ∀ l : List UInt8, tkA (l.map At.d) = l.length
 | [] => rfl
 | c :: l => by show tkA (l.map At.d) + 1 = _; rw [tkA_ds l]; rfl
theorem mkA_part (p : IP) : mkA (atP p) = p.f0.toNat + p.f1.size := by
 unfold atP pA dA
 rw [mkA_app, mkA_app, mkA_k, mkA_ps, mkA_ds, Array.length_toList]; rfl
theorem tkA_part (p : IP) : tkA (atP p) = p.f0.toNat + p.f2.size := by
 unfold atP pA dA
 rw [tkA_app, tkA_app, tkA_k, tkA_ps, tkA_ds, Array.length_toList]; show _ + (0 + p.f2.size) = _; omega
theorem mkA_list : ∀ l : List IP, mkA (atL l) = tsum (l.map swS)
 | [] => rfl
 | p :: l => by rw [atL_cons, mkA_app, mkA_part, List.map_cons, tsum_cons, mkA_list l]; rfl
theorem tkA_list : ∀ l : List IP, tkA (atL l) = tsum l
 | [] => rfl
 | p :: l => by rw [atL_cons, tkA_app, tkA_part, tsum_cons, tkA_list l]; rfl
theorem szI_psz {p : IP} (h : One p) : szI p = (psz p : Int) := by
 obtain ⟨q1, q2, q3, q4, _, _⟩ := h
 unfold szI psz
 rw [wrap_id (x := p.f0 + (p.f1.size : Int)) (by omega) (by omega), wrap_id (by omega) (by omega)]; omega
theorem zeroP_iff (p : IP) (h : One p) : zeroP p = true ↔ psz p = 0 := by
 obtain ⟨q1, _, _, _, _, _⟩ := h
 unfold zeroP psz
 rw [Bool.and_eq_true, Bool.and_eq_true, beq_iff_eq, beq_iff_eq, beq_iff_eq, toList_nil, toList_nil]
 omega
/-- What the program's reader cuts, byte by byte. -/
theorem cutP_spec (p : IP) (r : List IP) (n : Nat) (h : One p) (hr : GoodR r) (h0 : 0 < n) (h1 : n ≤ psz p) :
  ∃ a y, cutP p (n : Int) = some (a, y) ∧ CutIs p n a ∧ GoodR (restP y r) ∧ atL (p :: r) = atP a ++ atL (restP y r) ∧ (n = psz p → restP y r = r) ∧ (restP y r).length ≤ r.length + 1 ∧ (n = psz p → a = p) := by
 have key : ∀ (a y : IP), cutP p (n : Int) = some (a, y) → CutIs p n a → One y → psz y = psz p - n → atP p = atP a ++ atP y → (n = psz p → a = p) → ∃ a y, cutP p (n : Int) = some (a, y) ∧ CutIs p n a ∧ GoodR (restP y r) ∧ atL (p :: r) = atP a ++ atL (restP y r) ∧ (n = psz p → restP y r = r) ∧ (restP y r).length ≤ r.length + 1 ∧ (n = psz p → a = p) := by
  intro a y e1 e2 e3 e4 e5 e6
  refine ⟨a, y, e1, e2, ?_⟩
  unfold restP
  by_cases z : zeroP y = true
  ·rw [if_pos z]
   have hz := (zeroP_iff y e3).1 z
   have hy : atP y = [] := by
    unfold atP; unfold psz at hz
    rw [show y.f0.toNat = 0 by omega, pA_nil (by omega), dA_nil (by omega)]; rfl
   exact ⟨hr, by rw [atL_cons, e5, hy, List.append_nil], fun _ => rfl, by omega, e6⟩
  ·rw [if_neg z]
   have hz : psz y ≠ 0 := fun q => z ((zeroP_iff y e3).2 q)
   exact ⟨goodR_mk e3 (by omega) hr, by rw [atL_cons, atL_cons, e5, List.append_assoc], fun q => by omega, by rw [List.length_cons]; omega, e6⟩
 have hb : psz p ≤ 1000 := by obtain ⟨_, _, q3, q4, _, _⟩ := h; unfold psz; omega
 have hb0 := h.1
 have hb1 := h.2.1
 by_cases hn : n = psz p
 ·by_cases hk : 0 < p.f0
  ·obtain ⟨k1, k2⟩ := keep_eta h hk
   have hf : p.f0 = (n : Int) := by rw [hn]; exact congrArg S53.f0 k1
   have hf1 : p.f1 = (⟨#[]⟩ : ByteArray) := congrArg S53.f1 k1
   have hf2 : p.f2 = (⟨#[]⟩ : ByteArray) := congrArg S53.f2 k1
   refine key p ⟨0, p.f1, p.f2⟩ ?_ (hn ▸ cut_all h) ⟨Int.le_refl 0, by show (0 : Int) ≤ 300; omega, h.2.2.1, h.2.2.2.1, .inl rfl, h.2.2.2.2.2⟩ ?_ ?_ (fun _ => rfl)
   ·unfold cutP
    rw [if_pos hk, show p.f0 - (n : Int) = 0 by omega, wrap_id (by decide) (by decide)]
    congr 2
    rw [← hf]
   ·have e1 : p.f1.size = 0 := by rw [hf1]; rfl
    have e2 : p.f2.size = 0 := by rw [hf2]; rfl
    unfold psz at hn ⊢; dsimp only; omega
   ·have : atP ⟨0, p.f1, p.f2⟩ = [] := by unfold atP; rw [hf1, hf2]; rfl
    rw [this, List.append_nil]
  ·by_cases hp : p.f1.size = 0
   ·have hz2 : p.f2.size = n := by unfold psz at hn; omega
    have ex : p.f2.extract 0 n = p.f2 := by rw [← hz2]; exact ByteArray.extract_zero_size
    have ey : (p.f2.extract n p.f2.size).size = 0 := by rw [ByteArray.size_extract]; omega
    refine key p ⟨p.f0, p.f1, p.f2.extract n p.f2.size⟩ ?_ (hn ▸ cut_all h) ⟨h.1, h.2.1, h.2.2.1, by dsimp only; omega, .inl (by dsimp only; omega), .inl hp⟩ ?_ ?_ (fun _ => rfl)
    ·unfold cutP
     rw [if_neg hk, if_pos ((toList_nil _).2 hp), if_pos (by omega), Int.toNat_natCast, ex]
    ·unfold psz at hn ⊢; dsimp only; omega
    ·have : atP ⟨p.f0, p.f1, p.f2.extract n p.f2.size⟩ = [] := by
      unfold atP; dsimp only
      rw [show p.f0.toNat = 0 by omega, pA_nil hp, dA_nil ey]; rfl
     rw [this, List.append_nil]
   ·have hz0 : p.f2.size = 0 := h.2.2.2.2.2.resolve_left hp
    have hz2 : p.f1.size = n := by unfold psz at hn; omega
    have ex : p.f1.extract 0 n = p.f1 := by rw [← hz2]; exact ByteArray.extract_zero_size
    have ey : (p.f1.extract n p.f1.size).size = 0 := by rw [ByteArray.size_extract]; omega
    refine key p ⟨p.f0, p.f1.extract n p.f1.size, p.f2⟩ ?_ (hn ▸ cut_all h) ⟨h.1, h.2.1, by dsimp only; omega, h.2.2.2.1, .inl (by dsimp only; omega), .inr hz0⟩ ?_ ?_ (fun _ => rfl)
    ·unfold cutP
     rw [if_neg hk, if_neg (fun e => hp ((toList_nil _).1 e)), if_pos (by omega), Int.toNat_natCast, ex]
    ·unfold psz at hn ⊢; dsimp only; omega
    ·have : atP ⟨p.f0, p.f1.extract n p.f1.size, p.f2⟩ = [] := by
      unfold atP; dsimp only
      rw [show p.f0.toNat = 0 by omega, pA_nil ey, dA_nil hz0]; rfl
     rw [this, List.append_nil]
 ·have hlt : n < psz p := by omega
  by_cases hk : 0 < p.f0
  ·obtain ⟨c1, ⟨c2, c3⟩, c4⟩ := cut_keep h h0 hlt hk
   refine key _ _ ?_ c1 c2 c3 c4 (fun q => absurd q hn)
   unfold cutP
   rw [if_pos hk, wrap_id (by omega) (by omega)]
  ·by_cases hp : p.f1.size = 0
   ·obtain ⟨hn2, c1, ⟨c2, c3⟩, c4⟩ := cut_drop h h0 hlt hk hp
    refine key _ _ ?_ c1 c2 c3 c4 (fun q => absurd q hn)
    unfold cutP
    rw [if_neg hk, if_pos ((toList_nil _).2 hp), if_pos (by omega), Int.toNat_natCast]
   ·obtain ⟨hn2, c1, ⟨c2, c3⟩, c4⟩ := cut_put h h0 hlt hk hp
    refine key _ _ ?_ c1 c2 c3 c4 (fun q => absurd q hn)
    unfold cutP
    rw [if_neg hk, if_neg (fun e => hp ((toList_nil _).1 e)), if_pos (by omega), Int.toNat_natCast]
theorem tkG_some {n : Nat} {s : Mst} {p : IP} (hf : Fit n s) (hn : n ≤ 250) (hp : One p) : tkG s p = some (takeP s (toP p)) := by
 unfold tkG
 obtain ⟨_, _, q3, q4, _, _⟩ := hp
 have := hf.len
 have := hf.put
 have := hf.drop
 rw [if_pos (by omega)]
def CmpOf (o : Option (List At)) (m : Nat) (s : Mst) (g : Option (Option Mst)) : Prop :=
 (o = none ∧ g = some none) ∨ ∃ E : List IP, o = some (atL E) ∧ (∀ p ∈ E, One p) ∧ E.length < m ∧ g = some (some ((E.map toP).foldl takeP s))
theorem cof_more {o o' : Option (List At)} {m : Nat} {s : Mst} {e : IP} {g g' : Option (Option Mst)} (h : CmpOf o m (takeP s (toP e)) g) (he : One e) (ho : o' = o.map (atP e ++ ·)) (hg : g' = g) : CmpOf o' (m + 1) s g' := by
 subst ho hg
 rcases h with ⟨h1, h2⟩ | ⟨E, h1, h2, h3, h4⟩
 ·exact .inl ⟨by rw [h1]; rfl, h2⟩
 ·refine .inr ⟨e :: E, by rw [h1]; rfl, fun p hp => (List.mem_cons.1 hp).elim (fun q => by rw [q]; exact he) (h2 p), by rw [List.length_cons]; omega, ?_⟩
  rw [List.map_cons, List.foldl_cons]; exact h4
theorem cof_same {o o' : Option (List At)} {m : Nat} {s : Mst} {g g' : Option (Option Mst)} (h : CmpOf o m s g) (ho : o' = o) (hg : g' = g) : CmpOf o' (m + 1) s g' := by
 subst ho hg
 rcases h with ⟨h1, h2⟩ | ⟨E, h1, h2, h3, h4⟩
 ·exact .inl ⟨h1, h2⟩
 ·exact .inr ⟨E, h1, h2, by omega, h4⟩
theorem cmpI_is : ∀ (m : Nat) (x y : List IP) (s : Mst) (n : Nat), GoodR x → GoodR y → x.length + y.length < m → n + m ≤ 250 → Fit n s → mkA (atL x) = tkA (atL y) → CmpOf (emA (atL x) (atL y)) m s (cmpI m s x y)
 | 0, x, y, s, n, _, _, h, _, _, _ => absurd h (by omega)
 | m + 1, [], [], s, n, hx, hy, h, hn, hf, hb => .inr ⟨[], em_00, (fun p hp => by cases hp), Nat.succ_pos m, by rw [cmpI]; rfl⟩
 | m + 1, p :: x, [], s, n, hx, hy, h, hn, hf, hb => by
  obtain ⟨⟨hp, hz⟩, hx'⟩ := goodR_cons hx
  rw [List.length_cons, List.length_nil] at h
  rw [atL_cons, mkA_app, mkA_part, atL_nil] at hb
  have hb0 : tkA [] = 0 := rfl
  by_cases hd : p.f2.size = 0
  ·unfold psz at hz; omega
  ·refine cof_more (cmpI_is m x [] (takeP s (toP p)) (n + 1) hx' hy (by simp only [List.length_nil]; omega) (by omega) (add_step n s p (by omega) hf hp).2 (by rw [atL_nil]; omega)) hp ?_ ?_
   ·rw [atL_cons]; exact em_dropP p _ _ hp hd
   ·rw [cmpI, if_neg (fun e => hd ((toList_nil _).1 e)), tkG_some hf (by omega) hp]; rfl
 | m + 1, [], q :: y, s, n, hx, hy, h, hn, hf, hb => by
  obtain ⟨⟨hq, hz⟩, hy'⟩ := goodR_cons hy
  rw [List.length_cons, List.length_nil] at h
  rw [atL_cons, tkA_app, tkA_part, atL_nil] at hb
  have hb0 : mkA [] = 0 := rfl
  by_cases hd : q.f1.size = 0
  ·unfold psz at hz; omega
  ·refine cof_more (cmpI_is m [] y (takeP s (toP q)) (n + 1) hx hy' (by simp only [List.length_nil]; omega) (by omega) (add_step n s q (by omega) hf hq).2 (by rw [atL_nil]; omega)) hq ?_ ?_
   ·rw [atL_cons, atL_nil]; exact em_putP q [] _ hq hd True.intro
   ·rw [cmpI, if_neg (fun e => hd ((toList_nil _).1 e)), tkG_some hf (by omega) hq]; rfl
 | m + 1, p :: x, q :: y, s, n, hx, hy, h, hn, hf, hb => by
  obtain ⟨⟨hp, hzp⟩, hx'⟩ := goodR_cons hx
  obtain ⟨⟨hq, hzq⟩, hy'⟩ := goodR_cons hy
  rw [List.length_cons, List.length_cons] at h
  by_cases hd : p.f2.size = 0
  ·by_cases hu : q.f1.size = 0
   ·obtain ⟨t, ht, e0, e1, e2, e3⟩ : ∃ t : Nat, (if szI q < szI p then szI q else szI p) = (t : Int) ∧ 0 < t ∧ t ≤ psz p ∧ t ≤ psz q ∧ (t = psz p ∨ t = psz q) := by
     rw [szI_psz hp, szI_psz hq]
     by_cases c : (psz q : Int) < psz p
     ·exact ⟨psz q, by rw [if_pos c], hzq, by omega, by omega, .inr rfl⟩
     ·exact ⟨psz p, by rw [if_neg c], hzp, by omega, by omega, .inl rfl⟩
    obtain ⟨a, ra, b1, b2, b3, b4, b5, b6⟩ := cutP_spec p x t hp hx' e0 e1
    obtain ⟨b, rb, c1, c2, c3, c4, c5, c6⟩ := cutP_spec q y t hq hy' e0 e2
    have hlen : (restP ra x).length + (restP rb y).length < m := by
     rcases e3 with e | e
     ·rw [b5 e]; omega
     ·rw [c5 e]; omega
    have hem := em_step a b (atL (restP ra x)) (atL (restP rb y)) b2.one c2.one (b2.sz.trans c2.sz.symm) (b2.drop.2 hd) (c2.put.2 hu)
    rw [b4, c4, mkA_app, tkA_app, mkA_part, tkA_part] at hb
    have hb' : mkA (atL (restP ra x)) = tkA (atL (restP rb y)) := by
     have z1 := b2.sz; have z2 := c2.sz; have z3 := b2.drop.2 hd; have z4 := c2.put.2 hu
     unfold psz at z1 z2; omega
    rw [← b4, ← c4] at hem
    rw [hem]
    have hgo : cmpI (m + 1) s (p :: x) (q :: y) = if 0 < b.f0 then (tkG s a).bind fun z => cmpI m z (restP ra x) (restP rb y) else if 0 < a.f0 then (tkG s b).bind fun z => cmpI m z (restP ra x) (restP rb y) else if a.f1 = b.f2 then cmpI m s (restP ra x) (restP rb y) else some none := by
     rw [cmpI, if_pos ((toList_nil _).2 hd), if_pos ((toList_nil _).2 hu), ht, b1, c1]; rfl
    by_cases kb : 0 < b.f0
    ·rw [hgo.trans (if_pos kb)]
     have fin : CmpOf ((emA (atL (restP ra x)) (atL (restP rb y))).map (atP a ++ ·)) (m + 1) s ((tkG s a).bind fun z => cmpI m z (restP ra x) (restP rb y)) :=
      cof_more (cmpI_is m _ _ (takeP s (toP a)) (n + 1) b3 c3 hlen (by omega) (add_step n s a (by omega) hf b2.one).2 hb') b2.one rfl (by rw [tkG_some hf (by omega) b2.one]; rfl)
     by_cases ka : 0 < a.f0
     ·have : a = b := by rw [(keep_eta b2.one ka).1, (keep_eta c2.one kb).1, b2.sz, c2.sz]
      rw [if_pos ka, ← this]; exact fin
     ·rw [if_neg ka, if_pos kb]; exact fin
    ·by_cases ka : 0 < a.f0
     ·rw [hgo.trans ((if_neg kb).trans (if_pos ka)), if_pos ka]
      exact cof_more (cmpI_is m _ _ (takeP s (toP b)) (n + 1) b3 c3 hlen (by omega) (add_step n s b (by omega) hf c2.one).2 hb') c2.one rfl (by rw [tkG_some hf (by omega) c2.one]; rfl)
     ·by_cases e : a.f1 = b.f2
      ·rw [hgo.trans ((if_neg kb).trans ((if_neg ka).trans (if_pos e))), if_neg ka, if_neg kb, if_pos e]
       have hf' : Fit (n + 1) s := ⟨hf.last.imp id (fun ⟨u, v, w, z⟩ => ⟨u, v, w, z.1, by omega⟩), by have := hf.len; omega, by have := hf.put; omega, by have := hf.drop; omega⟩
       exact cof_same (cmpI_is m _ _ s (n + 1) b3 c3 hlen (by omega) hf' hb') rfl rfl
      ·rw [hgo.trans ((if_neg kb).trans ((if_neg ka).trans (if_neg e))), if_neg ka, if_neg kb, if_neg e]
       exact .inl ⟨rfl, rfl⟩
   ·refine cof_more (cmpI_is m (p :: x) y (takeP s (toP q)) (n + 1) hx hy' (by simp only [List.length_cons]; omega) (by omega) (add_step n s q (by omega) hf hq).2 ?_) hq ?_ ?_
    ·rw [atL_cons q y, tkA_app, tkA_part] at hb
     have hk := hq.2.2.2.2.1; have h2 := hq.2.2.2.2.2; omega
    ·rw [atL_cons q y]; exact em_putP q _ _ hq hu (noD_cons p x hp hzp hd)
    ·rw [cmpI, if_pos ((toList_nil _).2 hd), if_neg (fun e => hu ((toList_nil _).1 e)), tkG_some hf (by omega) hq]; rfl
  ·refine cof_more (cmpI_is m x (q :: y) (takeP s (toP p)) (n + 1) hx' hy (by simp only [List.length_cons]; omega) (by omega) (add_step n s p (by omega) hf hp).2 ?_) hp ?_ ?_
   ·rw [atL_cons p x, mkA_app, mkA_part] at hb
    have hk := hp.2.2.2.2.1; have h2 := hp.2.2.2.2.2; omega
   ·rw [atL_cons p x]; exact em_dropP p _ _ hp hd
   ·rw [cmpI, if_neg (fun e => hd ((toList_nil _).1 e)), tkG_some hf (by omega) hp]; rfl
theorem impl_goodOp_f (l : List IP) (hw : ∀ x ∈ l, x.f1.size ≤ 1048576 ∧ x.f2.size ≤ 1048576) : Ev (fun k => impl_goodOp.f k l) (if goodO l = true then (l, true) else ([], false)) := by
 unfold impl_goodOp.f
 refine Ev.bind (impl_GoodOp_f l hw) ?_
 by_cases g : goodO l = true
 ·exact ev_val (ev_pos g (ev_ret rfl)) (by rw [if_pos g])
 ·exact ev_val (ev_neg g (ev_ret rfl)) (by rw [if_neg g])
theorem impl_ComposeOps_f (a b : List IP) (ha : ∀ x ∈ a, x.f1.size ≤ 1048576 ∧ x.f2.size ≤ 1048576) (hb : ∀ x ∈ b, x.f1.size ≤ 1048576 ∧ x.f2.size ≤ 1048576) : Ev (fun k => impl_ComposeOps.f k a b) (cmpR a b) := by
 unfold impl_ComposeOps.f
 refine Ev.bind (impl_GoodOp_f a ha) ?_
 by_cases ga : goodO a = true
 ·refine ev_pos ga (Ev.bind (impl_GoodOp_f b hb) ?_)
  by_cases gb : goodO b = true
  ·obtain ⟨la, pa, _, _⟩ := goodO_facts ga
   obtain ⟨lb, pb, _, _⟩ := goodO_facts gb
   refine ev_pos gb (Ev.bind (impl_sizes_f a (by omega)) (Ev.bind (impl_sizes_f b (by omega)) ?_))
   have e1 := mkS_ts a pa (by omega)
   have e2 := tkS_ts b pb (by omega)
   dsimp only
   by_cases he : tkS b 0 = mkS a 0
   ·refine ev_pos he (ev_pos (by omega) ?_)
    have hz : ([], (⟨#[]⟩ : ByteArray), (⟨#[]⟩ : ByteArray)) = (([], ⟨#[]⟩, ⟨#[]⟩) : Mst) := rfl
    rcases cmpI_is 121 a b ([], ⟨#[]⟩, ⟨#[]⟩) 0 (goodR_of ga) (goodR_of gb) (by omega) (by omega) fit_zero (by rw [mkA_list, tkA_list]; omega) with ⟨h1, h2⟩ | ⟨E, h1, h2, h3, h4⟩
    ·rw [cmpR_none h1]
     exact Ev.bind (Ev.of (fun k => cmpI_mono k _ _ _) h2) (ev_ret rfl)
    ·have hn := nf_norm E (by omega) h2
     rw [cmpR_some ⟨ga, gb⟩ h1, ← hn]
     refine Ev.bind (Ev.of (fun k => cmpI_mono k _ _ _) h4) ?_
     have hl := fold_len E h2
     refine ev_val' (fun k => by rw [icEnd]) (ev_pos (by omega) ?_)
     exact impl_goodOp_f (normI E) (normI_small2 E (by omega) h2).1
   ·refine ev_neg he (ev_ret ?_)
    cases hz : emA (atL a) (atL b) with
    | none => rw [cmpR_none hz]
    | some z =>
     have := (em_len _ _ _ z (Nat.le_refl _) hz).1
     rw [mkA_list, tkA_list] at this; omega
  ·refine ev_neg gb (ev_ret ?_)
   rw [cmpR_no (fun h => gb h.2)]
 ·refine ev_neg ga (ev_ret ?_)
  rw [cmpR_no (fun h => ga h.1)]
theorem KeepAll_f (n : Int) (h : 0 ≤ n ∧ n ≤ 300) : (normI [⟨n, ⟨#[]⟩, ⟨#[]⟩⟩]).length ≤ 200 ∧ (∀ x ∈ normI [⟨n, ⟨#[]⟩, ⟨#[]⟩⟩], x.f1.size ≤ 1048576 ∧ x.f2.size ≤ 1048576) ∧ Ev (fun k => spec_l3Add.f k [] n ⟨#[]⟩ ⟨#[]⟩) (normI [⟨n, ⟨#[]⟩, ⟨#[]⟩⟩]) ∧ impl_KeepAll.f n = some (normI [⟨n, ⟨#[]⟩, ⟨#[]⟩⟩], true) := by
 have ho : One ⟨n, ⟨#[]⟩, ⟨#[]⟩⟩ := ⟨h.1, h.2, Nat.zero_le _, Nat.zero_le _, .inr ⟨rfl, rfl⟩, .inl rfl⟩
 have ha : ∀ p ∈ ([⟨n, ⟨#[]⟩, ⟨#[]⟩⟩] : List IP), One p := fun p hp => by rw [List.mem_singleton.1 hp]; exact ho
 have hn := impl_normal_f [⟨n, ⟨#[]⟩, ⟨#[]⟩⟩] (by simp) ha
 refine ⟨normI_len _ (by simp) ha, normI_small _ (by simp) ha, ?_, ?_⟩
 ·have h1 := (add_step 0 ([], ⟨#[]⟩, ⟨#[]⟩) ⟨n, ⟨#[]⟩, ⟨#[]⟩⟩ (by omega) fit_zero ho).1
  have e : allP ([], (⟨#[]⟩ : ByteArray), (⟨#[]⟩ : ByteArray)) = [] := by unfold allP; rw [endL_00 sz0 sz0]; rfl
  rw [e] at h1
  exact h1
 ·unfold impl_KeepAll.f
  rw [if_neg (by omega), if_neg (by omega), hn]; rfl
/-- A change that is normal of one keep is good. -/
theorem keep_good (n : Int) (h : 0 ≤ n ∧ n ≤ 300) : goodO (normI [⟨n, ⟨#[]⟩, ⟨#[]⟩⟩]) = true := by
 by_cases h0 : n = 0
 ·subst h0
  have : normI [⟨0, ⟨#[]⟩, ⟨#[]⟩⟩] = [] := by
   show allP (takeP ([], ⟨#[]⟩, ⟨#[]⟩) (toP ⟨0, ⟨#[]⟩, ⟨#[]⟩⟩)) = []
   have : takeP ([], ⟨#[]⟩, ⟨#[]⟩) (toP ⟨0, ⟨#[]⟩, ⟨#[]⟩⟩) = ([], (⟨#[]⟩ : ByteArray) ++ ⟨#[]⟩, (⟨#[]⟩ : ByteArray) ++ ⟨#[]⟩) := rfl
   rw [this, ba_app]; unfold allP; rw [endL_00 sz0 sz0]; rfl
  rw [this]
  unfold goodO
  simp [tkS, mkS]
 ·have : normI [⟨n, ⟨#[]⟩, ⟨#[]⟩⟩] = [⟨n, ⟨#[]⟩, ⟨#[]⟩⟩] := by
   show allP (takeP ([], ⟨#[]⟩, ⟨#[]⟩) (toP ⟨n, ⟨#[]⟩, ⟨#[]⟩⟩)) = _
   have hk : keepS [] ⟨#[]⟩ ⟨#[]⟩ n = (keepA ([] ++ endL ⟨#[]⟩ ⟨#[]⟩) n, ⟨#[]⟩, ⟨#[]⟩) := by unfold keepS; rw [if_neg h0]
   unfold takeP toP
   simp only [hk]
   rw [ba_app, endL_00 sz0 sz0]
   unfold allP
   simp only
   rw [endL_00 sz0 sz0]; rfl
  rw [this]
  have e : (⟨n, ⟨#[]⟩, ⟨#[]⟩⟩ : IP).f0 = n := rfl
  have hp : partB ⟨n, ⟨#[]⟩, ⟨#[]⟩⟩ = true := by
   unfold partB
   simp only
   rw [if_neg h0, decide_eq_true (show 1 ≤ n ∧ n ≤ 300 by omega), decide_eq_true nil_nil, beq_iff_eq.2 nil_nil]; rfl
  have hz : wrap64 (n + ((0 : Nat) : Int)) = n := by rw [wrap_id (by omega) (by omega)]; omega
  have ht : tkS [⟨n, ⟨#[]⟩, ⟨#[]⟩⟩] 0 = n := by
   show wrap64 (0 + wrap64 (n + ((0 : Nat) : Int))) = n
   rw [hz, wrap_id (by omega) (by omega)]; omega
  have hm : mkS [⟨n, ⟨#[]⟩, ⟨#[]⟩⟩] 0 = n := by
   show wrap64 (0 + wrap64 (n + ((0 : Nat) : Int))) = n
   rw [hz, wrap_id (by omega) (by omega)]; omega
  unfold goodO
  rw [ht, hm, List.all_cons, hp, decide_eq_true (show n ≤ 300 ∧ n ≤ 300 by omega)]
  rfl
theorem splice4 (x y : Int) (put drop : ByteArray) (hx : 0 ≤ x ∧ x ≤ 300) (hy : 0 ≤ y ∧ y ≤ 300) (h1 : put.size ≤ 300) (h2 : drop.size ≤ 300) :
  ∃ r : List IP, (r = normI [⟨x, ⟨#[]⟩, ⟨#[]⟩⟩, ⟨0, put, ⟨#[]⟩⟩, ⟨0, ⟨#[]⟩, drop⟩, ⟨y, ⟨#[]⟩, ⟨#[]⟩⟩] ∧ ∀ p ∈ ([⟨x, ⟨#[]⟩, ⟨#[]⟩⟩, ⟨0, put, ⟨#[]⟩⟩, ⟨0, ⟨#[]⟩, drop⟩, ⟨y, ⟨#[]⟩, ⟨#[]⟩⟩] : List IP), One p) ∧ r.length ≤ 200 ∧ (∀ x ∈ r, x.f1.size ≤ 1048576 ∧ x.f2.size ≤ 1048576) ∧ impl_normal.f [⟨x, ⟨#[]⟩, ⟨#[]⟩⟩, ⟨0, put, ⟨#[]⟩⟩, ⟨0, ⟨#[]⟩, drop⟩, ⟨y, ⟨#[]⟩, ⟨#[]⟩⟩] = some r ∧
   ∃ a b c : List IP, Ev (fun k => spec_l3Add.f k [] x ⟨#[]⟩ ⟨#[]⟩) a ∧ Ev (fun k => spec_l3Add.f k a 0 put ⟨#[]⟩) b ∧ Ev (fun k => spec_l3Add.f k b 0 ⟨#[]⟩ drop) c ∧ Ev (fun k => spec_l3Add.f k c y ⟨#[]⟩ ⟨#[]⟩) r := by
 have o1 : One ⟨x, ⟨#[]⟩, ⟨#[]⟩⟩ := ⟨hx.1, hx.2, Nat.zero_le _, Nat.zero_le _, .inr ⟨rfl, rfl⟩, .inl rfl⟩
 have o2 : One ⟨0, put, ⟨#[]⟩⟩ := ⟨Int.le_refl _, (by show (0 : Int) ≤ 300; omega), h1, Nat.zero_le _, .inl rfl, .inr rfl⟩
 have o3 : One ⟨0, ⟨#[]⟩, drop⟩ := ⟨Int.le_refl _, (by show (0 : Int) ≤ 300; omega), Nat.zero_le _, h2, .inl rfl, .inl rfl⟩
 have o4 : One ⟨y, ⟨#[]⟩, ⟨#[]⟩⟩ := ⟨hy.1, hy.2, Nat.zero_le _, Nat.zero_le _, .inr ⟨rfl, rfl⟩, .inl rfl⟩
 have ha : ∀ p ∈ ([⟨x, ⟨#[]⟩, ⟨#[]⟩⟩, ⟨0, put, ⟨#[]⟩⟩, ⟨0, ⟨#[]⟩, drop⟩, ⟨y, ⟨#[]⟩, ⟨#[]⟩⟩] : List IP), One p := by
  intro p hp
  simp only [List.mem_cons, List.not_mem_nil, or_false] at hp
  rcases hp with rfl | rfl | rfl | rfl
  ·exact o1
  ·exact o2
  ·exact o3
  ·exact o4
 obtain ⟨s1, f1⟩ := add_step 0 ([], ⟨#[]⟩, ⟨#[]⟩) _ (by omega) fit_zero o1
 obtain ⟨s2, f2⟩ := add_step 1 _ _ (by omega) f1 o2
 obtain ⟨s3, f3⟩ := add_step 2 _ _ (by omega) f2 o3
 obtain ⟨s4, _⟩ := add_step 3 _ _ (by omega) f3 o4
 have e : allP ([], (⟨#[]⟩ : ByteArray), (⟨#[]⟩ : ByteArray)) = [] := by unfold allP; rw [endL_00 sz0 sz0]; rfl
 rw [e] at s1
 exact ⟨_, ⟨rfl, ha⟩, normI_len _ (by simp) ha, normI_small _ (by simp) ha, impl_normal_f _ (by simp) ha, _, _, _, s1, s2, s3, s4⟩
theorem impl_areRange_f (s : ByteArray) (a b : Int) : impl_areRange.f s a b = some (decide (0 ≤ a ∧ a ≤ b ∧ b ≤ (s.size : Int))) := by
 unfold impl_areRange.f; split
 ·split
  ·rw [Option.some.injEq]; exact decide_eq_decide.2 (by omega)
  ·symm; rw [decide_eq_false (by omega)]
 ·symm; rw [decide_eq_false (by omega)]
theorem specJ (s : ByteArray) (a b : Int) (p : ByteArray) : Ev (fun k => spec_SpliceOp.j0 k s a b p true) ([], false) := by
 refine Ev.step (fun k => by rw [spec_SpliceOp.j0]) ?_
 exact ev_pos rfl (ev_ret rfl)
theorem implJ (s : ByteArray) (a b : Int) (p : ByteArray) : Ev (fun k => impl_SpliceOp.j0 k s a b p true) ([], false) := by
 refine Ev.step (fun k => by rw [impl_SpliceOp.j0]) ?_
 exact ev_pos rfl (ev_ret rfl)
/-- What SpliceOp answers: a change that does the splice, or none. -/
def SplA (s : ByteArray) (a b : Int) (p : ByteArray) (r : List IP × Bool) : Prop :=
 (r.2 = false → r.1 = []) ∧ (r.2 = true → goodO r.1 = true ∧ goodB (bytesOf s) = true ∧ 0 ≤ a ∧ a ≤ b ∧ b ≤ (s.size : Int) ∧ Rel r.1 s (s.extract 0 a.toNat ++ (p ++ s.extract b.toNat s.size)))
theorem spl_no (s : ByteArray) (a b : Int) (p : ByteArray) : (([] : List IP), false).1.length ≤ 200 ∧ SplA s a b p ([], false) := ⟨Nat.zero_le _, fun _ => rfl, fun h => by cases h⟩
theorem ext3 (s : ByteArray) (a b : Nat) (h1 : a ≤ b) (h2 : b ≤ s.size) : s = s.extract 0 a ++ (s.extract a b ++ s.extract b s.size) := by
 have e1 := ByteArray.extract_append_extract (a := s) (i := a) (j := b) (k := s.size)
 rw [Nat.min_eq_left h1, Nat.max_eq_right h2] at e1
 rw [e1]; exact ext_back s a (by omega)
theorem rel_four (s p : ByteArray) (a b : Nat) (h1 : a ≤ b) (h2 : b ≤ s.size) : Rel [⟨(a : Int), ⟨#[]⟩, ⟨#[]⟩⟩, ⟨0, p, ⟨#[]⟩⟩, ⟨0, ⟨#[]⟩, s.extract a b⟩, ⟨(s.size : Int) - (b : Int), ⟨#[]⟩, ⟨#[]⟩⟩] s (s.extract 0 a ++ (p ++ s.extract b s.size)) := by
 have r1 := rel_keep (a : Int) (s.extract 0 a) (by rw [size_ext]; omega)
 have r2 := rel_mk 0 p ⟨#[]⟩ E0 rfl
 have r3 := rel_mk 0 ⟨#[]⟩ (s.extract a b) E0 rfl
 have r4 := rel_keep ((s.size : Int) - (b : Int)) (s.extract b s.size) (by rw [size_ext]; omega)
 have r := rel_app _ _ _ _ _ _ r1 (rel_app _ _ _ _ _ _ r2 (rel_app _ _ _ _ _ _ r3 r4))
 have en : ∀ x : ByteArray, (⟨#[]⟩ : ByteArray) ++ x = x := e0_app
 have ez : ∀ x : ByteArray, x ++ (⟨#[]⟩ : ByteArray) = x := ba_app
 rw [e0_app, e0_app, e0_app, e0_app, ← ext3 s a b h1 h2] at r
 exact r
theorem SpliceOp_f (s : ByteArray) (hs : s.size ≤ 140737488351232) (a b : Int) (p : ByteArray) (hp : p.size ≤ 140737488351232) :
  ∃ r : List IP × Bool, (r.1.length ≤ 200 ∧ SplA s a b p r) ∧ Ev (fun k => spec_SpliceOp.f k s a b p) r ∧ Ev (fun k => impl_SpliceOp.f k s a b p) r := by
 by_cases g1 : goodB (bytesOf s) = true
 ·by_cases g2 : goodB (bytesOf p) = true
  ·by_cases g3 : 0 ≤ a ∧ a ≤ b ∧ b ≤ (s.size : Int)
   ·have z1 := goodB_size' g1
    have z2 := goodB_size' g2
    obtain ⟨an, rfl⟩ := Int.eq_ofNat_of_zero_le g3.1
    obtain ⟨bn, rfl⟩ := Int.eq_ofNat_of_zero_le (show 0 ≤ b by omega)
    have zx : (s.extract an bn).size ≤ 300 := by rw [size_extract _ _ _ (by omega)]; omega
    have hsp : ∀ r, Ev (fun k => spec_SpliceOp.j0 k s (an : Int) (bn : Int) p false) r → Ev (fun k => spec_SpliceOp.f k s (an : Int) (bn : Int) p) r := fun r h => by
     unfold spec_SpliceOp.f
     exact Ev.bind (spec_GoodText_f s hs) (ev_pos g1 (Ev.bind (spec_GoodText_f p hp) (ev_pos g2 (ev_eq (spec_l1In_f _ _ _) (ev_pos (decide_eq_true (by omega)) (ev_eq (spec_l1In_f _ _ _) (by rw [decide_eq_true (by omega)]; exact h)))))))
    have him : ∀ r, Ev (fun k => impl_SpliceOp.j0 k s (an : Int) (bn : Int) p false) r → Ev (fun k => impl_SpliceOp.f k s (an : Int) (bn : Int) p) r := fun r h => by
     unfold impl_SpliceOp.f
     exact Ev.bind (impl_GoodText_f s hs) (ev_pos g1 (Ev.bind (impl_GoodText_f p hp) (ev_pos g2 (ev_eq (impl_areRange_f _ _ _) (by rw [decide_eq_true g3]; exact h)))))
    by_cases c : (s.extract an bn).toList = p.toList
    ·obtain ⟨k1, k2, k3, k4⟩ := KeepAll_f (s.size : Int) (by omega)
     have kg := keep_good (s.size : Int) (by omega)
     have hone : ∀ p ∈ ([⟨(s.size : Int), ⟨#[]⟩, ⟨#[]⟩⟩] : List IP), One p := fun p hp => by rw [List.mem_singleton.1 hp]; exact ⟨by show (0 : Int) ≤ (s.size : Int); omega, by show (s.size : Int) ≤ 300; omega, Nat.zero_le _, Nat.zero_le _, .inr ⟨rfl, rfl⟩, .inl rfl⟩
     have hrel := rel_norm _ (by simp) hone s s (rel_keep (s.size : Int) s rfl)
     refine ⟨(normI [⟨(s.size : Int), ⟨#[]⟩, ⟨#[]⟩⟩], true), ⟨k1, fun h => (by cases h), fun _ => ⟨kg, g1, g3.1, g3.2.1, g3.2.2, ?_⟩⟩, hsp _ ?_, him _ ?_⟩
     ·rw [Int.toNat_natCast, Int.toNat_natCast, ← bytes_inj2 c, ← ext3 s an bn (by omega) (by omega)]; exact hrel
     ·refine Ev.step (fun k => by rw [spec_SpliceOp.j0]) ?_
      refine ev_neg (by simp) (Ev.bind (a := normI [⟨(s.size : Int), ⟨#[]⟩, ⟨#[]⟩⟩]) ?_ (Ev.bind (spec_GoodOp_f _ k2) (ev_pos kg (ev_ret rfl))))
      unfold spec_l3Splice.f
      rw [Int.toNat_natCast, Int.toNat_natCast]
      exact ev_pos (by omega) (ev_pos (by omega) (ev_pos (by omega) (ev_pos c (Ev.bind k3 (ev_ret rfl)))))
     ·refine Ev.step (fun k => by rw [impl_SpliceOp.j0]) ?_
      rw [Int.toNat_natCast, Int.toNat_natCast]
      exact ev_neg (by simp) (ev_pos (by omega) (ev_pos (by omega) (ev_pos (by omega) (ev_pos c (ev_eq k4 (ev_ret rfl))))))
    ·obtain ⟨r, ⟨re, ra⟩, r1, r2, r3, t1, t2, t3, q1, q2, q3, q4⟩ := splice4 (an : Int) ((s.size : Int) - (bn : Int)) p (s.extract an bn) (by omega) (by omega) z2 zx
     have ew : wrap64 ((s.size : Int) - (bn : Int)) = (s.size : Int) - (bn : Int) := wrap_id (by omega) (by omega)
     refine ⟨(if goodO r = true then (r, true) else ([], false)), ?_, hsp _ ?_, him _ ?_⟩
     ·by_cases h : goodO r = true
      ·rw [if_pos h]
       refine ⟨r1, fun h => (by cases h), fun _ => ⟨h, g1, g3.1, g3.2.1, g3.2.2, ?_⟩⟩
       rw [Int.toNat_natCast, Int.toNat_natCast]
       show Rel r _ _
       rw [re]
       exact rel_norm _ (by simp) ra _ _ (rel_four s p an bn (by omega) (by omega))
      ·rw [if_neg h]; exact spl_no s _ _ p
     ·refine Ev.step (fun k => by rw [spec_SpliceOp.j0]) ?_
      refine ev_neg (by simp) (Ev.bind (a := r) ?_ (Ev.bind (spec_GoodOp_f _ r2) (ev_if (fun h => ev_ret (by rw [if_pos h])) (fun h => ev_ret (by rw [if_neg h])))))
      unfold spec_l3Splice.f
      rw [Int.toNat_natCast, Int.toNat_natCast, ew]
      exact ev_pos (by omega) (ev_pos (by omega) (ev_pos (by omega) (ev_neg c (Ev.bind q1 (Ev.bind q2 (Ev.bind q3 (Ev.bind q4 (ev_ret rfl))))))))
     ·refine Ev.step (fun k => by rw [impl_SpliceOp.j0]) ?_
      rw [Int.toNat_natCast, Int.toNat_natCast, ew]
      exact ev_neg (by simp) (ev_pos (by omega) (ev_pos (by omega) (ev_pos (by omega) (ev_neg c (ev_eq r3 (Ev.bind (impl_goodOp_f _ r2) (ev_ret rfl)))))))
   ·refine ⟨([], false), spl_no s _ _ p, ?_, ?_⟩
    ·unfold spec_SpliceOp.f
     refine Ev.bind (spec_GoodText_f s hs) (ev_pos g1 (Ev.bind (spec_GoodText_f p hp) (ev_pos g2 (ev_eq (spec_l1In_f _ _ _) (ev_if (fun h1 => ev_eq (spec_l1In_f _ _ _) ?_) (fun h1 => ?_))))))
     ·have h1' := of_decide_eq_true h1
      rw [decide_eq_false (by omega)]
      exact specJ s a b p
     ·exact specJ s a b p
    ·unfold impl_SpliceOp.f
     refine Ev.bind (impl_GoodText_f s hs) (ev_pos g1 (Ev.bind (impl_GoodText_f p hp) (ev_pos g2 (ev_eq (impl_areRange_f _ _ _) ?_))))
     rw [decide_eq_false g3]
     exact implJ s a b p
  ·refine ⟨([], false), spl_no s _ _ p, ?_, ?_⟩
   ·unfold spec_SpliceOp.f
    exact Ev.bind (spec_GoodText_f s hs) (ev_pos g1 (Ev.bind (spec_GoodText_f p hp) (ev_neg g2 (specJ s a b p))))
   ·unfold impl_SpliceOp.f
    exact Ev.bind (impl_GoodText_f s hs) (ev_pos g1 (Ev.bind (impl_GoodText_f p hp) (ev_neg g2 (implJ s a b p))))
 ·refine ⟨([], false), spl_no s _ _ p, ?_, ?_⟩
  ·unfold spec_SpliceOp.f
   exact Ev.bind (spec_GoodText_f s hs) (ev_neg g1 (specJ s a b p))
  ·unfold impl_SpliceOp.f
   exact Ev.bind (impl_GoodText_f s hs) (ev_neg g1 (implJ s a b p))
theorem keepN (n : Int) (h : 0 ≤ n ∧ n ≤ 300) : atL (normI [⟨n, ⟨#[]⟩, ⟨#[]⟩⟩]) = kA n.toNat := by
 by_cases h0 : n = 0
 ·subst h0
  have : normI [⟨0, ⟨#[]⟩, ⟨#[]⟩⟩] = [] := by
   show allP (takeP ([], ⟨#[]⟩, ⟨#[]⟩) (toP ⟨0, ⟨#[]⟩, ⟨#[]⟩⟩)) = []
   have : takeP ([], ⟨#[]⟩, ⟨#[]⟩) (toP ⟨0, ⟨#[]⟩, ⟨#[]⟩⟩) = ([], (⟨#[]⟩ : ByteArray) ++ ⟨#[]⟩, (⟨#[]⟩ : ByteArray) ++ ⟨#[]⟩) := rfl
   rw [this, ba_app]; unfold allP; rw [endL_00 sz0 sz0]; rfl
  rw [this]; rfl
 ·have : normI [⟨n, ⟨#[]⟩, ⟨#[]⟩⟩] = [⟨n, ⟨#[]⟩, ⟨#[]⟩⟩] := by
   show allP (takeP ([], ⟨#[]⟩, ⟨#[]⟩) (toP ⟨n, ⟨#[]⟩, ⟨#[]⟩⟩)) = _
   have hk : keepS [] ⟨#[]⟩ ⟨#[]⟩ n = (keepA ([] ++ endL ⟨#[]⟩ ⟨#[]⟩) n, ⟨#[]⟩, ⟨#[]⟩) := by unfold keepS; rw [if_neg h0]
   unfold takeP toP
   simp only [hk]
   rw [ba_app, endL_00 sz0 sz0]
   unfold allP
   simp only
   rw [endL_00 sz0 sz0]; rfl
  rw [this, atL_cons, atL_nil, List.append_nil]
  show kA n.toNat ++ (pA ⟨#[]⟩ ++ dA ⟨#[]⟩) = _
  rw [pA_nil rfl, dA_nil rfl, List.append_nil, List.append_nil]
/-- A change behind one that keeps all is its normal change. -/
theorem cmpR_keep {l : List IP} (h : goodO l = true) : cmpR (normI [⟨((tsum l : Nat) : Int), ⟨#[]⟩, ⟨#[]⟩⟩]) l = (normI l, true) := by
 obtain ⟨hl, hp, hk, _⟩ := goodO_facts h
 rw [tkS_ts l hp (by omega)] at hk
 have e : emA (atL (normI [⟨((tsum l : Nat) : Int), ⟨#[]⟩, ⟨#[]⟩⟩])) (atL l) = some (atL l) := by
  rw [keepN _ ⟨by omega, hk⟩, Int.toNat_natCast, ← tkA_list]; exact em_keep _
 rw [cmpR_some ⟨keep_good _ ⟨by omega, hk⟩, h⟩ e, ← nf_norm l (by omega) (fun p q => part_one (hp p q)), if_pos (norm_good h).1]
theorem normal_l (l : List IP) (hl : l.length ≤ 60) (hp : ∀ p ∈ l, One p) (d : Nat) : ∀ i : Nat, i + d = l.length → Fit i (stN l i) →
  Ev (fun k => spec_l3Normal.l0 k (allP (stN l i)) l (l.length : Int) (i : Int)) ((normP (l.map toP)).map ofP) := by
 induction d with
 | zero =>
  intro i hi hf
  refine Ev.step (fun k => by rw [spec_l3Normal.l0]) ?_
  refine ev_neg (by omega) (ev_ret ?_)
  have e : stN l i = (l.map toP).foldl takeP ([], ⟨#[]⟩, ⟨#[]⟩) := by unfold stN; rw [List.take_of_length_le (by omega)]
  unfold allP normP; rw [e]
 | succ d ih =>
  intro i hi hf
  have hm := hp _ (gt_mem izP l i (by omega))
  have es := stN_succ l i (by omega)
  have eg : l[i]'(by omega) = gt izP l i := by unfold gt; rw [List.getD_eq_getElem?_getD, List.getElem?_eq_getElem (by omega)]; rfl
  rw [eg] at es
  obtain ⟨h1, h2⟩ := add_step i (stN l i) (gt izP l i) (by omega) hf hm
  rw [← es] at h1 h2
  refine Ev.step (fun k => by rw [spec_l3Normal.l0]) ?_
  refine ev_pos (by omega) (ev_pos (by omega) (ev_pos (by omega) ?_))
  rw [wrap_succ i (by omega)]
  simp only [rd_ip]
  exact Ev.bind h1 (ih (i + 1) (by omega) h2)
theorem spec_l3Normal_f (l : List IP) (hl : l.length ≤ 60) (hp : ∀ p ∈ l, One p) : Ev (fun k => spec_l3Normal.f k l) (normI l) := by
 unfold spec_l3Normal.f
 have e : allP (stN l 0) = [] := by
  have e0 : stN l 0 = ([], (⟨#[]⟩ : ByteArray), (⟨#[]⟩ : ByteArray)) := rfl
  rw [e0]; unfold allP; rw [endL_00 sz0 sz0]; rfl
 have := normal_l l hl hp l.length 0 (by omega) fit_zero
 rw [e] at this
 exact this
def normR (l : List IP) : List IP × Bool := if goodO l = true then (normI l, true) else ([], false)
theorem normR_len (l : List IP) : (normR l).1.length ≤ 200 := by
 unfold normR
 by_cases h : goodO l = true
 ·rw [if_pos h]; obtain ⟨a, b, _, _⟩ := goodO_facts h; exact normI_len l a (fun p hp => part_one (b p hp))
 ·rw [if_neg h]; exact Nat.zero_le _
theorem impl_NormalOp_f (l : List IP) (hw : ∀ x ∈ l, x.f1.size ≤ 1048576 ∧ x.f2.size ≤ 1048576) : Ev (fun k => impl_NormalOp.f k l) (normR l) := by
 unfold impl_NormalOp.f normR
 refine Ev.bind (impl_GoodOp_f l hw) (ev_if (fun h => ?_) (fun h => by rw [if_neg h]; exact ev_ret rfl))
 obtain ⟨a, b, _, _⟩ := goodO_facts h
 rw [if_pos h]
 exact ev_eq (impl_normal_f l a (fun p hp => part_one (b p hp))) (ev_ret rfl)
theorem spec_NormalOp_f (l : List IP) (hw : ∀ x ∈ l, x.f1.size ≤ 1048576 ∧ x.f2.size ≤ 1048576) : Ev (fun k => spec_NormalOp.f k l) (normR l) := by
 unfold spec_NormalOp.f normR
 refine Ev.bind (spec_GoodOp_f l hw) (ev_if (fun h => ?_) (fun h => by rw [if_neg h]; exact ev_ret rfl))
 obtain ⟨a, b, _, _⟩ := goodO_facts h
 rw [if_pos h]
 exact Ev.bind (spec_l3Normal_f l a (fun p hp => part_one (b p hp))) (ev_ret rfl)
theorem impl_SizesOf_f (l : List IP) (hl : l.length ≤ 1048576) (hw : ∀ x ∈ l, x.f1.size ≤ 1048576 ∧ x.f2.size ≤ 1048576) : Ev (fun k => impl_SizesOf.f k l) (if goodO l = true then (tkS l 0, mkS l 0, true) else (0, 0, false)) := by
 unfold impl_SizesOf.f
 refine Ev.bind (impl_GoodOp_f l hw) (ev_if (fun h => ?_) (fun h => ?_))
 ·rw [if_pos h]; exact Ev.bind (impl_sizes_f l hl) (ev_ret rfl)
 ·rw [if_neg h]; exact ev_ret rfl
theorem wf_u8 {x : Int} (h : (Lit.int .u8 x).wf = true) : 0 ≤ x ∧ x ≤ 255 := by
 simp [Lit.wf, IntKind.min, IntKind.max, IntKind.signed, IntKind.bits] at h
 omega
theorem code_of {l : List Int} (hl : l.length ≤ 1048576) (h : ∀ x ∈ l, (Lit.int .u8 x).wf = true) : Code l := ⟨fun x hx => wf_u8 (h x hx), by omega⟩
theorem impl_ApplyOp_l (l : List IP) (hl : l.length ≤ 60) (hp : ∀ p ∈ l, partB p = true) (d : Nat) : ∀ (i : Nat) (s o : ByteArray), i + d = l.length → s.size = tsum (l.drop i) → s.size ≤ 140737488351232 → o.size ≤ 1000 * i →
  Ev (fun k => impl_ApplyOp.l0 k s o l (l.length : Int) (i : Int)) (apI (l.drop i) s o) := by
 induction d with
 | zero =>
  intro i s o hi ht hs ho
  refine Ev.step (fun k => by rw [impl_ApplyOp.l0]) ?_
  refine ev_neg (by omega) (ev_ret ?_)
  rw [List.drop_eq_nil_of_le (by omega)]; rfl
 | succ d ih =>
  intro i s o hi ht hs ho
  have hpi := hp _ (gt_mem izP l i (by omega))
  obtain ⟨f1, f2, f3, f4, f5⟩ := part_facts hpi
  have hn := nP_le hpi
  refine Ev.step (fun k => by rw [impl_ApplyOp.l0]) ?_
  refine ev_pos (by omega) (ev_pos (by omega) (ev_pos (by omega) ?_))
  rw [gt_drop izP l i (by omega)] at ht ⊢
  unfold tsum at ht
  have hd : nP (gt izP l i) = (gt izP l i).f0.toNat + (gt izP l i).f2.size := rfl
  have hw1 := wrap_succ i (by omega)
  simp only [rd_ip, wrap_nP hpi, hw1]
  unfold apI
  have hx : (s.extract 0 (gt izP l i).f0.toNat).size ≤ 300 := by rw [size_ext]; omega
  have hx' : (s.extract (nP (gt izP l i)) s.size).size ≤ 140737488351232 := by rw [size_ext]; omega
  refine ev_pos (Int.natCast_nonneg _) (ev_pos (bnd5 ht hd f1).2.2 ?_)
  rw [Int.toNat_natCast]
  refine ev_if (fun h => ?_) (fun h => by rw [if_neg h]; exact ev_ret rfl)
  rw [if_pos h]
  have i60 : i ≤ 60 := Nat.le_trans (Nat.le_of_lt (Nat.lt_of_lt_of_le (Nat.lt_add_of_pos_right (Nat.succ_pos d)) (Nat.le_of_eq hi))) hl
  obtain ⟨fs, fn, _⟩ := bnd5 ht hd f1
  refine ev_pos f1 (ev_pos fs (ev_pos (bnd2 hx f3) (ev_pos (by rw [ByteArray.size_append]; exact bnd3 ho hx f3 i60) (ev_pos (Int.natCast_nonneg _) (ev_pos fn ?_)))))
  rw [Int.toNat_natCast]
  exact ih (i + 1) (s.extract (nP (gt izP l i)) s.size) (o ++ (s.extract 0 (gt izP l i).f0.toNat ++ (gt izP l i).f1)) (by omega) (by rw [size_ext, ht]; clear ih; omega) hx' (by rw [ByteArray.size_append, ByteArray.size_append]; exact bnd4 ho hx f3)
theorem impl_ApplyOp_f (l : List IP) (s : ByteArray) (hw : ∀ x ∈ l, x.f1.size ≤ 1048576 ∧ x.f2.size ≤ 1048576) (hs : s.size ≤ 140737488351232) : Ev (fun k => impl_ApplyOp.f k l s) (apR l s) := by
 unfold impl_ApplyOp.f apR
 refine Ev.bind (impl_GoodOp_f l hw) (ev_if (fun g => ?_) (fun g => ?_))
 ·rw [if_pos g]
  obtain ⟨hl, hp, _, _⟩ := goodO_facts g
  refine Ev.bind (impl_GoodText_f s hs) ?_
  refine Ev.step (fun k => by rw [impl_ApplyOp.j0]) ?_
  by_cases gs : goodB (bytesOf s) = true
  ·rw [if_pos gs]
   refine ev_neg (by rw [gs]; simp) (Ev.bind (impl_sizes_f l (by omega)) ?_)
   have ht : tkS l 0 = ((tsum l : Nat) : Int) := by
    have := tkS_is l hp 0 (by omega)
    rw [Nat.zero_add] at this; exact this
   by_cases c : s.size = tsum l
   ·rw [if_pos c]
    refine ev_pos (by show tkS l 0 = _; omega) ?_
    have H := impl_ApplyOp_l l hl hp l.length 0 s E0 (by omega) (by rw [List.drop_zero]; exact c) hs (Nat.le_refl 0)
    refine ev_val H ?_
    rw [List.drop_zero]
    by_cases q : (apI l s E0).2 = true
    ·rw [if_pos q]
    ·rw [if_neg q]; exact apI_no l s _ (by simpa using q)
   ·rw [if_neg c]
    exact ev_neg (by show ¬ tkS l 0 = _; omega) (ev_ret rfl)
  ·rw [if_neg gs]
   rw [Bool.not_eq_true] at gs
   exact ev_pos (by rw [gs]; rfl) (ev_ret rfl)
 ·rw [if_neg g]
  refine Ev.step (fun k => by rw [impl_ApplyOp.j0]) ?_
  exact ev_pos rfl (ev_ret rfl)
theorem small_good {l : List IP} (h : goodO l = true) : ∀ x ∈ l, x.f1.size ≤ 1048576 ∧ x.f2.size ≤ 1048576 := fun x hx => by
 obtain ⟨_, _, a, b, _⟩ := part_one ((goodO_facts h).2.1 x hx); omega
theorem FnNormal_j1 (more : List Int) (hm : Code more) : Ev (fun k => lZ.j1 k more) true := by
 obtain ⟨⟨t, a, b, p⟩, hd2, ht, hp⟩ := DrawSpliceOp_f hm
 dsimp only at ht hp
 obtain ⟨⟨l, ok⟩, ⟨lr, rno, ryes⟩, hsp, him⟩ := SpliceOp_f t (by omega) a b p (by omega)
 dsimp only at lr rno ryes
 refine Ev.step (fun k => by rw [lZ.j1]) ?_
 refine Ev.bind hd2 (Ev.bind him (Ev.bind hsp (ev_neg (by simp) (Ev.bind (laws_sameOps_f _ (by dsimp only; omega)) ?_))))
 refine Ev.step (fun k => by rw [lZ.j2]) ?_
 refine ev_neg (by simp) ?_
 cases ok with
 | false => refine ev_neg (by simp) (ev_ret ?_); rw [rno rfl]; rfl
 | true =>
  obtain ⟨q1, q2, q3, q4, q5, q6⟩ := ryes rfl
  obtain ⟨e1, e2, e3, e4⟩ := apR_yes q1 q6 q2
  have ap := impl_ApplyOp_f l t (small_good q1) (by omega)
  rw [e1] at ap
  refine ev_pos rfl (Ev.bind ap (ev_pos rfl (ev_pos q3 (ev_pos (by dsimp only; omega) (ev_pos ?_ (ev_pos (by dsimp only; omega) (ev_pos q5 (ev_pos ?_ (ev_ret ?_)))))))))
  ·dsimp only; rw [size_ext]; omega
  ·dsimp only; rw [ba_len_app, size_ext, size_ext]; omega
  ·dsimp only
   rw [ByteArray.append_assoc]; exact beq_self_eq_true _
theorem FnNormal : lZ.Pure := by
 intro code more h1 h2 h3 g1 g2 g3
 refine Ev.rounds ?_
 unfold lZ.f
 refine ev_if (fun _ => ev_ret rfl) (fun hg => ?_)
 rw [wrap_id (by omega) (by omega)] at hg
 obtain ⟨⟨op, s⟩, hd, ho, hw, hs⟩ := DrawApplyOp_f (code_of (by omega) h3) (by omega)
 dsimp only at ho hw hs
 have hn := impl_NormalOp_f op hw
 have hns := spec_NormalOp_f op hw
 have lN := normR_len op
 refine Ev.bind hd (Ev.bind hn (Ev.bind hns (ev_neg (by simp) (Ev.bind (laws_sameOps_f _ (by omega)) ?_))))
 refine Ev.step (fun k => by rw [lZ.j0]) ?_
 refine ev_neg (by simp) ?_
 have J1 := FnNormal_j1 more (code_of (by omega) g3)
 by_cases g : goodO op = true
 ·obtain ⟨gl, gp, gk, gm⟩ := goodO_facts g
  have n1 := (norm_good g).1
  have eN : normR op = (normI op, true) := by unfold normR; rw [if_pos g]
  have eN2 : normR (normI op) = (normI op, true) := by unfold normR; rw [if_pos n1, norm_norm g]
  have wx := small_good n1
  have ap1 := impl_ApplyOp_f op s hw (by omega)
  have ap2 := impl_ApplyOp_f (normI op) s wx (by omega)
  rw [apR_norm g] at ap2
  have nn := impl_NormalOp_f (normI op) wx
  rw [eN2] at nn
  have sz := impl_SizesOf_f op (by omega) hw
  rw [if_pos g] at sz
  rw [tkS_ts _ gp (by omega)] at sz gk
  obtain ⟨_, ka2, _, ka⟩ := KeepAll_f ((tsum op : Nat) : Int) ⟨by omega, gk⟩
  have cm := impl_ComposeOps_f _ op ka2 hw
  rw [cmpR_keep g] at cm
  rw [eN]
  have lX : (normI op).length ≤ 1000000 := by have := (goodO_facts n1).1; omega
  refine ev_pos rfl (Ev.bind ap1 (Ev.bind ap2 (Ev.bind nn (Ev.bind sz (ev_eq ka (Ev.bind cm (ev_neg (by simp) (ev_pos rfl (ev_pos rfl (Ev.bind (laws_sameOps_f _ lX) (ev_pos rfl (ev_pos rfl (ev_pos rfl (ev_pos rfl (Ev.bind (laws_sameOps_f _ lX) (ev_pos rfl J1))))))))))))))))
 ·have eN : normR op = ([], false) := by unfold normR; rw [if_neg g]
  rw [eN]
  exact ev_neg (by simp) J1
end Go.Proofs.Ytlelpomnblaciaa.Pure
