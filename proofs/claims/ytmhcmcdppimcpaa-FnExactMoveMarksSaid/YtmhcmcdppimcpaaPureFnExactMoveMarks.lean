/- FnExactMoveMarks over plain functions: at all changes and marks the program's MoveMarks (which moves all marks, then sorts and joins) and the reference's (which adds them one by one) give one answer, nothing given changes, and the answer is the call's own; no condition. -/
import Derived.Test.YtmhcmcdppimcpaaPFnExactMoveMarksx16
import Derived.Test.YtmhcmcdppimcpaaBase
import Derived.Test.YtmhcmcdppimcpaaMk
import Derived.Test.YtmhcmcdppimcpaaOrd
namespace Go.Proofs.Ytmhcmcdppimcpaa.Pure
open Go.RowKit Go.Proofs.Ytmhcmcdppimcpaa.PFnExactMoveMarks Go.Proofs.YtmhcmcdppimcpaaW.PrintWords Go.Proofs.YtmhcmcdppimcpaaW.PrintLast Go.Proofs.Ytmhcmcdppimcpaa.Base Go.Proofs.Ytmhcmcdppimcpaa.Mk Go.Proofs.Ytmhcmcdppimcpaa.Ord
set_option linter.unusedVariables false
set_option linter.unusedSimpArgs false
abbrev IP := S61
def izP : IP := z61
theorem rd_ip (l : List IP) (i : Nat) : rd_T61 l (i : Int) = gt izP l i := rfl
theorem toList_nil (s : ByteArray) : s.toList = ([] : List UInt8) ↔ s.size = 0 := by
 rw [← List.length_eq_zero_iff]
 have := data_length s
 rw [ByteArray.toList_eq, this]
theorem ba_nil {s : ByteArray} (h : s.size = 0) : s = (⟨#[]⟩ : ByteArray) := by
 obtain ⟨d⟩ := s
 have h' : d.size = 0 := h
 rw [Array.size_eq_zero_iff.1 h']
theorem ba_app (s : ByteArray) : s ++ (⟨#[]⟩ : ByteArray) = s := by
 apply ByteArray.ext; rw [ByteArray.data_append]; simp
theorem ba_len_app (a b : ByteArray) : (a ++ b).size = a.size + b.size := ByteArray.size_append
theorem nil_nil : (⟨#[]⟩ : ByteArray).toList = ([] : List UInt8) := (toList_nil _).2 rfl
/-- A part with one side at most. -/
def One (p : IP) : Prop := 0 ≤ p.f0 ∧ p.f0 ≤ 300 ∧ p.f1.size ≤ 300 ∧ p.f2.size ≤ 300 ∧ (p.f0 = 0 ∨ (p.f1.size = 0 ∧ p.f2.size = 0)) ∧ (p.f1.size = 0 ∨ p.f2.size = 0)
theorem set_last (m : List IP) (z v : IP) : (m ++ [z]).set m.length v = m ++ [v] := by
 rw [List.set_append_right _ _ (Nat.le_refl _), Nat.sub_self]; rfl
theorem set_last2 (m : List IP) (y z v : IP) : (m ++ [y, z]).set m.length v = m ++ [v, z] := by
 rw [List.set_append_right _ _ (Nat.le_refl _), Nat.sub_self]; rfl
theorem gt_app_2 (m : List IP) (y z : IP) : gt izP (m ++ [y, z]) m.length = y := by
 unfold gt; rw [List.getD_eq_getElem?_getD, List.getElem?_append_right (Nat.le_refl _)]; simp
theorem gt_app_1 (m : List IP) (z : IP) : gt izP (m ++ [z]) m.length = z := by
 unfold gt; rw [List.getD_eq_getElem?_getD, List.getElem?_append_right (Nat.le_refl _)]; simp
theorem len_m1 (m : List IP) (z : IP) (h : m.length ≤ 100000) : wrap64 (((m ++ [z]).length : Int) - 1) = (m.length : Int) := by
 rw [List.length_append, List.length_singleton, wrap_id (by omega) (by omega)]; omega
/-- Nothing is put behind. -/
theorem add_none (l : List IP) (p : IP) (h0 : p.f0 = 0) (h1 : p.f1.size = 0) (h2 : p.f2.size = 0) : Ev (fun k => spec_l3Add.f k l p.f0 p.f1 p.f2) l := by
 unfold spec_l3Add.f
 rw [beq_iff_eq.2 ((toList_nil _).2 h2)]
 refine ev_pos h0 (ev_pos ((toList_nil _).2 h1) ?_)
 refine Ev.step (fun k => by rw [spec_l3Add.j0]) ?_
 exact ev_pos rfl (ev_ret rfl)
/-- Where the part is one, the walk begins at j0. -/
theorem add_start (l : List IP) (p : IP) (h : p.f0 ≠ 0 ∨ p.f1.size ≠ 0 ∨ p.f2.size ≠ 0) {r : List IP} (hr : Ev (fun k => spec_l3Add.j0 k l (l.length : Int) false p.f0 p.f1 p.f2) r) : Ev (fun k => spec_l3Add.f k l p.f0 p.f1 p.f2) r := by
 unfold spec_l3Add.f
 refine ev_if (fun h0 => ev_if (fun h1 => ?_) (fun _ => hr)) (fun _ => hr)
 rw [toList_nil] at h1
 have h2 : ¬ p.f2.toList = ([] : List UInt8) := by rw [toList_nil]; omega
 rw [beq_eq_false_iff_ne.2 h2]; exact hr
theorem add_first (p : IP) (h : p.f0 ≠ 0 ∨ p.f1.size ≠ 0 ∨ p.f2.size ≠ 0) : Ev (fun k => spec_l3Add.f k [] p.f0 p.f1 p.f2) [p] := by
 refine add_start [] p h ?_
 refine Ev.step (fun k => by rw [spec_l3Add.j0]) ?_
 exact ev_neg (by simp) (ev_pos (by simp) (ev_pos (by simp) (ev_ret rfl)))
theorem add_j1 (m : List IP) (z p : IP) (hm : m.length ≤ 100000) (h : p.f0 ≠ 0 ∨ p.f1.size ≠ 0 ∨ p.f2.size ≠ 0) {r : List IP}
  (hr : Ev (fun k => spec_l3Add.j1 k (m ++ [z]) ((m ++ [z]).length : Int) (decide (p.f0 > 0 ∧ z.f0 > 0)) p.f0 p.f1 p.f2 z.f0 z.f1 z.f2) r) : Ev (fun k => spec_l3Add.f k (m ++ [z]) p.f0 p.f1 p.f2) r := by
 refine add_start _ p h ?_
 refine Ev.step (fun k => by rw [spec_l3Add.j0]) ?_
 rw [len_m1 m z hm, rd_ip, gt_app_1]
 have hl : (m ++ [z]).length = m.length + 1 := by rw [List.length_append, List.length_singleton]
 refine ev_neg (by simp) (ev_neg (by omega) (ev_pos (by omega) (ev_pos (by omega) (ev_if (fun c => ?_) (fun c => ?_)))))
 ·simp only [c, true_and] at hr; exact hr
 ·rw [decide_eq_false (fun q => c q.1)] at hr; exact hr
theorem add_j2 (m : List IP) (z p : IP) (hm : m.length ≤ 100000) (h : p.f0 ≠ 0 ∨ p.f1.size ≠ 0 ∨ p.f2.size ≠ 0) (h1 : ¬ (p.f0 > 0 ∧ z.f0 > 0)) {r : List IP}
  (hr : Ev (fun k => spec_l3Add.j2 k (m ++ [z]) ((m ++ [z]).length : Int) (decide (p.f2.size ≠ 0 ∧ z.f2.size ≠ 0)) p.f0 p.f1 p.f2 z.f0 z.f1 z.f2) r) : Ev (fun k => spec_l3Add.f k (m ++ [z]) p.f0 p.f1 p.f2) r := by
 refine add_j1 m z p hm h ?_
 rw [decide_eq_false h1]
 refine Ev.step (fun k => by rw [spec_l3Add.j1]) ?_
 refine ev_neg (by simp) (ev_if (fun c => ?_) (fun c => ?_))
 ·rw [toList_nil] at c
  rw [decide_eq_false (fun q => q.1 c)] at hr; exact hr
 ·rw [toList_nil] at c
  have e : (z.f2.toList != ([] : List UInt8)) = decide (p.f2.size ≠ 0 ∧ z.f2.size ≠ 0) := by
   by_cases q : z.f2.size = 0
   ·rw [decide_eq_false (fun x => x.2 q), bne_eq_false_iff_eq]; exact (toList_nil _).2 q
   ·rw [decide_eq_true ⟨c, q⟩, bne_iff_ne]; exact fun x => q ((toList_nil _).1 x)
  rw [e]; exact hr
theorem add_j3 (m : List IP) (z p : IP) (hm : m.length ≤ 100000) (h : p.f0 ≠ 0 ∨ p.f1.size ≠ 0 ∨ p.f2.size ≠ 0) (h1 : ¬ (p.f0 > 0 ∧ z.f0 > 0)) (h2 : ¬ (p.f2.size ≠ 0 ∧ z.f2.size ≠ 0)) {r : List IP}
  (hr : Ev (fun k => spec_l3Add.j3 k (m ++ [z]) ((m ++ [z]).length : Int) (decide (p.f1.size ≠ 0 ∧ z.f1.size ≠ 0)) p.f0 p.f1 p.f2 z.f0 z.f1 z.f2) r) : Ev (fun k => spec_l3Add.f k (m ++ [z]) p.f0 p.f1 p.f2) r := by
 refine add_j2 m z p hm h h1 ?_
 rw [decide_eq_false h2]
 refine Ev.step (fun k => by rw [spec_l3Add.j2]) ?_
 refine ev_neg (by simp) (ev_if (fun c => ?_) (fun c => ?_))
 ·rw [toList_nil] at c
  rw [decide_eq_false (fun q => q.1 c)] at hr; exact hr
 ·rw [toList_nil] at c
  have e : (z.f1.toList != ([] : List UInt8)) = decide (p.f1.size ≠ 0 ∧ z.f1.size ≠ 0) := by
   by_cases q : z.f1.size = 0
   ·rw [decide_eq_false (fun x => x.2 q), bne_eq_false_iff_eq]; exact (toList_nil _).2 q
   ·rw [decide_eq_true ⟨c, q⟩, bne_iff_ne]; exact fun x => q ((toList_nil _).1 x)
  rw [e]; exact hr
theorem add_j4 (m : List IP) (z p : IP) (hm : m.length ≤ 100000) (h : p.f0 ≠ 0 ∨ p.f1.size ≠ 0 ∨ p.f2.size ≠ 0) (h1 : ¬ (p.f0 > 0 ∧ z.f0 > 0)) (h2 : ¬ (p.f2.size ≠ 0 ∧ z.f2.size ≠ 0)) (h3 : ¬ (p.f1.size ≠ 0 ∧ z.f1.size ≠ 0)) {r : List IP}
  (hr : Ev (fun k => spec_l3Add.j4 k (m ++ [z]) ((m ++ [z]).length : Int) (decide (p.f1.size ≠ 0 ∧ z.f2.size ≠ 0)) p.f0 p.f1 p.f2 z.f0 z.f1 z.f2) r) : Ev (fun k => spec_l3Add.f k (m ++ [z]) p.f0 p.f1 p.f2) r := by
 refine add_j3 m z p hm h h1 h2 ?_
 rw [decide_eq_false h3]
 refine Ev.step (fun k => by rw [spec_l3Add.j3]) ?_
 refine ev_neg (by simp) (ev_if (fun c => ?_) (fun c => ?_))
 ·rw [toList_nil] at c
  rw [decide_eq_false (fun q => q.1 c)] at hr; exact hr
 ·rw [toList_nil] at c
  have e : (z.f2.toList != ([] : List UInt8)) = decide (p.f1.size ≠ 0 ∧ z.f2.size ≠ 0) := by
   by_cases q : z.f2.size = 0
   ·rw [decide_eq_false (fun x => x.2 q), bne_eq_false_iff_eq]; exact (toList_nil _).2 q
   ·rw [decide_eq_true ⟨c, q⟩, bne_iff_ne]; exact fun x => q ((toList_nil _).1 x)
  rw [e]; exact hr
/-- Both keep. -/
theorem add_keep (m : List IP) (z p : IP) (hm : m.length ≤ 100000) (h1 : p.f0 > 0 ∧ z.f0 > 0) : Ev (fun k => spec_l3Add.f k (m ++ [z]) p.f0 p.f1 p.f2) (m ++ [⟨wrap64 (z.f0 + p.f0), z.f1, z.f2⟩]) := by
 refine add_j1 m z p hm (.inl (by omega)) ?_
 rw [decide_eq_true h1]
 refine Ev.step (fun k => by rw [spec_l3Add.j1]) ?_
 rw [len_m1 m z hm, rd_ip, gt_app_1, Int.toNat_natCast, set_last]
 exact ev_pos rfl (ev_pos (by omega) (ev_pos (by rw [List.length_append, List.length_singleton]; omega) (ev_ret rfl)))
/-- Both drop. -/
theorem add_drop (m : List IP) (z p : IP) (hm : m.length ≤ 100000) (h1 : ¬ (p.f0 > 0 ∧ z.f0 > 0)) (h2 : p.f2.size ≠ 0 ∧ z.f2.size ≠ 0) (hs : z.f2.size + p.f2.size ≤ 9223372036854775807) : Ev (fun k => spec_l3Add.f k (m ++ [z]) p.f0 p.f1 p.f2) (m ++ [⟨z.f0, z.f1, z.f2 ++ p.f2⟩]) := by
 refine add_j2 m z p hm (.inr (.inr h2.1)) h1 ?_
 rw [decide_eq_true h2]
 refine Ev.step (fun k => by rw [spec_l3Add.j2]) ?_
 rw [len_m1 m z hm, rd_ip, gt_app_1, Int.toNat_natCast, set_last]
 exact ev_pos rfl (ev_pos (by omega) (ev_pos (by rw [List.length_append, List.length_singleton]; omega) (ev_pos hs (ev_ret rfl))))
/-- Both put. -/
theorem add_put (m : List IP) (z p : IP) (hm : m.length ≤ 100000) (h1 : ¬ (p.f0 > 0 ∧ z.f0 > 0)) (h2 : ¬ (p.f2.size ≠ 0 ∧ z.f2.size ≠ 0)) (h3 : p.f1.size ≠ 0 ∧ z.f1.size ≠ 0) (hs : z.f1.size + p.f1.size ≤ 9223372036854775807) : Ev (fun k => spec_l3Add.f k (m ++ [z]) p.f0 p.f1 p.f2) (m ++ [⟨z.f0, z.f1 ++ p.f1, z.f2⟩]) := by
 refine add_j3 m z p hm (.inr (.inl h3.1)) h1 h2 ?_
 rw [decide_eq_true h3]
 refine Ev.step (fun k => by rw [spec_l3Add.j3]) ?_
 rw [len_m1 m z hm, rd_ip, gt_app_1, Int.toNat_natCast, set_last]
 exact ev_pos rfl (ev_pos (by omega) (ev_pos (by rw [List.length_append, List.length_singleton]; omega) (ev_pos hs (ev_ret rfl))))
/-- Nothing joins. -/
theorem add_apart (m : List IP) (z p : IP) (hm : m.length ≤ 100000) (h : p.f0 ≠ 0 ∨ p.f1.size ≠ 0 ∨ p.f2.size ≠ 0) (h1 : ¬ (p.f0 > 0 ∧ z.f0 > 0)) (h2 : ¬ (p.f2.size ≠ 0 ∧ z.f2.size ≠ 0)) (h3 : ¬ (p.f1.size ≠ 0 ∧ z.f1.size ≠ 0)) (h4 : ¬ (p.f1.size ≠ 0 ∧ z.f2.size ≠ 0)) : Ev (fun k => spec_l3Add.f k (m ++ [z]) p.f0 p.f1 p.f2) (m ++ [z, p]) := by
 refine add_j4 m z p hm h h1 h2 h3 ?_
 rw [decide_eq_false h4]
 refine Ev.step (fun k => by rw [spec_l3Add.j4]) ?_
 exact ev_neg (by simp) (ev_pos (by rw [List.length_append, List.length_singleton]; omega) (ev_ret (by rw [List.append_assoc]; rfl)))
/-- A put goes ahead of a drop. -/
theorem add_ahead1 (z p : IP) (h1 : ¬ (p.f0 > 0 ∧ z.f0 > 0)) (h2 : ¬ (p.f2.size ≠ 0 ∧ z.f2.size ≠ 0)) (h3 : ¬ (p.f1.size ≠ 0 ∧ z.f1.size ≠ 0)) (h4 : p.f1.size ≠ 0 ∧ z.f2.size ≠ 0) : Ev (fun k => spec_l3Add.f k [z] p.f0 p.f1 p.f2) [p, z] := by
 refine add_j4 [] z p (by simp) (.inr (.inl h4.1)) h1 h2 h3 ?_
 rw [decide_eq_true h4]
 refine Ev.step (fun k => by rw [spec_l3Add.j4]) ?_
 rw [len_m1 [] z (by simp), Int.toNat_natCast, set_last]
 exact ev_pos rfl (ev_neg (by simp) (ev_pos (by simp) (ev_pos (by simp) (ev_eq rfl (ev_pos (by simp) (ev_ret rfl))))))
theorem len_m2 (m : List IP) (y z : IP) (h : m.length ≤ 90000) : wrap64 (((m ++ [y, z]).length : Int) - 2) = (m.length : Int) := by
 have : (m ++ [y, z]).length = m.length + 2 := by rw [List.length_append]; rfl
 rw [this, wrap_id (by omega) (by omega)]; omega
theorem add_ahead2 (m : List IP) (y z p : IP) (hm : m.length ≤ 90000) (h1 : ¬ (p.f0 > 0 ∧ z.f0 > 0)) (h2 : ¬ (p.f2.size ≠ 0 ∧ z.f2.size ≠ 0)) (h3 : ¬ (p.f1.size ≠ 0 ∧ z.f1.size ≠ 0)) (h4 : p.f1.size ≠ 0 ∧ z.f2.size ≠ 0) (hs : y.f1.size + p.f1.size ≤ 9223372036854775807) :
  Ev (fun k => spec_l3Add.f k (m ++ [y, z]) p.f0 p.f1 p.f2) (if y.f1.size = 0 then m ++ [y, p, z] else m ++ [⟨y.f0, y.f1 ++ p.f1, y.f2⟩, z]) := by
 have em : m ++ [y, z] = (m ++ [y]) ++ [z] := by rw [List.append_assoc]; rfl
 have hl1 : (m ++ [y]).length = m.length + 1 := by rw [List.length_append, List.length_singleton]
 have hl2 : (m ++ [y, z]).length = m.length + 2 := by rw [List.length_append]; rfl
 rw [em]
 refine add_j4 (m ++ [y]) z p (by omega) (.inr (.inl h4.1)) h1 h2 h3 ?_
 rw [decide_eq_true h4]
 refine Ev.step (fun k => by rw [spec_l3Add.j4]) ?_
 rw [len_m1 (m ++ [y]) z (by omega), Int.toNat_natCast, set_last]
 rw [← em, len_m2 m y z hm, rd_ip, gt_app_2, Int.toNat_natCast, set_last2]
 refine ev_pos rfl (ev_pos (by omega) (ev_pos (by omega) (ev_pos (by omega) (ev_if (fun c => ?_) (fun c => ?_)))))
 ·rw [toList_nil] at c
  rw [if_pos c]
  refine ev_pos (by omega) (ev_pos (by omega) (ev_eq rfl (ev_pos (by rw [List.length_append, List.length_singleton]; omega) (ev_ret ?_))))
  rw [List.append_assoc, List.append_assoc]; rfl
 ·rw [toList_nil] at c
  rw [if_neg c]
  exact ev_pos hs (ev_ret rfl)
/-- The state of the maker is that of the reference: the parts so far, and what is held back. -/
structure Fit (n : Nat) (s : List Pt × ByteArray × ByteArray) : Prop where
 last : s.1 = [] ∨ ∃ m x, s.1 = m ++ [(x, (⟨#[]⟩ : ByteArray), (⟨#[]⟩ : ByteArray))] ∧ 0 < x ∧ x ≤ 300 * (n : Int)
 len : s.1.length ≤ 3 * n
 put : s.2.1.size ≤ 300 * n
 drop : s.2.2.size ≤ 300 * n
def allP (s : List Pt × ByteArray × ByteArray) : List IP := (s.1 ++ endL s.2.1 s.2.2).map ofP
theorem endL_00 {a b : ByteArray} (ha : a.size = 0) (hb : b.size = 0) : endL a b = [] := by
 unfold endL; rw [if_pos ((toList_nil _).2 ha), if_pos ((toList_nil _).2 hb)]; rfl
theorem endL_10 {a b : ByteArray} (ha : a.size ≠ 0) (hb : b.size = 0) : endL a b = [(0, a, ⟨#[]⟩)] := by
 unfold endL; rw [if_neg (fun e => ha ((toList_nil _).1 e)), if_pos ((toList_nil _).2 hb)]; rfl
theorem endL_01 {a b : ByteArray} (ha : a.size = 0) (hb : b.size ≠ 0) : endL a b = [(0, ⟨#[]⟩, b)] := by
 unfold endL; rw [if_pos ((toList_nil _).2 ha), if_neg (fun e => hb ((toList_nil _).1 e))]; rfl
theorem endL_11 {a b : ByteArray} (ha : a.size ≠ 0) (hb : b.size ≠ 0) : endL a b = [(0, a, ⟨#[]⟩), (0, ⟨#[]⟩, b)] := by
 unfold endL; rw [if_neg (fun e => ha ((toList_nil _).1 e)), if_neg (fun e => hb ((toList_nil _).1 e))]; rfl
theorem endL_len (a b : ByteArray) : (endL a b).length ≤ 2 := by unfold endL; rw [List.length_append]; split <;> split <;> simp
theorem sz0 : (⟨#[]⟩ : ByteArray).size = 0 := rfl
theorem keepA_app (m : List Pt) (q : Pt) (x : Int) : keepA (m ++ [q]) x = if q.1 > 0 then m ++ [(wrap64 (q.1 + x), q.2.1, q.2.2)] else m ++ [q, (x, ⟨#[]⟩, ⟨#[]⟩)] := by
 unfold keepA
 rw [List.getLast?_append]
 simp only [List.getLast?_singleton, Option.some_or]
 split
 ·rw [List.dropLast_concat]
 ·rw [List.append_assoc]; rfl
/-- One part more, by the maker and by the reference. -/
theorem add_step (n : Nat) (s : List Pt × ByteArray × ByteArray) (p : IP) (hn : n ≤ 1000) (hf : Fit n s) (hp : One p) :
  Ev (fun k => spec_l3Add.f k (allP s) p.f0 p.f1 p.f2) (allP (takeP s (toP p))) ∧ Fit (n + 1) (takeP s (toP p)) := by
 obtain ⟨l, a, b⟩ := s
 obtain ⟨f1, f2, f3, f4⟩ := hf
 obtain ⟨p0, p1, p2⟩ := p
 obtain ⟨q1, q2, q3, q4, q5, q6⟩ := hp
 simp only at f1 f2 f3 f4 q1 q2 q3 q4 q5 q6
 have hel := endL_len a b
 by_cases h0 : p0 = 0
 ·-- nothing is kept
  subst h0
  have et : takeP (l, a, b) (toP ⟨0, p1, p2⟩) = (l, a ++ p1, b ++ p2) := rfl
  rw [et]
  refine ⟨?_, ?_⟩
  ·unfold allP
   simp only
   by_cases h1 : p1.size = 0
   ·by_cases h2 : p2.size = 0
    ·rw [ba_nil h1, ba_nil h2, ba_app, ba_app]
     exact add_none _ ⟨0, ⟨#[]⟩, ⟨#[]⟩⟩ rfl rfl rfl
    ·rw [ba_nil h1, ba_app]
     by_cases hb : b.size = 0
     ·rw [ba_nil hb, show (⟨#[]⟩ : ByteArray) ++ p2 = p2 by apply ByteArray.ext; rw [ByteArray.data_append]; simp]
      by_cases ha : a.size = 0
      ·rw [endL_00 ha sz0, endL_01 ha h2, List.append_nil, List.map_append]
       rcases f1 with e | ⟨m, x, e, hx, _⟩
       ·rw [e]; exact add_first ⟨0, ⟨#[]⟩, p2⟩ (.inr (.inr h2))
       ·rw [e, List.map_append]
        have := add_apart (m.map ofP) (ofP (x, ⟨#[]⟩, ⟨#[]⟩)) ⟨0, ⟨#[]⟩, p2⟩ (by rw [e] at f2; simp at f2 ⊢; omega) (.inr (.inr h2)) (by simp) (by simp [ofP, sz0]) (by simp [sz0]) (by simp [sz0])
        rw [List.append_assoc]; exact this
      ·rw [endL_10 ha sz0, endL_11 ha h2, List.map_append, List.map_append]
       exact add_apart (l.map ofP) (ofP (0, a, ⟨#[]⟩)) ⟨0, ⟨#[]⟩, p2⟩ (by rw [List.length_map]; omega) (.inr (.inr h2)) (by simp) (by simp [ofP, sz0]) (by simp [sz0]) (by simp [sz0])
     ·have hb2 : (b ++ p2).size ≠ 0 := by rw [ba_len_app]; omega
      by_cases ha : a.size = 0
      ·rw [endL_01 ha hb, endL_01 ha hb2, List.map_append, List.map_append]
       exact add_drop (l.map ofP) (ofP (0, ⟨#[]⟩, b)) ⟨0, ⟨#[]⟩, p2⟩ (by rw [List.length_map]; omega) (by simp) ⟨h2, hb⟩ (by simp only [ofP]; omega)
      ·rw [endL_11 ha hb, endL_11 ha hb2, List.map_append, List.map_append]
       have := add_drop (l.map ofP ++ [ofP (0, a, ⟨#[]⟩)]) (ofP (0, ⟨#[]⟩, b)) ⟨0, ⟨#[]⟩, p2⟩ (by rw [List.length_append, List.length_map, List.length_singleton]; omega) (by simp) ⟨h2, hb⟩ (by simp only [ofP]; omega)
       rw [List.append_assoc, List.append_assoc] at this; exact this
   ·have h2 : p2.size = 0 := by omega
    rw [ba_nil h2, ba_app]
    by_cases ha : a.size = 0
    ·rw [ba_nil ha, show (⟨#[]⟩ : ByteArray) ++ p1 = p1 by apply ByteArray.ext; rw [ByteArray.data_append]; simp]
     by_cases hb : b.size = 0
     ·rw [endL_00 sz0 hb, endL_10 h1 hb, List.append_nil, List.map_append]
      rcases f1 with e | ⟨m, x, e, hx, _⟩
      ·rw [e]; exact add_first ⟨0, p1, ⟨#[]⟩⟩ (.inr (.inl h1))
      ·rw [e, List.map_append]
       have := add_apart (m.map ofP) (ofP (x, ⟨#[]⟩, ⟨#[]⟩)) ⟨0, p1, ⟨#[]⟩⟩ (by rw [e] at f2; simp at f2 ⊢; omega) (.inr (.inl h1)) (by simp) (by simp [ofP, sz0]) (by simp [ofP, sz0]) (by simp [ofP, sz0])
       rw [List.append_assoc]; exact this
     ·rw [endL_01 sz0 hb, endL_11 h1 hb, List.map_append, List.map_append]
      rcases f1 with e | ⟨m, x, e, hx, _⟩
      ·rw [e]; exact add_ahead1 (ofP (0, ⟨#[]⟩, b)) ⟨0, p1, ⟨#[]⟩⟩ (by simp) (by simp [sz0]) (by simp [ofP, sz0]) ⟨h1, hb⟩
      ·rw [e, List.map_append]
       have := add_ahead2 (m.map ofP) (ofP (x, ⟨#[]⟩, ⟨#[]⟩)) (ofP (0, ⟨#[]⟩, b)) ⟨0, p1, ⟨#[]⟩⟩ (by rw [e] at f2; simp at f2 ⊢; omega) (by simp) (by simp [sz0]) (by simp [ofP, sz0]) ⟨h1, hb⟩ (by simp only [ofP, sz0]; omega)
       rw [if_pos (by rfl)] at this
       rw [List.append_assoc, List.append_assoc]; exact this
    ·have ha2 : (a ++ p1).size ≠ 0 := by rw [ba_len_app]; omega
     by_cases hb : b.size = 0
     ·rw [endL_10 ha hb, endL_10 ha2 hb, List.map_append, List.map_append]
      exact add_put (l.map ofP) (ofP (0, a, ⟨#[]⟩)) ⟨0, p1, ⟨#[]⟩⟩ (by rw [List.length_map]; omega) (by simp) (by simp [sz0]) ⟨h1, ha⟩ (by simp only [ofP]; omega)
     ·rw [endL_11 ha hb, endL_11 ha2 hb, List.map_append, List.map_append]
      have := add_ahead2 (l.map ofP) (ofP (0, a, ⟨#[]⟩)) (ofP (0, ⟨#[]⟩, b)) ⟨0, p1, ⟨#[]⟩⟩ (by rw [List.length_map]; omega) (by simp) (by simp [sz0]) (by simp [ofP, sz0]) ⟨h1, hb⟩ (by simp only [ofP]; omega)
      rw [if_neg (by simp only [ofP]; exact ha)] at this
      exact this
  ·refine ⟨?_, by show l.length ≤ _; omega, by show (a ++ p1).size ≤ _; rw [ba_len_app]; omega, by show (b ++ p2).size ≤ _; rw [ba_len_app]; omega⟩
   rcases f1 with e | ⟨m, x, e, hx, hx2⟩
   ·exact .inl e
   ·exact .inr ⟨m, x, e, hx, by omega⟩
 ·-- bytes are kept
  obtain ⟨h1, h2⟩ := q5.resolve_left h0
  have hk : keepS l a b p0 = (keepA (l ++ endL a b) p0, ⟨#[]⟩, ⟨#[]⟩) := by unfold keepS; rw [if_neg h0]
  have et : takeP (l, a, b) (toP ⟨p0, p1, p2⟩) = (keepA (l ++ endL a b) p0, ⟨#[]⟩, ⟨#[]⟩) := by
   unfold takeP toP
   simp only [hk]
   rw [ba_nil h1, ba_nil h2, ba_app]
  rw [et, ba_nil h1, ba_nil h2]
  have hq : ∀ (M : List Pt) (q : Pt), l ++ endL a b = M ++ [q] → q.1 ≤ 300 * (n : Int) → (q.1 > 0 → q.2.1 = ⟨#[]⟩ ∧ q.2.2 = ⟨#[]⟩) →
    Ev (fun k => spec_l3Add.f k (allP (l, a, b)) p0 ⟨#[]⟩ ⟨#[]⟩) (allP (keepA (l ++ endL a b) p0, ⟨#[]⟩, ⟨#[]⟩)) ∧ Fit (n + 1) (keepA (l ++ endL a b) p0, ⟨#[]⟩, ⟨#[]⟩) := by
   intro M q e hq1 hq2
   have hML : M.length + 1 ≤ 3 * n + 2 := by
    have := congrArg List.length e
    rw [List.length_append, List.length_append, List.length_singleton] at this
    omega
   unfold allP
   simp only
   rw [endL_00 sz0 sz0, List.append_nil, e, keepA_app]
   by_cases hx : q.1 > 0
   ·rw [if_pos hx, List.map_append, List.map_append]
    refine ⟨add_keep (M.map ofP) (ofP q) ⟨p0, ⟨#[]⟩, ⟨#[]⟩⟩ (by rw [List.length_map]; omega) ⟨by simp only; omega, hx⟩, ?_⟩
    rw [wrap_id (by omega) (by omega)]
    obtain ⟨e1, e2⟩ := hq2 hx
    refine ⟨.inr ⟨M, q.1 + p0, by rw [e1, e2], by omega, by omega⟩, ?_, Nat.zero_le _, Nat.zero_le _⟩
    simp only [List.length_append, List.length_cons, List.length_nil]; omega
   ·rw [if_neg hx, List.map_append, List.map_append]
    refine ⟨add_apart (M.map ofP) (ofP q) ⟨p0, ⟨#[]⟩, ⟨#[]⟩⟩ (by rw [List.length_map]; omega) (.inl (by simp only; omega)) (fun c => hx c.2) (by simp [sz0]) (by simp [sz0]) (by simp [sz0]), ?_⟩
    refine ⟨.inr ⟨M ++ [q], p0, by rw [List.append_assoc]; rfl, by omega, by omega⟩, ?_, Nat.zero_le _, Nat.zero_le _⟩
    simp only [List.length_append, List.length_cons, List.length_nil]; omega
  by_cases ha : a.size = 0
  ·by_cases hb : b.size = 0
   ·rcases f1 with e | ⟨m, x, e, hx, hx2⟩
    ·subst e
     unfold allP
     rw [endL_00 ha hb]
     simp only [List.nil_append, List.map_nil]
     rw [endL_00 sz0 sz0]
     refine ⟨add_first ⟨p0, ⟨#[]⟩, ⟨#[]⟩⟩ (.inl h0), ⟨.inr ⟨[], p0, rfl, by omega, by omega⟩, by show 1 ≤ _; omega, Nat.zero_le _, Nat.zero_le _⟩⟩
    ·exact hq m (x, ⟨#[]⟩, ⟨#[]⟩) (by rw [endL_00 ha hb, List.append_nil]; exact e) (by simp only; omega) (fun _ => ⟨rfl, rfl⟩)
   ·exact hq l (0, ⟨#[]⟩, b) (by rw [endL_01 ha hb]) (by simp only; omega) (fun c => absurd c (by simp))
  ·by_cases hb : b.size = 0
   ·exact hq l (0, a, ⟨#[]⟩) (by rw [endL_10 ha hb]) (by simp only; omega) (fun c => absurd c (by simp))
   ·exact hq (l ++ [(0, a, ⟨#[]⟩)]) (0, ⟨#[]⟩, b) (by rw [endL_11 ha hb, List.append_assoc]; rfl) (by simp only; omega) (fun c => absurd c (by simp))
theorem fit_zero : Fit 0 ([], (⟨#[]⟩ : ByteArray), (⟨#[]⟩ : ByteArray)) := ⟨.inl rfl, Nat.le_refl _, Nat.le_refl _, Nat.le_refl _⟩
def normI (l : List IP) : List IP := (normP (l.map toP)).map ofP
theorem one_guard (l : List IP) (hl : l.length ≤ 60) (hp : ∀ p ∈ l, One p) : l.length ≤ 60 ∧ (l.all fun x => decide (x.f1.size ≤ 300 ∧ x.f2.size ≤ 300)) = true :=
 ⟨hl, List.all_eq_true.2 fun x hx => decide_eq_true ⟨(hp x hx).2.2.1, (hp x hx).2.2.2.1⟩⟩
theorem impl_normal_f (l : List IP) (hl : l.length ≤ 60) (hp : ∀ p ∈ l, One p) : impl_normal.f l = some (normI l) := by
 unfold impl_normal.f
 rw [if_pos (one_guard l hl hp)]; rfl
theorem spec_l1In_f (a b c : Int) : spec_l1In.f a b c = some (decide (b ≤ a ∧ a ≤ c)) := by
 unfold spec_l1In.f; split <;> simp <;> omega
theorem spec_l1Open_f (c : Int) : spec_l1Open.f c = some (openB c) := by
 unfold spec_l1Open.f openB; split <;> simp <;> omega
theorem spec_l1Plain_f (c : Int) : spec_l1Plain.f c = some (plainB c) := by
 unfold spec_l1Plain.f plainB
 repeat' split
 all_goals (rw [Option.some.injEq, Bool.eq_iff_iff]; simp only [Bool.or_eq_true, decide_eq_true_eq, beq_iff_eq, true_iff]; omega)
theorem spec_l1Text_l (s : ByteArray) (hs : s.size ≤ 140737488351232) (d : Nat) : ∀ i : Nat, i + d = s.size → Ev (fun k => spec_l1Text.l0 k s (i : Int)) (textB ((bytesOf s).drop i)) := by
 induction d with
 | zero =>
  intro i hi
  refine Ev.step (fun k => by rw [spec_l1Text.l0]) ?_
  refine ev_neg (by omega) (ev_ret ?_)
  rw [drop_end s i (by omega)]; rfl
 | succ d ih =>
  intro i hi
  refine Ev.step (fun k => by rw [spec_l1Text.l0]) ?_
  refine ev_pos (by omega) (ev_pos (by omega) (ev_eq (spec_l1Open_f _) ?_))
  rw [drop_bytes s i (by omega), wrap_succ i (by omega)]
  have ih' := ih (i + 1) (by omega)
  refine ev_if (fun h => ev_val ih' (by simp [textB, okB, h])) (fun h => ?_)
  refine ev_eq (spec_l1Plain_f _) (ev_if (fun h2 => ev_val ih' (by simp [textB, okB, h2])) (fun h2 => ?_))
  refine ev_if (fun h3 => ev_val ih' (by simp [textB, okB, h3])) (fun h3 => ev_ret ?_)
  simp [textB, okB, h, h2, h3]
theorem spec_l1Text_f (s : ByteArray) (hs : s.size ≤ 140737488351232) : Ev (fun k => spec_l1Text.f k s) (textB (bytesOf s)) :=
 spec_l1Text_l s hs s.size 0 (by omega)
theorem spec_GoodText_f (s : ByteArray) (hs : s.size ≤ 140737488351232) : Ev (fun k => spec_GoodText.f k s) (goodB (bytesOf s)) := by
 unfold spec_GoodText.f goodB
 refine Ev.bind (spec_l1Text_f s hs) (ev_if (fun h => ev_ret ?_) (fun h => ev_ret ?_))
 ·rw [h, bytesOf_length, Bool.true_and]; congr 1; simp; omega
 ·simp at h; simp [h]
theorem impl_isName_f (c : Int) : impl_isName.f c = some (openB c) := by
 unfold impl_isName.f openB; split <;> simp <;> omega
theorem impl_isPlain_f (c : Int) : impl_isPlain.f c = some (plainB c) := by
 unfold impl_isPlain.f plainB
 repeat' split
 all_goals (rw [Option.some.injEq, Bool.eq_iff_iff]; simp only [Bool.or_eq_true, decide_eq_true_eq, beq_iff_eq, true_iff]; omega)
theorem impl_GoodText_l (s : ByteArray) (hs : s.size ≤ 140737488351232) (d : Nat) : ∀ i : Nat, i + d = s.size → Ev (fun k => impl_GoodText.l0 k s (s.size : Int) (i : Int)) (textB ((bytesOf s).drop i) && decide (s.size ≤ 300)) := by
 induction d with
 | zero =>
  intro i hi
  refine Ev.step (fun k => by rw [impl_GoodText.l0]) ?_
  refine ev_neg (by omega) (ev_ret ?_)
  rw [drop_end s i (by omega)]; simp [textB]; omega
 | succ d ih =>
  intro i hi
  refine Ev.step (fun k => by rw [impl_GoodText.l0]) ?_
  refine ev_pos (by omega) (ev_pos (by omega) (ev_pos (by omega) (ev_eq (impl_isName_f _) ?_)))
  rw [drop_bytes s i (by omega), wrap_succ i (by omega)]
  have ih' := ih (i + 1) (by omega)
  refine ev_if (fun h => ev_val ih' (by simp [textB, okB, h])) (fun h => ?_)
  refine ev_eq (impl_isPlain_f _) (ev_if (fun h2 => ev_val ih' (by simp [textB, okB, h2])) (fun h2 => ?_))
  refine ev_if (fun h3 => ev_val ih' (by simp [textB, okB, h3])) (fun h3 => ev_ret ?_)
  simp [textB, okB, h, h2, h3]
theorem impl_GoodText_f (s : ByteArray) (hs : s.size ≤ 140737488351232) : Ev (fun k => impl_GoodText.f k s) (goodB (bytesOf s)) := by
 unfold impl_GoodText.f
 refine ev_val (impl_GoodText_l s hs s.size 0 (by omega)) ?_
 simp [goodB, bytesOf_length]
def partB (p : IP) : Bool := if p.f0 = 0 then (if p.f1.toList = ([] : List UInt8) then (if p.f2.toList = ([] : List UInt8) then false else goodB (bytesOf p.f2)) else (if p.f2.toList = ([] : List UInt8) then goodB (bytesOf p.f1) else false)) else (decide (1 ≤ p.f0 ∧ p.f0 ≤ 300) && (decide (p.f1.toList = ([] : List UInt8)) && (p.f2.toList == ([] : List UInt8))))
theorem spec_l3Part_f (p : IP) (h1 : p.f1.size ≤ 140737488351232) (h2 : p.f2.size ≤ 140737488351232) : Ev (fun k => spec_l3Part.f k p.f0 p.f1 p.f2) (partB p) := by
 unfold spec_l3Part.f partB
 by_cases c0 : p.f0 = 0
 ·rw [if_pos c0]
  refine ev_pos c0 ?_
  by_cases c1 : p.f1.toList = ([] : List UInt8)
  ·rw [if_pos c1]
   refine ev_pos c1 ?_
   by_cases c2 : p.f2.toList = ([] : List UInt8)
   ·rw [if_pos c2]; exact ev_pos c2 (ev_ret rfl)
   ·rw [if_neg c2]; exact ev_neg c2 (Ev.bind (spec_GoodText_f _ h2) (ev_ret rfl))
  ·rw [if_neg c1]
   refine ev_neg c1 ?_
   by_cases c2 : p.f2.toList = ([] : List UInt8)
   ·rw [if_pos c2]; exact ev_pos c2 (Ev.bind (spec_GoodText_f _ h1) (ev_ret rfl))
   ·rw [if_neg c2]; exact ev_neg c2 (ev_ret rfl)
 ·rw [if_neg c0]
  refine ev_neg c0 (ev_eq (spec_l1In_f _ _ _) ?_)
  refine ev_if (fun h => ?_) (fun h => ev_ret (by rw [Bool.not_eq_true] at h; rw [h]; rfl))
  rw [h, Bool.true_and]
  exact ev_if (fun h1 => ev_ret (by rw [decide_eq_true h1, Bool.true_and])) (fun h1 => ev_ret (by rw [decide_eq_false h1]; rfl))
theorem impl_Part_isPart_f (p : IP) (h1 : p.f1.size ≤ 140737488351232) (h2 : p.f2.size ≤ 140737488351232) : Ev (fun k => impl_Part_isPart.f k p.f0 p.f1 p.f2) (partB p) := by
 unfold impl_Part_isPart.f partB
 by_cases c0 : p.f0 = 0
 ·rw [if_pos c0]
  refine ev_pos c0 ?_
  by_cases c1 : p.f1.toList = ([] : List UInt8)
  ·rw [if_pos c1]
   refine ev_pos c1 ?_
   by_cases c2 : p.f2.toList = ([] : List UInt8)
   ·rw [if_pos c2]; exact ev_pos c2 (ev_ret rfl)
   ·rw [if_neg c2]; exact ev_neg c2 (Ev.bind (impl_GoodText_f _ h2) (ev_ret rfl))
  ·rw [if_neg c1]
   refine ev_neg c1 ?_
   by_cases c2 : p.f2.toList = ([] : List UInt8)
   ·rw [if_pos c2]; exact ev_pos c2 (Ev.bind (impl_GoodText_f _ h1) (ev_ret rfl))
   ·rw [if_neg c2]; exact ev_neg c2 (ev_ret rfl)
 ·rw [if_neg c0]
  refine ev_neg c0 ?_
  refine ev_if (fun h => ?_) (fun h => ev_ret (by rw [decide_eq_false (by omega)]; rfl))
  refine ev_if (fun h' => ?_) (fun h' => ev_ret (by rw [decide_eq_false (by omega)]; rfl))
  rw [decide_eq_true (show 1 ≤ p.f0 ∧ p.f0 ≤ 300 from ⟨h, h'⟩), Bool.true_and]
  exact ev_if (fun h1 => ev_ret (by rw [decide_eq_true h1, Bool.true_and])) (fun h1 => ev_ret (by rw [decide_eq_false h1]; rfl))
def tkS : List IP → Int → Int
 | [], a => a
 | p :: r, a => tkS r (wrap64 (a + wrap64 (p.f0 + (p.f2.size : Int))))
def mkS : List IP → Int → Int
 | [], a => a
 | p :: r, a => mkS r (wrap64 (a + wrap64 (p.f0 + (p.f1.size : Int))))
theorem spec_l3Sizes_l (l : List IP) (hl : l.length ≤ 1048576) (d : Nat) : ∀ (i : Nat) (a b : Int), i + d = l.length →
  Ev (fun k => spec_l3Sizes.l0 k a b l (l.length : Int) (i : Int)) (tkS (l.drop i) a, mkS (l.drop i) b) := by
 induction d with
 | zero =>
  intro i a b hi
  refine Ev.step (fun k => by rw [spec_l3Sizes.l0]) ?_
  refine ev_neg (by omega) (ev_ret ?_)
  rw [List.drop_eq_nil_of_le (by omega)]; rfl
 | succ d ih =>
  intro i a b hi
  refine Ev.step (fun k => by rw [spec_l3Sizes.l0]) ?_
  refine ev_pos (by omega) (ev_pos (by omega) (ev_pos (by omega) ?_))
  rw [gt_drop izP l i (by omega), wrap_succ i (by omega)]
  exact ih (i + 1) _ _ (by omega)
theorem spec_l3Sizes_f (l : List IP) (hl : l.length ≤ 1048576) : Ev (fun k => spec_l3Sizes.f k l) (tkS l 0, mkS l 0) := by
 unfold spec_l3Sizes.f
 exact spec_l3Sizes_l l hl l.length 0 0 0 (by omega)
theorem impl_sizes_l (l : List IP) (hl : l.length ≤ 1048576) (d : Nat) : ∀ (i : Nat) (a b : Int), i + d = l.length →
  Ev (fun k => impl_sizes.l0 k a b l (l.length : Int) (i : Int)) (tkS (l.drop i) a, mkS (l.drop i) b) := by
 induction d with
 | zero =>
  intro i a b hi
  refine Ev.step (fun k => by rw [impl_sizes.l0]) ?_
  refine ev_neg (by omega) (ev_ret ?_)
  rw [List.drop_eq_nil_of_le (by omega)]; rfl
 | succ d ih =>
  intro i a b hi
  refine Ev.step (fun k => by rw [impl_sizes.l0]) ?_
  refine ev_pos (by omega) (ev_pos (by omega) (ev_pos (by omega) ?_))
  rw [gt_drop izP l i (by omega), wrap_succ i (by omega)]
  exact ih (i + 1) _ _ (by omega)
theorem impl_sizes_f (l : List IP) (hl : l.length ≤ 1048576) : Ev (fun k => impl_sizes.f k l) (tkS l 0, mkS l 0) := by
 unfold impl_sizes.f
 exact impl_sizes_l l hl l.length 0 0 0 (by omega)
def goodO (l : List IP) : Bool := decide (l.length ≤ 60) && (l.all partB && decide (tkS l 0 ≤ 300 ∧ mkS l 0 ≤ 300))
theorem goodO_len {l : List IP} (h : ¬ l.length ≤ 60) : goodO l = false := by unfold goodO; rw [decide_eq_false h]; rfl
theorem goodO_part {l : List IP} {p : IP} (hp : p ∈ l) (h : partB p = false) : goodO l = false := by
 unfold goodO
 have : l.all partB = false := by
  rw [Bool.eq_false_iff]; intro e
  rw [List.all_eq_true] at e
  rw [e p hp] at h; cases h
 rw [this]; simp
theorem spec_GoodOp_l (l : List IP) (hl : l.length ≤ 60) (hw : ∀ x ∈ l, x.f1.size ≤ 1048576 ∧ x.f2.size ≤ 1048576) (d : Nat) : ∀ i : Nat, i + d = l.length →
  (l.take i).all partB = true → Ev (fun k => spec_GoodOp.l0 k l l (l.length : Int) (i : Int)) (goodO l) := by
 induction d with
 | zero =>
  intro i hi hg
  refine Ev.step (fun k => by rw [spec_GoodOp.l0]) ?_
  rw [List.take_of_length_le (by omega)] at hg
  have e : goodO l = decide (tkS l 0 ≤ 300 ∧ mkS l 0 ≤ 300) := by unfold goodO; rw [hg, decide_eq_true hl]; rfl
  rw [e]
  refine ev_neg (by omega) (Ev.bind (spec_l3Sizes_f l (by omega)) ?_)
  exact ev_if (fun h => ev_ret (decide_eq_decide.2 (by constructor <;> intro q; exact ⟨h, q⟩; exact q.2))) (fun h => ev_ret (by rw [decide_eq_false (fun q => h q.1)]))
 | succ d ih =>
  intro i hi hg
  have hm := hw _ (gt_mem izP l i (by omega))
  refine Ev.step (fun k => by rw [spec_GoodOp.l0]) ?_
  refine ev_pos (by omega) (ev_pos (by omega) (ev_pos (by omega) ?_))
  rw [wrap_succ i (by omega)]
  simp only [rd_ip]
  refine Ev.bind (spec_l3Part_f _ (by omega) (by omega)) (ev_if (fun h => ?_) (fun h => ev_ret (goodO_part (gt_mem izP l i (by omega)) (by simpa using h)).symm))
  refine ih (i + 1) (by omega) ?_
  rw [gt_take izP l i (by omega), List.all_append, hg]
  simp [h]
theorem spec_GoodOp_f (l : List IP) (hw : ∀ x ∈ l, x.f1.size ≤ 1048576 ∧ x.f2.size ≤ 1048576) : Ev (fun k => spec_GoodOp.f k l) (goodO l) := by
 unfold spec_GoodOp.f
 refine ev_if (fun h => ev_ret (goodO_len (by omega)).symm) (fun h => ?_)
 exact spec_GoodOp_l l (by omega) hw l.length 0 (by omega) rfl
theorem idxBad_f (l : List IP) (hw : ∀ x ∈ l, x.f1.size ≤ 1048576 ∧ x.f2.size ≤ 1048576) : ∀ n : Int, 0 ≤ n → ∃ v : Int, Ev (fun k => idxBad k l n) v ∧ (v ≥ 0 ↔ l.all partB = false) := by
 induction l with
 | nil => exact fun n _ => ⟨-1, by unfold idxBad; exact ev_ret rfl, by simp⟩
 | cons p r ih =>
  intro n hn
  have hm := hw p (List.mem_cons_self ..)
  obtain ⟨v, hv, hb⟩ := ih (fun x hx => hw x (List.mem_cons_of_mem _ hx)) (n + 1) (by omega)
  have hp : Ev (fun k => impl_GoodOp_1.f k p.f0 p.f1 p.f2) (!(partB p)) := by unfold impl_GoodOp_1.f; exact Ev.bind (impl_Part_isPart_f p (by omega) (by omega)) (ev_ret rfl)
  by_cases c : partB p = true
  ·refine ⟨v, ?_, by rw [hb, List.all_cons, c, Bool.true_and]⟩
   unfold idxBad
   refine Ev.bind hp (ev_neg (by rw [c]; simp) hv)
  ·rw [Bool.not_eq_true] at c
   refine ⟨n, ?_, by rw [List.all_cons, c]; simp; omega⟩
   unfold idxBad
   exact Ev.bind hp (ev_pos (by rw [c]; rfl) (ev_ret rfl))
theorem impl_GoodOp_f (l : List IP) (hw : ∀ x ∈ l, x.f1.size ≤ 1048576 ∧ x.f2.size ≤ 1048576) : Ev (fun k => impl_GoodOp.f k l) (goodO l) := by
 unfold impl_GoodOp.f
 refine ev_if (fun h => ev_ret (goodO_len (by omega)).symm) (fun h => ?_)
 obtain ⟨v, hv, hb⟩ := idxBad_f l hw 0 (by omega)
 refine Ev.bind hv (ev_if (fun c => ev_ret ?_) (fun c => Ev.bind (impl_sizes_f l (by omega)) ?_))
 ·unfold goodO; rw [hb.1 c]; simp
 ·have hg : l.all partB = true := by
   by_cases q : l.all partB = true
   ·exact q
   ·exact absurd (hb.2 (by simpa using q)) c
  have e : goodO l = decide (tkS l 0 ≤ 300 ∧ mkS l 0 ≤ 300) := by unfold goodO; rw [hg, decide_eq_true (by omega : l.length ≤ 60)]; rfl
  rw [e]
  exact ev_if (fun h => ev_ret (decide_eq_decide.2 (by constructor <;> intro q; exact ⟨h, q⟩; exact q.2))) (fun h => ev_ret (by rw [decide_eq_false (fun q => h q.1)]))
theorem goodB_size' {s : ByteArray} (h : goodB (bytesOf s) = true) : s.size ≤ 300 := by
 unfold goodB at h
 rw [Bool.and_eq_true, bytesOf_length] at h
 exact of_decide_eq_true h.2
theorem part_facts {p : IP} (h : partB p = true) : 0 ≤ p.f0 ∧ p.f0 ≤ 300 ∧ p.f1.size ≤ 300 ∧ p.f2.size ≤ 300 ∧ (p.f0 = 0 ∨ p.f2.size = 0) := by
 unfold partB at h
 by_cases c0 : p.f0 = 0
 ·rw [if_pos c0] at h
  by_cases c1 : p.f1.toList = ([] : List UInt8)
  ·rw [if_pos c1] at h
   rw [toList_nil] at c1
   by_cases c2 : p.f2.toList = ([] : List UInt8)
   ·rw [if_pos c2] at h; cases h
   ·rw [if_neg c2] at h
    have := goodB_size' h
    exact ⟨by omega, by omega, by omega, by omega, Or.inl c0⟩
  ·rw [if_neg c1] at h
   by_cases c2 : p.f2.toList = ([] : List UInt8)
   ·rw [if_pos c2] at h
    rw [toList_nil] at c2
    have := goodB_size' h
    exact ⟨by omega, by omega, by omega, by omega, Or.inl c0⟩
   ·rw [if_neg c2] at h; cases h
 ·rw [if_neg c0, Bool.and_eq_true, Bool.and_eq_true] at h
  obtain ⟨a, b, c⟩ := h
  have a := of_decide_eq_true a
  have b := (toList_nil _).1 (of_decide_eq_true b)
  have c := (toList_nil _).1 (by simpa using c)
  exact ⟨by omega, by omega, by omega, by omega, Or.inr c⟩
theorem goodO_facts {l : List IP} (h : goodO l = true) : l.length ≤ 60 ∧ (∀ p ∈ l, partB p = true) ∧ tkS l 0 ≤ 300 ∧ mkS l 0 ≤ 300 := by
 unfold goodO at h
 rw [Bool.and_eq_true, Bool.and_eq_true, List.all_eq_true] at h
 have a := of_decide_eq_true h.1
 have b := of_decide_eq_true h.2.2
 exact ⟨a, h.2.1, b.1, b.2⟩
theorem part_one {p : IP} (h : partB p = true) : One p := by
 obtain ⟨a1, a2, a3, a4, a5⟩ := part_facts h
 refine ⟨a1, a2, a3, a4, ?_, ?_⟩
 ·unfold partB at h
  by_cases c0 : p.f0 = 0
  ·exact .inl c0
  ·rw [if_neg c0, Bool.and_eq_true, Bool.and_eq_true] at h
   exact .inr ⟨(toList_nil _).1 (of_decide_eq_true h.2.1), a5.resolve_left c0⟩
 ·unfold partB at h
  by_cases c0 : p.f0 = 0
  ·rw [if_pos c0] at h
   by_cases c1 : p.f1.toList = ([] : List UInt8)
   ·exact .inl ((toList_nil _).1 c1)
   ·rw [if_neg c1] at h
    by_cases c2 : p.f2.toList = ([] : List UInt8)
    ·exact .inr ((toList_nil _).1 c2)
    ·rw [if_neg c2] at h; cases h
  ·exact .inr (a5.resolve_left c0)
def dropL : List IP → List Int
 | [] => []
 | p :: r => (List.replicate p.f0.toNat 0 ++ bytesOf p.f2) ++ dropL r
theorem dropL_len : ∀ (l : List IP), (∀ p ∈ l, partB p = true) → (dropL l).length ≤ 600 * l.length
 | [], _ => by simp [dropL]
 | p :: r, h => by
  obtain ⟨f1, f2, f3, f4, f5⟩ := part_facts (h p (List.mem_cons_self ..))
  have := dropL_len r (fun x hx => h x (List.mem_cons_of_mem _ hx))
  simp only [dropL, List.length_append, List.length_replicate, bytesOf_length, List.length_cons]
  omega
abbrev Seg := ByteArray × ByteArray × Int
/-- A normal change, by what it keeps: what is put and dropped ahead of each. -/
def flatS (l : List Seg) : List Pt := l.flatMap (fun s => endL s.1 s.2.1 ++ [(s.2.2, (⟨#[]⟩ : ByteArray), (⟨#[]⟩ : ByteArray))])
def byteS (l : List Seg) : List Int := l.flatMap (fun s => bytesOf s.2.1 ++ List.replicate s.2.2.toNat 0)
theorem flatS_app (a b : List Seg) : flatS (a ++ b) = flatS a ++ flatS b := by simp [flatS]
theorem byteS_app (a b : List Seg) : byteS (a ++ b) = byteS a ++ byteS b := by simp [byteS]
theorem flatS_cons (s : Seg) (b : List Seg) : flatS (s :: b) = endL s.1 s.2.1 ++ (s.2.2, (⟨#[]⟩ : ByteArray), (⟨#[]⟩ : ByteArray)) :: flatS b := by simp [flatS]
theorem byteS_cons (s : Seg) (b : List Seg) : byteS (s :: b) = bytesOf s.2.1 ++ (List.replicate s.2.2.toNat 0 ++ byteS b) := by simp [byteS]
theorem bytesOf_app (a b : ByteArray) : bytesOf (a ++ b) = bytesOf a ++ bytesOf b := by unfold bytesOf; rw [ByteArray.data_append]; simp
theorem dropL_app (a b : List IP) : dropL (a ++ b) = dropL a ++ dropL b := by
 induction a with
 | nil => rfl
 | cons p r ih => rw [List.cons_append, dropL, dropL, ih]; simp only [List.append_assoc]
theorem bytesOf_nil {s : ByteArray} (h : s.size = 0) : bytesOf s = [] := by
 rw [← List.length_eq_zero_iff, bytesOf_length]; exact h
def NZ (s : ByteArray) : Prop := ∀ x ∈ bytesOf s, x ≠ 0
structure SegOk (n : Nat) (s : Seg) : Prop where
 put : s.1.size ≤ 300 * n
 drop : s.2.1.size ≤ 300 * n
 nz : NZ s.2.1
 pos : 0 < s.2.2
 top : s.2.2 ≤ 300 * (n : Int)
theorem SegOk.more {n : Nat} {s : Seg} (h : SegOk n s) : SegOk (n + 1) s := by
 obtain ⟨a, b, c, d, e⟩ := h
 exact ⟨by omega, by omega, c, d, by omega⟩
structure SegIs (n : Nat) (l : List IP) (s : List Pt × ByteArray × ByteArray) (g : List Seg) : Prop where
 flat : s.1 = flatS g
 ok : ∀ x ∈ g, SegOk n x
 put : s.2.1.size ≤ 300 * n
 drop : s.2.2.size ≤ 300 * n
 nz : NZ s.2.2
 bytes : byteS g ++ bytesOf s.2.2 = dropL l
 len : g.length ≤ n
theorem keepA_end (L : List Pt) (a b : ByteArray) (x : Int) (h : a.size ≠ 0 ∨ b.size ≠ 0) : keepA (L ++ endL a b) x = L ++ (endL a b ++ [(x, (⟨#[]⟩ : ByteArray), (⟨#[]⟩ : ByteArray))]) := by
 have z : ∀ (M : List Pt) (q : Pt), q.1 = 0 → keepA (M ++ [q]) x = M ++ ([q] ++ [(x, (⟨#[]⟩ : ByteArray), (⟨#[]⟩ : ByteArray))]) := fun M q hq => by rw [keepA_app, if_neg (by omega)]; rfl
 by_cases ha : a.size = 0
 ·have hb : b.size ≠ 0 := by omega
  rw [endL_01 ha hb]; exact z L _ rfl
 ·by_cases hb : b.size = 0
  ·rw [endL_10 ha hb]; exact z L _ rfl
  ·rw [endL_11 ha hb]
   have := z (L ++ [(0, a, ⟨#[]⟩)]) (0, ⟨#[]⟩, b) rfl
   rw [List.append_assoc, List.append_assoc] at this
   exact this
theorem seg_step (n : Nat) (l : List IP) (s : List Pt × ByteArray × ByteArray) (g : List Seg) (p : IP) (hn : n ≤ 1000) (h : SegIs n l s g) (hp : One p) (hz : NZ p.f2) : ∃ g', SegIs (n + 1) (l ++ [p]) (takeP s (toP p)) g' := by
 obtain ⟨L, a, b⟩ := s
 obtain ⟨p0, p1, p2⟩ := p
 obtain ⟨s1, s2, s3, s4, s5, s6, s7⟩ := h
 obtain ⟨q1, q2, q3, q4, q5, q6⟩ := hp
 simp only at s1 s2 s3 s4 s5 s6 s7 q1 q2 q3 q4 q5 q6 hz
 have hdl : dropL (l ++ [⟨p0, p1, p2⟩]) = dropL l ++ (List.replicate p0.toNat 0 ++ bytesOf p2) := by rw [dropL_app]; simp [dropL]
 by_cases h0 : p0 = 0
 ·subst h0
  have et : takeP (L, a, b) (toP ⟨0, p1, p2⟩) = (L, a ++ p1, b ++ p2) := rfl
  rw [et]
  refine ⟨g, s1, fun x hx => (s2 x hx).more, by show (a ++ p1).size ≤ _; rw [ba_len_app]; omega, by show (b ++ p2).size ≤ _; rw [ba_len_app]; omega, ?_, ?_, by omega⟩
  ·intro x hx
   rw [bytesOf_app] at hx
   exact (List.mem_append.1 hx).elim (s5 x) (hz x)
  ·show byteS g ++ bytesOf (b ++ p2) = _
   rw [hdl, bytesOf_app, ← List.append_assoc, s6]; simp
 ·obtain ⟨h1, h2⟩ := q5.resolve_left h0
  have hk : keepS L a b p0 = (keepA (L ++ endL a b) p0, ⟨#[]⟩, ⟨#[]⟩) := by unfold keepS; rw [if_neg h0]
  have et : takeP (L, a, b) (toP ⟨p0, p1, p2⟩) = (keepA (L ++ endL a b) p0, ⟨#[]⟩, ⟨#[]⟩) := by
   unfold takeP toP
   simp only [hk]
   rw [ba_nil h1, ba_nil h2, ba_app]
  have e2 : bytesOf p2 = [] := bytesOf_nil h2
  have e3 : bytesOf (⟨#[]⟩ : ByteArray) = [] := bytesOf_nil rfl
  have nz0 : NZ (⟨#[]⟩ : ByteArray) := fun x hx => by rw [e3] at hx; cases hx
  rw [et]
  by_cases hab : a.size = 0 ∧ b.size = 0
  ·obtain ⟨ha, hb⟩ := hab
   rw [bytesOf_nil hb, List.append_nil] at s6
   have eL : L ++ endL a b = flatS g := by rw [endL_00 ha hb, List.append_nil, s1]
   rw [eL]
   rcases List.eq_nil_or_concat g with e | ⟨g0, s0, e⟩
   ·subst e
    refine ⟨[(⟨#[]⟩, ⟨#[]⟩, p0)], ?_, ?_, Nat.zero_le _, Nat.zero_le _, nz0, ?_, by simp⟩
    ·show keepA (flatS []) p0 = flatS [(⟨#[]⟩, ⟨#[]⟩, p0)]
     rw [flatS_cons, endL_00 sz0 sz0]; rfl
    ·intro x hx
     rw [List.mem_singleton.1 hx]
     exact ⟨Nat.zero_le _, Nat.zero_le _, nz0, by simp only; omega, by simp only; omega⟩
    ·show byteS [(⟨#[]⟩, ⟨#[]⟩, p0)] ++ bytesOf (⟨#[]⟩ : ByteArray) = _
     rw [hdl, ← s6, byteS_cons, e2, e3]; simp [byteS]
   ·subst e
    obtain ⟨u0, v0, k0⟩ := s0
    have o0 := s2 (u0, v0, k0) (by simp)
    have ek : wrap64 (k0 + p0) = k0 + p0 := by have := o0.pos; have := o0.top; simp only at *; exact wrap_id (by omega) (by omega)
    refine ⟨g0 ++ [(u0, v0, k0 + p0)], ?_, ?_, Nat.zero_le _, Nat.zero_le _, nz0, ?_, by simp at s7 ⊢; omega⟩
    ·show keepA (flatS (g0.concat (u0, v0, k0))) p0 = flatS (g0 ++ [(u0, v0, k0 + p0)])
     rw [List.concat_eq_append, flatS_app, flatS_app, flatS_cons, flatS_cons]
     have : flatS g0 ++ (endL u0 v0 ++ (k0, (⟨#[]⟩ : ByteArray), (⟨#[]⟩ : ByteArray)) :: flatS []) = (flatS g0 ++ endL u0 v0) ++ [(k0, (⟨#[]⟩ : ByteArray), (⟨#[]⟩ : ByteArray))] := by rw [List.append_assoc]; rfl
     rw [this, keepA_app, if_pos o0.pos, ek, List.append_assoc]; rfl
    ·intro x hx
     rcases List.mem_append.1 hx with hx | hx
     ·exact (s2 x (by simp [hx])).more
     ·rw [List.mem_singleton.1 hx]
      obtain ⟨a1, a2, a3, a4, a5⟩ := o0
      simp only at a1 a2 a3 a4 a5
      exact ⟨by simp only; omega, by simp only; omega, a3, by simp only; omega, by simp only; omega⟩
    ·show byteS (g0 ++ [(u0, v0, k0 + p0)]) ++ bytesOf (⟨#[]⟩ : ByteArray) = _
     have hpos := o0.pos
     simp only at hpos
     have er : List.replicate (k0 + p0).toNat (0 : Int) = List.replicate k0.toNat 0 ++ List.replicate p0.toNat 0 := by
      rw [List.replicate_append_replicate]; congr 1; omega
     rw [List.concat_eq_append] at s6
     rw [hdl, ← s6, byteS_app, byteS_app, byteS_cons, byteS_cons, e2, e3, er]; simp [byteS]
  ·rw [keepA_end L a b p0 (by omega)]
   refine ⟨g ++ [(a, b, p0)], ?_, ?_, Nat.zero_le _, Nat.zero_le _, nz0, ?_, by simp; omega⟩
   ·show L ++ (endL a b ++ [(p0, (⟨#[]⟩ : ByteArray), (⟨#[]⟩ : ByteArray))]) = flatS (g ++ [(a, b, p0)])
    rw [flatS_app, flatS_cons, ← s1]; rfl
   ·intro x hx
    rcases List.mem_append.1 hx with hx | hx
    ·exact (s2 x hx).more
    ·rw [List.mem_singleton.1 hx]
     exact ⟨by simp only; omega, by simp only; omega, s5, by simp only; omega, by simp only; omega⟩
   ·show byteS (g ++ [(a, b, p0)]) ++ bytesOf (⟨#[]⟩ : ByteArray) = _
    rw [hdl, ← s6, byteS_app, byteS_cons, e2, e3]; simp [byteS]
theorem part_nz {p : IP} (h : partB p = true) : NZ p.f2 := by
 intro x hx
 have hg : goodB (bytesOf p.f2) = true := by
  unfold partB at h
  by_cases c0 : p.f0 = 0
  ·rw [if_pos c0] at h
   by_cases c1 : p.f1.toList = ([] : List UInt8)
   ·rw [if_pos c1] at h
    by_cases c2 : p.f2.toList = ([] : List UInt8)
    ·rw [if_pos c2] at h; cases h
    ·rw [if_neg c2] at h; exact h
   ·rw [if_neg c1] at h
    by_cases c2 : p.f2.toList = ([] : List UInt8)
    ·rw [bytesOf_nil ((toList_nil _).1 c2)] at hx; cases hx
    ·rw [if_neg c2] at h; cases h
  ·rw [if_neg c0, Bool.and_eq_true, Bool.and_eq_true] at h
   have := (toList_nil _).1 (by simpa using h.2.2)
   rw [bytesOf_nil this] at hx; cases hx
 unfold goodB textB at hg
 rw [Bool.and_eq_true, List.all_eq_true] at hg
 have := hg.1 x hx
 unfold okB openB plainB at this
 simp only [Bool.or_eq_true, decide_eq_true_eq] at this
 omega
theorem seg_all (l : List IP) (hl : l.length ≤ 60) (hp : ∀ p ∈ l, partB p = true) : ∀ i, i ≤ l.length → ∃ g, SegIs i (l.take i) (stN l i) g
 | 0, _ => by
  have e0 : stN l 0 = ([], (⟨#[]⟩ : ByteArray), (⟨#[]⟩ : ByteArray)) := rfl
  have e3 : bytesOf (⟨#[]⟩ : ByteArray) = [] := bytesOf_nil rfl
  rw [e0]
  refine ⟨[], rfl, ?_, Nat.le_refl _, Nat.le_refl _, ?_, ?_, Nat.le_refl _⟩
  ·intro x hx; cases hx
  ·intro x hx
   rw [e3] at hx; cases hx
  ·show byteS [] ++ bytesOf (⟨#[]⟩ : ByteArray) = _
   rw [e3]; rfl
 | i + 1, h => by
  obtain ⟨g, hg⟩ := seg_all l hl hp i (by omega)
  have hm := hp _ (List.getElem_mem (show i < l.length by omega))
  obtain ⟨g', hg'⟩ := seg_step i (l.take i) (stN l i) g (l[i]'(by omega)) (by omega) hg (part_one hm) (part_nz hm)
  rw [stN_succ l i (by omega), List.take_succ_eq_append_getElem (by omega)]
  exact ⟨g', hg'⟩
/-- The normal change, by what it keeps. -/
theorem norm_segs (l : List IP) (hl : l.length ≤ 60) (hp : ∀ p ∈ l, partB p = true) : ∃ (g : List Seg) (a b : ByteArray), normI l = (flatS g ++ endL a b).map ofP ∧ (∀ x ∈ g, SegOk 60 x) ∧ a.size ≤ 18000 ∧ b.size ≤ 18000 ∧ NZ b ∧ byteS g ++ bytesOf b = dropL l ∧ g.length ≤ 60 := by
 obtain ⟨g, s1, s2, s3, s4, s5, s6, s7⟩ := seg_all l hl hp l.length (Nat.le_refl _)
 have e : stN l l.length = (l.map toP).foldl takeP ([], ⟨#[]⟩, ⟨#[]⟩) := by unfold stN; rw [List.take_of_length_le (Nat.le_refl _)]
 rw [List.take_of_length_le (Nat.le_refl _)] at s6
 refine ⟨g, (stN l l.length).2.1, (stN l l.length).2.2, ?_, fun x hx => ?_, by omega, by omega, s5, s6, by omega⟩
 ·unfold normI normP; rw [← e, s1]
 ·obtain ⟨a1, a2, a3, a4, a5⟩ := s2 x hx
  exact ⟨by omega, by omega, a3, a4, by omega⟩
theorem at_idx (pre suf : List IP) (p : IP) : gt izP (pre ++ p :: suf) pre.length = p := by
 unfold gt; rw [List.getD_eq_getElem?_getD, List.getElem?_append_right (Nat.le_refl _)]; simp
theorem gt_app_lz {α : Type} (z : α) (a b : List α) (j : Nat) (h : j < a.length) : gt z (a ++ b) j = gt z a j := by
 unfold gt; rw [List.getD_eq_getElem?_getD, List.getElem?_append_left h, ← List.getD_eq_getElem?_getD]
theorem normal_l (l : List IP) (hl : l.length ≤ 60) (hp : ∀ p ∈ l, One p) (d : Nat) : ∀ i : Nat, i + d = l.length → Fit i (stN l i) →
  Ev (fun k => spec_l3Normal.l0 k (allP (stN l i)) l (l.length : Int) (i : Int)) ((normP (l.map toP)).map ofP) := by
 induction d with
 | zero =>
  intro i hi hf
  refine Ev.step (fun k => by rw [spec_l3Normal.l0]) ?_
  refine ev_neg (by omega) (ev_ret ?_)
  have e : stN l i = (l.map toP).foldl takeP ([], ⟨#[]⟩, ⟨#[]⟩) := by unfold stN; rw [List.take_of_length_le (by omega)]
  unfold allP normP; rw [e]
 | succ d ih =>
  intro i hi hf
  have hm := hp _ (gt_mem izP l i (by omega))
  have es := stN_succ l i (by omega)
  have eg : l[i]'(by omega) = gt izP l i := by unfold gt; rw [List.getD_eq_getElem?_getD, List.getElem?_eq_getElem (by omega)]; rfl
  rw [eg] at es
  obtain ⟨h1, h2⟩ := add_step i (stN l i) (gt izP l i) (by omega) hf hm
  rw [← es] at h1 h2
  refine Ev.step (fun k => by rw [spec_l3Normal.l0]) ?_
  refine ev_pos (by omega) (ev_pos (by omega) (ev_pos (by omega) ?_))
  rw [wrap_succ i (by omega)]
  simp only [rd_ip]
  exact Ev.bind h1 (ih (i + 1) (by omega) h2)
theorem spec_l3Normal_f (l : List IP) (hl : l.length ≤ 60) (hp : ∀ p ∈ l, One p) : Ev (fun k => spec_l3Normal.f k l) (normI l) := by
 unfold spec_l3Normal.f
 have e : allP (stN l 0) = [] := by
  have e0 : stN l 0 = ([], (⟨#[]⟩ : ByteArray), (⟨#[]⟩ : ByteArray)) := rfl
  rw [e0]; unfold allP; rw [endL_00 sz0 sz0]; rfl
 have := normal_l l hl hp l.length 0 (by omega) fit_zero
 rw [e] at this
 exact this
theorem spec_l4Bytes_l (l : List IP) (hl : l.length ≤ 60) (hp : ∀ p ∈ l, partB p = true) (d : Nat) : ∀ (i : Nat) (a : List Int), i + d = l.length → a.length ≤ 600 * i →
  Ev (fun k => spec_l4Bytes.l0 k a l (l.length : Int) (i : Int)) (a ++ dropL (l.drop i)) := by
 induction d with
 | zero =>
  intro i a hi ha
  refine Ev.step (fun k => by rw [spec_l4Bytes.l0]) ?_
  refine ev_neg (by omega) (ev_ret ?_)
  rw [List.drop_eq_nil_of_le (by omega)]; simp [dropL]
 | succ d ih =>
  intro i a hi ha
  obtain ⟨f1, f2, f3, f4, f5⟩ := part_facts (hp _ (gt_mem izP l i (by omega)))
  refine Ev.step (fun k => by rw [spec_l4Bytes.l0]) ?_
  refine ev_pos (by omega) (ev_pos (by omega) (ev_pos (by omega) ?_))
  rw [gt_drop izP l i (by omega), wrap_succ i (by omega)]
  simp only [rd_ip]
  refine ev_pos (by omega) (ev_pos (by omega) (ev_some (ev_pos ?_ ?_)))
  ·rw [List.length_append, List.length_replicate]; omega
  ·refine ev_val (ih (i + 1) _ (by omega) ?_) ?_
   ·rw [List.length_append, List.length_append, List.length_replicate, bytesOf_length]; omega
   ·simp only [dropL, List.append_assoc]
theorem spec_l4Bytes_f (l : List IP) (hl : l.length ≤ 60) (hp : ∀ p ∈ l, partB p = true) : Ev (fun k => spec_l4Bytes.f k l) (dropL l) := by
 unfold spec_l4Bytes.f
 exact spec_l4Bytes_l l hl hp l.length 0 [] (by omega) (by simp)
/-- A byte that is kept, between two places. -/
theorem kept_l (B : List Int) (hB : B.length ≤ 100000) (at_ e : Nat) (hat : at_ ≤ B.length) (b : Nat) (hz : ∀ i, b ≤ i → i < e → gt 0 B i ≠ 0) (he : e < at_ → gt 0 B e = 0) (d : Nat) : ∀ i : Nat, at_ - i ≤ d → b ≤ i → i ≤ e ∨ at_ ≤ e → i ≤ at_ →
  Ev (fun k => spec_l5Kept.l0 k (at_ : Int) B (i : Int)) (decide (e < at_)) := by
 induction d with
 | zero =>
  intro i hd hb hie hia
  refine Ev.step (fun k => by rw [spec_l5Kept.l0]) ?_
  exact ev_neg (by omega) (ev_ret (by rw [decide_eq_false (by omega)]))
 | succ d ih =>
  intro i hd hb hie hia
  by_cases hi : i < at_
  ·refine Ev.step (fun k => by rw [spec_l5Kept.l0]) ?_
   refine ev_pos (by omega) (ev_pos (by omega) (ev_pos (by omega) (ev_if (fun h => ev_ret ?_) (fun h => ?_))))
   ·have h' : gt 0 B i = 0 := h
    have : ¬ i < e := fun c => hz i hb c h'
    rw [decide_eq_true (by omega)]
   ·rw [wrap_succ i (by omega)]
    have h' : gt 0 B i ≠ 0 := h
    refine ih (i + 1) (by omega) (by omega) ?_ (by omega)
    by_cases c : i = e
    ·subst c; exact absurd (he hi) h'
    ·omega
  ·refine Ev.step (fun k => by rw [spec_l5Kept.l0]) ?_
   exact ev_neg (by omega) (ev_ret (by rw [decide_eq_false (by omega)]))
theorem kept_f (l : List IP) (hl : l.length ≤ 60) (hp : ∀ p ∈ l, partB p = true) (b e at_ : Nat) (hbe : b ≤ e) (hba : b ≤ at_) (hat : at_ ≤ (dropL l).length) (hz : ∀ i, b ≤ i → i < e → gt 0 (dropL l) i ≠ 0) (he : e < at_ → gt 0 (dropL l) e = 0) :
  Ev (fun k => spec_l5Kept.f k l (b : Int) (at_ : Int)) (decide (e < at_)) := by
 have hB := dropL_len l hp
 unfold spec_l5Kept.f
 exact Ev.bind (spec_l4Bytes_f l hl hp) (kept_l (dropL l) (by omega) at_ e hat b hz he (at_ - b) b (Nat.le_refl _) (Nat.le_refl _) (.inl hbe) hba)
theorem gap_end (l X : List IP) (at_ lo hi inn : Int) (n : Nat) (h : X.length ≤ n) (hn : n ≤ 1000000) : Ev (fun k => spec_l5Gap.l0 k l at_ lo hi inn X (X.length : Int) (n : Int)) (lo, hi) := by
 refine Ev.step (fun k => by rw [spec_l5Gap.l0]) ?_
 exact ev_neg (by omega) (ev_ret rfl)
theorem gap_break (l pre suf : List IP) (p : IP) (at_ lo hi inn : Int) (hb : inn > at_ ∨ (inn = at_ ∧ p.f0 > 0)) :
  Ev (fun k => spec_l5Gap.l0 k l at_ lo hi inn (pre ++ p :: suf) ((pre ++ p :: suf).length : Int) (pre.length : Int)) (lo, hi) := by
 have hl : (pre ++ p :: suf).length = pre.length + (suf.length + 1) := by rw [List.length_append, List.length_cons]
 refine Ev.step (fun k => by rw [spec_l5Gap.l0]) ?_
 simp only [rd_ip, at_idx]
 refine ev_pos (by omega) (ev_pos (by omega) (ev_pos (by omega) (ev_if (fun h => ?_) (fun h => ev_pos (by omega) ?_))))
 ·refine Ev.step (fun k => by rw [spec_l5Gap.j1]) ?_
  exact ev_pos rfl (ev_ret rfl)
 ·rw [decide_eq_true (by omega)]
  refine Ev.step (fun k => by rw [spec_l5Gap.j1]) ?_
  exact ev_pos rfl (ev_ret rfl)
theorem gap_go (l pre suf : List IP) (p : IP) (at_ lo hi inn : Int) (hb : ¬ (inn > at_ ∨ (inn = at_ ∧ p.f0 > 0))) {r : Int × Int}
  (h : Ev (fun k => spec_l5Gap.j1 k l at_ lo hi inn (wrap64 (p.f0 + (p.f2.size : Int))) (pre ++ p :: suf) ((pre ++ p :: suf).length : Int) (pre.length : Int) false p.f0 p.f1 p.f2) r) :
  Ev (fun k => spec_l5Gap.l0 k l at_ lo hi inn (pre ++ p :: suf) ((pre ++ p :: suf).length : Int) (pre.length : Int)) r := by
 have hl : (pre ++ p :: suf).length = pre.length + (suf.length + 1) := by rw [List.length_append, List.length_cons]
 refine Ev.step (fun k => by rw [spec_l5Gap.l0]) ?_
 simp only [rd_ip, at_idx]
 refine ev_pos (by omega) (ev_pos (by omega) (ev_pos (by omega) (ev_neg (fun c => hb (.inl c)) (ev_if (fun c => ?_) (fun c => h)))))
 rw [decide_eq_false (fun q => hb (.inr ⟨c, q⟩))]; exact h
theorem app_one (pre suf : List IP) (p : IP) : pre ++ p :: suf = (pre ++ [p]) ++ suf := by rw [List.append_assoc]; rfl
theorem len_one (pre : List IP) (p : IP) (h : pre.length ≤ 1000000) : wrap64 ((pre.length : Int) + 1) = ((pre ++ [p]).length : Int) := by
 rw [wrap_succ _ (by omega), List.length_append, List.length_singleton]
theorem gap_put (l pre suf : List IP) (u : ByteArray) (hu : u.size ≠ 0) (at_ lo hi inn : Int) (hin : inn ≤ at_) (hpl : pre.length ≤ 1000000) (hh : 0 ≤ hi ∧ hi + u.size ≤ 1000000000) (kb : Bool) (hk : inn < at_ → Ev (fun k => spec_l5Kept.f k l inn at_) kb) {r : Int × Int}
  (h : Ev (fun k => spec_l5Gap.l0 k l at_ (if inn < at_ ∧ kb = true then hi + u.size else lo) (hi + u.size) inn ((pre ++ [(⟨0, u, ⟨#[]⟩⟩ : IP)]) ++ suf) (((pre ++ [(⟨0, u, ⟨#[]⟩⟩ : IP)]) ++ suf).length : Int) ((pre ++ [(⟨0, u, ⟨#[]⟩⟩ : IP)]).length : Int)) r) :
  Ev (fun k => spec_l5Gap.l0 k l at_ lo hi inn (pre ++ (⟨0, u, ⟨#[]⟩⟩ : IP) :: suf) ((pre ++ (⟨0, u, ⟨#[]⟩⟩ : IP) :: suf).length : Int) (pre.length : Int)) r := by
 refine gap_go l pre suf ⟨0, u, ⟨#[]⟩⟩ at_ lo hi inn (by rintro (c | ⟨c, d⟩); omega; exact absurd d (by simp)) ?_
 rw [← app_one, ← len_one pre _ hpl] at h
 refine Ev.step (fun k => by rw [spec_l5Gap.j1]) ?_
 simp only
 rw [wrap_id (x := hi + (u.size : Int)) (by omega) (by omega)]
 refine ev_neg (by simp) (ev_neg (fun c => hu ((toList_nil _).1 c)) (ev_if (fun c => ?_) (fun c => ?_)))
 ·refine Ev.bind (hk c) ?_
  cases kb with
  | true => rw [if_pos ⟨c, rfl⟩] at h; exact ev_pos rfl h
  | false => rw [if_neg (by simp)] at h; exact ev_neg (by simp) h
 ·rw [if_neg (fun q => c q.1)] at h; exact h
theorem gap_drop (l pre suf : List IP) (v : ByteArray) (at_ lo hi inn : Int) (hin : inn ≤ at_) (hpl : pre.length ≤ 1000000) (hh : 0 ≤ inn ∧ inn + v.size ≤ 1000000000) {r : Int × Int}
  (h : Ev (fun k => spec_l5Gap.l0 k l at_ lo hi (inn + v.size) ((pre ++ [(⟨0, ⟨#[]⟩, v⟩ : IP)]) ++ suf) (((pre ++ [(⟨0, ⟨#[]⟩, v⟩ : IP)]) ++ suf).length : Int) ((pre ++ [(⟨0, ⟨#[]⟩, v⟩ : IP)]).length : Int)) r) :
  Ev (fun k => spec_l5Gap.l0 k l at_ lo hi inn (pre ++ (⟨0, ⟨#[]⟩, v⟩ : IP) :: suf) ((pre ++ (⟨0, ⟨#[]⟩, v⟩ : IP) :: suf).length : Int) (pre.length : Int)) r := by
 refine gap_go l pre suf ⟨0, ⟨#[]⟩, v⟩ at_ lo hi inn (by rintro (c | ⟨c, d⟩); omega; exact absurd d (by simp)) ?_
 rw [← app_one, ← len_one pre _ hpl] at h
 refine Ev.step (fun k => by rw [spec_l5Gap.j1]) ?_
 simp only
 rw [show wrap64 (inn + wrap64 (0 + (v.size : Int))) = inn + v.size by rw [wrap_id (x := 0 + (v.size : Int)) (by omega) (by omega), wrap_id (by omega) (by omega)]; omega]
 exact ev_neg (by simp) (ev_pos nil_nil (ev_neg (by simp) h))
theorem gap_keep (l pre suf : List IP) (x : Int) (hx : 0 < x) (at_ lo hi inn : Int) (hin : inn < at_) (hpl : pre.length ≤ 1000000) (hh : 0 ≤ inn ∧ inn + x ≤ 1000000000) (hh2 : 0 ≤ hi ∧ hi ≤ 1000000000) (hat : at_ ≤ 1000000000) {r : Int × Int}
  (h : Ev (fun k => spec_l5Gap.l0 k l at_ (hi + (if inn + x > at_ then at_ - inn else x)) (hi + (if inn + x > at_ then at_ - inn else x)) (inn + x) ((pre ++ [(⟨x, ⟨#[]⟩, ⟨#[]⟩⟩ : IP)]) ++ suf) (((pre ++ [(⟨x, ⟨#[]⟩, ⟨#[]⟩⟩ : IP)]) ++ suf).length : Int) ((pre ++ [(⟨x, ⟨#[]⟩, ⟨#[]⟩⟩ : IP)]).length : Int)) r) :
  Ev (fun k => spec_l5Gap.l0 k l at_ lo hi inn (pre ++ (⟨x, ⟨#[]⟩, ⟨#[]⟩⟩ : IP) :: suf) ((pre ++ (⟨x, ⟨#[]⟩, ⟨#[]⟩⟩ : IP) :: suf).length : Int) (pre.length : Int)) r := by
 refine gap_go l pre suf ⟨x, ⟨#[]⟩, ⟨#[]⟩⟩ at_ lo hi inn (by rintro (c | ⟨c, d⟩) <;> omega) ?_
 rw [← app_one, ← len_one pre _ hpl] at h
 refine Ev.step (fun k => by rw [spec_l5Gap.j1]) ?_
 simp only [sz0]
 have e1 : wrap64 (x + ((0 : Nat) : Int)) = x := by rw [wrap_id (by omega) (by omega)]; omega
 have e2 : wrap64 (inn + x) = inn + x := wrap_id (by omega) (by omega)
 have e3 : wrap64 (at_ - inn) = at_ - inn := wrap_id (by omega) (by omega)
 rw [e1, e2, e3]
 refine ev_neg (by simp) (ev_pos nil_nil (ev_pos hx (ev_if (fun c => ?_) (fun c => ?_))))
 ·rw [if_pos c] at h; rw [wrap_id (x := hi + (at_ - inn)) (by omega) (by omega)]; exact h
 ·rw [if_neg c] at h; rw [wrap_id (x := hi + x) (by omega) (by omega)]; exact h
theorem mv_end (X : List IP) (at_ out fr : Int) (af : Bool) (n : Nat) (h : X.length ≤ n) (hn : n ≤ 1000000) : Ev (fun k => impl_movePlace.l0 k X at_ af out fr (n : Int)) out := by
 refine Ev.step (fun k => by rw [impl_movePlace.l0]) ?_
 exact ev_neg (by omega) (ev_ret rfl)
theorem mv_stop (pre suf : List IP) (x : Int) (hx : 0 < x) (at_ out fr : Int) (af : Bool) (h : at_ ≤ fr) : Ev (fun k => impl_movePlace.l0 k (pre ++ (⟨x, ⟨#[]⟩, ⟨#[]⟩⟩ : IP) :: suf) at_ af out fr (pre.length : Int)) out := by
 have hl : (pre ++ (⟨x, ⟨#[]⟩, ⟨#[]⟩⟩ : IP) :: suf).length = pre.length + (suf.length + 1) := by rw [List.length_append, List.length_cons]
 refine Ev.step (fun k => by rw [impl_movePlace.l0]) ?_
 simp only [rd_ip, at_idx]
 exact ev_pos (by omega) (ev_pos (by omega) (ev_pos hx (ev_pos h (ev_ret rfl))))
theorem mv_keep (pre suf : List IP) (x : Int) (hx : 0 < x) (at_ out fr : Int) (af : Bool) (h : fr < at_) (hpl : pre.length ≤ 1000000) (hh : 0 ≤ fr ∧ fr + x ≤ 1000000000) (hh2 : 0 ≤ out ∧ out ≤ 1000000000) (hat : at_ ≤ 1000000000) {r : Int}
  (hr : Ev (fun k => impl_movePlace.l0 k ((pre ++ [(⟨x, ⟨#[]⟩, ⟨#[]⟩⟩ : IP)]) ++ suf) at_ af (out + (if fr + x > at_ then at_ - fr else x)) (fr + x) ((pre ++ [(⟨x, ⟨#[]⟩, ⟨#[]⟩⟩ : IP)]).length : Int)) r) :
  Ev (fun k => impl_movePlace.l0 k (pre ++ (⟨x, ⟨#[]⟩, ⟨#[]⟩⟩ : IP) :: suf) at_ af out fr (pre.length : Int)) r := by
 have hl : (pre ++ (⟨x, ⟨#[]⟩, ⟨#[]⟩⟩ : IP) :: suf).length = pre.length + (suf.length + 1) := by rw [List.length_append, List.length_cons]
 rw [← app_one, ← len_one pre _ hpl] at hr
 refine Ev.step (fun k => by rw [impl_movePlace.l0]) ?_
 simp only [rd_ip, at_idx]
 have e2 : wrap64 (fr + x) = fr + x := wrap_id (by omega) (by omega)
 have e3 : wrap64 (at_ - fr) = at_ - fr := wrap_id (by omega) (by omega)
 have e4 : wrap64 (out + mn x (at_ - fr)) = out + (if fr + x > at_ then at_ - fr else x) := by
  unfold mn
  split <;> split <;> rw [wrap_id (by omega) (by omega)] <;> omega
 rw [e2, e3, e4]
 exact ev_pos (by omega) (ev_pos (by omega) (ev_pos hx (ev_neg (by omega) hr)))
/-- What is put and dropped at one place, by the program. -/
theorem mv_group (pre suf : List IP) (u v : ByteArray) (at_ out fr : Int) (af : Bool) (hs : suf = [] ∨ ∃ x t, suf = (⟨x, ⟨#[]⟩, ⟨#[]⟩⟩ : IP) :: t) (hpl : pre.length ≤ 100000) (hh : 0 ≤ fr ∧ fr + v.size ≤ 1000000000) (hh2 : 0 ≤ out ∧ out + u.size ≤ 1000000000) {r : Int}
  (hr : Ev (fun k => impl_movePlace.l0 k ((pre ++ (endL u v).map ofP) ++ suf) at_ af (if at_ > fr + v.size ∨ (at_ ≥ fr ∧ af = true) then out + u.size else out) (fr + v.size) ((pre ++ (endL u v).map ofP).length : Int)) r) :
  Ev (fun k => impl_movePlace.l0 k ((pre ++ (endL u v).map ofP) ++ suf) at_ af out fr (pre.length : Int)) r := by
 have e2 : wrap64 (fr + (v.size : Int)) = fr + v.size := wrap_id (by omega) (by omega)
 have e3 : wrap64 (out + (u.size : Int)) = out + u.size := wrap_id (by omega) (by omega)
 have ew := wrap_succ pre.length (by omega)
 have ew2 := wrap_succ (pre.length + 1) (by omega)
 by_cases hu : u.size = 0
 ·by_cases hv : v.size = 0
  ·rw [endL_00 hu hv] at hr ⊢
   simp only [List.map_nil, List.append_nil] at hr ⊢
   rw [hu, hv] at hr
   have : (if at_ > fr + ((0 : Nat) : Int) ∨ (at_ ≥ fr ∧ af = true) then out + ((0 : Nat) : Int) else out) = out := by split <;> omega
   rw [this, show fr + ((0 : Nat) : Int) = fr by omega] at hr
   exact hr
  ·rw [endL_01 hu hv] at hr ⊢
   have em : (pre ++ List.map ofP [(0, (⟨#[]⟩ : ByteArray), v)]) ++ suf = pre ++ (⟨0, ⟨#[]⟩, v⟩ : IP) :: suf := by rw [List.append_assoc]; rfl
   have el : ((pre ++ List.map ofP [(0, (⟨#[]⟩ : ByteArray), v)]).length : Int) = ((pre.length + 1 : Nat) : Int) := by rw [List.length_append]; rfl
   rw [em, el] at hr
   rw [em]
   have hl : (pre ++ (⟨0, ⟨#[]⟩, v⟩ : IP) :: suf).length = pre.length + (suf.length + 1) := by rw [List.length_append, List.length_cons]
   have key : Ev (fun k => impl_movePlace.j1 k (pre ++ (⟨0, ⟨#[]⟩, v⟩ : IP) :: suf) at_ af out fr (pre.length : Int) ((⟨#[]⟩ : ByteArray).size : Int) (fr + v.size) false) r := by
    refine Ev.step (fun k => by rw [impl_movePlace.j1]) ?_
    rw [ew, show (((⟨#[]⟩ : ByteArray).size : Nat) : Int) = (u.size : Int) by rw [hu]; rfl, e3]
    refine ev_neg (by simp) (ev_if (fun c => ?_) (fun c => ev_if (fun c2 => ev_if (fun c3 => ?_) (fun c3 => ?_)) (fun c2 => ?_)))
    ·rw [if_pos (.inl c)] at hr; exact hr
    ·rw [if_pos (.inr ⟨c2, c3⟩)] at hr; exact hr
    ·rw [if_neg (by rintro (q | q); exact c q; exact c3 q.2)] at hr; exact hr
    ·rw [if_neg (by rintro (q | q); exact c q; exact c2 q.1)] at hr; exact hr
   refine Ev.step (fun k => by rw [impl_movePlace.l0]) ?_
   rw [ew]
   simp only [rd_ip, at_idx]
   rw [e2]
   exact ev_pos (by omega) (ev_pos (by omega) (ev_neg (by simp) (ev_if (fun c => ev_pos nil_nil key) (fun c => key))))
 ·by_cases hv : v.size = 0
  ·rw [endL_10 hu hv] at hr ⊢
   have em : (pre ++ List.map ofP [(0, u, (⟨#[]⟩ : ByteArray))]) ++ suf = pre ++ (⟨0, u, ⟨#[]⟩⟩ : IP) :: suf := by rw [List.append_assoc]; rfl
   have el : ((pre ++ List.map ofP [(0, u, (⟨#[]⟩ : ByteArray))]).length : Int) = ((pre.length + 1 : Nat) : Int) := by rw [List.length_append]; rfl
   rw [em, el] at hr
   rw [em]
   have hl : (pre ++ (⟨0, u, ⟨#[]⟩⟩ : IP) :: suf).length = pre.length + (suf.length + 1) := by rw [List.length_append, List.length_cons]
   have e5 : wrap64 (fr + (((⟨#[]⟩ : ByteArray).size : Nat) : Int)) = fr + v.size := by rw [hv, sz0, wrap_id (by omega) (by omega)]
   have key : Ev (fun k => impl_movePlace.j1 k (pre ++ (⟨0, u, ⟨#[]⟩⟩ : IP) :: suf) at_ af out fr (pre.length : Int) (u.size : Int) (fr + v.size) false) r := by
    refine Ev.step (fun k => by rw [impl_movePlace.j1]) ?_
    rw [ew, e3]
    refine ev_neg (by simp) (ev_if (fun c => ?_) (fun c => ev_if (fun c2 => ev_if (fun c3 => ?_) (fun c3 => ?_)) (fun c2 => ?_)))
    ·rw [if_pos (.inl c)] at hr; exact hr
    ·rw [if_pos (.inr ⟨c2, c3⟩)] at hr; exact hr
    ·rw [if_neg (by rintro (q | q); exact c q; exact c3 q.2)] at hr; exact hr
    ·rw [if_neg (by rintro (q | q); exact c q; exact c2 q.1)] at hr; exact hr
   refine Ev.step (fun k => by rw [impl_movePlace.l0]) ?_
   rw [ew]
   simp only [rd_ip, at_idx]
   rw [e5]
   refine ev_pos (by omega) (ev_pos (by omega) (ev_neg (by simp) (ev_if (fun c => ev_neg (fun q => hu ((toList_nil _).1 q)) (ev_pos (by omega) ?_)) (fun c => key))))
   rcases hs with hs | ⟨x, t, hs⟩
   ·exfalso; rw [hs] at c; simp at c
   ·have eg : gt izP (pre ++ (⟨0, u, ⟨#[]⟩⟩ : IP) :: suf) (pre.length + 1) = ⟨x, ⟨#[]⟩, ⟨#[]⟩⟩ := by
     have := at_idx (pre ++ [(⟨0, u, ⟨#[]⟩⟩ : IP)]) t ⟨x, ⟨#[]⟩, ⟨#[]⟩⟩
     rw [List.length_append, List.length_singleton, ← app_one, ← hs] at this
     exact this
    rw [eg]
    have en : ((⟨#[]⟩ : ByteArray).toList != ([] : List UInt8)) = false := by rw [bne_eq_false_iff_eq]; exact nil_nil
    simp only [en]
    exact key
  ·rw [endL_11 hu hv] at hr ⊢
   have em : (pre ++ List.map ofP [(0, u, (⟨#[]⟩ : ByteArray)), (0, ⟨#[]⟩, v)]) ++ suf = pre ++ (⟨0, u, ⟨#[]⟩⟩ : IP) :: (⟨0, ⟨#[]⟩, v⟩ : IP) :: suf := by rw [List.append_assoc]; rfl
   have el : ((pre ++ List.map ofP [(0, u, (⟨#[]⟩ : ByteArray)), (0, ⟨#[]⟩, v)]).length : Int) = ((pre.length + 1 + 1 : Nat) : Int) := by rw [List.length_append]; rfl
   rw [em, el] at hr
   rw [em]
   have hl : (pre ++ (⟨0, u, ⟨#[]⟩⟩ : IP) :: (⟨0, ⟨#[]⟩, v⟩ : IP) :: suf).length = pre.length + (suf.length + 1 + 1) := by rw [List.length_append, List.length_cons, List.length_cons]
   have eg : gt izP (pre ++ (⟨0, u, ⟨#[]⟩⟩ : IP) :: (⟨0, ⟨#[]⟩, v⟩ : IP) :: suf) (pre.length + 1) = ⟨0, ⟨#[]⟩, v⟩ := by
    have := at_idx (pre ++ [(⟨0, u, ⟨#[]⟩⟩ : IP)]) suf ⟨0, ⟨#[]⟩, v⟩
    rw [List.length_append, List.length_singleton, ← app_one] at this
    exact this
   refine Ev.step (fun k => by rw [impl_movePlace.l0]) ?_
   rw [ew]
   simp only [rd_ip, at_idx, eg]
   refine ev_pos (by omega) (ev_pos (by omega) (ev_neg (by simp) (ev_pos (by omega) (ev_neg (fun q => hu ((toList_nil _).1 q)) (ev_pos (by omega) ?_)))))
   rw [show (v.toList != ([] : List UInt8)) = true by rw [bne_iff_ne]; exact fun q => hv ((toList_nil _).1 q)]
   refine Ev.step (fun k => by rw [impl_movePlace.j1]) ?_
   rw [ew, ew2]
   simp only [rd_ip, eg]
   rw [e2, e3]
   refine ev_pos (by trivial) (ev_pos (by omega) (ev_pos (by omega) (ev_if (fun c => ?_) (fun c => ev_if (fun c2 => ev_if (fun c3 => ?_) (fun c3 => ?_)) (fun c2 => ?_)))))
   ·rw [if_pos (.inl c)] at hr; exact hr
   ·rw [if_pos (.inr ⟨c2, c3⟩)] at hr; exact hr
   ·rw [if_neg (by rintro (q | q); exact c q; exact c3 q.2)] at hr; exact hr
   ·rw [if_neg (by rintro (q | q); exact c q; exact c2 q.1)] at hr; exact hr
/-- The same, by the reference. -/
theorem gap_group (l pre suf : List IP) (u v : ByteArray) (at_ h inn : Int) (hin : inn ≤ at_) (hpl : pre.length ≤ 100000) (hh : 0 ≤ inn ∧ inn + v.size ≤ 1000000000) (hh2 : 0 ≤ h ∧ h + u.size ≤ 1000000000) (hk : inn < at_ → Ev (fun k => spec_l5Kept.f k l inn at_) (decide (inn + v.size < at_))) {r : Int × Int}
  (hr : Ev (fun k => spec_l5Gap.l0 k l at_ (if inn + v.size < at_ then h + u.size else h) (h + u.size) (inn + v.size) ((pre ++ (endL u v).map ofP) ++ suf) (((pre ++ (endL u v).map ofP) ++ suf).length : Int) ((pre ++ (endL u v).map ofP).length : Int)) r) :
  Ev (fun k => spec_l5Gap.l0 k l at_ h h inn ((pre ++ (endL u v).map ofP) ++ suf) (((pre ++ (endL u v).map ofP) ++ suf).length : Int) (pre.length : Int)) r := by
 have elo : (if inn < at_ ∧ decide (inn + (v.size : Int) < at_) = true then h + (u.size : Int) else h) = (if inn + (v.size : Int) < at_ then h + (u.size : Int) else h) := by
  by_cases c : inn + (v.size : Int) < at_
  ·rw [if_pos c, if_pos ⟨by omega, decide_eq_true c⟩]
  ·rw [if_neg c, if_neg (fun q => c (of_decide_eq_true q.2))]
 by_cases hu : u.size = 0
 ·have e0 : (if inn + (v.size : Int) < at_ then h + (u.size : Int) else h) = h := by rw [hu]; split <;> omega
  rw [e0, hu, show h + ((0 : Nat) : Int) = h by omega] at hr
  by_cases hv : v.size = 0
  ·rw [endL_00 hu hv] at hr ⊢
   simp only [List.map_nil, List.append_nil] at hr ⊢
   rw [hv, show inn + ((0 : Nat) : Int) = inn by omega] at hr
   exact hr
  ·rw [endL_01 hu hv] at hr ⊢
   rw [List.append_assoc]
   exact gap_drop l pre suf v at_ h h inn hin (by omega) hh hr
 ·by_cases hv : v.size = 0
  ·rw [endL_10 hu hv] at hr ⊢
   rw [List.append_assoc]
   refine gap_put l pre suf u hu at_ h h inn hin (by omega) hh2 _ hk ?_
   rw [elo]
   rw [hv, show inn + ((0 : Nat) : Int) = inn by omega] at hr ⊢
   exact hr
  ·rw [endL_11 hu hv] at hr ⊢
   rw [List.append_assoc]
   refine gap_put l pre ((⟨0, ⟨#[]⟩, v⟩ : IP) :: suf) u hu at_ h h inn hin (by omega) hh2 _ hk ?_
   rw [elo]
   refine gap_drop l (pre ++ [(⟨0, u, ⟨#[]⟩⟩ : IP)]) suf v at_ _ _ inn hin (by rw [List.length_append, List.length_singleton]; omega) hh ?_
   have em : (pre ++ [(⟨0, u, ⟨#[]⟩⟩ : IP)]) ++ [(⟨0, ⟨#[]⟩, v⟩ : IP)] = pre ++ List.map ofP [(0, u, (⟨#[]⟩ : ByteArray)), (0, ⟨#[]⟩, v)] := by rw [List.append_assoc]; rfl
   rw [em]
   exact hr
theorem endL_map_len (u v : ByteArray) : ((endL u v).map ofP).length ≤ 2 := by rw [List.length_map]; exact endL_len u v
theorem seg_suf (g : List Seg) (a b : ByteArray) (s : Seg) : (flatS (s :: g) ++ endL a b).map ofP = (endL s.1 s.2.1).map ofP ++ ((⟨s.2.2, ⟨#[]⟩, ⟨#[]⟩⟩ : IP) :: (flatS g ++ endL a b).map ofP) := by
 rw [flatS_cons, List.append_assoc, List.map_append, List.cons_append, List.map_cons]; rfl
/-- Behind the place nothing counts. -/
theorem far (l : List IP) (a b : ByteArray) (ha : a.size ≤ 20000) (hb : b.size ≤ 20000) (at_ : Int) (af : Bool) : ∀ (g : List Seg), (∀ x ∈ g, SegOk 60 x) → ∀ (pre : List IP) (h inn : Int), pre.length + 3 * g.length ≤ 10000 → 0 ≤ inn → inn ≤ 1000000 → 0 ≤ h → h ≤ 900000000 → at_ < inn →
  Ev (fun k => impl_movePlace.l0 k (pre ++ (flatS g ++ endL a b).map ofP) at_ af h inn (pre.length : Int)) h
 | [], hg, pre, h, inn, hl, h0, h1, h2, h3, h4 => by
  have em : pre ++ (flatS [] ++ endL a b).map ofP = (pre ++ (endL a b).map ofP) ++ [] := by rw [List.append_nil]; rfl
  rw [em]
  refine mv_group pre [] a b at_ h inn af (.inl rfl) (by omega) ⟨h0, by omega⟩ ⟨h2, by omega⟩ ?_
  rw [if_neg (by rintro (q | q) <;> omega)]
  have := endL_map_len a b
  exact mv_end _ at_ h _ af _ (by rw [List.append_nil]; exact Nat.le_refl _) (by rw [List.length_append]; simp at hl; omega)
 | s :: g, hg, pre, h, inn, hl, h0, h1, h2, h3, h4 => by
  obtain ⟨o1, o2, o3, o4, o5⟩ := hg s (List.mem_cons_self ..)
  rw [seg_suf, ← List.append_assoc]
  refine mv_group pre _ s.1 s.2.1 at_ h inn af (.inr ⟨_, _, rfl⟩) (by omega) ⟨h0, by omega⟩ ⟨h2, by omega⟩ ?_
  rw [if_neg (by rintro (q | q) <;> omega)]
  exact mv_stop _ _ s.2.2 o4 at_ h _ af (by omega)
theorem gap_far (l X : List IP) (at_ h inn : Int) (n : Nat) (hn : n ≤ X.length) (hx : X.length ≤ 1000000) (h4 : at_ < inn) : Ev (fun k => spec_l5Gap.l0 k l at_ h h inn X (X.length : Int) (n : Int)) (h, h) := by
 by_cases c : n = X.length
 ·exact gap_end l X at_ h h inn n (by omega) (by omega)
 ·have e : X = X.take n ++ gt izP X n :: X.drop (n + 1) := by rw [← gt_drop izP X n (by omega), List.take_append_drop]
  have el : (X.take n).length = n := by rw [List.length_take]; omega
  have := gap_break l (X.take n) (X.drop (n + 1)) (gt izP X n) at_ h h inn (.inl h4)
  rw [← e, el] at this
  exact this
/-- Where a place lies behind a normal change: the low and the high place. -/
def gapS : List Seg → ByteArray → Nat → Int → Nat → Int × Int
 | [], a, _, h, _ => (h, h + a.size)
 | s :: g, a, at_, h, inn =>
  if inn + s.2.1.size < at_ then
   (if inn + s.2.1.size + s.2.2.toNat ≤ at_ then gapS g a at_ (h + s.1.size + s.2.2) (inn + s.2.1.size + s.2.2.toNat)
   else (h + s.1.size + ((at_ : Int) - ((inn : Int) + s.2.1.size)), h + s.1.size + ((at_ : Int) - ((inn : Int) + s.2.1.size))))
  else (h, h + s.1.size)
theorem move_all (l : List IP) (hl : l.length ≤ 60) (hp : ∀ p ∈ l, partB p = true) (a b : ByteArray) (ha : a.size ≤ 20000) (hb : b.size ≤ 20000) (nb : NZ b) (at_ : Nat) (hat : at_ ≤ (dropL l).length) : ∀ (g : List Seg), (∀ x ∈ g, SegOk 60 x) → ∀ (pre : List IP) (h : Int) (inn : Nat), pre.length + 3 * g.length ≤ 1000 → inn ≤ at_ → 0 ≤ h → h ≤ 20000 * (pre.length : Int) + inn → (dropL l).drop inn = byteS g ++ bytesOf b →
  ∃ lo hi : Int, (lo, hi) = gapS g a at_ h inn ∧ Ev (fun k => spec_l5Gap.l0 k l (at_ : Int) h h (inn : Int) (pre ++ (flatS g ++ endL a b).map ofP) ((pre ++ (flatS g ++ endL a b).map ofP).length : Int) (pre.length : Int)) (lo, hi) ∧
   ∀ af : Bool, Ev (fun k => impl_movePlace.l0 k (pre ++ (flatS g ++ endL a b).map ofP) (at_ : Int) af h (inn : Int) (pre.length : Int)) (if af = true then hi else lo)
 | [], hg, pre, h, inn, hlen, hin, h0, h1, hB => by
  have hBl := dropL_len l hp
  have em : pre ++ (flatS [] ++ endL a b).map ofP = (pre ++ (endL a b).map ofP) ++ [] := by rw [List.append_nil]; rfl
  have hpl : pre.length ≤ 1000 := by simp at hlen; omega
  have e2 := endL_map_len a b
  have hsz : (dropL l).length = inn + b.size := by
   have := congrArg List.length hB
   rw [List.length_drop] at this
   simp only [byteS, List.flatMap_nil, List.nil_append, bytesOf_length] at this
   omega
  have hz : ∀ i, inn ≤ i → i < inn + b.size → gt 0 (dropL l) i ≠ 0 := fun i i1 i2 => by
   have : gt 0 (dropL l) i ∈ bytesOf b := by
    have e : gt 0 (dropL l) i = gt 0 ((dropL l).drop inn) (i - inn) := by unfold gt; rw [List.getD_eq_getElem?_getD, List.getD_eq_getElem?_getD, List.getElem?_drop]; congr 2; omega
    rw [e, hB]
    exact gt_mem 0 _ _ (by rw [bytesOf_length]; omega)
   exact nb _ this
  rw [em]
  refine ⟨h, h + a.size, rfl, ?_, fun af => ?_⟩
  ·have := gap_group l pre [] a b (at_ : Int) h (inn : Int) (by omega) (by omega) ⟨by omega, by omega⟩ ⟨h0, by omega⟩ (fun c => by
    have := kept_f l hl hp inn (inn + b.size) at_ (by omega) hin hat hz (fun q => by omega)
    rw [show (decide (inn + b.size < at_)) = decide ((inn : Int) + (b.size : Int) < (at_ : Int)) from decide_eq_decide.2 (by omega)] at this
    exact this) (r := (h, h + a.size)) (by
     rw [if_neg (by omega)]
     exact gap_end l _ _ _ _ _ _ (by rw [List.append_nil]; exact Nat.le_refl _) (by rw [List.length_append]; omega))
   exact this
  ·refine mv_group pre [] a b (at_ : Int) h (inn : Int) af (.inl rfl) (by omega) ⟨by omega, by omega⟩ ⟨h0, by omega⟩ ?_
   have : (if (at_ : Int) > (inn : Int) + (b.size : Int) ∨ ((at_ : Int) ≥ (inn : Int) ∧ af = true) then h + (a.size : Int) else h) = (if af = true then h + (a.size : Int) else h) := by
    cases af with
    | true => rw [if_pos (.inr ⟨by omega, rfl⟩), if_pos rfl]
    | false => rw [if_neg (by rintro (q | q); omega; exact absurd q.2 (by simp)), if_neg (by simp)]
   rw [this]
   exact mv_end _ _ _ _ af _ (by rw [List.append_nil]; exact Nat.le_refl _) (by rw [List.length_append]; omega)
 | s :: g, hg, pre, h, inn, hlen, hin, h0, h1, hB => by
  have hBl := dropL_len l hp
  obtain ⟨o1, o2, o3, o4, o5⟩ := hg s (List.mem_cons_self ..)
  obtain ⟨u, v, x⟩ := s
  simp only at o1 o2 o3 o4 o5 hB
  have hpl : pre.length + 3 * g.length + 3 ≤ 1000 := by simp at hlen; omega
  have e2 := endL_map_len u v
  obtain ⟨xn, rfl⟩ := Int.eq_ofNat_of_zero_le (show 0 ≤ x by omega)
  rw [byteS_cons] at hB
  simp only [Int.toNat_natCast] at hB
  rw [List.append_assoc, List.append_assoc] at hB
  have hsz : (dropL l).length ≥ inn + v.size + xn := by
   have := congrArg List.length hB
   rw [List.length_drop] at this
   simp only [List.length_append, List.length_replicate, bytesOf_length] at this
   omega
  have e : ∀ i, inn ≤ i → gt 0 (dropL l) i = gt 0 (bytesOf v ++ (List.replicate xn 0 ++ (byteS g ++ bytesOf b))) (i - inn) := fun i hi => by
   rw [← hB]; unfold gt; rw [List.getD_eq_getElem?_getD, List.getD_eq_getElem?_getD, List.getElem?_drop]; congr 2; omega
  have hz : ∀ i, inn ≤ i → i < inn + v.size → gt 0 (dropL l) i ≠ 0 := fun i i1 i2 => by
   have : gt 0 (dropL l) i ∈ bytesOf v := by
    rw [e i i1, gt_app_lz _ _ _ _ (by rw [bytesOf_length]; omega)]
    exact gt_mem 0 _ _ (by rw [bytesOf_length]; omega)
   exact o3 _ this
  have hk0 : gt 0 (dropL l) (inn + v.size) = 0 := by
   rw [e _ (by omega), show inn + v.size - inn = (bytesOf v).length by rw [bytesOf_length]; omega]
   unfold gt
   rw [List.getD_eq_getElem?_getD, List.getElem?_append_right (Nat.le_refl _), Nat.sub_self, List.getElem?_append_left (by rw [List.length_replicate]; omega), List.getElem?_replicate]
   rw [if_pos (by omega)]; rfl
  have kept : (inn : Int) < (at_ : Int) → Ev (fun k => spec_l5Kept.f k l (inn : Int) (at_ : Int)) (decide ((inn : Int) + (v.size : Int) < (at_ : Int))) := fun c => by
   have := kept_f l hl hp inn (inn + v.size) at_ (by omega) hin hat hz (fun _ => hk0)
   rw [show (decide (inn + v.size < at_)) = decide ((inn : Int) + (v.size : Int) < (at_ : Int)) from decide_eq_decide.2 (by omega)] at this
   exact this
  rw [seg_suf, ← List.append_assoc]
  simp only
  have hpre : (pre ++ (endL u v).map ofP).length ≤ pre.length + 2 := by rw [List.length_append]; omega
  by_cases hc : (inn : Int) + (v.size : Int) < (at_ : Int)
  ·-- the keep counts
   have hout : ∀ af : Bool, (if (at_ : Int) > (inn : Int) + (v.size : Int) ∨ ((at_ : Int) ≥ (inn : Int) ∧ af = true) then h + (u.size : Int) else h) = h + u.size := fun af => by rw [if_pos (.inl hc)]
   have hstep : ∀ n : Int, n = (if (inn : Int) + (v.size : Int) + (xn : Int) > (at_ : Int) then (at_ : Int) - ((inn : Int) + (v.size : Int)) else (xn : Int)) → 0 ≤ n ∧ n ≤ xn := fun n hn => by
    rw [hn]; split <;> omega
   generalize hn : (if (inn : Int) + (v.size : Int) + (xn : Int) > (at_ : Int) then (at_ : Int) - ((inn : Int) + (v.size : Int)) else (xn : Int)) = n at hstep
   obtain ⟨n0, n1⟩ := hstep n rfl
   by_cases hf : inn + v.size + xn ≤ at_
   ·obtain ⟨lo, hi, r0, r1, r2⟩ := move_all l hl hp a b ha hb nb at_ hat g (fun y hy => hg y (List.mem_cons_of_mem _ hy)) ((pre ++ (endL u v).map ofP) ++ [⟨(xn : Int), ⟨#[]⟩, ⟨#[]⟩⟩]) (h + u.size + n) (inn + v.size + xn)
     (by rw [List.length_append, List.length_singleton]; omega) hf (by omega) (by rw [List.length_append, List.length_singleton, List.length_append]; omega) (by
      rw [show inn + v.size + xn = inn + (v.size + xn) by omega, ← List.drop_drop, hB]
      rw [← List.append_assoc, List.drop_append_of_le_length (by rw [List.length_append, List.length_replicate, bytesOf_length]; exact Nat.le_refl _), List.drop_eq_nil_of_le (by rw [List.length_append, List.length_replicate, bytesOf_length]; exact Nat.le_refl _)]
      rfl)
    have en : n = (xn : Int) := by rw [← hn, if_neg (by omega)]
    refine ⟨lo, hi, by rw [gapS, if_pos (show inn + v.size < at_ by omega), if_pos (show inn + v.size + ((xn : Nat) : Int).toNat ≤ at_ by rw [Int.toNat_natCast]; exact hf), Int.toNat_natCast, r0, en], ?_, fun af => ?_⟩
    ·refine gap_group l pre _ u v (at_ : Int) h (inn : Int) (by omega) (by omega) ⟨by omega, by omega⟩ ⟨h0, by omega⟩ kept ?_
     rw [if_pos hc]
     refine gap_keep l _ _ (xn : Int) (by omega) (at_ : Int) _ _ _ hc (by omega) ⟨by omega, by omega⟩ ⟨by omega, by omega⟩ (by omega) ?_
     rw [hn]
     have e5 : (inn : Int) + (v.size : Int) + (xn : Int) = ((inn + v.size + xn : Nat) : Int) := by omega
     rw [e5]
     exact r1
    ·refine mv_group pre _ u v (at_ : Int) h (inn : Int) af (.inr ⟨_, _, rfl⟩) (by omega) ⟨by omega, by omega⟩ ⟨h0, by omega⟩ ?_
     rw [hout af]
     refine mv_keep _ _ (xn : Int) (by omega) (at_ : Int) _ _ af hc (by omega) ⟨by omega, by omega⟩ ⟨by omega, by omega⟩ (by omega) ?_
     rw [hn]
     have e5 : (inn : Int) + (v.size : Int) + (xn : Int) = ((inn + v.size + xn : Nat) : Int) := by omega
     rw [e5]
     exact r2 af
   ·have en : n = (at_ : Int) - ((inn : Int) + (v.size : Int)) := by rw [← hn, if_pos (by omega)]
    refine ⟨h + u.size + n, h + u.size + n, by rw [gapS, if_pos (show inn + v.size < at_ by omega), if_neg (show ¬ inn + v.size + ((xn : Nat) : Int).toNat ≤ at_ by rw [Int.toNat_natCast]; exact hf), en], ?_, fun af => ?_⟩
    ·refine gap_group l pre _ u v (at_ : Int) h (inn : Int) (by omega) (by omega) ⟨by omega, by omega⟩ ⟨h0, by omega⟩ kept ?_
     rw [if_pos hc]
     refine gap_keep l _ _ (xn : Int) (by omega) (at_ : Int) _ _ _ hc (by omega) ⟨by omega, by omega⟩ ⟨by omega, by omega⟩ (by omega) ?_
     rw [hn]
     have hX := endL_map_len a b
     refine gap_far l _ (at_ : Int) _ _ _ (by simp only [List.length_append]; omega) ?_ (by omega)
     simp only [List.length_append, List.length_map, List.length_singleton]
     have hfl : ∀ g : List Seg, (flatS g).length ≤ 3 * g.length := fun g => by
      induction g with
      | nil => exact Nat.le_refl _
      | cons y t iht => rw [flatS_cons, List.length_append, List.length_cons, List.length_cons]; have := endL_len y.1 y.2.1; omega
     have := hfl g
     have := endL_len a b
     have := endL_len u v
     omega
    ·refine mv_group pre _ u v (at_ : Int) h (inn : Int) af (.inr ⟨_, _, rfl⟩) (by omega) ⟨by omega, by omega⟩ ⟨h0, by omega⟩ ?_
     rw [hout af]
     refine mv_keep _ _ (xn : Int) (by omega) (at_ : Int) _ _ af hc (by omega) ⟨by omega, by omega⟩ ⟨by omega, by omega⟩ (by omega) ?_
     rw [hn]
     have : (if af = true then h + (u.size : Int) + n else h + (u.size : Int) + n) = h + (u.size : Int) + n := by split <;> rfl
     rw [this]
     exact far l a b ha hb (at_ : Int) af g (fun y hy => hg y (List.mem_cons_of_mem _ hy)) _ _ _ (by rw [List.length_append, List.length_singleton]; omega) (by omega) (by omega) (by omega) (by omega) (by omega)
  ·-- the place lies within what is dropped, or right at its end
   refine ⟨h, h + u.size, by rw [gapS, if_neg (show ¬ inn + v.size < at_ by omega)], ?_, fun af => ?_⟩
   ·refine gap_group l pre _ u v (at_ : Int) h (inn : Int) (by omega) (by omega) ⟨by omega, by omega⟩ ⟨h0, by omega⟩ kept ?_
    rw [if_neg hc]
    exact gap_break l _ _ ⟨(xn : Int), ⟨#[]⟩, ⟨#[]⟩⟩ (at_ : Int) h (h + u.size) _ (by
     by_cases q : (inn : Int) + (v.size : Int) > (at_ : Int)
     ·exact .inl q
     ·exact .inr ⟨by omega, by show (xn : Int) > 0; omega⟩)
   ·refine mv_group pre _ u v (at_ : Int) h (inn : Int) af (.inr ⟨_, _, rfl⟩) (by omega) ⟨by omega, by omega⟩ ⟨h0, by omega⟩ ?_
    have : (if (at_ : Int) > (inn : Int) + (v.size : Int) ∨ ((at_ : Int) ≥ (inn : Int) ∧ af = true) then h + (u.size : Int) else h) = (if af = true then h + (u.size : Int) else h) := by
     cases af with
     | true => rw [if_pos (.inr ⟨by omega, rfl⟩), if_pos rfl]
     | false => rw [if_neg (by rintro (q | q); omega; exact absurd q.2 (by simp)), if_neg (by simp)]
    rw [this]
    exact mv_stop _ _ (xn : Int) (by omega) (at_ : Int) _ _ af (by omega)
theorem tk_drop : ∀ (l : List IP), (∀ p ∈ l, partB p = true) → ∀ a : Int, 0 ≤ a → a + 600 * (l.length : Int) ≤ 1000000 → tkS l a = a + ((dropL l).length : Int)
 | [], _, a, _, _ => by simp [tkS, dropL]
 | p :: r, hp, a, h0, h1 => by
  obtain ⟨f1, f2, f3, f4, f5⟩ := part_facts (hp p (List.mem_cons_self ..))
  have hl : ((p :: r).length : Int) = (r.length : Int) + 1 := by simp
  have e1 : wrap64 (p.f0 + (p.f2.size : Int)) = p.f0 + p.f2.size := wrap_id (by omega) (by omega)
  have e2 : wrap64 (a + (p.f0 + (p.f2.size : Int))) = a + (p.f0 + p.f2.size) := wrap_id (by omega) (by omega)
  have ih := tk_drop r (fun x hx => hp x (List.mem_cons_of_mem _ hx)) (a + (p.f0 + p.f2.size)) (by omega) (by omega)
  rw [tkS, e1, e2, ih, dropL, List.length_append, List.length_append, List.length_replicate, bytesOf_length]
  omega
theorem gap_low : ∀ (g : List Seg), (∀ x ∈ g, SegOk 60 x) → ∀ (a : ByteArray) (at_ : Nat) (h : Int) (inn : Nat), h ≤ (gapS g a at_ h inn).1 ∧ (gapS g a at_ h inn).1 ≤ (gapS g a at_ h inn).2
 | [], _, a, at_, h, inn => by unfold gapS; dsimp only; omega
 | s :: g, hg, a, at_, h, inn => by
  have hx := (hg s (List.mem_cons_self ..)).pos
  have ih := gap_low g (fun x hx => hg x (List.mem_cons_of_mem _ hx)) a at_ (h + s.1.size + s.2.2) (inn + s.2.1.size + s.2.2.toNat)
  unfold gapS
  split
  ·split
   ·omega
   ·dsimp only; omega
  ·dsimp only; omega
theorem gap_mono : ∀ (g : List Seg), (∀ x ∈ g, SegOk 60 x) → ∀ (a : ByteArray) (p q : Nat) (h : Int) (inn : Nat), p ≤ q → (gapS g a p h inn).1 ≤ (gapS g a q h inn).1 ∧ (gapS g a p h inn).2 ≤ (gapS g a q h inn).2
 | [], _, a, p, q, h, inn, _ => by unfold gapS; dsimp only; omega
 | s :: g, hg, a, p, q, h, inn, hpq => by
  have hx := (hg s (List.mem_cons_self ..)).pos
  have ih := gap_mono g (fun x hx => hg x (List.mem_cons_of_mem _ hx)) a p q (h + s.1.size + s.2.2) (inn + s.2.1.size + s.2.2.toNat) hpq
  have lo := gap_low g (fun x hx => hg x (List.mem_cons_of_mem _ hx)) a q (h + s.1.size + s.2.2) (inn + s.2.1.size + s.2.2.toNat)
  have ep : gapS (s :: g) a p h inn = if inn + s.2.1.size < p then (if inn + s.2.1.size + s.2.2.toNat ≤ p then gapS g a p (h + s.1.size + s.2.2) (inn + s.2.1.size + s.2.2.toNat) else (h + s.1.size + ((p : Int) - ((inn : Int) + s.2.1.size)), h + s.1.size + ((p : Int) - ((inn : Int) + s.2.1.size)))) else (h, h + s.1.size) := rfl
  have eq : gapS (s :: g) a q h inn = if inn + s.2.1.size < q then (if inn + s.2.1.size + s.2.2.toNat ≤ q then gapS g a q (h + s.1.size + s.2.2) (inn + s.2.1.size + s.2.2.toNat) else (h + s.1.size + ((q : Int) - ((inn : Int) + s.2.1.size)), h + s.1.size + ((q : Int) - ((inn : Int) + s.2.1.size)))) else (h, h + s.1.size) := rfl
  rw [ep, eq]
  by_cases c1 : inn + s.2.1.size < p
  ·rw [if_pos c1, if_pos (show inn + s.2.1.size < q by omega)]
   by_cases c2 : inn + s.2.1.size + s.2.2.toNat ≤ p
   ·rw [if_pos c2, if_pos (show inn + s.2.1.size + s.2.2.toNat ≤ q by omega)]; exact ih
   ·rw [if_neg c2]
    by_cases c3 : inn + s.2.1.size + s.2.2.toNat ≤ q
    ·rw [if_pos c3]; dsimp only; omega
    ·rw [if_neg c3]; dsimp only; omega
  ·rw [if_neg c1]
   by_cases d1 : inn + s.2.1.size < q
   ·rw [if_pos d1]
    by_cases c3 : inn + s.2.1.size + s.2.2.toNat ≤ q
    ·rw [if_pos c3]; dsimp only; omega
    ·rw [if_neg c3]; dsimp only; omega
   ·rw [if_neg d1]; dsimp only; omega
def outS : List Seg → Int
 | [] => 0
 | s :: g => s.1.size + s.2.2 + outS g
theorem gap_last : ∀ (g : List Seg), (∀ x ∈ g, SegOk 60 x) → ∀ (a : ByteArray) (p : Nat) (h : Int) (inn : Nat), inn + (byteS g).length ≤ p → (gapS g a p h inn).2 = h + outS g + a.size
 | [], _, a, p, h, inn, _ => by unfold gapS outS; dsimp only; omega
 | s :: g, hg, a, p, h, inn, hp => by
  have hx := (hg s (List.mem_cons_self ..)).pos
  rw [byteS_cons, List.length_append, List.length_append, bytesOf_length, List.length_replicate] at hp
  have ih := gap_last g (fun x hx => hg x (List.mem_cons_of_mem _ hx)) a p (h + s.1.size + s.2.2) (inn + s.2.1.size + s.2.2.toNat) (by omega)
  unfold gapS outS
  rw [if_pos (by omega), if_pos (by omega), ih]
  omega
/-- What a change makes, in bytes. -/
def madeP : List Pt → Int
 | [] => 0
 | q :: r => q.1 + q.2.1.size + madeP r
theorem madeP_app : ∀ a b : List Pt, madeP (a ++ b) = madeP a + madeP b
 | [], b => by rw [List.nil_append, madeP]; omega
 | q :: r, b => by rw [List.cons_append, madeP, madeP, madeP_app r b]; omega
theorem madeP_endL (a b : ByteArray) : madeP (endL a b) = a.size := by
 by_cases ha : a.size = 0
 ·by_cases hb : b.size = 0
  ·rw [endL_00 ha hb]; rw [ha]; rfl
  ·rw [endL_01 ha hb, ha]; rfl
 ·by_cases hb : b.size = 0
  ·rw [endL_10 ha hb]; show (0 : Int) + a.size + 0 = _; omega
  ·rw [endL_11 ha hb]; show (0 : Int) + a.size + ((0 : Int) + ((0 : Nat) : Int) + 0) = _; omega
theorem madeP_one (x : Int) : madeP [(x, (⟨#[]⟩ : ByteArray), (⟨#[]⟩ : ByteArray))] = x := by show x + ((0 : Nat) : Int) + 0 = x; omega
theorem madeP_flat : ∀ g : List Seg, madeP (flatS g) = outS g
 | [] => rfl
 | s :: g => by
  have e : flatS (s :: g) = endL s.1 s.2.1 ++ ([(s.2.2, (⟨#[]⟩ : ByteArray), (⟨#[]⟩ : ByteArray))] ++ flatS g) := flatS_cons s g
  rw [e, madeP_app, madeP_app, madeP_endL, madeP_one, madeP_flat g, outS]; omega
theorem made_step (n : Nat) (l : List IP) (s : List Pt × ByteArray × ByteArray) (g : List Seg) (p : IP) (hn : n ≤ 1000) (h : SegIs n l s g) (hp : One p) :
  madeP (takeP s (toP p)).1 + ((takeP s (toP p)).2.1.size : Int) = madeP s.1 + (s.2.1.size : Int) + (p.f0 + (p.f1.size : Int)) := by
 obtain ⟨L, a, b⟩ := s
 obtain ⟨p0, p1, p2⟩ := p
 obtain ⟨s1, s2, s3, s4, s5, s6, s7⟩ := h
 obtain ⟨q1, q2, q3, q4, q5, q6⟩ := hp
 simp only at s1 s2 s3 s4 s5 s6 s7 q1 q2 q3 q4 q5 q6
 by_cases h0 : p0 = 0
 ·subst h0
  have et : takeP (L, a, b) (toP ⟨0, p1, p2⟩) = (L, a ++ p1, b ++ p2) := rfl
  rw [et]
  dsimp only
  rw [ba_len_app]; omega
 ·obtain ⟨h1, h2⟩ := q5.resolve_left h0
  have hk : keepS L a b p0 = (keepA (L ++ endL a b) p0, ⟨#[]⟩, ⟨#[]⟩) := by unfold keepS; rw [if_neg h0]
  have et : takeP (L, a, b) (toP ⟨p0, p1, p2⟩) = (keepA (L ++ endL a b) p0, ⟨#[]⟩, ⟨#[]⟩) := by
   unfold takeP toP
   simp only [hk]
   rw [ba_nil h1, ba_nil h2, ba_app]
  rw [et]
  dsimp only
  have z0 : (((⟨#[]⟩ : ByteArray).size : Nat) : Int) = 0 := rfl
  rw [z0, h1]
  by_cases hab : a.size = 0 ∧ b.size = 0
  ·obtain ⟨ha, hb⟩ := hab
   have eL : L ++ endL a b = flatS g := by rw [endL_00 ha hb, List.append_nil, s1]
   rw [eL, s1, ha]
   rcases List.eq_nil_or_concat g with e | ⟨g0, s0, e⟩
   ·subst e
    show p0 + ((0 : Nat) : Int) + 0 + 0 = (0 : Int) + ((0 : Nat) : Int) + (p0 + ((0 : Nat) : Int)); omega
   ·subst e
    obtain ⟨u0, v0, k0⟩ := s0
    have o0 := s2 (u0, v0, k0) (by simp)
    have ek : wrap64 (k0 + p0) = k0 + p0 := by have := o0.pos; have := o0.top; simp only at *; exact wrap_id (by omega) (by omega)
    have e9 : flatS (g0.concat (u0, v0, k0)) = (flatS g0 ++ endL u0 v0) ++ [(k0, (⟨#[]⟩ : ByteArray), (⟨#[]⟩ : ByteArray))] := by
     rw [List.concat_eq_append, flatS_app, flatS_cons, List.append_assoc]; rfl
    rw [e9, keepA_app, if_pos o0.pos, ek, madeP_app, madeP_app, madeP_one]
    rw [madeP_app, madeP_app, madeP_one]; omega
  ·rw [keepA_end L a b p0 (by omega), madeP_app, madeP_app, madeP_endL, madeP_one]; omega
def madeI : List IP → Int
 | [] => 0
 | p :: r => p.f0 + p.f1.size + madeI r
theorem madeI_app : ∀ a b : List IP, madeI (a ++ b) = madeI a + madeI b
 | [], b => by rw [List.nil_append, madeI]; omega
 | q :: r, b => by rw [List.cons_append, madeI, madeI, madeI_app r b]; omega
theorem made_all (l : List IP) (hl : l.length ≤ 60) (hp : ∀ p ∈ l, partB p = true) : ∀ i, i ≤ l.length → madeP (stN l i).1 + ((stN l i).2.1.size : Int) = madeI (l.take i)
 | 0, _ => by
  have e0 : stN l 0 = ([], (⟨#[]⟩ : ByteArray), (⟨#[]⟩ : ByteArray)) := rfl
  rw [e0]; rfl
 | i + 1, h => by
  obtain ⟨g, hg⟩ := seg_all l hl hp i (by omega)
  have hm := hp _ (List.getElem_mem (show i < l.length by omega))
  have ih := made_all l hl hp i (by omega)
  have := made_step i (l.take i) (stN l i) g (l[i]'(by omega)) (by omega) hg (part_one hm)
  rw [stN_succ l i (by omega), List.take_succ_eq_append_getElem (by omega), madeI_app, this, ih]
  show _ = madeI (l.take i) + (_ + _ + 0)
  omega
theorem norm_made (l : List IP) (hl : l.length ≤ 60) (hp : ∀ p ∈ l, partB p = true) : madeI (normI l) = madeI l := by
 have h := made_all l hl hp l.length (Nat.le_refl _)
 have e : stN l l.length = (l.map toP).foldl takeP ([], ⟨#[]⟩, ⟨#[]⟩) := by unfold stN; rw [List.take_of_length_le (Nat.le_refl _)]
 rw [List.take_of_length_le (Nat.le_refl _)] at h
 have hm : ∀ L : List Pt, madeI (L.map ofP) = madeP L := fun L => by
  induction L with
  | nil => rfl
  | cons q r ih => rw [List.map_cons, madeI, madeP, ih]; rfl
 unfold normI normP
 rw [← e, hm, madeP_app, madeP_endL]; exact h
theorem mk_made : ∀ (l : List IP), (∀ p ∈ l, partB p = true) → ∀ a : Int, 0 ≤ a → a + 600 * (l.length : Int) ≤ 1000000 → mkS l a = a + madeI l
 | [], _, a, _, _ => by rw [mkS, madeI]; omega
 | p :: r, hp, a, h0, h1 => by
  obtain ⟨f1, f2, f3, f4, f5⟩ := part_facts (hp p (List.mem_cons_self ..))
  have hl : ((p :: r).length : Int) = (r.length : Int) + 1 := by simp
  have e1 : wrap64 (p.f0 + (p.f1.size : Int)) = p.f0 + p.f1.size := wrap_id (by omega) (by omega)
  have e2 : wrap64 (a + (p.f0 + (p.f1.size : Int))) = a + (p.f0 + p.f1.size) := wrap_id (by omega) (by omega)
  have ih := mk_made r (fun x hx => hp x (List.mem_cons_of_mem _ hx)) (a + (p.f0 + p.f1.size)) (by omega) (by omega)
  rw [mkS, e1, e2, ih, madeI]; omega
abbrev LM := S64
abbrev IM := S67
def cvM (x : LM) : IM := ⟨x.f0, x.f1, x.f2⟩
def lzM : LM := z64
def izM : IM := z67
theorem rd_lm (l : List LM) (i : Nat) : rd_T64 l (i : Int) = gt lzM l i := rfl
theorem rd_im (l : List IM) (i : Nat) : rd_T67 l (i : Int) = gt izM l i := rfl
def szM (l : List LM) : List Nat := l.map (fun x => x.f2.size)
theorem laws_szMarkS_l (l : List LM) (hl : l.length ≤ 1048576) (hw : ∀ x ∈ l, x.f2.size ≤ 9223372036854775807) (d : Nat) :
  ∀ (i : Nat) (left : Int), i + d = l.length → 0 ≤ left → left ≤ 1048576 → Ev (fun k => laws_szMarkS.l0 k l left (i : Int)) (szF left (szM (l.drop i))) := by
 induction d with
 | zero =>
  intro i left hi h0 h1
  refine Ev.step (fun k => by rw [laws_szMarkS.l0]) ?_
  refine ev_neg (by omega) (ev_ret ?_)
  rw [List.drop_eq_nil_of_le (by omega)]; rfl
 | succ d ih =>
  intro i left hi h0 h1
  have hm := hw _ (gt_mem lzM l i (by omega))
  refine Ev.step (fun k => by rw [laws_szMarkS.l0]) ?_
  refine ev_pos (by omega) (ev_pos (by omega) ?_)
  rw [gt_drop lzM l i (by omega), rd_lm]
  generalize gt lzM l i = m at hm ⊢
  have e : wrap64 (left - (m.f2.size : Int)) = left - (m.f2.size : Int) := wrap_id (by omega) (by omega)
  show Ev _ (if left - (m.f2.size : Int) < 0 then -1 else szF (left - (m.f2.size : Int)) (szM (l.drop (i + 1))))
  by_cases c : left - (m.f2.size : Int) < 0
  ·rw [if_pos c]
   refine ev_eq (a := -1) (by unfold laws_szMark.f; rw [e, if_pos c]) (ev_pos (by omega) (ev_ret rfl))
  ·rw [if_neg c]
   refine ev_eq (a := left - (m.f2.size : Int)) (by unfold laws_szMark.f; rw [e, if_neg c]) (ev_neg (by omega) ?_)
   rw [wrap_succ i (by omega)]
   exact ih (i + 1) _ (by omega) (by omega) (by omega)
theorem laws_toMarkS_l (l : List LM) (hl : l.length ≤ 1048576) (d : Nat) :
  ∀ i : Nat, i + d = l.length → Ev (fun k => laws_toMarkS.l0 k l ((l.take i).map cvM ++ List.replicate (l.length - i) izM) (i : Int)) (l.map cvM) := by
 induction d with
 | zero =>
  intro i hi
  refine Ev.step (fun k => by rw [laws_toMarkS.l0]) ?_
  refine ev_neg (by omega) (ev_ret ?_)
  have : l.length - i = 0 := by omega
  rw [List.take_of_length_le (by omega), this]; simp
 | succ d ih =>
  intro i hi
  refine Ev.step (fun k => by rw [laws_toMarkS.l0]) ?_
  refine ev_pos (by omega) (ev_pos (by omega) (ev_eq rfl (ev_pos (by simp; omega) ?_)))
  rw [wrap_succ i (by omega)]
  have ih' := ih (i + 1) (by omega)
  have e : ((l.take i).map cvM ++ List.replicate (l.length - i) izM).set (i : Int).toNat (⟨(rd_T64 l (i : Int)).f0, (rd_T64 l (i : Int)).f1, (rd_T64 l (i : Int)).f2⟩ : IM) = (l.take (i + 1)).map cvM ++ List.replicate (l.length - (i + 1)) izM := by
   rw [Int.toNat_natCast, set_next _ _ _ _ _ (by simp; omega) (by omega), rd_lm, gt_take lzM l i (by omega), List.map_append]
   rfl
  exact e ▸ ih'
theorem laws_toMarkS_f (l : List LM) (hl : l.length ≤ 1048576) : Ev (fun k => laws_toMarkS.f k l) (l.map cvM) := by
 unfold laws_toMarkS.f
 refine ev_pos (by omega) (ev_pos (by omega) ?_)
 exact laws_toMarkS_l l hl l.length 0 (by omega)
theorem laws_eqMark_self (m : IM) : laws_eqMark.f m.f0 m.f1 m.f2 m.f0 m.f1 m.f2 = some true := by
 unfold laws_eqMark.f; rw [if_pos rfl]; rw [if_pos rfl]; rw [if_pos rfl]
theorem laws_eqMarkS_l (l : List IM) (hl : l.length ≤ 4611686018427387904) (d : Nat) : ∀ i : Nat, i + d = l.length → Ev (fun k => laws_eqMarkS.l0 k l l (i : Int)) true := by
 induction d with
 | zero => exact fun i hi => Ev.step (fun k => by rw [laws_eqMarkS.l0]) (ev_neg (by omega) (ev_ret rfl))
 | succ d ih =>
  intro i hi
  refine Ev.step (fun k => by rw [laws_eqMarkS.l0]) ?_
  refine ev_pos (by omega) (ev_pos (by omega) (ev_pos (by omega) (ev_eq (laws_eqMark_self _) (ev_pos rfl ?_))))
  rw [wrap_succ i (by omega)]
  exact ih (i + 1) (by omega)
theorem laws_eqMarkS_f (l : List IM) (hl : l.length ≤ 4611686018427387904) : Ev (fun k => laws_eqMarkS.f k l l) true := by
 unfold laws_eqMarkS.f
 exact ev_pos rfl (laws_eqMarkS_l l hl l.length 0 (by omega))
def styleB (l : List Int) : Bool := l.all (fun c => decide (97 ≤ c ∧ c ≤ 122)) && decide (1 ≤ l.length ∧ l.length ≤ 8)
theorem spec_l5Style_l (s : ByteArray) (hs : s.size ≤ 140737488351232) (d : Nat) : ∀ i : Nat, i + d = s.size →
  Ev (fun k => spec_l5Style.l0 k s (i : Int)) (((bytesOf s).drop i).all (fun c => decide (97 ≤ c ∧ c ≤ 122)) && decide (1 ≤ s.size ∧ s.size ≤ 8)) := by
 induction d with
 | zero =>
  intro i hi
  refine Ev.step (fun k => by rw [spec_l5Style.l0]) ?_
  refine ev_neg (by omega) (ev_eq (spec_l1In_f _ _ _) (ev_ret ?_))
  rw [drop_end s i (by omega), List.all_nil, Bool.true_and]; exact decide_eq_decide.2 (by omega)
 | succ d ih =>
  intro i hi
  refine Ev.step (fun k => by rw [spec_l5Style.l0]) ?_
  refine ev_pos (by omega) (ev_pos (by omega) ?_)
  rw [drop_bytes s i (by omega), wrap_succ i (by omega), List.all_cons]
  refine ev_if (fun h => ev_ret ?_) (fun h => ev_if (fun h2 => ev_ret ?_) (fun h2 => ev_val (ih (i + 1) (by omega)) ?_))
  ·have : decide (97 ≤ bt s (i : Int) ∧ bt s (i : Int) ≤ 122) = false := decide_eq_false (by omega)
   rw [this]; rfl
  ·have : decide (97 ≤ bt s (i : Int) ∧ bt s (i : Int) ≤ 122) = false := decide_eq_false (by omega)
   rw [this]; rfl
  ·have : decide (97 ≤ bt s (i : Int) ∧ bt s (i : Int) ≤ 122) = true := decide_eq_true (by omega)
   rw [this, Bool.true_and]
theorem spec_l5Style_f (s : ByteArray) (hs : s.size ≤ 140737488351232) : Ev (fun k => spec_l5Style.f k s) (styleB (bytesOf s)) := by
 unfold spec_l5Style.f styleB
 rw [bytesOf_length]
 exact spec_l5Style_l s hs s.size 0 (by omega)
theorem impl_isStyle_l (s : ByteArray) (hs : s.size ≤ 140737488351232) (d : Nat) : ∀ i : Nat, i + d = s.size →
  Ev (fun k => impl_isStyle.l0 k s (s.size : Int) (i : Int)) (((bytesOf s).drop i).all (fun c => decide (97 ≤ c ∧ c ≤ 122)) && decide (1 ≤ s.size ∧ s.size ≤ 8)) := by
 induction d with
 | zero =>
  intro i hi
  refine Ev.step (fun k => by rw [impl_isStyle.l0]) ?_
  refine ev_neg (by omega) ?_
  rw [drop_end s i (by omega)]
  have hz : s.toList = ([] : List UInt8) ↔ s.size = 0 := by
   rw [← List.length_eq_zero_iff]
   have := data_length s
   rw [ByteArray.toList_eq, this]
  refine ev_if (fun h => ev_ret ?_) (fun h => ev_ret ?_)
  ·rw [hz] at h; simp [h]
  ·rw [hz] at h
   rw [List.all_nil, Bool.true_and]; exact decide_eq_decide.2 (by omega)
 | succ d ih =>
  intro i hi
  refine Ev.step (fun k => by rw [impl_isStyle.l0]) ?_
  refine ev_pos (by omega) (ev_pos (by omega) (ev_pos (by omega) ?_))
  rw [drop_bytes s i (by omega), wrap_succ i (by omega), List.all_cons]
  refine ev_if (fun h => ev_ret ?_) (fun h => ev_if (fun h2 => ev_ret ?_) (fun h2 => ev_val (ih (i + 1) (by omega)) ?_))
  ·have : decide (97 ≤ bt s (i : Int) ∧ bt s (i : Int) ≤ 122) = false := decide_eq_false (by omega)
   rw [this]; rfl
  ·have : decide (97 ≤ bt s (i : Int) ∧ bt s (i : Int) ≤ 122) = false := decide_eq_false (by omega)
   rw [this]; rfl
  ·have : decide (97 ≤ bt s (i : Int) ∧ bt s (i : Int) ≤ 122) = true := decide_eq_true (by omega)
   rw [this, Bool.true_and]
theorem impl_isStyle_f (s : ByteArray) (hs : s.size ≤ 140737488351232) : Ev (fun k => impl_isStyle.f k s) (styleB (bytesOf s)) := by
 unfold impl_isStyle.f styleB
 rw [bytesOf_length]
 exact impl_isStyle_l s hs s.size 0 (by omega)
def markB (m : IM) (size : Int) : Bool := styleB (bytesOf m.f2) && decide (0 ≤ m.f0 ∧ m.f0 < m.f1 ∧ m.f1 ≤ size)
theorem spec_l5Mark_f (m : IM) (size : Int) (hs : m.f2.size ≤ 140737488351232) : Ev (fun k => spec_l5Mark.f k m.f0 m.f1 m.f2 size) (markB m size) := by
 unfold spec_l5Mark.f markB
 refine Ev.bind (spec_l5Style_f _ hs) (ev_if (fun h => ?_) (fun h => ev_ret (by simp at h; simp [h])))
 rw [h, Bool.true_and]
 refine ev_if (fun h0 => ev_if (fun h1 => ev_ret ?_) (fun h1 => ev_ret ?_)) (fun h0 => ev_ret ?_)
 ·exact decide_eq_decide.2 (by omega)
 ·symm; exact decide_eq_false (by omega)
 ·symm; exact decide_eq_false (by omega)
theorem impl_isMark_f (m : IM) (size : Int) (hs : m.f2.size ≤ 140737488351232) : Ev (fun k => impl_isMark.f k m.f0 m.f1 m.f2 size) (markB m size) := by
 unfold impl_isMark.f markB
 refine ev_if (fun h0 => ev_if (fun h1 => ev_if (fun h2 => Ev.bind (impl_isStyle_f _ hs) (ev_ret ?_)) (fun h2 => ev_ret ?_)) (fun h1 => ev_ret ?_)) (fun h0 => ev_ret ?_)
 ·rw [decide_eq_true (show 0 ≤ m.f0 ∧ m.f0 < m.f1 ∧ m.f1 ≤ size by omega), Bool.and_true]
 all_goals (symm; rw [decide_eq_false (show ¬ (0 ≤ m.f0 ∧ m.f0 < m.f1 ∧ m.f1 ≤ size) by omega), Bool.and_false])
def pairB (a m : IM) : Bool := !(Op.bytesLess m.f2.toList a.f2.toList) && !(decide (a.f2.toList = m.f2.toList) && decide (a.f1 ≥ m.f0))
def goodL (size : Int) : Option IM → List IM → Bool
 | _, [] => true
 | p, m :: r => markB m size && ((match p with | none => true | some a => pairB a m) && goodL size (some m) r)
def prevAt (l : List IM) (i : Nat) : Option IM := if i = 0 then none else some (gt izM l (i - 1))
def goodM (l : List IM) (size : Int) : Bool := goodL size none l && (decide (l.length ≤ 40) && decide (0 ≤ size ∧ size ≤ 300))
theorem spec_GoodMarks_l (l : List IM) (size : Int) (hl : l.length ≤ 1048576) (hw : ∀ x ∈ l, x.f2.size ≤ 1048576) (d : Nat) : ∀ i : Nat, i + d = l.length →
  Ev (fun k => spec_GoodMarks.l0 k l size l (l.length : Int) (i : Int)) (goodL size (prevAt l i) (l.drop i) && (decide (l.length ≤ 40) && decide (0 ≤ size ∧ size ≤ 300))) := by
 induction d with
 | zero =>
  intro i hi
  refine Ev.step (fun k => by rw [spec_GoodMarks.l0]) ?_
  refine ev_neg (by omega) ?_
  rw [List.drop_eq_nil_of_le (by omega)]
  refine ev_if (fun h => ev_eq (spec_l1In_f _ _ _) (ev_ret ?_)) (fun h => ev_ret ?_)
  ·simp [goodL]; omega
  ·simp [goodL]; omega
 | succ d ih =>
  intro i hi
  have hm := hw _ (gt_mem izM l i (by omega))
  refine Ev.step (fun k => by rw [spec_GoodMarks.l0]) ?_
  refine ev_pos (by omega) (ev_pos (by omega) (ev_pos (by omega) ?_))
  rw [gt_drop izM l i (by omega), wrap_succ i (by omega)]
  have ih' := ih (i + 1) (by omega)
  rw [show prevAt l (i + 1) = some (gt izM l i) by simp [prevAt]] at ih'
  simp only [rd_im]
  refine Ev.bind (spec_l5Mark_f _ size (by omega)) (ev_if (fun h => ?_) (fun h => ev_ret (by simp at h; simp [goodL, h])))
  by_cases hi0 : i = 0
  ·subst hi0
   refine ev_neg (by omega) (ev_val ih' ?_)
   simp [goodL, h, prevAt]
  ·have ew : wrap64 ((i : Int) - 1) = ((i - 1 : Nat) : Int) := by unfold wrap64; omega
   rw [ew]
   refine ev_pos (by omega) (ev_pos (by omega) (ev_pos (by omega) ?_))
   simp only [rd_im]
   rw [show prevAt l i = some (gt izM l (i - 1)) by simp [prevAt, hi0]]
   refine ev_if (fun h1 => ev_ret ?_) (fun h1 => ?_)
   ·have hp : pairB (gt izM l (i - 1)) (gt izM l i) = false := by unfold pairB; rw [h1]; rfl
    simp [goodL, hp]
   simp only [Bool.not_eq_true] at h1
   refine ev_if (fun h2 => ev_if (fun h3 => ev_ret ?_) (fun h3 => ev_val ih' ?_)) (fun h2 => ev_val ih' ?_)
   ·have hp : pairB (gt izM l (i - 1)) (gt izM l i) = false := by unfold pairB; rw [h1, decide_eq_true h2, decide_eq_true h3]; rfl
    simp [goodL, hp]
   ·have hp : pairB (gt izM l (i - 1)) (gt izM l i) = true := by unfold pairB; rw [h1, decide_eq_true h2, decide_eq_false h3]; rfl
    simp [goodL, h, hp]
   ·have hp : pairB (gt izM l (i - 1)) (gt izM l i) = true := by unfold pairB; rw [h1, decide_eq_false h2]; rfl
    simp [goodL, h, hp]
theorem spec_GoodMarks_f (l : List IM) (size : Int) (hl : l.length ≤ 1048576) (hw : ∀ x ∈ l, x.f2.size ≤ 1048576) : Ev (fun k => spec_GoodMarks.f k l size) (goodM l size) := by
 unfold spec_GoodMarks.f
 exact spec_GoodMarks_l l size hl hw l.length 0 (by omega)
theorem impl_GoodMarks_l (l : List IM) (size : Int) (hl : l.length ≤ 1048576) (hw : ∀ x ∈ l, x.f2.size ≤ 1048576) (d : Nat) : ∀ i : Nat, i + d = l.length →
  Ev (fun k => impl_GoodMarks.l0 k l size l (l.length : Int) (i : Int)) (goodL size (prevAt l i) (l.drop i)) := by
 induction d with
 | zero =>
  intro i hi
  refine Ev.step (fun k => by rw [impl_GoodMarks.l0]) ?_
  refine ev_neg (by omega) (ev_ret ?_)
  rw [List.drop_eq_nil_of_le (by omega)]; simp [goodL]
 | succ d ih =>
  intro i hi
  have hm := hw _ (gt_mem izM l i (by omega))
  refine Ev.step (fun k => by rw [impl_GoodMarks.l0]) ?_
  refine ev_pos (by omega) (ev_pos (by omega) (ev_pos (by omega) ?_))
  rw [gt_drop izM l i (by omega), wrap_succ i (by omega)]
  have ih' := ih (i + 1) (by omega)
  rw [show prevAt l (i + 1) = some (gt izM l i) by simp [prevAt]] at ih'
  simp only [rd_im]
  refine Ev.bind (impl_isMark_f _ size (by omega)) (ev_if (fun h => ?_) (fun h => ev_ret (by simp at h; simp [goodL, h])))
  by_cases hi0 : i = 0
  ·subst hi0
   refine ev_neg (by omega) (ev_val ih' ?_)
   simp [goodL, h, prevAt]
  ·have ew : wrap64 ((i : Int) - 1) = ((i - 1 : Nat) : Int) := by unfold wrap64; omega
   rw [ew]
   refine ev_pos (by omega) (ev_pos (by omega) (ev_pos (by omega) ?_))
   simp only [rd_im]
   rw [show prevAt l i = some (gt izM l (i - 1)) by simp [prevAt, hi0]]
   refine ev_if (fun h1 => ev_ret ?_) (fun h1 => ?_)
   ·have hp : pairB (gt izM l (i - 1)) (gt izM l i) = false := by unfold pairB; rw [h1]; rfl
    simp [goodL, hp]
   simp only [Bool.not_eq_true] at h1
   refine ev_if (fun h2 => ev_if (fun h3 => ev_ret ?_) (fun h3 => ev_val ih' ?_)) (fun h2 => ev_val ih' ?_)
   ·have hp : pairB (gt izM l (i - 1)) (gt izM l i) = false := by unfold pairB; rw [h1, decide_eq_true h2, decide_eq_true h3]; rfl
    simp [goodL, hp]
   ·have hp : pairB (gt izM l (i - 1)) (gt izM l i) = true := by unfold pairB; rw [h1, decide_eq_true h2, decide_eq_false h3]; rfl
    simp [goodL, h, hp]
   ·have hp : pairB (gt izM l (i - 1)) (gt izM l i) = true := by unfold pairB; rw [h1, decide_eq_false h2]; rfl
    simp [goodL, h, hp]
theorem impl_GoodMarks_f (l : List IM) (size : Int) (hl : l.length ≤ 1048576) (hw : ∀ x ∈ l, x.f2.size ≤ 1048576) : Ev (fun k => impl_GoodMarks.f k l size) (goodM l size) := by
 unfold impl_GoodMarks.f
 have hj : ∀ b : Bool, (b = true → goodM l size = false) → (b = false → goodM l size = goodL size none l) → Ev (fun k => impl_GoodMarks.j0 k l size b) (goodM l size) := by
  intro b hb1 hb2
  refine Ev.step (fun k => by rw [impl_GoodMarks.j0]) ?_
  refine ev_if (fun h => ev_ret (hb1 h).symm) (fun h => ?_)
  simp only [Bool.not_eq_true] at h
  rw [hb2 h]
  exact impl_GoodMarks_l l size hl hw l.length 0 (by omega)
 refine ev_if (fun h => hj _ (fun _ => ?_) (fun h2 => by cases h2)) (fun h => ev_if (fun h1 => hj _ (fun _ => ?_) (fun h2 => by cases h2)) (fun h1 => hj _ (fun h2 => ?_) (fun h2 => ?_)))
 ·unfold goodM; rw [decide_eq_false (show ¬ (0 ≤ size ∧ size ≤ 300) by omega)]; simp
 ·unfold goodM; rw [decide_eq_false (show ¬ (0 ≤ size ∧ size ≤ 300) by omega)]; simp
 ·have h3 := of_decide_eq_true h2
  unfold goodM; rw [decide_eq_false (show ¬ (l.length ≤ 40) by omega)]; simp
 ·have h3 := of_decide_eq_false h2
  unfold goodM; rw [decide_eq_true (show l.length ≤ 40 by omega), decide_eq_true (show 0 ≤ size ∧ size ≤ 300 by omega)]; simp
theorem goodM_size {l : List IM} {size : Int} (h : goodM l size = true) : l.length ≤ 40 ∧ 0 ≤ size ∧ size ≤ 300 := by
 unfold goodM at h
 simp only [Bool.and_eq_true, decide_eq_true_eq] at h
 omega
theorem pairB_iff (a m : IM) : pairB a m = true ↔ Op.bytesLess m.f2.toList a.f2.toList = false ∧ (a.f2.toList = m.f2.toList → a.f1 < m.f0) := by
 unfold pairB
 simp only [Bool.and_eq_true, Bool.not_eq_true', Bool.and_eq_false_iff, decide_eq_false_iff_not]
 refine and_congr_right fun _ => ⟨fun h e => ?_, fun h => ?_⟩
 ·rcases h with h | h
  ·exact absurd e h
  ·omega
 ·by_cases e : a.f2.toList = m.f2.toList
  ·right; have := h e; omega
  ·left; exact e
theorem markB_iff (m : IM) (size : Int) : markB m size = true ↔ styleB (bytesOf m.f2) = true ∧ 0 ≤ m.f0 ∧ m.f0 < m.f1 ∧ m.f1 ≤ size := by
 unfold markB; simp only [Bool.and_eq_true, decide_eq_true_eq]
def okB2 : Option IM → IM → Prop
 | none, _ => True
 | some a, m => pairB a m = true
theorem goodL_cons (size : Int) (p : Option IM) (m : IM) (r : List IM) : goodL size p (m :: r) = true ↔ markB m size = true ∧ okB2 p m ∧ goodL size (some m) r = true := by
 cases p <;> simp [goodL, okB2]
/-- Marks by themselves: from, to and a style of a strict order. -/
structure MkO (σ : Type) where
 f : Int
 t : Int
 s : σ
section MarkJoin
variable {σ : Type} [DecidableEq σ] (lt : σ → σ → Prop) [DecidableRel lt]
/-- One mark ahead of another, apart. -/
def SepM (a b : MkO σ) : Prop := lt a.s b.s ∨ (a.s = b.s ∧ a.t < b.f)
def KleM (a b : MkO σ) : Prop := lt a.s b.s ∨ (a.s = b.s ∧ a.f ≤ b.f)
def GoodLM : List (MkO σ) → Prop
 | [] => True
 | [a] => a.f < a.t
 | a :: b :: l => a.f < a.t ∧ SepM lt a b ∧ GoodLM (b :: l)
def jn : MkO σ → List (MkO σ) → List (MkO σ)
 | a, [] => [a]
 | a, m :: l => if a.s = m.s ∧ m.f ≤ a.t then jn ⟨a.f, max a.t m.t, a.s⟩ l else a :: jn m l
def jnL : List (MkO σ) → List (MkO σ)
 | [] => []
 | m :: l => jn m l
def addF : Bool → List (MkO σ) → MkO σ → List (MkO σ)
 | put, [], m => if put then [] else [m]
 | put, x :: l, m =>
  if lt x.s m.s ∨ (x.s = m.s ∧ x.t < m.f) then x :: addF put l m
  else if lt m.s x.s ∨ x.f > m.t then (if put then x :: addF put l m else m :: x :: addF true l m)
  else addF put l ⟨min m.f x.f, max m.t x.t, m.s⟩
omit [DecidableEq σ] [DecidableRel lt] in
theorem good_tail {a : MkO σ} {l : List (MkO σ)} (h : GoodLM lt (a :: l)) : GoodLM lt l ∧ a.f < a.t := by
 cases l with
 | nil => exact ⟨trivial, h⟩
 | cons b l => exact ⟨h.2.2, h.1⟩
omit [DecidableEq σ] [DecidableRel lt] in
theorem sep_trans (htr : ∀ a b c, lt a b → lt b c → lt a c) {a b c : MkO σ} (h1 : SepM lt a b) (hb : b.f < b.t) (h2 : SepM lt b c) : SepM lt a c := by
 unfold SepM at *
 rcases h1 with h1 | ⟨e1, h1⟩
 ·rcases h2 with h2 | ⟨e2, h2⟩
  ·exact .inl (htr _ _ _ h1 h2)
  ·exact .inl (e2 ▸ h1)
 ·rcases h2 with h2 | ⟨e2, h2⟩
  ·exact .inl (e1 ▸ h2)
  ·exact .inr ⟨e1.trans e2, by omega⟩
omit [DecidableEq σ] [DecidableRel lt] in
theorem good_all (htr : ∀ a b c, lt a b → lt b c → lt a c) : ∀ (l : List (MkO σ)) (a : MkO σ), GoodLM lt (a :: l) → ∀ x ∈ l, SepM lt a x
 | [], _, _, x, hx => by cases hx
 | b :: l, a, h, x, hx => by
  rcases List.mem_cons.1 hx with rfl | hx
  ·exact h.2.1
  ·exact sep_trans lt htr h.2.1 (good_tail lt h.2.2).2 (good_all htr l b h.2.2 x hx)
omit [DecidableRel lt] in
theorem jn_good : ∀ (l : List (MkO σ)) (a : MkO σ), (hir : ∀ s, ¬ lt s s) → GoodLM lt (a :: l) → jn a l = a :: l
 | [], _, _, _ => rfl
 | b :: l, a, hir, h => by
  have : ¬ (a.s = b.s ∧ b.f ≤ a.t) := fun q => by
   rcases h.2.1 with z | ⟨_, z⟩
   ·exact hir _ (q.1 ▸ z)
   ·omega
  unfold jn
  rw [if_neg this, jn_good l b hir h.2.2]
theorem addF_true : ∀ (l : List (MkO σ)) (m : MkO σ), (∀ x ∈ l, lt m.s x.s ∨ x.f > m.t) → addF lt true l m = l
 | [], _, _ => rfl
 | x :: l, m, h => by
  have ih := addF_true l m (fun y hy => h y (List.mem_cons_of_mem _ hy))
  unfold addF
  split
  ·rw [ih]
  ·rw [if_pos (h x (List.mem_cons_self ..)), if_pos rfl, ih]
theorem jn_add (htr : ∀ a b c, lt a b → lt b c → lt a c) (hir : ∀ s, ¬ lt s s) : ∀ (l : List (MkO σ)) (m : MkO σ), m.f < m.t → GoodLM lt l → (∀ x ∈ l, KleM lt m x) → jn m l = addF lt false l m
 | [], m, _, _, _ => rfl
 | x :: l, m, hm, hg, hk => by
  obtain ⟨hg2, hx⟩ := good_tail lt hg
  have hall := good_all lt htr l x hg
  have hj := jn_good lt l x hir hg
  rcases hk x (List.mem_cons_self ..) with h | ⟨e, h⟩
  ·have n1 : ¬ (lt x.s m.s ∨ (x.s = m.s ∧ x.t < m.f)) := by
    rintro (q | ⟨q, _⟩)
    ·exact hir _ (htr _ _ _ h q)
    ·exact hir _ (q ▸ h)
   have n2 : ¬ (m.s = x.s ∧ x.f ≤ m.t) := fun q => hir _ (q.1 ▸ h)
   unfold jn addF
   rw [if_neg n1, if_neg n2, if_pos (.inl h), if_neg (by simp), hj, addF_true lt l m]
   intro y hy
   rcases hall y hy with q | ⟨q, _⟩
   ·exact .inl (htr _ _ _ h q)
   ·exact .inl (q ▸ h)
  ·have n1 : ¬ (lt x.s m.s ∨ (x.s = m.s ∧ x.t < m.f)) := by
    rintro (q | ⟨_, q⟩)
    ·exact hir _ (e ▸ q)
    ·omega
   by_cases c : x.f ≤ m.t
   ·have n2 : ¬ (lt m.s x.s ∨ x.f > m.t) := by
     rintro (q | q)
     ·exact hir _ (e ▸ q)
     ·omega
    unfold jn addF
    rw [if_neg n1, if_pos ⟨e, c⟩, if_neg n2]
    have e1 : min m.f x.f = m.f := by omega
    rw [e1]
    exact jn_add htr hir l ⟨m.f, max m.t x.t, m.s⟩ (by show m.f < max m.t x.t; omega) hg2 (fun y hy => by
     rcases hall y hy with q | ⟨q, q2⟩
     ·exact .inl (by show lt m.s y.s; rw [e]; exact q)
     ·exact .inr ⟨by show m.s = y.s; rw [e]; exact q, by show m.f ≤ y.f; omega⟩)
   ·unfold jn addF
    rw [if_neg n1, if_neg (fun q => c q.2), if_pos (.inr (by omega)), if_neg (by simp), hj, addF_true lt l m]
    intro y hy
    rcases hall y hy with q | ⟨q, q2⟩
    ·exact .inl (by rw [e]; exact q)
    ·exact .inr (by omega)
/-- A mark set into good marks by its key, then what touches joined: that is the mark added. -/
theorem join_add (htr : ∀ a b c, lt a b → lt b c → lt a c) (hir : ∀ s, ¬ lt s s) (m : MkO σ) (hm : m.f < m.t) (l2 : List (MkO σ)) : ∀ l1 : List (MkO σ), GoodLM lt (l1 ++ l2) → (∀ x ∈ l1, KleM lt x m) → (∀ x ∈ l2, KleM lt m x) → jnL (l1 ++ m :: l2) = addF lt false (l1 ++ l2) m
 | [], hg, _, h2 => jn_add lt htr hir l2 m hm hg h2
 | [a], hg, h1, h2 => by
  obtain ⟨hg2, ha⟩ := good_tail lt (show GoodLM lt (a :: l2) from hg)
  have hall := good_all lt htr l2 a hg
  show jn a (m :: l2) = addF lt false (a :: l2) m
  rcases h1 a (List.mem_cons_self ..) with h | ⟨e, h⟩
  ·unfold jn addF
   rw [if_neg (fun q => hir _ (q.1 ▸ h)), if_pos (.inl h), jn_add lt htr hir l2 m hm hg2 h2]
  ·by_cases c : m.f ≤ a.t
   ·have n1 : ¬ (lt a.s m.s ∨ (a.s = m.s ∧ a.t < m.f)) := by
     rintro (q | ⟨_, q⟩)
     ·exact hir _ (e ▸ q)
     ·omega
    have n2 : ¬ (lt m.s a.s ∨ a.f > m.t) := by
     rintro (q | q)
     ·exact hir _ (e ▸ q)
     ·omega
    unfold jn addF
    rw [if_pos ⟨e, c⟩, if_neg n1, if_neg n2]
    have e1 : min m.f a.f = a.f := by omega
    have e2 : max m.t a.t = max a.t m.t := by omega
    rw [e1, e2, ← e]
    exact jn_add lt htr hir l2 ⟨a.f, max a.t m.t, a.s⟩ (by show a.f < max a.t m.t; omega) hg2 (fun y hy => by
     rcases hall y hy with q | ⟨q, q2⟩
     ·exact .inl q
     ·exact .inr ⟨q, by show a.f ≤ y.f; omega⟩)
   ·unfold jn addF
    rw [if_neg (fun q => c q.2), if_pos (.inr ⟨e, by omega⟩), jn_add lt htr hir l2 m hm hg2 h2]
 | a :: b :: l1, hg, h1, h2 => by
  have hg' : GoodLM lt (a :: b :: (l1 ++ l2)) := hg
  have ih := join_add htr hir m hm l2 (b :: l1) hg'.2.2 (fun x hx => h1 x (List.mem_cons_of_mem _ hx)) h2
  have hab : ¬ (a.s = b.s ∧ b.f ≤ a.t) := fun q => by
   rcases hg'.2.1 with z | ⟨_, z⟩
   ·exact hir _ (q.1 ▸ z)
   ·omega
  have ham : lt a.s m.s ∨ (a.s = m.s ∧ a.t < m.f) := by
   rcases h1 b (by simp) with q | ⟨q, q2⟩
   ·rcases hg'.2.1 with z | ⟨z, _⟩
    ·exact .inl (htr _ _ _ z q)
    ·exact .inl (z ▸ q)
   ·rcases hg'.2.1 with z | ⟨z, z2⟩
    ·exact .inl (q ▸ z)
    ·exact .inr ⟨z.trans q, by omega⟩
  show jn a (b :: (l1 ++ m :: l2)) = addF lt false (a :: (b :: (l1 ++ l2))) m
  have ih' : jn b (l1 ++ m :: l2) = addF lt false (b :: (l1 ++ l2)) m := ih
  rw [show jn a (b :: (l1 ++ m :: l2)) = a :: jn b (l1 ++ m :: l2) from by rw [jn, if_neg hab], ih', show addF lt false (a :: (b :: (l1 ++ l2))) m = a :: addF lt false (b :: (l1 ++ l2)) m from by rw [addF, if_pos ham]]
omit [DecidableEq σ] [DecidableRel lt] in
theorem good_pair (htr : ∀ a b c, lt a b → lt b c → lt a c) : ∀ (l : List (MkO σ)), GoodLM lt l → l.Pairwise (fun a b => SepM lt a b ∧ a.f < a.t)
 | [], _ => List.Pairwise.nil
 | a :: l, h => List.Pairwise.cons (fun x hx => ⟨good_all lt htr l a h x hx, (good_tail lt h).2⟩) (good_pair htr l (good_tail lt h).1)
omit [DecidableEq σ] [DecidableRel lt] in
theorem pair_kle : ∀ (l : List (MkO σ)), l.Pairwise (fun a b => SepM lt a b ∧ a.f < a.t) → l.Pairwise (KleM lt) := fun l h =>
 h.imp (fun {a b} q => by
  rcases q.1 with z | ⟨z, z2⟩
  ·exact .inl z
  ·exact .inr ⟨z, by have := q.2; omega⟩)
omit [DecidableEq σ] [DecidableRel lt] in
theorem sep_ne (htr : ∀ a b c, lt a b → lt b c → lt a c) (hir : ∀ s, ¬ lt s s) {a b : MkO σ} (h : SepM lt a b ∧ a.f < a.t) : ¬ KleM lt b a := by
 rintro (q | ⟨q, q2⟩)
 ·rcases h.1 with z | ⟨z, _⟩
  ·exact hir _ (htr _ _ _ z q)
  ·exact hir _ (z ▸ q)
 ·rcases h.1 with z | ⟨_, z2⟩
  ·exact hir _ (q ▸ z)
  ·have := h.2; omega
omit [DecidableEq σ] [DecidableRel lt] in
theorem pair_anti (htr : ∀ a b c, lt a b → lt b c → lt a c) (hir : ∀ s, ¬ lt s s) : ∀ (l : List (MkO σ)), l.Pairwise (fun a b => SepM lt a b ∧ a.f < a.t) → ∀ a b, a ∈ l → b ∈ l → KleM lt a b → KleM lt b a → a = b
 | [], _, a, _, ha, _, _, _ => by cases ha
 | x :: l, h, a, b, ha, hb, h1, h2 => by
  obtain ⟨hx, hl⟩ := List.pairwise_cons.1 h
  rcases List.mem_cons.1 ha with ea | ha'
  ·subst ea
   rcases List.mem_cons.1 hb with eb | hb'
   ·exact eb.symm
   ·exact absurd h2 (sep_ne lt htr hir (hx b hb'))
  ·rcases List.mem_cons.1 hb with eb | hb'
   ·subst eb
    exact absurd h1 (sep_ne lt htr hir (hx a ha'))
   ·exact pair_anti htr hir l hl a b ha' hb' h1 h2
omit [DecidableEq σ] [DecidableRel lt] in
/-- A sorted row of good marks and one more is the good marks with that one set in. -/
theorem ins_split (htr : ∀ a b c, lt a b → lt b c → lt a c) (hir : ∀ s, ¬ lt s s) (l s : List (MkO σ)) (m : MkO σ) (hg : GoodLM lt l) (hp : s.Perm (m :: l)) (hs : s.Pairwise (KleM lt)) :
  ∃ l1 l2, l = l1 ++ l2 ∧ s = l1 ++ m :: l2 ∧ (∀ x ∈ l1, KleM lt x m) ∧ (∀ x ∈ l2, KleM lt m x) := by
 obtain ⟨A, B, rfl⟩ := List.append_of_mem (hp.mem_iff.2 (List.mem_cons_self ..))
 have h1 : (A ++ B).Perm l := (List.perm_middle.symm.trans hp).cons_inv
 obtain ⟨pA, pB, pAB⟩ := List.pairwise_append.1 hs
 obtain ⟨pm, pB2⟩ := List.pairwise_cons.1 pB
 have h2 : (A ++ B).Pairwise (KleM lt) := List.pairwise_append.2 ⟨pA, pB2, fun a ha b hb => pAB a ha b (List.mem_cons_of_mem _ hb)⟩
 have hgp := good_pair lt htr l hg
 have e : A ++ B = l := List.Perm.eq_of_pairwise (le := KleM lt) (fun a b ha hb => pair_anti lt htr hir l hgp a b (h1.mem_iff.1 ha) hb) h2 (pair_kle lt l hgp) h1
 exact ⟨A, B, e.symm, rfl, fun x hx => pAB x hx m (List.mem_cons_self ..), pm⟩
/-- So sorting and joining adds the mark. -/
theorem sort_add (htr : ∀ a b c, lt a b → lt b c → lt a c) (hir : ∀ s, ¬ lt s s) (l s : List (MkO σ)) (m : MkO σ) (hm : m.f < m.t) (hg : GoodLM lt l) (hp : s.Perm (m :: l)) (hs : s.Pairwise (KleM lt)) : jnL s = addF lt false l m := by
 obtain ⟨l1, l2, e, e2, k1, k2⟩ := ins_split lt htr hir l s m hg hp hs
 rw [e2, e]
 exact join_add lt htr hir m hm l2 l1 (e ▸ hg) k1 k2
end MarkJoin
/-- A mark with its style's bytes. -/
def tkM (x : IM) : MkO (List UInt8) := ⟨x.f0, x.f1, x.f2.toList⟩
abbrev ltB (a b : List UInt8) : Prop := Op.bytesLess a b = true
theorem ltB_trans : ∀ a b c : List UInt8, ltB a b → ltB b c → ltB a c := fun a b c h k => Ord.less_trans a b c h k
theorem ltB_irrefl : ∀ s : List UInt8, ¬ ltB s s := fun s h => by rw [ltB, Ord.less_irrefl] at h; cases h
theorem tkM_inj {x y : IM} (h : tkM x = tkM y) : x = y := by
 obtain ⟨a, b, c⟩ := x
 obtain ⟨a', b', c'⟩ := y
 simp only [tkM, MkO.mk.injEq] at h
 obtain ⟨rfl, rfl, h⟩ := h
 rw [ByteArray.toList_eq, ByteArray.toList_eq] at h
 rw [ByteArray.ext (Array.toList_inj.1 h)]
theorem tkM_map_inj : ∀ {l l' : List IM}, l.map tkM = l'.map tkM → l = l'
 | [], [], _ => rfl
 | [], _ :: _, h => by cases h
 | _ :: _, [], h => by cases h
 | x :: l, y :: l', h => by
  rw [List.map_cons, List.map_cons] at h
  injection h with h1 h2
  rw [tkM_inj h1, tkM_map_inj h2]
def jI : IM → List IM → List IM
 | a, [] => [a]
 | a, m :: l => if a.f2.toList = m.f2.toList ∧ m.f0 ≤ a.f1 then jI ⟨a.f0, mx a.f1 m.f1, a.f2⟩ l else a :: jI m l
def jIL : List IM → List IM
 | [] => []
 | m :: l => jI m l
def addI : Bool → List IM → IM → List IM
 | put, [], m => if put then [] else [m]
 | put, x :: l, m =>
  if Op.bytesLess x.f2.toList m.f2.toList = true ∨ (x.f2.toList = m.f2.toList ∧ x.f1 < m.f0) then x :: addI put l m
  else if Op.bytesLess m.f2.toList x.f2.toList = true ∨ x.f0 > m.f1 then (if put then x :: addI put l m else m :: x :: addI true l m)
  else addI put l ⟨min m.f0 x.f0, max m.f1 x.f1, m.f2⟩
theorem mx_max (a b : Int) : mx a b = max a b := by unfold mx; omega
theorem jI_tk : ∀ (l : List IM) (a : IM), (jI a l).map tkM = jn (tkM a) (l.map tkM)
 | [], a => rfl
 | m :: l, a => by
  rw [List.map_cons]
  unfold jI jn
  by_cases c : a.f2.toList = m.f2.toList ∧ m.f0 ≤ a.f1
  ·rw [if_pos c, if_pos (show (tkM a).s = (tkM m).s ∧ (tkM m).f ≤ (tkM a).t from c), jI_tk l]
   show jn ⟨a.f0, mx a.f1 m.f1, a.f2.toList⟩ _ = _
   rw [mx_max]; rfl
  ·rw [if_neg c, if_neg (show ¬ ((tkM a).s = (tkM m).s ∧ (tkM m).f ≤ (tkM a).t) from c), List.map_cons, jI_tk l m]
theorem jIL_tk (l : List IM) : (jIL l).map tkM = jnL (l.map tkM) := by
 cases l with
 | nil => rfl
 | cons m l => exact jI_tk l m
theorem addI_tk : ∀ (l : List IM) (put : Bool) (m : IM), (addI put l m).map tkM = addF ltB put (l.map tkM) (tkM m)
 | [], put, m => by cases put <;> rfl
 | x :: l, put, m => by
  rw [List.map_cons]
  unfold addI addF
  by_cases c : Op.bytesLess x.f2.toList m.f2.toList = true ∨ (x.f2.toList = m.f2.toList ∧ x.f1 < m.f0)
  ·rw [if_pos c, if_pos (show ltB (tkM x).s (tkM m).s ∨ ((tkM x).s = (tkM m).s ∧ (tkM x).t < (tkM m).f) from c), List.map_cons, addI_tk l]
  ·rw [if_neg c, if_neg (show ¬ (ltB (tkM x).s (tkM m).s ∨ ((tkM x).s = (tkM m).s ∧ (tkM x).t < (tkM m).f)) from c)]
   by_cases c2 : Op.bytesLess m.f2.toList x.f2.toList = true ∨ x.f0 > m.f1
   ·rw [if_pos c2, if_pos (show ltB (tkM m).s (tkM x).s ∨ (tkM x).f > (tkM m).t from c2)]
    cases put
    ·rw [if_neg (by simp), if_neg (by simp), List.map_cons, List.map_cons, addI_tk l]
    ·rw [if_pos rfl, if_pos rfl, List.map_cons, addI_tk l]
   ·rw [if_neg c2, if_neg (show ¬ (ltB (tkM m).s (tkM x).s ∨ (tkM x).f > (tkM m).t) from c2), addI_tk l]
    rfl
/-- A pair of good marks is apart. -/
theorem pair_sep (a m : IM) (h : pairB a m = true) : SepM ltB (tkM a) (tkM m) := by
 obtain ⟨h1, h2⟩ := (pairB_iff a m).1 h
 by_cases e : a.f2.toList = m.f2.toList
 ·exact .inr ⟨e, h2 e⟩
 ·by_cases c : Op.bytesLess a.f2.toList m.f2.toList = true
  ·exact .inl c
  ·exact absurd (Ord.less_total (by simpa using c) h1) e
theorem sep_pair (a m : IM) (h : SepM ltB (tkM a) (tkM m)) : pairB a m = true := by
 rw [pairB_iff]
 rcases h with h | ⟨e, h⟩
 ·refine ⟨?_, fun e => ?_⟩
  ·rw [Bool.eq_false_iff]; intro q
   exact ltB_irrefl _ (ltB_trans _ _ _ h q)
  ·exact absurd (show ltB a.f2.toList a.f2.toList from by have h' : ltB a.f2.toList m.f2.toList := h; rw [← e] at h'; exact h') (ltB_irrefl _)
 ·have e' : a.f2.toList = m.f2.toList := e
  exact ⟨by rw [e']; exact Ord.less_irrefl _, fun _ => h⟩
theorem goodL_lm (size : Int) : ∀ (l : List IM) (p : Option IM), goodL size p l = true → GoodLM ltB (l.map tkM) ∧ ∀ x ∈ l, markB x size = true
 | [], _, _ => ⟨trivial, fun x hx => by cases hx⟩
 | [a], p, h => by
  obtain ⟨h1, _, _⟩ := (goodL_cons size p a []).1 h
  exact ⟨((markB_iff a size).1 h1).2.2.1, fun x hx => by rw [List.mem_singleton.1 hx]; exact h1⟩
 | a :: b :: l, p, h => by
  obtain ⟨h1, _, h3⟩ := (goodL_cons size p a (b :: l)).1 h
  obtain ⟨_, h4, _⟩ := (goodL_cons size (some a) b l).1 h3
  obtain ⟨i1, i2⟩ := goodL_lm size (b :: l) (some a) h3
  refine ⟨⟨((markB_iff a size).1 h1).2.2.1, pair_sep a b h4, i1⟩, fun x hx => ?_⟩
  rcases List.mem_cons.1 hx with rfl | hx
  ·exact h1
  ·exact i2 x hx
theorem lm_goodL (size : Int) : ∀ (l : List IM) (p : Option IM), GoodLM ltB (l.map tkM) → (∀ x ∈ l, markB x size = true) → (∀ a m r, p = some a → l = m :: r → pairB a m = true) → goodL size p l = true
 | [], _, _, _, _ => rfl
 | [a], p, _, h2, h3 => (goodL_cons size p a []).2 ⟨h2 a (List.mem_cons_self ..), by cases p with
   | none => trivial
   | some q => exact h3 q a [] rfl rfl, rfl⟩
 | a :: b :: l, p, h1, h2, h3 => (goodL_cons size p a (b :: l)).2 ⟨h2 a (List.mem_cons_self ..), by cases p with
   | none => trivial
   | some q => exact h3 q a (b :: l) rfl rfl, lm_goodL size (b :: l) (some a) h1.2.2 (fun x hx => h2 x (List.mem_cons_of_mem _ hx)) (fun q m r e1 e2 => by
    cases e1; cases e2; exact sep_pair a b h1.2.1)⟩
/-- What the joining of a sorted row begins with. -/
theorem jn_head {σ : Type} [DecidableEq σ] : ∀ (l : List (MkO σ)) (a : MkO σ), ∃ t r, jn a l = ⟨a.f, t, a.s⟩ :: r
 | [], a => ⟨a.t, [], rfl⟩
 | m :: l, a => by
  unfold jn
  split
  ·exact jn_head l ⟨a.f, max a.t m.t, a.s⟩
  ·exact ⟨a.t, _, rfl⟩
theorem jn_goodLM {σ : Type} [DecidableEq σ] (lt : σ → σ → Prop) : ∀ (l : List (MkO σ)) (a : MkO σ), a.f < a.t → (∀ x ∈ l, x.f < x.t) → (a :: l).Pairwise (KleM lt) → GoodLM lt (jn a l)
 | [], a, h, _, _ => h
 | m :: l, a, h, hl, hp => by
  obtain ⟨p1, p2⟩ := List.pairwise_cons.1 hp
  obtain ⟨p3, p4⟩ := List.pairwise_cons.1 p2
  have hm := hl m (List.mem_cons_self ..)
  have hl' := fun x hx => hl x (List.mem_cons_of_mem _ hx)
  unfold jn
  split
  ·refine jn_goodLM lt l _ (by show a.f < max a.t m.t; omega) hl' (List.pairwise_cons.2 ⟨fun x hx => p1 x (List.mem_cons_of_mem _ hx), p4⟩)
  ·rename_i c
   have ih := jn_goodLM lt l m hm hl' p2
   obtain ⟨t, r, e⟩ := jn_head l m
   rw [e] at ih ⊢
   refine ⟨h, ?_, ih⟩
   rcases p1 m (List.mem_cons_self ..) with q | ⟨q, q2⟩
   ·exact .inl q
   ·exact .inr ⟨q, by show a.t < m.f; have : ¬ m.f ≤ a.t := fun z => c ⟨q, z⟩; omega⟩
theorem spec_l5Add_l (l : List IM) (hl : l.length ≤ 1048576) (d : Nat) : ∀ (i : Nat) (acc : List IM) (put : Bool) (m : IM), i + d = l.length → acc.length ≤ 2 * i →
  Ev (fun k => spec_l5Add.l0 k acc put l (l.length : Int) (i : Int) m.f0 m.f1 m.f2) (acc ++ addI put (l.drop i) m) := by
 induction d with
 | zero =>
  intro i acc put m hi ha
  refine Ev.step (fun k => by rw [spec_l5Add.l0]) ?_
  refine ev_neg (by omega) ?_
  rw [List.drop_eq_nil_of_le (by omega)]
  refine ev_if (fun h => ev_ret ?_) (fun h => ev_pos (by omega) (ev_ret ?_))
  ·rw [addI, if_pos h, List.append_nil]
  ·rw [addI, if_neg h]
 | succ d ih =>
  intro i acc put m hi ha
  rw [gt_drop izM l i (by omega)]
  have ew := wrap_succ i (by omega)
  refine Ev.step (fun k => by rw [spec_l5Add.l0]) ?_
  refine ev_pos (by omega) (ev_pos (by omega) (ev_pos (by omega) ?_))
  simp only [rd_im]
  have ih' := fun acc' put' m' h => ih (i + 1) acc' put' m' (by omega) h
  generalize l.drop (i + 1) = r at ih' ⊢
  have hj2 : ∀ (x : IM) (b : Bool), Ev (fun k => spec_l5Add.j2 k acc put l (l.length : Int) (i : Int) b m.f0 m.f1 m.f2 x.f0 x.f1 x.f2) (acc ++ (if b = true then (if put = true then x :: addI put r m else m :: x :: addI true r m) else addI put r ⟨min m.f0 x.f0, max m.f1 x.f1, m.f2⟩)) := by
   intro x b
   refine Ev.step (fun k => by rw [spec_l5Add.j2]) ?_
   simp only [ew]
   refine ev_if (fun h => ?_) (fun h => ?_)
   ·rw [if_pos h]
    refine ev_if (fun hp => ev_pos (by omega) ?_) (fun hp => ev_pos (by omega) (ev_some (ev_pos (by rw [List.length_append]; simp only [List.length_cons, List.length_nil]; omega) ?_)))
    ·rw [if_pos hp]
     exact ev_val (ih' (acc ++ [x]) put m (by rw [List.length_append]; simp only [List.length_cons, List.length_nil]; omega)) (by simp)
    ·rw [if_neg hp]
     exact ev_val (ih' ((acc ++ [m]) ++ [x]) true m (by rw [List.length_append, List.length_append]; simp only [List.length_cons, List.length_nil]; omega)) (by simp)
   ·rw [if_neg h]
    refine ev_if (fun h0 => ev_if (fun h1 => ev_val (ih' acc put ⟨x.f0, x.f1, m.f2⟩ (by omega)) ?_) (fun h1 => ev_val (ih' acc put ⟨x.f0, m.f1, m.f2⟩ (by omega)) ?_)) (fun h0 => ev_if (fun h1 => ev_val (ih' acc put ⟨m.f0, x.f1, m.f2⟩ (by omega)) ?_) (fun h1 => ev_val (ih' acc put m (by omega)) ?_))
    ·rw [show min m.f0 x.f0 = x.f0 by omega, show max m.f1 x.f1 = x.f1 by omega]
    ·rw [show min m.f0 x.f0 = x.f0 by omega, show max m.f1 x.f1 = m.f1 by omega]
    ·rw [show min m.f0 x.f0 = m.f0 by omega, show max m.f1 x.f1 = x.f1 by omega]
    ·rw [show min m.f0 x.f0 = m.f0 by omega, show max m.f1 x.f1 = m.f1 by omega]
  have hj1 : ∀ (x : IM) (b : Bool), Ev (fun k => spec_l5Add.j1 k acc put l (l.length : Int) (i : Int) b m.f0 m.f1 m.f2 x.f0 x.f1 x.f2) (acc ++ (if b = true then x :: addI put r m else if Op.bytesLess m.f2.toList x.f2.toList = true ∨ x.f0 > m.f1 then (if put = true then x :: addI put r m else m :: x :: addI true r m) else addI put r ⟨min m.f0 x.f0, max m.f1 x.f1, m.f2⟩)) := by
   intro x b
   refine Ev.step (fun k => by rw [spec_l5Add.j1]) ?_
   simp only [ew]
   refine ev_if (fun h => ev_pos (by omega) ?_) (fun h => ?_)
   ·rw [if_pos h]
    exact ev_val (ih' (acc ++ [x]) put m (by rw [List.length_append]; simp only [List.length_cons, List.length_nil]; omega)) (by simp)
   ·rw [if_neg h]
    refine ev_if (fun h1 => ev_val (hj2 x true) ?_) (fun h1 => ev_val (hj2 x _) ?_)
    ·exact congrArg (fun z => acc ++ z) ((if_pos rfl).trans (if_pos (.inl h1)).symm)
    ·by_cases c : x.f0 > m.f1
     ·exact congrArg (fun z => acc ++ z) ((if_pos (decide_eq_true c)).trans (if_pos (.inr c)).symm)
     ·exact congrArg (fun z => acc ++ z) ((if_neg (fun z => c (of_decide_eq_true z))).trans (if_neg (fun q => q.elim h1 c)).symm)
  have e : ∀ x : IM, addI put (x :: r) m = (if Op.bytesLess x.f2.toList m.f2.toList = true ∨ (x.f2.toList = m.f2.toList ∧ x.f1 < m.f0) then x :: addI put r m else if Op.bytesLess m.f2.toList x.f2.toList = true ∨ x.f0 > m.f1 then (if put = true then x :: addI put r m else m :: x :: addI true r m) else addI put r ⟨min m.f0 x.f0, max m.f1 x.f1, m.f2⟩) := fun x => by rw [addI]
  rw [e]
  refine ev_if (fun h => ev_val (hj1 _ true) ?_) (fun h => ev_if (fun h1 => ev_val (hj1 _ _) ?_) (fun h1 => ev_val (hj1 _ false) ?_))
  ·exact congrArg (fun z => acc ++ z) ((if_pos rfl).trans (if_pos (.inl h)).symm)
  ·by_cases c : (gt izM l i).f1 < m.f0
   ·exact congrArg (fun z => acc ++ z) ((if_pos (decide_eq_true c)).trans (if_pos (.inr ⟨h1, c⟩)).symm)
   ·exact congrArg (fun z => acc ++ z) ((if_neg (fun z => c (of_decide_eq_true z))).trans (if_neg (fun q => q.elim h (fun z => c z.2))).symm)
  ·exact congrArg (fun z => acc ++ z) ((if_neg Bool.false_ne_true).trans (if_neg (fun q => q.elim h (fun z => h1 z.1))).symm)
theorem spec_l5Add_f (l : List IM) (m : IM) (hl : l.length ≤ 1048576) : Ev (fun k => spec_l5Add.f k l m.f0 m.f1 m.f2) (addI false l m) := by
 unfold spec_l5Add.f
 exact spec_l5Add_l l hl l.length 0 [] false m (by omega) (by simp)
theorem impl_joined_l (l : List IM) (n : Int) (hn : n = l.length) (hl : l.length ≤ 1048576) (d : Nat) : ∀ (i : Nat) (pre : List IM) (a : IM), i + d = l.length → pre.length ≤ i →
  Ev (fun k => impl_joined.l0 k (pre ++ [a]) l n (i : Int)) (pre ++ jI a (l.drop i)) := by
 induction d with
 | zero =>
  intro i pre a hi hp
  refine Ev.step (fun k => by rw [impl_joined.l0]) ?_
  refine ev_neg (by omega) (ev_ret ?_)
  rw [List.drop_eq_nil_of_le (by omega), jI]
 | succ d ih =>
  intro i pre a hi hp
  rw [gt_drop izM l i (by omega)]
  have ew := wrap_succ i (by omega)
  have el : (pre ++ [a]).length = pre.length + 1 := by simp
  have e1 : wrap64 (((pre ++ [a]).length : Int) - 1) = ((pre.length : Nat) : Int) := by rw [el]; unfold wrap64; omega
  have ga : gt izM (pre ++ [a]) pre.length = a := by simp [gt]
  refine Ev.step (fun k => by rw [impl_joined.l0]) ?_
  simp only [e1, ew, rd_im, ga]
  refine ev_pos (by omega) (ev_pos (by omega) (ev_pos (by omega) ?_))
  generalize gt izM l i = x
  have ih' := fun pre' a' h => ih (i + 1) pre' a' (by omega) h
  generalize l.drop (i + 1) = r at ih' ⊢
  refine ev_pos (by omega) (ev_pos (by omega) (ev_pos (by omega) ?_))
  refine ev_if (fun h1 => ev_if (fun h2 => ?_) (fun h2 => ev_pos (by omega) ?_)) (fun h1 => ev_pos (by omega) ?_)
  ·have es : (pre ++ [a]).set ((pre.length : Int)).toNat (⟨a.f0, mx a.f1 x.f1, a.f2⟩ : IM) = pre ++ [⟨a.f0, mx a.f1 x.f1, a.f2⟩] := by
    rw [Int.toNat_natCast, List.set_append_right _ _ (Nat.le_refl _), Nat.sub_self]; rfl
   rw [es, jI, if_pos ⟨h1, h2⟩]
   exact ih' pre _ (by omega)
  ·rw [jI, if_neg (fun q => h2 q.2)]
   exact ev_val (ih' (pre ++ [a]) x (by omega)) (by simp)
  ·rw [jI, if_neg (fun q => h1 q.1)]
   exact ev_val (ih' (pre ++ [a]) x (by omega)) (by simp)
theorem impl_joined_s (l : List IM) (n : Int) (hn : n = l.length) (hl : l.length ≤ 1048576) : Ev (fun k => impl_joined.l0 k [] l n 0) (jIL l) := by
 cases l with
 | nil =>
  refine Ev.step (fun k => by rw [impl_joined.l0]) ?_
  exact ev_neg (by rw [hn]; simp) (ev_ret rfl)
 | cons x r =>
  refine Ev.step (fun k => by rw [impl_joined.l0]) ?_
  rw [List.length_cons] at hn hl
  refine ev_pos (by omega) (ev_pos (by omega) (ev_pos (by rw [List.length_cons]; omega) ?_))
  refine ev_neg (by unfold wrap64; simp) (ev_pos (by simp) ?_)
  rw [show wrap64 ((0 : Int) + 1) = ((1 : Nat) : Int) by unfold wrap64; omega]
  exact impl_joined_l (x :: r) n hn hl r.length 1 [] x (by rw [List.length_cons]; omega) (by simp)
theorem cb_less : ∀ a b : List UInt8, Lib.compareBytes a b < 0 ↔ Op.bytesLess a b = true
 | [], [] => by simp [Lib.compareBytes, Op.bytesLess]
 | [], _ :: _ => by simp [Lib.compareBytes, Op.bytesLess]
 | _ :: _, [] => by simp [Lib.compareBytes, Op.bytesLess]
 | x :: a, y :: b => by
  unfold Lib.compareBytes Op.bytesLess
  by_cases h1 : x < y
  ·rw [if_pos h1]; simp [h1]
  ·rw [if_neg h1]
   by_cases h2 : y < x
   ·rw [if_pos h2]
    have : ¬ x = y := fun e => UInt8.lt_irrefl x (e ▸ h2)
    simp [h1, this]
   ·rw [if_neg h2, cb_less a b]
    have e : x = y := UInt8.le_antisymm (UInt8.not_lt.1 h2) (UInt8.not_lt.1 h1)
    subst e; simp [UInt8.lt_irrefl]
def srt (l : List IM) : List IM := (sortM l).toList.map unM
theorem srt_facts (l : List IM) (hok : l.all okM = true) : (srt l).Perm l ∧ ((srt l).map tkM).Pairwise (KleM ltB) := by
 have h := Go.Sort.pdq_sorts (ltOf cmpM) swo_cmpM (packM l).toArray 0 (packM l).toArray.size (Lib.bitLen (packM l).toArray.size) true true (Nat.zero_le _) (Nat.le_refl _) (Or.inl rfl)
 obtain ⟨⟨hs, _, hp⟩, hso⟩ := h
 have e1 : (sortM l).extract 0 (packM l).toArray.size = sortM l := by rw [← hs]; exact Array.extract_size
 have e2 : (packM l).toArray.extract 0 (packM l).toArray.size = (packM l).toArray := Array.extract_size
 change ((sortM l).extract 0 (packM l).toArray.size).toList.Perm _ at hp
 rw [e1, e2] at hp
 refine ⟨?_, ?_⟩
 ·have := hp.map unM
  rw [un_pack l hok] at this
  exact this
 ·unfold srt
  rw [List.map_map, List.pairwise_map, List.pairwise_iff_getElem]
  intro i j hi hj hij
  have hj' : j < (sortM l).size := by simpa using hj
  have hi' : i < (sortM l).size := by simpa using hi
  have q := hso i j (Nat.zero_le _) hij (by rw [← hs]; exact hj')
  change ltOf cmpM (sortM l)[j]! (sortM l)[i]! = false at q
  rw [getElem!_pos (sortM l) j hj', getElem!_pos (sortM l) i hi'] at q
  rw [Array.getElem_toList, Array.getElem_toList]
  generalize (sortM l)[j] = y at q ⊢
  generalize (sortM l)[i] = x at q ⊢
  have q2 : ¬ _ := fun z => Bool.false_ne_true (q.symm.trans ((lt_cmpM y x).2 z))
  have c1 : ¬ Op.bytesLess y.1.2.2.toList x.1.2.2.toList = true := fun z => q2 (.inl (by rw [← ByteArray.toList_eq, ← ByteArray.toList_eq]; exact (cb_less _ _).2 z))
  show ltB x.1.2.2.toList y.1.2.2.toList ∨ (x.1.2.2.toList = y.1.2.2.toList ∧ x.1.1 ≤ y.1.1)
  by_cases c : Op.bytesLess x.1.2.2.toList y.1.2.2.toList = true
  ·exact .inl c
  ·have e := Ord.less_total (by simpa using c) (by simpa using c1)
   refine .inr ⟨e, ?_⟩
   have e' : x.1.2.2 = y.1.2.2 := by
    rw [ByteArray.toList_eq, ByteArray.toList_eq] at e
    exact ByteArray.ext (Array.toList_inj.1 e)
   have : ¬ y.1.1 < x.1.1 := fun z => q2 (.inr ⟨e'.symm, z⟩)
   omega
theorem impl_joined_f (l : List IM) (h0 : l.length ≠ 0) (hl : l.length ≤ 1000000) (hok : l.all okM = true) : Ev (fun k => impl_joined.f k l) (jIL (srt l)) := by
 have hlen := (srt_facts l hok).1.length_eq
 unfold impl_joined.f
 refine ev_eq (a := l) (by unfold impl_Mark_66.f; rw [if_neg (by omega)]) (ev_eq (a := srt l) (by unfold impl_Mark_73.f; rw [if_neg h0, if_neg (by omega), if_pos hok]; rfl) ?_)
 exact impl_joined_s (srt l) _ (by rw [hlen]) (by omega)
theorem jnL_jn {σ : Type} [DecidableEq σ] (m : MkO σ) : ∀ (s : List (MkO σ)) (a : MkO σ), jnL (jn a s ++ [m]) = jn a (s ++ [m])
 | [], a => rfl
 | x :: s, a => by
  show jnL (jn a (x :: s) ++ [m]) = jn a (x :: (s ++ [m]))
  by_cases c : a.s = x.s ∧ x.f ≤ a.t
  ·have e1 : jn a (x :: s) = jn ⟨a.f, max a.t x.t, a.s⟩ s := by rw [jn, if_pos c]
   have e2 : jn a (x :: (s ++ [m])) = jn ⟨a.f, max a.t x.t, a.s⟩ (s ++ [m]) := by rw [jn, if_pos c]
   rw [e1, e2]; exact jnL_jn m s _
  ·have e1 : jn a (x :: s) = a :: jn x s := by rw [jn, if_neg c]
   have e2 : jn a (x :: (s ++ [m])) = a :: jn x (s ++ [m]) := by rw [jn, if_neg c]
   rw [e1, e2, ← jnL_jn m s x]
   obtain ⟨t, r, e⟩ := jn_head s x
   rw [e]
   show jn a (⟨x.f, t, x.s⟩ :: (r ++ [m])) = a :: jn ⟨x.f, t, x.s⟩ (r ++ [m])
   rw [jn, if_neg (show ¬ (a.s = x.s ∧ x.f ≤ a.t) from c)]
theorem jn_mem {σ : Type} [DecidableEq σ] : ∀ (s : List (MkO σ)) (a x : MkO σ), x ∈ jn a s → ∃ y, y ∈ a :: s ∧ x.f = y.f ∧ x.s = y.s
 | [], a, x, h => ⟨a, List.mem_cons_self .., by rw [List.mem_singleton.1 h], by rw [List.mem_singleton.1 h]⟩
 | m :: s, a, x, h => by
  unfold jn at h
  split at h
  ·obtain ⟨y, hy, h1, h2⟩ := jn_mem s _ x h
   rcases List.mem_cons.1 hy with rfl | hy
   ·exact ⟨a, List.mem_cons_self .., h1, h2⟩
   ·exact ⟨y, List.mem_cons_of_mem _ (List.mem_cons_of_mem _ hy), h1, h2⟩
  ·rcases List.mem_cons.1 h with rfl | h
   ·exact ⟨x, List.mem_cons_self .., rfl, rfl⟩
   ·obtain ⟨y, hy, h1, h2⟩ := jn_mem s m x h
    exact ⟨y, List.mem_cons_of_mem _ hy, h1, h2⟩
/-- A mark behind a sorted row: adding it to the joined row is joining the longer row. -/
theorem fold_add (s : List (MkO (List UInt8))) (m : MkO (List UInt8)) (hm : m.f < m.t) (hf : ∀ x ∈ s, x.f < x.t) (hs : (s ++ [m]).Pairwise (KleM ltB)) : addF ltB false (jnL s) m = jnL (s ++ [m]) := by
 cases s with
 | nil => rfl
 | cons a s =>
  obtain ⟨p1, _, p3⟩ := List.pairwise_append.1 hs
  have hg := jn_goodLM ltB s a (hf a (List.mem_cons_self ..)) (fun x hx => hf x (List.mem_cons_of_mem _ hx)) p1
  have hp : (jn a s ++ [m]).Pairwise (KleM ltB) := List.pairwise_append.2 ⟨pair_kle ltB _ (good_pair ltB ltB_trans _ hg), List.pairwise_singleton .., fun x hx y hy => by
   obtain ⟨z, hz, h1, h2⟩ := jn_mem s a x hx
   have q := p3 z hz y hy
   unfold KleM at q ⊢
   rw [h1, h2]; exact q⟩
  have e := sort_add ltB ltB_trans ltB_irrefl (jn a s) (jn a s ++ [m]) m hm hg (List.perm_append_singleton m (jn a s)) hp
  rw [show jnL (a :: s) = jn a s from rfl, ← e, jnL_jn]
  rfl
/-- What comes strictly sorted stays as it is. -/
theorem srt_id (l : List IM) (hok : l.all okM = true) (hs : (l.map tkM).Pairwise (fun a b => ltB a.s b.s ∨ (a.s = b.s ∧ a.f < b.f))) : srt l = l := by
 obtain ⟨hp, hk⟩ := srt_facts l hok
 have hk2 : (l.map tkM).Pairwise (KleM ltB) := hs.imp (fun {a b} q => by
  rcases q with q | ⟨q, q2⟩
  ·exact .inl q
  ·exact .inr ⟨q, by omega⟩)
 have hanti : ∀ r : List (MkO (List UInt8)), r.Pairwise (fun a b => ltB a.s b.s ∨ (a.s = b.s ∧ a.f < b.f)) → ∀ a b, a ∈ r → b ∈ r → KleM ltB a b → KleM ltB b a → a = b := by
  intro r
  induction r with
  | nil => intro _ a b ha; cases ha
  | cons x r ih =>
   intro h a b ha hb h1 h2
   obtain ⟨hx, hr⟩ := List.pairwise_cons.1 h
   have hno : ∀ y ∈ r, ¬ KleM ltB y x := fun y hy q => by
    rcases hx y hy with z | ⟨z, z2⟩ <;> rcases q with q | ⟨q, q2⟩
    ·exact ltB_irrefl _ (ltB_trans _ _ _ z q)
    ·exact ltB_irrefl _ (q ▸ z)
    ·exact ltB_irrefl _ (z ▸ q)
    ·omega
   rcases List.mem_cons.1 ha with ea | ha'
   ·subst ea
    rcases List.mem_cons.1 hb with eb | hb'
    ·exact eb.symm
    ·exact absurd h2 (hno b hb')
   ·rcases List.mem_cons.1 hb with eb | hb'
    ·subst eb; exact absurd h1 (hno a ha')
    ·exact ih hr a b ha' hb' h1 h2
 exact tkM_map_inj (List.Perm.eq_of_pairwise (le := KleM ltB) (fun a b ha hb => hanti _ hs a b ((hp.map tkM).mem_iff.1 ha) hb) hk hk2 (hp.map tkM))
theorem style_size (s : ByteArray) (h : styleB (bytesOf s) = true) : s.size ≤ 8 := by
 unfold styleB at h
 rw [Bool.and_eq_true, decide_eq_true_eq, bytesOf_length] at h
 exact h.2.2
theorem laws_eqPart_self (m : IP) : laws_eqPart.f m.f0 m.f1 m.f2 m.f0 m.f1 m.f2 = some true := by
 unfold laws_eqPart.f; rw [if_pos rfl]; rw [if_pos rfl]; rw [if_pos rfl]
theorem laws_eqPartS_l (l : List IP) (hl : l.length ≤ 4611686018427387904) (d : Nat) : ∀ i : Nat, i + d = l.length → Ev (fun k => laws_eqPartS.l0 k l l (i : Int)) true := by
 induction d with
 | zero => exact fun i hi => Ev.step (fun k => by rw [laws_eqPartS.l0]) (ev_neg (by omega) (ev_ret rfl))
 | succ d ih =>
  intro i hi
  refine Ev.step (fun k => by rw [laws_eqPartS.l0]) ?_
  refine ev_pos (by omega) (ev_pos (by omega) (ev_pos (by omega) (ev_eq (laws_eqPart_self _) (ev_pos rfl ?_))))
  rw [wrap_succ i (by omega)]
  exact ih (i + 1) (by omega)
theorem laws_eqPartS_f (l : List IP) (hl : l.length ≤ 4611686018427387904) : Ev (fun k => laws_eqPartS.f k l l) true := by
 unfold laws_eqPartS.f
 exact ev_pos rfl (laws_eqPartS_l l hl l.length 0 (by omega))
abbrev LP := S77
def cvP (x : LP) : IP := ⟨x.f0, x.f1, x.f2⟩
def lzP : LP := z77
theorem rd_lp (l : List LP) (i : Nat) : rd_T77 l (i : Int) = gt lzP l i := rfl
def szP (l : List LP) : List Nat := l.map (fun x => x.f1.size + x.f2.size)
theorem laws_szPartS_l (l : List LP) (hl : l.length ≤ 1048576) (hw : ∀ x ∈ l, x.f1.size ≤ 9223372036854775807 ∧ x.f2.size ≤ 9223372036854775807) (d : Nat) :
  ∀ (i : Nat) (left : Int), i + d = l.length → 0 ≤ left → left ≤ 1048576 → Ev (fun k => laws_szPartS.l0 k l left (i : Int)) (szF left (szP (l.drop i))) := by
 induction d with
 | zero =>
  intro i left hi h0 h1
  refine Ev.step (fun k => by rw [laws_szPartS.l0]) ?_
  refine ev_neg (by omega) (ev_ret ?_)
  rw [List.drop_eq_nil_of_le (by omega)]; rfl
 | succ d ih =>
  intro i left hi h0 h1
  have hm := hw _ (gt_mem lzP l i (by omega))
  refine Ev.step (fun k => by rw [laws_szPartS.l0]) ?_
  refine ev_pos (by omega) (ev_pos (by omega) ?_)
  rw [gt_drop lzP l i (by omega), rd_lp]
  generalize gt lzP l i = m at hm ⊢
  obtain ⟨hm1, hm2⟩ := hm
  have e : wrap64 (left - (m.f1.size : Int)) = left - (m.f1.size : Int) := wrap_id (by omega) (by omega)
  show Ev _ (if left - ((m.f1.size + m.f2.size : Nat) : Int) < 0 then -1 else szF (left - ((m.f1.size + m.f2.size : Nat) : Int)) (szP (l.drop (i + 1))))
  by_cases c1 : left - (m.f1.size : Int) < 0
  ·rw [if_pos (show left - ((m.f1.size + m.f2.size : Nat) : Int) < 0 by omega)]
   refine ev_eq (a := -1) (by unfold laws_szPart.f; rw [e, if_pos c1]) (ev_pos (by omega) (ev_ret rfl))
  have e2 : wrap64 (left - (m.f1.size : Int) - (m.f2.size : Int)) = left - ((m.f1.size + m.f2.size : Nat) : Int) := by rw [wrap_id (by omega) (by omega)]; omega
  by_cases c : left - ((m.f1.size + m.f2.size : Nat) : Int) < 0
  ·rw [if_pos c]
   refine ev_eq (a := -1) (by unfold laws_szPart.f; rw [e, if_neg c1, e2, if_pos c]) (ev_pos (by omega) (ev_ret rfl))
  ·rw [if_neg c]
   refine ev_eq (a := left - ((m.f1.size + m.f2.size : Nat) : Int)) (by unfold laws_szPart.f; rw [e, if_neg c1, e2, if_neg c]) (ev_neg (by omega) ?_)
   rw [wrap_succ i (by omega)]
   exact ih (i + 1) _ (by omega) (by omega) (by omega)
theorem laws_toPartS_l (l : List LP) (hl : l.length ≤ 1048576) (d : Nat) :
  ∀ i : Nat, i + d = l.length → Ev (fun k => laws_toPartS.l0 k l ((l.take i).map cvP ++ List.replicate (l.length - i) izP) (i : Int)) (l.map cvP) := by
 induction d with
 | zero =>
  intro i hi
  refine Ev.step (fun k => by rw [laws_toPartS.l0]) ?_
  refine ev_neg (by omega) (ev_ret ?_)
  have : l.length - i = 0 := by omega
  rw [List.take_of_length_le (by omega), this]; simp
 | succ d ih =>
  intro i hi
  refine Ev.step (fun k => by rw [laws_toPartS.l0]) ?_
  refine ev_pos (by omega) (ev_pos (by omega) (ev_eq rfl (ev_pos (by simp; omega) ?_)))
  rw [wrap_succ i (by omega)]
  have ih' := ih (i + 1) (by omega)
  have e : ((l.take i).map cvP ++ List.replicate (l.length - i) izP).set (i : Int).toNat (⟨(rd_T77 l (i : Int)).f0, (rd_T77 l (i : Int)).f1, (rd_T77 l (i : Int)).f2⟩ : IP) = (l.take (i + 1)).map cvP ++ List.replicate (l.length - (i + 1)) izP := by
   rw [Int.toNat_natCast, set_next _ _ _ _ _ (by simp; omega) (by omega), rd_lp, gt_take lzP l i (by omega), List.map_append]
   rfl
  exact e ▸ ih'
theorem laws_toPartS_f (l : List LP) (hl : l.length ≤ 1048576) : Ev (fun k => laws_toPartS.f k l) (l.map cvP) := by
 unfold laws_toPartS.f
 refine ev_pos (by omega) (ev_pos (by omega) ?_)
 exact laws_toPartS_l l hl l.length 0 (by omega)
theorem szF_le : ∀ (l : List Nat) (left : Int), 0 ≤ left → szF left l ≤ left
 | [], left, _ => by unfold szF; omega
 | n :: r, left, h => by
  unfold szF
  split
  ·omega
  ·rename_i c
   exact Int.le_trans (szF_le r _ (by omega)) (by omega)
theorem laws_szPartS_g (l : List LP) (hl : l.length ≤ 9223372036854775807) (hw : ∀ x ∈ l, x.f1.size ≤ 9223372036854775807 ∧ x.f2.size ≤ 9223372036854775807) (left : Int) (h0 : 0 ≤ left) (h1 : left ≤ 1048576) :
  ∃ v : Int, Ev (fun k => laws_szPartS.f k l left) v ∧ (0 ≤ v → v ≤ 1048576 ∧ l.length ≤ 1048576 ∧ ∀ x ∈ l, x.f1.size ≤ 1048576 ∧ x.f2.size ≤ 1048576) := by
 have e : wrap64 (left - (l.length : Int)) = left - (l.length : Int) := wrap_id (by omega) (by omega)
 by_cases c : left - (l.length : Int) < 0
 ·exact ⟨-1, by unfold laws_szPartS.f; exact ev_pos (by rw [e]; exact c) (ev_ret rfl), fun h => by omega⟩
 ·refine ⟨szF (left - (l.length : Int)) (szP l), ?_, fun h => ⟨?_, by omega, fun x hx => ?_⟩⟩
  ·unfold laws_szPartS.f
   refine ev_neg (by rw [e]; exact c) ?_
   rw [e]
   exact laws_szPartS_l l (by omega) hw l.length 0 _ (by omega) (by omega) (by omega)
  ·have := szF_le (szP l) (left - (l.length : Int)) (by omega)
   omega
  ·have h1 := szF_sum _ _ (by omega) h
   have h2 : x.f1.size + x.f2.size ≤ (szP l).sum := le_sum (List.mem_map.2 ⟨x, hx, rfl⟩)
   exact ⟨by omega, by omega⟩
theorem laws_markText_l (m : Nat) : ∀ (n : Nat) (t : ByteArray), n ≤ m → n ≤ 2305843009213693952 → t.size + n ≤ 2305843009213693952 → ∃ r, Ev (fun k => laws_markText.l0 k (n : Int) t) r := by
 induction m with
 | zero =>
  intro n t h0 h1 h2
  obtain rfl : n = 0 := by omega
  exact ⟨_, Ev.step (fun k => by rw [laws_markText.l0]) (ev_neg (by omega) (ev_pos (by omega) (ev_ret rfl)))⟩
 | succ m ih =>
  intro n t h0 h1 h2
  by_cases hn : n = 0
  ·subst hn
   exact ⟨_, Ev.step (fun k => by rw [laws_markText.l0]) (ev_neg (by omega) (ev_pos (by omega) (ev_ret rfl)))⟩
  ·have e : wrap64 (Int.tdiv (n : Int) 10) = ((n / 10 : Nat) : Int) := by
    rw [Int.tdiv_eq_ediv_of_nonneg (by omega)]; unfold wrap64; omega
   have hs : ∀ x : Int, (strOfNums [x]).size = 1 := fun x => rfl
   obtain ⟨r, hr⟩ := ih (n / 10) (strOfNums [(wrap64 (48 + (Int.tmod (n : Int) 10))) % 256] ++ t) (by omega) (by omega) (by rw [ByteArray.size_append, hs]; omega)
   refine ⟨r, ?_⟩
   refine Ev.step (fun k => by rw [laws_markText.l0]) ?_
   refine ev_pos (by omega) (ev_some ?_)
   refine ev_pos (by rw [hs]; omega) ?_
   rw [e]; exact hr
noncomputable def MT (n : Int) : ByteArray := @Classical.epsilon ByteArray ⟨ByteArray.empty⟩ (fun r => Ev (fun k => laws_markText.f k n) r)
theorem MT_ev (n : Int) (h0 : 0 ≤ n) (h1 : n ≤ 1152921504606846990) : Ev (fun k => laws_markText.f k n) (MT n) := by
 refine @Classical.epsilon_spec ByteArray (fun r => Ev (fun k => laws_markText.f k n) r) ?_
 obtain ⟨m, rfl⟩ := Int.eq_ofNat_of_zero_le h0
 by_cases hm : m = 0
 ·subst hm
  exact ⟨_, by unfold laws_markText.f; exact ev_pos (by omega) (ev_ret rfl)⟩
 ·obtain ⟨r, hr⟩ := laws_markText_l m m ⟨#[]⟩ (Nat.le_refl _) (by omega) (by show 0 + m ≤ _; omega)
  exact ⟨r, by unfold laws_markText.f; exact ev_neg (by omega) hr⟩
noncomputable def mvMark (kk : Int) : IM := (⟨kk, (kk + 1), (MT (kk + 2))⟩ : IM)
noncomputable def mkMark (kk : Int) (n : Nat) : List IM := (List.range n).map (fun (i : Nat) => mvMark (kk + 3 * (i : Int)))
theorem mkMark_len (kk : Int) (n : Nat) : (mkMark kk n).length = n := by simp [mkMark]
theorem mkMark_succ (kk : Int) (n : Nat) : mkMark kk (n + 1) = mkMark kk n ++ [mvMark (kk + 3 * (n : Int))] := by simp [mkMark, List.range_succ]
theorem mkMark_gt (kk : Int) (n i : Nat) (h : i < n) : gt izM (mkMark kk n) i = mvMark (kk + 3 * (i : Int)) := by
 unfold gt mkMark; rw [List.getD_eq_getElem?_getD, List.getElem?_map, List.getElem?_range h]; rfl
theorem laws_markMarkS_r (x0 : List IM) (kk : Int) (i : Nat) (hi : i < x0.length) (hx : x0.length ≤ 1152921504606846976) (h0 : 0 ≤ kk) (h1 : kk ≤ 1152921504606846976) {r : Int × List IM}
  (h : Ev (fun k => laws_markMarkS.l0 k (x0.set i (mvMark kk)) (kk + 3) ((i + 1 : Nat) : Int)) r) : Ev (fun k => laws_markMarkS.l0 k x0 kk (i : Int)) r := by
 have w1 : wrap64 (kk + 1) = kk + 1 := by unfold wrap64; omega
 have w2 : wrap64 ((kk + 1) + 1) = kk + 2 := by unfold wrap64; omega
 have w3 : wrap64 ((kk + 2) + 1) = kk + 3 := by unfold wrap64; omega
 refine Ev.step (fun k => by rw [laws_markMarkS.l0]) ?_
 refine ev_pos (by omega) ?_
 simp only [w1, w2, w3, wrap_succ i (by omega)]
 refine ev_pos (by omega) ?_
 refine ev_some ?_
 refine ev_some ?_
 refine Ev.bind (MT_ev _ (by omega) (by omega)) ?_
 refine ev_val' ?_ h; intro k; simp [rd_im, gt_set, List.set_set, hi, mvMark]
theorem laws_markMarkS_l (l : List IM) (kk : Int) (hl : l.length ≤ 1073741824) (h0 : 0 ≤ kk) (h1 : kk ≤ 1073741824) (d : Nat) : ∀ i : Nat, i + d = l.length →
  Ev (fun k => laws_markMarkS.l0 k (mkMark kk i ++ l.drop i) (kk + 3 * (i : Int)) (i : Int)) (kk + 3 * (l.length : Int), mkMark kk l.length) := by
 induction d with
 | zero =>
  intro i hi
  refine Ev.step (fun k => by rw [laws_markMarkS.l0]) ?_
  refine ev_neg (by simp [mkMark_len]; omega) (ev_ret ?_)
  have : i = l.length := by omega
  subst this; simp
 | succ d ih =>
  intro i hi
  refine laws_markMarkS_r _ _ i (by simp [mkMark_len]; omega) (by simp [mkMark_len]; omega) (by omega) (by omega) ?_
  have e : (mkMark kk i ++ l.drop i).set i (mvMark (kk + 3 * (i : Int))) = mkMark kk (i + 1) ++ l.drop (i + 1) := by
   rw [gt_drop izM l i (by omega), List.set_append_right _ _ (by simp [mkMark_len]), mkMark_len, Nat.sub_self, mkMark_succ]; simp
  have e2 : kk + 3 * (i : Int) + 3 = kk + 3 * ((i + 1 : Nat) : Int) := by omega
  rw [e, e2]
  exact ih (i + 1) (by omega)
theorem laws_markMarkS_f (l : List IM) (kk : Int) (hl : l.length ≤ 1073741824) (h0 : 0 ≤ kk) (h1 : kk ≤ 1073741824) :
  Ev (fun k => laws_markMarkS.f k l kk) (kk + 3 * (l.length : Int), mkMark kk l.length) := by
 unfold laws_markMarkS.f
 have := laws_markMarkS_l l kk hl h0 h1 l.length 0 (by omega)
 have e0 : mkMark kk 0 ++ l.drop 0 = l := by simp [mkMark]
 have e1 : kk + 3 * ((0 : Nat) : Int) = kk := by omega
 rw [e0, e1] at this
 exact this
noncomputable def mvPart (kk : Int) : IP := (⟨kk, (MT (kk + 1)), (MT (kk + 2))⟩ : IP)
noncomputable def mkPart (kk : Int) (n : Nat) : List IP := (List.range n).map (fun (i : Nat) => mvPart (kk + 3 * (i : Int)))
theorem mkPart_len (kk : Int) (n : Nat) : (mkPart kk n).length = n := by simp [mkPart]
theorem mkPart_succ (kk : Int) (n : Nat) : mkPart kk (n + 1) = mkPart kk n ++ [mvPart (kk + 3 * (n : Int))] := by simp [mkPart, List.range_succ]
theorem laws_markPartS_r (x0 : List IP) (kk : Int) (i : Nat) (hi : i < x0.length) (hx : x0.length ≤ 1152921504606846976) (h0 : 0 ≤ kk) (h1 : kk ≤ 1152921504606846976) {r : Int × List IP}
  (h : Ev (fun k => laws_markPartS.l0 k (x0.set i (mvPart kk)) (kk + 3) ((i + 1 : Nat) : Int)) r) : Ev (fun k => laws_markPartS.l0 k x0 kk (i : Int)) r := by
 have w1 : wrap64 (kk + 1) = kk + 1 := by unfold wrap64; omega
 have w2 : wrap64 ((kk + 1) + 1) = kk + 2 := by unfold wrap64; omega
 have w3 : wrap64 ((kk + 2) + 1) = kk + 3 := by unfold wrap64; omega
 refine Ev.step (fun k => by rw [laws_markPartS.l0]) ?_
 refine ev_pos (by omega) ?_
 simp only [w1, w2, w3, wrap_succ i (by omega)]
 refine ev_pos (by omega) ?_
 refine ev_some ?_
 refine Ev.bind (MT_ev _ (by omega) (by omega)) ?_
 refine ev_some ?_
 refine Ev.bind (MT_ev _ (by omega) (by omega)) ?_
 refine ev_val' ?_ h; intro k; simp [rd_ip, gt_set, List.set_set, hi, mvPart]
theorem laws_markPartS_l (l : List IP) (kk : Int) (hl : l.length ≤ 1073741824) (h0 : 0 ≤ kk) (h1 : kk ≤ 1073741824) (d : Nat) : ∀ i : Nat, i + d = l.length →
  Ev (fun k => laws_markPartS.l0 k (mkPart kk i ++ l.drop i) (kk + 3 * (i : Int)) (i : Int)) (kk + 3 * (l.length : Int), mkPart kk l.length) := by
 induction d with
 | zero =>
  intro i hi
  refine Ev.step (fun k => by rw [laws_markPartS.l0]) ?_
  refine ev_neg (by simp [mkPart_len]; omega) (ev_ret ?_)
  have : i = l.length := by omega
  subst this; simp
 | succ d ih =>
  intro i hi
  refine laws_markPartS_r _ _ i (by simp [mkPart_len]; omega) (by simp [mkPart_len]; omega) (by omega) (by omega) ?_
  have e : (mkPart kk i ++ l.drop i).set i (mvPart (kk + 3 * (i : Int))) = mkPart kk (i + 1) ++ l.drop (i + 1) := by
   rw [gt_drop izP l i (by omega), List.set_append_right _ _ (by simp [mkPart_len]), mkPart_len, Nat.sub_self, mkPart_succ]; simp
  have e2 : kk + 3 * (i : Int) + 3 = kk + 3 * ((i + 1 : Nat) : Int) := by omega
  rw [e, e2]
  exact ih (i + 1) (by omega)
theorem laws_markPartS_f (l : List IP) (kk : Int) (hl : l.length ≤ 1073741824) (h0 : 0 ≤ kk) (h1 : kk ≤ 1073741824) :
  Ev (fun k => laws_markPartS.f k l kk) (kk + 3 * (l.length : Int), mkPart kk l.length) := by
 unfold laws_markPartS.f
 have := laws_markPartS_l l kk hl h0 h1 l.length 0 (by omega)
 have e0 : mkPart kk 0 ++ l.drop 0 = l := by simp [mkPart]
 have e1 : kk + 3 * ((0 : Nat) : Int) = kk := by omega
 rw [e0, e1] at this
 exact this
theorem laws_heldMarkS_l (kk : Int) (n : Nat) (hl : n ≤ 1073741824) (h0 : 0 ≤ kk) (h1 : kk ≤ 1073741824) (d : Nat) : ∀ i : Nat, i + d = n →
  Ev (fun k => laws_heldMarkS.l0 k (mkMark kk n) (kk + 3 * (i : Int)) (i : Int)) (kk + 3 * (n : Int)) := by
 induction d with
 | zero =>
  intro i hi
  refine Ev.step (fun k => by rw [laws_heldMarkS.l0]) ?_
  refine ev_neg (by rw [mkMark_len]; omega) (ev_ret ?_)
  have : i = n := by omega
  subst this; rfl
 | succ d ih =>
  intro i hi
  have hn : i < n := by omega
  have ih' := ih (i + 1) (by omega)
  refine Ev.step (fun k => by rw [laws_heldMarkS.l0]) ?_
  refine ev_pos (by rw [mkMark_len]; omega) (ev_pos (by omega) ?_)
  have e2 : kk + 3 * ((i + 1 : Nat) : Int) = kk + 3 * (i : Int) + 3 := by omega
  rw [e2] at ih'
  have g0 : 0 ≤ kk + 3 * (i : Int) := by omega
  have g1 : kk + 3 * (i : Int) ≤ 1152921504606846976 := by omega
  simp only [rd_im, mkMark_gt _ _ _ hn]
  generalize kk + 3 * (i : Int) = kk at g0 g1 ih' ⊢
  have w1 : wrap64 (kk + 1) = kk + 1 := by unfold wrap64; omega
  have w2 : wrap64 ((kk + 1) + 1) = kk + 2 := by unfold wrap64; omega
  have w3 : wrap64 ((kk + 2) + 1) = kk + 3 := by unfold wrap64; omega
  simp only [w1, w2, w3, wrap_succ i (by omega)]
  refine ev_pos rfl ?_
  refine ev_pos rfl ?_
  refine Ev.bind (MT_ev _ (by omega) (by omega)) ?_
  refine ev_pos rfl ?_
  exact ih'
theorem laws_heldMarkS_f (kk : Int) (n : Nat) (hl : n ≤ 1073741824) (h0 : 0 ≤ kk) (h1 : kk ≤ 1073741824) :
  Ev (fun k => laws_heldMarkS.f k (mkMark kk n) kk) (kk + 3 * (n : Int)) := by
 unfold laws_heldMarkS.f
 have := laws_heldMarkS_l kk n hl h0 h1 n 0 (by omega)
 have e1 : kk + 3 * ((0 : Nat) : Int) = kk := by omega
 rw [e1] at this
 exact this
/-- The two places of a change, for every place at once. -/
structure Gp (l : List IP) (g : List Seg) (a b : ByteArray) : Prop where
 norm : normI l = (flatS g ++ endL a b).map ofP
 ok : ∀ x ∈ g, SegOk 60 x
 took : tkS l 0 = ((dropL l).length : Int)
 size : (dropL l).length ≤ 300
 made : mkS l 0 = outS g + a.size
 byt : (byteS g).length ≤ (dropL l).length
 small : mkS l 0 ≤ 300
 gap : ∀ p : Nat, p ≤ (dropL l).length → Ev (fun k => spec_l5Gap.f k l (p : Int)) (gapS g a p 0 0)
 mov : ∀ (p : Nat) (af : Bool), p ≤ (dropL l).length → Ev (fun k => impl_movePlace.f k (normI l) (p : Int) af) (if af = true then (gapS g a p 0 0).2 else (gapS g a p 0 0).1)
theorem Gp_of (l : List IP) (hg : goodO l = true) : ∃ g a b, Gp l g a b := by
 obtain ⟨hl, hp, ht, hm⟩ := goodO_facts hg
 have hB := dropL_len l hp
 have etk := tk_drop l hp 0 (Int.le_refl _) (by omega)
 rw [Int.zero_add] at etk
 obtain ⟨g, u, v, e, s1, s2, s3, s4, s5, s6⟩ := norm_segs l hl hp
 have hone : ∀ p ∈ l, One p := fun p h => part_one (hp p h)
 have em : mkS l 0 = outS g + u.size := by
  have hm : ∀ L : List Pt, madeI (L.map ofP) = madeP L := fun L => by
   induction L with
   | nil => rfl
   | cons q r ih => rw [List.map_cons, madeI, madeP, ih]; rfl
  rw [mk_made l hp 0 (Int.le_refl _) (by omega), ← norm_made l hl hp, e, hm, madeP_app, madeP_endL, madeP_flat]; omega
 have hall : ∀ an : Nat, an ≤ (dropL l).length → Ev (fun k => spec_l5Gap.f k l (an : Int)) (gapS g u an 0 0) ∧ ∀ af : Bool, Ev (fun k => impl_movePlace.f k (normI l) (an : Int) af) (if af = true then (gapS g u an 0 0).2 else (gapS g u an 0 0).1) := by
  intro an han
  obtain ⟨lo, hi, r0, r1, r2⟩ := move_all l hl hp u v (by omega) (by omega) s4 an (by omega) g s1 [] 0 0 (by simp; omega) (Nat.zero_le _) (Int.le_refl _) (by simp) (by rw [List.drop_zero]; exact s5.symm)
  rw [← r0]
  rw [List.nil_append, ← e] at r1
  constructor
  ·unfold spec_l5Gap.f
   exact Ev.bind (spec_l3Normal_f l hl hone) r1
  ·intro af
   unfold impl_movePlace.f
   have := r2 af
   rw [List.nil_append, ← e] at this
   exact this
 exact ⟨g, u, v, e, s1, etk, by omega, em, by rw [← s5, List.length_append]; omega, hm, fun p h => (hall p h).1, fun p af h => (hall p h).2 af⟩
def mvF (g : List Seg) (a : ByteArray) (m : IM) : Int := (gapS g a m.f0.toNat 0 0).2
def mvT (g : List Seg) (a : ByteArray) (m : IM) : Int := (gapS g a m.f1.toNat 0 0).1
def mvL (g : List Seg) (a : ByteArray) : List IM → List IM
 | [] => []
 | m :: r => if mvF g a m < mvT g a m then ⟨mvF g a m, mvT g a m, m.f2⟩ :: mvL g a r else mvL g a r
theorem mvL_mem (g : List Seg) (a : ByteArray) : ∀ (l : List IM) (x : IM), x ∈ mvL g a l → ∃ y ∈ l, x = ⟨mvF g a y, mvT g a y, y.f2⟩ ∧ mvF g a y < mvT g a y
 | [], x, h => by cases h
 | m :: r, x, h => by
  unfold mvL at h
  split at h
  ·rename_i c
   rcases List.mem_cons.1 h with e | h
   ·exact ⟨m, List.mem_cons_self .., e, c⟩
   ·obtain ⟨y, hy, q⟩ := mvL_mem g a r x h
    exact ⟨y, List.mem_cons_of_mem _ hy, q⟩
  ·obtain ⟨y, hy, q⟩ := mvL_mem g a r x h
   exact ⟨y, List.mem_cons_of_mem _ hy, q⟩
theorem mvL_len (g : List Seg) (a : ByteArray) : ∀ l : List IM, (mvL g a l).length ≤ l.length
 | [] => Nat.le_refl _
 | m :: r => by
  have := mvL_len g a r
  unfold mvL
  split <;> simp only [List.length_cons] <;> omega
theorem mvL_pair (g : List Seg) (a : ByteArray) (hg : ∀ x ∈ g, SegOk 60 x) : ∀ l : List IM, (∀ x ∈ l, 0 ≤ x.f0 ∧ x.f0 < x.f1) → (l.map tkM).Pairwise (fun a b => SepM ltB a b ∧ a.f < a.t) → ((mvL g a l).map tkM).Pairwise (fun a b => ltB a.s b.s ∨ (a.s = b.s ∧ a.f < b.f))
 | [], _, _ => List.Pairwise.nil
 | m :: r, hl, hp => by
  rw [List.map_cons] at hp
  obtain ⟨p1, p2⟩ := List.pairwise_cons.1 hp
  have ih := mvL_pair g a hg r (fun x hx => hl x (List.mem_cons_of_mem _ hx)) p2
  unfold mvL
  split
  ·rename_i c
   rw [List.map_cons]
   refine List.pairwise_cons.2 ⟨fun y hy => ?_, ih⟩
   obtain ⟨z, hz, rfl⟩ := List.mem_map.1 hy
   obtain ⟨x, hx, rfl, c2⟩ := mvL_mem g a r z hz
   have hm := hl m (List.mem_cons_self ..)
   have hx2 := hl x (List.mem_cons_of_mem _ hx)
   rcases (p1 (tkM x) (List.mem_map.2 ⟨x, hx, rfl⟩)).1 with q | ⟨q, q2⟩
   ·exact .inl q
   ·refine .inr ⟨q, ?_⟩
    show mvF g a m < mvF g a x
    have q3 : m.f1 < x.f0 := q2
    have h1 := (gap_mono g hg a m.f1.toNat x.f0.toNat 0 0 (by omega)).1
    have h2 := (gap_low g hg a x.f0.toNat 0 0).2
    unfold mvF mvT at *
    omega
  ·exact ih
theorem mvL_mark (l : List IP) (g : List Seg) (a b : ByteArray) (h : Gp l g a b) (L : List IM) (hL : ∀ x ∈ L, markB x (tkS l 0) = true) : ∀ x ∈ mvL g a L, markB x (mkS l 0) = true := by
 intro x hx
 obtain ⟨y, hy, rfl, c⟩ := mvL_mem g a L x hx
 obtain ⟨m1, m2, m3, m4⟩ := (markB_iff y _).1 (hL y hy)
 refine (markB_iff _ _).2 ⟨m1, ?_, c, ?_⟩
 ·show 0 ≤ mvF g a y
  have := gap_low g h.ok a y.f0.toNat 0 0
  unfold mvF; omega
 ·show mvT g a y ≤ mkS l 0
  have h1 := gap_low g h.ok a y.f1.toNat 0 0
  have ht := h.took
  have h2 := (gap_mono g h.ok a y.f1.toNat (dropL l).length 0 0 (by omega)).2
  have h3 := gap_last g h.ok a (dropL l).length 0 0 (by have := h.byt; omega)
  have := h.made
  unfold mvT; omega
theorem jI_all (size : Int) : ∀ (l : List IM) (a : IM), markB a size = true → (∀ x ∈ l, markB x size = true) → ∀ x ∈ jI a l, markB x size = true
 | [], a, ha, _, x, hx => by rw [jI, List.mem_singleton] at hx; rw [hx]; exact ha
 | m :: l, a, ha, hl, x, hx => by
  have hm := hl m (List.mem_cons_self ..)
  have hl' := fun y hy => hl y (List.mem_cons_of_mem _ hy)
  unfold jI at hx
  split at hx
  ·refine jI_all size l _ ?_ hl' x hx
   obtain ⟨a1, a2, a3, a4⟩ := (markB_iff a size).1 ha
   obtain ⟨m1, m2, m3, m4⟩ := (markB_iff m size).1 hm
   refine (markB_iff _ size).2 ⟨a1, a2, ?_, ?_⟩
   ·show a.f0 < mx a.f1 m.f1
    rw [mx_max]; omega
   ·show mx a.f1 m.f1 ≤ size
    rw [mx_max]; omega
  ·rcases List.mem_cons.1 hx with rfl | hx
   ·exact ha
   ·exact jI_all size l m hm hl' x hx
theorem jI_len : ∀ (l : List IM) (a : IM), (jI a l).length ≤ l.length + 1
 | [], a => Nat.le_refl _
 | m :: l, a => by
  unfold jI
  split
  ·have := jI_len l ⟨a.f0, mx a.f1 m.f1, a.f2⟩; simp only [List.length_cons]; omega
  ·have := jI_len l m; simp only [List.length_cons]; omega
theorem jIL_good (size : Int) (l : List IM) (hl : ∀ x ∈ l, markB x size = true) (hs : (l.map tkM).Pairwise (KleM ltB)) (hn : l.length ≤ 40) (h0 : 0 ≤ size ∧ size ≤ 300) : goodM (jIL l) size = true ∧ (∀ x ∈ jIL l, markB x size = true) ∧ (jIL l).length ≤ 40 := by
 cases l with
 | nil =>
  refine ⟨?_, fun x hx => (by cases hx), Nat.zero_le _⟩
  unfold goodM jIL
  rw [decide_eq_true h0]; rfl
 | cons m l =>
  have ha := jI_all size l m (hl m (List.mem_cons_self ..)) (fun x hx => hl x (List.mem_cons_of_mem _ hx))
  have hlen := jI_len l m
  rw [List.length_cons] at hn
  have hf : ∀ x ∈ m :: l, x.f0 < x.f1 := fun x hx => ((markB_iff x size).1 (hl x hx)).2.2.1
  have hG : GoodLM ltB ((jI m l).map tkM) := by
   rw [jI_tk]
   refine jn_goodLM ltB _ _ (hf m (List.mem_cons_self ..)) (fun x hx => ?_) hs
   obtain ⟨y, hy, rfl⟩ := List.mem_map.1 hx
   exact hf y (List.mem_cons_of_mem _ hy)
  refine ⟨?_, ha, by show (jI m l).length ≤ 40; omega⟩
  unfold goodM
  rw [show jIL (m :: l) = jI m l from rfl, lm_goodL size _ none hG ha (fun _ _ _ q => by cases q), decide_eq_true (show (jI m l).length ≤ 40 by omega), decide_eq_true h0]; rfl
theorem kle_of (l : List (MkO (List UInt8))) (h : l.Pairwise (fun a b => ltB a.s b.s ∨ (a.s = b.s ∧ a.f < b.f))) : l.Pairwise (KleM ltB) :=
 h.imp (fun {a b} q => by
  rcases q with q | ⟨q, q2⟩
  ·exact .inl q
  ·exact .inr ⟨q, by omega⟩)
theorem spec_MoveMarks_l (l : List IP) (g : List Seg) (a b : ByteArray) (h : Gp l g a b) (L : List IM) (hL : ∀ x ∈ L, markB x (tkS l 0) = true) (hn : L.length ≤ 40) (d : Nat) : ∀ (i : Nat) (s : List IM), i + d = L.length → s.length ≤ i → (∀ x ∈ s, x.f0 < x.f1) → ((s ++ mvL g a (L.drop i)).map tkM).Pairwise (KleM ltB) →
  Ev (fun k => spec_MoveMarks.l0 k l (jIL s) L (L.length : Int) (i : Int)) (jIL (s ++ mvL g a (L.drop i)), true) := by
 induction d with
 | zero =>
  intro i s hi hs hf hp
  refine Ev.step (fun k => by rw [spec_MoveMarks.l0]) ?_
  refine ev_neg (by omega) (ev_ret ?_)
  rw [List.drop_eq_nil_of_le (by omega), mvL, List.append_nil]
 | succ d ih =>
  intro i s hi hs hf hp
  have hm := hL _ (gt_mem izM L i (by omega))
  rw [gt_drop izM L i (by omega)] at hp ⊢
  refine Ev.step (fun k => by rw [spec_MoveMarks.l0]) ?_
  refine ev_pos (by omega) (ev_pos (by omega) (ev_pos (by omega) ?_))
  rw [wrap_succ i (by omega)]
  simp only [rd_im]
  generalize gt izM L i = m at hm hp
  obtain ⟨m1, m2, m3, m4⟩ := (markB_iff m _).1 hm
  have ht := h.took
  have g0 := h.gap m.f0.toNat (by omega)
  have g1 := h.gap m.f1.toNat (by omega)
  rw [show ((m.f0.toNat : Nat) : Int) = m.f0 by omega] at g0
  rw [show ((m.f1.toNat : Nat) : Int) = m.f1 by omega] at g1
  have hz : jIL s = [] ∨ True := .inr trivial
  have hjl : (jIL s).length ≤ s.length + 1 := by
   cases s with
   | nil => exact Nat.zero_le _
   | cons x s => have := jI_len s x; show (jI x s).length ≤ _; rw [List.length_cons]; omega
  refine Ev.bind g0 (Ev.bind g1 (ev_if (fun c => ?_) (fun c => ?_)))
  ·have c' : mvF g a m < mvT g a m := c
   have hadd := spec_l5Add_f (jIL s) (⟨mvF g a m, mvT g a m, m.f2⟩ : IM) (by omega)
   refine Ev.bind hadd ?_
   rw [mvL, if_pos c', show s ++ (⟨mvF g a m, mvT g a m, m.f2⟩ : IM) :: mvL g a (L.drop (i + 1)) = (s ++ [(⟨mvF g a m, mvT g a m, m.f2⟩ : IM)]) ++ mvL g a (L.drop (i + 1)) by simp] at hp ⊢
   have hp1 : ((s ++ [(⟨mvF g a m, mvT g a m, m.f2⟩ : IM)]).map tkM).Pairwise (KleM ltB) := by
    rw [List.map_append] at hp
    exact (List.pairwise_append.1 hp).1
   have e : addI false (jIL s) (⟨mvF g a m, mvT g a m, m.f2⟩ : IM) = jIL (s ++ [(⟨mvF g a m, mvT g a m, m.f2⟩ : IM)]) := by
    refine tkM_map_inj ?_
    rw [addI_tk, jIL_tk, jIL_tk, List.map_append]
    refine fold_add (s.map tkM) (tkM ⟨mvF g a m, mvT g a m, m.f2⟩) c' (fun x hx => ?_) (by rw [List.map_append] at hp1; exact hp1)
    obtain ⟨y, hy, rfl⟩ := List.mem_map.1 hx
    exact hf y hy
   rw [e]
   refine ih (i + 1) _ (by omega) (by rw [List.length_append]; simp only [List.length_cons, List.length_nil]; omega) (fun x hx => ?_) hp
   rcases List.mem_append.1 hx with hx | hx
   ·exact hf x hx
   ·rw [List.mem_singleton.1 hx]; exact c'
  ·have c' : ¬ mvF g a m < mvT g a m := c
   rw [mvL, if_neg c'] at hp ⊢
   exact ih (i + 1) s (by omega) (by omega) hf hp
theorem impl_joined_f2 (l : List IM) (hl : l.length ≤ 1000000) (hok : l.all okM = true) (hs : (l.map tkM).Pairwise (fun a b => ltB a.s b.s ∨ (a.s = b.s ∧ a.f < b.f))) : Ev (fun k => impl_joined.f k l) (jIL l) := by
 cases l with
 | nil =>
  unfold impl_joined.f
  refine ev_eq (a := ([] : List IM)) rfl (ev_eq (a := ([] : List IM)) (by unfold impl_Mark_73.f; exact if_pos rfl) ?_)
  exact impl_joined_s [] _ rfl (by simp)
 | cons x l =>
  have := impl_joined_f (x :: l) (by simp) hl hok
  rw [srt_id (x :: l) hok hs] at this
  exact this
theorem impl_goodMarks_f2 (l : List IM) (size : Int) (hl : l.length ≤ 40) (hw : ∀ x ∈ l, markB x size = true) (hg : goodM l size = true) : Ev (fun k => impl_goodMarks.f k l size) (l, true) := by
 unfold impl_goodMarks.f
 have hgm := impl_GoodMarks_f l size (by omega) (fun x hx => by have := style_size _ ((markB_iff x size).1 (hw x hx)).1; omega)
 rw [hg] at hgm
 exact Ev.bind hgm (ev_pos rfl (ev_ret rfl))
theorem impl_MoveMarks_l (l : List IP) (g : List Seg) (a b : ByteArray) (h : Gp l g a b) (L : List IM) (hL : ∀ x ∈ L, markB x (tkS l 0) = true) (hn : L.length ≤ 40) (size : Int) (R : List IM × Bool) (d : Nat) : ∀ (i : Nat) (s : List IM), i + d = L.length → s.length ≤ i →
  Ev (fun k => (impl_joined.f k (s ++ mvL g a (L.drop i))).bind fun t => (impl_goodMarks.f k t size).bind fun bt => some (bt.1, bt.2)) R →
  Ev (fun k => impl_MoveMarks.l0 k (normI l) size s L (L.length : Int) (i : Int)) R := by
 induction d with
 | zero =>
  intro i s hi hs hr
  refine Ev.step (fun k => by rw [impl_MoveMarks.l0]) ?_
  refine ev_neg (by omega) ?_
  rw [List.drop_eq_nil_of_le (by omega), mvL, List.append_nil] at hr
  exact hr
 | succ d ih =>
  intro i s hi hs hr
  have hm := hL _ (gt_mem izM L i (by omega))
  rw [gt_drop izM L i (by omega)] at hr
  refine Ev.step (fun k => by rw [impl_MoveMarks.l0]) ?_
  refine ev_pos (by omega) (ev_pos (by omega) (ev_pos (by omega) ?_))
  rw [wrap_succ i (by omega)]
  simp only [rd_im]
  generalize gt izM L i = m at hm hr
  obtain ⟨m1, m2, m3, m4⟩ := (markB_iff m _).1 hm
  have ht := h.took
  have g0 := h.mov m.f0.toNat true (by omega)
  have g1 := h.mov m.f1.toNat false (by omega)
  rw [show ((m.f0.toNat : Nat) : Int) = m.f0 by omega, if_pos rfl] at g0
  rw [show ((m.f1.toNat : Nat) : Int) = m.f1 by omega, if_neg Bool.false_ne_true] at g1
  refine Ev.bind g0 (Ev.bind g1 (ev_if (fun c => ev_pos (by omega) ?_) (fun c => ?_)))
  ·have c' : mvF g a m < mvT g a m := c
   rw [mvL, if_pos c', show s ++ (⟨mvF g a m, mvT g a m, m.f2⟩ : IM) :: mvL g a (L.drop (i + 1)) = (s ++ [(⟨mvF g a m, mvT g a m, m.f2⟩ : IM)]) ++ mvL g a (L.drop (i + 1)) by simp] at hr
   exact ih (i + 1) _ (by omega) (by rw [List.length_append]; simp only [List.length_cons, List.length_nil]; omega) hr
  ·have c' : ¬ mvF g a m < mvT g a m := c
   rw [mvL, if_neg c'] at hr
   exact ih (i + 1) s (by omega) (by omega) hr
theorem MoveMarks_f (l : List IP) (L : List IM) (hl : l.length ≤ 1048576) (hw : ∀ x ∈ l, x.f1.size ≤ 1048576 ∧ x.f2.size ≤ 1048576) (hn : L.length ≤ 1048576) (hv : ∀ x ∈ L, x.f2.size ≤ 1048576) :
  ∃ R : List IM × Bool, R.1.length ≤ 40 ∧ Ev (fun k => spec_MoveMarks.f k l L) R ∧ Ev (fun k => impl_MoveMarks.f k l L) R := by
 have sno : Ev (fun k => spec_MoveMarks.j0 k l L true) ([], false) := by
  refine Ev.step (fun k => by rw [spec_MoveMarks.j0]) ?_
  exact ev_pos rfl (ev_ret rfl)
 have ino : ∀ z : Int, Ev (fun k => impl_MoveMarks.j0 k l L z true) ([], false) := fun z => by
  refine Ev.step (fun k => by rw [impl_MoveMarks.j0]) ?_
  exact ev_pos rfl (ev_ret rfl)
 unfold spec_MoveMarks.f impl_MoveMarks.f impl_SizesOf.f
 by_cases hg : goodO l = true
 ·obtain ⟨hl60, hp, ht, hm⟩ := goodO_facts hg
  obtain ⟨g, a, b, h⟩ := Gp_of l hg
  have hone : ∀ p ∈ l, One p := fun p h => part_one (hp p h)
  have hsz : Ev (fun k => (impl_GoodOp.f k l).bind fun t => if t = true then (impl_sizes.f k l).bind fun b => some (b.1, b.2, true) else some (0, 0, false)) (tkS l 0, mkS l 0, true) := Ev.bind (impl_GoodOp_f l hw) (ev_pos hg (Ev.bind (impl_sizes_f l (by omega)) (ev_ret rfl)))
  by_cases hM : goodM L (tkS l 0) = true
  ·obtain ⟨g1, g2, g3⟩ := goodM_size hM
   have hG : goodL (tkS l 0) none L = true := by unfold goodM at hM; rw [Bool.and_eq_true] at hM; exact hM.1
   obtain ⟨q1, q2⟩ := goodL_lm (tkS l 0) L none hG
   have hmk := mvL_mark l g a b h L q2
   have hpr := mvL_pair g a h.ok L (fun x hx => by have := (markB_iff x _).1 (q2 x hx); omega) (good_pair ltB ltB_trans _ q1)
   have hlen := mvL_len g a L
   have hm0 : 0 ≤ mkS l 0 := by
    rw [h.made]
    have h1 := gap_low g h.ok a (dropL l).length 0 0
    have h3 := gap_last g h.ok a (dropL l).length 0 0 (by have := h.byt; omega)
    omega
   obtain ⟨k1, k2, k3⟩ := jIL_good (mkS l 0) (mvL g a L) hmk (kle_of _ hpr) (by omega) ⟨hm0, hm⟩
   refine ⟨(jIL (mvL g a L), true), k3, ?_, ?_⟩
   ·refine Ev.bind (spec_l3Sizes_f l (by omega)) (Ev.bind (spec_GoodOp_f l hw) (ev_pos hg (Ev.bind (spec_GoodMarks_f L (tkS l 0) hn hv) ?_)))
    rw [hM]
    refine Ev.step (fun k => by rw [spec_MoveMarks.j0]) ?_
    refine ev_neg (by simp) ?_
    exact spec_MoveMarks_l l g a b h L q2 g1 L.length 0 [] (by omega) (by simp) (fun x hx => by cases hx) (kle_of _ hpr)
   ·refine Ev.bind hsz (ev_pos rfl (Ev.bind (impl_GoodMarks_f L (tkS l 0) hn hv) ?_))
    rw [hM]
    refine Ev.step (fun k => by rw [impl_MoveMarks.j0]) ?_
    refine ev_neg (by simp) (ev_eq (impl_normal_f l hl60 hone) ?_)
    refine impl_MoveMarks_l l g a b h L q2 g1 (mkS l 0) _ L.length 0 [] (by omega) (by simp) ?_
    have hok : (mvL g a L).all okM = true := List.all_eq_true.2 fun x hx => by
     have := (markB_iff x _).1 (hmk x hx)
     unfold okM
     rw [Bool.and_eq_true, decide_eq_true_eq, decide_eq_true_eq]
     omega
    exact Ev.bind (impl_joined_f2 (mvL g a L) (by omega) hok hpr) (Ev.bind (impl_goodMarks_f2 _ _ k3 k2 k1) (ev_ret rfl))
  ·refine ⟨([], false), Nat.zero_le _, ?_, ?_⟩
   ·refine Ev.bind (spec_l3Sizes_f l (by omega)) (Ev.bind (spec_GoodOp_f l hw) (ev_pos hg (Ev.bind (spec_GoodMarks_f L (tkS l 0) hn hv) ?_)))
    rw [show goodM L (tkS l 0) = false by simpa using hM]; exact sno
   ·refine Ev.bind hsz (ev_pos rfl (Ev.bind (impl_GoodMarks_f L (tkS l 0) hn hv) ?_))
    rw [show goodM L (tkS l 0) = false by simpa using hM]; exact ino _
 ·refine ⟨([], false), Nat.zero_le _, ?_, ?_⟩
  ·exact Ev.bind (spec_l3Sizes_f l hl) (Ev.bind (spec_GoodOp_f l hw) (ev_neg hg sno))
  ·exact Ev.bind (a := ((0 : Int), (0 : Int), false)) (Ev.bind (impl_GoodOp_f l hw) (ev_neg hg (ev_ret rfl))) (ev_neg (by simp) (ino _))
theorem szMarkS_g (l : List LM) (hl : l.length ≤ 9223372036854775807) (hw : ∀ x ∈ l, x.f2.size ≤ 9223372036854775807) (left : Int) (h0 : 0 ≤ left) (h1 : left ≤ 1048576) :
  ∃ v : Int, Ev (fun k => laws_szMarkS.f k l left) v ∧ (0 ≤ v → l.length ≤ 1048576 ∧ ∀ x ∈ l, x.f2.size ≤ 1048576) := by
 have e : wrap64 (left - (l.length : Int)) = left - (l.length : Int) := wrap_id (by omega) (by omega)
 by_cases c : left - (l.length : Int) < 0
 ·exact ⟨-1, by unfold laws_szMarkS.f; exact ev_pos (by rw [e]; exact c) (ev_ret rfl), fun h => by omega⟩
 ·refine ⟨szF (left - (l.length : Int)) (szM l), ?_, fun h => ⟨by omega, fun x hx => ?_⟩⟩
  ·unfold laws_szMarkS.f
   refine ev_neg (by rw [e]; exact c) ?_
   rw [e]
   exact laws_szMarkS_l l (by omega) hw l.length 0 _ (by omega) (by omega) (by omega)
  ·have h1 := szF_sum _ _ (by omega) h
   have h2 : x.f2.size ≤ (szM l).sum := le_sum (List.mem_map.2 ⟨x, hx, rfl⟩)
   omega
theorem FnExactMoveMarks : lZ.Pure := by
 intro op l ho hwo hl hw
 refine Ev.rounds ?_
 unfold lZ.f
 obtain ⟨v, hv, hb⟩ := laws_szPartS_g op ho (fun x hx => (hwo x hx).2) 1048576 (by omega) (by omega)
 refine Ev.bind hv (ev_if (fun _ => ev_ret rfl) (fun h => ?_))
 obtain ⟨h0, h1, h2⟩ := hb (by omega)
 obtain ⟨v2, hv2, hb2⟩ := szMarkS_g l hl (fun x hx => (hw x hx).2.2) v (by omega) (by omega)
 refine Ev.bind hv2 (ev_if (fun _ => ev_ret rfl) (fun h' => ?_))
 obtain ⟨h3, h4⟩ := hb2 (by omega)
 have hwa : ∀ x ∈ op.map cvP, x.f1.size ≤ 1048576 ∧ x.f2.size ≤ 1048576 := fun x hx => by obtain ⟨y, hy, rfl⟩ := List.mem_map.1 hx; exact h2 y hy
 have hla : (op.map cvP).length ≤ 1048576 := by simpa using h1
 have hwb : ∀ x ∈ l.map cvM, x.f2.size ≤ 1048576 := fun x hx => by obtain ⟨y, hy, rfl⟩ := List.mem_map.1 hx; exact h4 y hy
 have hlb : (l.map cvM).length ≤ 1048576 := by simpa using h3
 have hto := laws_toPartS_f op h1
 have htm := laws_toMarkS_f l h3
 obtain ⟨R, hr, hsp, him⟩ := MoveMarks_f (op.map cvP) (l.map cvM) hla hwa hlb hwb
 have heq := laws_eqMarkS_f R.1 (by omega)
 refine Ev.bind hto (Ev.bind htm (Ev.bind hsp (Ev.bind hto (Ev.bind htm (Ev.bind him (Ev.bind heq (ev_pos rfl ?_)))))))
 refine Ev.step (fun k => by rw [lZ.j0]) ?_
 refine ev_neg (by simp) (Ev.bind hto (Ev.bind (laws_eqPartS_f (op.map cvP) (by omega)) (ev_pos rfl (Ev.bind htm (Ev.bind (laws_eqMarkS_f (l.map cvM) (by omega)) (ev_pos rfl ?_))))))
 refine Ev.bind (laws_markPartS_f (op.map cvP) 1 (by omega) (by omega) (by omega)) (Ev.bind (laws_markMarkS_f (l.map cvM) _ (by omega) (by simp only; omega) (by simp only; omega)) (ev_neg (by simp only; omega) (Ev.bind heq (ev_pos rfl ?_))))
 refine Ev.step (fun k => by rw [lZ.j1]) ?_
 refine ev_neg (by simp) ?_
 have hh := laws_heldMarkS_f 1 R.1.length (by omega) (by omega) (by omega)
 refine Ev.bind (laws_markMarkS_f R.1 1 (by omega) (by omega) (by omega)) (Ev.bind hh (ev_neg (by first | omega | (simp only; omega)) (ev_pos rfl ?_)))
 refine Ev.bind hto (Ev.bind htm (Ev.bind him (Ev.bind heq (ev_pos rfl ?_))))
 refine Ev.step (fun k => by rw [lZ.j2]) ?_
 refine ev_neg (by simp) ?_
 exact Ev.bind hh (ev_neg (by first | omega | (simp only; omega)) (ev_pos rfl (ev_ret rfl)))
end Go.Proofs.Ytmhcmcdppimcpaa.Pure
