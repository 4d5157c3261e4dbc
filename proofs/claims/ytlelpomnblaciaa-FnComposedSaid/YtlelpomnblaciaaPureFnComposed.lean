/- FnComposed over plain functions: two drawn changes put together do what one behind the other does, and a third one may be put to either first; no condition. -/
import Derived.Test.YtlelpomnblaciaaPFnComposedx15
import Derived.Test.YtlelpomnblaciaaBase
import Derived.Test.YtlelpomnblaciaaMk
namespace Go.Proofs.Ytlelpomnblaciaa.Pure
open Go.RowKit Go.Proofs.Ytlelpomnblaciaa.PFnComposed Go.Proofs.YtlelpomnblaciaaW.PrintWords Go.Proofs.YtlelpomnblaciaaW.PrintLast Go.Proofs.Ytlelpomnblaciaa.Base Go.Proofs.Ytlelpomnblaciaa.Mk
set_option linter.unusedVariables false
set_option linter.unusedSimpArgs false
abbrev IP := S53
def By : IP := z53
theorem BE (l : List IP) (i : Nat) : rd_T53 l (i : Int) = gt By l i := rfl
theorem Aa (s : ByteArray) : s.toList = ([] : List UInt8) ↔ s.size = 0 := by
 rw [← List.length_eq_zero_iff]
 have := data_length s
 rw [ByteArray.toList_eq, this]
theorem Am {s : ByteArray} (h : s.size = 0) : s = (⟨#[]⟩ : ByteArray) := by
 obtain ⟨d⟩ := s
 have h' : d.size = 0 := h
 rw [Array.size_eq_zero_iff.1 h']
theorem AN (s : ByteArray) : s ++ (⟨#[]⟩ : ByteArray) = s := by
 apply ByteArray.ext; rw [ByteArray.data_append]; simp
theorem Ae (a b : ByteArray) : (a ++ b).size = a.size + b.size := ByteArray.size_append
def A4 (p : IP) : Prop := 0 ≤ p.f0 ∧ p.f0 ≤ 300 ∧ p.f1.size ≤ 300 ∧ p.f2.size ≤ 300 ∧ (p.f0 = 0 ∨ (p.f1.size = 0 ∧ p.f2.size = 0)) ∧ (p.f1.size = 0 ∨ p.f2.size = 0)
theorem BN (m : List IP) (z v : IP) : (m ++ [z]).set m.length v = m ++ [v] := by
 rw [List.set_append_right _ _ (Nat.le_refl _), Nat.sub_self]; rfl
theorem Fj (m : List IP) (y z v : IP) : (m ++ [y, z]).set m.length v = m ++ [v, z] := by
 rw [List.set_append_right _ _ (Nat.le_refl _), Nat.sub_self]; rfl
theorem FH (m : List IP) (y z : IP) : gt By (m ++ [y, z]) m.length = y := by
 unfold gt; rw [List.getD_eq_getElem?_getD, List.getElem?_append_right (Nat.le_refl _)]; simp
theorem Ce (m : List IP) (z : IP) : gt By (m ++ [z]) m.length = z := by
 unfold gt; rw [List.getD_eq_getElem?_getD, List.getElem?_append_right (Nat.le_refl _)]; simp
theorem Cq (m : List IP) (z : IP) (h : m.length ≤ 100000) : wrap64 (((m ++ [z]).length : Int) - 1) = (m.length : Int) := by
 rw [List.length_append, List.length_singleton, wrap_id (by omega) (by omega)]; omega
theorem Fw (l : List IP) (p : IP) (h0 : p.f0 = 0) (h1 : p.f1.size = 0) (h2 : p.f2.size = 0) : Ev (fun k => jA.f k l p.f0 p.f1 p.f2) l := by
 unfold jA.f
 rw [beq_iff_eq.2 ((Aa _).2 h2)]
 refine ev_pos h0 (ev_pos ((Aa _).2 h1) ?_)
 refine Ev.step (fun k => by rw [jA.j0]) ?_
 exact ev_pos rfl (ev_ret rfl)
theorem Dd (l : List IP) (p : IP) (h : p.f0 ≠ 0 ∨ p.f1.size ≠ 0 ∨ p.f2.size ≠ 0) {r : List IP} (hr : Ev (fun k => jA.j0 k l (l.length : Int) false p.f0 p.f1 p.f2) r) : Ev (fun k => jA.f k l p.f0 p.f1 p.f2) r := by
 unfold jA.f
 refine ev_if (fun h0 => ev_if (fun h1 => ?_) (fun _ => hr)) (fun _ => hr)
 rw [Aa] at h1
 have h2 : ¬ p.f2.toList = ([] : List UInt8) := by rw [Aa]; omega
 rw [beq_eq_false_iff_ne.2 h2]; exact hr
theorem Cr (p : IP) (h : p.f0 ≠ 0 ∨ p.f1.size ≠ 0 ∨ p.f2.size ≠ 0) : Ev (fun k => jA.f k [] p.f0 p.f1 p.f2) [p] := by
 refine Dd [] p h ?_
 refine Ev.step (fun k => by rw [jA.j0]) ?_
 exact ev_neg (by simp) (ev_pos (by simp) (ev_pos (by simp) (ev_ret rfl)))
theorem FT (m : List IP) (z p : IP) (hm : m.length ≤ 100000) (h : p.f0 ≠ 0 ∨ p.f1.size ≠ 0 ∨ p.f2.size ≠ 0) {r : List IP}
  (hr : Ev (fun k => jA.j1 k (m ++ [z]) ((m ++ [z]).length : Int) (decide (p.f0 > 0 ∧ z.f0 > 0)) p.f0 p.f1 p.f2 z.f0 z.f1 z.f2) r) : Ev (fun k => jA.f k (m ++ [z]) p.f0 p.f1 p.f2) r := by
 refine Dd _ p h ?_
 refine Ev.step (fun k => by rw [jA.j0]) ?_
 rw [Cq m z hm, BE, Ce]
 have hl : (m ++ [z]).length = m.length + 1 := by rw [List.length_append, List.length_singleton]
 refine ev_neg (by simp) (ev_neg (by omega) (ev_pos (by omega) (ev_pos (by omega) (ev_if (fun c => ?_) (fun c => ?_)))))
 ·simp only [c, true_and] at hr; exact hr
 rw [decide_eq_false (fun q => c q.1)] at hr; exact hr
theorem FM (m : List IP) (z p : IP) (hm : m.length ≤ 100000) (h : p.f0 ≠ 0 ∨ p.f1.size ≠ 0 ∨ p.f2.size ≠ 0) (h1 : ¬ (p.f0 > 0 ∧ z.f0 > 0)) {r : List IP}
  (hr : Ev (fun k => jA.j2 k (m ++ [z]) ((m ++ [z]).length : Int) (decide (p.f2.size ≠ 0 ∧ z.f2.size ≠ 0)) p.f0 p.f1 p.f2 z.f0 z.f1 z.f2) r) : Ev (fun k => jA.f k (m ++ [z]) p.f0 p.f1 p.f2) r := by
 refine FT m z p hm h ?_
 rw [decide_eq_false h1]
 refine Ev.step (fun k => by rw [jA.j1]) ?_
 refine ev_neg (by simp) (ev_if (fun c => ?_) (fun c => ?_))
 ·rw [Aa] at c
  rw [decide_eq_false (fun q => q.1 c)] at hr; exact hr
 rw [Aa] at c
 have e : (z.f2.toList != ([] : List UInt8)) = decide (p.f2.size ≠ 0 ∧ z.f2.size ≠ 0) := by
  by_cases q : z.f2.size = 0
  ·rw [decide_eq_false (fun x => x.2 q), bne_eq_false_iff_eq]; exact (Aa _).2 q
  ·rw [decide_eq_true ⟨c, q⟩, bne_iff_ne]; exact fun x => q ((Aa _).1 x)
 rw [e]; exact hr
theorem FI (m : List IP) (z p : IP) (hm : m.length ≤ 100000) (h : p.f0 ≠ 0 ∨ p.f1.size ≠ 0 ∨ p.f2.size ≠ 0) (h1 : ¬ (p.f0 > 0 ∧ z.f0 > 0)) (h2 : ¬ (p.f2.size ≠ 0 ∧ z.f2.size ≠ 0)) {r : List IP}
  (hr : Ev (fun k => jA.j3 k (m ++ [z]) ((m ++ [z]).length : Int) (decide (p.f1.size ≠ 0 ∧ z.f1.size ≠ 0)) p.f0 p.f1 p.f2 z.f0 z.f1 z.f2) r) : Ev (fun k => jA.f k (m ++ [z]) p.f0 p.f1 p.f2) r := by
 refine FM m z p hm h h1 ?_
 rw [decide_eq_false h2]
 refine Ev.step (fun k => by rw [jA.j2]) ?_
 refine ev_neg (by simp) (ev_if (fun c => ?_) (fun c => ?_))
 ·rw [Aa] at c
  rw [decide_eq_false (fun q => q.1 c)] at hr; exact hr
 rw [Aa] at c
 have e : (z.f1.toList != ([] : List UInt8)) = decide (p.f1.size ≠ 0 ∧ z.f1.size ≠ 0) := by
  by_cases q : z.f1.size = 0
  ·rw [decide_eq_false (fun x => x.2 q), bne_eq_false_iff_eq]; exact (Aa _).2 q
  ·rw [decide_eq_true ⟨c, q⟩, bne_iff_ne]; exact fun x => q ((Aa _).1 x)
 rw [e]; exact hr
theorem Ey (m : List IP) (z p : IP) (hm : m.length ≤ 100000) (h : p.f0 ≠ 0 ∨ p.f1.size ≠ 0 ∨ p.f2.size ≠ 0) (h1 : ¬ (p.f0 > 0 ∧ z.f0 > 0)) (h2 : ¬ (p.f2.size ≠ 0 ∧ z.f2.size ≠ 0)) (h3 : ¬ (p.f1.size ≠ 0 ∧ z.f1.size ≠ 0)) {r : List IP}
  (hr : Ev (fun k => jA.j4 k (m ++ [z]) ((m ++ [z]).length : Int) (decide (p.f1.size ≠ 0 ∧ z.f2.size ≠ 0)) p.f0 p.f1 p.f2 z.f0 z.f1 z.f2) r) : Ev (fun k => jA.f k (m ++ [z]) p.f0 p.f1 p.f2) r := by
 refine FI m z p hm h h1 h2 ?_
 rw [decide_eq_false h3]
 refine Ev.step (fun k => by rw [jA.j3]) ?_
 refine ev_neg (by simp) (ev_if (fun c => ?_) (fun c => ?_))
 ·rw [Aa] at c
  rw [decide_eq_false (fun q => q.1 c)] at hr; exact hr
 rw [Aa] at c
 have e : (z.f2.toList != ([] : List UInt8)) = decide (p.f1.size ≠ 0 ∧ z.f2.size ≠ 0) := by
  by_cases q : z.f2.size = 0
  ·rw [decide_eq_false (fun x => x.2 q), bne_eq_false_iff_eq]; exact (Aa _).2 q
  ·rw [decide_eq_true ⟨c, q⟩, bne_iff_ne]; exact fun x => q ((Aa _).1 x)
 rw [e]; exact hr
theorem FQ (m : List IP) (z p : IP) (hm : m.length ≤ 100000) (h1 : p.f0 > 0 ∧ z.f0 > 0) : Ev (fun k => jA.f k (m ++ [z]) p.f0 p.f1 p.f2) (m ++ [⟨wrap64 (z.f0 + p.f0), z.f1, z.f2⟩]) := by
 refine FT m z p hm (.inl (by omega)) ?_
 rw [decide_eq_true h1]
 refine Ev.step (fun k => by rw [jA.j1]) ?_
 rw [Cq m z hm, BE, Ce, Int.toNat_natCast, BN]
 exact ev_pos rfl (ev_pos (by omega) (ev_pos (by rw [List.length_append, List.length_singleton]; omega) (ev_ret rfl)))
theorem DY (m : List IP) (z p : IP) (hm : m.length ≤ 100000) (h1 : ¬ (p.f0 > 0 ∧ z.f0 > 0)) (h2 : p.f2.size ≠ 0 ∧ z.f2.size ≠ 0) (hs : z.f2.size + p.f2.size ≤ 9223372036854775807) : Ev (fun k => jA.f k (m ++ [z]) p.f0 p.f1 p.f2) (m ++ [⟨z.f0, z.f1, z.f2 ++ p.f2⟩]) := by
 refine FM m z p hm (.inr (.inr h2.1)) h1 ?_
 rw [decide_eq_true h2]
 refine Ev.step (fun k => by rw [jA.j2]) ?_
 rw [Cq m z hm, BE, Ce, Int.toNat_natCast, BN]
 exact ev_pos rfl (ev_pos (by omega) (ev_pos (by rw [List.length_append, List.length_singleton]; omega) (ev_pos hs (ev_ret rfl))))
theorem Gi (m : List IP) (z p : IP) (hm : m.length ≤ 100000) (h1 : ¬ (p.f0 > 0 ∧ z.f0 > 0)) (h2 : ¬ (p.f2.size ≠ 0 ∧ z.f2.size ≠ 0)) (h3 : p.f1.size ≠ 0 ∧ z.f1.size ≠ 0) (hs : z.f1.size + p.f1.size ≤ 9223372036854775807) : Ev (fun k => jA.f k (m ++ [z]) p.f0 p.f1 p.f2) (m ++ [⟨z.f0, z.f1 ++ p.f1, z.f2⟩]) := by
 refine FI m z p hm (.inr (.inl h3.1)) h1 h2 ?_
 rw [decide_eq_true h3]
 refine Ev.step (fun k => by rw [jA.j3]) ?_
 rw [Cq m z hm, BE, Ce, Int.toNat_natCast, BN]
 exact ev_pos rfl (ev_pos (by omega) (ev_pos (by rw [List.length_append, List.length_singleton]; omega) (ev_pos hs (ev_ret rfl))))
theorem BU (m : List IP) (z p : IP) (hm : m.length ≤ 100000) (h : p.f0 ≠ 0 ∨ p.f1.size ≠ 0 ∨ p.f2.size ≠ 0) (h1 : ¬ (p.f0 > 0 ∧ z.f0 > 0)) (h2 : ¬ (p.f2.size ≠ 0 ∧ z.f2.size ≠ 0)) (h3 : ¬ (p.f1.size ≠ 0 ∧ z.f1.size ≠ 0)) (h4 : ¬ (p.f1.size ≠ 0 ∧ z.f2.size ≠ 0)) : Ev (fun k => jA.f k (m ++ [z]) p.f0 p.f1 p.f2) (m ++ [z, p]) := by
 refine Ey m z p hm h h1 h2 h3 ?_
 rw [decide_eq_false h4]
 refine Ev.step (fun k => by rw [jA.j4]) ?_
 exact ev_neg (by simp) (ev_pos (by rw [List.length_append, List.length_singleton]; omega) (ev_ret (by rw [List.append_assoc]; rfl)))
theorem EJ (z p : IP) (h1 : ¬ (p.f0 > 0 ∧ z.f0 > 0)) (h2 : ¬ (p.f2.size ≠ 0 ∧ z.f2.size ≠ 0)) (h3 : ¬ (p.f1.size ≠ 0 ∧ z.f1.size ≠ 0)) (h4 : p.f1.size ≠ 0 ∧ z.f2.size ≠ 0) : Ev (fun k => jA.f k [z] p.f0 p.f1 p.f2) [p, z] := by
 refine Ey [] z p (by simp) (.inr (.inl h4.1)) h1 h2 h3 ?_
 rw [decide_eq_true h4]
 refine Ev.step (fun k => by rw [jA.j4]) ?_
 rw [Cq [] z (by simp), Int.toNat_natCast, BN]
 exact ev_pos rfl (ev_neg (by simp) (ev_pos (by simp) (ev_pos (by simp) (ev_eq rfl (ev_pos (by simp) (ev_ret rfl))))))
theorem GF (m : List IP) (y z : IP) (h : m.length ≤ 90000) : wrap64 (((m ++ [y, z]).length : Int) - 2) = (m.length : Int) := by
 have : (m ++ [y, z]).length = m.length + 2 := by rw [List.length_append]; rfl
 rw [this, wrap_id (by omega) (by omega)]; omega
theorem C4 (m : List IP) (y z p : IP) (hm : m.length ≤ 90000) (h1 : ¬ (p.f0 > 0 ∧ z.f0 > 0)) (h2 : ¬ (p.f2.size ≠ 0 ∧ z.f2.size ≠ 0)) (h3 : ¬ (p.f1.size ≠ 0 ∧ z.f1.size ≠ 0)) (h4 : p.f1.size ≠ 0 ∧ z.f2.size ≠ 0) (hs : y.f1.size + p.f1.size ≤ 9223372036854775807) :
  Ev (fun k => jA.f k (m ++ [y, z]) p.f0 p.f1 p.f2) (if y.f1.size = 0 then m ++ [y, p, z] else m ++ [⟨y.f0, y.f1 ++ p.f1, y.f2⟩, z]) := by
 have em : m ++ [y, z] = (m ++ [y]) ++ [z] := by rw [List.append_assoc]; rfl
 have hl1 : (m ++ [y]).length = m.length + 1 := by rw [List.length_append, List.length_singleton]
 have hl2 : (m ++ [y, z]).length = m.length + 2 := by rw [List.length_append]; rfl
 rw [em]
 refine Ey (m ++ [y]) z p (by omega) (.inr (.inl h4.1)) h1 h2 h3 ?_
 rw [decide_eq_true h4]
 refine Ev.step (fun k => by rw [jA.j4]) ?_
 rw [Cq (m ++ [y]) z (by omega), Int.toNat_natCast, BN]
 rw [← em, GF m y z hm, BE, FH, Int.toNat_natCast, Fj]
 refine ev_pos rfl (ev_pos (by omega) (ev_pos (by omega) (ev_pos (by omega) (ev_if (fun c => ?_) (fun c => ?_)))))
 rotate_left
 ·rw [Aa] at c
  rw [if_neg c]
  exact ev_pos hs (ev_ret rfl)
 rw [Aa] at c
 rw [if_pos c]
 refine ev_pos (by omega) (ev_pos (by omega) (ev_eq rfl (ev_pos (by rw [List.length_append, List.length_singleton]; omega) (ev_ret ?_))))
 rw [List.append_assoc, List.append_assoc]; rfl
structure Fit (n : Nat) (s : List Pt × ByteArray × ByteArray) : Prop where
 last : s.1 = [] ∨ ∃ m x, s.1 = m ++ [(x, (⟨#[]⟩ : ByteArray), (⟨#[]⟩ : ByteArray))] ∧ 0 < x ∧ x ≤ 300 * (n : Int)
 len : s.1.length ≤ 3 * n
 put : s.2.1.size ≤ 300 * n
 drop : s.2.2.size ≤ 300 * n
def Bw (s : List Pt × ByteArray × ByteArray) : List IP := (s.1 ++ endL s.2.1 s.2.2).map ofP
theorem Au {a b : ByteArray} (ha : a.size = 0) (hb : b.size = 0) : endL a b = [] := by
 unfold endL; rw [if_pos ((Aa _).2 ha), if_pos ((Aa _).2 hb)]; rfl
theorem AP {a b : ByteArray} (ha : a.size ≠ 0) (hb : b.size = 0) : endL a b = [(0, a, ⟨#[]⟩)] := by
 unfold endL; rw [if_neg (fun e => ha ((Aa _).1 e)), if_pos ((Aa _).2 hb)]; rfl
theorem AO {a b : ByteArray} (ha : a.size = 0) (hb : b.size ≠ 0) : endL a b = [(0, ⟨#[]⟩, b)] := by
 unfold endL; rw [if_pos ((Aa _).2 ha), if_neg (fun e => hb ((Aa _).1 e))]; rfl
theorem AG {a b : ByteArray} (ha : a.size ≠ 0) (hb : b.size ≠ 0) : endL a b = [(0, a, ⟨#[]⟩), (0, ⟨#[]⟩, b)] := by
 unfold endL; rw [if_neg (fun e => ha ((Aa _).1 e)), if_neg (fun e => hb ((Aa _).1 e))]; rfl
theorem DZ (a b : ByteArray) : (endL a b).length ≤ 2 := by unfold endL; rw [List.length_append]; split <;> split <;> simp
theorem BO : (⟨#[]⟩ : ByteArray).size = 0 := rfl
theorem Cs (m : List Pt) (q : Pt) (x : Int) : keepA (m ++ [q]) x = if q.1 > 0 then m ++ [(wrap64 (q.1 + x), q.2.1, q.2.2)] else m ++ [q, (x, ⟨#[]⟩, ⟨#[]⟩)] := by
 unfold keepA
 rw [List.getLast?_append]
 simp only [List.getLast?_singleton, Option.some_or]
 split
 ·rw [List.dropLast_concat]
 rw [List.append_assoc]; rfl
theorem Ar (n : Nat) (s : List Pt × ByteArray × ByteArray) (p : IP) (hn : n ≤ 1000) (hf : Fit n s) (hp : A4 p) :
  Ev (fun k => jA.f k (Bw s) p.f0 p.f1 p.f2) (Bw (takeP s (toP p))) ∧ Fit (n + 1) (takeP s (toP p)) := by
 obtain ⟨l, a, b⟩ := s
 obtain ⟨f1, f2, f3, f4⟩ := hf
 obtain ⟨p0, p1, p2⟩ := p
 obtain ⟨q1, q2, q3, q4, q5, q6⟩ := hp
 simp only at f1 f2 f3 f4 q1 q2 q3 q4 q5 q6
 have hel := DZ a b
 by_cases h0 : p0 = 0
 rotate_left
 ·-- bytes are kept
  obtain ⟨h1, h2⟩ := q5.resolve_left h0
  have hk : keepS l a b p0 = (keepA (l ++ endL a b) p0, ⟨#[]⟩, ⟨#[]⟩) := by unfold keepS; rw [if_neg h0]
  have et : takeP (l, a, b) (toP ⟨p0, p1, p2⟩) = (keepA (l ++ endL a b) p0, ⟨#[]⟩, ⟨#[]⟩) := by
   unfold takeP toP
   simp only [hk]
   rw [Am h1, Am h2, AN]
  rw [et, Am h1, Am h2]
  have hq : ∀ (M : List Pt) (q : Pt), l ++ endL a b = M ++ [q] → q.1 ≤ 300 * (n : Int) → (q.1 > 0 → q.2.1 = ⟨#[]⟩ ∧ q.2.2 = ⟨#[]⟩) →
    Ev (fun k => jA.f k (Bw (l, a, b)) p0 ⟨#[]⟩ ⟨#[]⟩) (Bw (keepA (l ++ endL a b) p0, ⟨#[]⟩, ⟨#[]⟩)) ∧ Fit (n + 1) (keepA (l ++ endL a b) p0, ⟨#[]⟩, ⟨#[]⟩) := by
   intro M q e hq1 hq2
   have hML : M.length + 1 ≤ 3 * n + 2 := by
    have := congrArg List.length e
    rw [List.length_append, List.length_append, List.length_singleton] at this
    omega
   unfold Bw
   simp only
   rw [Au BO BO, List.append_nil, e, Cs]
   by_cases hx : q.1 > 0
   ·rw [if_pos hx, List.map_append, List.map_append]
    refine ⟨FQ (M.map ofP) (ofP q) ⟨p0, ⟨#[]⟩, ⟨#[]⟩⟩ (by rw [List.length_map]; omega) ⟨by simp only; omega, hx⟩, ?_⟩
    rw [wrap_id (by omega) (by omega)]
    obtain ⟨e1, e2⟩ := hq2 hx
    refine ⟨.inr ⟨M, q.1 + p0, by rw [e1, e2], by omega, by omega⟩, ?_, Nat.zero_le _, Nat.zero_le _⟩
    simp only [List.length_append, List.length_cons, List.length_nil]; omega
   ·rw [if_neg hx, List.map_append, List.map_append]
    refine ⟨BU (M.map ofP) (ofP q) ⟨p0, ⟨#[]⟩, ⟨#[]⟩⟩ (by rw [List.length_map]; omega) (.inl (by simp only; omega)) (fun c => hx c.2) (by simp [BO]) (by simp [BO]) (by simp [BO]), ?_⟩
    refine ⟨.inr ⟨M ++ [q], p0, by rw [List.append_assoc]; rfl, by omega, by omega⟩, ?_, Nat.zero_le _, Nat.zero_le _⟩
    simp only [List.length_append, List.length_cons, List.length_nil]; omega
  by_cases ha : a.size = 0
  rotate_left
  ·by_cases hb : b.size = 0
   ·exact hq l (0, a, ⟨#[]⟩) (by rw [AP ha hb]) (by simp only; omega) (fun c => absurd c (by simp))
   exact hq (l ++ [(0, a, ⟨#[]⟩)]) (0, ⟨#[]⟩, b) (by rw [AG ha hb, List.append_assoc]; rfl) (by simp only; omega) (fun c => absurd c (by simp))
  by_cases hb : b.size = 0
  rotate_left
  ·exact hq l (0, ⟨#[]⟩, b) (by rw [AO ha hb]) (by simp only; omega) (fun c => absurd c (by simp))
  rcases f1 with e | ⟨m, x, e, hx, hx2⟩
  rotate_left
  ·exact hq m (x, ⟨#[]⟩, ⟨#[]⟩) (by rw [Au ha hb, List.append_nil]; exact e) (by simp only; omega) (fun _ => ⟨rfl, rfl⟩)
  subst e
  unfold Bw
  rw [Au ha hb]
  simp only [List.nil_append, List.map_nil]
  rw [Au BO BO]
  refine ⟨Cr ⟨p0, ⟨#[]⟩, ⟨#[]⟩⟩ (.inl h0), ⟨.inr ⟨[], p0, rfl, by omega, by omega⟩, by show 1 ≤ _; omega, Nat.zero_le _, Nat.zero_le _⟩⟩
 -- nothing is kept
 subst h0
 have et : takeP (l, a, b) (toP ⟨0, p1, p2⟩) = (l, a ++ p1, b ++ p2) := rfl
 rw [et]
 refine ⟨?_, ?_⟩
 rotate_left
 ·refine ⟨?_, by show l.length ≤ _; omega, by show (a ++ p1).size ≤ _; rw [Ae]; omega, by show (b ++ p2).size ≤ _; rw [Ae]; omega⟩
  rcases f1 with e | ⟨m, x, e, hx, hx2⟩
  ·exact .inl e
  exact .inr ⟨m, x, e, hx, by omega⟩
 unfold Bw
 simp only
 by_cases h1 : p1.size = 0
 ·by_cases h2 : p2.size = 0
  ·rw [Am h1, Am h2, AN, AN]
   exact Fw _ ⟨0, ⟨#[]⟩, ⟨#[]⟩⟩ rfl rfl rfl
  rw [Am h1, AN]
  by_cases hb : b.size = 0
  rotate_left
  ·have hb2 : (b ++ p2).size ≠ 0 := by rw [Ae]; omega
   by_cases ha : a.size = 0
   ·rw [AO ha hb, AO ha hb2, List.map_append, List.map_append]
    exact DY (l.map ofP) (ofP (0, ⟨#[]⟩, b)) ⟨0, ⟨#[]⟩, p2⟩ (by rw [List.length_map]; omega) (by simp) ⟨h2, hb⟩ (by simp only [ofP]; omega)
   rw [AG ha hb, AG ha hb2, List.map_append, List.map_append]
   have := DY (l.map ofP ++ [ofP (0, a, ⟨#[]⟩)]) (ofP (0, ⟨#[]⟩, b)) ⟨0, ⟨#[]⟩, p2⟩ (by rw [List.length_append, List.length_map, List.length_singleton]; omega) (by simp) ⟨h2, hb⟩ (by simp only [ofP]; omega)
   rw [List.append_assoc, List.append_assoc] at this; exact this
  rw [Am hb, show (⟨#[]⟩ : ByteArray) ++ p2 = p2 by apply ByteArray.ext; rw [ByteArray.data_append]; simp]
  by_cases ha : a.size = 0
  rotate_left
  ·rw [AP ha BO, AG ha h2, List.map_append, List.map_append]
   exact BU (l.map ofP) (ofP (0, a, ⟨#[]⟩)) ⟨0, ⟨#[]⟩, p2⟩ (by rw [List.length_map]; omega) (.inr (.inr h2)) (by simp) (by simp [ofP, BO]) (by simp [BO]) (by simp [BO])
  rw [Au ha BO, AO ha h2, List.append_nil, List.map_append]
  rcases f1 with e | ⟨m, x, e, hx, _⟩
  ·rw [e]; exact Cr ⟨0, ⟨#[]⟩, p2⟩ (.inr (.inr h2))
  rw [e, List.map_append]
  have := BU (m.map ofP) (ofP (x, ⟨#[]⟩, ⟨#[]⟩)) ⟨0, ⟨#[]⟩, p2⟩ (by rw [e] at f2; simp at f2 ⊢; omega) (.inr (.inr h2)) (by simp) (by simp [ofP, BO]) (by simp [BO]) (by simp [BO])
  rw [List.append_assoc]; exact this
 have h2 : p2.size = 0 := by omega
 rw [Am h2, AN]
 by_cases ha : a.size = 0
 rotate_left
 ·have ha2 : (a ++ p1).size ≠ 0 := by rw [Ae]; omega
  by_cases hb : b.size = 0
  ·rw [AP ha hb, AP ha2 hb, List.map_append, List.map_append]
   exact Gi (l.map ofP) (ofP (0, a, ⟨#[]⟩)) ⟨0, p1, ⟨#[]⟩⟩ (by rw [List.length_map]; omega) (by simp) (by simp [BO]) ⟨h1, ha⟩ (by simp only [ofP]; omega)
  rw [AG ha hb, AG ha2 hb, List.map_append, List.map_append]
  have := C4 (l.map ofP) (ofP (0, a, ⟨#[]⟩)) (ofP (0, ⟨#[]⟩, b)) ⟨0, p1, ⟨#[]⟩⟩ (by rw [List.length_map]; omega) (by simp) (by simp [BO]) (by simp [ofP, BO]) ⟨h1, hb⟩ (by simp only [ofP]; omega)
  rw [if_neg (by simp only [ofP]; exact ha)] at this
  exact this
 rw [Am ha, show (⟨#[]⟩ : ByteArray) ++ p1 = p1 by apply ByteArray.ext; rw [ByteArray.data_append]; simp]
 by_cases hb : b.size = 0
 ·rw [Au BO hb, AP h1 hb, List.append_nil, List.map_append]
  rcases f1 with e | ⟨m, x, e, hx, _⟩
  ·rw [e]; exact Cr ⟨0, p1, ⟨#[]⟩⟩ (.inr (.inl h1))
  rw [e, List.map_append]
  have := BU (m.map ofP) (ofP (x, ⟨#[]⟩, ⟨#[]⟩)) ⟨0, p1, ⟨#[]⟩⟩ (by rw [e] at f2; simp at f2 ⊢; omega) (.inr (.inl h1)) (by simp) (by simp [ofP, BO]) (by simp [ofP, BO]) (by simp [ofP, BO])
  rw [List.append_assoc]; exact this
 rw [AO BO hb, AG h1 hb, List.map_append, List.map_append]
 rcases f1 with e | ⟨m, x, e, hx, _⟩
 ·rw [e]; exact EJ (ofP (0, ⟨#[]⟩, b)) ⟨0, p1, ⟨#[]⟩⟩ (by simp) (by simp [BO]) (by simp [ofP, BO]) ⟨h1, hb⟩
 rw [e, List.map_append]
 have := C4 (m.map ofP) (ofP (x, ⟨#[]⟩, ⟨#[]⟩)) (ofP (0, ⟨#[]⟩, b)) ⟨0, p1, ⟨#[]⟩⟩ (by rw [e] at f2; simp at f2 ⊢; omega) (by simp) (by simp [BO]) (by simp [ofP, BO]) ⟨h1, hb⟩ (by simp only [ofP, BO]; omega)
 rw [if_pos (by rfl)] at this
 rw [List.append_assoc, List.append_assoc]; exact this
theorem CV : Fit 0 ([], (⟨#[]⟩ : ByteArray), (⟨#[]⟩ : ByteArray)) := ⟨.inl rfl, Nat.le_refl _, Nat.le_refl _, Nat.le_refl _⟩
def AA (l : List IP) : List IP := (normP (l.map toP)).map ofP
theorem D8 (a b c : Int) : yK.f a b c = some (decide (b ≤ a ∧ a ≤ c)) := by
 unfold yK.f; split <;> simp <;> omega
theorem C5 (c : Int) : yI.f c = some (openB c) := by
 unfold yI.f openB; split <;> simp <;> omega
theorem CU (c : Int) : yG.f c = some (plainB c) := by
 unfold yG.f plainB
 repeat' split
 all_goals (rw [Option.some.injEq, Bool.eq_iff_iff]; simp only [Bool.or_eq_true, decide_eq_true_eq, beq_iff_eq, true_iff]; omega)
theorem C8 (s : ByteArray) (hs : s.size ≤ 140737488351232) (d : Nat) : ∀ i : Nat, i + d = s.size → Ev (fun k => jO.l0 k s (i : Int)) (textB ((bytesOf s).drop i)) := by
 induction d with
 | zero =>
  intro i hi
  refine Ev.step (fun k => by rw [jO.l0]) ?_
  refine ev_neg (by omega) (ev_ret ?_)
  rw [drop_end s i (by omega)]; rfl
 | succ d ih =>
  intro i hi
  refine Ev.step (fun k => by rw [jO.l0]) ?_
  refine ev_pos (by omega) (ev_pos (by omega) (ev_eq (C5 _) ?_))
  rw [drop_bytes s i (by omega), wrap_succ i (by omega)]
  have ih' := ih (i + 1) (by omega)
  refine ev_if (fun h => ev_val ih' (by simp [textB, okB, h])) (fun h => ?_)
  refine ev_eq (CU _) (ev_if (fun h2 => ev_val ih' (by simp [textB, okB, h2])) (fun h2 => ?_))
  refine ev_if (fun h3 => ev_val ih' (by simp [textB, okB, h3])) (fun h3 => ev_ret ?_)
  simp [textB, okB, h, h2, h3]
theorem B0 (s : ByteArray) (hs : s.size ≤ 140737488351232) : Ev (fun k => jO.f k s) (textB (bytesOf s)) :=
 C8 s hs s.size 0 (by omega)
theorem A3 (s : ByteArray) (hs : s.size ≤ 140737488351232) : Ev (fun k => jW.f k s) (goodB (bytesOf s)) := by
 unfold jW.f goodB
 refine Ev.bind (B0 s hs) (ev_if (fun h => ev_ret ?_) (fun h => ev_ret ?_))
 rotate_left
 ·simp at h; simp [h]
 rw [h, bytesOf_length, Bool.true_and]; congr 1; simp; omega
theorem C9 (c : Int) : yH.f c = some (openB c) := by
 unfold yH.f openB; split <;> simp <;> omega
theorem CM (c : Int) : yF.f c = some (plainB c) := by
 unfold yF.f plainB
 repeat' split
 all_goals (rw [Option.some.injEq, Bool.eq_iff_iff]; simp only [Bool.or_eq_true, decide_eq_true_eq, beq_iff_eq, true_iff]; omega)
theorem Cy (s : ByteArray) (hs : s.size ≤ 140737488351232) (d : Nat) : ∀ i : Nat, i + d = s.size → Ev (fun k => jH.l0 k s (s.size : Int) (i : Int)) (textB ((bytesOf s).drop i) && decide (s.size ≤ 300)) := by
 induction d with
 | zero =>
  intro i hi
  refine Ev.step (fun k => by rw [jH.l0]) ?_
  refine ev_neg (by omega) (ev_ret ?_)
  rw [drop_end s i (by omega)]; simp [textB]; omega
 | succ d ih =>
  intro i hi
  refine Ev.step (fun k => by rw [jH.l0]) ?_
  refine ev_pos (by omega) (ev_pos (by omega) (ev_pos (by omega) (ev_eq (C9 _) ?_)))
  rw [drop_bytes s i (by omega), wrap_succ i (by omega)]
  have ih' := ih (i + 1) (by omega)
  refine ev_if (fun h => ev_val ih' (by simp [textB, okB, h])) (fun h => ?_)
  refine ev_eq (CM _) (ev_if (fun h2 => ev_val ih' (by simp [textB, okB, h2])) (fun h2 => ?_))
  refine ev_if (fun h3 => ev_val ih' (by simp [textB, okB, h3])) (fun h3 => ev_ret ?_)
  simp [textB, okB, h, h2, h3]
theorem A1 (s : ByteArray) (hs : s.size ≤ 140737488351232) : Ev (fun k => jH.f k s) (goodB (bytesOf s)) := by
 unfold jH.f
 refine ev_val (Cy s hs s.size 0 (by omega)) ?_
 simp [goodB, bytesOf_length]
def Af (p : IP) : Bool := if p.f0 = 0 then (if p.f1.toList = ([] : List UInt8) then (if p.f2.toList = ([] : List UInt8) then false else goodB (bytesOf p.f2)) else (if p.f2.toList = ([] : List UInt8) then goodB (bytesOf p.f1) else false)) else (decide (1 ≤ p.f0 ∧ p.f0 ≤ 300) && (decide (p.f1.toList = ([] : List UInt8)) && (p.f2.toList == ([] : List UInt8))))
theorem C7 (p : IP) (h1 : p.f1.size ≤ 140737488351232) (h2 : p.f2.size ≤ 140737488351232) : Ev (fun k => yC.f k p.f0 p.f1 p.f2) (Af p) := by
 unfold yC.f Af
 by_cases c0 : p.f0 = 0
 rotate_left
 ·rw [if_neg c0]
  refine ev_neg c0 (ev_eq (D8 _ _ _) ?_)
  refine ev_if (fun h => ?_) (fun h => ev_ret (by rw [Bool.not_eq_true] at h; rw [h]; rfl))
  rw [h, Bool.true_and]
  exact ev_if (fun h1 => ev_ret (by rw [decide_eq_true h1, Bool.true_and])) (fun h1 => ev_ret (by rw [decide_eq_false h1]; rfl))
 rw [if_pos c0]
 refine ev_pos c0 ?_
 by_cases c1 : p.f1.toList = ([] : List UInt8)
 ·rw [if_pos c1]
  refine ev_pos c1 ?_
  by_cases c2 : p.f2.toList = ([] : List UInt8)
  ·rw [if_pos c2]; exact ev_pos c2 (ev_ret rfl)
  rw [if_neg c2]; exact ev_neg c2 (Ev.bind (A3 _ h2) (ev_ret rfl))
 rw [if_neg c1]
 refine ev_neg c1 ?_
 by_cases c2 : p.f2.toList = ([] : List UInt8)
 rotate_left
 ·rw [if_neg c2]; exact ev_neg c2 (ev_ret rfl)
 rw [if_pos c2]; exact ev_pos c2 (Ev.bind (A3 _ h1) (ev_ret rfl))
theorem B2 (p : IP) (h1 : p.f1.size ≤ 140737488351232) (h2 : p.f2.size ≤ 140737488351232) : Ev (fun k => yB.f k p.f0 p.f1 p.f2) (Af p) := by
 unfold yB.f Af
 by_cases c0 : p.f0 = 0
 rotate_left
 ·rw [if_neg c0]
  refine ev_neg c0 ?_
  refine ev_if (fun h => ?_) (fun h => ev_ret (by rw [decide_eq_false (by omega)]; rfl))
  refine ev_if (fun h' => ?_) (fun h' => ev_ret (by rw [decide_eq_false (by omega)]; rfl))
  rw [decide_eq_true (show 1 ≤ p.f0 ∧ p.f0 ≤ 300 from ⟨h, h'⟩), Bool.true_and]
  exact ev_if (fun h1 => ev_ret (by rw [decide_eq_true h1, Bool.true_and])) (fun h1 => ev_ret (by rw [decide_eq_false h1]; rfl))
 rw [if_pos c0]
 refine ev_pos c0 ?_
 by_cases c1 : p.f1.toList = ([] : List UInt8)
 ·rw [if_pos c1]
  refine ev_pos c1 ?_
  by_cases c2 : p.f2.toList = ([] : List UInt8)
  ·rw [if_pos c2]; exact ev_pos c2 (ev_ret rfl)
  rw [if_neg c2]; exact ev_neg c2 (Ev.bind (A1 _ h2) (ev_ret rfl))
 rw [if_neg c1]
 refine ev_neg c1 ?_
 by_cases c2 : p.f2.toList = ([] : List UInt8)
 rotate_left
 ·rw [if_neg c2]; exact ev_neg c2 (ev_ret rfl)
 rw [if_pos c2]; exact ev_pos c2 (Ev.bind (A1 _ h1) (ev_ret rfl))
def Dm : List IP → Int → Int
 | [], a => a
 | p :: r, a => Dm r (wrap64 (a + wrap64 (p.f0 + (p.f2.size : Int))))
def DT : List IP → Int → Int
 | [], a => a
 | p :: r, a => DT r (wrap64 (a + wrap64 (p.f0 + (p.f1.size : Int))))
theorem CW (l : List IP) (hl : l.length ≤ 1048576) (d : Nat) : ∀ (i : Nat) (a b : Int), i + d = l.length →
  Ev (fun k => jS.l0 k a b l (l.length : Int) (i : Int)) (Dm (l.drop i) a, DT (l.drop i) b) := by
 induction d with
 | zero =>
  intro i a b hi
  refine Ev.step (fun k => by rw [jS.l0]) ?_
  refine ev_neg (by omega) (ev_ret ?_)
  rw [List.drop_eq_nil_of_le (by omega)]; rfl
 | succ d ih =>
  intro i a b hi
  refine Ev.step (fun k => by rw [jS.l0]) ?_
  refine ev_pos (by omega) (ev_pos (by omega) (ev_pos (by omega) ?_))
  rw [gt_drop By l i (by omega), wrap_succ i (by omega)]
  exact ih (i + 1) _ _ (by omega)
theorem BM (l : List IP) (hl : l.length ≤ 1048576) : Ev (fun k => jS.f k l) (Dm l 0, DT l 0) := by
 unfold jS.f
 exact CW l hl l.length 0 0 0 (by omega)
theorem Dp (l : List IP) (hl : l.length ≤ 1048576) (d : Nat) : ∀ (i : Nat) (a b : Int), i + d = l.length →
  Ev (fun k => jR.l0 k a b l (l.length : Int) (i : Int)) (Dm (l.drop i) a, DT (l.drop i) b) := by
 induction d with
 | zero =>
  intro i a b hi
  refine Ev.step (fun k => by rw [jR.l0]) ?_
  refine ev_neg (by omega) (ev_ret ?_)
  rw [List.drop_eq_nil_of_le (by omega)]; rfl
 | succ d ih =>
  intro i a b hi
  refine Ev.step (fun k => by rw [jR.l0]) ?_
  refine ev_pos (by omega) (ev_pos (by omega) (ev_pos (by omega) ?_))
  rw [gt_drop By l i (by omega), wrap_succ i (by omega)]
  exact ih (i + 1) _ _ (by omega)
theorem A9 (l : List IP) (hl : l.length ≤ 1048576) : Ev (fun k => jR.f k l) (Dm l 0, DT l 0) := by
 unfold jR.f
 exact Dp l hl l.length 0 0 0 (by omega)
def Ac (l : List IP) : Bool := decide (l.length ≤ 60) && (l.all Af && decide (Dm l 0 ≤ 300 ∧ DT l 0 ≤ 300))
theorem Dl {l : List IP} (h : ¬ l.length ≤ 60) : Ac l = false := by unfold Ac; rw [decide_eq_false h]; rfl
theorem Et {l : List IP} {p : IP} (hp : p ∈ l) (h : Af p = false) : Ac l = false := by
 unfold Ac
 have : l.all Af = false := by
  rw [Bool.eq_false_iff]; intro e
  rw [List.all_eq_true] at e
  rw [e p hp] at h; cases h
 rw [this]; simp
theorem Da (l : List IP) (hl : l.length ≤ 60) (hw : ∀ x ∈ l, x.f1.size ≤ 1048576 ∧ x.f2.size ≤ 1048576) (d : Nat) : ∀ i : Nat, i + d = l.length →
  (l.take i).all Af = true → Ev (fun k => jM.l0 k l l (l.length : Int) (i : Int)) (Ac l) := by
 induction d with
 | zero =>
  intro i hi hg
  refine Ev.step (fun k => by rw [jM.l0]) ?_
  rw [List.take_of_length_le (by omega)] at hg
  have e : Ac l = decide (Dm l 0 ≤ 300 ∧ DT l 0 ≤ 300) := by unfold Ac; rw [hg, decide_eq_true hl]; rfl
  rw [e]
  refine ev_neg (by omega) (Ev.bind (BM l (by omega)) ?_)
  exact ev_if (fun h => ev_ret (decide_eq_decide.2 (by constructor <;> intro q; exact ⟨h, q⟩; exact q.2))) (fun h => ev_ret (by rw [decide_eq_false (fun q => h q.1)]))
 | succ d ih =>
  intro i hi hg
  have hm := hw _ (gt_mem By l i (by omega))
  refine Ev.step (fun k => by rw [jM.l0]) ?_
  refine ev_pos (by omega) (ev_pos (by omega) (ev_pos (by omega) ?_))
  rw [wrap_succ i (by omega)]
  simp only [BE]
  refine Ev.bind (C7 _ (by omega) (by omega)) (ev_if (fun h => ?_) (fun h => ev_ret (Et (gt_mem By l i (by omega)) (by simpa using h)).symm))
  refine ih (i + 1) (by omega) ?_
  rw [gt_take By l i (by omega), List.all_append, hg]
  simp [h]
theorem AV (l : List IP) (hw : ∀ x ∈ l, x.f1.size ≤ 1048576 ∧ x.f2.size ≤ 1048576) : Ev (fun k => jM.f k l) (Ac l) := by
 unfold jM.f
 refine ev_if (fun h => ev_ret (Dl (by omega)).symm) (fun h => ?_)
 exact Da l (by omega) hw l.length 0 (by omega) rfl
theorem Fp (l : List IP) (hw : ∀ x ∈ l, x.f1.size ≤ 1048576 ∧ x.f2.size ≤ 1048576) : ∀ n : Int, 0 ≤ n → ∃ v : Int, Ev (fun k => idxBad k l n) v ∧ (v ≥ 0 ↔ l.all Af = false) := by
 induction l with
 | nil => exact fun n _ => ⟨-1, by unfold idxBad; exact ev_ret rfl, by simp⟩
 | cons p r ih =>
  intro n hn
  have hm := hw p (List.mem_cons_self ..)
  obtain ⟨v, hv, hb⟩ := ih (fun x hx => hw x (List.mem_cons_of_mem _ hx)) (n + 1) (by omega)
  have hp : Ev (fun k => yD.f k p.f0 p.f1 p.f2) (!(Af p)) := by unfold yD.f; exact Ev.bind (B2 p (by omega) (by omega)) (ev_ret rfl)
  by_cases c : Af p = true
  ·refine ⟨v, ?_, by rw [hb, List.all_cons, c, Bool.true_and]⟩
   unfold idxBad
   refine Ev.bind hp (ev_neg (by rw [c]; simp) hv)
  rw [Bool.not_eq_true] at c
  refine ⟨n, ?_, by rw [List.all_cons, c]; simp; omega⟩
  unfold idxBad
  exact Ev.bind hp (ev_pos (by rw [c]; rfl) (ev_ret rfl))
theorem AW (l : List IP) (hw : ∀ x ∈ l, x.f1.size ≤ 1048576 ∧ x.f2.size ≤ 1048576) : Ev (fun k => jT.f k l) (Ac l) := by
 unfold jT.f
 refine ev_if (fun h => ev_ret (Dl (by omega)).symm) (fun h => ?_)
 obtain ⟨v, hv, hb⟩ := Fp l hw 0 (by omega)
 refine Ev.bind hv (ev_if (fun c => ev_ret ?_) (fun c => Ev.bind (A9 l (by omega)) ?_))
 ·unfold Ac; rw [hb.1 c]; simp
 have hg : l.all Af = true := by
  by_cases q : l.all Af = true
  ·exact q
  ·exact absurd (hb.2 (by simpa using q)) c
 have e : Ac l = decide (Dm l 0 ≤ 300 ∧ DT l 0 ≤ 300) := by unfold Ac; rw [hg, decide_eq_true (by omega : l.length ≤ 60)]; rfl
 rw [e]
 exact ev_if (fun h => ev_ret (decide_eq_decide.2 (by constructor <;> intro q; exact ⟨h, q⟩; exact q.2))) (fun h => ev_ret (by rw [decide_eq_false (fun q => h q.1)]))
theorem BS {s : ByteArray} (h : goodB (bytesOf s) = true) : s.size ≤ 300 := by
 unfold goodB at h
 rw [Bool.and_eq_true, bytesOf_length] at h
 exact of_decide_eq_true h.2
theorem AK {p : IP} (h : Af p = true) : 0 ≤ p.f0 ∧ p.f0 ≤ 300 ∧ p.f1.size ≤ 300 ∧ p.f2.size ≤ 300 ∧ (p.f0 = 0 ∨ p.f2.size = 0) := by
 unfold Af at h
 by_cases c0 : p.f0 = 0
 rotate_left
 ·rw [if_neg c0, Bool.and_eq_true, Bool.and_eq_true] at h
  obtain ⟨a, b, c⟩ := h
  have a := of_decide_eq_true a
  have b := (Aa _).1 (of_decide_eq_true b)
  have c := (Aa _).1 (by simpa using c)
  exact ⟨by omega, by omega, by omega, by omega, Or.inr c⟩
 rw [if_pos c0] at h
 by_cases c1 : p.f1.toList = ([] : List UInt8)
 ·rw [if_pos c1] at h
  rw [Aa] at c1
  by_cases c2 : p.f2.toList = ([] : List UInt8)
  ·rw [if_pos c2] at h; cases h
  rw [if_neg c2] at h
  have := BS h
  exact ⟨by omega, by omega, by omega, by omega, Or.inl c0⟩
 rw [if_neg c1] at h
 by_cases c2 : p.f2.toList = ([] : List UInt8)
 rotate_left
 ·rw [if_neg c2] at h; cases h
 rw [if_pos c2] at h
 rw [Aa] at c2
 have := BS h
 exact ⟨by omega, by omega, by omega, by omega, Or.inl c0⟩
theorem Ab {l : List IP} (h : Ac l = true) : l.length ≤ 60 ∧ (∀ p ∈ l, Af p = true) ∧ Dm l 0 ≤ 300 ∧ DT l 0 ≤ 300 := by
 unfold Ac at h
 rw [Bool.and_eq_true, Bool.and_eq_true, List.all_eq_true] at h
 have a := of_decide_eq_true h.1
 have b := of_decide_eq_true h.2.2
 exact ⟨a, h.2.1, b.1, b.2⟩
theorem AF {p : IP} (h : Af p = true) : A4 p := by
 obtain ⟨a1, a2, a3, a4, a5⟩ := AK h
 refine ⟨a1, a2, a3, a4, ?_, ?_⟩
 ·unfold Af at h
  by_cases c0 : p.f0 = 0
  ·exact .inl c0
  rw [if_neg c0, Bool.and_eq_true, Bool.and_eq_true] at h
  exact .inr ⟨(Aa _).1 (of_decide_eq_true h.2.1), a5.resolve_left c0⟩
 unfold Af at h
 by_cases c0 : p.f0 = 0
 rotate_left
 ·exact .inr (a5.resolve_left c0)
 rw [if_pos c0] at h
 by_cases c1 : p.f1.toList = ([] : List UInt8)
 ·exact .inl ((Aa _).1 c1)
 rw [if_neg c1] at h
 by_cases c2 : p.f2.toList = ([] : List UInt8)
 rotate_left
 ·rw [if_neg c2] at h; cases h
 exact .inr ((Aa _).1 c2)
def Gz : List IP → List Int
 | [] => []
 | p :: r => (List.replicate p.f0.toNat 0 ++ bytesOf p.f2) ++ Gz r
abbrev Bq := ByteArray × ByteArray × Int
def Az (l : List Bq) : List Pt := l.flatMap (fun s => endL s.1 s.2.1 ++ [(s.2.2, (⟨#[]⟩ : ByteArray), (⟨#[]⟩ : ByteArray))])
def GZ (l : List Bq) : List Int := l.flatMap (fun s => bytesOf s.2.1 ++ List.replicate s.2.2.toNat 0)
theorem Bx (a b : List Bq) : Az (a ++ b) = Az a ++ Az b := by simp [Az]
theorem AS (s : Bq) (b : List Bq) : Az (s :: b) = endL s.1 s.2.1 ++ (s.2.2, (⟨#[]⟩ : ByteArray), (⟨#[]⟩ : ByteArray)) :: Az b := by simp [Az]
theorem BK (a b : ByteArray) : bytesOf (a ++ b) = bytesOf a ++ bytesOf b := by unfold bytesOf; rw [ByteArray.data_append]; simp
theorem D6 {s : ByteArray} (h : s.size = 0) : bytesOf s = [] := by
 rw [← List.length_eq_zero_iff, bytesOf_length]; exact h
def NZ (s : ByteArray) : Prop := ∀ x ∈ bytesOf s, x ≠ 0
structure SegOk (n : Nat) (s : Bq) : Prop where
 put : s.1.size ≤ 300 * n
 drop : s.2.1.size ≤ 300 * n
 nz : NZ s.2.1
 pos : 0 < s.2.2
 top : s.2.2 ≤ 300 * (n : Int)
theorem SegOk.more {n : Nat} {s : Bq} (h : SegOk n s) : SegOk (n + 1) s := by
 obtain ⟨a, b, c, d, e⟩ := h
 exact ⟨by omega, by omega, c, d, by omega⟩
structure SegIs (n : Nat) (l : List IP) (s : List Pt × ByteArray × ByteArray) (g : List Bq) : Prop where
 flat : s.1 = Az g
 ok : ∀ x ∈ g, SegOk n x
 put : s.2.1.size ≤ 300 * n
 drop : s.2.2.size ≤ 300 * n
 nz : NZ s.2.2
 bytes : GZ g ++ bytesOf s.2.2 = Gz l
 len : g.length ≤ n
theorem Fi (L : List Pt) (a b : ByteArray) (x : Int) (h : a.size ≠ 0 ∨ b.size ≠ 0) : keepA (L ++ endL a b) x = L ++ (endL a b ++ [(x, (⟨#[]⟩ : ByteArray), (⟨#[]⟩ : ByteArray))]) := by
 have z : ∀ (M : List Pt) (q : Pt), q.1 = 0 → keepA (M ++ [q]) x = M ++ ([q] ++ [(x, (⟨#[]⟩ : ByteArray), (⟨#[]⟩ : ByteArray))]) := fun M q hq => by rw [Cs, if_neg (by omega)]; rfl
 by_cases ha : a.size = 0
 ·have hb : b.size ≠ 0 := by omega
  rw [AO ha hb]; exact z L _ rfl
 by_cases hb : b.size = 0
 ·rw [AP ha hb]; exact z L _ rfl
 rw [AG ha hb]
 have := z (L ++ [(0, a, ⟨#[]⟩)]) (0, ⟨#[]⟩, b) rfl
 rw [List.append_assoc, List.append_assoc] at this
 exact this
abbrev E0 : ByteArray := ⟨#[]⟩
def nP (p : IP) : Nat := p.f0.toNat + p.f2.size
def Ao : List IP → Nat
 | [] => 0
 | p :: r => nP p + Ao r
theorem GB {p : IP} (h : Af p = true) : nP p ≤ 600 := by
 obtain ⟨f1, f2, f3, f4, f5⟩ := AK h
 unfold nP; omega
theorem ES {p : IP} (h : Af p = true) : wrap64 (p.f0 + (p.f2.size : Int)) = (nP p : Int) := by
 obtain ⟨f1, f2, f3, f4, f5⟩ := AK h
 rw [wrap_id (by omega) (by omega)]; unfold nP; omega
theorem EG : ∀ (l : List IP), (∀ p ∈ l, Af p = true) → ∀ a : Nat, a + 600 * l.length ≤ 4611686018427387904 → Dm l (a : Int) = ((a + Ao l : Nat) : Int)
 | [], _, a, _ => by simp [Dm, Ao]
 | p :: r, h, a, hb => by
  have hp := h p (List.mem_cons_self ..)
  have hn := GB hp
  rw [List.length_cons] at hb
  unfold Dm Ao
  rw [ES hp, show wrap64 ((a : Int) + (nP p : Int)) = ((a + nP p : Nat) : Int) by rw [wrap_id (by omega) (by omega)]; omega, EG r (fun x hx => h x (List.mem_cons_of_mem _ hx)) (a + nP p) (by omega), Nat.add_assoc]
def DG : List IP → ByteArray → ByteArray → ByteArray × Bool
 | [], _, o => (o, true)
 | p :: r, s, o => if (s.extract 0 p.f2.size).toList = p.f2.toList then DG r (s.extract (nP p) s.size) (o ++ (s.extract 0 p.f0.toNat ++ p.f1)) else (E0, false)
theorem AH (s : ByteArray) (a b : Nat) : (s.extract a b).size = min b s.size - a := by simp
theorem G4 {b c : Nat} (h1 : b ≤ 300) (h2 : c ≤ 300) : b + c ≤ 9223372036854775807 := by omega
theorem G5 {i a b c : Nat} (h0 : a ≤ 1000 * i) (h1 : b ≤ 300) (h2 : c ≤ 300) (h3 : i ≤ 60) : a + (b + c) ≤ 9223372036854775807 := by omega
theorem G7 {i a b c : Nat} (h0 : a ≤ 1000 * i) (h1 : b ≤ 300) (h2 : c ≤ 300) : a + (b + c) ≤ 1000 * (i + 1) := by omega
theorem G0 {f : Int} {n t s g : Nat} (h : s = n + t) (hd : n = f.toNat + g) (f1 : 0 ≤ f) : f ≤ (s : Int) ∧ (n : Int) ≤ (s : Int) ∧ (g : Int) ≤ (s : Int) := by omega
theorem Gy (s : ByteArray) (n : Nat) (h : n = 0) : s.extract 0 n = E0 := by subst h; simp [E0]; rfl
theorem A2 (x : ByteArray) : E0 ++ x = x := ByteArray.empty_append
def Do (l : List IP) (s : ByteArray) : ByteArray × Bool := if Ac l = true then (if goodB (bytesOf s) = true then (if s.size = Ao l then (if (DG l s E0).2 = true then DG l s E0 else (E0, false)) else (E0, false)) else (E0, false)) else (E0, false)
theorem Fy : ∀ (l : List IP) (s o : ByteArray), (DG l s o).2 = false → DG l s o = (E0, false)
 | [], s, o, h => by unfold DG at h; cases h
 | p :: r, s, o, h => by
  unfold DG at h ⊢
  by_cases e : (s.extract 0 p.f2.size).toList = p.f2.toList
  ·rw [if_pos e] at h ⊢; exact Fy r _ _ h
  ·rw [if_neg e]
def Dn (x : IP) : IP := ⟨x.f0, x.f2, x.f1⟩
abbrev GS := List Bq × ByteArray × ByteArray
def AR (g : List Bq) (a b : ByteArray) (k : Int) : List Bq :=
 if a.size = 0 ∧ b.size = 0 then (match g.getLast? with | some s => g.dropLast ++ [(s.1, s.2.1, s.2.2 + k)] | none => [(a, b, k)]) else g ++ [(a, b, k)]
def Ah (s : GS) (p : IP) : GS := if p.f0 = 0 then (s.1, s.2.1 ++ p.f1, s.2.2 ++ p.f2) else (AR s.1 s.2.1 s.2.2 p.f0, ⟨#[]⟩, ⟨#[]⟩)
def AQ (l : List IP) : GS := l.foldl Ah ([], ⟨#[]⟩, ⟨#[]⟩)
theorem Ay {a b : ByteArray} (h : a.size = 0 ∧ b.size = 0) (k : Int) : AR [] a b k = [(a, b, k)] := by unfold AR; rw [if_pos h]; rfl
theorem Ak {a b : ByteArray} (h : a.size = 0 ∧ b.size = 0) (g : List Bq) (s : Bq) (k : Int) : AR (g ++ [s]) a b k = g ++ [(s.1, s.2.1, s.2.2 + k)] := by
 unfold AR; rw [if_pos h]; simp
theorem As {a b : ByteArray} (h : ¬ (a.size = 0 ∧ b.size = 0)) (g : List Bq) (k : Int) : AR g a b k = g ++ [(a, b, k)] := by unfold AR; rw [if_neg h]
def Fm (B : Int) (g : List Bq) : Prop := ∀ x ∈ g, 0 < x.2.2 ∧ x.2.2 ≤ B
theorem Fz {B : Int} {g : List Bq} (h : Fm B g) (hB : 0 ≤ B) (a b : ByteArray) (k : Int) (hk : 0 < k) (hk2 : k ≤ 300) : Fm (B + 300) (AR g a b k) := by
 have h' : Fm (B + 300) g := fun x hx => by have := h x hx; omega
 have hn : ∀ u v : ByteArray, 0 < (u, v, k).2.2 ∧ (u, v, k).2.2 ≤ B + 300 := fun u v => by dsimp only; omega
 by_cases c : a.size = 0 ∧ b.size = 0
 rotate_left
 ·rw [As c]
  intro x hx
  rcases List.mem_append.1 hx with q | q
  ·exact h' x q
  rw [List.mem_singleton.1 q]; exact hn _ _
 rcases List.eq_nil_or_concat g with e | ⟨g0, s0, e⟩
 ·subst e
  rw [Ay c]
  intro x hx; rw [List.mem_singleton.1 hx]; exact hn _ _
 rw [List.concat_eq_append] at e
 subst e
 rw [Ak c]
 intro x hx
 rcases List.mem_append.1 hx with q | q
 ·exact h' x (List.mem_append_left _ q)
 rw [List.mem_singleton.1 q]
 have := h s0 (by simp)
 dsimp only; omega
theorem FV {B : Int} {g : List Bq} (h : Fm B g) (hB : 0 ≤ B) (hB2 : B ≤ 1000000000) (a b : ByteArray) (p : IP) (hp : A4 p) :
  takeP (Az g, a, b) (toP p) = (Az (Ah (g, a, b) p).1, (Ah (g, a, b) p).2) ∧ Fm (B + 300) (Ah (g, a, b) p).1 := by
 obtain ⟨p0, p1, p2⟩ := p
 obtain ⟨q1, q2, q3, q4, q5, q6⟩ := hp
 simp only at q1 q2 q3 q4 q5 q6
 by_cases h0 : p0 = 0
 ·subst h0
  exact ⟨rfl, fun x hx => by have := h x hx; omega⟩
 obtain ⟨h1, h2⟩ := q5.resolve_left h0
 have es : Ah (g, a, b) ⟨p0, p1, p2⟩ = (AR g a b p0, ⟨#[]⟩, ⟨#[]⟩) := by unfold Ah; rw [if_neg h0]
 have hk : keepS (Az g) a b p0 = (keepA (Az g ++ endL a b) p0, ⟨#[]⟩, ⟨#[]⟩) := by unfold keepS; rw [if_neg h0]
 have et : takeP (Az g, a, b) (toP ⟨p0, p1, p2⟩) = (keepA (Az g ++ endL a b) p0, ⟨#[]⟩, ⟨#[]⟩) := by
  unfold takeP toP
  simp only [hk]
  rw [Am h1, Am h2, AN]
 rw [et, es]
 refine ⟨?_, Fz h hB a b p0 (by omega) q2⟩
 congr 1
 by_cases c : a.size = 0 ∧ b.size = 0
 rotate_left
 ·rw [As c, Bx, AS, Fi _ _ _ _ (by omega)]; rfl
 rw [Au c.1 c.2, List.append_nil]
 rcases List.eq_nil_or_concat g with e | ⟨g0, s0, e⟩
 ·subst e
  rw [Ay c, AS, Au c.1 c.2]; rfl
 rw [List.concat_eq_append] at e
 subst e
 have hs := h s0 (by simp)
 rw [Ak c, Bx, Bx, AS, AS]
 have e1 : Az g0 ++ (endL s0.1 s0.2.1 ++ (s0.2.2, (⟨#[]⟩ : ByteArray), (⟨#[]⟩ : ByteArray)) :: Az []) = (Az g0 ++ endL s0.1 s0.2.1) ++ [(s0.2.2, (⟨#[]⟩ : ByteArray), (⟨#[]⟩ : ByteArray))] := by rw [List.append_assoc]; rfl
 rw [e1, Cs, if_pos hs.1, wrap_id (by dsimp only; omega) (by dsimp only; omega), List.append_assoc]; rfl
theorem DM : ∀ (l : List IP) (g : List Bq) (a b : ByteArray) (B : Int), (∀ p ∈ l, A4 p) → Fm B g → 0 ≤ B → B + 300 * (l.length : Int) ≤ 1000000000 →
  (l.map toP).foldl takeP (Az g, a, b) = (Az (l.foldl Ah (g, a, b)).1, (l.foldl Ah (g, a, b)).2) ∧ Fm (B + 300 * (l.length : Int)) (l.foldl Ah (g, a, b)).1
 | [], g, a, b, B, _, h, hB, hB2 => ⟨rfl, by simpa using h⟩
 | p :: r, g, a, b, B, hp, h, hB, hB2 => by
  rw [List.length_cons] at hB2 ⊢
  obtain ⟨e1, e2⟩ := FV h hB (by omega) a b p (hp p (List.mem_cons_self ..))
  obtain ⟨e3, e4⟩ := DM r _ (Ah (g, a, b) p).2.1 (Ah (g, a, b) p).2.2 (B + 300) (fun x hx => hp x (List.mem_cons_of_mem _ hx)) e2 (by omega) (by omega)
  rw [List.map_cons, List.foldl_cons, e1, List.foldl_cons]
  refine ⟨e3, ?_⟩
  have : B + 300 + 300 * (r.length : Int) = B + 300 * ((r.length + 1 : Nat) : Int) := by omega
  rw [← this]; exact e4
theorem Cm (l : List IP) (hl : l.length ≤ 1000) (hp : ∀ p ∈ l, A4 p) : AA l = (Az (AQ l).1 ++ endL (AQ l).2.1 (AQ l).2.2).map ofP ∧ Fm 300000 (AQ l).1 := by
 obtain ⟨e, h⟩ := DM l [] ⟨#[]⟩ ⟨#[]⟩ 0 hp (fun x hx => by cases hx) (Int.le_refl _) (by omega)
 refine ⟨?_, fun x hx => by have := h x hx; omega⟩
 have e0 : Az [] = [] := rfl
 rw [e0] at e
 unfold AA normP AQ
 rw [e]
def GQ (s : GS) : GS := (s.1.map (fun x => (x.2.1, x.1, x.2.2)), s.2.2, s.2.1)
theorem GM (g : List Bq) (a b : ByteArray) (k : Int) : AR (g.map (fun x => (x.2.1, x.1, x.2.2))) b a k = (AR g a b k).map (fun x => (x.2.1, x.1, x.2.2)) := by
 by_cases c : a.size = 0 ∧ b.size = 0
 rotate_left
 ·rw [As c, As (fun q => c ⟨q.2, q.1⟩), List.map_append]; rfl
 have c' : b.size = 0 ∧ a.size = 0 := ⟨c.2, c.1⟩
 rcases List.eq_nil_or_concat g with e | ⟨g0, s0, e⟩
 ·subst e; rw [Ay c, List.map_nil, Ay c']; rfl
 rw [List.concat_eq_append] at e
 subst e
 rw [Ak c, List.map_append, List.map_append]
 exact Ak c' _ _ _
theorem Gc (s : GS) (p : IP) : Ah (GQ s) (Dn p) = GQ (Ah s p) := by
 unfold Ah
 by_cases h0 : p.f0 = 0
 ·rw [if_pos h0, if_pos (show (Dn p).f0 = 0 from h0)]; rfl
 rw [if_neg h0, if_neg (show ¬ (Dn p).f0 = 0 from h0)]
 show (AR (s.1.map _) s.2.2 s.2.1 p.f0, _) = _
 rw [GM]; rfl
theorem EP : ∀ (l : List IP) (s : GS), (l.map Dn).foldl Ah (GQ s) = GQ (l.foldl Ah s)
 | [], s => rfl
 | p :: r, s => by rw [List.map_cons, List.foldl_cons, Gc, EP r, List.foldl_cons]
theorem Fs (l : List IP) : AQ (l.map Dn) = GQ (AQ l) := EP l ([], ⟨#[]⟩, ⟨#[]⟩)
def Gb (g : List Bq) : Prop := ∀ x ∈ g.tail, ¬ (x.1.size = 0 ∧ x.2.1.size = 0)
theorem CY {α : Type} {g : List α} (h : g ≠ []) (r : List α) : (g ++ r).tail = g.tail ++ r := by
 cases g with
 | nil => exact absurd rfl h
 | cons a t => rfl
theorem Gl {s : GS} (h : Gb s.1) (p : IP) : Gb (Ah s p).1 := by
 unfold Ah
 by_cases h0 : p.f0 = 0
 ·rw [if_pos h0]; exact h
 rw [if_neg h0]
 show Gb (AR s.1 s.2.1 s.2.2 p.f0)
 obtain ⟨g, a, b⟩ := s
 dsimp only at h ⊢
 by_cases c : a.size = 0 ∧ b.size = 0
 rotate_left
 ·rw [As c]
  by_cases hg : g = []
  ·subst hg; intro x hx; cases hx
  unfold Gb at h ⊢
  rw [CY hg]
  intro x hx
  rcases List.mem_append.1 hx with q | q
  ·exact h x q
  rw [List.mem_singleton.1 q]; exact c
 rcases List.eq_nil_or_concat g with e | ⟨g0, s0, e⟩
 ·subst e; rw [Ay c]; intro x hx; cases hx
 rw [List.concat_eq_append] at e
 subst e
 rw [Ak c]
 by_cases hg : g0 = []
 ·subst hg; intro x hx; cases hx
 unfold Gb at h ⊢
 rw [CY hg] at h ⊢
 intro x hx
 rcases List.mem_append.1 hx with q | q
 ·exact h x (List.mem_append_left _ q)
 rw [List.mem_singleton.1 q]; exact h s0 (by simp)
theorem E6 : ∀ (l : List IP) (s : GS), Gb s.1 → Gb (l.foldl Ah s).1
 | [], s, h => h
 | p :: r, s, h => E6 r _ (Gl h p)
theorem FR (l : List IP) : Gb (AQ l).1 := E6 l _ (fun x hx => by cases hx)
theorem DU (g : List Bq) (a b : ByteArray) : ((endL a b).map ofP).foldl Ah (g, ⟨#[]⟩, ⟨#[]⟩) = (g, a, b) := by
 have s1 : ∀ x y : ByteArray, Ah (g, x, y) (ofP (0, a, ⟨#[]⟩)) = (g, x ++ a, y) := fun x y => by
  show (g, x ++ a, y ++ (⟨#[]⟩ : ByteArray)) = _
  rw [AN]
 have s2 : ∀ x y : ByteArray, Ah (g, x, y) (ofP (0, ⟨#[]⟩, b)) = (g, x, y ++ b) := fun x y => by
  show (g, x ++ (⟨#[]⟩ : ByteArray), y ++ b) = _
  rw [AN]
 by_cases ha : a.size = 0
 ·by_cases hb : b.size = 0
  ·rw [Au ha hb, Am ha, Am hb]; rfl
  rw [AO ha hb]
  show Ah (g, ⟨#[]⟩, ⟨#[]⟩) (ofP (0, ⟨#[]⟩, b)) = _
  rw [s2, Am ha, A2]
 by_cases hb : b.size = 0
 ·rw [AP ha hb]
  show Ah (g, ⟨#[]⟩, ⟨#[]⟩) (ofP (0, a, ⟨#[]⟩)) = _
  rw [s1, Am hb, A2]
 rw [AG ha hb]
 show Ah (Ah (g, ⟨#[]⟩, ⟨#[]⟩) (ofP (0, a, ⟨#[]⟩))) (ofP (0, ⟨#[]⟩, b)) = _
 rw [s1, s2, A2, A2]
theorem Dh (g : List Bq) (hb : Fm 300000 g) (hw : Gb g) : ∀ (n : Nat) (h : List Bq), h.length = n → (∃ t, h ++ t = g) → ((Az h).map ofP).foldl Ah ([], ⟨#[]⟩, ⟨#[]⟩) = (h, ⟨#[]⟩, ⟨#[]⟩)
 | 0, h, e, _ => by rw [List.length_eq_zero_iff.1 e]; rfl
 | n + 1, h, e, ⟨t, ht⟩ => by
  obtain ⟨h0, s, e'⟩ := (List.eq_nil_or_concat h).resolve_left (fun q => by rw [q] at e; cases e)
  rw [List.concat_eq_append] at e'
  subst e'
  rw [List.length_append, List.length_singleton] at e
  have ih' := Dh g hb hw n h0 (by omega) ⟨s :: t, by rw [← ht, List.append_assoc]; rfl⟩
  have hs := hb s (by rw [← ht]; simp)
  rw [Bx, AS, List.map_append, List.foldl_append, ih', List.map_append, List.foldl_append, DU]
  show Ah (h0, s.1, s.2.1) (ofP (s.2.2, ⟨#[]⟩, ⟨#[]⟩)) = _
  unfold Ah
  rw [if_neg (show ¬ (ofP (s.2.2, ⟨#[]⟩, ⟨#[]⟩)).f0 = 0 by show ¬ s.2.2 = 0; omega)]
  show (AR h0 s.1 s.2.1 s.2.2, _) = _
  by_cases hg : h0 = []
  ·subst hg
   by_cases c : s.1.size = 0 ∧ s.2.1.size = 0
   ·rw [Ay c]; rfl
   ·rw [As c]
  ·have hm : s ∈ g.tail := by rw [← ht, List.append_assoc, CY hg]; simp
   rw [As (hw s hm)]
theorem Fd (g : List Bq) (a b : ByteArray) (hb : Fm 300000 g) (hw : Gb g) : AQ ((Az g ++ endL a b).map ofP) = (g, a, b) := by
 unfold AQ
 rw [List.map_append, List.foldl_append, Dh g hb hw g.length g rfl ⟨[], List.append_nil g⟩, DU]
theorem CX (l : List IP) (hl : l.length ≤ 1000) (hp : ∀ p ∈ l, A4 p) : AQ (AA l) = AQ l := by
 obtain ⟨e, h⟩ := Cm l hl hp
 rw [e]; exact Fd _ _ _ h (FR l)
theorem CL (p : IP) : Af (Dn p) = Af p := by
 obtain ⟨p0, p1, p2⟩ := p
 unfold Af Dn
 dsimp only
 by_cases h0 : p0 = 0
 ·rw [if_pos h0, if_pos h0]
  by_cases h1 : p1.toList = ([] : List UInt8)
  ·by_cases h2 : p2.toList = ([] : List UInt8)
   ·simp [h1, h2]
   simp [h1, h2]
  by_cases h2 : p2.toList = ([] : List UInt8)
  ·simp [h1, h2]
  simp [h1, h2]
 rw [if_neg h0, if_neg h0]
 by_cases h1 : p1.toList = ([] : List UInt8)
 ·by_cases h2 : p2.toList = ([] : List UInt8)
  ·simp [h1, h2]
  simp [h1, h2]
 by_cases h2 : p2.toList = ([] : List UInt8)
 ·simp [h1, h2]
 simp [h1, h2]
theorem FL : ∀ (l : List IP) (a : Int), Dm (l.map Dn) a = DT l a
 | [], a => rfl
 | p :: r, a => by rw [List.map_cons]; unfold Dm DT; exact FL r _
theorem AU (p : IP) (r : List IP) : Ao (p :: r) = nP p + Ao r := rfl
theorem FD : Ao [] = 0 := rfl
theorem Al : ∀ (a b : List IP), Ao (a ++ b) = Ao a + Ao b
 | [], b => by rw [List.nil_append, FD]; omega
 | p :: r, b => by rw [List.cons_append, AU, AU, Al r b]; omega
def DF (g : List Bq) : List IP := (Az g).map ofP
def EM (a b : ByteArray) : List IP := (endL a b).map ofP
theorem BC (g h : List Bq) : DF (g ++ h) = DF g ++ DF h := by unfold DF; rw [Bx, List.map_append]
theorem Be (s : Bq) : DF [s] = EM s.1 s.2.1 ++ [⟨s.2.2, ⟨#[]⟩, ⟨#[]⟩⟩] := by unfold DF EM; rw [AS, List.map_append]; rfl
theorem B7 (a b : ByteArray) : Ao (EM a b) = b.size := by
 unfold EM
 by_cases ha : a.size = 0
 ·by_cases hb : b.size = 0
  ·rw [Au ha hb, hb]; rfl
  rw [AO ha hb]; show (0 : Int).toNat + b.size + 0 = _; omega
 by_cases hb : b.size = 0
 ·rw [AP ha hb, hb]; rfl
 rw [AG ha hb]; show (0 : Int).toNat + 0 + ((0 : Int).toNat + b.size + 0) = _; omega
theorem DX (a b : ByteArray) : Ao ((EM a b).map Dn) = a.size := by
 unfold EM
 by_cases ha : a.size = 0
 ·by_cases hb : b.size = 0
  ·rw [Au ha hb, ha]; rfl
  rw [AO ha hb, ha]; rfl
 by_cases hb : b.size = 0
 ·rw [AP ha hb]; show (0 : Int).toNat + a.size + 0 = _; omega
 rw [AG ha hb]; show (0 : Int).toNat + a.size + ((0 : Int).toNat + 0 + 0) = _; omega
theorem Bu (k : Int) : Ao [⟨k, ⟨#[]⟩, ⟨#[]⟩⟩] = k.toNat := by show k.toNat + 0 + 0 = _; omega
theorem Eo (a b : ByteArray) : (EM a b).length = (if a.size = 0 then 0 else 1) + (if b.size = 0 then 0 else 1) := by
 unfold EM
 rw [List.length_map]
 by_cases ha : a.size = 0
 ·by_cases hb : b.size = 0
  ·rw [Au ha hb, if_pos ha, if_pos hb]; rfl
  rw [AO ha hb, if_pos ha, if_neg hb]; rfl
 by_cases hb : b.size = 0
 ·rw [AP ha hb, if_neg ha, if_pos hb]; rfl
 rw [AG ha hb, if_neg ha, if_neg hb]; rfl
theorem Gk {B : Int} {g : List Bq} (h : Fm B g) (a b : ByteArray) (k : Int) (hk : 0 < k) : Ao (DF (AR g a b k)) = Ao (DF g) + b.size + k.toNat ∧ (DF (AR g a b k)).length ≤ (DF g).length + (EM a b).length + 1 := by
 by_cases c : a.size = 0 ∧ b.size = 0
 rotate_left
 ·rw [As c, BC, Be, Al, Al, B7, Bu]
  refine ⟨by dsimp only; omega, ?_⟩
  simp only [List.length_append, List.length_singleton]; omega
 rcases List.eq_nil_or_concat g with e | ⟨g0, s0, e⟩
 ·subst e
  rw [Ay c, Be, Al, B7, Bu, List.length_append]
  refine ⟨?_, ?_⟩
  ·show b.size + k.toNat = 0 + b.size + k.toNat; omega
  show _ ≤ 0 + _ + _; simp only [List.length_singleton]; omega
 rw [List.concat_eq_append] at e
 subst e
 have hs := (h s0 (by simp)).1
 rw [Ak c, BC, BC, Be, Be, Al, Al, Al, Al, Bu, Bu]
 refine ⟨by dsimp only; omega, ?_⟩
 simp only [List.length_append, List.length_singleton]; omega
def Cj (s : ByteArray) : Prop := textB (bytesOf s) = true
theorem A7 {a b : ByteArray} (ha : Cj a) (hb : Cj b) : Cj (a ++ b) := by
 unfold Cj textB at ha hb ⊢
 rw [BK, List.all_append, ha, hb]; rfl
theorem AJ {a : ByteArray} (h : a.size = 0) : Cj a := by unfold Cj; rw [D6 h]; rfl
theorem CP {s : ByteArray} (h : goodB (bytesOf s) = true) : Cj s := by
 unfold goodB at h; rw [Bool.and_eq_true] at h; exact h.1
theorem B5 {s : ByteArray} (h : Cj s) (hs : s.size ≤ 300) : goodB (bytesOf s) = true := by
 unfold goodB; rw [Bool.and_eq_true, bytesOf_length]; exact ⟨h, decide_eq_true hs⟩
theorem DD {p : IP} (h : Af p = true) : Cj p.f1 ∧ Cj p.f2 := by
 unfold Af at h
 by_cases c0 : p.f0 = 0
 rotate_left
 ·rw [if_neg c0, Bool.and_eq_true, Bool.and_eq_true] at h
  exact ⟨AJ ((Aa _).1 (of_decide_eq_true h.2.1)), AJ ((Aa _).1 (by simpa using h.2.2))⟩
 rw [if_pos c0] at h
 by_cases c1 : p.f1.toList = ([] : List UInt8)
 ·rw [if_pos c1] at h
  by_cases c2 : p.f2.toList = ([] : List UInt8)
  ·rw [if_pos c2] at h; cases h
  rw [if_neg c2] at h; exact ⟨AJ ((Aa _).1 c1), CP h⟩
 rw [if_neg c1] at h
 by_cases c2 : p.f2.toList = ([] : List UInt8)
 rotate_left
 ·rw [if_neg c2] at h; cases h
 rw [if_pos c2] at h; exact ⟨CP h, AJ ((Aa _).1 c2)⟩
structure GI (n : Nat) (T : Nat) (s : GS) : Prop where
 bd : Fm (300 * (n : Int)) s.1
 sum : Ao (DF s.1) + s.2.2.size = T
 len : (DF s.1).length + (EM s.2.1 s.2.2).length ≤ n
 txt : ∀ x ∈ s.1, Cj x.1 ∧ Cj x.2.1
 txa : Cj s.2.1
 txb : Cj s.2.2
theorem Gr {n T : Nat} {s : GS} (h : GI n T s) (p : IP) (hg : Af p = true) : GI (n + 1) (T + nP p) (Ah s p) := by
 obtain ⟨g, a, b⟩ := s
 obtain ⟨i1, i2, i3, i4, i5, i6⟩ := h
 obtain ⟨q1, q2, q3, q4, q5, q6⟩ := AF hg
 obtain ⟨t1, t2⟩ := DD hg
 dsimp only at i1 i2 i3 i4 i5 i6
 have hn : nP p = p.f0.toNat + p.f2.size := rfl
 by_cases h0 : p.f0 = 0
 ·have e : Ah (g, a, b) p = (g, a ++ p.f1, b ++ p.f2) := by unfold Ah; rw [if_pos h0]
  rw [e]
  refine ⟨fun x hx => by have := i1 x hx; omega, ?_, ?_, i4, A7 i5 t1, A7 i6 t2⟩
  ·dsimp only; rw [Ae]; omega
  dsimp only
  rw [Eo] at i3 ⊢
  rw [Ae, Ae]
  rcases q6 with c | c
  ·rw [c, Nat.add_zero]
   split <;> split <;> split at i3 <;> omega
  rw [c, Nat.add_zero]
  split <;> split <;> split at i3 <;> omega
 obtain ⟨h1, h2⟩ := q5.resolve_left h0
 have e : Ah (g, a, b) p = (AR g a b p.f0, ⟨#[]⟩, ⟨#[]⟩) := by unfold Ah; rw [if_neg h0]
 rw [e]
 obtain ⟨u1, u2⟩ := Gk i1 a b p.f0 (by omega)
 have e0 : (EM (⟨#[]⟩ : ByteArray) (⟨#[]⟩ : ByteArray)).length = 0 := by rw [Eo]; rfl
 refine ⟨?_, ?_, ?_, ?_, AJ rfl, AJ rfl⟩
 ·have := Fz i1 (by omega) a b p.f0 (by omega) q2
  intro x hx; have := this x hx; omega
 ·dsimp only; rw [u1, BO]; omega
 ·dsimp only; rw [e0]; omega
 dsimp only
 by_cases c : a.size = 0 ∧ b.size = 0
 rotate_left
 ·rw [As c]
  intro x hx
  rcases List.mem_append.1 hx with q | q
  ·exact i4 x q
  rw [List.mem_singleton.1 q]; exact ⟨i5, i6⟩
 rcases List.eq_nil_or_concat g with e | ⟨g0, s0, e⟩
 ·subst e
  rw [Ay c]
  intro x hx; rw [List.mem_singleton.1 hx]; exact ⟨i5, i6⟩
 rw [List.concat_eq_append] at e
 subst e
 rw [Ak c]
 intro x hx
 rcases List.mem_append.1 hx with q | q
 ·exact i4 x (List.mem_append_left _ q)
 rw [List.mem_singleton.1 q]; exact i4 s0 (by simp)
theorem EQ : ∀ (l : List IP) (n T : Nat) (s : GS), (∀ p ∈ l, Af p = true) → GI n T s → GI (n + l.length) (T + Ao l) (l.foldl Ah s)
 | [], n, T, s, _, h => h
 | p :: r, n, T, s, hp, h => by
  have := EQ r (n + 1) (T + nP p) (Ah s p) (fun x hx => hp x (List.mem_cons_of_mem _ hx)) (Gr h p (hp p (List.mem_cons_self ..)))
  rw [List.foldl_cons, List.length_cons, AU]
  rw [show n + (r.length + 1) = n + 1 + r.length by omega, show T + (nP p + Ao r) = T + nP p + Ao r by omega]; exact this
theorem Fx (l : List IP) (hp : ∀ p ∈ l, Af p = true) : GI l.length (Ao l) (AQ l) := by
 have := EQ l 0 0 ([], ⟨#[]⟩, ⟨#[]⟩) hp ⟨fun x hx => (by cases hx), rfl, by rw [Eo]; exact Nat.le_refl _, fun x hx => (by cases hx), AJ rfl, AJ rfl⟩
 rw [Nat.zero_add, Nat.zero_add] at this
 exact this
theorem Cp {u : ByteArray} (h : u.size ≠ 0) (ht : Cj u) (hs : u.size ≤ 300) : Af ⟨0, u, ⟨#[]⟩⟩ = true := by
 unfold Af
 dsimp only
 rw [if_pos rfl, if_neg (fun e => h ((Aa _).1 e)), if_pos ((Aa _).2 BO)]
 exact B5 ht hs
theorem C1 {u : ByteArray} (h : u.size ≠ 0) (ht : Cj u) (hs : u.size ≤ 300) : Af ⟨0, ⟨#[]⟩, u⟩ = true := by
 rw [← CL]; exact Cp h ht hs
theorem EH {k : Int} (h : 1 ≤ k) (h2 : k ≤ 300) : Af ⟨k, ⟨#[]⟩, ⟨#[]⟩⟩ = true := by
 unfold Af
 dsimp only
 have e := (Aa (⟨#[]⟩ : ByteArray)).2 BO
 rw [if_neg (by omega), decide_eq_true (show 1 ≤ k ∧ k ≤ 300 from ⟨h, h2⟩), decide_eq_true e]
 simp [e]
theorem DI {a b : ByteArray} (ha : Cj a) (hb : Cj b) (sa : a.size ≤ 300) (sb : b.size ≤ 300) : ∀ p ∈ EM a b, Af p = true := by
 intro p hp
 unfold EM at hp
 by_cases za : a.size = 0
 ·by_cases zb : b.size = 0
  ·rw [Au za zb] at hp; cases hp
  rw [AO za zb] at hp; rw [List.mem_singleton.1 hp]; exact C1 zb hb sb
 by_cases zb : b.size = 0
 ·rw [AP za zb] at hp; rw [List.mem_singleton.1 hp]; exact Cp za ha sa
 rw [AG za zb] at hp
 simp only [List.map_cons, List.map_nil, List.mem_cons, List.not_mem_nil, or_false] at hp
 rcases hp with rfl | rfl
 ·exact Cp za ha sa
 exact C1 zb hb sb
theorem Gs {g : List Bq} {p : IP} (h : p ∈ DF g) : ∃ s ∈ g, p ∈ DF [s] := by
 induction g with
 | nil => cases h
 | cons s r ih =>
  rw [show s :: r = [s] ++ r from rfl, BC] at h
  rcases List.mem_append.1 h with q | q
  ·exact ⟨s, List.mem_cons_self .., q⟩
  obtain ⟨x, hx, hp⟩ := ih q; exact ⟨x, List.mem_cons_of_mem _ hx, hp⟩
theorem EU {g : List Bq} {s : Bq} (h : s ∈ g) : Ao (DF [s]) ≤ Ao (DF g) := by
 induction g with
 | nil => cases h
 | cons x r ih =>
  rw [show x :: r = [x] ++ r from rfl, BC, Al]
  rcases List.mem_cons.1 h with rfl | q
  ·omega
  have := ih q; omega
theorem D3 : ∀ g : List Bq, Ao ((DF g).map Dn) = Ao (DF (g.map (fun x => (x.2.1, x.1, x.2.2))))
 | [] => rfl
 | s :: r => by
  rw [show s :: r = [s] ++ r from rfl, BC, List.map_append, Al, D3 r, List.map_append, BC, Al]
  congr 1
  rw [Be, List.map_append, Al, DX, List.map_singleton, List.map_singleton, Be, Al, B7]; rfl
theorem Ck (l : List IP) (hp : ∀ p ∈ l, Af p = true) (hl : l.length ≤ 1000000) : Dm l 0 = ((Ao l : Nat) : Int) := by
 have := EG l hp 0 (by omega)
 rw [Nat.zero_add] at this; exact this
theorem B1 (l : List IP) (hp : ∀ p ∈ l, Af p = true) (hl : l.length ≤ 1000000) : DT l 0 = ((Ao (l.map Dn) : Nat) : Int) := by
 rw [← FL]
 exact Ck _ (fun p h => by obtain ⟨q, hq, rfl⟩ := List.mem_map.1 h; rw [CL]; exact hp q hq) (by rw [List.length_map]; exact hl)
theorem Fr (l : List IP) (hl : l.length ≤ 1000) (hp : ∀ p ∈ l, A4 p) : AA l = DF (AQ l).1 ++ EM (AQ l).2.1 (AQ l).2.2 := by
 rw [(Cm l hl hp).1, List.map_append]; rfl
theorem Cn {l : List IP} (h : Ac l = true) : Ac (AA l) = true ∧ Ao (AA l) = Ao l ∧ Ao ((AA l).map Dn) = Ao (l.map Dn) := by
 obtain ⟨hl, hp, hk, hm⟩ := Ab h
 have ho : ∀ p ∈ l, A4 p := fun p h => AF (hp p h)
 have hps : ∀ p ∈ l.map Dn, Af p = true := fun p h => by obtain ⟨q, hq, rfl⟩ := List.mem_map.1 h; rw [CL]; exact hp q hq
 obtain ⟨b1, b2, b3, b4, b5, b6⟩ := Fx l hp
 obtain ⟨_, c2, _, _, _, _⟩ := Fx (l.map Dn) hps
 rw [Fs] at c2
 rw [Ck l hp (by omega)] at hk
 rw [B1 l hp (by omega)] at hm
 have e := Fr l (by omega) ho
 generalize AQ l = s at b1 b2 b3 b4 b5 b6 c2 e
 obtain ⟨g, a, b⟩ := s
 unfold GQ at c2
 dsimp only at b1 b2 b3 b4 b5 b6 c2 e
 have t1 : Ao (AA l) = Ao l := by rw [e, Al, B7]; omega
 have t2 : Ao ((AA l).map Dn) = Ao (l.map Dn) := by rw [e, List.map_append, Al, DX, D3]; omega
 have hpn : ∀ p ∈ AA l, Af p = true := by
  rw [e]
  intro p hp'
  rcases List.mem_append.1 hp' with q | q
  ·obtain ⟨s, hs, hps'⟩ := Gs q
   have z1 := EU hs
   have z2 := EU (List.mem_map.2 ⟨s, hs, rfl⟩ : (s.2.1, s.1, s.2.2) ∈ g.map (fun x => (x.2.1, x.1, x.2.2)))
   rw [Be, Al, B7, Bu] at z1 z2
   dsimp only at z2
   rw [Be] at hps'
   obtain ⟨x1, x2⟩ := b4 s hs
   have x3 := (b1 s hs).1
   rcases List.mem_append.1 hps' with w | w
   ·exact DI x1 x2 (by omega) (by omega) p w
   ·rw [List.mem_singleton.1 w]; exact EH (by omega) (by omega)
  ·exact DI b5 b6 (by omega) (by omega) p q
 have hln : (AA l).length ≤ 60 := by rw [e, List.length_append]; omega
 refine ⟨?_, t1, t2⟩
 unfold Ac
 rw [decide_eq_true hln, List.all_eq_true.2 hpn, Ck _ hpn (by omega), B1 _ hpn (by omega), t1, t2, decide_eq_true ⟨hk, hm⟩]; rfl
def Ea : List IP → ByteArray → ByteArray → Prop
 | [], s, t => s = E0 ∧ t = E0
 | p :: r, s, t => ∃ K s' t' : ByteArray, K.size = p.f0.toNat ∧ s = K ++ (p.f2 ++ s') ∧ t = K ++ (p.f1 ++ t') ∧ Ea r s' t'
theorem Er : ∀ (l : List IP) (s t : ByteArray), Ea l s t → Ea (l.map Dn) t s
 | [], s, t, h => ⟨h.2, h.1⟩
 | p :: r, s, t, ⟨K, s', t', h1, h2, h3, h4⟩ => ⟨K, t', s', h1, h3, h2, Er r s' t' h4⟩
theorem EL : ∀ (l m : List IP) (s t s2 t2 : ByteArray), Ea l s t → Ea m s2 t2 → Ea (l ++ m) (s ++ s2) (t ++ t2)
 | [], m, s, t, s2, t2, h, h2 => by
  obtain ⟨rfl, rfl⟩ := h
  rw [A2, A2]; exact h2
 | p :: r, m, s, t, s2, t2, ⟨K, s', t', h1, h2, h3, h4⟩, hm => by
  refine ⟨K, s' ++ s2, t' ++ t2, h1, ?_, ?_, EL r m s' t' s2 t2 h4 hm⟩
  ·rw [h2, ByteArray.append_assoc, ByteArray.append_assoc]
  ·rw [h3, ByteArray.append_assoc, ByteArray.append_assoc]
theorem GJ (k : Int) (a b K : ByteArray) (h : K.size = k.toNat) : Ea [⟨k, a, b⟩] (K ++ b) (K ++ a) :=
 ⟨K, E0, E0, h, by congr 1; exact (AN _).symm, by congr 1; exact (AN _).symm, rfl, rfl⟩
theorem BP : ∀ (l : List IP) (s t : ByteArray), Ea l s t → s.size = Ao l
 | [], s, t, h => by rw [h.1]; rfl
 | p :: r, s, t, ⟨K, s', t', h1, h2, h3, h4⟩ => by
  have := BP r s' t' h4
  rw [h2, Ae, Ae, h1, this, AU]; unfold nP; omega
theorem Ei (a b : ByteArray) : (a ++ b).extract 0 a.size = a := ByteArray.extract_append_eq_left rfl
theorem Fg (a b : ByteArray) : (a ++ b).extract a.size (a ++ b).size = b := ByteArray.extract_append_eq_right rfl (by rw [Ae])
theorem Eb (s : ByteArray) (n : Nat) (h : n ≤ s.size) : s = s.extract 0 n ++ s.extract n s.size := by
 have := ByteArray.extract_append_extract (a := s) (i := 0) (j := n) (k := s.size)
 rw [this]
 have e1 : min 0 n = 0 := by omega
 have e2 : max n s.size = s.size := by omega
 rw [e1, e2, ByteArray.extract_zero_size]
theorem Fn : ∀ (l : List IP), (∀ p ∈ l, Af p = true) → ∀ (s t o : ByteArray), Ea l s t → DG l s o = (o ++ t, true)
 | [], _, s, t, o, h => by unfold DG; rw [h.2, show o ++ E0 = o from AN o]
 | p :: r, hp, s, t, o, ⟨K, s', t', h1, h2, h3, h4⟩ => by
  obtain ⟨f1, f2, f3, f4, f5⟩ := AK (hp p (List.mem_cons_self ..))
  have hn : nP p = p.f0.toNat + p.f2.size := rfl
  have ih := fun o => Fn r (fun x hx => hp x (List.mem_cons_of_mem _ hx)) s' t' o h4
  have en : ∀ x : ByteArray, (⟨#[]⟩ : ByteArray) ++ x = x := A2
  unfold DG
  have e1 : s.extract 0 p.f2.size = p.f2 := by
   rcases f5 with c | c
   ·have ek : K = (⟨#[]⟩ : ByteArray) := Am (by omega)
    rw [h2, ek, en]; exact Ei _ _
   ·rw [c, Am c]; exact Gy s 0 rfl
  have e2 : s.extract 0 p.f0.toNat = K := by rw [h2, ← h1]; exact Ei _ _
  have e3 : s.extract (nP p) s.size = s' := by
   have : s = (K ++ p.f2) ++ s' := by rw [ByteArray.append_assoc]; exact h2
   rw [this, show nP p = (K ++ p.f2).size by rw [Ae, h1]; exact hn]; exact Fg _ _
  rw [if_pos (by rw [e1]), e2, e3, ih, h3, ByteArray.append_assoc, ByteArray.append_assoc]
theorem EA {a b : ByteArray} (h : a.toList = b.toList) : a = b := by
 rw [ByteArray.toList_eq, ByteArray.toList_eq] at h
 exact ByteArray.ext (Array.toList_inj.1 h)
theorem F0 : ∀ (l : List IP), (∀ p ∈ l, Af p = true) → ∀ (s o : ByteArray), s.size = Ao l → (DG l s o).2 = true → ∃ t, DG l s o = (o ++ t, true) ∧ Ea l s t
 | [], _, s, o, hs, _ => ⟨E0, by unfold DG; rw [show o ++ E0 = o from AN o], Am hs, rfl⟩
 | p :: r, hp, s, o, hs, h => by
  obtain ⟨f1, f2, f3, f4, f5⟩ := AK (hp p (List.mem_cons_self ..))
  have hn : nP p = p.f0.toNat + p.f2.size := rfl
  rw [AU] at hs
  unfold DG at h ⊢
  by_cases c : (s.extract 0 p.f2.size).toList = p.f2.toList
  ·rw [if_pos c] at h ⊢
   have c' := EA c
   obtain ⟨t, e, hr⟩ := F0 r (fun x hx => hp x (List.mem_cons_of_mem _ hx)) (s.extract (nP p) s.size) (o ++ (s.extract 0 p.f0.toNat ++ p.f1)) (by rw [AH]; omega) h
   have en : ∀ x : ByteArray, (⟨#[]⟩ : ByteArray) ++ x = x := A2
   refine ⟨s.extract 0 p.f0.toNat ++ (p.f1 ++ t), by rw [e, ByteArray.append_assoc, ByteArray.append_assoc], s.extract 0 p.f0.toNat, s.extract (nP p) s.size, t, by rw [AH]; omega, ?_, rfl, hr⟩
   have hb := Eb s (nP p) (by omega)
   rcases f5 with q | q
   ·have e0 : s.extract 0 p.f0.toNat = (⟨#[]⟩ : ByteArray) := by rw [q]; exact Gy s _ rfl
    rw [e0, en]
    rw [show nP p = p.f2.size by omega, c'] at hb
    rw [show nP p = p.f2.size by omega]; exact hb
   ·rw [Am q, en, show p.f0.toNat = nP p by rw [hn, q]; rfl]; exact hb
  ·rw [if_neg c] at h; cases h
theorem Ga : ∀ (l : List IP), (∀ p ∈ l, Af p = true) → ∀ (s t : ByteArray), Ea l s t → Cj s → Cj t
 | [], _, s, t, h, _ => by rw [h.2]; exact AJ rfl
 | p :: r, hp, s, t, ⟨K, s', t', h1, h2, h3, h4⟩, hs => by
  have hs' : Cj K ∧ Cj s' := by
   unfold Cj textB at hs ⊢
   rw [h2, BK, BK, List.all_append, List.all_append, Bool.and_eq_true, Bool.and_eq_true] at hs
   exact ⟨hs.1, hs.2.2⟩
  rw [h3]
  exact A7 hs'.1 (A7 (DD (hp p (List.mem_cons_self ..))).1 (Ga r (fun x hx => hp x (List.mem_cons_of_mem _ hx)) s' t' h4 hs'.2))
theorem Gq {l : List IP} (h : Ac l = true) {s t : ByteArray} (hr : Ea l s t) (hs : goodB (bytesOf s) = true) : Do l s = (t, true) ∧ goodB (bytesOf t) = true ∧ s.size = Ao l ∧ t.size = Ao (l.map Dn) := by
 obtain ⟨hl, hp, hk, hm⟩ := Ab h
 have h1 := BP l s t hr
 have h2 := BP _ t s (Er l s t hr)
 have h3 := Fn l hp s t E0 hr
 rw [B1 l hp (by omega)] at hm
 refine ⟨?_, B5 (Ga l hp s t hr (CP hs)) (by omega), h1, h2⟩
 unfold Do
 rw [if_pos h, if_pos hs, if_pos h1, h3, if_pos rfl, A2]
theorem Gh {l : List IP} {s : ByteArray} (h : (Do l s).2 = true) : Ac l = true ∧ goodB (bytesOf s) = true ∧ ∃ t, Do l s = (t, true) ∧ Ea l s t := by
 unfold Do at h ⊢
 by_cases h1 : Ac l = true
 rotate_left
 ·rw [if_neg h1] at h; cases h
 rw [if_pos h1] at h ⊢
 by_cases h2 : goodB (bytesOf s) = true
 rotate_left
 ·rw [if_neg h2] at h; cases h
 rw [if_pos h2] at h ⊢
 by_cases h3 : s.size = Ao l
 rotate_left
 ·rw [if_neg h3] at h; cases h
 rw [if_pos h3] at h ⊢
 by_cases h4 : (DG l s E0).2 = true
 rotate_left
 ·rw [if_neg h4] at h; cases h
 rw [if_pos h4] at h ⊢
 obtain ⟨t, e, hr⟩ := F0 l (Ab h1).2.1 s E0 h3 h4
 rw [A2] at e
 exact ⟨h1, h2, t, e, hr⟩
theorem CG (l : List IP) (hl : l.length ≤ 1000000) (d : Nat) : ∀ i : Nat, i + d = l.length → Ev (fun k => jL.l0 k l l (l.length : Int) (i : Int)) true := by
 induction d with
 | zero =>
  intro i hi
  refine Ev.step (fun k => by rw [jL.l0]) ?_
  exact ev_neg (by omega) (ev_ret rfl)
 | succ d ih =>
  intro i hi
  refine Ev.step (fun k => by rw [jL.l0]) ?_
  refine ev_pos (by omega) (ev_pos (by omega) (ev_pos (by omega) (ev_pos (by omega) (ev_neg (by simp) ?_))))
  rw [wrap_succ i (by omega)]
  exact ih (i + 1) (by omega)
theorem BQ (l : List IP) (hl : l.length ≤ 1000000) : Ev (fun k => jL.f k l l) true := by
 unfold jL.f
 exact ev_pos rfl (CG l hl l.length 0 (by omega))
theorem GL (E : Int) (h0 : 0 ≤ E) (h1 : E ≤ 18446744073709551615) : 0 ≤ Go.bits .and .u64 E 255 ∧ Go.bits .and .u64 E 255 ≤ 255 := by
 have h := Go.bits_and_u64_nat E.toNat 255 (by omega) (by omega)
 rw [Int.toNat_of_nonneg h0] at h
 have h2 : E.toNat &&& 255 ≤ 255 := Nat.and_le_right
 have h3 : Go.bits .and .u64 E 255 = ((E.toNat &&& 255 : Nat) : Int) := h
 rw [h3]; omega
theorem EX (x : Int) : 0 ≤ wrap64 (Go.bits .and .u64 (Go.IntKind.u64.wrap x / 1099511627776) 255) ∧ wrap64 (Go.bits .and .u64 (Go.IntKind.u64.wrap x / 1099511627776) 255) ≤ 255 := by
 have hw := Go.IntKind.wrap_u64 x
 obtain ⟨a, b⟩ := GL (Go.IntKind.u64.wrap x / 1099511627776) (by rw [hw]; omega) (by rw [hw]; omega)
 rw [wrap_id (by omega) (by omega)]; exact ⟨a, b⟩
def Bn (s : List Int) : Prop := (∀ x ∈ s, 0 ≤ x ∧ x ≤ 255) ∧ s.length ≤ 1000000000000
theorem Ex {s : List Int} (hs : Bn s) (at_ seed : Int) (h0 : 0 ≤ at_) (h1 : at_ ≤ 100000000000000000) : ∃ x seed', yA.f s at_ seed = some (x, at_ + 1, seed') ∧ 0 ≤ x ∧ x ≤ 255 := by
 unfold yA.f
 rw [wrap_id (x := at_ + 1) (by omega) (by omega)]
 by_cases c : at_ < (s.length : Int)
 rotate_left
 ·rw [if_neg c]
  by_cases c2 : at_ + 1 ≤ (s.length : Int)
  rotate_left
  ·rw [if_neg c2]; exact ⟨_, _, rfl, EX _⟩
  rw [if_pos c2]; exact ⟨_, _, rfl, Int.le_refl _, by decide⟩
 rw [if_pos c, if_pos h0]
 have hx : 0 ≤ rd s at_ ∧ rd s at_ ≤ 255 := by
  obtain ⟨n, rfl⟩ := Int.eq_ofNat_of_zero_le h0
  exact hs.1 _ (gt_mem 0 s n (by omega))
 have e : wrap64 (rd s at_) = rd s at_ := wrap_id (by omega) (by omega)
 by_cases c2 : at_ + 1 ≤ (s.length : Int)
 rotate_left
 ·rw [if_neg c2]; exact ⟨_, _, rfl, EX _⟩
 rw [if_pos c2]; exact ⟨_, _, rfl, by rw [e]; exact hx.1, by rw [e]; exact hx.2⟩
theorem Bb (n : Nat) (h : n ≤ 4611686018427387904) : wrap64 (((n + 1 : Nat) : Int) - 1) = (n : Int) := by rw [wrap_id (by omega) (by omega)]; omega
theorem DB {x n : Int} (hx : 0 ≤ x) (hn : 0 < n) : 0 ≤ Int.tmod x n ∧ Int.tmod x n < n := by
 rw [Int.tmod_eq_emod_of_nonneg hx]
 exact ⟨Int.emod_nonneg _ (by omega), Int.emod_lt_of_pos _ hn⟩
theorem A0 {s : List Int} (hs : Bn s) (at_ seed n : Int) (h0 : 0 ≤ at_) (h1 : at_ ≤ 10000000000000000) : ∃ r at' seed', jD.f s at_ seed n = some (r, at', seed') ∧ 0 ≤ r ∧ (1 ≤ n → r < n) ∧ at_ ≤ at' ∧ at' ≤ at_ + 2 := by
 unfold jD.f
 by_cases c : n ≤ 1
 ·rw [if_pos c]; exact ⟨_, _, _, rfl, Int.le_refl _, fun h => by omega, Int.le_refl _, by omega⟩
 rw [if_neg c]
 obtain ⟨x, s1, e1, x0, x1⟩ := Ex hs at_ seed h0 (by omega)
 rw [e1]
 simp only [Option.bind_some]
 by_cases c2 : n > 200
 rotate_left
 ·rw [if_neg c2, if_neg (by omega)]
  obtain ⟨t1, t2⟩ := DB (x := x) (n := n) x0 (by omega)
  exact ⟨_, _, _, rfl, t1, fun _ => t2, by omega, by omega⟩
 rw [if_pos c2]
 obtain ⟨y, s2, e2, y0, y1⟩ := Ex hs (at_ + 1) s1 (by omega) (by omega)
 rw [e2]
 simp only [Option.bind_some]
 rw [if_neg (by omega)]
 have e3 : wrap64 (wrap64 (x * 256) + y) = x * 256 + y := by rw [wrap_id (x := x * 256) (by omega) (by omega), wrap_id (by omega) (by omega)]
 rw [e3]
 obtain ⟨t1, t2⟩ := DB (x := x * 256 + y) (n := n) (by omega) (by omega)
 exact ⟨_, _, _, rfl, t1, fun _ => t2, by omega, by omega⟩
theorem DR {s : List Int} (hs : Bn s) (at_ seed n : Int) (h0 : 0 ≤ at_) (h1 : at_ ≤ 10000000000000000) : ∃ b at' seed', jU.f s at_ seed n = some (b, at', seed') ∧ at_ ≤ at' ∧ at' ≤ at_ + 2 := by
 unfold jU.f
 obtain ⟨r, a, z, e, _, _, h2, h3⟩ := A0 hs at_ seed n h0 h1
 rw [e]
 exact ⟨_, _, _, rfl, h2, h3⟩
theorem Gg {s : List Int} (hs : Bn s) (at_ seed : Int) (l : List ByteArray) (h0 : 0 ≤ at_) (h1 : at_ ≤ 10000000000000000) (hl : 1 ≤ l.length) (hl2 : l.length ≤ 1000) (m : Nat) (hm : ∀ x ∈ l, x.size ≤ m) : ∃ r at' seed', jV.f s at_ seed l = some (r, at', seed') ∧ r.size ≤ m ∧ at_ ≤ at' ∧ at' ≤ at_ + 2 := by
 unfold jV.f
 obtain ⟨r, a, z, e, r0, r1, h2, h3⟩ := A0 hs at_ seed (l.length : Int) h0 h1
 rw [e]
 simp only [Option.bind_some]
 have := r1 (by omega)
 rw [if_pos r0, if_pos this]
 refine ⟨_, _, _, rfl, ?_, h2, h3⟩
 obtain ⟨n, rfl⟩ := Int.eq_ofNat_of_zero_le r0
 exact hm _ (gt_mem ByteArray.empty l n (by omega))
def DC (s : List Int) (d C S : Nat) : Prop := ∀ (n : Nat) (x7 : ByteArray) (at_ seed : Int), n ≤ 60 → 0 ≤ at_ → at_ + ((n * C : Nat) : Int) ≤ 1000000000 → x7.size + n * S ≤ 1000000000 →
 ∃ (r : ByteArray) (at' seed' : Int), Ev (fun k => jB.l0 k (n : Int) (d : Int) x7 s at_ seed) (r, at', seed') ∧ at_ ≤ at' ∧ at' ≤ at_ + ((n * C : Nat) : Int) ∧ r.size ≤ x7.size + n * S
theorem Aw (a b : ByteArray) : (a ++ b).size = a.size + b.size := ByteArray.size_append
theorem Bz {s : List Int} (hs : Bn s) (d C S : Nat) (hd : d ≤ 10) (hC : 4 ≤ C ∧ C ≤ 1000) (hS : 3 ≤ S ∧ S ≤ 1000) (hin : d = 0 ∨ ∃ e c z, d = e + 1 ∧ DC s e c z ∧ 6 + 3 * c ≤ C ∧ 2 + 3 * z ≤ S) : DC s d C S := by
 intro n
 induction n with
 | zero =>
  intro x7 at_ seed hn h0 h1 h2
  refine ⟨x7, at_, seed, ?_, Int.le_refl _, by omega, by omega⟩
  refine Ev.step (fun k => by rw [jB.l0]) ?_
  exact ev_neg (by omega) (ev_ret rfl)
 | succ n ih =>
  intro x7 at_ seed hn h0 h1 h2
  have m1 : (n + 1) * C = n * C + C := Nat.succ_mul n C
  have m2 : (n + 1) * S = n * S + S := Nat.succ_mul n S
  generalize (n + 1) * C = CC at m1 h1 ⊢
  generalize (n + 1) * S = SS at m2 h2 ⊢
  generalize n * C = cc at m1 ih
  generalize n * S = ss at m2 ih
  -- a part without elements
  have flat : ∀ (a z : Int), 0 ≤ a → a ≤ at_ + 2 → at_ ≤ a → ∃ (r : ByteArray) (at' seed' : Int), Ev (fun k => jB.j1 k ((n + 1 : Nat) : Int) (d : Int) x7 false s a z) (r, at', seed') ∧ at_ ≤ at' ∧ at' ≤ at_ + (CC : Int) ∧ r.size ≤ x7.size + SS := fun a z a0 a1 a2 => by
   obtain ⟨t, a', z', e, ht, b1, b2⟩ := Gg hs a z [(⟨#[97]⟩ : ByteArray), (⟨#[98]⟩ : ByteArray), (⟨#[97, 98]⟩ : ByteArray), (⟨#[120]⟩ : ByteArray), (⟨#[32]⟩ : ByteArray), (⟨#[111, 110, 101]⟩ : ByteArray), (⟨#[49]⟩ : ByteArray), (⟨#[122, 46]⟩ : ByteArray)] (by omega) (by omega) (by simp) (by simp) 3 (by
    intro x hx
    simp only [List.mem_cons, List.not_mem_nil, or_false] at hx
    rcases hx with rfl | rfl | rfl | rfl | rfl | rfl | rfl | rfl <;> decide)
   obtain ⟨r, at', seed', q1, q2, q3, q4⟩ := ih (x7 ++ t) a' z' (by omega) (by omega) (by omega) (by rw [Aw]; omega)
   rw [Aw] at q4
   refine ⟨r, at', seed', ?_, by omega, by omega, by omega⟩
   refine Ev.step (fun k => by rw [jB.j1]) ?_
   refine ev_neg (by simp) (ev_eq e (ev_pos (by dsimp only; omega) ?_))
   rw [Bb n (by omega)]; exact q1
  rcases hin with rfl | ⟨e, c, z, rfl, hok, hc, hz⟩
  ·obtain ⟨r, at', seed', q1, q2, q3, q4⟩ := flat at_ seed h0 (by omega) (Int.le_refl _)
   refine ⟨r, at', seed', ?_, q2, q3, q4⟩
   refine Ev.step (fun k => by rw [jB.l0]) ?_
   exact ev_pos (by omega) (ev_neg (by omega) q1)
  obtain ⟨b, a, z1, e1, b1, b2⟩ := DR hs at_ seed 3 h0 (by omega)
  have hstart : ∀ r, Ev (fun k => jB.j1 k ((n + 1 : Nat) : Int) ((e + 1 : Nat) : Int) x7 b s a z1) r → Ev (fun k => jB.l0 k ((n + 1 : Nat) : Int) ((e + 1 : Nat) : Int) x7 s at_ seed) r := fun r h => by
   refine Ev.step (fun k => by rw [jB.l0]) ?_
   exact ev_pos (by omega) (ev_pos (by omega) (ev_eq e1 h))
  cases b with
  | false =>
   obtain ⟨r, at', seed', q1, q2, q3, q4⟩ := flat a z1 (by omega) b2 b1
   exact ⟨r, at', seed', hstart _ q1, q2, q3, q4⟩
  | true =>
   obtain ⟨p, a2, z2, e2, p0, p1, b3, b4⟩ := A0 hs a z1 4 (by omega) (by omega)
   obtain ⟨m, a3, z3, e3, m0, m1', b5, b6⟩ := A0 hs a2 z2 4 (by omega) (by omega)
   have m3 := m1' (by omega)
   obtain ⟨mn, rfl⟩ := Int.eq_ofNat_of_zero_le m0
   have c1 : mn * c ≤ 3 * c := Nat.mul_le_mul_right c (by omega)
   have c2 : mn * z ≤ 3 * z := Nat.mul_le_mul_right z (by omega)
   obtain ⟨t, a4, z4, t1, t2, t3, t4⟩ := hok mn (⟨#[]⟩ : ByteArray) a3 z3 (by omega) (by omega) (by omega) (by show 0 + mn * z ≤ _; omega)
   have t4' : t.size ≤ mn * z := by have : (⟨#[]⟩ : ByteArray).size = 0 := rfl; omega
   have hsz : ∀ y : List Int, y.length = 1 → (Go.strOfNums y).size = 1 := fun y hy => by rw [Go.strOfNums_size, hy]
   have hs1 : (Go.strOfNums [(wrap64 (65 + p)) % 256]).size = 1 := hsz _ rfl
   have hs2 : (⟨#[47]⟩ : ByteArray).size = 1 := rfl
   have hs3 : ((Go.strOfNums [(wrap64 (65 + p)) % 256] ++ t) ++ (⟨#[47]⟩ : ByteArray)).size = 2 + t.size := by rw [Aw, Aw, hs1, hs2]; omega
   obtain ⟨r, at', seed', q1, q2, q3, q4⟩ := ih (x7 ++ ((Go.strOfNums [(wrap64 (65 + p)) % 256] ++ t) ++ (⟨#[47]⟩ : ByteArray))) a4 z4 (by omega) (by omega) (by omega) (by rw [Aw, hs3]; omega)
   rw [Aw, hs3] at q4
   refine ⟨r, at', seed', hstart _ ?_, by omega, by omega, by omega⟩
   refine Ev.step (fun k => by rw [jB.j1]) ?_
   rw [Bb e (by omega), Bb n (by omega)]
   refine ev_pos rfl (ev_eq e2 (ev_eq rfl (ev_eq e3 (Ev.bind (a := (t, a4, z4)) ?_ (ev_pos (by rw [hs1]; simp only; omega) (ev_pos (by rw [Aw, hs1]; simp only; omega) (ev_pos (by rw [hs3]; omega) q1)))))))
   refine Ev.step (fun k => by rw [jB.f]) ?_
   exact t1
theorem E8 {s : List Int} (hs : Bn s) : DC s 3 186 107 :=
 Bz hs 3 186 107 (by omega) (by omega) (by omega) (.inr ⟨2, 60, 35, rfl, Bz hs 2 60 35 (by omega) (by omega) (by omega) (.inr ⟨1, 18, 11, rfl, Bz hs 1 18 11 (by omega) (by omega) (by omega) (.inr ⟨0, 4, 3, rfl, Bz hs 0 4 3 (by omega) (by omega) (by omega) (.inl rfl), by omega, by omega⟩), by omega, by omega⟩), by omega, by omega⟩)
theorem E7 {s : List Int} (hs : Bn s) (n : Nat) (hn : n ≤ 60) (at_ seed : Int) (h0 : 0 ≤ at_) (h1 : at_ ≤ 100000000) : ∃ (r : ByteArray) (at' seed' : Int), Ev (fun k => jB.f k s at_ seed (n : Int) 3) (r, at', seed') ∧ at_ ≤ at' ∧ at' ≤ at_ + 20000 ∧ r.size ≤ 10000 := by
 obtain ⟨r, a, z, q1, q2, q3, q4⟩ := E8 hs n (⟨#[]⟩ : ByteArray) at_ seed hn h0 (by omega) (by show 0 + n * 107 ≤ _; omega)
 have e0 : (⟨#[]⟩ : ByteArray).size = 0 := rfl
 refine ⟨r, a, z, ?_, q2, by omega, by omega⟩
 refine Ev.step (fun k => by rw [jB.f]) ?_
 exact q1
theorem BB (x : ByteArray) (a b : Nat) (h : b ≤ x.size) : (x.extract a b).size = b - a := by rw [ByteArray.size_extract]; omega
set_option maxHeartbeats 4000000 in
theorem Cg {s : List Int} (hs : Bn s) (w : ByteArray) (hw : 1 ≤ w.size ∧ w.size ≤ 100) : ∀ (n : Nat) (x : ByteArray) (at_ seed : Int), n ≤ 3 → 0 ≤ at_ → at_ + 6 * (n : Int) ≤ 6000000000000000 → x.size + n ≤ 1000000000 →
  ∃ (r : ByteArray) (at' seed' : Int), Ev (fun k => jC.l0 k x w (n : Int) s at_ seed) (r, at', seed') ∧ at_ ≤ at' ∧ at' ≤ at_ + 6 * (n : Int) ∧ r.size ≤ x.size + n
 | 0, x, at_, seed, hn, h0, h1, hx => by
  refine ⟨x, at_, seed, ?_, Int.le_refl _, by omega, by omega⟩
  refine Ev.step (fun k => by rw [jC.l0]) ?_
  refine ev_neg (by omega) ?_
  refine Ev.step (fun k => by rw [jC.j1]) ?_
  exact ev_neg (by simp) (ev_ret rfl)
 | n + 1, x, at_, seed, hn, h0, h1, hx => by
  have hstart : ∀ r, Ev (fun k => jC.j1 k x w ((n + 1 : Nat) : Int) (decide ((x.size : Int) > 0)) s at_ seed) r → Ev (fun k => jC.l0 k x w ((n + 1 : Nat) : Int) s at_ seed) r := fun r h => by
   refine Ev.step (fun k => by rw [jC.l0]) ?_
   exact ev_pos (by omega) h
  by_cases hx0 : (x.size : Int) > 0
  ·rw [decide_eq_true hx0] at hstart
   obtain ⟨i, a1, z1, e1, i0, i1, b1, b2⟩ := A0 hs at_ seed (x.size : Int) h0 (by omega)
   obtain ⟨j, a2, z2, e2, j0, j1, b3, b4⟩ := A0 hs a1 z1 (w.size : Int) (by omega) (by omega)
   obtain ⟨c, a3, z3, e3, c0, c1, b5, b6⟩ := A0 hs a2 z2 3 (by omega) (by omega)
   have i2 := i1 (by omega)
   have j2 := j1 (by omega)
   have hone : (Go.strOfNums [bt w j]).size = 1 := by rw [Go.strOfNums_size]; rfl
   obtain ⟨im, rfl⟩ := Int.eq_ofNat_of_zero_le i0
   have s1 := BB x 0 im (by omega)
   have s2 := BB x im x.size (Nat.le_refl _)
   have s3 := BB x (im + 1) x.size (Nat.le_refl _)
   by_cases h3 : c = 0
   ·obtain ⟨r, at', seed', q1, q2, q3, q4⟩ := Cg hs w hw n (((x.extract 0 im) ++ (Go.strOfNums [bt w j])) ++ (x.extract im x.size)) a3 z3 (by omega) (by omega) (by omega) (by rw [Aw, Aw, hone]; omega)
    rw [Aw, Aw, hone] at q4
    refine ⟨r, at', seed', hstart _ ?_, by omega, by omega, by omega⟩
    refine Ev.step (fun k => by rw [jC.j1]) ?_
    refine ev_pos rfl (ev_eq e1 (ev_eq e2 (ev_pos j0 (ev_pos j2 (ev_eq rfl (ev_eq e3 ?_))))))
    dsimp only
    rw [wrap_succ im (by omega), Bb n (by omega), Int.toNat_natCast, Int.toNat_natCast]
    exact ev_pos h3 (ev_pos (by omega) (ev_pos (by omega) (ev_pos (by omega) (ev_pos (by rw [Aw]; omega) q1))))
   ·by_cases h4 : c = 1
    ·obtain ⟨r, at', seed', q1, q2, q3, q4⟩ := Cg hs w hw n (((x.extract 0 im) ++ (Go.strOfNums [bt w j])) ++ (x.extract (im + 1) x.size)) a3 z3 (by omega) (by omega) (by omega) (by rw [Aw, Aw, hone]; omega)
     rw [Aw, Aw, hone] at q4
     refine ⟨r, at', seed', hstart _ ?_, by omega, by omega, by omega⟩
     refine Ev.step (fun k => by rw [jC.j1]) ?_
     refine ev_pos rfl (ev_eq e1 (ev_eq e2 (ev_pos j0 (ev_pos j2 (ev_eq rfl (ev_eq e3 ?_))))))
     dsimp only
     rw [wrap_succ im (by omega), Bb n (by omega), Int.toNat_natCast, Int.toNat_natCast]
     exact ev_neg h3 (ev_pos h4 (ev_pos (by omega) (ev_pos (by omega) (ev_pos (by omega) (ev_pos (by omega) (ev_pos (by omega) (ev_pos (by rw [Aw]; omega) q1)))))))
    ·obtain ⟨r, at', seed', q1, q2, q3, q4⟩ := Cg hs w hw n ((x.extract 0 im) ++ (x.extract (im + 1) x.size)) a3 z3 (by omega) (by omega) (by omega) (by rw [Aw]; omega)
     rw [Aw] at q4
     refine ⟨r, at', seed', hstart _ ?_, by omega, by omega, by omega⟩
     refine Ev.step (fun k => by rw [jC.j1]) ?_
     refine ev_pos rfl (ev_eq e1 (ev_eq e2 (ev_pos j0 (ev_pos j2 (ev_eq rfl (ev_eq e3 ?_))))))
     dsimp only
     rw [wrap_succ im (by omega), Bb n (by omega), Int.toNat_natCast, Int.toNat_natCast]
     exact ev_neg h3 (ev_neg h4 (ev_pos (by omega) (ev_pos (by omega) (ev_pos (by omega) (ev_pos (by omega) (ev_pos (by omega) q1))))))
  ·rw [decide_eq_false hx0] at hstart
   refine ⟨x, at_, seed, hstart _ ?_, Int.le_refl _, by omega, by omega⟩
   refine Ev.step (fun k => by rw [jC.j1]) ?_
   exact ev_neg (by simp) (ev_ret rfl)
theorem Eh {s : List Int} (hs : Bn s) (x w : ByteArray) (hw : 1 ≤ w.size ∧ w.size ≤ 100) (hx : x.size ≤ 900000000) (at_ seed : Int) (h0 : 0 ≤ at_) (h1 : at_ ≤ 5900000000000000) : ∃ (r : ByteArray) (at' seed' : Int), Ev (fun k => jC.f k s at_ seed x w) (r, at', seed') ∧ at_ ≤ at' ∧ at' ≤ at_ + 20 ∧ r.size ≤ x.size + 3 := by
 obtain ⟨m, a, z, e, m0, m1, b1, b2⟩ := A0 hs at_ seed 3 h0 (by omega)
 have m2 := m1 (by omega)
 obtain ⟨mn, rfl⟩ := Int.eq_ofNat_of_zero_le m0
 obtain ⟨r, at', seed', q1, q2, q3, q4⟩ := Cg hs w hw mn x a z (by omega) (by omega) (by omega) (by omega)
 refine ⟨r, at', seed', ?_, by omega, by omega, by omega⟩
 unfold jC.f
 exact ev_eq e q1
theorem GV {s : List Int} (hs : Bn s) (at_ seed : Int) (h0 : 0 ≤ at_) (h1 : at_ ≤ 10000000) : ∃ (r : ByteArray) (at' seed' : Int), Ev (fun k => jI.f k s at_ seed) (r, at', seed') ∧ at_ ≤ at' ∧ at' ≤ at_ + 50000 ∧ r.size ≤ 20000 := by
 have last : ∀ (x : ByteArray) (a z : Int), 0 ≤ a → a ≤ 20000000 → x.size ≤ 10000 → ∃ (r : ByteArray) (at' seed' : Int), Ev (fun k => jI.j0 k x s a z) (r, at', seed') ∧ a ≤ at' ∧ at' ≤ a + 30 ∧ r.size ≤ 20000 := fun x a z a0 a1 hx => by
  obtain ⟨b, a2, z2, e2, b1, b2⟩ := DR hs a z 12 a0 (by omega)
  cases b with
  | true =>
   obtain ⟨r, at', seed', q1, q2, q3, q4⟩ := Eh hs x (⟨#[65, 47, 97, 90]⟩ : ByteArray) (by decide) (by omega) a2 z2 (by omega) (by omega)
   refine ⟨r, at', seed', ?_, by omega, by omega, by omega⟩
   refine Ev.step (fun k => by rw [jI.j0]) ?_
   exact ev_eq e2 (ev_pos rfl (Ev.bind q1 (ev_ret rfl)))
  | false =>
   refine ⟨x, a2, z2, ?_, by omega, by omega, by omega⟩
   refine Ev.step (fun k => by rw [jI.j0]) ?_
   exact ev_eq e2 (ev_neg (by simp) (ev_ret rfl))
 obtain ⟨m, a1, z1, e1, m0, m1, b1, b2⟩ := A0 hs at_ seed 7 h0 (by omega)
 have m2 := m1 (by omega)
 obtain ⟨mn, rfl⟩ := Int.eq_ofNat_of_zero_le m0
 obtain ⟨x, a2, z2, q1, q2, q3, q4⟩ := E7 hs mn (by omega) a1 z1 (by omega) (by omega)
 obtain ⟨c, a3, z3, e3, c0, c1, b3, b4⟩ := A0 hs a2 z2 30 (by omega) (by omega)
 unfold jI.f
 by_cases h3 : c = 0
 ·obtain ⟨y, a4, z4, p1, p2, p3, p4⟩ := E7 hs 60 (Nat.le_refl _) a3 z3 (by omega) (by omega)
  obtain ⟨r, at', seed', r1, r2, r3, r4⟩ := last y a4 z4 (by omega) (by omega) (by omega)
  exact ⟨r, at', seed', ev_eq e1 (Ev.bind q1 (ev_eq e3 (ev_pos h3 (Ev.bind p1 r1)))), by omega, by omega, r4⟩
 by_cases h4 : c = 1
 rotate_left
 ·obtain ⟨r, at', seed', r1, r2, r3, r4⟩ := last x a3 z3 (by omega) (by omega) (by omega)
  exact ⟨r, at', seed', ev_eq e1 (Ev.bind q1 (ev_eq e3 (ev_neg h3 (ev_neg h4 r1)))), by omega, by omega, r4⟩
 obtain ⟨y, a4, z4, e4, p4, p2, p3⟩ := Gg hs a3 z3 [(⟨#[65, 65, 65, 65, 65, 65, 65, 65, 65, 65, 65, 65, 47, 47, 47, 47, 47, 47, 47, 47, 47, 47, 47, 47]⟩ : ByteArray), (⟨#[65, 65, 65, 65, 65, 65, 65, 65, 65, 65, 65, 65, 65, 47, 47, 47, 47, 47, 47, 47, 47, 47, 47, 47, 47, 47]⟩ : ByteArray)] (by omega) (by omega) (by simp) (by simp) 30 (by
  intro x hx
  simp only [List.mem_cons, List.not_mem_nil, or_false] at hx
  rcases hx with rfl | rfl <;> decide)
 obtain ⟨r, at', seed', r1, r2, r3, r4⟩ := last y a4 z4 (by omega) (by omega) (by omega)
 exact ⟨r, at', seed', ev_eq e1 (Ev.bind q1 (ev_eq e3 (ev_neg h3 (ev_pos h4 (ev_eq e4 r1))))), by omega, by omega, r4⟩
def BJ (z : Int) : Int := (z * 6364136223846793005 + 1442695040888963407) % 18446744073709551616
def Dz (z : Int) : Int := BJ (BJ (BJ z))
def tI : Nat → Int → Int
 | 0, z => z
 | n + 1, z => tI n (Dz z)
theorem Dv : ∀ (m n : Nat) (z : Int), tI (m + n) z = tI n (tI m z)
 | 0, n, z => by rw [Nat.zero_add]; rfl
 | m + 1, n, z => by rw [Nat.add_right_comm]; exact Dv m n (Dz z)
theorem Gp (n : Nat) (z : Int) : tI (n + 1) z = Dz (tI n z) := by rw [Dv n 1 z]; rfl
def Ef (n : Nat) (p : Int × Int) : Prop := ∀ z, tI n z % 4398046511104 = (p.1 * z + p.2) % 4398046511104
def G3 : Nat → Int × Int
 | 0 => (1610380290293, 146808144153)
 | k + 1 => let p := G3 k; (p.1 * p.1 % 4398046511104, (p.1 * p.2 + p.2) % 4398046511104)
theorem FG (n : Nat) (p : Int × Int) (h : Ef n p) : Ef (n + n) (p.1 * p.1 % 4398046511104, (p.1 * p.2 + p.2) % 4398046511104) := by
 intro z
 rw [Dv, h]
 have h1 := h z
 have e1 : (p.1 * tI n z + p.2) % 4398046511104 = (p.1 * (p.1 * z + p.2) + p.2) % 4398046511104 := by
  rw [Int.add_emod, Int.mul_emod, h1, ← Int.mul_emod, ← Int.add_emod]
 rw [e1]
 have e2 : p.1 * (p.1 * z + p.2) + p.2 = p.1 * p.1 * z + (p.1 * p.2 + p.2) := by rw [Int.mul_add, Int.mul_assoc, Int.add_assoc]
 rw [e2]
 show _ = ((p.1 * p.1 % 4398046511104) * z + (p.1 * p.2 + p.2) % 4398046511104) % 4398046511104
 rw [← Int.add_emod_emod]
 have e3 : (p.1 * p.1 * z) % 4398046511104 = (p.1 * p.1 % 4398046511104 * z) % 4398046511104 := by rw [Int.mul_emod (p.1 * p.1) z, Int.mul_emod (p.1 * p.1 % 4398046511104) z, Int.emod_emod_of_dvd (p.1 * p.1) (Int.dvd_refl 4398046511104)]
 rw [Int.add_emod, e3, ← Int.add_emod]
theorem FB : Ef 1 (G3 0) := by
 intro z
 show Dz z % 4398046511104 = (1610380290293 * z + 146808144153) % 4398046511104
 unfold Dz BJ; omega
theorem DP : ∀ k : Nat, Ef (2 ^ k) (G3 k)
 | 0 => FB
 | k + 1 => by
  have := FG _ _ (DP k)
  rw [← Nat.two_mul, Nat.mul_comm, ← Nat.pow_succ] at this
  exact this
def Qr (w : Int) : Prop := w / 1099511627776 % 4 = 1
theorem F5 (m n : Nat) (p q : Int × Int) (hp : Ef m p) (hq : Ef n q) : Ef (m + n) (q.1 * p.1 % 4398046511104, (q.1 * p.2 + q.2) % 4398046511104) := by
 intro z
 rw [Dv, hq]
 have h1 := hp z
 have e1 : (q.1 * tI m z + q.2) % 4398046511104 = (q.1 * (p.1 * z + p.2) + q.2) % 4398046511104 := by
  rw [Int.add_emod, Int.mul_emod, h1, ← Int.mul_emod, ← Int.add_emod]
 rw [e1]
 have e2 : q.1 * (p.1 * z + p.2) + q.2 = q.1 * p.1 * z + (q.1 * p.2 + q.2) := by rw [Int.mul_add, Int.mul_assoc, Int.add_assoc]
 rw [e2]
 show _ = ((q.1 * p.1 % 4398046511104) * z + (q.1 * p.2 + q.2) % 4398046511104) % 4398046511104
 rw [← Int.add_emod_emod]
 have e3 : (q.1 * p.1 * z) % 4398046511104 = (q.1 * p.1 % 4398046511104 * z) % 4398046511104 := by rw [Int.mul_emod (q.1 * p.1) z, Int.mul_emod (q.1 * p.1 % 4398046511104) z, Int.emod_emod_of_dvd (q.1 * p.1) (Int.dvd_refl 4398046511104)]
 rw [Int.add_emod, e3, ← Int.add_emod]
def Fq : List Nat → Int × Int
 | [] => (1, 0)
 | k :: l => let p := Fq l; let q := G3 k; (q.1 * p.1 % 4398046511104, (q.1 * p.2 + q.2) % 4398046511104)
def GR : List Nat → Nat
 | [] => 0
 | k :: l => GR l + 2 ^ k
theorem Cd : ∀ l : List Nat, Ef (GR l) (Fq l)
 | [] => fun z => by show z % _ = (1 * z + 0) % _; omega
 | k :: l => F5 _ _ _ _ (Cd l) (DP k)
theorem FY (z : Int) : tI 930 z % 4398046511104 = (3629756268025 * z + 2364472701286) % 4398046511104 := by
 have h := Cd [1, 5, 7, 8, 9] z
 have e : Fq [1, 5, 7, 8, 9] = (3629756268025, 2364472701286) := by decide +kernel
 rw [e] at h; exact h
theorem Fa (z : Int) : tI 1784 z % 4398046511104 = (1426101409 * z + 2924053709576) % 4398046511104 := by
 have h := Cd [3, 4, 5, 6, 7, 9, 10] z
 have e : Fq [3, 4, 5, 6, 7, 9, 10] = (1426101409, 2924053709576) := by decide +kernel
 rw [e] at h; exact h
theorem Fb (z : Int) : tI 9574 z % 4398046511104 = (769716344489 * z + 2758604263842) % 4398046511104 := by
 have h := Cd [1, 2, 5, 6, 8, 10, 13] z
 have e : Fq [1, 2, 5, 6, 8, 10, 13] = (769716344489, 2758604263842) := by decide +kernel
 rw [e] at h; exact h
theorem Dt {w : Int} (h : Qr w) : 1099511627776 ≤ w % 4398046511104 ∧ w % 4398046511104 < 2199023255552 := by
 unfold Qr at h; omega
theorem Gd (w x y v : Int) (hx : x % 4398046511104 = (1426101409 * w + 2924053709576) % 4398046511104) (hy : y % 4398046511104 = (769716344489 * w + 2758604263842) % 4398046511104) (hv : v % 4398046511104 = (3629756268025 * w + 2364472701286) % 4398046511104) (h0 : Qr w) (h1 : Qr x) (h2 : Qr y) (h3 : Qr v) : False := by
 have g0 := Dt h0
 have g1 := Dt h1
 have g2 := Dt h2
 have g3 := Dt h3
 clear h0 h1 h2 h3
 have e : (w % 4398046511104 + x % 4398046511104 - y % 4398046511104 - v % 4398046511104) % 4398046511104 = 2199023255552 := by
  rw [hx, hy, hv]; clear g0 g1 g2 g3 hx hy hv; omega
 clear hx hy hv
 generalize w % 4398046511104 = a at *
 generalize x % 4398046511104 = b at *
 generalize y % 4398046511104 = c at *
 generalize v % 4398046511104 = d at *
 omega
theorem Gw (w : Int) (h : ∀ i, i ≤ 9574 → Qr (tI i w)) : False :=
 Gd w (tI 1784 w) (tI 9574 w) (tI 930 w) (Fa w) (Fb w) (FY w) (h 0 (by omega)) (h 1784 (by omega)) (h 9574 (by omega)) (h 930 (by omega))
theorem F8 {s : List Int} (at_ seed : Int) (h0 : (s.length : Int) ≤ at_) (h1 : at_ ≤ 100000000000000000) : yA.f s at_ seed = some (BJ seed / 1099511627776 % 256, at_ + 1, BJ seed) := by
 unfold yA.f
 have e1 : IntKind.u64.wrap ((IntKind.u64.wrap ((IntKind.u64.wrap (seed * 6364136223846793005)) + 0)) + 1442695040888963407) = BJ seed := by
  rw [Go.IntKind.wrap_u64, Go.IntKind.wrap_u64, Go.IntKind.wrap_u64]; unfold BJ; omega
 have hs : 0 ≤ BJ seed ∧ BJ seed < 18446744073709551616 := by unfold BJ; omega
 rw [wrap_id (x := at_ + 1) (by omega) (by omega), if_neg (by omega), if_neg (by omega), e1]
 have e2 : Go.bits .and .u64 (BJ seed / 1099511627776) 255 = BJ seed / 1099511627776 % 256 := by
  have h := Go.bits_and_u64_nat (BJ seed / 1099511627776).toNat 255 (by omega) (by omega)
  rw [Int.toNat_of_nonneg (by omega)] at h
  have h2 : (BJ seed / 1099511627776).toNat &&& 255 = (BJ seed / 1099511627776).toNat % 256 := Nat.and_two_pow_sub_one_eq_mod _ 8
  have h3 : Go.bits .and .u64 (BJ seed / 1099511627776) 255 = (((BJ seed / 1099511627776).toNat &&& 255 : Nat) : Int) := h
  rw [h3, h2]; omega
 rw [e2, wrap_id (by omega) (by omega)]
theorem Cc {s : List Int} (at_ seed n : Int) (h0 : (s.length : Int) ≤ at_) (h1 : at_ ≤ 100000000000000000) (hn : 1 < n) (hn2 : n ≤ 200) : jD.f s at_ seed n = some (BJ seed / 1099511627776 % 256 % n, at_ + 1, BJ seed) := by
 unfold jD.f
 rw [if_neg (by omega), F8 at_ seed h0 h1]
 simp only [Option.bind_some]
 rw [if_neg (by omega), if_neg (by omega), Int.tmod_eq_emod_of_nonneg (by omega)]
theorem GN {s : List Int} (at_ seed : Int) (l : List ByteArray) (h0 : (s.length : Int) ≤ at_) (h1 : at_ ≤ 100000000000000000) (hl : 1 < l.length) (hl2 : l.length ≤ 200) : ∃ x, jV.f s at_ seed l = some (x, at_ + 1, BJ seed) := by
 unfold jV.f
 rw [Cc at_ seed (l.length : Int) h0 h1 (by omega) (by omega)]
 simp only [Option.bind_some]
 have a : 0 ≤ BJ seed / 1099511627776 % 256 % (l.length : Int) := Int.emod_nonneg _ (by omega)
 have b : BJ seed / 1099511627776 % 256 % (l.length : Int) < (l.length : Int) := Int.emod_lt_of_pos _ (by omega)
 rw [if_pos a, if_pos b]
 exact ⟨_, rfl⟩
def FW (x : IP) : Prop := 0 ≤ x.f0 ∧ x.f0 ≤ 5 ∧ x.f1.size ≤ 3 ∧ x.f2.size ≤ 5
theorem Dx {l : List IP} {p : IP} (h : ∀ x ∈ l, FW x) (hp : FW p) : ∀ x ∈ l ++ [p], FW x := fun x hx => by
 rcases List.mem_append.1 hx with q | q
 ·exact h x q
 ·rw [List.mem_singleton.1 q]; exact hp
def Bd : List ByteArray := [(⟨#[120]⟩ : ByteArray), (⟨#[121, 121]⟩ : ByteArray), (⟨#[65, 47]⟩ : ByteArray), (⟨#[110, 101, 119]⟩ : ByteArray), (⟨#[66]⟩ : ByteArray)]
theorem GG {s : List Int} (hs : Bn s) (x1 : ByteArray) (h1 : x1.size ≤ 20000000) (x5 : List IP) (hl : x5.length ≤ 1000000000000) (p : Nat) (hp : p < x1.size) (at_ seed : Int) (h0 : 0 ≤ at_) (ha : at_ ≤ 9000000000000000) :
  ∃ (at' seed' : Int) (q : IP) (p' : Nat), at_ < at' ∧ at' ≤ at_ + 6 ∧ p' ≤ x1.size ∧ FW q ∧ (p < p' ∨ (p' = p ∧ ((s.length : Int) ≤ at_ → Qr (BJ (BJ seed)) ∧ seed' = Dz seed))) ∧
   ∀ r, Ev (fun k => jE.l0 k x1 (x5 ++ [q]) (p' : Int) s at' seed') r → Ev (fun k => jE.l0 k x1 x5 (p : Int) s at_ seed) r := by
 obtain ⟨n, a1, z1, e1, n0, n1, b1, b2⟩ := A0 hs at_ seed 5 h0 (by omega)
 have n2 := n1 (by omega)
 have b1' : at_ < a1 := by
  by_cases q : at_ < (s.length : Int)
  ·obtain ⟨x, z, e, _⟩ := Ex hs at_ seed h0 (by omega)
   unfold jD.f at e1
   rw [if_neg (by omega), e] at e1
   simp only [Option.bind_some] at e1
   rw [if_neg (by omega), if_neg (by omega)] at e1
   injection e1 with e1; injection e1 with _ e1; injection e1 with e1 _; omega
  ·rw [Cc at_ seed 5 (by omega) (by omega) (by omega) (by omega)] at e1
   injection e1 with e1; injection e1 with _ e1; injection e1 with e1 _; omega
 obtain ⟨c, a2, z2, e2, c0, c1, b3, b4⟩ := A0 hs a1 z1 4 (by omega) (by omega)
 -- how many bytes
 obtain ⟨t, ht1, ht2, ht3, hst⟩ : ∃ t : Nat, 1 ≤ t ∧ p + t ≤ x1.size ∧ t ≤ 5 ∧ ∀ r, Ev (fun k => jE.j1 k x1 x5 (p : Int) (t : Int) s a1 z1) r → Ev (fun k => jE.l0 k x1 x5 (p : Int) s at_ seed) r := by
  have w1 : wrap64 (1 + n) = 1 + n := wrap_id (by omega) (by omega)
  have w2 : wrap64 ((x1.size : Int) - (p : Int)) = (x1.size : Int) - (p : Int) := wrap_id (by omega) (by omega)
  by_cases g : 1 + n > (x1.size : Int) - (p : Int)
  ·refine ⟨x1.size - p, by omega, by omega, by omega, fun r h => ?_⟩
   refine Ev.step (fun k => by rw [jE.l0]) ?_
   refine ev_pos (by omega) (ev_eq e1 ?_)
   rw [w1, w2]
   refine ev_pos g ?_
   rw [show (x1.size : Int) - (p : Int) = ((x1.size - p : Nat) : Int) by omega]; exact h
  ·obtain ⟨nn, rfl⟩ := Int.eq_ofNat_of_zero_le n0
   refine ⟨1 + nn, by omega, by omega, by omega, fun r h => ?_⟩
   refine Ev.step (fun k => by rw [jE.l0]) ?_
   refine ev_pos (by omega) (ev_eq e1 ?_)
   rw [w1, w2]
   refine ev_neg g ?_
   rw [show 1 + (nn : Int) = ((1 + nn : Nat) : Int) by omega]; exact h
 have w3 : wrap64 ((p : Int) + (t : Int)) = ((p + t : Nat) : Int) := by rw [wrap_id (by omega) (by omega)]; omega
 by_cases h3 : c = 0
 ·refine ⟨a2, z2, ⟨0, (⟨#[]⟩ : ByteArray), x1.extract p (p + t)⟩, p + t, by omega, by omega, by omega, ⟨Int.le_refl _, (by show (0 : Int) ≤ 5; omega), Nat.zero_le _, ?_⟩, .inl (by omega), fun r h => hst r ?_⟩
  ·show (x1.extract p (p + t)).size ≤ _
   rw [ByteArray.size_extract]; omega
  refine Ev.step (fun k => by rw [jE.j1]) ?_
  rw [w3, Int.toNat_natCast, Int.toNat_natCast]
  exact ev_eq e2 (ev_pos h3 (ev_pos (by omega) (ev_pos (by omega) (ev_pos (by omega) (ev_pos (by omega) h)))))
 by_cases h4 : c = 1
 rotate_left
 ·refine ⟨a2, z2, ⟨(t : Int), (⟨#[]⟩ : ByteArray), (⟨#[]⟩ : ByteArray)⟩, p + t, by omega, by omega, by omega, ⟨(by show (0 : Int) ≤ (t : Int); omega), (by show (t : Int) ≤ 5; omega), Nat.zero_le _, Nat.zero_le _⟩, .inl (by omega), fun r h => hst r ?_⟩
  refine Ev.step (fun k => by rw [jE.j1]) ?_
  rw [w3]
  exact ev_eq e2 (ev_neg h3 (ev_neg h4 (ev_pos (by omega) h)))
 obtain ⟨u, a3, z3, e3, u1, b5, b6⟩ := Gg hs a2 z2 Bd (by omega) (by omega) (by simp [Bd]) (by simp [Bd]) 3 (by
  intro x hx
  simp only [Bd, List.mem_cons, List.not_mem_nil, or_false] at hx
  rcases hx with rfl | rfl | rfl | rfl | rfl <;> decide)
 refine ⟨a3, z3, ⟨0, u, (⟨#[]⟩ : ByteArray)⟩, p, by omega, by omega, by omega, ⟨Int.le_refl _, (by show (0 : Int) ≤ 5; omega), (by show u.size ≤ 3; omega), Nat.zero_le _⟩, .inr ⟨rfl, fun hc => ?_⟩, fun r h => hst r ?_⟩
 rotate_left
 ·refine Ev.step (fun k => by rw [jE.j1]) ?_
  exact ev_eq e2 (ev_neg h3 (ev_pos h4 (ev_eq e3 (ev_pos (by omega) h))))
 rw [Cc at_ seed 5 (by omega) (by omega) (by omega) (by omega)] at e1
 injection e1 with e1; injection e1 with _ e1; injection e1 with f1 g1
 rw [Cc a1 z1 4 (by omega) (by omega) (by omega) (by omega)] at e2
 injection e2 with e2; injection e2 with k2 e2; injection e2 with f2 g2
 obtain ⟨x, hx⟩ := GN (s := s) a2 z2 Bd (by omega) (by omega) (by simp [Bd]) (by simp [Bd])
 rw [hx] at e3
 injection e3 with e3; injection e3 with _ e3; injection e3 with f3 g3
 rw [← g1] at g2 k2
 refine ⟨?_, ?_⟩
 rotate_left
 ·rw [← g3, ← g2]; rfl
 rw [h4] at k2
 unfold Qr
 clear hst
 generalize BJ (BJ seed) / 1099511627776 = X at k2 ⊢
 omega
def BG (s : List Int) (x1 : ByteArray) (r K : Nat) (m : Int → Int → Prop) : Prop := ∀ (x5 : List IP) (p : Nat) (at_ seed : Int), p + r = x1.size → m at_ seed → 0 ≤ at_ → at_ + 6 * (K : Int) ≤ 8000000000000000 → x5.length + K ≤ 900000000000 → (∀ x ∈ x5, FW x) →
 ∃ (o : List IP) (at' seed' : Int), Ev (fun k => jE.l0 k x1 x5 (p : Int) s at_ seed) (o, at', seed') ∧ at_ ≤ at' ∧ at' ≤ at_ + 6 * (K : Int) ∧ o.length ≤ x5.length + K ∧ ∀ x ∈ o, FW x
theorem Ff {s : List Int} (hs : Bn s) (x1 : ByteArray) (h1 : x1.size ≤ 20000000) : BG s x1 0 2 (fun _ _ => True) := by
 intro x5 p at_ seed hp _ h0 ha hl hsm
 obtain ⟨b, a1, z1, e1, b1, b2⟩ := DR hs at_ seed 3 h0 (by omega)
 cases b with
 | false =>
  refine ⟨x5, a1, z1, ?_, by omega, by omega, by omega, hsm⟩
  refine Ev.step (fun k => by rw [jE.l0]) ?_
  exact ev_neg (by omega) (ev_eq e1 (ev_neg (by simp) (ev_ret rfl)))
 | true =>
  obtain ⟨u, a2, z2, e2, u1, b3, b4⟩ := Gg hs a1 z1 [(⟨#[101, 110, 100]⟩ : ByteArray), (⟨#[46]⟩ : ByteArray)] (by omega) (by omega) (by simp) (by simp) 3 (by
   intro x hx
   simp only [List.mem_cons, List.not_mem_nil, or_false] at hx
   rcases hx with rfl | rfl <;> decide)
  refine ⟨x5 ++ [⟨0, u, (⟨#[]⟩ : ByteArray)⟩], a2, z2, ?_, by omega, by omega, by rw [List.length_append, List.length_singleton]; omega, Dx hsm ⟨Int.le_refl _, (by show (0 : Int) ≤ 5; omega), (by show u.size ≤ 3; omega), Nat.zero_le _⟩⟩
  refine Ev.step (fun k => by rw [jE.l0]) ?_
  exact ev_neg (by omega) (ev_eq e1 (ev_pos rfl (ev_eq e2 (ev_pos (by omega) (ev_ret rfl)))))
theorem CZ {s : List Int} (hs : Bn s) (x1 : ByteArray) (h1 : x1.size ≤ 20000000) (r K : Nat) (m : Int → Int → Prop) (hr : 0 < r)
  (hadv : ∀ r', r' < r → BG s x1 r' K (fun at_ _ => ∃ a z, m a z ∧ a < at_))
  (hput : BG s x1 r K (fun at_ seed => ∃ a z, m a z ∧ a < at_ ∧ ((s.length : Int) ≤ a → Qr (BJ (BJ z)) ∧ seed = Dz z))) : BG s x1 r (K + 1) m := by
 intro x5 p at_ seed hp hm h0 ha hl hsm
 obtain ⟨a', z', q, p', c1, c2, c3, c4, c5, c6⟩ := GG hs x1 h1 x5 (by omega) p (by omega) at_ seed h0 (by omega)
 have hlen : (x5 ++ [q]).length = x5.length + 1 := by rw [List.length_append, List.length_singleton]
 rcases c5 with c5 | ⟨c5, c7⟩
 rotate_left
 ·subst c5
  obtain ⟨o, at', seed', q1, q2, q3, q4, q5⟩ := hput (x5 ++ [q]) p' a' z' hp ⟨at_, seed, hm, c1, c7⟩ (by omega) (by omega) (by omega) (Dx hsm c4)
  exact ⟨o, at', seed', c6 _ q1, by omega, by omega, by omega, q5⟩
 obtain ⟨o, at', seed', q1, q2, q3, q4, q5⟩ := hadv (x1.size - p') (by omega) (x5 ++ [q]) p' a' z' (by omega) ⟨at_, seed, hm, c1⟩ (by omega) (by omega) (by omega) (Dx hsm c4)
 exact ⟨o, at', seed', c6 _ q1, by omega, by omega, by omega, q5⟩
theorem BG.imp {s : List Int} {x1 : ByteArray} {r K K' : Nat} {m m' : Int → Int → Prop} (h : BG s x1 r K m) (hm : ∀ a z, m' a z → m a z) (hK : K ≤ K') : BG s x1 r K' m' := by
 intro x5 p at_ seed hp hm' h0 ha hl hsm
 obtain ⟨o, at', seed', q1, q2, q3, q4, q5⟩ := h x5 p at_ seed hp (hm _ _ hm') h0 (by omega) (by omega) hsm
 exact ⟨o, at', seed', q1, q2, by omega, by omega, q5⟩
theorem Fh (z : Int) : BJ (BJ (Dz z)) = Dz (BJ (BJ z)) := rfl
theorem Fe {s : List Int} (hs : Bn s) (x1 : ByteArray) (h1 : x1.size ≤ 20000000) (r K : Nat) (hr : 0 < r)
  (hadv : ∀ r', r' < r → BG s x1 r' K (fun at_ _ => (s.length : Int) ≤ at_)) (w : Int) (d : Nat) : ∀ i : Nat, i + d = 9575 → (∀ j, j < i → Qr (tI j w)) →
   BG s x1 r (K + d) (fun at_ seed => (s.length : Int) ≤ at_ ∧ BJ (BJ seed) = tI i w) := by
 induction d with
 | zero =>
  intro i hi hq
  exact absurd (Gw w (fun j hj => hq j (by omega))) id
 | succ d ih =>
  intro i hi hq
  refine CZ hs x1 h1 r (K + d) _ hr (fun r' hr' => (hadv r' hr').imp (fun a z ⟨a0, z0, q, q2⟩ => by have := q.1; omega) (by omega)) ?_
  by_cases hqi : Qr (tI i w)
  rotate_left
  ·intro x5 p at_ seed hp ⟨a0, z0, q, q2, q3⟩
   obtain ⟨g1, _⟩ := q3 q.1
   rw [q.2] at g1
   exact absurd g1 hqi
  refine (ih (i + 1) (by omega) (fun j hj => ?_)).imp (fun a z ⟨a0, z0, q, q2, q3⟩ => ?_) (Nat.le_refl _)
  ·by_cases hji : j < i
   ·exact hq j hji
   have : j = i := by omega
   subst this; exact hqi
  obtain ⟨_, g2⟩ := q3 q.1
  refine ⟨by have := q.1; omega, ?_⟩
  rw [g2, Fh, q.2, Gp]
theorem CJ {s : List Int} (hs : Bn s) (x1 : ByteArray) (h1 : x1.size ≤ 20000000) (r K : Nat) (hr : 0 < r)
  (hadv : ∀ r', r' < r → ∀ m : Nat, BG s x1 r' (K + m) (fun at_ _ => (s.length : Int) ≤ at_ + (m : Int))) : ∀ m : Nat,
   BG s x1 r (K + 9575 + m) (fun at_ _ => (s.length : Int) ≤ at_ + (m : Int))
 | 0 => by
  intro x5 p at_ seed hp hm
  exact Fe hs x1 h1 r K hr (fun r' hr' => (hadv r' hr' 0).imp (fun a z q => by omega) (Nat.le_refl _)) (BJ (BJ seed)) 9575 0 (by omega) (fun j hj => by omega) x5 p at_ seed hp ⟨by omega, rfl⟩
 | m + 1 => by
  refine CZ hs x1 h1 r (K + 9575 + m) _ hr (fun r' hr' => (hadv r' hr' m).imp (fun a z ⟨a0, z0, q, q2⟩ => by omega) (by omega)) ?_
  exact (CJ hs x1 h1 r K hr hadv m).imp (fun a z ⟨a0, z0, q, q2, _⟩ => by omega) (Nat.le_refl _)
theorem E9 {s : List Int} (hs : Bn s) (x1 : ByteArray) (h1 : x1.size ≤ 20000000) (r : Nat) : ∀ r', r' ≤ r → ∀ m : Nat, BG s x1 r' (r * 9575 + 2 + m) (fun at_ _ => (s.length : Int) ≤ at_ + (m : Int)) := by
 induction r with
 | zero =>
  intro r' hr' m
  have : r' = 0 := by omega
  subst this
  exact (Ff hs x1 h1).imp (fun _ _ _ => trivial) (by omega)
 | succ r ih =>
  intro r' hr' m
  have e : (r + 1) * 9575 = r * 9575 + 9575 := Nat.succ_mul _ _
  by_cases h : r' ≤ r
  ·exact (ih r' h m).imp (fun _ _ q => q) (by omega)
  exact (CJ hs x1 h1 r' (r * 9575 + 2) (by omega) (fun r'' hr'' m => ih r'' (by omega) m) m).imp (fun _ _ q => q) (by omega)
theorem Eu {s : List Int} (hs : Bn s) (hsl : s.length ≤ 2000000) (t : ByteArray) (ht : t.size ≤ 20000000) (at_ seed : Int) (h0 : 0 ≤ at_) (h1 : at_ ≤ 100000000000000) :
  ∃ (o : List IP) (at' seed' : Int), Ev (fun k => jE.f k s at_ seed t) (o, at', seed') ∧ at_ ≤ at' ∧ at' ≤ at_ + 6 * ((t.size * 9575 + 2 + s.length : Nat) : Int) ∧ o.length ≤ t.size * 9575 + 2 + s.length ∧ ∀ x ∈ o, FW x := by
 obtain ⟨o, at', seed', q1, q2, q3, q4, q5⟩ := E9 hs t (by omega) t.size t.size (Nat.le_refl _) s.length [] 0 at_ seed (by omega) (by omega) h0 (by omega) (by simp only [List.length_nil]; omega) (fun x hx => by cases hx)
 refine ⟨o, at', seed', q1, q2, q3, by simp only [List.length_nil] at q4; omega, q5⟩
theorem DK {s : List Int} (hs : Bn s) (at_ seed : Int) (h0 : 0 ≤ at_) (h1 : at_ ≤ 10000000) :
  ∃ (t : ByteArray) (at' seed' : Int), Ev (fun k => jZ.f k s at_ seed) (t, at', seed') ∧ at_ ≤ at' ∧ at' ≤ at_ + 60000 ∧ t.size ≤ 300 := by
 obtain ⟨x, a1, z1, e1, b1, b2, hx⟩ := GV hs at_ seed h0 h1
 have hg := A3 x (by omega)
 unfold jZ.f
 by_cases g : goodB (bytesOf x) = true
 rotate_left
 ·exact ⟨(⟨#[116, 101, 120, 116]⟩ : ByteArray), a1, z1, Ev.bind e1 (Ev.bind hg (ev_neg g (ev_neg (by omega) (ev_ret rfl)))), by omega, by omega, by decide⟩
 have hz := BS g
 by_cases c : (x.size : Int) > 40
 rotate_left
 ·exact ⟨x, a1, z1, Ev.bind e1 (Ev.bind hg (ev_pos g (ev_neg c (ev_ret rfl)))), by omega, by omega, hz⟩
 obtain ⟨b, a2, z2, e2, b3, b4⟩ := DR hs a1 z1 20 (by omega) (by omega)
 cases b with
 | true => exact ⟨x, a2, z2, Ev.bind e1 (Ev.bind hg (ev_pos g (ev_pos c (ev_eq e2 (ev_pos rfl (ev_ret rfl)))))), by omega, by omega, hz⟩
 | false => exact ⟨x.extract 0 40, a2, z2, Ev.bind e1 (Ev.bind hg (ev_pos g (ev_pos c (ev_eq e2 (ev_neg (by simp) (ev_pos (by omega) (ev_pos (by dsimp only; omega) (ev_ret rfl)))))))), by omega, by omega, by rw [ByteArray.size_extract]; omega⟩
theorem G1 {x : Int} (h : (Lit.int .u8 x).wf = true) : 0 ≤ x ∧ x ≤ 255 := by
 simp [Lit.wf, IntKind.min, IntKind.max, IntKind.signed, IntKind.bits] at h
 omega
theorem E3 {l : List Int} (hl : l.length ≤ 1048576) (h : ∀ x ∈ l, (Lit.int .u8 x).wf = true) : Bn l := ⟨fun x hx => G1 (h x hx), by omega⟩
theorem DL (l : List IP) (hl : l.length ≤ 1000000000) (hp : ∀ p ∈ l, FW p) (c : Nat) (hc : c ≤ 1000000) (d : Nat) : ∀ (i : Nat) (s o : ByteArray), i + d = l.length → o.size + s.size ≤ c + 3 * i →
  ∃ r : ByteArray × Bool, Ev (fun k => jJ.l0 k s o l (l.length : Int) (i : Int)) r ∧ r.1.size ≤ c + 3 * l.length := by
 induction d with
 | zero =>
  intro i s o hi ho
  exact ⟨_, Ev.step (fun k => by rw [jJ.l0]) (ev_neg (by omega) (ev_ret rfl)), by show o.size ≤ _; omega⟩
 | succ d ih =>
  intro i s o hi ho
  obtain ⟨f1, f2, f3, f4⟩ := hp _ (gt_mem By l i (by omega))
  obtain ⟨n, hn, hn2⟩ : ∃ n : Nat, wrap64 ((gt By l i).f0 + ((gt By l i).f2.size : Int)) = (n : Int) ∧ n ≤ 10 := ⟨(gt By l i).f0.toNat + (gt By l i).f2.size, by rw [wrap_id (by omega) (by omega)]; omega, by omega⟩
  have J : ∀ b : Bool, (b = true ∨ n ≤ s.size) → ∃ r : ByteArray × Bool, Ev (fun k => jJ.j1 k s o (n : Int) l (l.length : Int) (i : Int) b (gt By l i).f0 (gt By l i).f1 (gt By l i).f2) r ∧ r.1.size ≤ c + 3 * l.length := by
   intro b hb
   cases b with
   | true => exact ⟨(E0, false), Ev.step (fun k => by rw [jJ.j1]) (ev_pos rfl (ev_ret rfl)), Nat.zero_le _⟩
   | false =>
    have hle := hb.resolve_left (by simp)
    by_cases g : (gt By l i).f0 > 0
    ·obtain ⟨r, h1, h2⟩ := ih (i + 1) (s.extract n s.size) ((o ++ s.extract 0 n) ++ (gt By l i).f1) (by omega) (by rw [ByteArray.size_append, ByteArray.size_append, AH, AH]; omega)
     refine ⟨r, Ev.step (fun k => by rw [jJ.j1]) (ev_neg (by simp) (ev_pos g (ev_pos (by omega) (ev_pos (by omega) (ev_pos (by rw [Int.toNat_natCast, AH]; omega) (ev_pos (by rw [Int.toNat_natCast, ByteArray.size_append, AH]; omega) ?_)))))), h2⟩
     rw [Int.toNat_natCast, wrap_succ i (by omega)]
     exact h1
    ·obtain ⟨r, h1, h2⟩ := ih (i + 1) (s.extract n s.size) (o ++ (gt By l i).f1) (by omega) (by rw [ByteArray.size_append, AH]; omega)
     refine ⟨r, Ev.step (fun k => by rw [jJ.j1]) (ev_neg (by simp) (ev_neg g (ev_pos (by omega) (ev_pos (by omega) (ev_pos (by omega) ?_))))), h2⟩
     rw [Int.toNat_natCast, wrap_succ i (by omega)]
     exact h1
  by_cases h : (n : Int) > (s.size : Int)
  ·obtain ⟨r, h1, h2⟩ := J true (.inl rfl)
   refine ⟨r, Ev.step (fun k => by rw [jJ.l0]) (ev_pos (by omega) (ev_pos (by omega) (ev_pos (by omega) ?_))), h2⟩
   simp only [BE, hn]
   exact ev_pos h h1
  by_cases g : (gt By l i).f2.toList = ([] : List UInt8)
  ·obtain ⟨r, h1, h2⟩ := J false (.inr (by omega))
   refine ⟨r, Ev.step (fun k => by rw [jJ.l0]) (ev_pos (by omega) (ev_pos (by omega) (ev_pos (by omega) ?_))), h2⟩
   simp only [BE, hn]
   exact ev_neg h (ev_pos g h1)
  obtain ⟨r, h1, h2⟩ := J ((s.extract 0 ((n : Int)).toNat).toList != (gt By l i).f2.toList) (.inr (by omega))
  refine ⟨r, Ev.step (fun k => by rw [jJ.l0]) (ev_pos (by omega) (ev_pos (by omega) (ev_pos (by omega) ?_))), h2⟩
  simp only [BE, hn]
  exact ev_neg h (ev_neg g (ev_pos (by omega) (ev_pos (by omega) h1)))
theorem Df {s : List Int} (hs : Bn s) (hsl : s.length ≤ 2000000) (x : ByteArray) (hx : x.size ≤ 20000000) (a z : Int) (h0 : 0 ≤ a) (h1 : a ≤ 100000000000000) (q : List IP) :
  ∃ o : List IP, Ev (fun k => (jO.f k x).bind fun g => if g = true then ((jE.f k s a z x).bind fun o => some (q, o.1)) else ((jE.f k s a z (⟨#[120]⟩ : ByteArray)).bind fun o => some (q, o.1))) (q, o) ∧ ∀ p ∈ o, FW p := by
 have ht := B0 x (by omega)
 by_cases g : textB (bytesOf x) = true
 ·obtain ⟨o, a', z', e, _, _, _, hp⟩ := Eu hs hsl x hx a z h0 h1
  exact ⟨o, Ev.bind ht (ev_pos g (Ev.bind e (ev_ret rfl))), hp⟩
 obtain ⟨o, a', z', e, _, _, _, hp⟩ := Eu hs hsl (⟨#[120]⟩ : ByteArray) (by show (1 : Nat) ≤ 20000000; omega) a z h0 h1
 exact ⟨o, Ev.bind ht (ev_neg g (Ev.bind e (ev_ret rfl))), hp⟩
theorem Co {s : List Int} (hs : Bn s) (hsl : s.length ≤ 1100000) : ∃ r : List IP × List IP, Ev (fun k => jP.f k s) r ∧ (∀ p ∈ r.1, FW p) ∧ ∀ p ∈ r.2, FW p := by
 obtain ⟨t, a1, z1, e1, b1, b2, ht⟩ := DK hs 0 0 (Int.le_refl _) (by omega)
 obtain ⟨o, a2, z2, e2, b3, b4, ho, hsm⟩ := Eu hs (by omega) t (by omega) a1 z1 (by omega) (by omega)
 obtain ⟨⟨u, uk⟩, e3, hu⟩ := DL o (by omega) hsm t.size (by omega) o.length 0 t E0 (by omega) (by show 0 + t.size ≤ _; omega)
 have e3' : Ev (fun k => jJ.f k o t) (u, uk) := by unfold jJ.f; exact e3
 dsimp only at hu
 have hu2 : u.size ≤ 15000000 := by omega
 obtain ⟨b, a3, z3, e4, b5, b6⟩ := DR hs a2 z2 6 (by omega) (by omega)
 unfold jP.f
 cases b with
 | true =>
  obtain ⟨v, a4, z4, e5, b7, b8, hv⟩ := Eh hs u (⟨#[120, 65]⟩ : ByteArray) (by decide) (by omega) a3 z3 (by omega) (by omega)
  obtain ⟨q, e6, hq⟩ := Df hs (by omega) v (by omega) a4 z4 (by omega) (by omega) o
  exact ⟨(o, q), Ev.bind e1 (Ev.bind e2 (Ev.bind e3' (ev_eq e4 (ev_pos rfl (Ev.bind e5 e6))))), hsm, hq⟩
 | false =>
  obtain ⟨q, e6, hq⟩ := Df hs (by omega) u (by omega) a3 z3 (by omega) (by omega) o
  exact ⟨(o, q), Ev.bind e1 (Ev.bind e2 (Ev.bind e3' (ev_eq e4 (ev_neg (by simp) e6)))), hsm, hq⟩
inductive At where
 | k : At
 | p (c : UInt8) : At
 | d (c : UInt8) : At
inductive Sim : List At → List At → Prop where
 | refl (l : List At) : Sim l l
 | cons (a : At) {l m : List At} : Sim l m → Sim (a :: l) (a :: m)
 | swap (c d : UInt8) (l : List At) : Sim (.p c :: .d d :: l) (.d d :: .p c :: l)
 | symm {l m : List At} : Sim l m → Sim m l
 | trans {l m n : List At} : Sim l m → Sim m n → Sim l n
def An : Option (List At) → Option (List At) → Prop
 | none, none => True
 | some l, some m => Sim l m
 | _, _ => False
theorem An.refl : ∀ o, An o o
 | none => True.intro
 | some l => Sim.refl l
theorem An.symm : ∀ {o q}, An o q → An q o
 | none, none, _ => True.intro
 | some _, some _, h => Sim.symm h
theorem An.trans : ∀ {o q r}, An o q → An q r → An o r
 | none, none, none, _, _ => True.intro
 | some _, some _, some _, h, h' => Sim.trans h h'
theorem An.map (a : At) : ∀ {o q}, An o q → An (o.map (a :: ·)) (q.map (a :: ·))
 | none, none, _ => True.intro
 | some _, some _, h => Sim.cons a h
theorem An.swap (c d : UInt8) : ∀ o : Option (List At), An ((o.map (At.d d :: ·)).map (At.p c :: ·)) ((o.map (At.p c :: ·)).map (At.d d :: ·))
 | none => True.intro
 | some l => Sim.swap c d l
def Ai : List At → List At → Option (List At)
 | .d c :: x, y => (Ai x y).map (At.d c :: ·)
 | x, .p c :: y => (Ai x y).map (At.p c :: ·)
 | [], [] => some []
 | .k :: x, .k :: y => (Ai x y).map (At.k :: ·)
 | .k :: x, .d c :: y => (Ai x y).map (At.d c :: ·)
 | .p c :: x, .k :: y => (Ai x y).map (At.p c :: ·)
 | .p c :: x, .d e :: y => if c = e then Ai x y else none
 | _, _ => none
termination_by x y => x.length + y.length
theorem AC (c : UInt8) (x y : List At) : Ai (.d c :: x) y = (Ai x y).map (At.d c :: ·) := by
 cases y with
 | nil => rw [Ai]
 | cons b y => cases b <;> rw [Ai]
theorem BW (c : UInt8) (y : List At) : Ai [] (.p c :: y) = (Ai [] y).map (At.p c :: ·) := by rw [Ai]; intro _ _ h; cases h
theorem BH (c : UInt8) (x y : List At) : Ai (.k :: x) (.p c :: y) = (Ai (.k :: x) y).map (At.p c :: ·) := by rw [Ai]; intro _ _ h; cases h
theorem Bj (c e : UInt8) (x y : List At) : Ai (.p e :: x) (.p c :: y) = (Ai (.p e :: x) y).map (At.p c :: ·) := by rw [Ai]; intro _ _ h; cases h
theorem Cu : Ai [] [] = some [] := by rw [Ai]
theorem Cw (y : List At) : Ai [] (.k :: y) = none := by rw [Ai] <;> (intros; simp_all)
theorem BX (c : UInt8) (y : List At) : Ai [] (.d c :: y) = none := by rw [Ai] <;> (intros; simp_all)
theorem CI (x : List At) : Ai (.k :: x) [] = none := by rw [Ai] <;> (intros; simp_all)
theorem BA (c : UInt8) (x : List At) : Ai (.p c :: x) [] = none := by rw [Ai] <;> (intros; simp_all)
theorem BF (x y : List At) : Ai (.k :: x) (.k :: y) = (Ai x y).map (At.k :: ·) := by rw [Ai]
theorem AY (c : UInt8) (x y : List At) : Ai (.k :: x) (.d c :: y) = (Ai x y).map (At.d c :: ·) := by rw [Ai]
theorem Av (c : UInt8) (x y : List At) : Ai (.p c :: x) (.k :: y) = (Ai x y).map (At.p c :: ·) := by rw [Ai]
theorem AD (c e : UInt8) (x y : List At) : Ai (.p c :: x) (.d e :: y) = if c = e then Ai x y else none := by rw [Ai]
theorem Ct (c : UInt8) (y : List At) : ∀ x, An (Ai x (.p c :: y)) ((Ai x y).map (At.p c :: ·))
 | [] => by rw [BW]; exact An.refl _
 | .k :: x => by rw [BH]; exact An.refl _
 | .p e :: x => by rw [Bj]; exact An.refl _
 | .d e :: x => by
  rw [AC, AC]
  exact ((Ct c y x).map (.d e)).trans (An.swap c e (Ai x y)).symm
theorem Fu {x x' : List At} (h : ∀ y, An (Ai x y) (Ai x' y)) (a : At) : ∀ y, An (Ai (a :: x) y) (Ai (a :: x') y) := by
 intro y
 cases a with
 | d c => rw [AC, AC]; exact (h y).map _
 | k =>
  induction y with
  | nil => rw [CI, CI]; exact An.refl _
  | cons b y ih =>
   cases b with
   | k => rw [BF, BF]; exact (h y).map _
   | p c => rw [BH, BH]; exact ih.map _
   | d c => rw [AY, AY]; exact (h y).map _
 | p e =>
  induction y with
  | nil => rw [BA, BA]; exact An.refl _
  | cons b y ih =>
   cases b with
   | k => rw [Av, Av]; exact (h y).map _
   | p c => rw [Bj, Bj]; exact ih.map _
   | d c =>
    rw [AD, AD]
    by_cases q : e = c
    ·rw [if_pos q, if_pos q]; exact h y
    rw [if_neg q, if_neg q]; exact An.refl _
theorem DQ (c d : UInt8) (x : List At) : ∀ y, An (Ai (.p c :: .d d :: x) y) (Ai (.d d :: .p c :: x) y)
 | [] => by rw [BA, AC, BA]; exact An.refl _
 | .k :: y => by rw [Av, AC, AC, Av]; exact An.swap c d _
 | .p e :: y => by
  have ih := DQ c d x y
  rw [AC] at ih
  rw [Bj, AC, Bj]
  exact (ih.map (.p e)).trans (An.swap e d _)
 | .d e :: y => by
  rw [AD, AC, AC, AD]
  by_cases q : c = e
  ·rw [if_pos q, if_pos q]; exact An.refl _
  ·rw [if_neg q, if_neg q]; exact An.refl _
theorem EN {x x' : List At} (h : Sim x x') : ∀ y, An (Ai x y) (Ai x' y) := by
 induction h with
 | refl l => exact fun y => An.refl _
 | cons a _ ih => exact Fu ih a
 | swap c d l => exact DQ c d l
 | symm _ ih => exact fun y => (ih y).symm
 | trans _ _ i1 i2 => exact fun y => (i1 y).trans (i2 y)
theorem Ej {y y' : List At} (h : ∀ x, An (Ai x y) (Ai x y')) (b : At) : ∀ x, An (Ai x (b :: y)) (Ai x (b :: y'))
 | [] => by
  cases b with
  | k => rw [Cw, Cw]; exact An.refl _
  | p c => rw [BW, BW]; exact (h _).map _
  | d c => rw [BX, BX]; exact An.refl _
 | .k :: x => by
  cases b with
  | k => rw [BF, BF]; exact (h _).map _
  | p c => rw [BH, BH]; exact (h _).map _
  | d c => rw [AY, AY]; exact (h _).map _
 | .p e :: x => by
  cases b with
  | k => rw [Av, Av]; exact (h _).map _
  | p c => rw [Bj, Bj]; exact (h _).map _
  | d c =>
   rw [AD, AD]
   by_cases q : e = c
   ·rw [if_pos q, if_pos q]; exact h _
   ·rw [if_neg q, if_neg q]; exact An.refl _
 | .d e :: x => by rw [AC, AC]; exact (Ej h b x).map _
theorem DJ (c d : UInt8) (y : List At) : ∀ x, An (Ai x (.p c :: .d d :: y)) (Ai x (.d d :: .p c :: y))
 | [] => by rw [BW, BX, BX]; exact An.refl _
 | .k :: x => by
  rw [BH, AY, AY]
  exact (An.swap c d _).trans ((Ct c y x).symm.map _)
 | .p e :: x => by
  rw [Bj, AD, AD]
  by_cases q : e = d
  ·rw [if_pos q, if_pos q]; exact (Ct c y x).symm
  ·rw [if_neg q, if_neg q]; exact An.refl _
 | .d e :: x => by rw [AC, AC]; exact (DJ c d y x).map _
theorem Dr {y y' : List At} (h : Sim y y') : ∀ x, An (Ai x y) (Ai x y') := by
 induction h with
 | refl l => exact fun y => An.refl _
 | cons a _ ih => exact Ej ih a
 | swap c d l => exact DJ c d l
 | symm _ ih => exact fun y => (ih y).symm
 | trans _ _ i1 i2 => exact fun y => (i1 y).trans (i2 y)
theorem GE {x x' y y' : List At} (hx : Sim x x') (hy : Sim y y') : An (Ai x y) (Ai x' y') := (EN hx y).trans (Dr hy x')
def BT : List At → Nat
 | [] => 0
 | .d _ :: x => BT x
 | _ :: x => BT x + 1
def BV : List At → Nat
 | [] => 0
 | .p _ :: x => BV x
 | _ :: x => BV x + 1
theorem Bo : ∀ (n : Nat) (x y z : List At), x.length + y.length ≤ n → Ai x y = some z → BT x = BV y ∧ BV z = BV x ∧ BT z = BT y
 | n, [], [], z, _, h => by rw [Cu] at h; cases h; exact ⟨rfl, rfl, rfl⟩
 | 0, .d c :: x, y, z, hn, h => absurd hn (by simp only [List.length_cons]; omega)
 | 0, [], .p c :: y, z, hn, h => absurd hn (by simp only [List.length_cons]; omega)
 | 0, .k :: x, .p c :: y, z, hn, h => absurd hn (by simp only [List.length_cons]; omega)
 | 0, .p e :: x, .p c :: y, z, hn, h => absurd hn (by simp only [List.length_cons]; omega)
 | 0, .k :: x, .k :: y, z, hn, h => absurd hn (by simp only [List.length_cons]; omega)
 | 0, .k :: x, .d c :: y, z, hn, h => absurd hn (by simp only [List.length_cons]; omega)
 | 0, .p c :: x, .k :: y, z, hn, h => absurd hn (by simp only [List.length_cons]; omega)
 | 0, .p c :: x, .d e :: y, z, hn, h => absurd hn (by simp only [List.length_cons]; omega)
 | n + 1, .d c :: x, y, z, hn, h => by
  rw [AC] at h
  obtain ⟨z', h1, rfl⟩ := Option.map_eq_some_iff.1 h
  obtain ⟨a, b, c⟩ := Bo n x y z' (by simp only [List.length_cons] at hn; omega) h1
  simp only [BT, BV]; omega
 | n + 1, [], .p c :: y, z, hn, h => by
  rw [BW] at h
  obtain ⟨z', h1, rfl⟩ := Option.map_eq_some_iff.1 h
  obtain ⟨a, b, c⟩ := Bo n [] y z' (by simp only [List.length_cons] at hn ⊢; omega) h1
  simp only [BT, BV] at a b ⊢; omega
 | n + 1, .k :: x, .p c :: y, z, hn, h => by
  rw [BH] at h
  obtain ⟨z', h1, rfl⟩ := Option.map_eq_some_iff.1 h
  obtain ⟨a, b, c⟩ := Bo n _ y z' (by simp only [List.length_cons] at hn ⊢; omega) h1
  simp only [BT, BV] at a b ⊢; omega
 | n + 1, .p e :: x, .p c :: y, z, hn, h => by
  rw [Bj] at h
  obtain ⟨z', h1, rfl⟩ := Option.map_eq_some_iff.1 h
  obtain ⟨a, b, c⟩ := Bo n _ y z' (by simp only [List.length_cons] at hn ⊢; omega) h1
  simp only [BT, BV] at a b ⊢; omega
 | n, [], .k :: y, z, _, h => by rw [Cw] at h; cases h
 | n, [], .d c :: y, z, _, h => by rw [BX] at h; cases h
 | n, .k :: x, [], z, _, h => by rw [CI] at h; cases h
 | n, .p c :: x, [], z, _, h => by rw [BA] at h; cases h
 | n + 1, .k :: x, .k :: y, z, hn, h => by
  rw [BF] at h
  obtain ⟨z', h1, rfl⟩ := Option.map_eq_some_iff.1 h
  obtain ⟨a, b, c⟩ := Bo n x y z' (by simp only [List.length_cons] at hn; omega) h1
  simp only [BT, BV] at a b ⊢; omega
 | n + 1, .k :: x, .d c :: y, z, hn, h => by
  rw [AY] at h
  obtain ⟨z', h1, rfl⟩ := Option.map_eq_some_iff.1 h
  obtain ⟨a, b, c⟩ := Bo n x y z' (by simp only [List.length_cons] at hn; omega) h1
  simp only [BT, BV] at a b ⊢; omega
 | n + 1, .p c :: x, .k :: y, z, hn, h => by
  rw [Av] at h
  obtain ⟨z', h1, rfl⟩ := Option.map_eq_some_iff.1 h
  obtain ⟨a, b, c⟩ := Bo n x y z' (by simp only [List.length_cons] at hn; omega) h1
  simp only [BT, BV] at a b ⊢; omega
 | n + 1, .p c :: x, .d e :: y, z, hn, h => by
  rw [AD] at h
  by_cases q : c = e
  ·rw [if_pos q] at h
   obtain ⟨a, b, c⟩ := Bo n x y z (by simp only [List.length_cons] at hn; omega) h
   simp only [BT, BV] at a b ⊢; omega
  ·rw [if_neg q] at h; cases h
def kA (n : Nat) : List At := List.replicate n .k
def pA (s : ByteArray) : List At := s.data.toList.map .p
def dA (s : ByteArray) : List At := s.data.toList.map .d
def AX (p : IP) : List At := kA p.f0.toNat ++ (pA p.f1 ++ dA p.f2)
def Ax (l : List IP) : List At := l.flatMap AX
theorem A8 : Ax [] = [] := rfl
theorem Ad (p : IP) (l : List IP) : Ax (p :: l) = AX p ++ Ax l := rfl
theorem Bm {s : ByteArray} (h : s.size = 0) : pA s = [] := by rw [Am h]; rfl
theorem Bp {s : ByteArray} (h : s.size = 0) : dA s = [] := by rw [Am h]; rfl
def En (f : UInt8 → At) (s : ByteArray) : List At := s.data.toList.map f
theorem C2 (f : UInt8 → At) (a b : ByteArray) : En f (a ++ b) = En f a ++ En f b := by unfold En; rw [ByteArray.data_append, Array.toList_append, List.map_append]
theorem GH (a b : ByteArray) : pA (a ++ b) = pA a ++ pA b := C2 _ a b
theorem GK (a b : ByteArray) : dA (a ++ b) = dA a ++ dA b := C2 _ a b
theorem DW (f : UInt8 → At) (s : ByteArray) (n : Nat) (h : n ≤ s.size) : En f s = En f (s.extract 0 n) ++ En f (s.extract n s.size) := by
 rw [← C2, ← Eb s n h]
theorem EB (a b : Nat) : kA (a + b) = kA a ++ kA b := by unfold kA; rw [List.replicate_append_replicate]
theorem DO : ∀ (l : List UInt8) (x y : List At), Ai (l.map At.d ++ x) y = (Ai x y).map ((l.map At.d) ++ ·)
 | [], x, y => by simp
 | c :: l, x, y => by
  rw [List.map_cons, List.cons_append, AC, DO l x y]
  cases Ai x y <;> rfl
def G2 : List At → Prop
 | .d _ :: _ => False
 | _ => True
theorem G6 {x : List At} (h : G2 x) (c : UInt8) (y : List At) : Ai x (.p c :: y) = (Ai x y).map (At.p c :: ·) := by
 cases x with
 | nil => exact BW c y
 | cons a x =>
  cases a with
  | k => exact BH c x y
  | p e => exact Bj c e x y
  | d e => exact h.elim
theorem EY {x : List At} (h : G2 x) : ∀ (l : List UInt8) (y : List At), Ai x (l.map At.p ++ y) = (Ai x y).map ((l.map At.p) ++ ·)
 | [], y => by simp
 | c :: l, y => by
  rw [List.map_cons, List.cons_append, G6 h, EY h l y]
  cases Ai x y <;> rfl
theorem F1 : ∀ (n : Nat) (x y : List At), Ai (kA n ++ x) (kA n ++ y) = (Ai x y).map (kA n ++ ·)
 | 0, x, y => by simp [kA]
 | n + 1, x, y => by
  have e : kA (n + 1) = At.k :: kA n := rfl
  rw [e, List.cons_append, List.cons_append, BF, F1 n x y]
  cases Ai x y <;> rfl
theorem F4 : ∀ (l : List UInt8) (x y : List At), Ai (kA l.length ++ x) (l.map At.d ++ y) = (Ai x y).map ((l.map At.d) ++ ·)
 | [], x, y => by simp [kA]
 | c :: l, x, y => by
  have e : kA (c :: l).length = At.k :: kA l.length := rfl
  rw [e, List.map_cons, List.cons_append, List.cons_append, AY, F4 l x y]
  cases Ai x y <;> rfl
theorem FS : ∀ (l : List UInt8) (x y : List At), Ai (l.map At.p ++ x) (kA l.length ++ y) = (Ai x y).map ((l.map At.p) ++ ·)
 | [], x, y => by simp [kA]
 | c :: l, x, y => by
  have e : kA (c :: l).length = At.k :: kA l.length := rfl
  rw [e, List.map_cons, List.cons_append, List.cons_append, Av, FS l x y]
  cases Ai x y <;> rfl
theorem FC : ∀ (l m : List UInt8) (x y : List At), l.length = m.length → Ai (l.map At.p ++ x) (m.map At.d ++ y) = if l = m then Ai x y else none
 | [], [], x, y, _ => by simp
 | c :: l, e :: m, x, y, h => by
  rw [List.map_cons, List.map_cons, List.cons_append, List.cons_append, AD, FC l m x y (by simpa using h)]
  by_cases q : c = e
  ·subst q
   rw [if_pos rfl]
   by_cases r : l = m
   ·subst r; rw [if_pos rfl, if_pos rfl]
   ·rw [if_neg r, if_neg (fun z => r (List.cons.inj z).2)]
  ·rw [if_neg q, if_neg (fun z => q (List.cons.inj z).1)]
def E1 (c : UInt8) : ByteArray := ⟨#[c]⟩
def Ep (s : GS) : At → GS
 | .k => (AR s.1 s.2.1 s.2.2 1, ⟨#[]⟩, ⟨#[]⟩)
 | .p c => (s.1, s.2.1 ++ E1 c, s.2.2)
 | .d c => (s.1, s.2.1, s.2.2 ++ E1 c)
theorem D0 {l m : List At} (h : Sim l m) : ∀ s : GS, l.foldl Ep s = m.foldl Ep s := by
 induction h with
 | refl l => exact fun _ => rfl
 | cons a _ ih => exact fun s => by rw [List.foldl_cons, List.foldl_cons, ih]
 | swap c d l => exact fun s => rfl
 | symm _ ih => exact fun s => (ih s).symm
 | trans _ _ i1 i2 => exact fun s => (i1 s).trans (i2 s)
theorem F2 (c : UInt8) (l : List UInt8) : E1 c ++ (⟨l.toArray⟩ : ByteArray) = ⟨(c :: l).toArray⟩ := by
 apply ByteArray.ext; rw [ByteArray.data_append]; simp [E1]
theorem EV : ∀ (l : List UInt8) (g : List Bq) (a b : ByteArray), (l.map At.p).foldl Ep (g, a, b) = (g, a ++ ⟨l.toArray⟩, b)
 | [], g, a, b => by
  show (g, a, b) = (g, a ++ (⟨#[]⟩ : ByteArray), b)
  rw [AN]
 | c :: l, g, a, b => by
  rw [List.map_cons, List.foldl_cons]
  show (l.map At.p).foldl Ep (g, a ++ E1 c, b) = _
  rw [EV l, ByteArray.append_assoc, F2]
theorem DN : ∀ (l : List UInt8) (g : List Bq) (a b : ByteArray), (l.map At.d).foldl Ep (g, a, b) = (g, a, b ++ ⟨l.toArray⟩)
 | [], g, a, b => by
  show (g, a, b) = (g, a, b ++ (⟨#[]⟩ : ByteArray))
  rw [AN]
 | c :: l, g, a, b => by
  rw [List.map_cons, List.foldl_cons]
  show (l.map At.d).foldl Ep (g, a, b ++ E1 c) = _
  rw [DN l, ByteArray.append_assoc, F2]
theorem FX (s : ByteArray) : (⟨s.data.toList.toArray⟩ : ByteArray) = s := by apply ByteArray.ext; simp
theorem Fk (g : List Bq) (a b : ByteArray) (j : Int) : AR (AR g a b j) ⟨#[]⟩ ⟨#[]⟩ 1 = AR g a b (j + 1) := by
 have c0 : (⟨#[]⟩ : ByteArray).size = 0 ∧ (⟨#[]⟩ : ByteArray).size = 0 := ⟨rfl, rfl⟩
 by_cases c : a.size = 0 ∧ b.size = 0
 rotate_left
 ·rw [As c, As c, Ak c0]
 rcases List.eq_nil_or_concat g with e | ⟨g0, s0, e⟩
 ·subst e
  rw [Ay c, Ay c]
  exact Ak c0 [] (a, b, j) 1
 rw [List.concat_eq_append] at e
 subst e
 rw [Ak c, Ak c, Ak c0]
 dsimp only
 rw [Int.add_assoc]
theorem D7 : ∀ (n : Nat) (g : List Bq) (a b : ByteArray), (kA (n + 1)).foldl Ep (g, a, b) = (AR g a b ((n + 1 : Nat) : Int), ⟨#[]⟩, ⟨#[]⟩)
 | 0, g, a, b => rfl
 | n + 1, g, a, b => by
  have e : kA (n + 1 + 1) = kA (n + 1) ++ [At.k] := by rw [EB (n + 1) 1]; rfl
  rw [e, List.foldl_append, D7 n g a b]
  show (AR (AR g a b ((n + 1 : Nat) : Int)) ⟨#[]⟩ ⟨#[]⟩ 1, _, _) = _
  rw [Fk]; rfl
theorem Gn (s : GS) (p : IP) (hp : A4 p) : (AX p).foldl Ep s = Ah s p := by
 obtain ⟨g, a, b⟩ := s
 obtain ⟨p0, p1, p2⟩ := p
 obtain ⟨q1, q2, q3, q4, q5, q6⟩ := hp
 dsimp only at q1 q2 q3 q4 q5 q6
 unfold AX Ah
 dsimp only
 by_cases h0 : p0 = 0
 ·rw [if_pos h0, h0]
  show (pA p1 ++ dA p2).foldl Ep (g, a, b) = _
  unfold pA dA
  rw [List.foldl_append, EV, DN, FX, FX]
 obtain ⟨z1, z2⟩ := q5.resolve_left h0
 rw [if_neg h0, Bm z1, Bp z2, List.append_nil, List.append_nil]
 obtain ⟨n, hn⟩ : ∃ n : Nat, p0 = ((n + 1 : Nat) : Int) := ⟨p0.toNat - 1, by omega⟩
 subst hn
 rw [Int.toNat_natCast, D7]
theorem ET : ∀ (l : List IP) (s : GS), (∀ p ∈ l, A4 p) → (Ax l).foldl Ep s = l.foldl Ah s
 | [], s, _ => rfl
 | p :: l, s, h => by
  rw [Ad, List.foldl_append, Gn s p (h p (List.mem_cons_self ..)), List.foldl_cons]
  exact ET l _ (fun x hx => h x (List.mem_cons_of_mem _ hx))
theorem El {o : Option (List At)} {l : List At} (h : An (some l) o) : ∃ m, o = some m ∧ Sim l m := by
 cases o with
 | none => exact h.elim
 | some m => exact ⟨m, rfl, h⟩
theorem Ag : ∀ (n : Nat) (a b c ab bc : List At), a.length + b.length + c.length ≤ n → Ai a b = some ab → Ai b c = some bc → An (Ai ab c) (Ai a bc)
 | 0, a, b, c, ab, bc, hn, h1, h2 => by
  have ea : a = [] := List.length_eq_zero_iff.1 (by omega)
  have eb : b = [] := List.length_eq_zero_iff.1 (by omega)
  have ec : c = [] := List.length_eq_zero_iff.1 (by omega)
  subst ea eb ec
  rw [Cu] at h1 h2
  cases h1; cases h2; exact An.refl _
 | n + 1, .d x :: a, b, c, ab, bc, hn, h1, h2 => by
  rw [AC] at h1
  obtain ⟨ab', h3, rfl⟩ := Option.map_eq_some_iff.1 h1
  rw [AC, AC]
  exact (Ag n a b c ab' bc (by simp only [List.length_cons] at hn; omega) h3 h2).map _
 | n + 1, a, b, .p x :: c, ab, bc, hn, h1, h2 => by
  have q1 := Ct x c b
  rw [h2] at q1
  obtain ⟨m, hm, hs⟩ := El q1
  obtain ⟨bc', h3, rfl⟩ := Option.map_eq_some_iff.1 hm
  have ih := Ag n a b c ab bc' (by simp only [List.length_cons] at hn; omega) h1 h3
  exact (Ct x c ab).trans ((ih.map _).trans ((Ct x bc' a).symm.trans (Dr hs a).symm))
 | n + 1, a, .d y :: b, c, ab, bc, hn, h1, h2 => by
  rw [AC] at h2
  obtain ⟨bc', h3, rfl⟩ := Option.map_eq_some_iff.1 h2
  match a, hn, h1 with
  | [], hn, h1 => rw [BX] at h1; cases h1
  | .k :: a, hn, h1 =>
   rw [AY] at h1
   obtain ⟨ab', h4, rfl⟩ := Option.map_eq_some_iff.1 h1
   rw [AC, AY]
   exact (Ag n a b c ab' bc' (by simp only [List.length_cons] at hn; omega) h4 h3).map _
  | .p x :: a, hn, h1 =>
   rw [AD] at h1
   by_cases e : x = y
   ·rw [if_pos e] at h1
    rw [AD, if_pos e]
    exact Ag n a b c ab bc' (by simp only [List.length_cons] at hn; omega) h1 h3
   ·rw [if_neg e] at h1; cases h1
  | .d x :: a, hn, h1 =>
   rw [AC] at h1
   obtain ⟨ab', h4, rfl⟩ := Option.map_eq_some_iff.1 h1
   rw [AC, AC]
   exact (Ag n a (.d y :: b) c ab' (.d y :: bc') (by simp only [List.length_cons] at hn ⊢; omega) h4 (by rw [AC, h3]; rfl)).map _
 | n + 1, a, b, [], ab, bc, hn, h1, h2 => by
  match b, hn, h1, h2 with
  | [], hn, h1, h2 =>
   rw [Cu] at h2
   cases h2
   match a, h1 with
   | [], h1 => rw [Cu] at h1; cases h1; exact An.refl _
   | .k :: a, h1 => rw [CI] at h1; cases h1
   | .p x :: a, h1 => rw [BA] at h1; cases h1
   | .d x :: a, h1 =>
    rw [AC] at h1
    obtain ⟨ab', h4, rfl⟩ := Option.map_eq_some_iff.1 h1
    rw [AC, AC]
    exact (Ag n a [] [] ab' [] (by simp only [List.length_cons] at hn ⊢; omega) h4 Cu).map _
  | .k :: b, hn, h1, h2 => rw [CI] at h2; cases h2
  | .p y :: b, hn, h1, h2 => rw [BA] at h2; cases h2
  | .d y :: b, hn, h1, h2 =>
   rw [AC] at h2
   obtain ⟨bc', h3, rfl⟩ := Option.map_eq_some_iff.1 h2
   match a, hn, h1 with
   | [], hn, h1 => rw [BX] at h1; cases h1
   | .k :: a, hn, h1 =>
    rw [AY] at h1
    obtain ⟨ab', h4, rfl⟩ := Option.map_eq_some_iff.1 h1
    rw [AC, AY]
    exact (Ag n a b [] ab' bc' (by simp only [List.length_cons] at hn ⊢; omega) h4 h3).map _
   | .p x :: a, hn, h1 =>
    rw [AD] at h1
    by_cases e : x = y
    ·rw [if_pos e] at h1
     rw [AD, if_pos e]
     exact Ag n a b [] ab bc' (by simp only [List.length_cons] at hn ⊢; omega) h1 h3
    ·rw [if_neg e] at h1; cases h1
   | .d x :: a, hn, h1 =>
    rw [AC] at h1
    obtain ⟨ab', h4, rfl⟩ := Option.map_eq_some_iff.1 h1
    rw [AC, AC]
    exact (Ag n a (.d y :: b) [] ab' (.d y :: bc') (by simp only [List.length_cons] at hn ⊢; omega) h4 (by rw [AC, h3]; rfl)).map _
 | n + 1, a, [], .k :: c, ab, bc, hn, h1, h2 => by rw [Cw] at h2; cases h2
 | n + 1, a, [], .d e :: c, ab, bc, hn, h1, h2 => by rw [BX] at h2; cases h2
 | n + 1, [], .k :: b, .k :: c, ab, bc, hn, h1, h2 => by rw [Cw] at h1; cases h1
 | n + 1, [], .k :: b, .d e :: c, ab, bc, hn, h1, h2 => by rw [Cw] at h1; cases h1
 | n + 1, [], .p y :: b, .k :: c, ab, bc, hn, h1, h2 => by
  rw [BW] at h1
  obtain ⟨ab', h4, rfl⟩ := Option.map_eq_some_iff.1 h1
  rw [Av] at h2
  obtain ⟨bc', h3, rfl⟩ := Option.map_eq_some_iff.1 h2
  rw [Av, BW]
  exact (Ag n [] b c ab' bc' (by simp only [List.length_cons] at hn ⊢; omega) h4 h3).map _
 | n + 1, [], .p y :: b, .d e :: c, ab, bc, hn, h1, h2 => by
  rw [BW] at h1
  obtain ⟨ab', h4, rfl⟩ := Option.map_eq_some_iff.1 h1
  rw [AD] at h2
  by_cases q : y = e
  ·rw [if_pos q] at h2
   rw [AD, if_pos q]
   exact Ag n [] b c ab' bc (by simp only [List.length_cons] at hn ⊢; omega) h4 h2
  ·rw [if_neg q] at h2; cases h2
 | n + 1, .k :: a, .p y :: b, .k :: c, ab, bc, hn, h1, h2 => by
  rw [BH] at h1
  obtain ⟨ab', h4, rfl⟩ := Option.map_eq_some_iff.1 h1
  rw [Av] at h2
  obtain ⟨bc', h3, rfl⟩ := Option.map_eq_some_iff.1 h2
  rw [Av, BH]
  exact (Ag n (.k :: a) b c ab' bc' (by simp only [List.length_cons] at hn ⊢; omega) h4 h3).map _
 | n + 1, .k :: a, .p y :: b, .d e :: c, ab, bc, hn, h1, h2 => by
  rw [BH] at h1
  obtain ⟨ab', h4, rfl⟩ := Option.map_eq_some_iff.1 h1
  rw [AD] at h2
  by_cases q : y = e
  ·rw [if_pos q] at h2
   rw [AD, if_pos q]
   exact Ag n (.k :: a) b c ab' bc (by simp only [List.length_cons] at hn ⊢; omega) h4 h2
  ·rw [if_neg q] at h2; cases h2
 | n + 1, .p x :: a, .p y :: b, .k :: c, ab, bc, hn, h1, h2 => by
  rw [Bj] at h1
  obtain ⟨ab', h4, rfl⟩ := Option.map_eq_some_iff.1 h1
  rw [Av] at h2
  obtain ⟨bc', h3, rfl⟩ := Option.map_eq_some_iff.1 h2
  rw [Av, Bj]
  exact (Ag n (.p x :: a) b c ab' bc' (by simp only [List.length_cons] at hn ⊢; omega) h4 h3).map _
 | n + 1, .p x :: a, .p y :: b, .d e :: c, ab, bc, hn, h1, h2 => by
  rw [Bj] at h1
  obtain ⟨ab', h4, rfl⟩ := Option.map_eq_some_iff.1 h1
  rw [AD] at h2
  by_cases q : y = e
  ·rw [if_pos q] at h2
   rw [AD, if_pos q]
   exact Ag n (.p x :: a) b c ab' bc (by simp only [List.length_cons] at hn ⊢; omega) h4 h2
  ·rw [if_neg q] at h2; cases h2
 | n + 1, .k :: a, .k :: b, .k :: c, ab, bc, hn, h1, h2 => by
  rw [BF] at h1 h2
  obtain ⟨ab', h4, rfl⟩ := Option.map_eq_some_iff.1 h1
  obtain ⟨bc', h3, rfl⟩ := Option.map_eq_some_iff.1 h2
  rw [BF, BF]
  exact (Ag n a b c ab' bc' (by simp only [List.length_cons] at hn ⊢; omega) h4 h3).map _
 | n + 1, .k :: a, .k :: b, .d e :: c, ab, bc, hn, h1, h2 => by
  rw [BF] at h1
  rw [AY] at h2
  obtain ⟨ab', h4, rfl⟩ := Option.map_eq_some_iff.1 h1
  obtain ⟨bc', h3, rfl⟩ := Option.map_eq_some_iff.1 h2
  rw [AY, AY]
  exact (Ag n a b c ab' bc' (by simp only [List.length_cons] at hn ⊢; omega) h4 h3).map _
 | n + 1, .p x :: a, .k :: b, .k :: c, ab, bc, hn, h1, h2 => by
  rw [Av] at h1
  rw [BF] at h2
  obtain ⟨ab', h4, rfl⟩ := Option.map_eq_some_iff.1 h1
  obtain ⟨bc', h3, rfl⟩ := Option.map_eq_some_iff.1 h2
  rw [Av, Av]
  exact (Ag n a b c ab' bc' (by simp only [List.length_cons] at hn ⊢; omega) h4 h3).map _
 | n + 1, .p x :: a, .k :: b, .d e :: c, ab, bc, hn, h1, h2 => by
  rw [Av] at h1
  rw [AY] at h2
  obtain ⟨ab', h4, rfl⟩ := Option.map_eq_some_iff.1 h1
  obtain ⟨bc', h3, rfl⟩ := Option.map_eq_some_iff.1 h2
  rw [AD, AD]
  by_cases q : x = e
  ·rw [if_pos q, if_pos q]
   exact Ag n a b c ab' bc' (by simp only [List.length_cons] at hn ⊢; omega) h4 h3
  ·rw [if_neg q, if_neg q]; exact An.refl _
def Aj : List At → List UInt8 → Option (List UInt8)
 | [], [] => some []
 | .k :: x, c :: s => (Aj x s).map (c :: ·)
 | .p c :: x, s => (Aj x s).map (c :: ·)
 | .d c :: x, e :: s => if c = e then Aj x s else none
 | _, _ => none
theorem Bh (c : UInt8) (x : List At) (s : List UInt8) : Aj (.p c :: x) s = (Aj x s).map (c :: ·) := by cases s <;> rfl
theorem Ez (x : List At) : Aj (.k :: x) [] = none := rfl
theorem Fo (c : UInt8) (x : List At) : Aj (.d c :: x) [] = none := rfl
theorem GC (c : UInt8) (s : List UInt8) : Aj [] (c :: s) = none := rfl
theorem BD : ∀ (n : Nat) (x y z : List At) (s t : List UInt8), x.length + y.length ≤ n → Ai x y = some z → Aj x s = some t → Aj z s = Aj y t
 | 0, .d c :: x, y, z, s, t, hn, h, hr => absurd hn (by simp only [List.length_cons]; omega)
 | 0, [], .p c :: y, z, s, t, hn, h, hr => absurd hn (by simp only [List.length_cons]; omega)
 | 0, .k :: x, .p c :: y, z, s, t, hn, h, hr => absurd hn (by simp only [List.length_cons]; omega)
 | 0, .p e :: x, .p c :: y, z, s, t, hn, h, hr => absurd hn (by simp only [List.length_cons]; omega)
 | 0, .k :: x, .k :: y, z, s, t, hn, h, hr => absurd hn (by simp only [List.length_cons]; omega)
 | 0, .k :: x, .d c :: y, z, s, t, hn, h, hr => absurd hn (by simp only [List.length_cons]; omega)
 | 0, .p c :: x, .k :: y, z, s, t, hn, h, hr => absurd hn (by simp only [List.length_cons]; omega)
 | 0, .p c :: x, .d e :: y, z, s, t, hn, h, hr => absurd hn (by simp only [List.length_cons]; omega)
 | n, [], [], z, s, t, _, h, hr => by
  rw [Cu] at h; cases h
  cases s with
  | nil => cases hr; rfl
  | cons c s => rw [GC] at hr; cases hr
 | n + 1, .d c :: x, y, z, s, t, hn, h, hr => by
  rw [AC] at h
  obtain ⟨z', h1, rfl⟩ := Option.map_eq_some_iff.1 h
  cases s with
  | nil => rw [Fo] at hr; cases hr
  | cons e s =>
   have e1 : ∀ x, Aj (.d c :: x) (e :: s) = if c = e then Aj x s else none := fun _ => rfl
   rw [e1] at hr ⊢
   by_cases q : c = e
   ·rw [if_pos q] at hr ⊢
    exact BD n x y z' s t (by simp only [List.length_cons] at hn; omega) h1 hr
   ·rw [if_neg q] at hr; cases hr
 | n + 1, [], .p c :: y, z, s, t, hn, h, hr => by
  rw [BW] at h
  obtain ⟨z', h1, rfl⟩ := Option.map_eq_some_iff.1 h
  rw [Bh, Bh, BD n [] y z' s t (by simp only [List.length_cons] at hn ⊢; omega) h1 hr]
 | n + 1, .k :: x, .p c :: y, z, s, t, hn, h, hr => by
  rw [BH] at h
  obtain ⟨z', h1, rfl⟩ := Option.map_eq_some_iff.1 h
  rw [Bh, Bh, BD n _ y z' s t (by simp only [List.length_cons] at hn ⊢; omega) h1 hr]
 | n + 1, .p e :: x, .p c :: y, z, s, t, hn, h, hr => by
  rw [Bj] at h
  obtain ⟨z', h1, rfl⟩ := Option.map_eq_some_iff.1 h
  rw [Bh, Bh, BD n _ y z' s t (by simp only [List.length_cons] at hn ⊢; omega) h1 hr]
 | n, [], .k :: y, z, s, t, _, h, _ => by rw [Cw] at h; cases h
 | n, [], .d c :: y, z, s, t, _, h, _ => by rw [BX] at h; cases h
 | n, .k :: x, [], z, s, t, _, h, _ => by rw [CI] at h; cases h
 | n, .p c :: x, [], z, s, t, _, h, _ => by rw [BA] at h; cases h
 | n + 1, .k :: x, .k :: y, z, s, t, hn, h, hr => by
  rw [BF] at h
  obtain ⟨z', h1, rfl⟩ := Option.map_eq_some_iff.1 h
  cases s with
  | nil => rw [Ez] at hr; cases hr
  | cons e s =>
   have e1 : ∀ x s, Aj (.k :: x) (e :: s) = (Aj x s).map (e :: ·) := fun _ _ => rfl
   rw [e1] at hr
   obtain ⟨t', h2, rfl⟩ := Option.map_eq_some_iff.1 hr
   rw [e1, e1, BD n x y z' s t' (by simp only [List.length_cons] at hn; omega) h1 h2]
 | n + 1, .k :: x, .d c :: y, z, s, t, hn, h, hr => by
  rw [AY] at h
  obtain ⟨z', h1, rfl⟩ := Option.map_eq_some_iff.1 h
  cases s with
  | nil => rw [Ez] at hr; cases hr
  | cons e s =>
   have e1 : ∀ x s, Aj (.k :: x) (e :: s) = (Aj x s).map (e :: ·) := fun _ _ => rfl
   have e2 : ∀ x s, Aj (.d c :: x) (e :: s) = if c = e then Aj x s else none := fun _ _ => rfl
   rw [e1] at hr
   obtain ⟨t', h2, rfl⟩ := Option.map_eq_some_iff.1 hr
   rw [e2, e2, BD n x y z' s t' (by simp only [List.length_cons] at hn; omega) h1 h2]
 | n + 1, .p c :: x, .k :: y, z, s, t, hn, h, hr => by
  rw [Av] at h
  obtain ⟨z', h1, rfl⟩ := Option.map_eq_some_iff.1 h
  rw [Bh] at hr
  obtain ⟨t', h2, rfl⟩ := Option.map_eq_some_iff.1 hr
  have e1 : ∀ x s, Aj (.k :: x) (c :: s) = (Aj x s).map (c :: ·) := fun _ _ => rfl
  rw [Bh, e1, BD n x y z' s t' (by simp only [List.length_cons] at hn; omega) h1 h2]
 | n + 1, .p c :: x, .d e :: y, z, s, t, hn, h, hr => by
  rw [AD] at h
  by_cases q : c = e
  ·rw [if_pos q] at h
   rw [Bh] at hr
   obtain ⟨t', h2, rfl⟩ := Option.map_eq_some_iff.1 hr
   have e2 : ∀ x s, Aj (.d e :: x) (c :: s) = if e = c then Aj x s else none := fun _ _ => rfl
   rw [e2, if_pos q.symm]
   exact BD n x y z s t' (by simp only [List.length_cons] at hn; omega) h h2
  ·rw [if_neg q] at h; cases h
theorem Gj {x y : List At} (h : Sim x y) : ∀ s, Aj x s = Aj y s := by
 induction h with
 | refl _ => exact fun _ => rfl
 | cons a _ ih =>
  intro s
  cases a with
  | k => cases s with
   | nil => rfl
   | cons c s => show (Aj _ s).map _ = (Aj _ s).map _; rw [ih]
  | p c => rw [Bh, Bh, ih]
  | d c => cases s with
   | nil => rfl
   | cons e s => show (if c = e then Aj _ s else none) = (if c = e then Aj _ s else none); rw [ih]
 | swap c d m =>
  intro s
  rw [Bh]
  cases s with
  | nil => rfl
  | cons e s =>
   show Option.map _ (if d = e then Aj m s else none) = (if d = e then Aj (.p c :: m) s else none)
   by_cases q : d = e
   rotate_left
   ·rw [if_neg q, if_neg q]; rfl
   rw [if_pos q, if_pos q, Bh]
 | symm _ ih => exact fun s => (ih s).symm
 | trans _ _ i1 i2 => exact fun s => (i1 s).trans (i2 s)
theorem CQ {x y : List At} (h : Sim x y) : ∀ l : List At, Sim (l ++ x) (l ++ y)
 | [] => h
 | a :: l => Sim.cons a (CQ h l)
theorem Fc {x y : List At} (h : Sim x y) (l : List At) : Sim (x ++ l) (y ++ l) := by
 induction h with
 | refl _ => exact Sim.refl _
 | cons a _ ih => exact Sim.cons a ih
 | swap c d m => exact Sim.swap c d _
 | symm _ ih => exact ih.symm
 | trans _ _ i1 i2 => exact i1.trans i2
theorem D1 (c : UInt8) (l : List At) : ∀ ds : List UInt8, Sim (ds.map At.d ++ At.p c :: l) (At.p c :: (ds.map At.d ++ l))
 | [] => Sim.refl _
 | d :: ds => (Sim.cons (.d d) (D1 c l ds)).trans (Sim.swap c d _).symm
def EC (g : List Bq) : Prop := ∀ x ∈ g, 0 ≤ x.2.2
def Es (g : List Bq) : List At := g.flatMap (fun x => pA x.1 ++ (dA x.2.1 ++ kA x.2.2.toNat))
def Gu (s : GS) : List At := Es s.1 ++ (pA s.2.1 ++ dA s.2.2)
theorem Dq (g h : List Bq) : Es (g ++ h) = Es g ++ Es h := by unfold Es; rw [List.flatMap_append]
theorem CA (x : Bq) : Es [x] = pA x.1 ++ (dA x.2.1 ++ kA x.2.2.toNat) := by unfold Es; simp
theorem Gm {g : List Bq} (h : EC g) (a b : ByteArray) : EC (AR g a b 1) := by
 by_cases c : a.size = 0 ∧ b.size = 0
 rotate_left
 ·rw [As c]
  intro x hx
  rcases List.mem_append.1 hx with q | q
  ·exact h x q
  rw [List.mem_singleton.1 q]; show (0 : Int) ≤ 1; omega
 rcases List.eq_nil_or_concat g with e | ⟨g0, s0, e⟩
 ·subst e
  rw [Ay c]
  intro x hx; rw [List.mem_singleton.1 hx]; show (0 : Int) ≤ 1; omega
 rw [List.concat_eq_append] at e
 subst e
 rw [Ak c]
 intro x hx
 rcases List.mem_append.1 hx with q | q
 ·exact h x (List.mem_append_left _ q)
 rw [List.mem_singleton.1 q]
 have := h s0 (by simp)
 show 0 ≤ s0.2.2 + 1; omega
theorem FU {s : GS} (h : EC s.1) (a : At) : EC (Ep s a).1 := by
 cases a with
 | k => exact Gm h _ _
 | p c => exact h
 | d c => exact h
theorem GT (c : UInt8) : pA (E1 c) = [At.p c] := rfl
theorem GU (c : UInt8) : dA (E1 c) = [At.d c] := rfl
theorem GP {g : List Bq} (h : EC g) (a b : ByteArray) : Es (AR g a b 1) = Es g ++ (pA a ++ (dA b ++ [At.k])) := by
 by_cases c : a.size = 0 ∧ b.size = 0
 rotate_left
 ·rw [As c, Dq, CA]; rfl
 rcases List.eq_nil_or_concat g with e | ⟨g0, s0, e⟩
 ·subst e
  rw [Ay c, CA]; rfl
 rw [List.concat_eq_append] at e
 subst e
 have hs := h s0 (by simp)
 have e2 : kA (s0.2.2 + 1).toNat = kA s0.2.2.toNat ++ [At.k] := by
  rw [show (s0.2.2 + 1).toNat = s0.2.2.toNat + 1 by omega, EB]; rfl
 rw [Ak c, Dq, Dq, CA, CA, Bm c.1, Bp c.2]
 dsimp only
 rw [e2]
 simp only [List.append_assoc, List.nil_append]
theorem Gt (s : GS) (h : EC s.1) (a : At) : Sim (Gu s ++ [a]) (Gu (Ep s a)) := by
 obtain ⟨g, u, v⟩ := s
 cases a with
 | k =>
  have e : Gu (Ep (g, u, v) .k) = Gu (g, u, v) ++ [At.k] := by
   show Es (AR g u v 1) ++ (pA ⟨#[]⟩ ++ dA ⟨#[]⟩) = Es g ++ (pA u ++ dA v) ++ [At.k]
   rw [GP h, Bm (s := ⟨#[]⟩) rfl, Bp (s := ⟨#[]⟩) rfl]; simp only [List.append_assoc, List.append_nil]
  rw [e]; exact Sim.refl _
 | p c =>
  show Sim (Es g ++ (pA u ++ dA v) ++ [At.p c]) (Es g ++ (pA (u ++ E1 c) ++ dA v))
  rw [GH, GT]
  simp only [List.append_assoc]
  refine CQ (CQ ?_ _) _
  have := D1 c [] v.data.toList
  rw [List.append_nil] at this
  exact this
 | d c =>
  show Sim (Es g ++ (pA u ++ dA v) ++ [At.d c]) (Es g ++ (pA u ++ dA (v ++ E1 c)))
  rw [GK, GU]
  simp only [List.append_assoc]
  exact Sim.refl _
theorem EZ : ∀ (z : List At) (s : GS), EC s.1 → Sim (Gu s ++ z) (Gu (z.foldl Ep s))
 | [], s, _ => by rw [List.append_nil]; exact Sim.refl _
 | a :: z, s, h => by
  have e : Gu s ++ a :: z = (Gu s ++ [a]) ++ z := by simp
  rw [e, List.foldl_cons]
  exact (Fc (Gt s h a) z).trans (EZ z _ (FU h a))
def CS (z : List At) : GS := z.foldl Ep ([], ⟨#[]⟩, ⟨#[]⟩)
theorem E4 (z : List At) : Sim z (Gu (CS z)) := by
 have := EZ z ([], ⟨#[]⟩, ⟨#[]⟩) (fun x hx => by cases hx)
 exact this
theorem Dy {z w : List At} : Sim z w ↔ CS z = CS w :=
 ⟨fun h => D0 h _, fun h => (E4 z).trans (by rw [h]; exact (E4 w).symm)⟩
theorem Bc (l : List IP) (h : ∀ p ∈ l, A4 p) : CS (Ax l) = AQ l := ET l _ h
def DH (z : List At) : List IP := (Az (CS z).1 ++ endL (CS z).2.1 (CS z).2.2).map ofP
theorem Ds (l : List IP) (hl : l.length ≤ 1000) (h : ∀ p ∈ l, A4 p) : AA l = DH (Ax l) := by
 rw [(Cm l hl h).1]; unfold DH; rw [Bc l h]
theorem FJ {z w : List At} (h : Sim z w) : DH z = DH w := by unfold DH; rw [Dy.1 h]
theorem D5 {l : List IP} (h : Ac l = true) : Sim (Ax l) (Ax (AA l)) := by
 obtain ⟨hl, hp, _, _⟩ := Ab h
 obtain ⟨hl2, hp2, _, _⟩ := Ab (Cn h).1
 rw [Dy, Bc _ (fun p q => AF (hp p q)), Bc _ (fun p q => AF (hp2 p q)), CX l (by omega) (fun p q => AF (hp p q))]
def Bt (s : ByteArray) : List UInt8 := s.data.toList
def oB (l : List UInt8) : ByteArray := ⟨l.toArray⟩
theorem AZ (a b : ByteArray) : Bt (a ++ b) = Bt a ++ Bt b := by unfold Bt; rw [ByteArray.data_append, Array.toList_append]
theorem FF (a : ByteArray) : (Bt a).length = a.size := by unfold Bt; rw [Array.length_toList]; rfl
theorem CT {a b : ByteArray} (h : Bt a = Bt b) : a = b := ByteArray.ext (Array.toList_inj.1 h)
theorem BR (l : List UInt8) : Bt (oB l) = l := by simp [Bt, oB]
theorem ER (l : List UInt8) : (oB l).size = l.length := by rw [← FF, BR]
theorem Db : ∀ (K : List UInt8) (x : List At) (s : List UInt8), Aj (kA K.length ++ x) (K ++ s) = (Aj x s).map (K ++ ·)
 | [], x, s => by simp [kA]
 | c :: K, x, s => by
  have e : kA (c :: K).length = At.k :: kA K.length := rfl
  have e1 : ∀ y t, Aj (.k :: y) (c :: t) = (Aj y t).map (c :: ·) := fun _ _ => rfl
  rw [e, List.cons_append, List.cons_append, e1, Db K x s]
  cases Aj x s <;> rfl
theorem CN : ∀ (P : List UInt8) (x : List At) (s : List UInt8), Aj (P.map At.p ++ x) s = (Aj x s).map (P ++ ·)
 | [], x, s => by simp
 | c :: P, x, s => by
  rw [List.map_cons, List.cons_append, Bh, CN P x s]; cases Aj x s <;> rfl
theorem Dg : ∀ (D : List UInt8) (x : List At) (s : List UInt8), Aj (D.map At.d ++ x) (D ++ s) = Aj x s
 | [], x, s => by simp
 | c :: D, x, s => by
  have e1 : ∀ y t, Aj (.d c :: y) (c :: t) = if c = c then Aj y t else none := fun _ _ => rfl
  rw [List.map_cons, List.cons_append, List.cons_append, e1, if_pos rfl]; exact Dg D x s
theorem BZ : ∀ (n : Nat) (x : List At) (s u : List UInt8), Aj (kA n ++ x) s = some u → ∃ K s' u', K.length = n ∧ s = K ++ s' ∧ u = K ++ u' ∧ Aj x s' = some u'
 | 0, x, s, u, h => ⟨[], s, u, rfl, rfl, rfl, h⟩
 | n + 1, x, s, u, h => by
  have e : kA (n + 1) = At.k :: kA n := rfl
  rw [e, List.cons_append] at h
  cases s with
  | nil => rw [Ez] at h; cases h
  | cons c s =>
   have e1 : Aj (.k :: (kA n ++ x)) (c :: s) = (Aj (kA n ++ x) s).map (c :: ·) := rfl
   rw [e1] at h
   obtain ⟨u1, h1, rfl⟩ := Option.map_eq_some_iff.1 h
   obtain ⟨K, s', u', a, b, c', d⟩ := BZ n x s u1 h1
   exact ⟨c :: K, s', u', by rw [List.length_cons, a], by rw [b]; rfl, by rw [c']; rfl, d⟩
theorem BY : ∀ (D : List UInt8) (x : List At) (s u : List UInt8), Aj (D.map At.d ++ x) s = some u → ∃ s', s = D ++ s' ∧ Aj x s' = some u
 | [], x, s, u, h => ⟨s, rfl, h⟩
 | c :: D, x, s, u, h => by
  rw [List.map_cons, List.cons_append] at h
  cases s with
  | nil => rw [Fo] at h; cases h
  | cons e s =>
   have e1 : Aj (.d c :: (D.map At.d ++ x)) (e :: s) = if c = e then Aj (D.map At.d ++ x) s else none := rfl
   rw [e1] at h
   by_cases q : c = e
   ·rw [if_pos q] at h
    obtain ⟨s', a, b⟩ := BY D x s u h
    exact ⟨s', by rw [q, a]; rfl, b⟩
   ·rw [if_neg q] at h; cases h
theorem F6 (p : IP) (r : List IP) : Ax (p :: r) = kA p.f0.toNat ++ ((Bt p.f1).map At.p ++ ((Bt p.f2).map At.d ++ Ax r)) := by
 rw [Ad]; unfold AX; rw [List.append_assoc, List.append_assoc]; rfl
theorem DA : ∀ (l : List IP) (s t : ByteArray), Ea l s t → Aj (Ax l) (Bt s) = some (Bt t)
 | [], s, t, h => by rw [h.1, h.2]; rfl
 | p :: r, s, t, ⟨K, s', t', h1, h2, h3, h4⟩ => by
  have ih := DA r s' t' h4
  rw [F6, ← h1, ← FF K, h2, h3, AZ, AZ, AZ, AZ, Db, CN, Dg, ih]; rfl
theorem EW : ∀ (l : List IP) (s u : List UInt8), Aj (Ax l) s = some u → Ea l (oB s) (oB u)
 | [], s, u, h => by
  cases s with
  | nil => cases h; exact ⟨rfl, rfl⟩
  | cons c s => rw [A8, GC] at h; cases h
 | p :: r, s, u, h => by
  rw [F6] at h
  obtain ⟨K, s1, u1, k1, rfl, rfl, h1⟩ := BZ _ _ _ _ h
  rw [CN] at h1
  obtain ⟨u2, h2, rfl⟩ := Option.map_eq_some_iff.1 h1
  obtain ⟨s2, rfl, h3⟩ := BY _ _ _ _ h2
  exact ⟨oB K, oB s2, oB u2, by rw [ER, k1], CT (by rw [AZ, AZ, BR, BR, BR]), CT (by rw [AZ, AZ, BR, BR, BR]), EW r s2 u2 h3⟩
theorem Gx (s : ByteArray) : oB (Bt s) = s := CT (BR _)
theorem F7 {l : List IP} {s : ByteArray} (h : ¬ (Do l s).2 = true) : Do l s = (E0, false) := by
 unfold Do at h ⊢
 split
 rotate_left
 ·rfl
 rename_i h1; rw [if_pos h1] at h
 split
 rotate_left
 ·rfl
 rename_i h2; rw [if_pos h2] at h
 split
 rotate_left
 ·rfl
 rename_i h3; rw [if_pos h3] at h
 split
 rotate_left
 ·rfl
 rename_i h4; rw [if_pos h4] at h; exact absurd h4 h
abbrev Fl := List Pt × ByteArray × ByteArray
def Aq (p : IP) : Nat := p.f0.toNat + p.f1.size + p.f2.size
def Bk (l : List IP) : Prop := ∀ p ∈ l, A4 p ∧ 0 < Aq p
theorem AE {p : IP} {l : List IP} (h : Bk (p :: l)) : (A4 p ∧ 0 < Aq p) ∧ Bk l := ⟨h p (List.mem_cons_self ..), fun x hx => h x (List.mem_cons_of_mem _ hx)⟩
theorem Cb {p : IP} {l : List IP} (h1 : A4 p) (h2 : 0 < Aq p) (h : Bk l) : Bk (p :: l) := fun x hx => (List.mem_cons.1 hx).elim (fun e => by rw [e]; exact ⟨h1, h2⟩) (h x)
structure CutIs (p : IP) (n : Nat) (a : IP) : Prop where
 one : A4 a
 sz : Aq a = n
 k : 0 < a.f0 ↔ 0 < p.f0
 put : a.f1.size = 0 ↔ p.f1.size = 0
 drop : a.f2.size = 0 ↔ p.f2.size = 0
theorem C0 (s : ByteArray) (n : Nat) (h : n ≤ s.size) : (s.extract 0 n).size = n ∧ (s.extract n s.size).size = s.size - n := by
 rw [ByteArray.size_extract, ByteArray.size_extract]; omega
theorem DV {p : IP} {n : Nat} (h : A4 p) (h0 : 0 < n) (h1 : n < Aq p) (hk : 0 < p.f0) : CutIs p n ⟨n, p.f1, p.f2⟩ ∧ (A4 ⟨p.f0 - n, p.f1, p.f2⟩ ∧ Aq ⟨p.f0 - n, p.f1, p.f2⟩ = Aq p - n) ∧ AX p = AX ⟨n, p.f1, p.f2⟩ ++ AX ⟨p.f0 - n, p.f1, p.f2⟩ := by
 obtain ⟨p0, p1, p2⟩ := p
 obtain ⟨q1, q2, q3, q4, q5, q6⟩ := h
 unfold Aq at *
 dsimp only at *
 obtain ⟨z1, z2⟩ := q5.resolve_left (by omega)
 refine ⟨⟨⟨by dsimp only; omega, by dsimp only; omega, by dsimp only; omega, by dsimp only; omega, .inr ⟨z1, z2⟩, .inl z1⟩, by unfold Aq; dsimp only; omega, by dsimp only; omega, Iff.rfl, Iff.rfl⟩, ⟨⟨by dsimp only; omega, by dsimp only; omega, by dsimp only; omega, by dsimp only; omega, .inr ⟨z1, z2⟩, .inl z1⟩, by omega⟩, ?_⟩
 unfold AX
 dsimp only
 rw [Bm z1, Bp z2]
 simp only [List.append_nil]
 rw [← EB]
 congr 1; omega
theorem E2 {p : IP} {n : Nat} (h : A4 p) (h0 : 0 < n) (h1 : n < Aq p) (hk : ¬ 0 < p.f0) (hp : p.f1.size ≠ 0) : n ≤ p.f1.size ∧ CutIs p n ⟨p.f0, p.f1.extract 0 n, p.f2⟩ ∧ (A4 ⟨p.f0, p.f1.extract n p.f1.size, p.f2⟩ ∧ Aq ⟨p.f0, p.f1.extract n p.f1.size, p.f2⟩ = Aq p - n) ∧ AX p = AX ⟨p.f0, p.f1.extract 0 n, p.f2⟩ ++ AX ⟨p.f0, p.f1.extract n p.f1.size, p.f2⟩ := by
 obtain ⟨p0, p1, p2⟩ := p
 obtain ⟨q1, q2, q3, q4, q5, q6⟩ := h
 unfold Aq at *
 dsimp only at *
 have z2 : p2.size = 0 := by omega
 have z0 : p0 = 0 := by omega
 have hn : n ≤ p1.size := by omega
 obtain ⟨e1, e2⟩ := C0 p1 n hn
 refine ⟨hn, ⟨⟨by dsimp only; omega, by dsimp only; omega, by dsimp only; omega, by dsimp only; omega, .inl z0, .inr z2⟩, by unfold Aq; dsimp only; omega, by dsimp only; omega, by dsimp only; omega, Iff.rfl⟩, ⟨⟨by dsimp only; omega, by dsimp only; omega, by dsimp only; omega, by dsimp only; omega, .inl z0, .inr z2⟩, by omega⟩, ?_⟩
 unfold AX
 dsimp only
 rw [z0, Bp z2, List.append_nil, List.append_nil, List.append_nil]
 exact DW At.p p1 n hn
theorem Ed {p : IP} {n : Nat} (h : A4 p) (h0 : 0 < n) (h1 : n < Aq p) (hk : ¬ 0 < p.f0) (hp : p.f1.size = 0) : n ≤ p.f2.size ∧ CutIs p n ⟨p.f0, p.f1, p.f2.extract 0 n⟩ ∧ (A4 ⟨p.f0, p.f1, p.f2.extract n p.f2.size⟩ ∧ Aq ⟨p.f0, p.f1, p.f2.extract n p.f2.size⟩ = Aq p - n) ∧ AX p = AX ⟨p.f0, p.f1, p.f2.extract 0 n⟩ ++ AX ⟨p.f0, p.f1, p.f2.extract n p.f2.size⟩ := by
 obtain ⟨p0, p1, p2⟩ := p
 obtain ⟨q1, q2, q3, q4, q5, q6⟩ := h
 unfold Aq at *
 dsimp only at *
 have z0 : p0 = 0 := by omega
 have hn : n ≤ p2.size := by omega
 obtain ⟨e1, e2⟩ := C0 p2 n hn
 refine ⟨hn, ⟨⟨by dsimp only; omega, by dsimp only; omega, by dsimp only; omega, by dsimp only; omega, .inl z0, .inl hp⟩, by unfold Aq; dsimp only; omega, by dsimp only; omega, Iff.rfl, by dsimp only; omega⟩, ⟨⟨by dsimp only; omega, by dsimp only; omega, by dsimp only; omega, by dsimp only; omega, .inl z0, .inl hp⟩, by omega⟩, ?_⟩
 unfold AX
 dsimp only
 rw [z0, Bm hp]
 exact DW At.d p2 n hn
theorem CB {p : IP} (h : A4 p) : CutIs p (Aq p) p := ⟨h, rfl, Iff.rfl, Iff.rfl, Iff.rfl⟩
theorem AM {a : IP} (h : A4 a) (hk : 0 < a.f0) : a = ⟨Aq a, ⟨#[]⟩, ⟨#[]⟩⟩ ∧ AX a = kA (Aq a) := by
 obtain ⟨p0, p1, p2⟩ := a
 obtain ⟨q1, q2, q3, q4, q5, q6⟩ := h
 unfold Aq
 dsimp only at *
 obtain ⟨z1, z2⟩ := q5.resolve_left (by omega)
 refine ⟨?_, ?_⟩
 ·rw [Am z1, Am z2]
  congr 1
  show p0 = ((p0.toNat + 0 + 0 : Nat) : Int); omega
 unfold AX
 dsimp only
 rw [Bm z1, Bp z2, z1, z2, List.append_nil, List.append_nil]; rfl
theorem CD {a : IP} (h : A4 a) (hk : ¬ 0 < a.f0) (hd : a.f2.size = 0) : AX a = a.f1.data.toList.map At.p ∧ a.f1.data.toList.length = Aq a := by
 obtain ⟨p0, p1, p2⟩ := a
 obtain ⟨q1, q2, q3, q4, q5, q6⟩ := h
 unfold Aq AX
 dsimp only at *
 have z : p0 = 0 := by omega
 rw [z, Bp hd, hd, List.append_nil]
 refine ⟨rfl, ?_⟩
 rw [Array.length_toList]; show p1.size = 0 + p1.size + 0; omega
theorem Cf {a : IP} (h : A4 a) (hk : ¬ 0 < a.f0) (hd : a.f1.size = 0) : AX a = a.f2.data.toList.map At.d ∧ a.f2.data.toList.length = Aq a := by
 obtain ⟨p0, p1, p2⟩ := a
 obtain ⟨q1, q2, q3, q4, q5, q6⟩ := h
 unfold Aq AX
 dsimp only at *
 have z : p0 = 0 := by omega
 rw [z, Bm hd, hd]
 refine ⟨rfl, ?_⟩
 rw [Array.length_toList]; show p2.size = 0 + 0 + p2.size; omega
theorem EK (a b : IP) (x y : List At) (ha : A4 a) (hb : A4 b) (hs : Aq a = Aq b) (hd : a.f2.size = 0) (hq : b.f1.size = 0) :
  Ai (AX a ++ x) (AX b ++ y) = if 0 < a.f0 then (Ai x y).map (AX b ++ ·) else if 0 < b.f0 then (Ai x y).map (AX a ++ ·) else if a.f1 = b.f2 then Ai x y else none := by
 by_cases ka : 0 < a.f0
 ·rw [if_pos ka, (AM ha ka).2]
  by_cases kb : 0 < b.f0
  ·rw [(AM hb kb).2, hs]; exact F1 _ x y
  obtain ⟨e1, e2⟩ := Cf hb kb hq
  rw [e1, hs, ← e2]; exact F4 _ x y
 rw [if_neg ka]
 obtain ⟨f1, f2⟩ := CD ha ka hd
 by_cases kb : 0 < b.f0
 ·rw [if_pos kb, (AM hb kb).2, f1, ← hs, ← f2]; exact FS _ x y
 obtain ⟨e1, e2⟩ := Cf hb kb hq
 rw [if_neg kb, f1, e1, FC _ _ x y (by omega)]
 by_cases q : a.f1 = b.f2
 ·rw [if_pos q, if_pos (by rw [q])]
 rw [if_neg q, if_neg (fun z => q (ByteArray.ext (Array.toList_inj.1 z)))]
theorem B4 (p : IP) (x : List At) (y : List At) (h : A4 p) (hd : p.f2.size ≠ 0) : Ai (AX p ++ x) y = (Ai x y).map (AX p ++ ·) := by
 have hk : ¬ 0 < p.f0 := fun q => by have := h.2.2.2.2.1; omega
 have h1 : p.f1.size = 0 := by have := h.2.2.2.2.2; omega
 rw [(Cf h hk h1).1]; exact DO _ x y
theorem Cz (q : IP) (x : List At) (y : List At) (h : A4 q) (hd : q.f1.size ≠ 0) (hn : G2 x) : Ai x (AX q ++ y) = (Ai x y).map (AX q ++ ·) := by
 have hk : ¬ 0 < q.f0 := fun z => by have := h.2.2.2.2.1; omega
 have h1 : q.f2.size = 0 := by have := h.2.2.2.2.2; omega
 rw [(CD h hk h1).1]; exact EY hn _ y
theorem DS (p : IP) (x : List IP) (h : A4 p) (hz : 0 < Aq p) (hd : p.f2.size = 0) : G2 (Ax (p :: x)) := by
 rw [Ad]
 by_cases hk : 0 < p.f0
 ·rw [(AM h hk).2]
  obtain ⟨m, hm⟩ : ∃ m, Aq p = m + 1 := ⟨Aq p - 1, by omega⟩
  rw [hm]; exact True.intro
 obtain ⟨e1, e2⟩ := CD h hk hd
 rw [e1]
 cases hl : p.f1.data.toList with
 | nil => rw [hl] at e2; simp at e2; omega
 | cons c l => exact True.intro
theorem GW (q : IP) (y : List At) (h : A4 q) (hz : 0 < Aq q) (hd : q.f1.size = 0) : Ai [] (AX q ++ y) = none := by
 by_cases hk : 0 < q.f0
 ·rw [(AM h hk).2]
  obtain ⟨m, hm⟩ : ∃ m, Aq q = m + 1 := ⟨Aq q - 1, by omega⟩
  rw [hm]; exact Cw _
 obtain ⟨e1, e2⟩ := Cf h hk hd
 rw [e1]
 cases hl : q.f2.data.toList with
 | nil => rw [hl] at e2; simp at e2; omega
 | cons c l => exact BX c _
theorem GY (p : IP) (x : List At) (h : A4 p) (hz : 0 < Aq p) (hd : p.f2.size = 0) : Ai (AX p ++ x) [] = none := by
 by_cases hk : 0 < p.f0
 ·rw [(AM h hk).2]
  obtain ⟨m, hm⟩ : ∃ m, Aq p = m + 1 := ⟨Aq p - 1, by omega⟩
  rw [hm]; exact CI _
 obtain ⟨e1, e2⟩ := CD h hk hd
 rw [e1]
 cases hl : p.f1.data.toList with
 | nil => rw [hl] at e2; simp at e2; omega
 | cons c l => exact BA c _
def Bf (n : Nat) (L : List Pt) : Prop := ∀ q ∈ L, q.2.1.size ≤ 300 * n ∧ q.2.2.size ≤ 300 * n
theorem Bf.app {n : Nat} {A B : List Pt} (ha : Bf n A) (hb : Bf n B) : Bf n (A ++ B) := fun q h => (List.mem_append.1 h).elim (ha q) (hb q)
theorem CO {n : Nat} {a b : ByteArray} (ha : a.size ≤ 300 * n) (hb : b.size ≤ 300 * n) : Bf n (endL a b) := by
 intro q hq
 unfold endL at hq
 rcases List.mem_append.1 hq with h | h
 ·split at h
  ·cases h
  rw [List.mem_singleton.1 h]; exact ⟨ha, Nat.zero_le _⟩
 split at h
 ·cases h
 rw [List.mem_singleton.1 h]; exact ⟨Nat.zero_le _, hb⟩
theorem Ec {n : Nat} {L : List Pt} (h : Bf n L) (x : Int) : Bf n (keepA L x) := by
 unfold keepA
 split
 rotate_left
 ·intro q hq; rw [List.mem_singleton.1 hq]; exact ⟨Nat.zero_le _, Nat.zero_le _⟩
 rename_i p hp
 have hm := List.mem_of_getLast? hp
 split
 rotate_left
 ·exact Bf.app h (fun q hq => by rw [List.mem_singleton.1 hq]; exact ⟨Nat.zero_le _, Nat.zero_le _⟩)
 exact Bf.app (fun q hq => h q (List.dropLast_subset _ hq)) (fun q hq => by rw [List.mem_singleton.1 hq]; exact h p hm)
theorem Ew {n : Nat} {s : List Pt × ByteArray × ByteArray} (p : Pt) (h : Bf n s.1) (ha : s.2.1.size ≤ 300 * n) (hb : s.2.2.size ≤ 300 * n) : Bf n (takeP s p).1 := by
 unfold takeP keepS
 simp only
 split
 ·exact h
 exact Ec (Bf.app h (CO ha hb)) _
theorem Dk (l : List IP) (hs : ∀ x ∈ l, x.f1.size ≤ 300 ∧ x.f2.size ≤ 300) : ∀ i, i ≤ l.length → Bf i (stN l i).1
 | 0, _ => fun q h => by cases h
 | i + 1, h => by
  have ih := Dk l hs i (by omega)
  obtain ⟨_, h2, h3⟩ := stN_bound l hs i (by omega)
  rw [stN_succ l i (by omega)]
  intro q hq
  have := Ew (toP (l[i]'(by omega))) ih h2 h3 q hq
  omega
def Ap (a b : List IP) : List IP × Bool :=
 if Ac a = true ∧ Ac b = true then
  (match Ai (Ax a) (Ax b) with
   | some z => if Ac (DH z) = true then (DH z, true) else ([], false)
   | none => ([], false))
 else ([], false)
theorem Bl {a b : List IP} (h : ¬ (Ac a = true ∧ Ac b = true)) : Ap a b = ([], false) := by unfold Ap; rw [if_neg h]
theorem AT {a b : List IP} (h : Ai (Ax a) (Ax b) = none) : Ap a b = ([], false) := by unfold Ap; rw [h]; split <;> rfl
theorem Ba {a b : List IP} (h : Ac a = true ∧ Ac b = true) {z : List At} (hz : Ai (Ax a) (Ax b) = some z) : Ap a b = if Ac (DH z) = true then (DH z, true) else ([], false) := by unfold Ap; rw [if_pos h, hz]
theorem AI {a b : List IP} (h : (Ap a b).2 = true) : Ac a = true ∧ Ac b = true ∧ ∃ z, Ai (Ax a) (Ax b) = some z ∧ Ac (DH z) = true ∧ Ap a b = (DH z, true) := by
 by_cases g : Ac a = true ∧ Ac b = true
 rotate_left
 ·rw [Bl g] at h; cases h
 cases hz : Ai (Ax a) (Ax b) with
 | none => rw [AT hz] at h; cases h
 | some z =>
  rw [Ba g hz] at h ⊢
  by_cases gz : Ac (DH z) = true
  rotate_left
  ·rw [if_neg gz] at h; cases h
  rw [if_pos gz]; exact ⟨g.1, g.2, z, rfl, gz, rfl⟩
theorem D9 (a b : List IP) : (Ap a b).1.length ≤ 60 := by
 by_cases h : (Ap a b).2 = true
 ·obtain ⟨_, _, z, _, gz, e⟩ := AI h
  rw [e]; exact (Ab gz).1
 by_cases g : Ac a = true ∧ Ac b = true
 rotate_left
 ·rw [Bl g]; simp
 cases hz : Ai (Ax a) (Ax b) with
 | none => rw [AT hz]; simp
 | some z =>
  rw [Ba g hz] at h ⊢
  by_cases gz : Ac (DH z) = true
  rotate_left
  ·rw [if_neg gz]; simp
  rw [if_pos gz]; exact (Ab gz).1
theorem B8 (l : List IP) (hl : l.length ≤ 1000) (hp : ∀ p ∈ l, A4 p) : (∀ x ∈ AA l, x.f1.size ≤ 1048576 ∧ x.f2.size ≤ 1048576) ∧ (AA l).length ≤ 3 * l.length + 2 := by
 have hs : ∀ x ∈ l, x.f1.size ≤ 300 ∧ x.f2.size ≤ 300 := fun x hx => ⟨(hp x hx).2.2.1, (hp x hx).2.2.2.1⟩
 obtain ⟨b0, b2, b3⟩ := stN_bound l hs l.length (Nat.le_refl _)
 have b1 := Dk l hs l.length (Nat.le_refl _)
 have e : stN l l.length = (l.map toP).foldl takeP ([], ⟨#[]⟩, ⟨#[]⟩) := by unfold stN; rw [List.take_of_length_le (Nat.le_refl _)]
 rw [e] at b0 b1 b2 b3
 refine ⟨fun x hx => ?_, ?_⟩
 ·unfold AA normP at hx
  obtain ⟨q, hq, rfl⟩ := List.mem_map.1 hx
  have := Bf.app b1 (CO b2 b3) q hq
  exact ⟨by show q.2.1.size ≤ _; omega, by show q.2.2.size ≤ _; omega⟩
 have := DZ ((l.map toP).foldl takeP ([], ⟨#[]⟩, ⟨#[]⟩)).2.1 ((l.map toP).foldl takeP ([], ⟨#[]⟩, ⟨#[]⟩)).2.2
 unfold AA normP
 rw [List.length_map, List.length_append]; omega
theorem FN (l : List IP) (hp : ∀ p ∈ l, A4 p) : ((l.map toP).foldl takeP ([], ⟨#[]⟩, ⟨#[]⟩)).1.length ≤ 3 * l.length := by
 have hs : ∀ x ∈ l, x.f1.size ≤ 300 ∧ x.f2.size ≤ 300 := fun x hx => ⟨(hp x hx).2.2.1, (hp x hx).2.2.2.1⟩
 obtain ⟨b0, _, _⟩ := stN_bound l hs l.length (Nat.le_refl _)
 have e : stN l l.length = (l.map toP).foldl takeP ([], ⟨#[]⟩, ⟨#[]⟩) := by unfold stN; rw [List.take_of_length_le (Nat.le_refl _)]
 rw [e] at b0; exact b0
theorem Ch {l : List IP} (h : Ac l = true) : Bk l := by
 obtain ⟨_, hp, _, _⟩ := Ab h
 intro p hm
 refine ⟨AF (hp p hm), ?_⟩
 have hb := hp p hm
 unfold Af at hb
 unfold Aq
 by_cases c0 : p.f0 = 0
 rotate_left
 ·have := (AF (hp p hm)).1; omega
 rw [if_pos c0] at hb
 by_cases c1 : p.f1.toList = ([] : List UInt8)
 rotate_left
 ·rw [Aa] at c1; omega
 rw [if_pos c1] at hb
 by_cases c2 : p.f2.toList = ([] : List UInt8)
 rotate_left
 ·rw [Aa] at c2; omega
 rw [if_pos c2] at hb; cases hb
theorem A6 : ∀ a b : List At, BT (a ++ b) = BT a + BT b
 | [], b => by simp [BT]
 | .k :: a, b => by rw [List.cons_append]; simp only [BT]; rw [A6 a b]; omega
 | .p c :: a, b => by rw [List.cons_append]; simp only [BT]; rw [A6 a b]; omega
 | .d c :: a, b => by rw [List.cons_append]; simp only [BT]; rw [A6 a b]
theorem A5 : ∀ a b : List At, BV (a ++ b) = BV a + BV b
 | [], b => by simp [BV]
 | .k :: a, b => by rw [List.cons_append]; simp only [BV]; rw [A5 a b]; omega
 | .p c :: a, b => by rw [List.cons_append]; simp only [BV]; rw [A5 a b]
 | .d c :: a, b => by rw [List.cons_append]; simp only [BV]; rw [A5 a b]; omega
theorem GD : ∀ n, BT (kA n) = n
 | 0 => rfl
 | n + 1 => by show BT (kA n) + 1 = _; rw [GD n]
theorem GA : ∀ n, BV (kA n) = n
 | 0 => rfl
 | n + 1 => by show BV (kA n) + 1 = _; rw [GA n]
theorem F9 : ∀ l : List UInt8, BT (l.map At.p) = l.length
 | [] => rfl
 | c :: l => by show BT (l.map At.p) + 1 = _; rw [F9 l]; rfl
theorem F3 : ∀ l : List UInt8, BT (l.map At.d) = 0
 | [] => rfl
 | c :: l => F3 l
theorem FP : ∀ l : List UInt8, BV (l.map At.p) = 0
 | [] => rfl
 | c :: l => FP l
theorem FK : ∀ l : List UInt8, BV (l.map At.d) = l.length
 | [] => rfl
 | c :: l => by show BV (l.map At.d) + 1 = _; rw [FK l]; rfl
theorem Ca (p : IP) : BT (AX p) = p.f0.toNat + p.f1.size := by
 unfold AX pA dA
 rw [A6, A6, GD, F9, F3, Array.length_toList]; rfl
theorem Ci (p : IP) : BV (AX p) = p.f0.toNat + p.f2.size := by
 unfold AX pA dA
 rw [A5, A5, GA, FP, FK, Array.length_toList]; show _ + (0 + p.f2.size) = _; omega
theorem B3 : ∀ l : List IP, BT (Ax l) = Ao (l.map Dn)
 | [] => rfl
 | p :: l => by rw [Ad, A6, Ca, List.map_cons, AU, B3 l]; rfl
theorem B6 : ∀ l : List IP, BV (Ax l) = Ao l
 | [] => rfl
 | p :: l => by rw [Ad, A5, Ci, AU, B6 l]; rfl
theorem Du : ∀ x : List At, x.length ≤ BT x + BV x
 | [] => Nat.zero_le _
 | .k :: x => by have := Du x; show x.length + 1 ≤ (BT x + 1) + (BV x + 1); omega
 | .p c :: x => by have := Du x; show x.length + 1 ≤ (BT x + 1) + BV x; omega
 | .d c :: x => by have := Du x; show x.length + 1 ≤ BT x + (BV x + 1); omega
def FZ : At → IP
 | .k => ⟨1, ⟨#[]⟩, ⟨#[]⟩⟩
 | .p c => ⟨0, E1 c, ⟨#[]⟩⟩
 | .d c => ⟨0, ⟨#[]⟩, E1 c⟩
theorem FO (a : At) : A4 (FZ a) := by
 cases a with
 | k => exact ⟨by show (0 : Int) ≤ 1; omega, by show (1 : Int) ≤ 300; omega, Nat.zero_le _, Nat.zero_le _, .inr ⟨rfl, rfl⟩, .inl rfl⟩
 | p c => exact ⟨Int.le_refl _, by show (0 : Int) ≤ 300; omega, by show (1 : Nat) ≤ 300; omega, Nat.zero_le _, .inl rfl, .inr rfl⟩
 | d c => exact ⟨Int.le_refl _, by show (0 : Int) ≤ 300; omega, Nat.zero_le _, by show (1 : Nat) ≤ 300; omega, .inl rfl, .inl rfl⟩
theorem Dw : ∀ z : List At, Ax (z.map FZ) = z
 | [] => rfl
 | a :: z => by
  rw [List.map_cons, Ad, Dw z]
  cases a <;> rfl
theorem Em {z : List At} (hz : z.length ≤ 1000) (g : Ac (DH z) = true) : Sim z (Ax (DH z)) := by
 have h1 : ∀ p ∈ z.map FZ, A4 p := fun p hp => by obtain ⟨a, _, rfl⟩ := List.mem_map.1 hp; exact FO a
 have hl : (z.map FZ).length ≤ 1000 := by rw [List.length_map]; exact hz
 have e : AA (z.map FZ) = DH z := by rw [Ds _ hl h1, Dw]
 obtain ⟨_, hp2, _, _⟩ := Ab g
 rw [Dy, Bc _ (fun p q => AF (hp2 p q)), ← e, CX _ hl h1, ← Bc _ h1, Dw]
theorem CR {a b : List IP} (ga : Ac a = true) (gb : Ac b = true) {z : List At} (h : Ai (Ax a) (Ax b) = some z) : z.length ≤ 600 := by
 obtain ⟨la, pa, ka, _⟩ := Ab ga
 obtain ⟨lb, pb, _, mb⟩ := Ab gb
 rw [Ck a pa (by omega)] at ka
 rw [B1 b pb (by omega)] at mb
 obtain ⟨_, e2, e3⟩ := Bo _ _ _ z (Nat.le_refl _) h
 rw [B6] at e2
 rw [B3] at e3
 have := Du z
 omega
theorem EI {a b c : List IP} (h1 : (Ap a b).2 = true) (h2 : (Ap b c).2 = true) (h3 : (Ap (Ap a b).1 c).2 = true) (h4 : (Ap a (Ap b c).1).2 = true) : (Ap (Ap a b).1 c).1 = (Ap a (Ap b c).1).1 := by
 obtain ⟨ga, gb, z, ez, gz, e1⟩ := AI h1
 obtain ⟨_, gc, y, ey, gy, e2⟩ := AI h2
 rw [e1] at h3 ⊢
 rw [e2] at h4 ⊢
 dsimp only at h3 h4 ⊢
 obtain ⟨_, _, x, ex, gx, e3⟩ := AI h3
 obtain ⟨_, _, q, eq, gq, e4⟩ := AI h4
 rw [e3, e4]
 have s1 := Em (z := z) (by have := CR ga gb ez; omega) gz
 have s2 := Em (z := y) (by have := CR gb gc ey; omega) gy
 have o1 := EN s1 (Ax c)
 have o2 := Ag _ (Ax a) (Ax b) (Ax c) z y (Nat.le_refl _) ez ey
 have o3 := Dr s2 (Ax a)
 have o := (o1.symm.trans o2).trans o3
 rw [ex, eq] at o
 exact FJ o
theorem GO {l m : List IP} (gl : Ac l = true) (gm : Ac m = true) {s t : ByteArray} (hs : goodB (bytesOf s) = true) (ht : goodB (bytesOf t) = true) (h : Aj (Ax l) (Bt s) = Aj (Ax m) (Bt t)) : Do l s = Do m t := by
 have key : ∀ (l m : List IP) (s t : ByteArray), Ac m = true → goodB (bytesOf t) = true → Aj (Ax l) (Bt s) = Aj (Ax m) (Bt t) → (Do l s).2 = true → Do m t = Do l s := by
  intro l m s t gm ht h g
  obtain ⟨_, _, u, e, hr⟩ := Gh g
  have h1 := DA l s u hr
  rw [h] at h1
  have h2 := EW m _ _ h1
  rw [Gx, Gx] at h2
  rw [e, (Gq gm h2 ht).1]
 by_cases g : (Do l s).2 = true
 ·exact (key l m s t gm ht h g).symm
 by_cases g' : (Do m t).2 = true
 rotate_left
 ·rw [F7 g, F7 g']
 exact key m l t s gl hs h.symm g'
theorem Gf {a b : List IP} (h : (Ap a b).2 = true) {s t : ByteArray} (hr : Ea a s t) (hs : goodB (bytesOf s) = true) (ht : goodB (bytesOf t) = true) : Do b t = Do (Ap a b).1 s := by
 obtain ⟨ga, gb, z, ez, gz, e1⟩ := AI h
 rw [e1]
 refine GO gb gz ht hs ?_
 rw [← Gj (Em (z := z) (by have := CR ga gb ez; omega) gz) (Bt s)]
 exact (BD _ _ _ z _ _ (Nat.le_refl _) ez (DA a s t hr)).symm
theorem EO {p : IP} (h : A4 p) : szI p = (Aq p : Int) := by
 obtain ⟨q1, q2, q3, q4, _, _⟩ := h
 unfold szI Aq
 rw [wrap_id (x := p.f0 + (p.f1.size : Int)) (by omega) (by omega), wrap_id (by omega) (by omega)]; omega
theorem Dj (p : IP) (h : A4 p) : zeroP p = true ↔ Aq p = 0 := by
 obtain ⟨q1, _, _, _, _, _⟩ := h
 unfold zeroP Aq
 rw [Bool.and_eq_true, Bool.and_eq_true, beq_iff_eq, beq_iff_eq, beq_iff_eq, Aa, Aa]
 omega
theorem De (p : IP) (r : List IP) (n : Nat) (h : A4 p) (hr : Bk r) (h0 : 0 < n) (h1 : n ≤ Aq p) :
  ∃ a y, cutP p (n : Int) = some (a, y) ∧ CutIs p n a ∧ Bk (restP y r) ∧ Ax (p :: r) = AX a ++ Ax (restP y r) ∧ (n = Aq p → restP y r = r) ∧ (restP y r).length ≤ r.length + 1 ∧ (n = Aq p → a = p) := by
 have key : ∀ (a y : IP), cutP p (n : Int) = some (a, y) → CutIs p n a → A4 y → Aq y = Aq p - n → AX p = AX a ++ AX y → (n = Aq p → a = p) → ∃ a y, cutP p (n : Int) = some (a, y) ∧ CutIs p n a ∧ Bk (restP y r) ∧ Ax (p :: r) = AX a ++ Ax (restP y r) ∧ (n = Aq p → restP y r = r) ∧ (restP y r).length ≤ r.length + 1 ∧ (n = Aq p → a = p) := by
  intro a y e1 e2 e3 e4 e5 e6
  refine ⟨a, y, e1, e2, ?_⟩
  unfold restP
  by_cases z : zeroP y = true
  ·rw [if_pos z]
   have hz := (Dj y e3).1 z
   have hy : AX y = [] := by
    unfold AX; unfold Aq at hz
    rw [show y.f0.toNat = 0 by omega, Bm (by omega), Bp (by omega)]; rfl
   exact ⟨hr, by rw [Ad, e5, hy, List.append_nil], fun _ => rfl, by omega, e6⟩
  ·rw [if_neg z]
   have hz : Aq y ≠ 0 := fun q => z ((Dj y e3).2 q)
   exact ⟨Cb e3 (by omega) hr, by rw [Ad, Ad, e5, List.append_assoc], fun q => by omega, by rw [List.length_cons]; omega, e6⟩
 have hb : Aq p ≤ 1000 := by obtain ⟨_, _, q3, q4, _, _⟩ := h; unfold Aq; omega
 have hb0 := h.1
 have hb1 := h.2.1
 by_cases hn : n = Aq p
 rotate_left
 ·have hlt : n < Aq p := by omega
  by_cases hk : 0 < p.f0
  ·obtain ⟨c1, ⟨c2, c3⟩, c4⟩ := DV h h0 hlt hk
   refine key _ _ ?_ c1 c2 c3 c4 (fun q => absurd q hn)
   unfold cutP
   rw [if_pos hk, wrap_id (by omega) (by omega)]
  by_cases hp : p.f1.size = 0
  ·obtain ⟨hn2, c1, ⟨c2, c3⟩, c4⟩ := Ed h h0 hlt hk hp
   refine key _ _ ?_ c1 c2 c3 c4 (fun q => absurd q hn)
   unfold cutP
   rw [if_neg hk, if_pos ((Aa _).2 hp), if_pos (by omega), Int.toNat_natCast]
  obtain ⟨hn2, c1, ⟨c2, c3⟩, c4⟩ := E2 h h0 hlt hk hp
  refine key _ _ ?_ c1 c2 c3 c4 (fun q => absurd q hn)
  unfold cutP
  rw [if_neg hk, if_neg (fun e => hp ((Aa _).1 e)), if_pos (by omega), Int.toNat_natCast]
 by_cases hk : 0 < p.f0
 ·obtain ⟨k1, k2⟩ := AM h hk
  have hf : p.f0 = (n : Int) := by rw [hn]; exact congrArg S53.f0 k1
  have hf1 : p.f1 = (⟨#[]⟩ : ByteArray) := congrArg S53.f1 k1
  have hf2 : p.f2 = (⟨#[]⟩ : ByteArray) := congrArg S53.f2 k1
  refine key p ⟨0, p.f1, p.f2⟩ ?_ (hn ▸ CB h) ⟨Int.le_refl 0, by show (0 : Int) ≤ 300; omega, h.2.2.1, h.2.2.2.1, .inl rfl, h.2.2.2.2.2⟩ ?_ ?_ (fun _ => rfl)
  ·unfold cutP
   rw [if_pos hk, show p.f0 - (n : Int) = 0 by omega, wrap_id (by decide) (by decide)]
   congr 2
   rw [← hf]
  ·have e1 : p.f1.size = 0 := by rw [hf1]; rfl
   have e2 : p.f2.size = 0 := by rw [hf2]; rfl
   unfold Aq at hn ⊢; dsimp only; omega
  have : AX ⟨0, p.f1, p.f2⟩ = [] := by unfold AX; rw [hf1, hf2]; rfl
  rw [this, List.append_nil]
 by_cases hp : p.f1.size = 0
 ·have hz2 : p.f2.size = n := by unfold Aq at hn; omega
  have ex : p.f2.extract 0 n = p.f2 := by rw [← hz2]; exact ByteArray.extract_zero_size
  have ey : (p.f2.extract n p.f2.size).size = 0 := by rw [ByteArray.size_extract]; omega
  refine key p ⟨p.f0, p.f1, p.f2.extract n p.f2.size⟩ ?_ (hn ▸ CB h) ⟨h.1, h.2.1, h.2.2.1, by dsimp only; omega, .inl (by dsimp only; omega), .inl hp⟩ ?_ ?_ (fun _ => rfl)
  ·unfold cutP
   rw [if_neg hk, if_pos ((Aa _).2 hp), if_pos (by omega), Int.toNat_natCast, ex]
  ·unfold Aq at hn ⊢; dsimp only; omega
  have : AX ⟨p.f0, p.f1, p.f2.extract n p.f2.size⟩ = [] := by
   unfold AX; dsimp only
   rw [show p.f0.toNat = 0 by omega, Bm hp, Bp ey]; rfl
  rw [this, List.append_nil]
 have hz0 : p.f2.size = 0 := h.2.2.2.2.2.resolve_left hp
 have hz2 : p.f1.size = n := by unfold Aq at hn; omega
 have ex : p.f1.extract 0 n = p.f1 := by rw [← hz2]; exact ByteArray.extract_zero_size
 have ey : (p.f1.extract n p.f1.size).size = 0 := by rw [ByteArray.size_extract]; omega
 refine key p ⟨p.f0, p.f1.extract n p.f1.size, p.f2⟩ ?_ (hn ▸ CB h) ⟨h.1, h.2.1, by dsimp only; omega, h.2.2.2.1, .inl (by dsimp only; omega), .inr hz0⟩ ?_ ?_ (fun _ => rfl)
 ·unfold cutP
  rw [if_neg hk, if_neg (fun e => hp ((Aa _).1 e)), if_pos (by omega), Int.toNat_natCast, ex]
 ·unfold Aq at hn ⊢; dsimp only; omega
 have : AX ⟨p.f0, p.f1.extract n p.f1.size, p.f2⟩ = [] := by
  unfold AX; dsimp only
  rw [show p.f0.toNat = 0 by omega, Bm ey, Bp hz0]; rfl
 rw [this, List.append_nil]
theorem Bs {n : Nat} {s : Fl} {p : IP} (hf : Fit n s) (hn : n ≤ 250) (hp : A4 p) : tkG s p = some (takeP s (toP p)) := by
 unfold tkG
 obtain ⟨_, _, q3, q4, _, _⟩ := hp
 have := hf.len
 have := hf.put
 have := hf.drop
 rw [if_pos (by omega)]
def Dc (o : Option (List At)) (m : Nat) (s : Fl) (g : Option (Option Fl)) : Prop :=
 (o = none ∧ g = some none) ∨ ∃ E : List IP, o = some (Ax E) ∧ (∀ p ∈ E, A4 p) ∧ E.length < m ∧ g = some (some ((E.map toP).foldl takeP s))
theorem Br {o o' : Option (List At)} {m : Nat} {s : Fl} {e : IP} {g g' : Option (Option Fl)} (h : Dc o m (takeP s (toP e)) g) (he : A4 e) (ho : o' = o.map (AX e ++ ·)) (hg : g' = g) : Dc o' (m + 1) s g' := by
 subst ho hg
 rcases h with ⟨h1, h2⟩ | ⟨E, h1, h2, h3, h4⟩
 ·exact .inl ⟨by rw [h1]; rfl, h2⟩
 refine .inr ⟨e :: E, by rw [h1]; rfl, fun p hp => (List.mem_cons.1 hp).elim (fun q => by rw [q]; exact he) (h2 p), by rw [List.length_cons]; omega, ?_⟩
 rw [List.map_cons, List.foldl_cons]; exact h4
theorem FE {o o' : Option (List At)} {m : Nat} {s : Fl} {g g' : Option (Option Fl)} (h : Dc o m s g) (ho : o' = o) (hg : g' = g) : Dc o' (m + 1) s g' := by
 subst ho hg
 rcases h with ⟨h1, h2⟩ | ⟨E, h1, h2, h3, h4⟩
 ·exact .inl ⟨h1, h2⟩
 exact .inr ⟨E, h1, h2, by omega, h4⟩
theorem Bi : ∀ (m : Nat) (x y : List IP) (s : Fl) (n : Nat), Bk x → Bk y → x.length + y.length < m → n + m ≤ 250 → Fit n s → BT (Ax x) = BV (Ax y) → Dc (Ai (Ax x) (Ax y)) m s (cmpI m s x y)
 | 0, x, y, s, n, _, _, h, _, _, _ => absurd h (by omega)
 | m + 1, [], [], s, n, hx, hy, h, hn, hf, hb => .inr ⟨[], Cu, (fun p hp => by cases hp), Nat.succ_pos m, by rw [cmpI]; rfl⟩
 | m + 1, p :: x, [], s, n, hx, hy, h, hn, hf, hb => by
  obtain ⟨⟨hp, hz⟩, hx'⟩ := AE hx
  rw [List.length_cons, List.length_nil] at h
  rw [Ad, A6, Ca, A8] at hb
  have hb0 : BV [] = 0 := rfl
  by_cases hd : p.f2.size = 0
  ·unfold Aq at hz; omega
  ·refine Br (Bi m x [] (takeP s (toP p)) (n + 1) hx' hy (by simp only [List.length_nil]; omega) (by omega) (Ar n s p (by omega) hf hp).2 (by rw [A8]; omega)) hp ?_ ?_
   ·rw [Ad]; exact B4 p _ _ hp hd
   ·rw [cmpI, if_neg (fun e => hd ((Aa _).1 e)), Bs hf (by omega) hp]; rfl
 | m + 1, [], q :: y, s, n, hx, hy, h, hn, hf, hb => by
  obtain ⟨⟨hq, hz⟩, hy'⟩ := AE hy
  rw [List.length_cons, List.length_nil] at h
  rw [Ad, A5, Ci, A8] at hb
  have hb0 : BT [] = 0 := rfl
  by_cases hd : q.f1.size = 0
  ·unfold Aq at hz; omega
  ·refine Br (Bi m [] y (takeP s (toP q)) (n + 1) hx hy' (by simp only [List.length_nil]; omega) (by omega) (Ar n s q (by omega) hf hq).2 (by rw [A8]; omega)) hq ?_ ?_
   ·rw [Ad, A8]; exact Cz q [] _ hq hd True.intro
   ·rw [cmpI, if_neg (fun e => hd ((Aa _).1 e)), Bs hf (by omega) hq]; rfl
 | m + 1, p :: x, q :: y, s, n, hx, hy, h, hn, hf, hb => by
  obtain ⟨⟨hp, hzp⟩, hx'⟩ := AE hx
  obtain ⟨⟨hq, hzq⟩, hy'⟩ := AE hy
  rw [List.length_cons, List.length_cons] at h
  by_cases hd : p.f2.size = 0
  ·by_cases hu : q.f1.size = 0
   ·obtain ⟨t, ht, e0, e1, e2, e3⟩ : ∃ t : Nat, (if szI q < szI p then szI q else szI p) = (t : Int) ∧ 0 < t ∧ t ≤ Aq p ∧ t ≤ Aq q ∧ (t = Aq p ∨ t = Aq q) := by
     rw [EO hp, EO hq]
     by_cases c : (Aq q : Int) < Aq p
     ·exact ⟨Aq q, by rw [if_pos c], hzq, by omega, by omega, .inr rfl⟩
     ·exact ⟨Aq p, by rw [if_neg c], hzp, by omega, by omega, .inl rfl⟩
    obtain ⟨a, ra, b1, b2, b3, b4, b5, b6⟩ := De p x t hp hx' e0 e1
    obtain ⟨b, rb, c1, c2, c3, c4, c5, c6⟩ := De q y t hq hy' e0 e2
    have hlen : (restP ra x).length + (restP rb y).length < m := by
     rcases e3 with e | e
     ·rw [b5 e]; omega
     ·rw [c5 e]; omega
    have hem := EK a b (Ax (restP ra x)) (Ax (restP rb y)) b2.one c2.one (b2.sz.trans c2.sz.symm) (b2.drop.2 hd) (c2.put.2 hu)
    rw [b4, c4, A6, A5, Ca, Ci] at hb
    have hb' : BT (Ax (restP ra x)) = BV (Ax (restP rb y)) := by
     have z1 := b2.sz; have z2 := c2.sz; have z3 := b2.drop.2 hd; have z4 := c2.put.2 hu
     unfold Aq at z1 z2; omega
    rw [← b4, ← c4] at hem
    rw [hem]
    have hgo : cmpI (m + 1) s (p :: x) (q :: y) = if 0 < b.f0 then (tkG s a).bind fun z => cmpI m z (restP ra x) (restP rb y) else if 0 < a.f0 then (tkG s b).bind fun z => cmpI m z (restP ra x) (restP rb y) else if a.f1 = b.f2 then cmpI m s (restP ra x) (restP rb y) else some none := by
     rw [cmpI, if_pos ((Aa _).2 hd), if_pos ((Aa _).2 hu), ht, b1, c1]; rfl
    by_cases kb : 0 < b.f0
    ·rw [hgo.trans (if_pos kb)]
     have fin : Dc ((Ai (Ax (restP ra x)) (Ax (restP rb y))).map (AX a ++ ·)) (m + 1) s ((tkG s a).bind fun z => cmpI m z (restP ra x) (restP rb y)) :=
      Br (Bi m _ _ (takeP s (toP a)) (n + 1) b3 c3 hlen (by omega) (Ar n s a (by omega) hf b2.one).2 hb') b2.one rfl (by rw [Bs hf (by omega) b2.one]; rfl)
     by_cases ka : 0 < a.f0
     ·have : a = b := by rw [(AM b2.one ka).1, (AM c2.one kb).1, b2.sz, c2.sz]
      rw [if_pos ka, ← this]; exact fin
     ·rw [if_neg ka, if_pos kb]; exact fin
    ·by_cases ka : 0 < a.f0
     ·rw [hgo.trans ((if_neg kb).trans (if_pos ka)), if_pos ka]
      exact Br (Bi m _ _ (takeP s (toP b)) (n + 1) b3 c3 hlen (by omega) (Ar n s b (by omega) hf c2.one).2 hb') c2.one rfl (by rw [Bs hf (by omega) c2.one]; rfl)
     ·by_cases e : a.f1 = b.f2
      ·rw [hgo.trans ((if_neg kb).trans ((if_neg ka).trans (if_pos e))), if_neg ka, if_neg kb, if_pos e]
       have hf' : Fit (n + 1) s := ⟨hf.last.imp id (fun ⟨u, v, w, z⟩ => ⟨u, v, w, z.1, by omega⟩), by have := hf.len; omega, by have := hf.put; omega, by have := hf.drop; omega⟩
       exact FE (Bi m _ _ s (n + 1) b3 c3 hlen (by omega) hf' hb') rfl rfl
      ·rw [hgo.trans ((if_neg kb).trans ((if_neg ka).trans (if_neg e))), if_neg ka, if_neg kb, if_neg e]
       exact .inl ⟨rfl, rfl⟩
   ·refine Br (Bi m (p :: x) y (takeP s (toP q)) (n + 1) hx hy' (by simp only [List.length_cons]; omega) (by omega) (Ar n s q (by omega) hf hq).2 ?_) hq ?_ ?_
    ·rw [Ad q y, A5, Ci] at hb
     have hk := hq.2.2.2.2.1; have h2 := hq.2.2.2.2.2; omega
    ·rw [Ad q y]; exact Cz q _ _ hq hu (DS p x hp hzp hd)
    ·rw [cmpI, if_pos ((Aa _).2 hd), if_neg (fun e => hu ((Aa _).1 e)), Bs hf (by omega) hq]; rfl
  refine Br (Bi m x (q :: y) (takeP s (toP p)) (n + 1) hx' hy (by simp only [List.length_cons]; omega) (by omega) (Ar n s p (by omega) hf hp).2 ?_) hp ?_ ?_
  ·rw [Ad p x, A6, Ca] at hb
   have hk := hp.2.2.2.2.1; have h2 := hp.2.2.2.2.2; omega
  ·rw [Ad p x]; exact B4 p _ _ hp hd
  rw [cmpI, if_neg (fun e => hd ((Aa _).1 e)), Bs hf (by omega) hp]; rfl
theorem C6 (l : List IP) (hw : ∀ x ∈ l, x.f1.size ≤ 1048576 ∧ x.f2.size ≤ 1048576) : Ev (fun k => yE.f k l) (if Ac l = true then (l, true) else ([], false)) := by
 unfold yE.f
 refine Ev.bind (AW l hw) ?_
 by_cases g : Ac l = true
 ·exact ev_val (ev_pos g (ev_ret rfl)) (by rw [if_pos g])
 exact ev_val (ev_neg g (ev_ret rfl)) (by rw [if_neg g])
theorem AB (a b : List IP) (ha : ∀ x ∈ a, x.f1.size ≤ 1048576 ∧ x.f2.size ≤ 1048576) (hb : ∀ x ∈ b, x.f1.size ≤ 1048576 ∧ x.f2.size ≤ 1048576) : Ev (fun k => jN.f k a b) (Ap a b) := by
 unfold jN.f
 refine Ev.bind (AW a ha) ?_
 by_cases ga : Ac a = true
 rotate_left
 ·refine ev_neg ga (ev_ret ?_)
  rw [Bl (fun h => ga h.1)]
 refine ev_pos ga (Ev.bind (AW b hb) ?_)
 by_cases gb : Ac b = true
 rotate_left
 ·refine ev_neg gb (ev_ret ?_)
  rw [Bl (fun h => gb h.2)]
 obtain ⟨la, pa, _, _⟩ := Ab ga
 obtain ⟨lb, pb, _, _⟩ := Ab gb
 refine ev_pos gb (Ev.bind (A9 a (by omega)) (Ev.bind (A9 b (by omega)) ?_))
 have e1 := B1 a pa (by omega)
 have e2 := Ck b pb (by omega)
 dsimp only
 by_cases he : Dm b 0 = DT a 0
 rotate_left
 ·refine ev_neg he (ev_ret ?_)
  cases hz : Ai (Ax a) (Ax b) with
  | none => rw [AT hz]
  | some z =>
   have := (Bo _ _ _ z (Nat.le_refl _) hz).1
   rw [B3, B6] at this; omega
 refine ev_pos he (ev_pos (by omega) ?_)
 have hz : ([], (⟨#[]⟩ : ByteArray), (⟨#[]⟩ : ByteArray)) = (([], ⟨#[]⟩, ⟨#[]⟩) : Fl) := rfl
 rcases Bi 121 a b ([], ⟨#[]⟩, ⟨#[]⟩) 0 (Ch ga) (Ch gb) (by omega) (by omega) CV (by rw [B3, B6]; omega) with ⟨h1, h2⟩ | ⟨E, h1, h2, h3, h4⟩
 ·rw [AT h1]
  exact Ev.bind (Ev.of (fun k => cmpI_mono k _ _ _) h2) (ev_ret rfl)
 have hn := Ds E (by omega) h2
 rw [Ba ⟨ga, gb⟩ h1, ← hn]
 refine Ev.bind (Ev.of (fun k => cmpI_mono k _ _ _) h4) ?_
 have hl := FN E h2
 refine ev_val' (fun k => by rw [icEnd]) (ev_pos (by omega) ?_)
 exact C6 (AA E) (B8 E (by omega) h2).1
theorem CF {p : IP} (h : A4 p) : szQ p = (Aq p : Int) := by
 obtain ⟨q1, q2, q3, q4, _, _⟩ := h
 unfold szQ Aq
 rw [wrap_id (x := p.f0 + (p.f1.size : Int)) (by omega) (by omega), wrap_id (by omega) (by omega)]; omega
theorem Di (p : IP) (r : List IP) (n : Nat) (h : A4 p) (hr : Bk r) (h0 : 0 < n) (h1 : n ≤ Aq p) :
  ∃ a l', takQ (p :: r) (n : Int) = some (a, l') ∧ CutIs p n a ∧ Bk l' ∧ Ax (p :: r) = AX a ++ Ax l' ∧ (n = Aq p → l' = r) ∧ l'.length ≤ r.length + 1 := by
 by_cases hn : n = Aq p
 ·subst hn
  refine ⟨p, r, ?_, CB h, hr, Ad p r, fun _ => rfl, by omega⟩
  unfold takQ
  dsimp only
  rw [if_pos (CF h).symm]
 have hlt : n < Aq p := by omega
 have hne : ¬ (n : Int) = szQ p := by rw [CF h]; omega
 have hp2 := Aq
 by_cases hk : 0 < p.f0
 ·obtain ⟨c1, ⟨c2, c3⟩, c4⟩ := DV h h0 hlt hk
  refine ⟨⟨n, p.f1, p.f2⟩, ⟨p.f0 - n, p.f1, p.f2⟩ :: r, ?_, c1, Cb c2 (by omega) hr, by rw [Ad, Ad, c4, List.append_assoc], fun q => absurd q hn, by rw [List.length_cons]; omega⟩
  unfold takQ
  dsimp only
  have w : wrap64 (p.f0 - n) = p.f0 - n := by
   have := h.1; have := h.2.1
   have hb : Aq p ≤ 1000 := by obtain ⟨_, _, q3, q4, _, _⟩ := h; unfold Aq; omega
   exact wrap_id (by omega) (by omega)
  rw [if_neg hne, if_pos hk, w]
 by_cases hp : p.f1.size = 0
 ·obtain ⟨hn2, c1, ⟨c2, c3⟩, c4⟩ := Ed h h0 hlt hk hp
  refine ⟨⟨p.f0, p.f1, p.f2.extract 0 n⟩, ⟨p.f0, p.f1, p.f2.extract n p.f2.size⟩ :: r, ?_, c1, Cb c2 (by omega) hr, by rw [Ad, Ad, c4, List.append_assoc], fun q => absurd q hn, by rw [List.length_cons]; omega⟩
  unfold takQ
  dsimp only
  rw [if_neg hne, if_neg hk, if_pos ((Aa _).2 hp), if_pos (by omega), Int.toNat_natCast]
 obtain ⟨hn2, c1, ⟨c2, c3⟩, c4⟩ := E2 h h0 hlt hk hp
 refine ⟨⟨p.f0, p.f1.extract 0 n, p.f2⟩, ⟨p.f0, p.f1.extract n p.f1.size, p.f2⟩ :: r, ?_, c1, Cb c2 (by omega) hr, by rw [Ad, Ad, c4, List.append_assoc], fun q => absurd q hn, by rw [List.length_cons]; omega⟩
 unfold takQ
 dsimp only
 rw [if_neg hne, if_neg hk, if_neg (fun e => hp ((Aa _).1 e)), if_pos (by omega), Int.toNat_natCast]
def Ee (o : Option (List At)) (m : Nat) (s : Fl) (g : Nat → Option (List IP × Bool)) : Prop :=
 (o = none ∧ Ev g ([], false)) ∨ ∃ E : List IP, o = some (Ax E) ∧ (∀ p ∈ E, A4 p) ∧ E.length < m ∧ Ev g (Bw ((E.map toP).foldl takeP s), true)
theorem Bv {o o' : Option (List At)} {m : Nat} {s : Fl} {e : IP} {g g' : Nat → Option (List IP × Bool)} (h : Ee o m (takeP s (toP e)) g) (he : A4 e) (ho : o' = o.map (AX e ++ ·)) (hg : ∀ r, Ev g r → Ev g' r) : Ee o' (m + 1) s g' := by
 subst ho
 rcases h with ⟨h1, h2⟩ | ⟨E, h1, h2, h3, h4⟩
 ·exact .inl ⟨by rw [h1]; rfl, hg _ h2⟩
 refine .inr ⟨e :: E, by rw [h1]; rfl, fun p hp => (List.mem_cons.1 hp).elim (fun q => by rw [q]; exact he) (h2 p), by rw [List.length_cons]; omega, ?_⟩
 rw [List.map_cons, List.foldl_cons]; exact hg _ h4
theorem Ft {o o' : Option (List At)} {m : Nat} {s : Fl} {g g' : Nat → Option (List IP × Bool)} (h : Ee o m s g) (ho : o' = o) (hg : ∀ r, Ev g r → Ev g' r) : Ee o' (m + 1) s g' := by
 subst ho
 rcases h with ⟨h1, h2⟩ | ⟨E, h1, h2, h3, h4⟩
 ·exact .inl ⟨h1, hg _ h2⟩
 exact .inr ⟨E, h1, h2, by omega, hg _ h4⟩
theorem Bg : ∀ (m : Nat) (x y : List IP) (s : Fl) (n : Nat), Bk x → Bk y → x.length + y.length < m → n + m ≤ 1000 → Fit n s → Ee (Ai (Ax x) (Ax y)) m s (fun k => cmpS k m (Bw s) x y)
 | 0, x, y, s, n, _, _, h, _, _ => absurd h (by omega)
 | m + 1, [], [], s, n, hx, hy, h, hn, hf => by
  refine .inr ⟨[], Cu, (fun p hp => by cases hp), Nat.succ_pos m, ?_⟩
  exact ev_val' (f := fun _ => some (Bw s, true)) (fun k => by rw [cmpS]) (ev_ret rfl)
 | m + 1, p :: x, [], s, n, hx, hy, h, hn, hf => by
  obtain ⟨⟨hp, hz⟩, hx'⟩ := AE hx
  rw [List.length_cons, List.length_nil] at h
  by_cases hd : p.f2.size = 0
  ·refine .inl ⟨?_, ?_⟩
   ·rw [Ad, A8]; exact GY p _ hp hz hd
   ·exact ev_val' (fun k => by rw [cmpS, if_pos ((Aa _).2 hd)]) (ev_ret rfl)
  ·obtain ⟨a1, a2⟩ := Ar n s p (by omega) hf hp
   have ih := Bg m x [] (takeP s (toP p)) (n + 1) hx' hy (by simp only [List.length_nil]; omega) (by omega) a2
   refine Bv ih hp ?_ (fun r hr => ?_)
   ·rw [Ad]; exact B4 p _ _ hp hd
   ·exact ev_val' (fun k => by rw [cmpS, if_neg (fun e => hd ((Aa _).1 e))]) (Ev.bind a1 hr)
 | m + 1, [], q :: y, s, n, hx, hy, h, hn, hf => by
  obtain ⟨⟨hq, hz⟩, hy'⟩ := AE hy
  rw [List.length_cons, List.length_nil] at h
  by_cases hd : q.f1.size = 0
  ·refine .inl ⟨?_, ?_⟩
   ·rw [Ad, A8]; exact GW q _ hq hz hd
   ·exact ev_val' (fun k => by rw [cmpS, if_pos ((Aa _).2 hd)]) (ev_ret rfl)
  ·obtain ⟨a1, a2⟩ := Ar n s q (by omega) hf hq
   have ih := Bg m [] y (takeP s (toP q)) (n + 1) hx hy' (by simp only [List.length_nil]; omega) (by omega) a2
   refine Bv ih hq ?_ (fun r hr => ?_)
   ·rw [Ad, A8]; exact Cz q [] _ hq hd True.intro
   ·exact ev_val' (fun k => by rw [cmpS, if_neg (fun e => hd ((Aa _).1 e))]) (Ev.bind a1 hr)
 | m + 1, p :: x, q :: y, s, n, hx, hy, h, hn, hf => by
  obtain ⟨⟨hp, hzp⟩, hx'⟩ := AE hx
  obtain ⟨⟨hq, hzq⟩, hy'⟩ := AE hy
  rw [List.length_cons, List.length_cons] at h
  by_cases hd : p.f2.size = 0
  ·by_cases hu : q.f1.size = 0
   ·obtain ⟨t, ht, e0, e1, e2, e3⟩ : ∃ t : Nat, (if szQ q < szQ p then szQ q else szQ p) = (t : Int) ∧ 0 < t ∧ t ≤ Aq p ∧ t ≤ Aq q ∧ (t = Aq p ∨ t = Aq q) := by
     rw [CF hp, CF hq]
     by_cases c : (Aq q : Int) < Aq p
     ·exact ⟨Aq q, by rw [if_pos c], hzq, by omega, by omega, .inr rfl⟩
     ·exact ⟨Aq p, by rw [if_neg c], hzp, by omega, by omega, .inl rfl⟩
    obtain ⟨a, x2, b1, b2, b3, b4, b5, b6⟩ := Di p x t hp hx' e0 e1
    obtain ⟨b, y2, c1, c2, c3, c4, c5, c6⟩ := Di q y t hq hy' e0 e2
    have hlen : x2.length + y2.length < m := by
     rcases e3 with e | e
     ·rw [b5 e]; omega
     ·rw [c5 e]; omega
    have hem := EK a b (Ax x2) (Ax y2) b2.one c2.one (b2.sz.trans c2.sz.symm) (b2.drop.2 hd) (c2.put.2 hu)
    rw [← b4, ← c4] at hem
    rw [hem]
    have hgo : ∀ {r : List IP × Bool}, Ev (fun k => if 0 < a.f0 then (jA.f k (Bw s) b.f0 b.f1 b.f2).bind fun o => cmpS k m o x2 y2 else if 0 < b.f0 then (jA.f k (Bw s) a.f0 a.f1 a.f2).bind fun o => cmpS k m o x2 y2 else if a.f1 = b.f2 then cmpS k m (Bw s) x2 y2 else some ([], false)) r → Ev (fun k => cmpS k (m + 1) (Bw s) (p :: x) (q :: y)) r := by
     intro r hr
     refine ev_val' (fun k => ?_) hr
     rw [cmpS, if_pos ((Aa _).2 hd), if_pos ((Aa _).2 hu), ht, b1, c1]; rfl
    by_cases ka : 0 < a.f0
    ·obtain ⟨a1, a2⟩ := Ar n s b (by omega) hf c2.one
     rw [if_pos ka]
     exact Bv (Bg m x2 y2 (takeP s (toP b)) (n + 1) b3 c3 hlen (by omega) a2) c2.one rfl (fun r hr => hgo (ev_pos ka (Ev.bind a1 hr)))
    ·rw [if_neg ka]
     by_cases kb : 0 < b.f0
     ·obtain ⟨a1, a2⟩ := Ar n s a (by omega) hf b2.one
      rw [if_pos kb]
      exact Bv (Bg m x2 y2 (takeP s (toP a)) (n + 1) b3 c3 hlen (by omega) a2) b2.one rfl (fun r hr => hgo (ev_neg ka (ev_pos kb (Ev.bind a1 hr))))
     ·rw [if_neg kb]
      by_cases e : a.f1 = b.f2
      ·rw [if_pos e]
       have hf' : Fit (n + 1) s := ⟨hf.last.imp id (fun ⟨u, v, w, z⟩ => ⟨u, v, w, z.1, by omega⟩), by have := hf.len; omega, by have := hf.put; omega, by have := hf.drop; omega⟩
       exact Ft (Bg m x2 y2 s (n + 1) b3 c3 hlen (by omega) hf') rfl (fun r hr => hgo (ev_neg ka (ev_neg kb (ev_pos e hr))))
      ·rw [if_neg e]
       exact .inl ⟨rfl, hgo (ev_neg ka (ev_neg kb (ev_neg e (ev_ret rfl))))⟩
   ·obtain ⟨a1, a2⟩ := Ar n s q (by omega) hf hq
    have ih := Bg m (p :: x) y (takeP s (toP q)) (n + 1) hx hy' (by simp only [List.length_cons]; omega) (by omega) a2
    refine Bv ih hq ?_ (fun r hr => ?_)
    ·rw [Ad q y]; exact Cz q _ _ hq hu (DS p x hp hzp hd)
    ·exact ev_val' (fun k => by rw [cmpS, if_pos ((Aa _).2 hd), if_neg (fun e => hu ((Aa _).1 e))]) (Ev.bind a1 hr)
  obtain ⟨a1, a2⟩ := Ar n s p (by omega) hf hp
  have ih := Bg m x (q :: y) (takeP s (toP p)) (n + 1) hx' hy (by simp only [List.length_cons]; omega) (by omega) a2
  refine Bv ih hp ?_ (fun r hr => ?_)
  ·rw [Ad p x]; exact B4 p _ _ hp hd
  exact ev_val' (fun k => by rw [cmpS, if_neg (fun e => hd ((Aa _).1 e))]) (Ev.bind a1 hr)
theorem Fv (l : List IP) (hl : l.length ≤ 60) (hp : ∀ p ∈ l, A4 p) (d : Nat) : ∀ i : Nat, i + d = l.length → Fit i (stN l i) →
  Ev (fun k => jQ.l0 k (Bw (stN l i)) l (l.length : Int) (i : Int)) ((normP (l.map toP)).map ofP) := by
 induction d with
 | zero =>
  intro i hi hf
  refine Ev.step (fun k => by rw [jQ.l0]) ?_
  refine ev_neg (by omega) (ev_ret ?_)
  have e : stN l i = (l.map toP).foldl takeP ([], ⟨#[]⟩, ⟨#[]⟩) := by unfold stN; rw [List.take_of_length_le (by omega)]
  unfold Bw normP; rw [e]
 | succ d ih =>
  intro i hi hf
  have hm := hp _ (gt_mem By l i (by omega))
  have es := stN_succ l i (by omega)
  have eg : l[i]'(by omega) = gt By l i := by unfold gt; rw [List.getD_eq_getElem?_getD, List.getElem?_eq_getElem (by omega)]; rfl
  rw [eg] at es
  obtain ⟨h1, h2⟩ := Ar i (stN l i) (gt By l i) (by omega) hf hm
  rw [← es] at h1 h2
  refine Ev.step (fun k => by rw [jQ.l0]) ?_
  refine ev_pos (by omega) (ev_pos (by omega) (ev_pos (by omega) ?_))
  rw [wrap_succ i (by omega)]
  simp only [BE]
  exact Ev.bind h1 (ih (i + 1) (by omega) h2)
theorem BI (l : List IP) (hl : l.length ≤ 60) (hp : ∀ p ∈ l, A4 p) : Ev (fun k => jQ.f k l) (AA l) := by
 unfold jQ.f
 have e : Bw (stN l 0) = [] := by
  have e0 : stN l 0 = ([], (⟨#[]⟩ : ByteArray), (⟨#[]⟩ : ByteArray)) := rfl
  rw [e0]; unfold Bw; rw [Au BO BO]; rfl
 have := Fv l hl hp l.length 0 (by omega) CV
 rw [e] at this
 exact this
theorem AL (k : Nat) : ∀ (m : Nat) (out x y : List IP), LeO (cmpS k m out x y) (cmpS k (m + 1) out x y)
 | 0, out, x, y => by rw [cmpS]; exact LeO.none _
 | m + 1, out, [], [] => by rw [cmpS, cmpS]; exact LeO.refl _
 | m + 1, out, p :: x, [] => by
  rw [cmpS, cmpS]
  exact LeO.ite (LeO.refl _) (LeO.bind (LeO.refl _) (fun _ => AL k m _ _ _))
 | m + 1, out, [], q :: y => by
  rw [cmpS, cmpS]
  exact LeO.ite (LeO.refl _) (LeO.bind (LeO.refl _) (fun _ => AL k m _ _ _))
 | m + 1, out, p :: x, q :: y => by
  rw [cmpS, cmpS]
  exact LeO.ite (LeO.ite (LeO.bind (LeO.refl _) (fun _ => LeO.bind (LeO.refl _) (fun _ => LeO.ite (LeO.bind (LeO.refl _) (fun _ => AL k m _ _ _)) (LeO.ite (LeO.bind (LeO.refl _) (fun _ => AL k m _ _ _)) (LeO.ite (AL k m _ _ _) (LeO.refl _))))))
   (LeO.bind (LeO.refl _) (fun _ => AL k m _ _ _))) (LeO.bind (LeO.refl _) (fun _ => AL k m _ _ _))
theorem Ge {m : Nat} {out x y : List IP} {r : List IP × Bool} (h : Ev (fun k => cmpS k m out x y) r) : Ev (fun k => cmpS k k out x y) r := by
 obtain ⟨K, hK⟩ := h
 refine ⟨K + m, fun k hk => ?_⟩
 have h1 := hK k (by omega)
 obtain ⟨d, rfl⟩ : ∃ d, k = m + d := ⟨k - m, by omega⟩
 have : ∀ d', cmpS (m + d) (m + d') out x y = some r := fun d' => by
  induction d' with
  | zero => exact h1
  | succ d' ih => exact AL _ _ _ _ _ r ih
 exact this d
theorem Cl (a b : List IP) (ga : Ac a = true) (gb : Ac b = true) : (Ai (Ax a) (Ax b) = none ∧ Ev (fun k => jY.f k a b) ([], false)) ∨ ∃ E : List IP, Ai (Ax a) (Ax b) = some (Ax E) ∧ (∀ p ∈ E, A4 p) ∧ E.length < 121 ∧ Ev (fun k => jY.f k a b) (AA E, true) := by
 obtain ⟨la, _, _, _⟩ := Ab ga
 obtain ⟨lb, _, _, _⟩ := Ab gb
 have e0 : Bw ([], (⟨#[]⟩ : ByteArray), (⟨#[]⟩ : ByteArray)) = [] := by unfold Bw; rw [Au BO BO]; rfl
 have go : ∀ r, Ev (fun k => cmpS k 121 [] a b) r → Ev (fun k => jY.f k a b) r := fun r h => by
  unfold jY.f
  exact ev_pos (by omega) (Ge h)
 rcases Bg 121 a b ([], ⟨#[]⟩, ⟨#[]⟩) 0 (Ch ga) (Ch gb) (by omega) (by omega) CV with ⟨h1, h2⟩ | ⟨E, h1, h2, h3, h4⟩
 ·rw [e0] at h2
  exact .inl ⟨h1, go _ h2⟩
 rw [e0] at h4
 exact .inr ⟨E, h1, h2, h3, go _ h4⟩
theorem B9 (a b : List IP) (ha : ∀ x ∈ a, x.f1.size ≤ 1048576 ∧ x.f2.size ≤ 1048576) (hb : ∀ x ∈ b, x.f1.size ≤ 1048576 ∧ x.f2.size ≤ 1048576) : Ev (fun k => jG.f k a b) (Ap a b) := by
 unfold jG.f
 refine Ev.bind (AV a ha) ?_
 by_cases ga : Ac a = true
 rotate_left
 ·refine ev_neg ga ?_
  refine Ev.step (fun k => by rw [jG.j0]) ?_
  refine ev_pos rfl (ev_ret ?_)
  rw [Bl (fun h => ga h.1)]
 refine ev_pos ga (Ev.bind (AV b hb) ?_)
 refine Ev.step (fun k => by rw [jG.j0]) ?_
 by_cases gb : Ac b = true
 rotate_left
 ·refine ev_pos (by simp [gb]) (ev_ret ?_)
  rw [Bl (fun h => gb h.2)]
 obtain ⟨la, pa, _, _⟩ := Ab ga
 obtain ⟨lb, pb, _, _⟩ := Ab gb
 refine ev_neg (by rw [gb]; simp) (Ev.bind (BI a la (fun p h => AF (pa p h))) (Ev.bind (BI b lb (fun p h => AF (pb p h))) ?_))
 have hs := GE (D5 ga) (D5 gb)
 rcases Cl (AA a) (AA b) (Cn ga).1 (Cn gb).1 with ⟨h1, h2⟩ | ⟨E, h1, h2, h3, h4⟩
 ·rw [h1] at hs
  have hz : Ai (Ax a) (Ax b) = none := by
   cases hz : Ai (Ax a) (Ax b) with
   | none => rfl
   | some z => rw [hz] at hs; exact hs.elim
  rw [AT hz]
  exact Ev.bind h2 (ev_neg (by simp) (ev_ret rfl))
 rw [h1] at hs
 cases hz : Ai (Ax a) (Ax b) with
 | none => rw [hz] at hs; exact hs.elim
 | some z =>
  rw [hz] at hs
  have hn := (Ds E (by omega) h2).trans (FJ (Sim.symm hs))
  rw [Ba ⟨ga, gb⟩ hz, ← hn]
  refine Ev.bind h4 (ev_pos rfl (Ev.bind (AV (AA E) (B8 E (by omega) h2).1) ?_))
  by_cases g : Ac (AA E) = true
  ·exact ev_val (ev_pos g (ev_ret rfl)) (by rw [if_pos g])
  exact ev_val (ev_neg g (ev_ret rfl)) (by rw [if_neg g])
theorem CK (l : List IP) (hl : l.length ≤ 1048576) (hw : ∀ x ∈ l, x.f1.size ≤ 1048576 ∧ x.f2.size ≤ 1048576) : Ev (fun k => jX.f k l) (if Ac l = true then (Dm l 0, DT l 0, true) else (0, 0, false)) := by
 unfold jX.f
 refine Ev.bind (AV l hw) (ev_if (fun h => ?_) (fun h => ?_))
 rotate_left
 ·rw [if_neg h]; exact ev_ret rfl
 rw [if_pos h]; exact Ev.bind (BM l hl) (ev_ret rfl)
theorem C3 (l : List IP) (hl : l.length ≤ 60) (hp : ∀ p ∈ l, Af p = true) (d : Nat) : ∀ (i : Nat) (s o : ByteArray), i + d = l.length → s.size = Ao (l.drop i) → s.size ≤ 140737488351232 → o.size ≤ 1000 * i →
  Ev (fun k => jF.l0 k s o l (l.length : Int) (i : Int)) (DG (l.drop i) s o) := by
 induction d with
 | zero =>
  intro i s o hi ht hs ho
  refine Ev.step (fun k => by rw [jF.l0]) ?_
  refine ev_neg (by omega) (ev_ret ?_)
  rw [List.drop_eq_nil_of_le (by omega)]; rfl
 | succ d ih =>
  intro i s o hi ht hs ho
  have hpi := hp _ (gt_mem By l i (by omega))
  obtain ⟨f1, f2, f3, f4, f5⟩ := AK hpi
  have hn := GB hpi
  refine Ev.step (fun k => by rw [jF.l0]) ?_
  refine ev_pos (by omega) (ev_pos (by omega) (ev_pos (by omega) ?_))
  rw [gt_drop By l i (by omega)] at ht ⊢
  unfold Ao at ht
  have hd : nP (gt By l i) = (gt By l i).f0.toNat + (gt By l i).f2.size := rfl
  have hw1 := wrap_succ i (by omega)
  simp only [BE, ES hpi, hw1]
  unfold DG
  have hx : (s.extract 0 (gt By l i).f0.toNat).size ≤ 300 := by rw [AH]; omega
  have hx' : (s.extract (nP (gt By l i)) s.size).size ≤ 140737488351232 := by rw [AH]; omega
  refine ev_pos (Int.natCast_nonneg _) (ev_pos (G0 ht hd f1).2.2 ?_)
  rw [Int.toNat_natCast]
  refine ev_if (fun h => ?_) (fun h => by rw [if_neg h]; exact ev_ret rfl)
  rw [if_pos h]
  have i60 : i ≤ 60 := Nat.le_trans (Nat.le_of_lt (Nat.lt_of_lt_of_le (Nat.lt_add_of_pos_right (Nat.succ_pos d)) (Nat.le_of_eq hi))) hl
  obtain ⟨fs, fn, _⟩ := G0 ht hd f1
  refine ev_pos f1 (ev_pos fs (ev_pos (G4 hx f3) (ev_pos (by rw [ByteArray.size_append]; exact G5 ho hx f3 i60) (ev_pos (Int.natCast_nonneg _) (ev_pos fn ?_)))))
  rw [Int.toNat_natCast]
  exact ih (i + 1) (s.extract (nP (gt By l i)) s.size) (o ++ (s.extract 0 (gt By l i).f0.toNat ++ (gt By l i).f1)) (by omega) (by rw [AH, ht]; clear ih; omega) hx' (by rw [ByteArray.size_append, ByteArray.size_append]; exact G7 ho hx f3)
theorem BL (l : List IP) (s : ByteArray) (hw : ∀ x ∈ l, x.f1.size ≤ 1048576 ∧ x.f2.size ≤ 1048576) (hs : s.size ≤ 140737488351232) : Ev (fun k => jF.f k l s) (Do l s) := by
 unfold jF.f Do
 refine Ev.bind (AW l hw) (ev_if (fun g => ?_) (fun g => ?_))
 rotate_left
 ·rw [if_neg g]
  refine Ev.step (fun k => by rw [jF.j0]) ?_
  exact ev_pos rfl (ev_ret rfl)
 rw [if_pos g]
 obtain ⟨hl, hp, _, _⟩ := Ab g
 refine Ev.bind (A1 s hs) ?_
 refine Ev.step (fun k => by rw [jF.j0]) ?_
 by_cases gs : goodB (bytesOf s) = true
 rotate_left
 ·rw [if_neg gs]
  rw [Bool.not_eq_true] at gs
  exact ev_pos (by rw [gs]; rfl) (ev_ret rfl)
 rw [if_pos gs]
 refine ev_neg (by rw [gs]; simp) (Ev.bind (A9 l (by omega)) ?_)
 have ht : Dm l 0 = ((Ao l : Nat) : Int) := by
  have := EG l hp 0 (by omega)
  rw [Nat.zero_add] at this; exact this
 by_cases c : s.size = Ao l
 rotate_left
 ·rw [if_neg c]
  exact ev_neg (by show ¬ Dm l 0 = _; omega) (ev_ret rfl)
 rw [if_pos c]
 refine ev_pos (by show Dm l 0 = _; omega) ?_
 have H := C3 l hl hp l.length 0 s E0 (by omega) (by rw [List.drop_zero]; exact c) hs (Nat.le_refl 0)
 refine ev_val H ?_
 rw [List.drop_zero]
 by_cases q : (DG l s E0).2 = true
 ·rw [if_pos q]
 rw [if_neg q]; exact Fy l s _ (by simpa using q)
def kB (n : Nat) : ByteArray := oB (List.replicate n 107)
theorem DE (s : ByteArray) (d : Nat) : (s ++ (⟨#[107]⟩ : ByteArray)) ++ kB d = s ++ kB (d + 1) := by
 apply CT
 unfold kB
 rw [AZ, AZ, AZ, BR, BR, List.append_assoc]; rfl
theorem E5 (s : ByteArray) : s ++ kB 0 = s := by
 apply CT
 unfold kB
 rw [AZ, BR]; simp
theorem CE (n : Nat) : (kB n).size = n := by unfold kB; rw [ER, List.length_replicate]
theorem GX : Cj (⟨#[107]⟩ : ByteArray) := by unfold Cj; decide
theorem FA : ∀ n, Cj (kB n)
 | 0 => AJ (CE 0)
 | n + 1 => by
  have h := A7 GX (FA n)
  have e : (⟨#[107]⟩ : ByteArray) ++ kB n = kB (n + 1) := by
   have := DE ⟨#[]⟩ n
   rw [show (⟨#[]⟩ : ByteArray) ++ (⟨#[107]⟩ : ByteArray) = ⟨#[107]⟩ from A2 _, show (⟨#[]⟩ : ByteArray) ++ kB (n + 1) = kB (n + 1) from A2 _] at this
   exact this
  rw [e] at h; exact h
theorem ED (l : List Int) (hl : l.length ≤ 1048576) (hc : ∀ x ∈ l, 0 ≤ x ∧ x ≤ 255) (d : Nat) : ∀ (i : Nat) (x : Int), i + d = l.length → 0 ≤ x → x < 1000003 → ∃ r, Ev (fun k => jK.l0 k x l (l.length : Int) (i : Int)) r ∧ 0 ≤ r ∧ r < 1000003 := by
 induction d with
 | zero =>
  intro i x hi h0 h1
  exact ⟨x, Ev.step (fun k => by rw [jK.l0]) (ev_neg (by omega) (ev_ret rfl)), h0, h1⟩
 | succ d ih =>
  intro i x hi h0 h1
  have hx : 0 ≤ rd l (i : Int) ∧ rd l (i : Int) ≤ 255 := hc _ (gt_mem 0 l i (by omega))
  have w1 : wrap64 (31 * x) = 31 * x := wrap_id (by omega) (by omega)
  have w2 : wrap64 (rd l (i : Int)) = rd l (i : Int) := wrap_id (by omega) (by omega)
  have w3 : wrap64 (31 * x + rd l (i : Int)) = 31 * x + rd l (i : Int) := wrap_id (by omega) (by omega)
  have ht := DB (x := 31 * x + rd l (i : Int)) (n := 1000003) (by omega) (by omega)
  obtain ⟨r, h2, h3⟩ := ih (i + 1) _ (by omega) ht.1 ht.2
  refine ⟨r, Ev.step (fun k => by rw [jK.l0]) (ev_pos (by omega) (ev_pos (by omega) (ev_pos (by omega) ?_))), h3⟩
  rw [w1, w2, w3, wrap_succ i (by omega)]; exact h2
theorem CH (l : List Int) (hl : l.length ≤ 1048576) (hc : ∀ x ∈ l, 0 ≤ x ∧ x ≤ 255) : ∃ r, Ev (fun k => jK.f k l) r ∧ 0 ≤ r ∧ r < 1000003 := by
 unfold jK.f
 exact ED l hl hc l.length 0 0 (by omega) (by omega) (by omega)
abbrev Ek (l : List IP) : Prop := ∀ x ∈ l, x.f1.size ≤ 1048576 ∧ x.f2.size ≤ 1048576
theorem Gv {l : List IP} (h : Ac l = true) : Ek l := fun x hx => by
 obtain ⟨_, _, a, b, _⟩ := AF ((Ab h).2.1 x hx); omega
theorem EF (a b : List IP) : Ek (Ap a b).1 := by
 by_cases h : (Ap a b).2 = true
 ·obtain ⟨_, _, z, _, gz, e⟩ := AI h
  rw [e]; exact Gv gz
 by_cases g : Ac a = true ∧ Ac b = true
 rotate_left
 ·rw [Bl g]; intro x hx; cases hx
 cases hz : Ai (Ax a) (Ax b) with
 | none => rw [AT hz]; intro x hx; cases hx
 | some z =>
  rw [Ba g hz] at h ⊢
  by_cases gz : Ac (DH z) = true
  rotate_left
  ·rw [if_neg gz]; intro x hx; cases hx
  rw [if_pos gz] at h; exact absurd rfl h
theorem Cx {a b : List IP} (ha : Ek a) (hb : Ek b) (hab : (Ap a b).2 = true) (c : List IP) (hc : Ek c) : Ev (fun k => lZ.j5 k a b (Ap a b).1 c) true := by
 refine Ev.step (fun k => by rw [lZ.j5]) (Ev.bind (AB b c hb hc) (Ev.bind (AB (Ap a b).1 c (EF a b) hc) ?_))
 by_cases t3 : (Ap b c).2 = true
 rotate_left
 ·exact ev_neg t3 (Ev.step (fun k => by rw [lZ.j6]) (ev_pos rfl (ev_ret rfl)))
 refine ev_pos t3 (Ev.step (fun k => by rw [lZ.j6]) ?_)
 by_cases t4 : (Ap (Ap a b).1 c).2 = true
 rotate_left
 ·exact ev_pos (by simp [t4]) (ev_ret rfl)
 refine ev_neg (by rw [t4]; simp) (Ev.bind (AB a (Ap b c).1 ha (EF b c)) ?_)
 by_cases t5 : (Ap a (Ap b c).1).2 = true
 rotate_left
 ·exact ev_neg t5 (ev_ret rfl)
 refine ev_pos t5 ?_
 rw [EI hab t3 t4 t5]
 exact Ev.bind (BQ _ (by have := D9 a (Ap b c).1; omega)) (ev_ret rfl)
theorem EE (n : Int) (p : ByteArray) (hp : p.size ≤ 1048576) {l : List IP} (h : Ek l) : Ek (l ++ [⟨n, p, (⟨#[]⟩ : ByteArray)⟩]) := fun x hx => by
 rcases List.mem_append.1 hx with q | q
 ·exact h x q
 ·rw [List.mem_singleton.1 q]; exact ⟨hp, Nat.zero_le _⟩
theorem Cv {a b : List IP} (ha : Ek a) (hb : Ek b) (hab : (Ap a b).2 = true) (more : List Int) (hl : more.length ≤ 1048576) (hm : ∀ x ∈ more, 0 ≤ x ∧ x ≤ 255) (o : Int) (h0 : 0 ≤ o) (h1 : o ≤ 300) (c : List IP) (hc : Ek c) (hcl : c.length ≤ 10) : Ev (fun k => lZ.j4 k more a b (Ap a b).1 o c) true := by
 obtain ⟨n, hn, n0, n1⟩ := CH more hl hm
 have w1 : wrap64 (o + 1) = o + 1 := wrap_id (by omega) (by omega)
 refine Ev.step (fun k => by rw [lZ.j4]) (ev_pos (by omega) ?_)
 have hc2 := EE 0 (⟨#[110, 101, 119]⟩ : ByteArray) (by decide) hc
 have hl2 : (c ++ [(⟨0, (⟨#[110, 101, 119]⟩ : ByteArray), (⟨#[]⟩ : ByteArray)⟩ : IP)]).length ≤ 11 := by rw [List.length_append, List.length_singleton]; omega
 refine ev_eq rfl (Ev.bind hn (ev_neg (by rw [w1]; omega) (ev_if (fun _ => ev_pos (by omega) ?_) (fun _ => ?_))))
 rotate_left
 ·exact Cx ha hb hab _ hc2
 exact Cx ha hb hab _ (EE _ (⟨#[]⟩ : ByteArray) (Nat.zero_le _) hc2)
theorem D2 {a b : List IP} (ha : Ek a) (hb : Ek b) (lb : b.length ≤ 1048576) (hab : (Ap a b).2 = true) (more : List Int) (hl : more.length ≤ 1048576) (hm : ∀ x ∈ more, 0 ≤ x ∧ x ≤ 255) : Ev (fun k => lZ.j3 k more a b (Ap a b).1 false) true := by
 obtain ⟨n, hn, n0, n1⟩ := CH more hl hm
 obtain ⟨_, gb, _⟩ := AI hab
 obtain ⟨gl, gp, _, gm⟩ := Ab gb
 have sz := CK b lb hb
 rw [if_pos gb] at sz
 have m0 : 0 ≤ DT b 0 := by rw [B1 b gp (by omega)]; omega
 have w1 : wrap64 (DT b 0 + 1) = DT b 0 + 1 := wrap_id (by omega) (by omega)
 refine Ev.step (fun k => by rw [lZ.j3]) ?_
 refine (ev_neg (by simp) (Ev.bind sz (ev_eq rfl (Ev.bind hn (ev_neg (by (try dsimp only); rw [w1]; omega) (ev_if (fun _ => ev_pos (by simp) ?_) (fun _ => ?_)))))))
 rotate_left
 ·exact Cv ha hb hab more hl hm _ m0 gm [] (fun x hx => by cases hx) (by simp)
 exact Cv ha hb hab more hl hm _ m0 gm _ (EE _ (⟨#[]⟩ : ByteArray) (Nat.zero_le _) (fun x hx => by cases hx)) (by simp)
theorem Eg (more : List Int) (a b ab : List IP) (n i : Nat) (hn : n ≤ 300) (f1 f2 : ByteArray) (z1 : f1.size ≤ 300) (z2 : f2.size ≤ 300) (d : Nat) : ∀ (j : Nat) (s t : ByteArray), j + d = n → s.size + d ≤ 1000000 → t.size + d ≤ 1000000 →
  Ev (fun k => lZ.l0 k more a b ab ((s ++ kB d) ++ f2) ((t ++ kB d) ++ f1) a (a.length : Int) (wrap64 ((i : Int) + 1))) true → Ev (fun k => lZ.l1 k more a b ab s t (j : Int) a (a.length : Int) (i : Int) (n : Int) f1 f2) true := by
 induction d with
 | zero =>
  intro j s t hj hs ht h
  rw [E5, E5] at h
  exact Ev.step (fun k => by rw [lZ.l1]) (ev_neg (by omega) (ev_pos (by omega) (ev_pos (by omega) h)))
 | succ d ih =>
  intro j s t hj hs ht h
  refine Ev.step (fun k => by rw [lZ.l1]) (ev_pos (by omega) (ev_pos (by omega) (ev_pos (by omega) ?_)))
  rw [wrap_succ j (by omega)]
  have k1 : (⟨#[107]⟩ : ByteArray).size = 1 := rfl
  refine ih (j + 1) _ _ (by omega) (by rw [Ae, k1]; omega) (by rw [Ae, k1]; omega) ?_
  rw [DE, DE]; exact h
theorem D4 {a b : List IP} (ha : Ek a) (hb : Ek b) (lb : b.length ≤ 1048576) (hab : (Ap a b).2 = true) (more : List Int) (hl : more.length ≤ 1048576) (hm : ∀ x ∈ more, 0 ≤ x ∧ x ≤ 255) (d : Nat) : ∀ (i : Nat) (s t : ByteArray), i + d = a.length → s.size ≤ 600 * i → t.size ≤ 600 * i → Cj s → Cj t → Ea (a.take i) s t →
  Ev (fun k => lZ.l0 k more a b (Ap a b).1 s t a (a.length : Int) (i : Int)) true := by
 obtain ⟨ga, gb, _⟩ := AI hab
 obtain ⟨gl, gp, gk, gm⟩ := Ab ga
 induction d with
 | zero =>
  intro i s t hi hs ht xs xt hr
  rw [List.take_of_length_le (by omega)] at hr
  have e1 := BP a s t hr
  have e2 := BP _ t s (Er a s t hr)
  rw [Ck a gp (by omega)] at gk
  rw [B1 a gp (by omega)] at gm
  have gs := B5 xs (by omega)
  have gt_ := B5 xt (by omega)
  have p1 := BL b t hb (by omega)
  have p2 := BL (Ap a b).1 s (EF a b) (by omega)
  rw [← Gf hab hr gs gt_] at p2
  have J := D2 ha hb lb hab more hl hm
  refine Ev.step (fun k => by rw [lZ.l0]) ?_
  refine (ev_neg (by omega) (Ev.bind p1 (Ev.bind p2 (ev_neg (by simp) (ev_if (fun _ => ?_) (fun _ => J))))))
  rw [bne_self_eq_false]; exact J
 | succ d ih =>
  intro i s t hi hs ht xs xt hr
  have hpi := gp _ (gt_mem By a i (by omega))
  obtain ⟨f1, f2, f3, f4, f5⟩ := AK hpi
  obtain ⟨x1, x2⟩ := DD hpi
  obtain ⟨n, hn⟩ := Int.eq_ofNat_of_zero_le f1
  refine Ev.step (fun k => by rw [lZ.l0]) (ev_pos (by omega) (ev_pos (by omega) (ev_pos (by omega) ?_)))
  simp only [BE, hn]
  refine Eg more a b (Ap a b).1 n i (by omega) _ _ f3 f4 n 0 s t (by omega) (by omega) (by omega) ?_
  rw [wrap_succ i (by omega)]
  refine ih (i + 1) _ _ (by omega) (by rw [Ae, Ae, CE]; omega) (by rw [Ae, Ae, CE]; omega) (A7 (A7 xs (FA n)) x2) (A7 (A7 xt (FA n)) x1) ?_
  rw [gt_take By a i (by omega), ByteArray.append_assoc, ByteArray.append_assoc]
  refine EL _ _ _ _ _ _ hr ?_
  have := GJ (gt By a i).f0 (gt By a i).f1 (gt By a i).f2 (kB n) (by rw [CE, hn, Int.toNat_natCast])
  exact this
theorem FnComposed : lZ.Pure := by
 intro code more h1 h2 h3 g1 g2 g3
 refine Ev.rounds ?_
 unfold lZ.f
 refine ev_if (fun _ => ev_ret rfl) (fun hg => ?_)
 rw [wrap_id (by omega) (by omega)] at hg
 obtain ⟨⟨a, b⟩, hd, ha, hb⟩ := Co (E3 (by omega) h3) (by omega)
 dsimp only at ha hb
 have wa : Ek a := fun x hx => by obtain ⟨_, _, p, q⟩ := ha x hx; omega
 have wb : Ek b := fun x hx => by obtain ⟨_, _, p, q⟩ := hb x hx; omega
 have hm : ∀ x ∈ more, 0 ≤ x ∧ x ≤ 255 := (E3 (by omega) g3).1
 have c1 := AB a b wa wb
 have c2 := B9 a b wa wb
 have lc := D9 a b
 refine Ev.bind hd (Ev.bind c1 (Ev.bind c2 (ev_neg (by simp) (Ev.bind (BQ _ (by omega)) ?_))))
 refine Ev.step (fun k => by rw [lZ.j0]) (ev_neg (by simp) ?_)
 by_cases hab : (Ap a b).2 = true
 ·obtain ⟨ga, gb, _⟩ := AI hab
  have l1 := (Ab ga).1
  have l2 := (Ab gb).1
  refine ev_pos hab ?_
  exact D4 wa wb (by omega) hab more (by omega) hm a.length 0 ⟨#[]⟩ ⟨#[]⟩ (by omega) (Nat.zero_le _) (Nat.zero_le _) (AJ rfl) (AJ rfl) ⟨rfl, rfl⟩
 refine ev_neg hab (ev_ret ?_)
 have e : (Ap a b).1 = [] := by
  by_cases g : Ac a = true ∧ Ac b = true
  ·cases hz : Ai (Ax a) (Ax b) with
   | none => rw [AT hz]
   | some z =>
    rw [Ba g hz] at hab ⊢
    by_cases gz : Ac (DH z) = true
    ·rw [if_pos gz] at hab; exact absurd rfl hab
    ·rw [if_neg gz]
  ·rw [Bl g]
 rw [e]; rfl
end Go.Proofs.Ytlelpomnblaciaa.Pure
