/- FnDiamond over plain functions: two drawn changes of one text come to the same, whichever is first, and the program's answers are the reference's; no condition. -/
import Derived.Test.YtoagljlnfakgjaaPFnDiamondx19
import Derived.Test.YtoagljlnfakgjaaBase
import Derived.Test.YtoagljlnfakgjaaMk
namespace Go.Proofs.Ytoagljlnfakgjaa.Pure
open Go.RowKit Go.Proofs.Ytoagljlnfakgjaa.PFnDiamond Go.Proofs.YtoagljlnfakgjaaW.PrintWords Go.Proofs.YtoagljlnfakgjaaW.PrintLast Go.Proofs.Ytoagljlnfakgjaa.Base Go.Proofs.Ytoagljlnfakgjaa.Mk
set_option linter.unusedVariables false
set_option linter.unusedSimpArgs false
abbrev IP := S60
def A9 : IP := z60
theorem BV (l : List IP) (i : Nat) : rd_T60 l (i : Int) = gt A9 l i := rfl
theorem Aa (s : ByteArray) : s.toList = ([] : List UInt8) ↔ s.size = 0 := by
 rw [← List.length_eq_zero_iff]
 have := data_length s
 rw [ByteArray.toList_eq, this]
theorem Ao {s : ByteArray} (h : s.size = 0) : s = (⟨#[]⟩ : ByteArray) := by
 obtain ⟨d⟩ := s
 have h' : d.size = 0 := h
 rw [Array.size_eq_zero_iff.1 h']
theorem A2 (s : ByteArray) : s ++ (⟨#[]⟩ : ByteArray) = s := by
 apply ByteArray.ext; rw [ByteArray.data_append]; simp
theorem Am (a b : ByteArray) : (a ++ b).size = a.size + b.size := ByteArray.size_append
def AV (p : IP) : Prop := 0 ≤ p.f0 ∧ p.f0 ≤ 300 ∧ p.f1.size ≤ 300 ∧ p.f2.size ≤ 300 ∧ (p.f0 = 0 ∨ (p.f1.size = 0 ∧ p.f2.size = 0)) ∧ (p.f1.size = 0 ∨ p.f2.size = 0)
theorem B7 (m : List IP) (z v : IP) : (m ++ [z]).set m.length v = m ++ [v] := by
 rw [List.set_append_right _ _ (Nat.le_refl _), Nat.sub_self]; rfl
theorem F6 (m : List IP) (y z v : IP) : (m ++ [y, z]).set m.length v = m ++ [v, z] := by
 rw [List.set_append_right _ _ (Nat.le_refl _), Nat.sub_self]; rfl
theorem GA (m : List IP) (y z : IP) : gt A9 (m ++ [y, z]) m.length = y := by
 unfold gt; rw [List.getD_eq_getElem?_getD, List.getElem?_append_right (Nat.le_refl _)]; simp
theorem CL (m : List IP) (z : IP) : gt A9 (m ++ [z]) m.length = z := by
 unfold gt; rw [List.getD_eq_getElem?_getD, List.getElem?_append_right (Nat.le_refl _)]; simp
theorem CS (m : List IP) (z : IP) (h : m.length ≤ 100000) : wrap64 (((m ++ [z]).length : Int) - 1) = (m.length : Int) := by
 rw [List.length_append, List.length_singleton, wrap_id (by omega) (by omega)]; omega
theorem He (l : List IP) (p : IP) (h0 : p.f0 = 0) (h1 : p.f1.size = 0) (h2 : p.f2.size = 0) : Ev (fun k => jA.f k l p.f0 p.f1 p.f2) l := by
 unfold jA.f
 rw [beq_iff_eq.2 ((Aa _).2 h2)]
 refine ev_pos h0 (ev_pos ((Aa _).2 h1) ?_)
 refine Ev.step (fun k => by rw [jA.j0]) ?_
 exact ev_pos rfl (ev_ret rfl)
theorem D7 (l : List IP) (p : IP) (h : p.f0 ≠ 0 ∨ p.f1.size ≠ 0 ∨ p.f2.size ≠ 0) {r : List IP} (hr : Ev (fun k => jA.j0 k l (l.length : Int) false p.f0 p.f1 p.f2) r) : Ev (fun k => jA.f k l p.f0 p.f1 p.f2) r := by
 unfold jA.f
 refine ev_if (fun h0 => ev_if (fun h1 => ?_) (fun _ => hr)) (fun _ => hr)
 rw [Aa] at h1
 have h2 : ¬ p.f2.toList = ([] : List UInt8) := by rw [Aa]; omega
 rw [beq_eq_false_iff_ne.2 h2]; exact hr
theorem CR (p : IP) (h : p.f0 ≠ 0 ∨ p.f1.size ≠ 0 ∨ p.f2.size ≠ 0) : Ev (fun k => jA.f k [] p.f0 p.f1 p.f2) [p] := by
 refine D7 [] p h ?_
 refine Ev.step (fun k => by rw [jA.j0]) ?_
 exact ev_neg (by simp) (ev_pos (by simp) (ev_pos (by simp) (ev_ret rfl)))
theorem Hk (m : List IP) (z p : IP) (hm : m.length ≤ 100000) (h : p.f0 ≠ 0 ∨ p.f1.size ≠ 0 ∨ p.f2.size ≠ 0) {r : List IP}
  (hr : Ev (fun k => jA.j1 k (m ++ [z]) ((m ++ [z]).length : Int) (decide (p.f0 > 0 ∧ z.f0 > 0)) p.f0 p.f1 p.f2 z.f0 z.f1 z.f2) r) : Ev (fun k => jA.f k (m ++ [z]) p.f0 p.f1 p.f2) r := by
 refine D7 _ p h ?_
 refine Ev.step (fun k => by rw [jA.j0]) ?_
 rw [CS m z hm, BV, CL]
 have hl : (m ++ [z]).length = m.length + 1 := by rw [List.length_append, List.length_singleton]
 refine ev_neg (by simp) (ev_neg (by omega) (ev_pos (by omega) (ev_pos (by omega) (ev_if (fun c => ?_) (fun c => ?_)))))
 ·simp only [c, true_and] at hr; exact hr
 rw [decide_eq_false (fun q => c q.1)] at hr; exact hr
theorem GK (m : List IP) (z p : IP) (hm : m.length ≤ 100000) (h : p.f0 ≠ 0 ∨ p.f1.size ≠ 0 ∨ p.f2.size ≠ 0) (h1 : ¬ (p.f0 > 0 ∧ z.f0 > 0)) {r : List IP}
  (hr : Ev (fun k => jA.j2 k (m ++ [z]) ((m ++ [z]).length : Int) (decide (p.f2.size ≠ 0 ∧ z.f2.size ≠ 0)) p.f0 p.f1 p.f2 z.f0 z.f1 z.f2) r) : Ev (fun k => jA.f k (m ++ [z]) p.f0 p.f1 p.f2) r := by
 refine Hk m z p hm h ?_
 rw [decide_eq_false h1]
 refine Ev.step (fun k => by rw [jA.j1]) ?_
 refine ev_neg (by simp) (ev_if (fun c => ?_) (fun c => ?_))
 ·rw [Aa] at c
  rw [decide_eq_false (fun q => q.1 c)] at hr; exact hr
 rw [Aa] at c
 have e : (z.f2.toList != ([] : List UInt8)) = decide (p.f2.size ≠ 0 ∧ z.f2.size ≠ 0) := by
  by_cases q : z.f2.size = 0
  ·rw [decide_eq_false (fun x => x.2 q), bne_eq_false_iff_eq]; exact (Aa _).2 q
  ·rw [decide_eq_true ⟨c, q⟩, bne_iff_ne]; exact fun x => q ((Aa _).1 x)
 rw [e]; exact hr
theorem GM (m : List IP) (z p : IP) (hm : m.length ≤ 100000) (h : p.f0 ≠ 0 ∨ p.f1.size ≠ 0 ∨ p.f2.size ≠ 0) (h1 : ¬ (p.f0 > 0 ∧ z.f0 > 0)) (h2 : ¬ (p.f2.size ≠ 0 ∧ z.f2.size ≠ 0)) {r : List IP}
  (hr : Ev (fun k => jA.j3 k (m ++ [z]) ((m ++ [z]).length : Int) (decide (p.f1.size ≠ 0 ∧ z.f1.size ≠ 0)) p.f0 p.f1 p.f2 z.f0 z.f1 z.f2) r) : Ev (fun k => jA.f k (m ++ [z]) p.f0 p.f1 p.f2) r := by
 refine GK m z p hm h h1 ?_
 rw [decide_eq_false h2]
 refine Ev.step (fun k => by rw [jA.j2]) ?_
 refine ev_neg (by simp) (ev_if (fun c => ?_) (fun c => ?_))
 ·rw [Aa] at c
  rw [decide_eq_false (fun q => q.1 c)] at hr; exact hr
 rw [Aa] at c
 have e : (z.f1.toList != ([] : List UInt8)) = decide (p.f1.size ≠ 0 ∧ z.f1.size ≠ 0) := by
  by_cases q : z.f1.size = 0
  ·rw [decide_eq_false (fun x => x.2 q), bne_eq_false_iff_eq]; exact (Aa _).2 q
  ·rw [decide_eq_true ⟨c, q⟩, bne_iff_ne]; exact fun x => q ((Aa _).1 x)
 rw [e]; exact hr
theorem Fa (m : List IP) (z p : IP) (hm : m.length ≤ 100000) (h : p.f0 ≠ 0 ∨ p.f1.size ≠ 0 ∨ p.f2.size ≠ 0) (h1 : ¬ (p.f0 > 0 ∧ z.f0 > 0)) (h2 : ¬ (p.f2.size ≠ 0 ∧ z.f2.size ≠ 0)) (h3 : ¬ (p.f1.size ≠ 0 ∧ z.f1.size ≠ 0)) {r : List IP}
  (hr : Ev (fun k => jA.j4 k (m ++ [z]) ((m ++ [z]).length : Int) (decide (p.f1.size ≠ 0 ∧ z.f2.size ≠ 0)) p.f0 p.f1 p.f2 z.f0 z.f1 z.f2) r) : Ev (fun k => jA.f k (m ++ [z]) p.f0 p.f1 p.f2) r := by
 refine GM m z p hm h h1 h2 ?_
 rw [decide_eq_false h3]
 refine Ev.step (fun k => by rw [jA.j3]) ?_
 refine ev_neg (by simp) (ev_if (fun c => ?_) (fun c => ?_))
 ·rw [Aa] at c
  rw [decide_eq_false (fun q => q.1 c)] at hr; exact hr
 rw [Aa] at c
 have e : (z.f2.toList != ([] : List UInt8)) = decide (p.f1.size ≠ 0 ∧ z.f2.size ≠ 0) := by
  by_cases q : z.f2.size = 0
  ·rw [decide_eq_false (fun x => x.2 q), bne_eq_false_iff_eq]; exact (Aa _).2 q
  ·rw [decide_eq_true ⟨c, q⟩, bne_iff_ne]; exact fun x => q ((Aa _).1 x)
 rw [e]; exact hr
theorem G0 (m : List IP) (z p : IP) (hm : m.length ≤ 100000) (h1 : p.f0 > 0 ∧ z.f0 > 0) : Ev (fun k => jA.f k (m ++ [z]) p.f0 p.f1 p.f2) (m ++ [⟨wrap64 (z.f0 + p.f0), z.f1, z.f2⟩]) := by
 refine Hk m z p hm (.inl (by omega)) ?_
 rw [decide_eq_true h1]
 refine Ev.step (fun k => by rw [jA.j1]) ?_
 rw [CS m z hm, BV, CL, Int.toNat_natCast, B7]
 exact ev_pos rfl (ev_pos (by omega) (ev_pos (by rw [List.length_append, List.length_singleton]; omega) (ev_ret rfl)))
theorem EE (m : List IP) (z p : IP) (hm : m.length ≤ 100000) (h1 : ¬ (p.f0 > 0 ∧ z.f0 > 0)) (h2 : p.f2.size ≠ 0 ∧ z.f2.size ≠ 0) (hs : z.f2.size + p.f2.size ≤ 9223372036854775807) : Ev (fun k => jA.f k (m ++ [z]) p.f0 p.f1 p.f2) (m ++ [⟨z.f0, z.f1, z.f2 ++ p.f2⟩]) := by
 refine GK m z p hm (.inr (.inr h2.1)) h1 ?_
 rw [decide_eq_true h2]
 refine Ev.step (fun k => by rw [jA.j2]) ?_
 rw [CS m z hm, BV, CL, Int.toNat_natCast, B7]
 exact ev_pos rfl (ev_pos (by omega) (ev_pos (by rw [List.length_append, List.length_singleton]; omega) (ev_pos hs (ev_ret rfl))))
theorem HG (m : List IP) (z p : IP) (hm : m.length ≤ 100000) (h1 : ¬ (p.f0 > 0 ∧ z.f0 > 0)) (h2 : ¬ (p.f2.size ≠ 0 ∧ z.f2.size ≠ 0)) (h3 : p.f1.size ≠ 0 ∧ z.f1.size ≠ 0) (hs : z.f1.size + p.f1.size ≤ 9223372036854775807) : Ev (fun k => jA.f k (m ++ [z]) p.f0 p.f1 p.f2) (m ++ [⟨z.f0, z.f1 ++ p.f1, z.f2⟩]) := by
 refine GM m z p hm (.inr (.inl h3.1)) h1 h2 ?_
 rw [decide_eq_true h3]
 refine Ev.step (fun k => by rw [jA.j3]) ?_
 rw [CS m z hm, BV, CL, Int.toNat_natCast, B7]
 exact ev_pos rfl (ev_pos (by omega) (ev_pos (by rw [List.length_append, List.length_singleton]; omega) (ev_pos hs (ev_ret rfl))))
theorem Ck (m : List IP) (z p : IP) (hm : m.length ≤ 100000) (h : p.f0 ≠ 0 ∨ p.f1.size ≠ 0 ∨ p.f2.size ≠ 0) (h1 : ¬ (p.f0 > 0 ∧ z.f0 > 0)) (h2 : ¬ (p.f2.size ≠ 0 ∧ z.f2.size ≠ 0)) (h3 : ¬ (p.f1.size ≠ 0 ∧ z.f1.size ≠ 0)) (h4 : ¬ (p.f1.size ≠ 0 ∧ z.f2.size ≠ 0)) : Ev (fun k => jA.f k (m ++ [z]) p.f0 p.f1 p.f2) (m ++ [z, p]) := by
 refine Fa m z p hm h h1 h2 h3 ?_
 rw [decide_eq_false h4]
 refine Ev.step (fun k => by rw [jA.j4]) ?_
 exact ev_neg (by simp) (ev_pos (by rw [List.length_append, List.length_singleton]; omega) (ev_ret (by rw [List.append_assoc]; rfl)))
theorem Fq (z p : IP) (h1 : ¬ (p.f0 > 0 ∧ z.f0 > 0)) (h2 : ¬ (p.f2.size ≠ 0 ∧ z.f2.size ≠ 0)) (h3 : ¬ (p.f1.size ≠ 0 ∧ z.f1.size ≠ 0)) (h4 : p.f1.size ≠ 0 ∧ z.f2.size ≠ 0) : Ev (fun k => jA.f k [z] p.f0 p.f1 p.f2) [p, z] := by
 refine Fa [] z p (by simp) (.inr (.inl h4.1)) h1 h2 h3 ?_
 rw [decide_eq_true h4]
 refine Ev.step (fun k => by rw [jA.j4]) ?_
 rw [CS [] z (by simp), Int.toNat_natCast, B7]
 exact ev_pos rfl (ev_neg (by simp) (ev_pos (by simp) (ev_pos (by simp) (ev_eq rfl (ev_pos (by simp) (ev_ret rfl))))))
theorem Ij (m : List IP) (y z : IP) (h : m.length ≤ 90000) : wrap64 (((m ++ [y, z]).length : Int) - 2) = (m.length : Int) := by
 have : (m ++ [y, z]).length = m.length + 2 := by rw [List.length_append]; rfl
 rw [this, wrap_id (by omega) (by omega)]; omega
theorem Di (m : List IP) (y z p : IP) (hm : m.length ≤ 90000) (h1 : ¬ (p.f0 > 0 ∧ z.f0 > 0)) (h2 : ¬ (p.f2.size ≠ 0 ∧ z.f2.size ≠ 0)) (h3 : ¬ (p.f1.size ≠ 0 ∧ z.f1.size ≠ 0)) (h4 : p.f1.size ≠ 0 ∧ z.f2.size ≠ 0) (hs : y.f1.size + p.f1.size ≤ 9223372036854775807) :
  Ev (fun k => jA.f k (m ++ [y, z]) p.f0 p.f1 p.f2) (if y.f1.size = 0 then m ++ [y, p, z] else m ++ [⟨y.f0, y.f1 ++ p.f1, y.f2⟩, z]) := by
 have em : m ++ [y, z] = (m ++ [y]) ++ [z] := by rw [List.append_assoc]; rfl
 have hl1 : (m ++ [y]).length = m.length + 1 := by rw [List.length_append, List.length_singleton]
 have hl2 : (m ++ [y, z]).length = m.length + 2 := by rw [List.length_append]; rfl
 rw [em]
 refine Fa (m ++ [y]) z p (by omega) (.inr (.inl h4.1)) h1 h2 h3 ?_
 rw [decide_eq_true h4]
 refine Ev.step (fun k => by rw [jA.j4]) ?_
 rw [CS (m ++ [y]) z (by omega), Int.toNat_natCast, B7]
 rw [← em, Ij m y z hm, BV, GA, Int.toNat_natCast, F6]
 refine ev_pos rfl (ev_pos (by omega) (ev_pos (by omega) (ev_pos (by omega) (ev_if (fun c => ?_) (fun c => ?_)))))
 rotate_left
 ·rw [Aa] at c
  rw [if_neg c]
  exact ev_pos hs (ev_ret rfl)
 rw [Aa] at c
 rw [if_pos c]
 refine ev_pos (by omega) (ev_pos (by omega) (ev_eq rfl (ev_pos (by rw [List.length_append, List.length_singleton]; omega) (ev_ret ?_))))
 rw [List.append_assoc, List.append_assoc]; rfl
structure Fit (n : Nat) (s : List Pt × ByteArray × ByteArray) : Prop where
 last : s.1 = [] ∨ ∃ m x, s.1 = m ++ [(x, (⟨#[]⟩ : ByteArray), (⟨#[]⟩ : ByteArray))] ∧ 0 < x ∧ x ≤ 300 * (n : Int)
 len : s.1.length ≤ 3 * n
 put : s.2.1.size ≤ 300 * n
 drop : s.2.2.size ≤ 300 * n
def AY (s : List Pt × ByteArray × ByteArray) : List IP := (s.1 ++ endL s.2.1 s.2.2).map ofP
theorem Ax {a b : ByteArray} (ha : a.size = 0) (hb : b.size = 0) : endL a b = [] := by
 unfold endL; rw [if_pos ((Aa _).2 ha), if_pos ((Aa _).2 hb)]; rfl
theorem A0 {a b : ByteArray} (ha : a.size ≠ 0) (hb : b.size = 0) : endL a b = [(0, a, ⟨#[]⟩)] := by
 unfold endL; rw [if_neg (fun e => ha ((Aa _).1 e)), if_pos ((Aa _).2 hb)]; rfl
theorem AW {a b : ByteArray} (ha : a.size = 0) (hb : b.size ≠ 0) : endL a b = [(0, ⟨#[]⟩, b)] := by
 unfold endL; rw [if_pos ((Aa _).2 ha), if_neg (fun e => hb ((Aa _).1 e))]; rfl
theorem AK {a b : ByteArray} (ha : a.size ≠ 0) (hb : b.size ≠ 0) : endL a b = [(0, a, ⟨#[]⟩), (0, ⟨#[]⟩, b)] := by
 unfold endL; rw [if_neg (fun e => ha ((Aa _).1 e)), if_neg (fun e => hb ((Aa _).1 e))]; rfl
theorem CB (a b : ByteArray) : (endL a b).length ≤ 2 := by unfold endL; rw [List.length_append]; split <;> split <;> simp
theorem BW : (⟨#[]⟩ : ByteArray).size = 0 := rfl
theorem Ch (m : List Pt) (q : Pt) (x : Int) : keepA (m ++ [q]) x = if q.1 > 0 then m ++ [(wrap64 (q.1 + x), q.2.1, q.2.2)] else m ++ [q, (x, ⟨#[]⟩, ⟨#[]⟩)] := by
 unfold keepA
 rw [List.getLast?_append]
 simp only [List.getLast?_singleton, Option.some_or]
 split
 ·rw [List.dropLast_concat]
 rw [List.append_assoc]; rfl
theorem AB (n : Nat) (s : List Pt × ByteArray × ByteArray) (p : IP) (hn : n ≤ 1000) (hf : Fit n s) (hp : AV p) :
  Ev (fun k => jA.f k (AY s) p.f0 p.f1 p.f2) (AY (takeP s (toP p))) ∧ Fit (n + 1) (takeP s (toP p)) := by
 obtain ⟨l, a, b⟩ := s
 obtain ⟨f1, f2, f3, f4⟩ := hf
 obtain ⟨p0, p1, p2⟩ := p
 obtain ⟨q1, q2, q3, q4, q5, q6⟩ := hp
 simp only at f1 f2 f3 f4 q1 q2 q3 q4 q5 q6
 have hel := CB a b
 by_cases h0 : p0 = 0
 rotate_left
 ·-- bytes are kept
  obtain ⟨h1, h2⟩ := q5.resolve_left h0
  have hk : keepS l a b p0 = (keepA (l ++ endL a b) p0, ⟨#[]⟩, ⟨#[]⟩) := by unfold keepS; rw [if_neg h0]
  have et : takeP (l, a, b) (toP ⟨p0, p1, p2⟩) = (keepA (l ++ endL a b) p0, ⟨#[]⟩, ⟨#[]⟩) := by
   unfold takeP toP
   simp only [hk]
   rw [Ao h1, Ao h2, A2]
  rw [et, Ao h1, Ao h2]
  have hq : ∀ (M : List Pt) (q : Pt), l ++ endL a b = M ++ [q] → q.1 ≤ 300 * (n : Int) → (q.1 > 0 → q.2.1 = ⟨#[]⟩ ∧ q.2.2 = ⟨#[]⟩) →
    Ev (fun k => jA.f k (AY (l, a, b)) p0 ⟨#[]⟩ ⟨#[]⟩) (AY (keepA (l ++ endL a b) p0, ⟨#[]⟩, ⟨#[]⟩)) ∧ Fit (n + 1) (keepA (l ++ endL a b) p0, ⟨#[]⟩, ⟨#[]⟩) := by
   intro M q e hq1 hq2
   have hML : M.length + 1 ≤ 3 * n + 2 := by
    have := congrArg List.length e
    rw [List.length_append, List.length_append, List.length_singleton] at this
    omega
   unfold AY
   simp only
   rw [Ax BW BW, List.append_nil, e, Ch]
   by_cases hx : q.1 > 0
   ·rw [if_pos hx, List.map_append, List.map_append]
    refine ⟨G0 (M.map ofP) (ofP q) ⟨p0, ⟨#[]⟩, ⟨#[]⟩⟩ (by rw [List.length_map]; omega) ⟨by simp only; omega, hx⟩, ?_⟩
    rw [wrap_id (by omega) (by omega)]
    obtain ⟨e1, e2⟩ := hq2 hx
    refine ⟨.inr ⟨M, q.1 + p0, by rw [e1, e2], by omega, by omega⟩, ?_, Nat.zero_le _, Nat.zero_le _⟩
    simp only [List.length_append, List.length_cons, List.length_nil]; omega
   ·rw [if_neg hx, List.map_append, List.map_append]
    refine ⟨Ck (M.map ofP) (ofP q) ⟨p0, ⟨#[]⟩, ⟨#[]⟩⟩ (by rw [List.length_map]; omega) (.inl (by simp only; omega)) (fun c => hx c.2) (by simp [BW]) (by simp [BW]) (by simp [BW]), ?_⟩
    refine ⟨.inr ⟨M ++ [q], p0, by rw [List.append_assoc]; rfl, by omega, by omega⟩, ?_, Nat.zero_le _, Nat.zero_le _⟩
    simp only [List.length_append, List.length_cons, List.length_nil]; omega
  by_cases ha : a.size = 0
  rotate_left
  ·by_cases hb : b.size = 0
   ·exact hq l (0, a, ⟨#[]⟩) (by rw [A0 ha hb]) (by simp only; omega) (fun c => absurd c (by simp))
   exact hq (l ++ [(0, a, ⟨#[]⟩)]) (0, ⟨#[]⟩, b) (by rw [AK ha hb, List.append_assoc]; rfl) (by simp only; omega) (fun c => absurd c (by simp))
  by_cases hb : b.size = 0
  rotate_left
  ·exact hq l (0, ⟨#[]⟩, b) (by rw [AW ha hb]) (by simp only; omega) (fun c => absurd c (by simp))
  rcases f1 with e | ⟨m, x, e, hx, hx2⟩
  rotate_left
  ·exact hq m (x, ⟨#[]⟩, ⟨#[]⟩) (by rw [Ax ha hb, List.append_nil]; exact e) (by simp only; omega) (fun _ => ⟨rfl, rfl⟩)
  subst e
  unfold AY
  rw [Ax ha hb]
  simp only [List.nil_append, List.map_nil]
  rw [Ax BW BW]
  refine ⟨CR ⟨p0, ⟨#[]⟩, ⟨#[]⟩⟩ (.inl h0), ⟨.inr ⟨[], p0, rfl, by omega, by omega⟩, by show 1 ≤ _; omega, Nat.zero_le _, Nat.zero_le _⟩⟩
 -- nothing is kept
 subst h0
 have et : takeP (l, a, b) (toP ⟨0, p1, p2⟩) = (l, a ++ p1, b ++ p2) := rfl
 rw [et]
 refine ⟨?_, ?_⟩
 rotate_left
 ·refine ⟨?_, by show l.length ≤ _; omega, by show (a ++ p1).size ≤ _; rw [Am]; omega, by show (b ++ p2).size ≤ _; rw [Am]; omega⟩
  rcases f1 with e | ⟨m, x, e, hx, hx2⟩
  ·exact .inl e
  exact .inr ⟨m, x, e, hx, by omega⟩
 unfold AY
 simp only
 by_cases h1 : p1.size = 0
 ·by_cases h2 : p2.size = 0
  ·rw [Ao h1, Ao h2, A2, A2]
   exact He _ ⟨0, ⟨#[]⟩, ⟨#[]⟩⟩ rfl rfl rfl
  rw [Ao h1, A2]
  by_cases hb : b.size = 0
  rotate_left
  ·have hb2 : (b ++ p2).size ≠ 0 := by rw [Am]; omega
   by_cases ha : a.size = 0
   ·rw [AW ha hb, AW ha hb2, List.map_append, List.map_append]
    exact EE (l.map ofP) (ofP (0, ⟨#[]⟩, b)) ⟨0, ⟨#[]⟩, p2⟩ (by rw [List.length_map]; omega) (by simp) ⟨h2, hb⟩ (by simp only [ofP]; omega)
   rw [AK ha hb, AK ha hb2, List.map_append, List.map_append]
   have := EE (l.map ofP ++ [ofP (0, a, ⟨#[]⟩)]) (ofP (0, ⟨#[]⟩, b)) ⟨0, ⟨#[]⟩, p2⟩ (by rw [List.length_append, List.length_map, List.length_singleton]; omega) (by simp) ⟨h2, hb⟩ (by simp only [ofP]; omega)
   rw [List.append_assoc, List.append_assoc] at this; exact this
  rw [Ao hb, show (⟨#[]⟩ : ByteArray) ++ p2 = p2 by apply ByteArray.ext; rw [ByteArray.data_append]; simp]
  by_cases ha : a.size = 0
  rotate_left
  ·rw [A0 ha BW, AK ha h2, List.map_append, List.map_append]
   exact Ck (l.map ofP) (ofP (0, a, ⟨#[]⟩)) ⟨0, ⟨#[]⟩, p2⟩ (by rw [List.length_map]; omega) (.inr (.inr h2)) (by simp) (by simp [ofP, BW]) (by simp [BW]) (by simp [BW])
  rw [Ax ha BW, AW ha h2, List.append_nil, List.map_append]
  rcases f1 with e | ⟨m, x, e, hx, _⟩
  ·rw [e]; exact CR ⟨0, ⟨#[]⟩, p2⟩ (.inr (.inr h2))
  rw [e, List.map_append]
  have := Ck (m.map ofP) (ofP (x, ⟨#[]⟩, ⟨#[]⟩)) ⟨0, ⟨#[]⟩, p2⟩ (by rw [e] at f2; simp at f2 ⊢; omega) (.inr (.inr h2)) (by simp) (by simp [ofP, BW]) (by simp [BW]) (by simp [BW])
  rw [List.append_assoc]; exact this
 have h2 : p2.size = 0 := by omega
 rw [Ao h2, A2]
 by_cases ha : a.size = 0
 rotate_left
 ·have ha2 : (a ++ p1).size ≠ 0 := by rw [Am]; omega
  by_cases hb : b.size = 0
  ·rw [A0 ha hb, A0 ha2 hb, List.map_append, List.map_append]
   exact HG (l.map ofP) (ofP (0, a, ⟨#[]⟩)) ⟨0, p1, ⟨#[]⟩⟩ (by rw [List.length_map]; omega) (by simp) (by simp [BW]) ⟨h1, ha⟩ (by simp only [ofP]; omega)
  rw [AK ha hb, AK ha2 hb, List.map_append, List.map_append]
  have := Di (l.map ofP) (ofP (0, a, ⟨#[]⟩)) (ofP (0, ⟨#[]⟩, b)) ⟨0, p1, ⟨#[]⟩⟩ (by rw [List.length_map]; omega) (by simp) (by simp [BW]) (by simp [ofP, BW]) ⟨h1, hb⟩ (by simp only [ofP]; omega)
  rw [if_neg (by simp only [ofP]; exact ha)] at this
  exact this
 rw [Ao ha, show (⟨#[]⟩ : ByteArray) ++ p1 = p1 by apply ByteArray.ext; rw [ByteArray.data_append]; simp]
 by_cases hb : b.size = 0
 ·rw [Ax BW hb, A0 h1 hb, List.append_nil, List.map_append]
  rcases f1 with e | ⟨m, x, e, hx, _⟩
  ·rw [e]; exact CR ⟨0, p1, ⟨#[]⟩⟩ (.inr (.inl h1))
  rw [e, List.map_append]
  have := Ck (m.map ofP) (ofP (x, ⟨#[]⟩, ⟨#[]⟩)) ⟨0, p1, ⟨#[]⟩⟩ (by rw [e] at f2; simp at f2 ⊢; omega) (.inr (.inl h1)) (by simp) (by simp [ofP, BW]) (by simp [ofP, BW]) (by simp [ofP, BW])
  rw [List.append_assoc]; exact this
 rw [AW BW hb, AK h1 hb, List.map_append, List.map_append]
 rcases f1 with e | ⟨m, x, e, hx, _⟩
 ·rw [e]; exact Fq (ofP (0, ⟨#[]⟩, b)) ⟨0, p1, ⟨#[]⟩⟩ (by simp) (by simp [BW]) (by simp [ofP, BW]) ⟨h1, hb⟩
 rw [e, List.map_append]
 have := Di (m.map ofP) (ofP (x, ⟨#[]⟩, ⟨#[]⟩)) (ofP (0, ⟨#[]⟩, b)) ⟨0, p1, ⟨#[]⟩⟩ (by rw [e] at f2; simp at f2 ⊢; omega) (by simp) (by simp [BW]) (by simp [ofP, BW]) ⟨h1, hb⟩ (by simp only [ofP, BW]; omega)
 rw [if_pos (by rfl)] at this
 rw [List.append_assoc, List.append_assoc]; exact this
theorem CI : Fit 0 ([], (⟨#[]⟩ : ByteArray), (⟨#[]⟩ : ByteArray)) := ⟨.inl rfl, Nat.le_refl _, Nat.le_refl _, Nat.le_refl _⟩
def Ad (l : List IP) : List IP := (normP (l.map toP)).map ofP
theorem Gb (l : List IP) (hl : l.length ≤ 60) (hp : ∀ p ∈ l, AV p) : l.length ≤ 60 ∧ (l.all fun x => decide (x.f1.size ≤ 300 ∧ x.f2.size ≤ 300)) = true :=
 ⟨hl, List.all_eq_true.2 fun x hx => decide_eq_true ⟨(hp x hx).2.2.1, (hp x hx).2.2.2.1⟩⟩
theorem AM (l : List IP) (hl : l.length ≤ 60) (hp : ∀ p ∈ l, AV p) : yN.f l = some (Ad l) := by
 unfold yN.f
 rw [if_pos (Gb l hl hp)]; rfl
theorem FY (l : List IP) (hl : l.length ≤ 60) (hp : ∀ p ∈ l, AV p) : (Ad l).length ≤ 200 := by
 obtain ⟨b1, _, _⟩ := stN_bound l (fun x hx => ⟨(hp x hx).2.2.1, (hp x hx).2.2.2.1⟩) l.length (Nat.le_refl _)
 have e : stN l l.length = (l.map toP).foldl takeP ([], ⟨#[]⟩, ⟨#[]⟩) := by unfold stN; rw [List.take_of_length_le (Nat.le_refl _)]
 rw [e] at b1
 have := CB ((l.map toP).foldl takeP ([], ⟨#[]⟩, ⟨#[]⟩)).2.1 ((l.map toP).foldl takeP ([], ⟨#[]⟩, ⟨#[]⟩)).2.2
 unfold Ad normP
 rw [List.length_map, List.length_append]; omega
theorem EH (a b c : Int) : yX.f a b c = some (decide (b ≤ a ∧ a ≤ c)) := by
 unfold yX.f; split <;> simp <;> omega
theorem DQ (c : Int) : yS.f c = some (openB c) := by
 unfold yS.f openB; split <;> simp <;> omega
theorem DO (c : Int) : yU.f c = some (plainB c) := by
 unfold yU.f plainB
 repeat' split
 all_goals (rw [Option.some.injEq, Bool.eq_iff_iff]; simp only [Bool.or_eq_true, decide_eq_true_eq, beq_iff_eq, true_iff]; omega)
theorem DP (s : ByteArray) (hs : s.size ≤ 140737488351232) (d : Nat) : ∀ i : Nat, i + d = s.size → Ev (fun k => yC.l0 k s (i : Int)) (textB ((bytesOf s).drop i)) := by
 induction d with
 | zero =>
  intro i hi
  refine Ev.step (fun k => by rw [yC.l0]) ?_
  refine ev_neg (by omega) (ev_ret ?_)
  rw [drop_end s i (by omega)]; rfl
 | succ d ih =>
  intro i hi
  refine Ev.step (fun k => by rw [yC.l0]) ?_
  refine ev_pos (by omega) (ev_pos (by omega) (ev_eq (DQ _) ?_))
  rw [drop_bytes s i (by omega), wrap_succ i (by omega)]
  have ih' := ih (i + 1) (by omega)
  refine ev_if (fun h => ev_val ih' (by simp [textB, okB, h])) (fun h => ?_)
  refine ev_eq (DO _) (ev_if (fun h2 => ev_val ih' (by simp [textB, okB, h2])) (fun h2 => ?_))
  refine ev_if (fun h3 => ev_val ih' (by simp [textB, okB, h3])) (fun h3 => ev_ret ?_)
  simp [textB, okB, h, h2, h3]
theorem DS (s : ByteArray) (hs : s.size ≤ 140737488351232) : Ev (fun k => yC.f k s) (textB (bytesOf s)) :=
 DP s hs s.size 0 (by omega)
theorem Bk (s : ByteArray) (hs : s.size ≤ 140737488351232) : Ev (fun k => yE.f k s) (goodB (bytesOf s)) := by
 unfold yE.f goodB
 refine Ev.bind (DS s hs) (ev_if (fun h => ev_ret ?_) (fun h => ev_ret ?_))
 rotate_left
 ·simp at h; simp [h]
 rw [h, bytesOf_length, Bool.true_and]; congr 1; simp; omega
theorem DR (c : Int) : yT.f c = some (openB c) := by
 unfold yT.f openB; split <;> simp <;> omega
theorem DL (c : Int) : yV.f c = some (plainB c) := by
 unfold yV.f plainB
 repeat' split
 all_goals (rw [Option.some.injEq, Bool.eq_iff_iff]; simp only [Bool.or_eq_true, decide_eq_true_eq, beq_iff_eq, true_iff]; omega)
theorem C6 (s : ByteArray) (hs : s.size ≤ 140737488351232) (d : Nat) : ∀ i : Nat, i + d = s.size → Ev (fun k => jR.l0 k s (s.size : Int) (i : Int)) (textB ((bytesOf s).drop i) && decide (s.size ≤ 300)) := by
 induction d with
 | zero =>
  intro i hi
  refine Ev.step (fun k => by rw [jR.l0]) ?_
  refine ev_neg (by omega) (ev_ret ?_)
  rw [drop_end s i (by omega)]; simp [textB]; omega
 | succ d ih =>
  intro i hi
  refine Ev.step (fun k => by rw [jR.l0]) ?_
  refine ev_pos (by omega) (ev_pos (by omega) (ev_pos (by omega) (ev_eq (DR _) ?_)))
  rw [drop_bytes s i (by omega), wrap_succ i (by omega)]
  have ih' := ih (i + 1) (by omega)
  refine ev_if (fun h => ev_val ih' (by simp [textB, okB, h])) (fun h => ?_)
  refine ev_eq (DL _) (ev_if (fun h2 => ev_val ih' (by simp [textB, okB, h2])) (fun h2 => ?_))
  refine ev_if (fun h3 => ev_val ih' (by simp [textB, okB, h3])) (fun h3 => ev_ret ?_)
  simp [textB, okB, h, h2, h3]
theorem Bj (s : ByteArray) (hs : s.size ≤ 140737488351232) : Ev (fun k => jR.f k s) (goodB (bytesOf s)) := by
 unfold jR.f
 refine ev_val (C6 s hs s.size 0 (by omega)) ?_
 simp [goodB, bytesOf_length]
def Af (p : IP) : Bool := if p.f0 = 0 then (if p.f1.toList = ([] : List UInt8) then (if p.f2.toList = ([] : List UInt8) then false else goodB (bytesOf p.f2)) else (if p.f2.toList = ([] : List UInt8) then goodB (bytesOf p.f1) else false)) else (decide (1 ≤ p.f0 ∧ p.f0 ≤ 300) && (decide (p.f1.toList = ([] : List UInt8)) && (p.f2.toList == ([] : List UInt8))))
theorem DW (p : IP) (h1 : p.f1.size ≤ 140737488351232) (h2 : p.f2.size ≤ 140737488351232) : Ev (fun k => yQ.f k p.f0 p.f1 p.f2) (Af p) := by
 unfold yQ.f Af
 by_cases c0 : p.f0 = 0
 rotate_left
 ·rw [if_neg c0]
  refine ev_neg c0 (ev_eq (EH _ _ _) ?_)
  refine ev_if (fun h => ?_) (fun h => ev_ret (by rw [Bool.not_eq_true] at h; rw [h]; rfl))
  rw [h, Bool.true_and]
  exact ev_if (fun h1 => ev_ret (by rw [decide_eq_true h1, Bool.true_and])) (fun h1 => ev_ret (by rw [decide_eq_false h1]; rfl))
 rw [if_pos c0]
 refine ev_pos c0 ?_
 by_cases c1 : p.f1.toList = ([] : List UInt8)
 ·rw [if_pos c1]
  refine ev_pos c1 ?_
  by_cases c2 : p.f2.toList = ([] : List UInt8)
  ·rw [if_pos c2]; exact ev_pos c2 (ev_ret rfl)
  rw [if_neg c2]; exact ev_neg c2 (Ev.bind (Bk _ h2) (ev_ret rfl))
 rw [if_neg c1]
 refine ev_neg c1 ?_
 by_cases c2 : p.f2.toList = ([] : List UInt8)
 rotate_left
 ·rw [if_neg c2]; exact ev_neg c2 (ev_ret rfl)
 rw [if_pos c2]; exact ev_pos c2 (Ev.bind (Bk _ h1) (ev_ret rfl))
theorem Cs (p : IP) (h1 : p.f1.size ≤ 140737488351232) (h2 : p.f2.size ≤ 140737488351232) : Ev (fun k => yL.f k p.f0 p.f1 p.f2) (Af p) := by
 unfold yL.f Af
 by_cases c0 : p.f0 = 0
 rotate_left
 ·rw [if_neg c0]
  refine ev_neg c0 ?_
  refine ev_if (fun h => ?_) (fun h => ev_ret (by rw [decide_eq_false (by omega)]; rfl))
  refine ev_if (fun h' => ?_) (fun h' => ev_ret (by rw [decide_eq_false (by omega)]; rfl))
  rw [decide_eq_true (show 1 ≤ p.f0 ∧ p.f0 ≤ 300 from ⟨h, h'⟩), Bool.true_and]
  exact ev_if (fun h1 => ev_ret (by rw [decide_eq_true h1, Bool.true_and])) (fun h1 => ev_ret (by rw [decide_eq_false h1]; rfl))
 rw [if_pos c0]
 refine ev_pos c0 ?_
 by_cases c1 : p.f1.toList = ([] : List UInt8)
 ·rw [if_pos c1]
  refine ev_pos c1 ?_
  by_cases c2 : p.f2.toList = ([] : List UInt8)
  ·rw [if_pos c2]; exact ev_pos c2 (ev_ret rfl)
  rw [if_neg c2]; exact ev_neg c2 (Ev.bind (Bj _ h2) (ev_ret rfl))
 rw [if_neg c1]
 refine ev_neg c1 ?_
 by_cases c2 : p.f2.toList = ([] : List UInt8)
 rotate_left
 ·rw [if_neg c2]; exact ev_neg c2 (ev_ret rfl)
 rw [if_pos c2]; exact ev_pos c2 (Ev.bind (Bj _ h1) (ev_ret rfl))
def Es : List IP → Int → Int
 | [], a => a
 | p :: r, a => Es r (wrap64 (a + wrap64 (p.f0 + (p.f2.size : Int))))
def FX : List IP → Int → Int
 | [], a => a
 | p :: r, a => FX r (wrap64 (a + wrap64 (p.f0 + (p.f1.size : Int))))
theorem DH (l : List IP) (hl : l.length ≤ 1048576) (d : Nat) : ∀ (i : Nat) (a b : Int), i + d = l.length →
  Ev (fun k => yA.l0 k a b l (l.length : Int) (i : Int)) (Es (l.drop i) a, FX (l.drop i) b) := by
 induction d with
 | zero =>
  intro i a b hi
  refine Ev.step (fun k => by rw [yA.l0]) ?_
  refine ev_neg (by omega) (ev_ret ?_)
  rw [List.drop_eq_nil_of_le (by omega)]; rfl
 | succ d ih =>
  intro i a b hi
  refine Ev.step (fun k => by rw [yA.l0]) ?_
  refine ev_pos (by omega) (ev_pos (by omega) (ev_pos (by omega) ?_))
  rw [gt_drop A9 l i (by omega), wrap_succ i (by omega)]
  exact ih (i + 1) _ _ (by omega)
theorem DD (l : List IP) (hl : l.length ≤ 1048576) : Ev (fun k => yA.f k l) (Es l 0, FX l 0) := by
 unfold yA.f
 exact DH l hl l.length 0 0 0 (by omega)
theorem Et (l : List IP) (hl : l.length ≤ 1048576) (d : Nat) : ∀ (i : Nat) (a b : Int), i + d = l.length →
  Ev (fun k => jW.l0 k a b l (l.length : Int) (i : Int)) (Es (l.drop i) a, FX (l.drop i) b) := by
 induction d with
 | zero =>
  intro i a b hi
  refine Ev.step (fun k => by rw [jW.l0]) ?_
  refine ev_neg (by omega) (ev_ret ?_)
  rw [List.drop_eq_nil_of_le (by omega)]; rfl
 | succ d ih =>
  intro i a b hi
  refine Ev.step (fun k => by rw [jW.l0]) ?_
  refine ev_pos (by omega) (ev_pos (by omega) (ev_pos (by omega) ?_))
  rw [gt_drop A9 l i (by omega), wrap_succ i (by omega)]
  exact ih (i + 1) _ _ (by omega)
theorem Bp (l : List IP) (hl : l.length ≤ 1048576) : Ev (fun k => jW.f k l) (Es l 0, FX l 0) := by
 unfold jW.f
 exact Et l hl l.length 0 0 0 (by omega)
def Ac (l : List IP) : Bool := decide (l.length ≤ 60) && (l.all Af && decide (Es l 0 ≤ 300 ∧ FX l 0 ≤ 300))
theorem D5 {l : List IP} (h : ¬ l.length ≤ 60) : Ac l = false := by unfold Ac; rw [decide_eq_false h]; rfl
theorem Fl {l : List IP} {p : IP} (hp : p ∈ l) (h : Af p = false) : Ac l = false := by
 unfold Ac
 have : l.all Af = false := by
  rw [Bool.eq_false_iff]; intro e
  rw [List.all_eq_true] at e
  rw [e p hp] at h; cases h
 rw [this]; simp
theorem DT (l : List IP) (hl : l.length ≤ 60) (hw : ∀ x ∈ l, x.f1.size ≤ 1048576 ∧ x.f2.size ≤ 1048576) (d : Nat) : ∀ i : Nat, i + d = l.length →
  (l.take i).all Af = true → Ev (fun k => jI.l0 k l l (l.length : Int) (i : Int)) (Ac l) := by
 induction d with
 | zero =>
  intro i hi hg
  refine Ev.step (fun k => by rw [jI.l0]) ?_
  rw [List.take_of_length_le (by omega)] at hg
  have e : Ac l = decide (Es l 0 ≤ 300 ∧ FX l 0 ≤ 300) := by unfold Ac; rw [hg, decide_eq_true hl]; rfl
  rw [e]
  refine ev_neg (by omega) (Ev.bind (DD l (by omega)) ?_)
  exact ev_if (fun h => ev_ret (decide_eq_decide.2 (by constructor <;> intro q; exact ⟨h, q⟩; exact q.2))) (fun h => ev_ret (by rw [decide_eq_false (fun q => h q.1)]))
 | succ d ih =>
  intro i hi hg
  have hm := hw _ (gt_mem A9 l i (by omega))
  refine Ev.step (fun k => by rw [jI.l0]) ?_
  refine ev_pos (by omega) (ev_pos (by omega) (ev_pos (by omega) ?_))
  rw [wrap_succ i (by omega)]
  simp only [BV]
  refine Ev.bind (DW _ (by omega) (by omega)) (ev_if (fun h => ?_) (fun h => ev_ret (Fl (gt_mem A9 l i (by omega)) (by simpa using h)).symm))
  refine ih (i + 1) (by omega) ?_
  rw [gt_take A9 l i (by omega), List.all_append, hg]
  simp [h]
theorem Ai (l : List IP) (hw : ∀ x ∈ l, x.f1.size ≤ 1048576 ∧ x.f2.size ≤ 1048576) : Ev (fun k => jI.f k l) (Ac l) := by
 unfold jI.f
 refine ev_if (fun h => ev_ret (D5 (by omega)).symm) (fun h => ?_)
 exact DT l (by omega) hw l.length 0 (by omega) rfl
theorem GZ (l : List IP) (hw : ∀ x ∈ l, x.f1.size ≤ 1048576 ∧ x.f2.size ≤ 1048576) : ∀ n : Int, 0 ≤ n → ∃ v : Int, Ev (fun k => idxBad k l n) v ∧ (v ≥ 0 ↔ l.all Af = false) := by
 induction l with
 | nil => exact fun n _ => ⟨-1, by unfold idxBad; exact ev_ret rfl, by simp⟩
 | cons p r ih =>
  intro n hn
  have hm := hw p (List.mem_cons_self ..)
  obtain ⟨v, hv, hb⟩ := ih (fun x hx => hw x (List.mem_cons_of_mem _ hx)) (n + 1) (by omega)
  have hp : Ev (fun k => yO.f k p.f0 p.f1 p.f2) (!(Af p)) := by unfold yO.f; exact Ev.bind (Cs p (by omega) (by omega)) (ev_ret rfl)
  by_cases c : Af p = true
  ·refine ⟨v, ?_, by rw [hb, List.all_cons, c, Bool.true_and]⟩
   unfold idxBad
   refine Ev.bind hp (ev_neg (by rw [c]; simp) hv)
  rw [Bool.not_eq_true] at c
  refine ⟨n, ?_, by rw [List.all_cons, c]; simp; omega⟩
  unfold idxBad
  exact Ev.bind hp (ev_pos (by rw [c]; rfl) (ev_ret rfl))
theorem AC (l : List IP) (hw : ∀ x ∈ l, x.f1.size ≤ 1048576 ∧ x.f2.size ≤ 1048576) : Ev (fun k => jU.f k l) (Ac l) := by
 unfold jU.f
 refine ev_if (fun h => ev_ret (D5 (by omega)).symm) (fun h => ?_)
 obtain ⟨v, hv, hb⟩ := GZ l hw 0 (by omega)
 refine Ev.bind hv (ev_if (fun c => ev_ret ?_) (fun c => Ev.bind (Bp l (by omega)) ?_))
 ·unfold Ac; rw [hb.1 c]; simp
 have hg : l.all Af = true := by
  by_cases q : l.all Af = true
  ·exact q
  ·exact absurd (hb.2 (by simpa using q)) c
 have e : Ac l = decide (Es l 0 ≤ 300 ∧ FX l 0 ≤ 300) := by unfold Ac; rw [hg, decide_eq_true (by omega : l.length ≤ 60)]; rfl
 rw [e]
 exact ev_if (fun h => ev_ret (decide_eq_decide.2 (by constructor <;> intro q; exact ⟨h, q⟩; exact q.2))) (fun h => ev_ret (by rw [decide_eq_false (fun q => h q.1)]))
theorem BD {s : ByteArray} (h : goodB (bytesOf s) = true) : s.size ≤ 300 := by
 unfold goodB at h
 rw [Bool.and_eq_true, bytesOf_length] at h
 exact of_decide_eq_true h.2
theorem AD {p : IP} (h : Af p = true) : 0 ≤ p.f0 ∧ p.f0 ≤ 300 ∧ p.f1.size ≤ 300 ∧ p.f2.size ≤ 300 ∧ (p.f0 = 0 ∨ p.f2.size = 0) := by
 unfold Af at h
 by_cases c0 : p.f0 = 0
 rotate_left
 ·rw [if_neg c0, Bool.and_eq_true, Bool.and_eq_true] at h
  obtain ⟨a, b, c⟩ := h
  have a := of_decide_eq_true a
  have b := (Aa _).1 (of_decide_eq_true b)
  have c := (Aa _).1 (by simpa using c)
  exact ⟨by omega, by omega, by omega, by omega, Or.inr c⟩
 rw [if_pos c0] at h
 by_cases c1 : p.f1.toList = ([] : List UInt8)
 ·rw [if_pos c1] at h
  rw [Aa] at c1
  by_cases c2 : p.f2.toList = ([] : List UInt8)
  ·rw [if_pos c2] at h; cases h
  rw [if_neg c2] at h
  have := BD h
  exact ⟨by omega, by omega, by omega, by omega, Or.inl c0⟩
 rw [if_neg c1] at h
 by_cases c2 : p.f2.toList = ([] : List UInt8)
 rotate_left
 ·rw [if_neg c2] at h; cases h
 rw [if_pos c2] at h
 rw [Aa] at c2
 have := BD h
 exact ⟨by omega, by omega, by omega, by omega, Or.inl c0⟩
theorem Ab {l : List IP} (h : Ac l = true) : l.length ≤ 60 ∧ (∀ p ∈ l, Af p = true) ∧ Es l 0 ≤ 300 ∧ FX l 0 ≤ 300 := by
 unfold Ac at h
 rw [Bool.and_eq_true, Bool.and_eq_true, List.all_eq_true] at h
 have a := of_decide_eq_true h.1
 have b := of_decide_eq_true h.2.2
 exact ⟨a, h.2.1, b.1, b.2⟩
theorem Ak {p : IP} (h : Af p = true) : AV p := by
 obtain ⟨a1, a2, a3, a4, a5⟩ := AD h
 refine ⟨a1, a2, a3, a4, ?_, ?_⟩
 ·unfold Af at h
  by_cases c0 : p.f0 = 0
  ·exact .inl c0
  rw [if_neg c0, Bool.and_eq_true, Bool.and_eq_true] at h
  exact .inr ⟨(Aa _).1 (of_decide_eq_true h.2.1), a5.resolve_left c0⟩
 unfold Af at h
 by_cases c0 : p.f0 = 0
 rotate_left
 ·exact .inr (a5.resolve_left c0)
 rw [if_pos c0] at h
 by_cases c1 : p.f1.toList = ([] : List UInt8)
 ·exact .inl ((Aa _).1 c1)
 rw [if_neg c1] at h
 by_cases c2 : p.f2.toList = ([] : List UInt8)
 rotate_left
 ·rw [if_neg c2] at h; cases h
 exact .inr ((Aa _).1 c2)
def Ag : List IP → List Int
 | [] => []
 | p :: r => (List.replicate p.f0.toNat 0 ++ bytesOf p.f2) ++ Ag r
theorem BR : ∀ (l : List IP), (∀ p ∈ l, Af p = true) → (Ag l).length ≤ 600 * l.length
 | [], _ => by simp [Ag]
 | p :: r, h => by
  obtain ⟨f1, f2, f3, f4, f5⟩ := AD (h p (List.mem_cons_self ..))
  have := BR r (fun x hx => h x (List.mem_cons_of_mem _ hx))
  simp only [Ag, List.length_append, List.length_replicate, bytesOf_length, List.length_cons]
  omega
abbrev Bh := ByteArray × ByteArray × Int
def Ah (l : List Bh) : List Pt := l.flatMap (fun s => endL s.1 s.2.1 ++ [(s.2.2, (⟨#[]⟩ : ByteArray), (⟨#[]⟩ : ByteArray))])
def Bb (l : List Bh) : List Int := l.flatMap (fun s => bytesOf s.2.1 ++ List.replicate s.2.2.toNat 0)
theorem A4 (a b : List Bh) : Ah (a ++ b) = Ah a ++ Ah b := by simp [Ah]
theorem C0 (a b : List Bh) : Bb (a ++ b) = Bb a ++ Bb b := by simp [Bb]
theorem Aw (s : Bh) (b : List Bh) : Ah (s :: b) = endL s.1 s.2.1 ++ (s.2.2, (⟨#[]⟩ : ByteArray), (⟨#[]⟩ : ByteArray)) :: Ah b := by simp [Ah]
theorem Bz (s : Bh) (b : List Bh) : Bb (s :: b) = bytesOf s.2.1 ++ (List.replicate s.2.2.toNat 0 ++ Bb b) := by simp [Bb]
theorem Bi (a b : ByteArray) : bytesOf (a ++ b) = bytesOf a ++ bytesOf b := by unfold bytesOf; rw [ByteArray.data_append]; simp
theorem F0 (a b : List IP) : Ag (a ++ b) = Ag a ++ Ag b := by
 induction a with
 | nil => rfl
 | cons p r ih => rw [List.cons_append, Ag, Ag, ih]; simp only [List.append_assoc]
theorem AO {s : ByteArray} (h : s.size = 0) : bytesOf s = [] := by
 rw [← List.length_eq_zero_iff, bytesOf_length]; exact h
def NZ (s : ByteArray) : Prop := ∀ x ∈ bytesOf s, x ≠ 0
structure SegOk (n : Nat) (s : Bh) : Prop where
 put : s.1.size ≤ 300 * n
 drop : s.2.1.size ≤ 300 * n
 nz : NZ s.2.1
 pos : 0 < s.2.2
 top : s.2.2 ≤ 300 * (n : Int)
theorem SegOk.more {n : Nat} {s : Bh} (h : SegOk n s) : SegOk (n + 1) s := by
 obtain ⟨a, b, c, d, e⟩ := h
 exact ⟨by omega, by omega, c, d, by omega⟩
structure SegIs (n : Nat) (l : List IP) (s : List Pt × ByteArray × ByteArray) (g : List Bh) : Prop where
 flat : s.1 = Ah g
 ok : ∀ x ∈ g, SegOk n x
 put : s.2.1.size ≤ 300 * n
 drop : s.2.2.size ≤ 300 * n
 nz : NZ s.2.2
 bytes : Bb g ++ bytesOf s.2.2 = Ag l
 len : g.length ≤ n
theorem D4 (L : List Pt) (a b : ByteArray) (x : Int) (h : a.size ≠ 0 ∨ b.size ≠ 0) : keepA (L ++ endL a b) x = L ++ (endL a b ++ [(x, (⟨#[]⟩ : ByteArray), (⟨#[]⟩ : ByteArray))]) := by
 have z : ∀ (M : List Pt) (q : Pt), q.1 = 0 → keepA (M ++ [q]) x = M ++ ([q] ++ [(x, (⟨#[]⟩ : ByteArray), (⟨#[]⟩ : ByteArray))]) := fun M q hq => by rw [Ch, if_neg (by omega)]; rfl
 by_cases ha : a.size = 0
 ·have hb : b.size ≠ 0 := by omega
  rw [AW ha hb]; exact z L _ rfl
 by_cases hb : b.size = 0
 ·rw [A0 ha hb]; exact z L _ rfl
 rw [AK ha hb]
 have := z (L ++ [(0, a, ⟨#[]⟩)]) (0, ⟨#[]⟩, b) rfl
 rw [List.append_assoc, List.append_assoc] at this
 exact this
theorem Hf (n : Nat) (l : List IP) (s : List Pt × ByteArray × ByteArray) (g : List Bh) (p : IP) (hn : n ≤ 1000) (h : SegIs n l s g) (hp : AV p) (hz : NZ p.f2) : ∃ g', SegIs (n + 1) (l ++ [p]) (takeP s (toP p)) g' := by
 obtain ⟨L, a, b⟩ := s
 obtain ⟨p0, p1, p2⟩ := p
 obtain ⟨s1, s2, s3, s4, s5, s6, s7⟩ := h
 obtain ⟨q1, q2, q3, q4, q5, q6⟩ := hp
 simp only at s1 s2 s3 s4 s5 s6 s7 q1 q2 q3 q4 q5 q6 hz
 have hdl : Ag (l ++ [⟨p0, p1, p2⟩]) = Ag l ++ (List.replicate p0.toNat 0 ++ bytesOf p2) := by rw [F0]; simp [Ag]
 by_cases h0 : p0 = 0
 ·subst h0
  have et : takeP (L, a, b) (toP ⟨0, p1, p2⟩) = (L, a ++ p1, b ++ p2) := rfl
  rw [et]
  refine ⟨g, s1, fun x hx => (s2 x hx).more, by show (a ++ p1).size ≤ _; rw [Am]; omega, by show (b ++ p2).size ≤ _; rw [Am]; omega, ?_, ?_, by omega⟩
  ·intro x hx
   rw [Bi] at hx
   exact (List.mem_append.1 hx).elim (s5 x) (hz x)
  show Bb g ++ bytesOf (b ++ p2) = _
  rw [hdl, Bi, ← List.append_assoc, s6]; simp
 obtain ⟨h1, h2⟩ := q5.resolve_left h0
 have hk : keepS L a b p0 = (keepA (L ++ endL a b) p0, ⟨#[]⟩, ⟨#[]⟩) := by unfold keepS; rw [if_neg h0]
 have et : takeP (L, a, b) (toP ⟨p0, p1, p2⟩) = (keepA (L ++ endL a b) p0, ⟨#[]⟩, ⟨#[]⟩) := by
  unfold takeP toP
  simp only [hk]
  rw [Ao h1, Ao h2, A2]
 have e2 : bytesOf p2 = [] := AO h2
 have e3 : bytesOf (⟨#[]⟩ : ByteArray) = [] := AO rfl
 have nz0 : NZ (⟨#[]⟩ : ByteArray) := fun x hx => by rw [e3] at hx; cases hx
 rw [et]
 by_cases hab : a.size = 0 ∧ b.size = 0
 rotate_left
 ·rw [D4 L a b p0 (by omega)]
  refine ⟨g ++ [(a, b, p0)], ?_, ?_, Nat.zero_le _, Nat.zero_le _, nz0, ?_, by simp; omega⟩
  ·show L ++ (endL a b ++ [(p0, (⟨#[]⟩ : ByteArray), (⟨#[]⟩ : ByteArray))]) = Ah (g ++ [(a, b, p0)])
   rw [A4, Aw, ← s1]; rfl
  ·intro x hx
   rcases List.mem_append.1 hx with hx | hx
   ·exact (s2 x hx).more
   rw [List.mem_singleton.1 hx]
   exact ⟨by simp only; omega, by simp only; omega, s5, by simp only; omega, by simp only; omega⟩
  show Bb (g ++ [(a, b, p0)]) ++ bytesOf (⟨#[]⟩ : ByteArray) = _
  rw [hdl, ← s6, C0, Bz, e2, e3]; simp [Bb]
 obtain ⟨ha, hb⟩ := hab
 rw [AO hb, List.append_nil] at s6
 have eL : L ++ endL a b = Ah g := by rw [Ax ha hb, List.append_nil, s1]
 rw [eL]
 rcases List.eq_nil_or_concat g with e | ⟨g0, s0, e⟩
 ·subst e
  refine ⟨[(⟨#[]⟩, ⟨#[]⟩, p0)], ?_, ?_, Nat.zero_le _, Nat.zero_le _, nz0, ?_, by simp⟩
  ·show keepA (Ah []) p0 = Ah [(⟨#[]⟩, ⟨#[]⟩, p0)]
   rw [Aw, Ax BW BW]; rfl
  ·intro x hx
   rw [List.mem_singleton.1 hx]
   exact ⟨Nat.zero_le _, Nat.zero_le _, nz0, by simp only; omega, by simp only; omega⟩
  show Bb [(⟨#[]⟩, ⟨#[]⟩, p0)] ++ bytesOf (⟨#[]⟩ : ByteArray) = _
  rw [hdl, ← s6, Bz, e2, e3]; simp [Bb]
 subst e
 obtain ⟨u0, v0, k0⟩ := s0
 have o0 := s2 (u0, v0, k0) (by simp)
 have ek : wrap64 (k0 + p0) = k0 + p0 := by have := o0.pos; have := o0.top; simp only at *; exact wrap_id (by omega) (by omega)
 refine ⟨g0 ++ [(u0, v0, k0 + p0)], ?_, ?_, Nat.zero_le _, Nat.zero_le _, nz0, ?_, by simp at s7 ⊢; omega⟩
 ·show keepA (Ah (g0.concat (u0, v0, k0))) p0 = Ah (g0 ++ [(u0, v0, k0 + p0)])
  rw [List.concat_eq_append, A4, A4, Aw, Aw]
  have : Ah g0 ++ (endL u0 v0 ++ (k0, (⟨#[]⟩ : ByteArray), (⟨#[]⟩ : ByteArray)) :: Ah []) = (Ah g0 ++ endL u0 v0) ++ [(k0, (⟨#[]⟩ : ByteArray), (⟨#[]⟩ : ByteArray))] := by rw [List.append_assoc]; rfl
  rw [this, Ch, if_pos o0.pos, ek, List.append_assoc]; rfl
 ·intro x hx
  rcases List.mem_append.1 hx with hx | hx
  ·exact (s2 x (by simp [hx])).more
  rw [List.mem_singleton.1 hx]
  obtain ⟨a1, a2, a3, a4, a5⟩ := o0
  simp only at a1 a2 a3 a4 a5
  exact ⟨by simp only; omega, by simp only; omega, a3, by simp only; omega, by simp only; omega⟩
 show Bb (g0 ++ [(u0, v0, k0 + p0)]) ++ bytesOf (⟨#[]⟩ : ByteArray) = _
 have hpos := o0.pos
 simp only at hpos
 have er : List.replicate (k0 + p0).toNat (0 : Int) = List.replicate k0.toNat 0 ++ List.replicate p0.toNat 0 := by
  rw [List.replicate_append_replicate]; congr 1; omega
 rw [List.concat_eq_append] at s6
 rw [hdl, ← s6, C0, C0, Bz, Bz, e2, e3, er]; simp [Bb]
theorem FK {p : IP} (h : Af p = true) : NZ p.f2 := by
 intro x hx
 have hg : goodB (bytesOf p.f2) = true := by
  unfold Af at h
  by_cases c0 : p.f0 = 0
  ·rw [if_pos c0] at h
   by_cases c1 : p.f1.toList = ([] : List UInt8)
   ·rw [if_pos c1] at h
    by_cases c2 : p.f2.toList = ([] : List UInt8)
    ·rw [if_pos c2] at h; cases h
    ·rw [if_neg c2] at h; exact h
   ·rw [if_neg c1] at h
    by_cases c2 : p.f2.toList = ([] : List UInt8)
    ·rw [AO ((Aa _).1 c2)] at hx; cases hx
    ·rw [if_neg c2] at h; cases h
  ·rw [if_neg c0, Bool.and_eq_true, Bool.and_eq_true] at h
   have := (Aa _).1 (by simpa using h.2.2)
   rw [AO this] at hx; cases hx
 unfold goodB textB at hg
 rw [Bool.and_eq_true, List.all_eq_true] at hg
 have := hg.1 x hx
 unfold okB openB plainB at this
 simp only [Bool.or_eq_true, decide_eq_true_eq] at this
 omega
theorem FR (l : List IP) (hl : l.length ≤ 60) (hp : ∀ p ∈ l, Af p = true) : ∀ i, i ≤ l.length → ∃ g, SegIs i (l.take i) (stN l i) g
 | 0, _ => by
  have e0 : stN l 0 = ([], (⟨#[]⟩ : ByteArray), (⟨#[]⟩ : ByteArray)) := rfl
  have e3 : bytesOf (⟨#[]⟩ : ByteArray) = [] := AO rfl
  rw [e0]
  refine ⟨[], rfl, ?_, Nat.le_refl _, Nat.le_refl _, ?_, ?_, Nat.le_refl _⟩
  ·intro x hx; cases hx
  ·intro x hx
   rw [e3] at hx; cases hx
  ·show Bb [] ++ bytesOf (⟨#[]⟩ : ByteArray) = _
   rw [e3]; rfl
 | i + 1, h => by
  obtain ⟨g, hg⟩ := FR l hl hp i (by omega)
  have hm := hp _ (List.getElem_mem (show i < l.length by omega))
  obtain ⟨g', hg'⟩ := Hf i (l.take i) (stN l i) g (l[i]'(by omega)) (by omega) hg (Ak hm) (FK hm)
  rw [stN_succ l i (by omega), List.take_succ_eq_append_getElem (by omega)]
  exact ⟨g', hg'⟩
theorem D9 (l : List IP) (hl : l.length ≤ 60) (hp : ∀ p ∈ l, Af p = true) : ∃ (g : List Bh) (a b : ByteArray), Ad l = (Ah g ++ endL a b).map ofP ∧ (∀ x ∈ g, SegOk 60 x) ∧ a.size ≤ 18000 ∧ b.size ≤ 18000 ∧ NZ b ∧ Bb g ++ bytesOf b = Ag l ∧ g.length ≤ 60 := by
 obtain ⟨g, s1, s2, s3, s4, s5, s6, s7⟩ := FR l hl hp l.length (Nat.le_refl _)
 have e : stN l l.length = (l.map toP).foldl takeP ([], ⟨#[]⟩, ⟨#[]⟩) := by unfold stN; rw [List.take_of_length_le (Nat.le_refl _)]
 rw [List.take_of_length_le (Nat.le_refl _)] at s6
 refine ⟨g, (stN l l.length).2.1, (stN l l.length).2.2, ?_, fun x hx => ?_, by omega, by omega, s5, s6, by omega⟩
 ·unfold Ad normP; rw [← e, s1]
 obtain ⟨a1, a2, a3, a4, a5⟩ := s2 x hx
 exact ⟨by omega, by omega, a3, a4, by omega⟩
theorem Id (pre suf : List IP) (p : IP) : gt A9 (pre ++ p :: suf) pre.length = p := by
 unfold gt; rw [List.getD_eq_getElem?_getD, List.getElem?_append_right (Nat.le_refl _)]; simp
abbrev E0 : ByteArray := ⟨#[]⟩
def nP (p : IP) : Nat := p.f0.toNat + p.f2.size
def Au : List IP → Nat
 | [] => 0
 | p :: r => nP p + Au r
theorem G7 {p : IP} (h : Af p = true) : nP p ≤ 600 := by
 obtain ⟨f1, f2, f3, f4, f5⟩ := AD h
 unfold nP; omega
theorem FI {p : IP} (h : Af p = true) : wrap64 (p.f0 + (p.f2.size : Int)) = (nP p : Int) := by
 obtain ⟨f1, f2, f3, f4, f5⟩ := AD h
 rw [wrap_id (by omega) (by omega)]; unfold nP; omega
theorem Fb : ∀ (l : List IP), (∀ p ∈ l, Af p = true) → ∀ a : Nat, a + 600 * l.length ≤ 4611686018427387904 → Es l (a : Int) = ((a + Au l : Nat) : Int)
 | [], _, a, _ => by simp [Es, Au]
 | p :: r, h, a, hb => by
  have hp := h p (List.mem_cons_self ..)
  have hn := G7 hp
  rw [List.length_cons] at hb
  unfold Es Au
  rw [FI hp, show wrap64 ((a : Int) + (nP p : Int)) = ((a + nP p : Nat) : Int) by rw [wrap_id (by omega) (by omega)]; omega, Fb r (fun x hx => h x (List.mem_cons_of_mem _ hx)) (a + nP p) (by omega), Nat.add_assoc]
def Eu : List IP → ByteArray → ByteArray → ByteArray × Bool
 | [], _, o => (o, true)
 | p :: r, s, o => if (s.extract 0 p.f2.size).toList = p.f2.toList then Eu r (s.extract (nP p) s.size) (o ++ (s.extract 0 p.f0.toNat ++ p.f1)) else (E0, false)
theorem Cc (s : ByteArray) (a b : Nat) : (s.extract a b).size = min b s.size - a := by simp
theorem II {b c : Nat} (h1 : b ≤ 300) (h2 : c ≤ 300) : b + c ≤ 9223372036854775807 := by omega
theorem IG {i a b c : Nat} (h0 : a ≤ 1000 * i) (h1 : b ≤ 300) (h2 : c ≤ 300) (h3 : i ≤ 60) : a + (b + c) ≤ 9223372036854775807 := by omega
theorem IJ {i a b c : Nat} (h0 : a ≤ 1000 * i) (h1 : b ≤ 300) (h2 : c ≤ 300) : a + (b + c) ≤ 1000 * (i + 1) := by omega
theorem Iu {f : Int} {n t s g : Nat} (h : s = n + t) (hd : n = f.toNat + g) (f1 : 0 ≤ f) : f ≤ (s : Int) ∧ (n : Int) ≤ (s : Int) ∧ (g : Int) ≤ (s : Int) := by omega
theorem HV (s : ByteArray) (n : Nat) (h : n = 0) : s.extract 0 n = E0 := by subst h; simp [E0]; rfl
theorem B8 (x : ByteArray) : E0 ++ x = x := ByteArray.empty_append
def Cu (l : List IP) (s : ByteArray) : ByteArray × Bool := if Ac l = true then (if goodB (bytesOf s) = true then (if s.size = Au l then (if (Eu l s E0).2 = true then Eu l s E0 else (E0, false)) else (E0, false)) else (E0, false)) else (E0, false)
theorem Gd : ∀ (l : List IP) (s o : ByteArray), (Eu l s o).2 = false → Eu l s o = (E0, false)
 | [], s, o, h => by unfold Eu at h; cases h
 | p :: r, s, o, h => by
  unfold Eu at h ⊢
  by_cases e : (s.extract 0 p.f2.size).toList = p.f2.toList
  ·rw [if_pos e] at h ⊢; exact Gd r _ _ h
  ·rw [if_neg e]
def D6 (x : IP) : IP := ⟨x.f0, x.f2, x.f1⟩
abbrev GS := List Bh × ByteArray × ByteArray
def Be (g : List Bh) (a b : ByteArray) (k : Int) : List Bh :=
 if a.size = 0 ∧ b.size = 0 then (match g.getLast? with | some s => g.dropLast ++ [(s.1, s.2.1, s.2.2 + k)] | none => [(a, b, k)]) else g ++ [(a, b, k)]
def Aj (s : GS) (p : IP) : GS := if p.f0 = 0 then (s.1, s.2.1 ++ p.f1, s.2.2 ++ p.f2) else (Be s.1 s.2.1 s.2.2 p.f0, ⟨#[]⟩, ⟨#[]⟩)
def Bd (l : List IP) : GS := l.foldl Aj ([], ⟨#[]⟩, ⟨#[]⟩)
theorem AL {a b : ByteArray} (h : a.size = 0 ∧ b.size = 0) (k : Int) : Be [] a b k = [(a, b, k)] := by unfold Be; rw [if_pos h]; rfl
theorem Aq {a b : ByteArray} (h : a.size = 0 ∧ b.size = 0) (g : List Bh) (s : Bh) (k : Int) : Be (g ++ [s]) a b k = g ++ [(s.1, s.2.1, s.2.2 + k)] := by
 unfold Be; rw [if_pos h]; simp
theorem AG {a b : ByteArray} (h : ¬ (a.size = 0 ∧ b.size = 0)) (g : List Bh) (k : Int) : Be g a b k = g ++ [(a, b, k)] := by unfold Be; rw [if_neg h]
def Gc (B : Int) (g : List Bh) : Prop := ∀ x ∈ g, 0 < x.2.2 ∧ x.2.2 ≤ B
theorem Gy {B : Int} {g : List Bh} (h : Gc B g) (hB : 0 ≤ B) (a b : ByteArray) (k : Int) (hk : 0 < k) (hk2 : k ≤ 300) : Gc (B + 300) (Be g a b k) := by
 have h' : Gc (B + 300) g := fun x hx => by have := h x hx; omega
 have hn : ∀ u v : ByteArray, 0 < (u, v, k).2.2 ∧ (u, v, k).2.2 ≤ B + 300 := fun u v => by dsimp only; omega
 by_cases c : a.size = 0 ∧ b.size = 0
 rotate_left
 ·rw [AG c]
  intro x hx
  rcases List.mem_append.1 hx with q | q
  ·exact h' x q
  rw [List.mem_singleton.1 q]; exact hn _ _
 rcases List.eq_nil_or_concat g with e | ⟨g0, s0, e⟩
 ·subst e
  rw [AL c]
  intro x hx; rw [List.mem_singleton.1 hx]; exact hn _ _
 rw [List.concat_eq_append] at e
 subst e
 rw [Aq c]
 intro x hx
 rcases List.mem_append.1 hx with q | q
 ·exact h' x (List.mem_append_left _ q)
 rw [List.mem_singleton.1 q]
 have := h s0 (by simp)
 dsimp only; omega
theorem Gn {B : Int} {g : List Bh} (h : Gc B g) (hB : 0 ≤ B) (hB2 : B ≤ 1000000000) (a b : ByteArray) (p : IP) (hp : AV p) :
  takeP (Ah g, a, b) (toP p) = (Ah (Aj (g, a, b) p).1, (Aj (g, a, b) p).2) ∧ Gc (B + 300) (Aj (g, a, b) p).1 := by
 obtain ⟨p0, p1, p2⟩ := p
 obtain ⟨q1, q2, q3, q4, q5, q6⟩ := hp
 simp only at q1 q2 q3 q4 q5 q6
 by_cases h0 : p0 = 0
 ·subst h0
  exact ⟨rfl, fun x hx => by have := h x hx; omega⟩
 obtain ⟨h1, h2⟩ := q5.resolve_left h0
 have es : Aj (g, a, b) ⟨p0, p1, p2⟩ = (Be g a b p0, ⟨#[]⟩, ⟨#[]⟩) := by unfold Aj; rw [if_neg h0]
 have hk : keepS (Ah g) a b p0 = (keepA (Ah g ++ endL a b) p0, ⟨#[]⟩, ⟨#[]⟩) := by unfold keepS; rw [if_neg h0]
 have et : takeP (Ah g, a, b) (toP ⟨p0, p1, p2⟩) = (keepA (Ah g ++ endL a b) p0, ⟨#[]⟩, ⟨#[]⟩) := by
  unfold takeP toP
  simp only [hk]
  rw [Ao h1, Ao h2, A2]
 rw [et, es]
 refine ⟨?_, Gy h hB a b p0 (by omega) q2⟩
 congr 1
 by_cases c : a.size = 0 ∧ b.size = 0
 rotate_left
 ·rw [AG c, A4, Aw, D4 _ _ _ _ (by omega)]; rfl
 rw [Ax c.1 c.2, List.append_nil]
 rcases List.eq_nil_or_concat g with e | ⟨g0, s0, e⟩
 ·subst e
  rw [AL c, Aw, Ax c.1 c.2]; rfl
 rw [List.concat_eq_append] at e
 subst e
 have hs := h s0 (by simp)
 rw [Aq c, A4, A4, Aw, Aw]
 have e1 : Ah g0 ++ (endL s0.1 s0.2.1 ++ (s0.2.2, (⟨#[]⟩ : ByteArray), (⟨#[]⟩ : ByteArray)) :: Ah []) = (Ah g0 ++ endL s0.1 s0.2.1) ++ [(s0.2.2, (⟨#[]⟩ : ByteArray), (⟨#[]⟩ : ByteArray))] := by rw [List.append_assoc]; rfl
 rw [e1, Ch, if_pos hs.1, wrap_id (by dsimp only; omega) (by dsimp only; omega), List.append_assoc]; rfl
theorem EV : ∀ (l : List IP) (g : List Bh) (a b : ByteArray) (B : Int), (∀ p ∈ l, AV p) → Gc B g → 0 ≤ B → B + 300 * (l.length : Int) ≤ 1000000000 →
  (l.map toP).foldl takeP (Ah g, a, b) = (Ah (l.foldl Aj (g, a, b)).1, (l.foldl Aj (g, a, b)).2) ∧ Gc (B + 300 * (l.length : Int)) (l.foldl Aj (g, a, b)).1
 | [], g, a, b, B, _, h, hB, hB2 => ⟨rfl, by simpa using h⟩
 | p :: r, g, a, b, B, hp, h, hB, hB2 => by
  rw [List.length_cons] at hB2 ⊢
  obtain ⟨e1, e2⟩ := Gn h hB (by omega) a b p (hp p (List.mem_cons_self ..))
  obtain ⟨e3, e4⟩ := EV r _ (Aj (g, a, b) p).2.1 (Aj (g, a, b) p).2.2 (B + 300) (fun x hx => hp x (List.mem_cons_of_mem _ hx)) e2 (by omega) (by omega)
  rw [List.map_cons, List.foldl_cons, e1, List.foldl_cons]
  refine ⟨e3, ?_⟩
  have : B + 300 + 300 * (r.length : Int) = B + 300 * ((r.length + 1 : Nat) : Int) := by omega
  rw [← this]; exact e4
theorem CU (l : List IP) (hl : l.length ≤ 1000) (hp : ∀ p ∈ l, AV p) : Ad l = (Ah (Bd l).1 ++ endL (Bd l).2.1 (Bd l).2.2).map ofP ∧ Gc 300000 (Bd l).1 := by
 obtain ⟨e, h⟩ := EV l [] ⟨#[]⟩ ⟨#[]⟩ 0 hp (fun x hx => by cases hx) (Int.le_refl _) (by omega)
 refine ⟨?_, fun x hx => by have := h x hx; omega⟩
 have e0 : Ah [] = [] := rfl
 rw [e0] at e
 unfold Ad normP Bd
 rw [e]
def Is (s : GS) : GS := (s.1.map (fun x => (x.2.1, x.1, x.2.2)), s.2.2, s.2.1)
theorem Iq (g : List Bh) (a b : ByteArray) (k : Int) : Be (g.map (fun x => (x.2.1, x.1, x.2.2))) b a k = (Be g a b k).map (fun x => (x.2.1, x.1, x.2.2)) := by
 by_cases c : a.size = 0 ∧ b.size = 0
 rotate_left
 ·rw [AG c, AG (fun q => c ⟨q.2, q.1⟩), List.map_append]; rfl
 have c' : b.size = 0 ∧ a.size = 0 := ⟨c.2, c.1⟩
 rcases List.eq_nil_or_concat g with e | ⟨g0, s0, e⟩
 ·subst e; rw [AL c, List.map_nil, AL c']; rfl
 rw [List.concat_eq_append] at e
 subst e
 rw [Aq c, List.map_append, List.map_append]
 exact Aq c' _ _ _
theorem HJ (s : GS) (p : IP) : Aj (Is s) (D6 p) = Is (Aj s p) := by
 unfold Aj
 by_cases h0 : p.f0 = 0
 ·rw [if_pos h0, if_pos (show (D6 p).f0 = 0 from h0)]; rfl
 rw [if_neg h0, if_neg (show ¬ (D6 p).f0 = 0 from h0)]
 show (Be (s.1.map _) s.2.2 s.2.1 p.f0, _) = _
 rw [Iq]; rfl
theorem Fw : ∀ (l : List IP) (s : GS), (l.map D6).foldl Aj (Is s) = Is (l.foldl Aj s)
 | [], s => rfl
 | p :: r, s => by rw [List.map_cons, List.foldl_cons, HJ, Fw r, List.foldl_cons]
theorem GG (l : List IP) : Bd (l.map D6) = Is (Bd l) := Fw l ([], ⟨#[]⟩, ⟨#[]⟩)
def Hm (g : List Bh) : Prop := ∀ x ∈ g.tail, ¬ (x.1.size = 0 ∧ x.2.1.size = 0)
theorem Dj {α : Type} {g : List α} (h : g ≠ []) (r : List α) : (g ++ r).tail = g.tail ++ r := by
 cases g with
 | nil => exact absurd rfl h
 | cons a t => rfl
theorem HP {s : GS} (h : Hm s.1) (p : IP) : Hm (Aj s p).1 := by
 unfold Aj
 by_cases h0 : p.f0 = 0
 ·rw [if_pos h0]; exact h
 rw [if_neg h0]
 show Hm (Be s.1 s.2.1 s.2.2 p.f0)
 obtain ⟨g, a, b⟩ := s
 dsimp only at h ⊢
 by_cases c : a.size = 0 ∧ b.size = 0
 rotate_left
 ·rw [AG c]
  by_cases hg : g = []
  ·subst hg; intro x hx; cases hx
  unfold Hm at h ⊢
  rw [Dj hg]
  intro x hx
  rcases List.mem_append.1 hx with q | q
  ·exact h x q
  rw [List.mem_singleton.1 q]; exact c
 rcases List.eq_nil_or_concat g with e | ⟨g0, s0, e⟩
 ·subst e; rw [AL c]; intro x hx; cases hx
 rw [List.concat_eq_append] at e
 subst e
 rw [Aq c]
 by_cases hg : g0 = []
 ·subst hg; intro x hx; cases hx
 unfold Hm at h ⊢
 rw [Dj hg] at h ⊢
 intro x hx
 rcases List.mem_append.1 hx with q | q
 ·exact h x (List.mem_append_left _ q)
 rw [List.mem_singleton.1 q]; exact h s0 (by simp)
theorem FH : ∀ (l : List IP) (s : GS), Hm s.1 → Hm (l.foldl Aj s).1
 | [], s, h => h
 | p :: r, s, h => FH r _ (HP h p)
theorem GE (l : List IP) : Hm (Bd l).1 := FH l _ (fun x hx => by cases hx)
theorem EK (g : List Bh) (a b : ByteArray) : ((endL a b).map ofP).foldl Aj (g, ⟨#[]⟩, ⟨#[]⟩) = (g, a, b) := by
 have s1 : ∀ x y : ByteArray, Aj (g, x, y) (ofP (0, a, ⟨#[]⟩)) = (g, x ++ a, y) := fun x y => by
  show (g, x ++ a, y ++ (⟨#[]⟩ : ByteArray)) = _
  rw [A2]
 have s2 : ∀ x y : ByteArray, Aj (g, x, y) (ofP (0, ⟨#[]⟩, b)) = (g, x, y ++ b) := fun x y => by
  show (g, x ++ (⟨#[]⟩ : ByteArray), y ++ b) = _
  rw [A2]
 by_cases ha : a.size = 0
 ·by_cases hb : b.size = 0
  ·rw [Ax ha hb, Ao ha, Ao hb]; rfl
  rw [AW ha hb]
  show Aj (g, ⟨#[]⟩, ⟨#[]⟩) (ofP (0, ⟨#[]⟩, b)) = _
  rw [s2, Ao ha, B8]
 by_cases hb : b.size = 0
 ·rw [A0 ha hb]
  show Aj (g, ⟨#[]⟩, ⟨#[]⟩) (ofP (0, a, ⟨#[]⟩)) = _
  rw [s1, Ao hb, B8]
 rw [AK ha hb]
 show Aj (Aj (g, ⟨#[]⟩, ⟨#[]⟩) (ofP (0, a, ⟨#[]⟩))) (ofP (0, ⟨#[]⟩, b)) = _
 rw [s1, s2, B8, B8]
theorem D2 (g : List Bh) (hb : Gc 300000 g) (hw : Hm g) : ∀ (n : Nat) (h : List Bh), h.length = n → (∃ t, h ++ t = g) → ((Ah h).map ofP).foldl Aj ([], ⟨#[]⟩, ⟨#[]⟩) = (h, ⟨#[]⟩, ⟨#[]⟩)
 | 0, h, e, _ => by rw [List.length_eq_zero_iff.1 e]; rfl
 | n + 1, h, e, ⟨t, ht⟩ => by
  obtain ⟨h0, s, e'⟩ := (List.eq_nil_or_concat h).resolve_left (fun q => by rw [q] at e; cases e)
  rw [List.concat_eq_append] at e'
  subst e'
  rw [List.length_append, List.length_singleton] at e
  have ih' := D2 g hb hw n h0 (by omega) ⟨s :: t, by rw [← ht, List.append_assoc]; rfl⟩
  have hs := hb s (by rw [← ht]; simp)
  rw [A4, Aw, List.map_append, List.foldl_append, ih', List.map_append, List.foldl_append, EK]
  show Aj (h0, s.1, s.2.1) (ofP (s.2.2, ⟨#[]⟩, ⟨#[]⟩)) = _
  unfold Aj
  rw [if_neg (show ¬ (ofP (s.2.2, ⟨#[]⟩, ⟨#[]⟩)).f0 = 0 by show ¬ s.2.2 = 0; omega)]
  show (Be h0 s.1 s.2.1 s.2.2, _) = _
  by_cases hg : h0 = []
  ·subst hg
   by_cases c : s.1.size = 0 ∧ s.2.1.size = 0
   ·rw [AL c]; rfl
   ·rw [AG c]
  ·have hm : s ∈ g.tail := by rw [← ht, List.append_assoc, Dj hg]; simp
   rw [AG (hw s hm)]
theorem F5 (g : List Bh) (a b : ByteArray) (hb : Gc 300000 g) (hw : Hm g) : Bd ((Ah g ++ endL a b).map ofP) = (g, a, b) := by
 unfold Bd
 rw [List.map_append, List.foldl_append, D2 g hb hw g.length g rfl ⟨[], List.append_nil g⟩, EK]
theorem Dm (l : List IP) (hl : l.length ≤ 1000) (hp : ∀ p ∈ l, AV p) : Bd (Ad l) = Bd l := by
 obtain ⟨e, h⟩ := CU l hl hp
 rw [e]; exact F5 _ _ _ h (GE l)
theorem Dv (p : IP) : Af (D6 p) = Af p := by
 obtain ⟨p0, p1, p2⟩ := p
 unfold Af D6
 dsimp only
 by_cases h0 : p0 = 0
 ·rw [if_pos h0, if_pos h0]
  by_cases h1 : p1.toList = ([] : List UInt8)
  ·by_cases h2 : p2.toList = ([] : List UInt8)
   ·simp [h1, h2]
   simp [h1, h2]
  by_cases h2 : p2.toList = ([] : List UInt8)
  ·simp [h1, h2]
  simp [h1, h2]
 rw [if_neg h0, if_neg h0]
 by_cases h1 : p1.toList = ([] : List UInt8)
 ·by_cases h2 : p2.toList = ([] : List UInt8)
  ·simp [h1, h2]
  simp [h1, h2]
 by_cases h2 : p2.toList = ([] : List UInt8)
 ·simp [h1, h2]
 simp [h1, h2]
theorem G8 : ∀ (l : List IP) (a : Int), Es (l.map D6) a = FX l a
 | [], a => rfl
 | p :: r, a => by rw [List.map_cons]; unfold Es FX; exact G8 r _
theorem A3 (p : IP) (r : List IP) : Au (p :: r) = nP p + Au r := rfl
theorem Gw : Au [] = 0 := rfl
theorem Ar : ∀ (a b : List IP), Au (a ++ b) = Au a + Au b
 | [], b => by rw [List.nil_append, Gw]; omega
 | p :: r, b => by rw [List.cons_append, A3, A3, Ar r b]; omega
def El (g : List Bh) : List IP := (Ah g).map ofP
def FG (a b : ByteArray) : List IP := (endL a b).map ofP
theorem BZ (g h : List Bh) : El (g ++ h) = El g ++ El h := by unfold El; rw [A4, List.map_append]
theorem BG (s : Bh) : El [s] = FG s.1 s.2.1 ++ [⟨s.2.2, ⟨#[]⟩, ⟨#[]⟩⟩] := by unfold El FG; rw [Aw, List.map_append]; rfl
theorem Cy (a b : ByteArray) : Au (FG a b) = b.size := by
 unfold FG
 by_cases ha : a.size = 0
 ·by_cases hb : b.size = 0
  ·rw [Ax ha hb, hb]; rfl
  rw [AW ha hb]; show (0 : Int).toNat + b.size + 0 = _; omega
 by_cases hb : b.size = 0
 ·rw [A0 ha hb, hb]; rfl
 rw [AK ha hb]; show (0 : Int).toNat + 0 + ((0 : Int).toNat + b.size + 0) = _; omega
theorem Ew (a b : ByteArray) : Au ((FG a b).map D6) = a.size := by
 unfold FG
 by_cases ha : a.size = 0
 ·by_cases hb : b.size = 0
  ·rw [Ax ha hb, ha]; rfl
  rw [AW ha hb, ha]; rfl
 by_cases hb : b.size = 0
 ·rw [A0 ha hb]; show (0 : Int).toNat + a.size + 0 = _; omega
 rw [AK ha hb]; show (0 : Int).toNat + a.size + ((0 : Int).toNat + 0 + 0) = _; omega
theorem BS (k : Int) : Au [⟨k, ⟨#[]⟩, ⟨#[]⟩⟩] = k.toNat := by show k.toNat + 0 + 0 = _; omega
theorem Fo (a b : ByteArray) : (FG a b).length = (if a.size = 0 then 0 else 1) + (if b.size = 0 then 0 else 1) := by
 unfold FG
 rw [List.length_map]
 by_cases ha : a.size = 0
 ·by_cases hb : b.size = 0
  ·rw [Ax ha hb, if_pos ha, if_pos hb]; rfl
  rw [AW ha hb, if_pos ha, if_neg hb]; rfl
 by_cases hb : b.size = 0
 ·rw [A0 ha hb, if_neg ha, if_pos hb]; rfl
 rw [AK ha hb, if_neg ha, if_neg hb]; rfl
theorem Hn {B : Int} {g : List Bh} (h : Gc B g) (a b : ByteArray) (k : Int) (hk : 0 < k) : Au (El (Be g a b k)) = Au (El g) + b.size + k.toNat ∧ (El (Be g a b k)).length ≤ (El g).length + (FG a b).length + 1 := by
 by_cases c : a.size = 0 ∧ b.size = 0
 rotate_left
 ·rw [AG c, BZ, BG, Ar, Ar, Cy, BS]
  refine ⟨by dsimp only; omega, ?_⟩
  simp only [List.length_append, List.length_singleton]; omega
 rcases List.eq_nil_or_concat g with e | ⟨g0, s0, e⟩
 ·subst e
  rw [AL c, BG, Ar, Cy, BS, List.length_append]
  refine ⟨?_, ?_⟩
  ·show b.size + k.toNat = 0 + b.size + k.toNat; omega
  show _ ≤ 0 + _ + _; simp only [List.length_singleton]; omega
 rw [List.concat_eq_append] at e
 subst e
 have hs := (h s0 (by simp)).1
 rw [Aq c, BZ, BZ, BG, BG, Ar, Ar, Ar, Ar, BS, BS]
 refine ⟨by dsimp only; omega, ?_⟩
 simp only [List.length_append, List.length_singleton]; omega
def DF (s : ByteArray) : Prop := textB (bytesOf s) = true
theorem De {a b : ByteArray} (ha : DF a) (hb : DF b) : DF (a ++ b) := by
 unfold DF textB at ha hb ⊢
 rw [Bi, List.all_append, ha, hb]; rfl
theorem Bm {a : ByteArray} (h : a.size = 0) : DF a := by unfold DF; rw [AO h]; rfl
theorem Dg {s : ByteArray} (h : goodB (bytesOf s) = true) : DF s := by
 unfold goodB at h; rw [Bool.and_eq_true] at h; exact h.1
theorem EY {s : ByteArray} (h : DF s) (hs : s.size ≤ 300) : goodB (bytesOf s) = true := by
 unfold goodB; rw [Bool.and_eq_true, bytesOf_length]; exact ⟨h, decide_eq_true hs⟩
theorem FE {p : IP} (h : Af p = true) : DF p.f1 ∧ DF p.f2 := by
 unfold Af at h
 by_cases c0 : p.f0 = 0
 rotate_left
 ·rw [if_neg c0, Bool.and_eq_true, Bool.and_eq_true] at h
  exact ⟨Bm ((Aa _).1 (of_decide_eq_true h.2.1)), Bm ((Aa _).1 (by simpa using h.2.2))⟩
 rw [if_pos c0] at h
 by_cases c1 : p.f1.toList = ([] : List UInt8)
 ·rw [if_pos c1] at h
  by_cases c2 : p.f2.toList = ([] : List UInt8)
  ·rw [if_pos c2] at h; cases h
  rw [if_neg c2] at h; exact ⟨Bm ((Aa _).1 c1), Dg h⟩
 rw [if_neg c1] at h
 by_cases c2 : p.f2.toList = ([] : List UInt8)
 rotate_left
 ·rw [if_neg c2] at h; cases h
 rw [if_pos c2] at h; exact ⟨Dg h, Bm ((Aa _).1 c2)⟩
structure GI (n : Nat) (T : Nat) (s : GS) : Prop where
 bd : Gc (300 * (n : Int)) s.1
 sum : Au (El s.1) + s.2.2.size = T
 len : (El s.1).length + (FG s.2.1 s.2.2).length ≤ n
 txt : ∀ x ∈ s.1, DF x.1 ∧ DF x.2.1
 txa : DF s.2.1
 txb : DF s.2.2
theorem HL {n T : Nat} {s : GS} (h : GI n T s) (p : IP) (hg : Af p = true) : GI (n + 1) (T + nP p) (Aj s p) := by
 obtain ⟨g, a, b⟩ := s
 obtain ⟨i1, i2, i3, i4, i5, i6⟩ := h
 obtain ⟨q1, q2, q3, q4, q5, q6⟩ := Ak hg
 obtain ⟨t1, t2⟩ := FE hg
 dsimp only at i1 i2 i3 i4 i5 i6
 have hn : nP p = p.f0.toNat + p.f2.size := rfl
 by_cases h0 : p.f0 = 0
 ·have e : Aj (g, a, b) p = (g, a ++ p.f1, b ++ p.f2) := by unfold Aj; rw [if_pos h0]
  rw [e]
  refine ⟨fun x hx => by have := i1 x hx; omega, ?_, ?_, i4, De i5 t1, De i6 t2⟩
  ·dsimp only; rw [Am]; omega
  dsimp only
  rw [Fo] at i3 ⊢
  rw [Am, Am]
  rcases q6 with c | c
  ·rw [c, Nat.add_zero]
   split <;> split <;> split at i3 <;> omega
  rw [c, Nat.add_zero]
  split <;> split <;> split at i3 <;> omega
 obtain ⟨h1, h2⟩ := q5.resolve_left h0
 have e : Aj (g, a, b) p = (Be g a b p.f0, ⟨#[]⟩, ⟨#[]⟩) := by unfold Aj; rw [if_neg h0]
 rw [e]
 obtain ⟨u1, u2⟩ := Hn i1 a b p.f0 (by omega)
 have e0 : (FG (⟨#[]⟩ : ByteArray) (⟨#[]⟩ : ByteArray)).length = 0 := by rw [Fo]; rfl
 refine ⟨?_, ?_, ?_, ?_, Bm rfl, Bm rfl⟩
 ·have := Gy i1 (by omega) a b p.f0 (by omega) q2
  intro x hx; have := this x hx; omega
 ·dsimp only; rw [u1, BW]; omega
 ·dsimp only; rw [e0]; omega
 dsimp only
 by_cases c : a.size = 0 ∧ b.size = 0
 rotate_left
 ·rw [AG c]
  intro x hx
  rcases List.mem_append.1 hx with q | q
  ·exact i4 x q
  rw [List.mem_singleton.1 q]; exact ⟨i5, i6⟩
 rcases List.eq_nil_or_concat g with e | ⟨g0, s0, e⟩
 ·subst e
  rw [AL c]
  intro x hx; rw [List.mem_singleton.1 hx]; exact ⟨i5, i6⟩
 rw [List.concat_eq_append] at e
 subst e
 rw [Aq c]
 intro x hx
 rcases List.mem_append.1 hx with q | q
 ·exact i4 x (List.mem_append_left _ q)
 rw [List.mem_singleton.1 q]; exact i4 s0 (by simp)
theorem FU : ∀ (l : List IP) (n T : Nat) (s : GS), (∀ p ∈ l, Af p = true) → GI n T s → GI (n + l.length) (T + Au l) (l.foldl Aj s)
 | [], n, T, s, _, h => h
 | p :: r, n, T, s, hp, h => by
  have := FU r (n + 1) (T + nP p) (Aj s p) (fun x hx => hp x (List.mem_cons_of_mem _ hx)) (HL h p (hp p (List.mem_cons_self ..)))
  rw [List.foldl_cons, List.length_cons, A3]
  rw [show n + (r.length + 1) = n + 1 + r.length by omega, show T + (nP p + Au r) = T + nP p + Au r by omega]; exact this
theorem Gs (l : List IP) (hp : ∀ p ∈ l, Af p = true) : GI l.length (Au l) (Bd l) := by
 have := FU l 0 0 ([], ⟨#[]⟩, ⟨#[]⟩) hp ⟨fun x hx => (by cases hx), rfl, by rw [Fo]; exact Nat.le_refl _, fun x hx => (by cases hx), Bm rfl, Bm rfl⟩
 rw [Nat.zero_add, Nat.zero_add] at this
 exact this
theorem CV {u : ByteArray} (h : u.size ≠ 0) (ht : DF u) (hs : u.size ≤ 300) : Af ⟨0, u, ⟨#[]⟩⟩ = true := by
 unfold Af
 dsimp only
 rw [if_pos rfl, if_neg (fun e => h ((Aa _).1 e)), if_pos ((Aa _).2 BW)]
 exact EY ht hs
theorem DI {u : ByteArray} (h : u.size ≠ 0) (ht : DF u) (hs : u.size ≤ 300) : Af ⟨0, ⟨#[]⟩, u⟩ = true := by
 rw [← Dv]; exact CV h ht hs
theorem Fh {k : Int} (h : 1 ≤ k) (h2 : k ≤ 300) : Af ⟨k, ⟨#[]⟩, ⟨#[]⟩⟩ = true := by
 unfold Af
 dsimp only
 have e := (Aa (⟨#[]⟩ : ByteArray)).2 BW
 rw [if_neg (by omega), decide_eq_true (show 1 ≤ k ∧ k ≤ 300 from ⟨h, h2⟩), decide_eq_true e]
 simp [e]
theorem ER {a b : ByteArray} (ha : DF a) (hb : DF b) (sa : a.size ≤ 300) (sb : b.size ≤ 300) : ∀ p ∈ FG a b, Af p = true := by
 intro p hp
 unfold FG at hp
 by_cases za : a.size = 0
 ·by_cases zb : b.size = 0
  ·rw [Ax za zb] at hp; cases hp
  rw [AW za zb] at hp; rw [List.mem_singleton.1 hp]; exact DI zb hb sb
 by_cases zb : b.size = 0
 ·rw [A0 za zb] at hp; rw [List.mem_singleton.1 hp]; exact CV za ha sa
 rw [AK za zb] at hp
 simp only [List.map_cons, List.map_nil, List.mem_cons, List.not_mem_nil, or_false] at hp
 rcases hp with rfl | rfl
 ·exact CV za ha sa
 exact DI zb hb sb
theorem HM {g : List Bh} {p : IP} (h : p ∈ El g) : ∃ s ∈ g, p ∈ El [s] := by
 induction g with
 | nil => cases h
 | cons s r ih =>
  rw [show s :: r = [s] ++ r from rfl, BZ] at h
  rcases List.mem_append.1 h with q | q
  ·exact ⟨s, List.mem_cons_self .., q⟩
  obtain ⟨x, hx, hp⟩ := ih q; exact ⟨x, List.mem_cons_of_mem _ hx, hp⟩
theorem FB {g : List Bh} {s : Bh} (h : s ∈ g) : Au (El [s]) ≤ Au (El g) := by
 induction g with
 | nil => cases h
 | cons x r ih =>
  rw [show x :: r = [x] ++ r from rfl, BZ, Ar]
  rcases List.mem_cons.1 h with rfl | q
  ·omega
  have := ih q; omega
theorem EN : ∀ g : List Bh, Au ((El g).map D6) = Au (El (g.map (fun x => (x.2.1, x.1, x.2.2))))
 | [] => rfl
 | s :: r => by
  rw [show s :: r = [s] ++ r from rfl, BZ, List.map_append, Ar, EN r, List.map_append, BZ, Ar]
  congr 1
  rw [BG, List.map_append, Ar, Ew, List.map_singleton, List.map_singleton, BG, Ar, Cy]; rfl
theorem Eh (l : List IP) (hp : ∀ p ∈ l, Af p = true) (hl : l.length ≤ 1000000) : Es l 0 = ((Au l : Nat) : Int) := by
 have := Fb l hp 0 (by omega)
 rw [Nat.zero_add] at this; exact this
theorem Ed (l : List IP) (hp : ∀ p ∈ l, Af p = true) (hl : l.length ≤ 1000000) : FX l 0 = ((Au (l.map D6) : Nat) : Int) := by
 rw [← G8]
 exact Eh _ (fun p h => by obtain ⟨q, hq, rfl⟩ := List.mem_map.1 h; rw [Dv]; exact hp q hq) (by rw [List.length_map]; exact hl)
theorem Hc (l : List IP) (hl : l.length ≤ 1000) (hp : ∀ p ∈ l, AV p) : Ad l = El (Bd l).1 ++ FG (Bd l).2.1 (Bd l).2.2 := by
 rw [(CU l hl hp).1, List.map_append]; rfl
theorem Bf {l : List IP} (h : Ac l = true) : Ac (Ad l) = true ∧ Au (Ad l) = Au l ∧ Au ((Ad l).map D6) = Au (l.map D6) := by
 obtain ⟨hl, hp, hk, hm⟩ := Ab h
 have ho : ∀ p ∈ l, AV p := fun p h => Ak (hp p h)
 have hps : ∀ p ∈ l.map D6, Af p = true := fun p h => by obtain ⟨q, hq, rfl⟩ := List.mem_map.1 h; rw [Dv]; exact hp q hq
 obtain ⟨b1, b2, b3, b4, b5, b6⟩ := Gs l hp
 obtain ⟨_, c2, _, _, _, _⟩ := Gs (l.map D6) hps
 rw [GG] at c2
 rw [Eh l hp (by omega)] at hk
 rw [Ed l hp (by omega)] at hm
 have e := Hc l (by omega) ho
 generalize Bd l = s at b1 b2 b3 b4 b5 b6 c2 e
 obtain ⟨g, a, b⟩ := s
 unfold Is at c2
 dsimp only at b1 b2 b3 b4 b5 b6 c2 e
 have t1 : Au (Ad l) = Au l := by rw [e, Ar, Cy]; omega
 have t2 : Au ((Ad l).map D6) = Au (l.map D6) := by rw [e, List.map_append, Ar, Ew, EN]; omega
 have hpn : ∀ p ∈ Ad l, Af p = true := by
  rw [e]
  intro p hp'
  rcases List.mem_append.1 hp' with q | q
  ·obtain ⟨s, hs, hps'⟩ := HM q
   have z1 := FB hs
   have z2 := FB (List.mem_map.2 ⟨s, hs, rfl⟩ : (s.2.1, s.1, s.2.2) ∈ g.map (fun x => (x.2.1, x.1, x.2.2)))
   rw [BG, Ar, Cy, BS] at z1 z2
   dsimp only at z2
   rw [BG] at hps'
   obtain ⟨x1, x2⟩ := b4 s hs
   have x3 := (b1 s hs).1
   rcases List.mem_append.1 hps' with w | w
   ·exact ER x1 x2 (by omega) (by omega) p w
   ·rw [List.mem_singleton.1 w]; exact Fh (by omega) (by omega)
  ·exact ER b5 b6 (by omega) (by omega) p q
 have hln : (Ad l).length ≤ 60 := by rw [e, List.length_append]; omega
 refine ⟨?_, t1, t2⟩
 unfold Ac
 rw [decide_eq_true hln, List.all_eq_true.2 hpn, Eh _ hpn (by omega), Ed _ hpn (by omega), t1, t2, decide_eq_true ⟨hk, hm⟩]; rfl
def G2 : List IP → ByteArray → ByteArray → Prop
 | [], s, t => s = E0 ∧ t = E0
 | p :: r, s, t => ∃ K s' t' : ByteArray, K.size = p.f0.toNat ∧ s = K ++ (p.f2 ++ s') ∧ t = K ++ (p.f1 ++ t') ∧ G2 r s' t'
theorem G5 : ∀ (l : List IP) (s t : ByteArray), G2 l s t → G2 (l.map D6) t s
 | [], s, t, h => ⟨h.2, h.1⟩
 | p :: r, s, t, ⟨K, s', t', h1, h2, h3, h4⟩ => ⟨K, t', s', h1, h3, h2, G5 r s' t' h4⟩
theorem Du : ∀ (l : List IP) (s t : ByteArray), G2 l s t → s.size = Au l
 | [], s, t, h => by rw [h.1]; rfl
 | p :: r, s, t, ⟨K, s', t', h1, h2, h3, h4⟩ => by
  have := Du r s' t' h4
  rw [h2, Am, Am, h1, this, A3]; unfold nP; omega
theorem Ex (a b : ByteArray) : (a ++ b).extract 0 a.size = a := ByteArray.extract_append_eq_left rfl
theorem F9 (a b : ByteArray) : (a ++ b).extract a.size (a ++ b).size = b := ByteArray.extract_append_eq_right rfl (by rw [Am])
theorem ED (s : ByteArray) (n : Nat) (h : n ≤ s.size) : s = s.extract 0 n ++ s.extract n s.size := by
 have := ByteArray.extract_append_extract (a := s) (i := 0) (j := n) (k := s.size)
 rw [this]
 have e1 : min 0 n = 0 := by omega
 have e2 : max n s.size = s.size := by omega
 rw [e1, e2, ByteArray.extract_zero_size]
theorem GC : ∀ (l : List IP), (∀ p ∈ l, Af p = true) → ∀ (s t o : ByteArray), G2 l s t → Eu l s o = (o ++ t, true)
 | [], _, s, t, o, h => by unfold Eu; rw [h.2, show o ++ E0 = o from A2 o]
 | p :: r, hp, s, t, o, ⟨K, s', t', h1, h2, h3, h4⟩ => by
  obtain ⟨f1, f2, f3, f4, f5⟩ := AD (hp p (List.mem_cons_self ..))
  have hn : nP p = p.f0.toNat + p.f2.size := rfl
  have ih := fun o => GC r (fun x hx => hp x (List.mem_cons_of_mem _ hx)) s' t' o h4
  have en : ∀ x : ByteArray, (⟨#[]⟩ : ByteArray) ++ x = x := B8
  unfold Eu
  have e1 : s.extract 0 p.f2.size = p.f2 := by
   rcases f5 with c | c
   ·have ek : K = (⟨#[]⟩ : ByteArray) := Ao (by omega)
    rw [h2, ek, en]; exact Ex _ _
   ·rw [c, Ao c]; exact HV s 0 rfl
  have e2 : s.extract 0 p.f0.toNat = K := by rw [h2, ← h1]; exact Ex _ _
  have e3 : s.extract (nP p) s.size = s' := by
   have : s = (K ++ p.f2) ++ s' := by rw [ByteArray.append_assoc]; exact h2
   rw [this, show nP p = (K ++ p.f2).size by rw [Am, h1]; exact hn]; exact F9 _ _
  rw [if_pos (by rw [e1]), e2, e3, ih, h3, ByteArray.append_assoc, ByteArray.append_assoc]
theorem Fr {a b : ByteArray} (h : a.toList = b.toList) : a = b := by
 rw [ByteArray.toList_eq, ByteArray.toList_eq] at h
 exact ByteArray.ext (Array.toList_inj.1 h)
theorem G9 : ∀ (l : List IP), (∀ p ∈ l, Af p = true) → ∀ (s o : ByteArray), s.size = Au l → (Eu l s o).2 = true → ∃ t, Eu l s o = (o ++ t, true) ∧ G2 l s t
 | [], _, s, o, hs, _ => ⟨E0, by unfold Eu; rw [show o ++ E0 = o from A2 o], Ao hs, rfl⟩
 | p :: r, hp, s, o, hs, h => by
  obtain ⟨f1, f2, f3, f4, f5⟩ := AD (hp p (List.mem_cons_self ..))
  have hn : nP p = p.f0.toNat + p.f2.size := rfl
  rw [A3] at hs
  unfold Eu at h ⊢
  by_cases c : (s.extract 0 p.f2.size).toList = p.f2.toList
  ·rw [if_pos c] at h ⊢
   have c' := Fr c
   obtain ⟨t, e, hr⟩ := G9 r (fun x hx => hp x (List.mem_cons_of_mem _ hx)) (s.extract (nP p) s.size) (o ++ (s.extract 0 p.f0.toNat ++ p.f1)) (by rw [Cc]; omega) h
   have en : ∀ x : ByteArray, (⟨#[]⟩ : ByteArray) ++ x = x := B8
   refine ⟨s.extract 0 p.f0.toNat ++ (p.f1 ++ t), by rw [e, ByteArray.append_assoc, ByteArray.append_assoc], s.extract 0 p.f0.toNat, s.extract (nP p) s.size, t, by rw [Cc]; omega, ?_, rfl, hr⟩
   have hb := ED s (nP p) (by omega)
   rcases f5 with q | q
   ·have e0 : s.extract 0 p.f0.toNat = (⟨#[]⟩ : ByteArray) := by rw [q]; exact HV s _ rfl
    rw [e0, en]
    rw [show nP p = p.f2.size by omega, c'] at hb
    rw [show nP p = p.f2.size by omega]; exact hb
   ·rw [Ao q, en, show p.f0.toNat = nP p by rw [hn, q]; rfl]; exact hb
  ·rw [if_neg c] at h; cases h
theorem Gp : ∀ (l : List IP), (∀ p ∈ l, Af p = true) → ∀ (s t : ByteArray), G2 l s t → DF s → DF t
 | [], _, s, t, h, _ => by rw [h.2]; exact Bm rfl
 | p :: r, hp, s, t, ⟨K, s', t', h1, h2, h3, h4⟩, hs => by
  have hs' : DF K ∧ DF s' := by
   unfold DF textB at hs ⊢
   rw [h2, Bi, Bi, List.all_append, List.all_append, Bool.and_eq_true, Bool.and_eq_true] at hs
   exact ⟨hs.1, hs.2.2⟩
  rw [h3]
  exact De hs'.1 (De (FE (hp p (List.mem_cons_self ..))).1 (Gp r (fun x hx => hp x (List.mem_cons_of_mem _ hx)) s' t' h4 hs'.2))
theorem Db {l : List IP} (h : Ac l = true) {s t : ByteArray} (hr : G2 l s t) (hs : goodB (bytesOf s) = true) : Cu l s = (t, true) ∧ goodB (bytesOf t) = true ∧ s.size = Au l ∧ t.size = Au (l.map D6) := by
 obtain ⟨hl, hp, hk, hm⟩ := Ab h
 have h1 := Du l s t hr
 have h2 := Du _ t s (G5 l s t hr)
 have h3 := GC l hp s t E0 hr
 rw [Ed l hp (by omega)] at hm
 refine ⟨?_, EY (Gp l hp s t hr (Dg hs)) (by omega), h1, h2⟩
 unfold Cu
 rw [if_pos h, if_pos hs, if_pos h1, h3, if_pos rfl, B8]
theorem Dd {l : List IP} {s : ByteArray} (h : (Cu l s).2 = true) : Ac l = true ∧ goodB (bytesOf s) = true ∧ ∃ t, Cu l s = (t, true) ∧ G2 l s t := by
 unfold Cu at h ⊢
 by_cases h1 : Ac l = true
 rotate_left
 ·rw [if_neg h1] at h; cases h
 rw [if_pos h1] at h ⊢
 by_cases h2 : goodB (bytesOf s) = true
 rotate_left
 ·rw [if_neg h2] at h; cases h
 rw [if_pos h2] at h ⊢
 by_cases h3 : s.size = Au l
 rotate_left
 ·rw [if_neg h3] at h; cases h
 rw [if_pos h3] at h ⊢
 by_cases h4 : (Eu l s E0).2 = true
 rotate_left
 ·rw [if_neg h4] at h; cases h
 rw [if_pos h4] at h ⊢
 obtain ⟨t, e, hr⟩ := G9 l (Ab h1).2.1 s E0 h3 h4
 rw [B8] at e
 exact ⟨h1, h2, t, e, hr⟩
inductive At where
 | k : At
 | p (c : UInt8) : At
 | d (c : UInt8) : At
inductive Sim : List At → List At → Prop where
 | refl (l : List At) : Sim l l
 | cons (a : At) {l m : List At} : Sim l m → Sim (a :: l) (a :: m)
 | swap (c d : UInt8) (l : List At) : Sim (.p c :: .d d :: l) (.d d :: .p c :: l)
 | symm {l m : List At} : Sim l m → Sim m l
 | trans {l m n : List At} : Sim l m → Sim m n → Sim l n
def Av : Option (List At) → Option (List At) → Prop
 | none, none => True
 | some l, some m => Sim l m
 | _, _ => False
theorem Av.refl : ∀ o, Av o o
 | none => True.intro
 | some l => Sim.refl l
theorem Av.symm : ∀ {o q}, Av o q → Av q o
 | none, none, _ => True.intro
 | some _, some _, h => Sim.symm h
theorem Av.trans : ∀ {o q r}, Av o q → Av q r → Av o r
 | none, none, none, _, _ => True.intro
 | some _, some _, some _, h, h' => Sim.trans h h'
theorem Av.map (a : At) : ∀ {o q}, Av o q → Av (o.map (a :: ·)) (q.map (a :: ·))
 | none, none, _ => True.intro
 | some _, some _, h => Sim.cons a h
theorem Av.swap (c d : UInt8) : ∀ o : Option (List At), Av ((o.map (At.d d :: ·)).map (At.p c :: ·)) ((o.map (At.p c :: ·)).map (At.d d :: ·))
 | none => True.intro
 | some l => Sim.swap c d l
def Ap : List At → List At → Option (List At)
 | .d c :: x, y => (Ap x y).map (At.d c :: ·)
 | x, .p c :: y => (Ap x y).map (At.p c :: ·)
 | [], [] => some []
 | .k :: x, .k :: y => (Ap x y).map (At.k :: ·)
 | .k :: x, .d c :: y => (Ap x y).map (At.d c :: ·)
 | .p c :: x, .k :: y => (Ap x y).map (At.p c :: ·)
 | .p c :: x, .d e :: y => if c = e then Ap x y else none
 | _, _ => none
termination_by x y => x.length + y.length
theorem Bo (c : UInt8) (x y : List At) : Ap (.d c :: x) y = (Ap x y).map (At.d c :: ·) := by
 cases y with
 | nil => rw [Ap]
 | cons b y => cases b <;> rw [Ap]
theorem Ds (c : UInt8) (y : List At) : Ap [] (.p c :: y) = (Ap [] y).map (At.p c :: ·) := by rw [Ap]; intro _ _ h; cases h
theorem Cx (c : UInt8) (x y : List At) : Ap (.k :: x) (.p c :: y) = (Ap (.k :: x) y).map (At.p c :: ·) := by rw [Ap]; intro _ _ h; cases h
theorem Ce (c e : UInt8) (x y : List At) : Ap (.p e :: x) (.p c :: y) = (Ap (.p e :: x) y).map (At.p c :: ·) := by rw [Ap]; intro _ _ h; cases h
theorem FV : Ap [] [] = some [] := by rw [Ap]
theorem FJ (y : List At) : Ap [] (.k :: y) = none := by rw [Ap] <;> (intros; simp_all)
theorem DY (c : UInt8) (y : List At) : Ap [] (.d c :: y) = none := by rw [Ap] <;> (intros; simp_all)
theorem FL (x : List At) : Ap (.k :: x) [] = none := by rw [Ap] <;> (intros; simp_all)
theorem CW (c : UInt8) (x : List At) : Ap (.p c :: x) [] = none := by rw [Ap] <;> (intros; simp_all)
theorem Cr (x y : List At) : Ap (.k :: x) (.k :: y) = (Ap x y).map (At.k :: ·) := by rw [Ap]
theorem B1 (c : UInt8) (x y : List At) : Ap (.k :: x) (.d c :: y) = (Ap x y).map (At.d c :: ·) := by rw [Ap]
theorem A6 (c : UInt8) (x y : List At) : Ap (.p c :: x) (.k :: y) = (Ap x y).map (At.p c :: ·) := by rw [Ap]
theorem B9 (c e : UInt8) (x y : List At) : Ap (.p c :: x) (.d e :: y) = if c = e then Ap x y else none := by rw [Ap]
theorem BL (c : UInt8) (y : List At) : ∀ x, Av (Ap x (.p c :: y)) ((Ap x y).map (At.p c :: ·))
 | [] => by rw [Ds]; exact Av.refl _
 | .k :: x => by rw [Cx]; exact Av.refl _
 | .p e :: x => by rw [Ce]; exact Av.refl _
 | .d e :: x => by
  rw [Bo, Bo]
  exact ((BL c y x).map (.d e)).trans (Av.swap c e (Ap x y)).symm
theorem GT {x x' : List At} (h : ∀ y, Av (Ap x y) (Ap x' y)) (a : At) : ∀ y, Av (Ap (a :: x) y) (Ap (a :: x') y) := by
 intro y
 cases a with
 | d c => rw [Bo, Bo]; exact (h y).map _
 | k =>
  induction y with
  | nil => rw [FL, FL]; exact Av.refl _
  | cons b y ih =>
   cases b with
   | k => rw [Cr, Cr]; exact (h y).map _
   | p c => rw [Cx, Cx]; exact ih.map _
   | d c => rw [B1, B1]; exact (h y).map _
 | p e =>
  induction y with
  | nil => rw [CW, CW]; exact Av.refl _
  | cons b y ih =>
   cases b with
   | k => rw [A6, A6]; exact (h y).map _
   | p c => rw [Ce, Ce]; exact ih.map _
   | d c =>
    rw [B9, B9]
    by_cases q : e = c
    ·rw [if_pos q, if_pos q]; exact h y
    rw [if_neg q, if_neg q]; exact Av.refl _
theorem EP (c d : UInt8) (x : List At) : ∀ y, Av (Ap (.p c :: .d d :: x) y) (Ap (.d d :: .p c :: x) y)
 | [] => by rw [CW, Bo, CW]; exact Av.refl _
 | .k :: y => by rw [A6, Bo, Bo, A6]; exact Av.swap c d _
 | .p e :: y => by
  have ih := EP c d x y
  rw [Bo] at ih
  rw [Ce, Bo, Ce]
  exact (ih.map (.p e)).trans (Av.swap e d _)
 | .d e :: y => by
  rw [B9, Bo, Bo, B9]
  by_cases q : c = e
  ·rw [if_pos q, if_pos q]; exact Av.refl _
  ·rw [if_neg q, if_neg q]; exact Av.refl _
theorem HH {x x' : List At} (h : Sim x x') : ∀ y, Av (Ap x y) (Ap x' y) := by
 induction h with
 | refl l => exact fun y => Av.refl _
 | cons a _ ih => exact GT ih a
 | swap c d l => exact EP c d l
 | symm _ ih => exact fun y => (ih y).symm
 | trans _ _ i1 i2 => exact fun y => (i1 y).trans (i2 y)
theorem EU {y y' : List At} (h : ∀ x, Av (Ap x y) (Ap x y')) (b : At) : ∀ x, Av (Ap x (b :: y)) (Ap x (b :: y'))
 | [] => by
  cases b with
  | k => rw [FJ, FJ]; exact Av.refl _
  | p c => rw [Ds, Ds]; exact (h _).map _
  | d c => rw [DY, DY]; exact Av.refl _
 | .k :: x => by
  cases b with
  | k => rw [Cr, Cr]; exact (h _).map _
  | p c => rw [Cx, Cx]; exact (h _).map _
  | d c => rw [B1, B1]; exact (h _).map _
 | .p e :: x => by
  cases b with
  | k => rw [A6, A6]; exact (h _).map _
  | p c => rw [Ce, Ce]; exact (h _).map _
  | d c =>
   rw [B9, B9]
   by_cases q : e = c
   ·rw [if_pos q, if_pos q]; exact h _
   ·rw [if_neg q, if_neg q]; exact Av.refl _
 | .d e :: x => by rw [Bo, Bo]; exact (EU h b x).map _
theorem E2 (c d : UInt8) (y : List At) : ∀ x, Av (Ap x (.p c :: .d d :: y)) (Ap x (.d d :: .p c :: y))
 | [] => by rw [Ds, DY, DY]; exact Av.refl _
 | .k :: x => by
  rw [Cx, B1, B1]
  exact (Av.swap c d _).trans ((BL c y x).symm.map _)
 | .p e :: x => by
  rw [Ce, B9, B9]
  by_cases q : e = d
  ·rw [if_pos q, if_pos q]; exact (BL c y x).symm
  ·rw [if_neg q, if_neg q]; exact Av.refl _
 | .d e :: x => by rw [Bo, Bo]; exact (E2 c d y x).map _
theorem HQ {y y' : List At} (h : Sim y y') : ∀ x, Av (Ap x y) (Ap x y') := by
 induction h with
 | refl l => exact fun y => Av.refl _
 | cons a _ ih => exact EU ih a
 | swap c d l => exact E2 c d l
 | symm _ ih => exact fun y => (ih y).symm
 | trans _ _ i1 i2 => exact fun y => (i1 y).trans (i2 y)
theorem G3 {x x' y y' : List At} (hx : Sim x x') (hy : Sim y y') : Av (Ap x y) (Ap x' y') := (HH hx y).trans (HQ hy x')
def Cv : List At → Nat
 | [] => 0
 | .d _ :: x => Cv x
 | _ :: x => Cv x + 1
def B4 : List At → Nat
 | [] => 0
 | .p _ :: x => B4 x
 | _ :: x => B4 x + 1
theorem B0 : ∀ (n : Nat) (x y z : List At), x.length + y.length ≤ n → Ap x y = some z → Cv x = B4 y ∧ B4 z = B4 x ∧ Cv z = Cv y
 | n, [], [], z, _, h => by rw [FV] at h; cases h; exact ⟨rfl, rfl, rfl⟩
 | 0, .d c :: x, y, z, hn, h => absurd hn (by simp only [List.length_cons]; omega)
 | 0, [], .p c :: y, z, hn, h => absurd hn (by simp only [List.length_cons]; omega)
 | 0, .k :: x, .p c :: y, z, hn, h => absurd hn (by simp only [List.length_cons]; omega)
 | 0, .p e :: x, .p c :: y, z, hn, h => absurd hn (by simp only [List.length_cons]; omega)
 | 0, .k :: x, .k :: y, z, hn, h => absurd hn (by simp only [List.length_cons]; omega)
 | 0, .k :: x, .d c :: y, z, hn, h => absurd hn (by simp only [List.length_cons]; omega)
 | 0, .p c :: x, .k :: y, z, hn, h => absurd hn (by simp only [List.length_cons]; omega)
 | 0, .p c :: x, .d e :: y, z, hn, h => absurd hn (by simp only [List.length_cons]; omega)
 | n + 1, .d c :: x, y, z, hn, h => by
  rw [Bo] at h
  obtain ⟨z', h1, rfl⟩ := Option.map_eq_some_iff.1 h
  obtain ⟨a, b, c⟩ := B0 n x y z' (by simp only [List.length_cons] at hn; omega) h1
  simp only [Cv, B4]; omega
 | n + 1, [], .p c :: y, z, hn, h => by
  rw [Ds] at h
  obtain ⟨z', h1, rfl⟩ := Option.map_eq_some_iff.1 h
  obtain ⟨a, b, c⟩ := B0 n [] y z' (by simp only [List.length_cons] at hn ⊢; omega) h1
  simp only [Cv, B4] at a b ⊢; omega
 | n + 1, .k :: x, .p c :: y, z, hn, h => by
  rw [Cx] at h
  obtain ⟨z', h1, rfl⟩ := Option.map_eq_some_iff.1 h
  obtain ⟨a, b, c⟩ := B0 n _ y z' (by simp only [List.length_cons] at hn ⊢; omega) h1
  simp only [Cv, B4] at a b ⊢; omega
 | n + 1, .p e :: x, .p c :: y, z, hn, h => by
  rw [Ce] at h
  obtain ⟨z', h1, rfl⟩ := Option.map_eq_some_iff.1 h
  obtain ⟨a, b, c⟩ := B0 n _ y z' (by simp only [List.length_cons] at hn ⊢; omega) h1
  simp only [Cv, B4] at a b ⊢; omega
 | n, [], .k :: y, z, _, h => by rw [FJ] at h; cases h
 | n, [], .d c :: y, z, _, h => by rw [DY] at h; cases h
 | n, .k :: x, [], z, _, h => by rw [FL] at h; cases h
 | n, .p c :: x, [], z, _, h => by rw [CW] at h; cases h
 | n + 1, .k :: x, .k :: y, z, hn, h => by
  rw [Cr] at h
  obtain ⟨z', h1, rfl⟩ := Option.map_eq_some_iff.1 h
  obtain ⟨a, b, c⟩ := B0 n x y z' (by simp only [List.length_cons] at hn; omega) h1
  simp only [Cv, B4] at a b ⊢; omega
 | n + 1, .k :: x, .d c :: y, z, hn, h => by
  rw [B1] at h
  obtain ⟨z', h1, rfl⟩ := Option.map_eq_some_iff.1 h
  obtain ⟨a, b, c⟩ := B0 n x y z' (by simp only [List.length_cons] at hn; omega) h1
  simp only [Cv, B4] at a b ⊢; omega
 | n + 1, .p c :: x, .k :: y, z, hn, h => by
  rw [A6] at h
  obtain ⟨z', h1, rfl⟩ := Option.map_eq_some_iff.1 h
  obtain ⟨a, b, c⟩ := B0 n x y z' (by simp only [List.length_cons] at hn; omega) h1
  simp only [Cv, B4] at a b ⊢; omega
 | n + 1, .p c :: x, .d e :: y, z, hn, h => by
  rw [B9] at h
  by_cases q : c = e
  ·rw [if_pos q] at h
   obtain ⟨a, b, c⟩ := B0 n x y z (by simp only [List.length_cons] at hn; omega) h
   simp only [Cv, B4] at a b ⊢; omega
  ·rw [if_neg q] at h; cases h
def kA (n : Nat) : List At := List.replicate n .k
def pA (s : ByteArray) : List At := s.data.toList.map .p
def dA (s : ByteArray) : List At := s.data.toList.map .d
def AU (p : IP) : List At := kA p.f0.toNat ++ (pA p.f1 ++ dA p.f2)
def Ay (l : List IP) : List At := l.flatMap AU
theorem Ba : Ay [] = [] := rfl
theorem Ae (p : IP) (l : List IP) : Ay (p :: l) = AU p ++ Ay l := rfl
theorem Bs {s : ByteArray} (h : s.size = 0) : pA s = [] := by rw [Ao h]; rfl
theorem By {s : ByteArray} (h : s.size = 0) : dA s = [] := by rw [Ao h]; rfl
def Fg (f : UInt8 → At) (s : ByteArray) : List At := s.data.toList.map f
theorem DA (f : UInt8 → At) (a b : ByteArray) : Fg f (a ++ b) = Fg f a ++ Fg f b := by unfold Fg; rw [ByteArray.data_append, Array.toList_append, List.map_append]
theorem Ip (a b : ByteArray) : pA (a ++ b) = pA a ++ pA b := DA _ a b
theorem Ie (a b : ByteArray) : dA (a ++ b) = dA a ++ dA b := DA _ a b
theorem EA (f : UInt8 → At) (s : ByteArray) (n : Nat) (h : n ≤ s.size) : Fg f s = Fg f (s.extract 0 n) ++ Fg f (s.extract n s.size) := by
 rw [← DA, ← ED s n h]
theorem Fp (a b : Nat) : kA (a + b) = kA a ++ kA b := by unfold kA; rw [List.replicate_append_replicate]
theorem E4 : ∀ (l : List UInt8) (x y : List At), Ap (l.map At.d ++ x) y = (Ap x y).map ((l.map At.d) ++ ·)
 | [], x, y => by simp
 | c :: l, x, y => by
  rw [List.map_cons, List.cons_append, Bo, E4 l x y]
  cases Ap x y <;> rfl
def IB : List At → Prop
 | .d _ :: _ => False
 | _ => True
theorem IH {x : List At} (h : IB x) (c : UInt8) (y : List At) : Ap x (.p c :: y) = (Ap x y).map (At.p c :: ·) := by
 cases x with
 | nil => exact Ds c y
 | cons a x =>
  cases a with
  | k => exact Cx c x y
  | p e => exact Ce c e x y
  | d e => exact h.elim
theorem FF {x : List At} (h : IB x) : ∀ (l : List UInt8) (y : List At), Ap x (l.map At.p ++ y) = (Ap x y).map ((l.map At.p) ++ ·)
 | [], y => by simp
 | c :: l, y => by
  rw [List.map_cons, List.cons_append, IH h, FF h l y]
  cases Ap x y <;> rfl
theorem Gv : ∀ (n : Nat) (x y : List At), Ap (kA n ++ x) (kA n ++ y) = (Ap x y).map (kA n ++ ·)
 | 0, x, y => by simp [kA]
 | n + 1, x, y => by
  have e : kA (n + 1) = At.k :: kA n := rfl
  rw [e, List.cons_append, List.cons_append, Cr, Gv n x y]
  cases Ap x y <;> rfl
theorem Gf : ∀ (l : List UInt8) (x y : List At), Ap (kA l.length ++ x) (l.map At.d ++ y) = (Ap x y).map ((l.map At.d) ++ ·)
 | [], x, y => by simp [kA]
 | c :: l, x, y => by
  have e : kA (c :: l).length = At.k :: kA l.length := rfl
  rw [e, List.map_cons, List.cons_append, List.cons_append, B1, Gf l x y]
  cases Ap x y <;> rfl
theorem Gl : ∀ (l : List UInt8) (x y : List At), Ap (l.map At.p ++ x) (kA l.length ++ y) = (Ap x y).map ((l.map At.p) ++ ·)
 | [], x, y => by simp [kA]
 | c :: l, x, y => by
  have e : kA (c :: l).length = At.k :: kA l.length := rfl
  rw [e, List.map_cons, List.cons_append, List.cons_append, A6, Gl l x y]
  cases Ap x y <;> rfl
theorem GB : ∀ (l m : List UInt8) (x y : List At), l.length = m.length → Ap (l.map At.p ++ x) (m.map At.d ++ y) = if l = m then Ap x y else none
 | [], [], x, y, _ => by simp
 | c :: l, e :: m, x, y, h => by
  rw [List.map_cons, List.map_cons, List.cons_append, List.cons_append, B9, GB l m x y (by simpa using h)]
  by_cases q : c = e
  ·subst q
   rw [if_pos rfl]
   by_cases r : l = m
   ·subst r; rw [if_pos rfl, if_pos rfl]
   ·rw [if_neg r, if_neg (fun z => r (List.cons.inj z).2)]
  ·rw [if_neg q, if_neg (fun z => q (List.cons.inj z).1)]
def E1 (c : UInt8) : ByteArray := ⟨#[c]⟩
def Ft (s : GS) : At → GS
 | .k => (Be s.1 s.2.1 s.2.2 1, ⟨#[]⟩, ⟨#[]⟩)
 | .p c => (s.1, s.2.1 ++ E1 c, s.2.2)
 | .d c => (s.1, s.2.1, s.2.2 ++ E1 c)
theorem EQ {l m : List At} (h : Sim l m) : ∀ s : GS, l.foldl Ft s = m.foldl Ft s := by
 induction h with
 | refl l => exact fun _ => rfl
 | cons a _ ih => exact fun s => by rw [List.foldl_cons, List.foldl_cons, ih]
 | swap c d l => exact fun s => rfl
 | symm _ ih => exact fun s => (ih s).symm
 | trans _ _ i1 i2 => exact fun s => (i1 s).trans (i2 s)
theorem Hd (c : UInt8) (l : List UInt8) : E1 c ++ (⟨l.toArray⟩ : ByteArray) = ⟨(c :: l).toArray⟩ := by
 apply ByteArray.ext; rw [ByteArray.data_append]; simp [E1]
theorem FO : ∀ (l : List UInt8) (g : List Bh) (a b : ByteArray), (l.map At.p).foldl Ft (g, a, b) = (g, a ++ ⟨l.toArray⟩, b)
 | [], g, a, b => by
  show (g, a, b) = (g, a ++ (⟨#[]⟩ : ByteArray), b)
  rw [A2]
 | c :: l, g, a, b => by
  rw [List.map_cons, List.foldl_cons]
  show (l.map At.p).foldl Ft (g, a ++ E1 c, b) = _
  rw [FO l, ByteArray.append_assoc, Hd]
theorem ET : ∀ (l : List UInt8) (g : List Bh) (a b : ByteArray), (l.map At.d).foldl Ft (g, a, b) = (g, a, b ++ ⟨l.toArray⟩)
 | [], g, a, b => by
  show (g, a, b) = (g, a, b ++ (⟨#[]⟩ : ByteArray))
  rw [A2]
 | c :: l, g, a, b => by
  rw [List.map_cons, List.foldl_cons]
  show (l.map At.d).foldl Ft (g, a, b ++ E1 c) = _
  rw [ET l, ByteArray.append_assoc, Hd]
theorem Gx (s : ByteArray) : (⟨s.data.toList.toArray⟩ : ByteArray) = s := by apply ByteArray.ext; simp
theorem F8 (g : List Bh) (a b : ByteArray) (j : Int) : Be (Be g a b j) ⟨#[]⟩ ⟨#[]⟩ 1 = Be g a b (j + 1) := by
 have c0 : (⟨#[]⟩ : ByteArray).size = 0 ∧ (⟨#[]⟩ : ByteArray).size = 0 := ⟨rfl, rfl⟩
 by_cases c : a.size = 0 ∧ b.size = 0
 rotate_left
 ·rw [AG c, AG c, Aq c0]
 rcases List.eq_nil_or_concat g with e | ⟨g0, s0, e⟩
 ·subst e
  rw [AL c, AL c]
  exact Aq c0 [] (a, b, j) 1
 rw [List.concat_eq_append] at e
 subst e
 rw [Aq c, Aq c, Aq c0]
 dsimp only
 rw [Int.add_assoc]
theorem EG : ∀ (n : Nat) (g : List Bh) (a b : ByteArray), (kA (n + 1)).foldl Ft (g, a, b) = (Be g a b ((n + 1 : Nat) : Int), ⟨#[]⟩, ⟨#[]⟩)
 | 0, g, a, b => rfl
 | n + 1, g, a, b => by
  have e : kA (n + 1 + 1) = kA (n + 1) ++ [At.k] := by rw [Fp (n + 1) 1]; rfl
  rw [e, List.foldl_append, EG n g a b]
  show (Be (Be g a b ((n + 1 : Nat) : Int)) ⟨#[]⟩ ⟨#[]⟩ 1, _, _) = _
  rw [F8]; rfl
theorem Hz (s : GS) (p : IP) (hp : AV p) : (AU p).foldl Ft s = Aj s p := by
 obtain ⟨g, a, b⟩ := s
 obtain ⟨p0, p1, p2⟩ := p
 obtain ⟨q1, q2, q3, q4, q5, q6⟩ := hp
 dsimp only at q1 q2 q3 q4 q5 q6
 unfold AU Aj
 dsimp only
 by_cases h0 : p0 = 0
 ·rw [if_pos h0, h0]
  show (pA p1 ++ dA p2).foldl Ft (g, a, b) = _
  unfold pA dA
  rw [List.foldl_append, FO, ET, Gx, Gx]
 obtain ⟨z1, z2⟩ := q5.resolve_left h0
 rw [if_neg h0, Bs z1, By z2, List.append_nil, List.append_nil]
 obtain ⟨n, hn⟩ : ∃ n : Nat, p0 = ((n + 1 : Nat) : Int) := ⟨p0.toNat - 1, by omega⟩
 subst hn
 rw [Int.toNat_natCast, EG]
theorem Fu : ∀ (l : List IP) (s : GS), (∀ p ∈ l, AV p) → (Ay l).foldl Ft s = l.foldl Aj s
 | [], s, _ => rfl
 | p :: l, s, h => by
  rw [Ae, List.foldl_append, Hz s p (h p (List.mem_cons_self ..)), List.foldl_cons]
  exact Fu l _ (fun x hx => h x (List.mem_cons_of_mem _ hx))
abbrev CM := List Pt × ByteArray × ByteArray
def As (p : IP) : Nat := p.f0.toNat + p.f1.size + p.f2.size
def BB (l : List IP) : Prop := ∀ p ∈ l, AV p ∧ 0 < As p
theorem AN {p : IP} {l : List IP} (h : BB (p :: l)) : (AV p ∧ 0 < As p) ∧ BB l := ⟨h p (List.mem_cons_self ..), fun x hx => h x (List.mem_cons_of_mem _ hx)⟩
theorem CE {p : IP} {l : List IP} (h1 : AV p) (h2 : 0 < As p) (h : BB l) : BB (p :: l) := fun x hx => (List.mem_cons.1 hx).elim (fun e => by rw [e]; exact ⟨h1, h2⟩) (h x)
structure CutIs (p : IP) (n : Nat) (a : IP) : Prop where
 one : AV a
 sz : As a = n
 k : 0 < a.f0 ↔ 0 < p.f0
 put : a.f1.size = 0 ↔ p.f1.size = 0
 drop : a.f2.size = 0 ↔ p.f2.size = 0
theorem Dl (s : ByteArray) (n : Nat) (h : n ≤ s.size) : (s.extract 0 n).size = n ∧ (s.extract n s.size).size = s.size - n := by
 rw [ByteArray.size_extract, ByteArray.size_extract]; omega
theorem Dp {p : IP} {n : Nat} (h : AV p) (h0 : 0 < n) (h1 : n < As p) (hk : 0 < p.f0) : CutIs p n ⟨n, p.f1, p.f2⟩ ∧ (AV ⟨p.f0 - n, p.f1, p.f2⟩ ∧ As ⟨p.f0 - n, p.f1, p.f2⟩ = As p - n) ∧ AU p = AU ⟨n, p.f1, p.f2⟩ ++ AU ⟨p.f0 - n, p.f1, p.f2⟩ := by
 obtain ⟨p0, p1, p2⟩ := p
 obtain ⟨q1, q2, q3, q4, q5, q6⟩ := h
 unfold As at *
 dsimp only at *
 obtain ⟨z1, z2⟩ := q5.resolve_left (by omega)
 refine ⟨⟨⟨by dsimp only; omega, by dsimp only; omega, by dsimp only; omega, by dsimp only; omega, .inr ⟨z1, z2⟩, .inl z1⟩, by unfold As; dsimp only; omega, by dsimp only; omega, Iff.rfl, Iff.rfl⟩, ⟨⟨by dsimp only; omega, by dsimp only; omega, by dsimp only; omega, by dsimp only; omega, .inr ⟨z1, z2⟩, .inl z1⟩, by omega⟩, ?_⟩
 unfold AU
 dsimp only
 rw [Bs z1, By z2]
 simp only [List.append_nil]
 rw [← Fp]
 congr 1; omega
theorem Ei {p : IP} {n : Nat} (h : AV p) (h0 : 0 < n) (h1 : n < As p) (hk : ¬ 0 < p.f0) (hp : p.f1.size ≠ 0) : n ≤ p.f1.size ∧ CutIs p n ⟨p.f0, p.f1.extract 0 n, p.f2⟩ ∧ (AV ⟨p.f0, p.f1.extract n p.f1.size, p.f2⟩ ∧ As ⟨p.f0, p.f1.extract n p.f1.size, p.f2⟩ = As p - n) ∧ AU p = AU ⟨p.f0, p.f1.extract 0 n, p.f2⟩ ++ AU ⟨p.f0, p.f1.extract n p.f1.size, p.f2⟩ := by
 obtain ⟨p0, p1, p2⟩ := p
 obtain ⟨q1, q2, q3, q4, q5, q6⟩ := h
 unfold As at *
 dsimp only at *
 have z2 : p2.size = 0 := by omega
 have z0 : p0 = 0 := by omega
 have hn : n ≤ p1.size := by omega
 obtain ⟨e1, e2⟩ := Dl p1 n hn
 refine ⟨hn, ⟨⟨by dsimp only; omega, by dsimp only; omega, by dsimp only; omega, by dsimp only; omega, .inl z0, .inr z2⟩, by unfold As; dsimp only; omega, by dsimp only; omega, by dsimp only; omega, Iff.rfl⟩, ⟨⟨by dsimp only; omega, by dsimp only; omega, by dsimp only; omega, by dsimp only; omega, .inl z0, .inr z2⟩, by omega⟩, ?_⟩
 unfold AU
 dsimp only
 rw [z0, By z2, List.append_nil, List.append_nil, List.append_nil]
 exact EA At.p p1 n hn
theorem Dt {p : IP} {n : Nat} (h : AV p) (h0 : 0 < n) (h1 : n < As p) (hk : ¬ 0 < p.f0) (hp : p.f1.size = 0) : n ≤ p.f2.size ∧ CutIs p n ⟨p.f0, p.f1, p.f2.extract 0 n⟩ ∧ (AV ⟨p.f0, p.f1, p.f2.extract n p.f2.size⟩ ∧ As ⟨p.f0, p.f1, p.f2.extract n p.f2.size⟩ = As p - n) ∧ AU p = AU ⟨p.f0, p.f1, p.f2.extract 0 n⟩ ++ AU ⟨p.f0, p.f1, p.f2.extract n p.f2.size⟩ := by
 obtain ⟨p0, p1, p2⟩ := p
 obtain ⟨q1, q2, q3, q4, q5, q6⟩ := h
 unfold As at *
 dsimp only at *
 have z0 : p0 = 0 := by omega
 have hn : n ≤ p2.size := by omega
 obtain ⟨e1, e2⟩ := Dl p2 n hn
 refine ⟨hn, ⟨⟨by dsimp only; omega, by dsimp only; omega, by dsimp only; omega, by dsimp only; omega, .inl z0, .inl hp⟩, by unfold As; dsimp only; omega, by dsimp only; omega, Iff.rfl, by dsimp only; omega⟩, ⟨⟨by dsimp only; omega, by dsimp only; omega, by dsimp only; omega, by dsimp only; omega, .inl z0, .inl hp⟩, by omega⟩, ?_⟩
 unfold AU
 dsimp only
 rw [z0, Bs hp]
 exact EA At.d p2 n hn
theorem Dc {p : IP} (h : AV p) : CutIs p (As p) p := ⟨h, rfl, Iff.rfl, Iff.rfl, Iff.rfl⟩
theorem AQ {a : IP} (h : AV a) (hk : 0 < a.f0) : a = ⟨As a, ⟨#[]⟩, ⟨#[]⟩⟩ ∧ AU a = kA (As a) := by
 obtain ⟨p0, p1, p2⟩ := a
 obtain ⟨q1, q2, q3, q4, q5, q6⟩ := h
 unfold As
 dsimp only at *
 obtain ⟨z1, z2⟩ := q5.resolve_left (by omega)
 refine ⟨?_, ?_⟩
 ·rw [Ao z1, Ao z2]
  congr 1
  show p0 = ((p0.toNat + 0 + 0 : Nat) : Int); omega
 unfold AU
 dsimp only
 rw [Bs z1, By z2, z1, z2, List.append_nil, List.append_nil]; rfl
theorem CD {a : IP} (h : AV a) (hk : ¬ 0 < a.f0) (hd : a.f2.size = 0) : AU a = a.f1.data.toList.map At.p ∧ a.f1.data.toList.length = As a := by
 obtain ⟨p0, p1, p2⟩ := a
 obtain ⟨q1, q2, q3, q4, q5, q6⟩ := h
 unfold As AU
 dsimp only at *
 have z : p0 = 0 := by omega
 rw [z, By hd, hd, List.append_nil]
 refine ⟨rfl, ?_⟩
 rw [Array.length_toList]; show p1.size = 0 + p1.size + 0; omega
theorem BA {a : IP} (h : AV a) (hk : ¬ 0 < a.f0) (hd : a.f1.size = 0) : AU a = a.f2.data.toList.map At.d ∧ a.f2.data.toList.length = As a := by
 obtain ⟨p0, p1, p2⟩ := a
 obtain ⟨q1, q2, q3, q4, q5, q6⟩ := h
 unfold As AU
 dsimp only at *
 have z : p0 = 0 := by omega
 rw [z, Bs hd, hd]
 refine ⟨rfl, ?_⟩
 rw [Array.length_toList]; show p2.size = 0 + 0 + p2.size; omega
theorem Hv (a b : IP) (x y : List At) (ha : AV a) (hb : AV b) (hs : As a = As b) (hd : a.f2.size = 0) (hq : b.f1.size = 0) :
  Ap (AU a ++ x) (AU b ++ y) = if 0 < a.f0 then (Ap x y).map (AU b ++ ·) else if 0 < b.f0 then (Ap x y).map (AU a ++ ·) else if a.f1 = b.f2 then Ap x y else none := by
 by_cases ka : 0 < a.f0
 ·rw [if_pos ka, (AQ ha ka).2]
  by_cases kb : 0 < b.f0
  ·rw [(AQ hb kb).2, hs]; exact Gv _ x y
  obtain ⟨e1, e2⟩ := BA hb kb hq
  rw [e1, hs, ← e2]; exact Gf _ x y
 rw [if_neg ka]
 obtain ⟨f1, f2⟩ := CD ha ka hd
 by_cases kb : 0 < b.f0
 ·rw [if_pos kb, (AQ hb kb).2, f1, ← hs, ← f2]; exact Gl _ x y
 obtain ⟨e1, e2⟩ := BA hb kb hq
 rw [if_neg kb, f1, e1, GB _ _ x y (by omega)]
 by_cases q : a.f1 = b.f2
 ·rw [if_pos q, if_pos (by rw [q])]
 rw [if_neg q, if_neg (fun z => q (ByteArray.ext (Array.toList_inj.1 z)))]
theorem Ey (p : IP) (x : List At) (y : List At) (h : AV p) (hd : p.f2.size ≠ 0) : Ap (AU p ++ x) y = (Ap x y).map (AU p ++ ·) := by
 have hk : ¬ 0 < p.f0 := fun q => by have := h.2.2.2.2.1; omega
 have h1 : p.f1.size = 0 := by have := h.2.2.2.2.2; omega
 rw [(BA h hk h1).1]; exact E4 _ x y
theorem FW (q : IP) (x : List At) (y : List At) (h : AV q) (hd : q.f1.size ≠ 0) (hn : IB x) : Ap x (AU q ++ y) = (Ap x y).map (AU q ++ ·) := by
 have hk : ¬ 0 < q.f0 := fun z => by have := h.2.2.2.2.1; omega
 have h1 : q.f2.size = 0 := by have := h.2.2.2.2.2; omega
 rw [(CD h hk h1).1]; exact FF hn _ y
theorem Gk (p : IP) (x : List IP) (h : AV p) (hz : 0 < As p) (hd : p.f2.size = 0) : IB (Ay (p :: x)) := by
 rw [Ae]
 by_cases hk : 0 < p.f0
 ·rw [(AQ h hk).2]
  obtain ⟨m, hm⟩ : ∃ m, As p = m + 1 := ⟨As p - 1, by omega⟩
  rw [hm]; exact True.intro
 obtain ⟨e1, e2⟩ := CD h hk hd
 rw [e1]
 cases hl : p.f1.data.toList with
 | nil => rw [hl] at e2; simp at e2; omega
 | cons c l => exact True.intro
theorem DB {x y : List At} (h : Sim x y) : ∀ l : List At, Sim (l ++ x) (l ++ y)
 | [] => h
 | a :: l => Sim.cons a (DB h l)
theorem F4 {x y : List At} (h : Sim x y) (l : List At) : Sim (x ++ l) (y ++ l) := by
 induction h with
 | refl _ => exact Sim.refl _
 | cons a _ ih => exact Sim.cons a ih
 | swap c d m => exact Sim.swap c d _
 | symm _ ih => exact ih.symm
 | trans _ _ i1 i2 => exact i1.trans i2
theorem EL (c : UInt8) (l : List At) : ∀ ds : List UInt8, Sim (ds.map At.d ++ At.p c :: l) (At.p c :: (ds.map At.d ++ l))
 | [] => Sim.refl _
 | d :: ds => (Sim.cons (.d d) (EL c l ds)).trans (Sim.swap c d _).symm
def Fd (g : List Bh) : Prop := ∀ x ∈ g, 0 ≤ x.2.2
def Fc (g : List Bh) : List At := g.flatMap (fun x => pA x.1 ++ (dA x.2.1 ++ kA x.2.2.toNat))
def HK (s : GS) : List At := Fc s.1 ++ (pA s.2.1 ++ dA s.2.2)
theorem Eg (g h : List Bh) : Fc (g ++ h) = Fc g ++ Fc h := by unfold Fc; rw [List.flatMap_append]
theorem C8 (x : Bh) : Fc [x] = pA x.1 ++ (dA x.2.1 ++ kA x.2.2.toNat) := by unfold Fc; simp
theorem HB {g : List Bh} (h : Fd g) (a b : ByteArray) : Fd (Be g a b 1) := by
 by_cases c : a.size = 0 ∧ b.size = 0
 rotate_left
 ·rw [AG c]
  intro x hx
  rcases List.mem_append.1 hx with q | q
  ·exact h x q
  rw [List.mem_singleton.1 q]; show (0 : Int) ≤ 1; omega
 rcases List.eq_nil_or_concat g with e | ⟨g0, s0, e⟩
 ·subst e
  rw [AL c]
  intro x hx; rw [List.mem_singleton.1 hx]; show (0 : Int) ≤ 1; omega
 rw [List.concat_eq_append] at e
 subst e
 rw [Aq c]
 intro x hx
 rcases List.mem_append.1 hx with q | q
 ·exact h x (List.mem_append_left _ q)
 rw [List.mem_singleton.1 q]
 have := h s0 (by simp)
 show 0 ≤ s0.2.2 + 1; omega
theorem Ha {s : GS} (h : Fd s.1) (a : At) : Fd (Ft s a).1 := by
 cases a with
 | k => exact HB h _ _
 | p c => exact h
 | d c => exact h
theorem Iz (c : UInt8) : pA (E1 c) = [At.p c] := rfl
theorem Iy (c : UInt8) : dA (E1 c) = [At.d c] := rfl
theorem Im {g : List Bh} (h : Fd g) (a b : ByteArray) : Fc (Be g a b 1) = Fc g ++ (pA a ++ (dA b ++ [At.k])) := by
 by_cases c : a.size = 0 ∧ b.size = 0
 rotate_left
 ·rw [AG c, Eg, C8]; rfl
 rcases List.eq_nil_or_concat g with e | ⟨g0, s0, e⟩
 ·subst e
  rw [AL c, C8]; rfl
 rw [List.concat_eq_append] at e
 subst e
 have hs := h s0 (by simp)
 have e2 : kA (s0.2.2 + 1).toNat = kA s0.2.2.toNat ++ [At.k] := by
  rw [show (s0.2.2 + 1).toNat = s0.2.2.toNat + 1 by omega, Fp]; rfl
 rw [Aq c, Eg, Eg, C8, C8, Bs c.1, By c.2]
 dsimp only
 rw [e2]
 simp only [List.append_assoc, List.nil_append]
theorem HD (s : GS) (h : Fd s.1) (a : At) : Sim (HK s ++ [a]) (HK (Ft s a)) := by
 obtain ⟨g, u, v⟩ := s
 cases a with
 | k =>
  have e : HK (Ft (g, u, v) .k) = HK (g, u, v) ++ [At.k] := by
   show Fc (Be g u v 1) ++ (pA ⟨#[]⟩ ++ dA ⟨#[]⟩) = Fc g ++ (pA u ++ dA v) ++ [At.k]
   rw [Im h, Bs (s := ⟨#[]⟩) rfl, By (s := ⟨#[]⟩) rfl]; simp only [List.append_assoc, List.append_nil]
  rw [e]; exact Sim.refl _
 | p c =>
  show Sim (Fc g ++ (pA u ++ dA v) ++ [At.p c]) (Fc g ++ (pA (u ++ E1 c) ++ dA v))
  rw [Ip, Iz]
  simp only [List.append_assoc]
  refine DB (DB ?_ _) _
  have := EL c [] v.data.toList
  rw [List.append_nil] at this
  exact this
 | d c =>
  show Sim (Fc g ++ (pA u ++ dA v) ++ [At.d c]) (Fc g ++ (pA u ++ dA (v ++ E1 c)))
  rw [Ie, Iy]
  simp only [List.append_assoc]
  exact Sim.refl _
theorem Fz : ∀ (z : List At) (s : GS), Fd s.1 → Sim (HK s ++ z) (HK (z.foldl Ft s))
 | [], s, _ => by rw [List.append_nil]; exact Sim.refl _
 | a :: z, s, h => by
  have e : HK s ++ a :: z = (HK s ++ [a]) ++ z := by simp
  rw [e, List.foldl_cons]
  exact (F4 (HD s h a) z).trans (Fz z _ (Ha h a))
def Dh (z : List At) : GS := z.foldl Ft ([], ⟨#[]⟩, ⟨#[]⟩)
theorem FP (z : List At) : Sim z (HK (Dh z)) := by
 have := Fz z ([], ⟨#[]⟩, ⟨#[]⟩) (fun x hx => by cases hx)
 exact this
theorem Eo {z w : List At} : Sim z w ↔ Dh z = Dh w :=
 ⟨fun h => EQ h _, fun h => (FP z).trans (by rw [h]; exact (FP w).symm)⟩
theorem Br (l : List IP) (h : ∀ p ∈ l, AV p) : Dh (Ay l) = Bd l := Fu l _ h
def Cz (z : List At) : List IP := (Ah (Dh z).1 ++ endL (Dh z).2.1 (Dh z).2.2).map ofP
theorem BH (l : List IP) (hl : l.length ≤ 1000) (h : ∀ p ∈ l, AV p) : Ad l = Cz (Ay l) := by
 rw [(CU l hl h).1]; unfold Cz; rw [Br l h]
theorem Io {z w : List At} (h : Sim z w) : Cz z = Cz w := by unfold Cz; rw [Eo.1 h]
theorem EM {l : List IP} (h : Ac l = true) : Sim (Ay l) (Ay (Ad l)) := by
 obtain ⟨hl, hp, _, _⟩ := Ab h
 obtain ⟨hl2, hp2, _, _⟩ := Ab (Bf h).1
 rw [Eo, Br _ (fun p q => Ak (hp p q)), Br _ (fun p q => Ak (hp2 p q)), Dm l (by omega) (fun p q => Ak (hp p q))]
def BF (n : Nat) (L : List Pt) : Prop := ∀ q ∈ L, q.2.1.size ≤ 300 * n ∧ q.2.2.size ≤ 300 * n
theorem BF.app {n : Nat} {A B : List Pt} (ha : BF n A) (hb : BF n B) : BF n (A ++ B) := fun q h => (List.mem_append.1 h).elim (ha q) (hb q)
theorem DC {n : Nat} {a b : ByteArray} (ha : a.size ≤ 300 * n) (hb : b.size ≤ 300 * n) : BF n (endL a b) := by
 intro q hq
 unfold endL at hq
 rcases List.mem_append.1 hq with h | h
 ·split at h
  ·cases h
  rw [List.mem_singleton.1 h]; exact ⟨ha, Nat.zero_le _⟩
 split at h
 ·cases h
 rw [List.mem_singleton.1 h]; exact ⟨Nat.zero_le _, hb⟩
theorem EF {n : Nat} {L : List Pt} (h : BF n L) (x : Int) : BF n (keepA L x) := by
 unfold keepA
 split
 rotate_left
 ·intro q hq; rw [List.mem_singleton.1 hq]; exact ⟨Nat.zero_le _, Nat.zero_le _⟩
 rename_i p hp
 have hm := List.mem_of_getLast? hp
 split
 rotate_left
 ·exact BF.app h (fun q hq => by rw [List.mem_singleton.1 hq]; exact ⟨Nat.zero_le _, Nat.zero_le _⟩)
 exact BF.app (fun q hq => h q (List.dropLast_subset _ hq)) (fun q hq => by rw [List.mem_singleton.1 hq]; exact h p hm)
theorem Fe {n : Nat} {s : List Pt × ByteArray × ByteArray} (p : Pt) (h : BF n s.1) (ha : s.2.1.size ≤ 300 * n) (hb : s.2.2.size ≤ 300 * n) : BF n (takeP s p).1 := by
 unfold takeP keepS
 simp only
 split
 ·exact h
 exact EF (BF.app h (DC ha hb)) _
theorem D8 (l : List IP) (hs : ∀ x ∈ l, x.f1.size ≤ 300 ∧ x.f2.size ≤ 300) : ∀ i, i ≤ l.length → BF i (stN l i).1
 | 0, _ => fun q h => by cases h
 | i + 1, h => by
  have ih := D8 l hs i (by omega)
  obtain ⟨_, h2, h3⟩ := stN_bound l hs i (by omega)
  rw [stN_succ l i (by omega)]
  intro q hq
  have := Fe (toP (l[i]'(by omega))) ih h2 h3 q hq
  omega
def BU (a b : List IP) : List IP × Bool :=
 if Ac a = true ∧ Ac b = true then
  (match Ap (Ay a) (Ay b) with
   | some z => if Ac (Cz z) = true then (Cz z, true) else ([], false)
   | none => ([], false))
 else ([], false)
theorem C7 {a b : List IP} (h : ¬ (Ac a = true ∧ Ac b = true)) : BU a b = ([], false) := by unfold BU; rw [if_neg h]
theorem Cj {a b : List IP} (h : Ap (Ay a) (Ay b) = none) : BU a b = ([], false) := by unfold BU; rw [h]; split <;> rfl
theorem CZ {a b : List IP} (h : Ac a = true ∧ Ac b = true) {z : List At} (hz : Ap (Ay a) (Ay b) = some z) : BU a b = if Ac (Cz z) = true then (Cz z, true) else ([], false) := by unfold BU; rw [if_pos h, hz]
theorem Dq {a b : List IP} (h : (BU a b).2 = true) : Ac a = true ∧ Ac b = true ∧ ∃ z, Ap (Ay a) (Ay b) = some z ∧ Ac (Cz z) = true ∧ BU a b = (Cz z, true) := by
 by_cases g : Ac a = true ∧ Ac b = true
 rotate_left
 ·rw [C7 g] at h; cases h
 cases hz : Ap (Ay a) (Ay b) with
 | none => rw [Cj hz] at h; cases h
 | some z =>
  rw [CZ g hz] at h ⊢
  by_cases gz : Ac (Cz z) = true
  rotate_left
  ·rw [if_neg gz] at h; cases h
  rw [if_pos gz]; exact ⟨g.1, g.2, z, rfl, gz, rfl⟩
theorem Hh (a b : List IP) : (BU a b).1.length ≤ 60 := by
 by_cases h : (BU a b).2 = true
 ·obtain ⟨_, _, z, _, gz, e⟩ := Dq h
  rw [e]; exact (Ab gz).1
 by_cases g : Ac a = true ∧ Ac b = true
 rotate_left
 ·rw [C7 g]; simp
 cases hz : Ap (Ay a) (Ay b) with
 | none => rw [Cj hz]; simp
 | some z =>
  rw [CZ g hz] at h ⊢
  by_cases gz : Ac (Cz z) = true
  rotate_left
  ·rw [if_neg gz]; simp
  rw [if_pos gz]; exact (Ab gz).1
theorem A7 (l : List IP) (hl : l.length ≤ 1000) (hp : ∀ p ∈ l, AV p) : (∀ x ∈ Ad l, x.f1.size ≤ 1048576 ∧ x.f2.size ≤ 1048576) ∧ (Ad l).length ≤ 3 * l.length + 2 := by
 have hs : ∀ x ∈ l, x.f1.size ≤ 300 ∧ x.f2.size ≤ 300 := fun x hx => ⟨(hp x hx).2.2.1, (hp x hx).2.2.2.1⟩
 obtain ⟨b0, b2, b3⟩ := stN_bound l hs l.length (Nat.le_refl _)
 have b1 := D8 l hs l.length (Nat.le_refl _)
 have e : stN l l.length = (l.map toP).foldl takeP ([], ⟨#[]⟩, ⟨#[]⟩) := by unfold stN; rw [List.take_of_length_le (Nat.le_refl _)]
 rw [e] at b0 b1 b2 b3
 refine ⟨fun x hx => ?_, ?_⟩
 ·unfold Ad normP at hx
  obtain ⟨q, hq, rfl⟩ := List.mem_map.1 hx
  have := BF.app b1 (DC b2 b3) q hq
  exact ⟨by show q.2.1.size ≤ _; omega, by show q.2.2.size ≤ _; omega⟩
 have := CB ((l.map toP).foldl takeP ([], ⟨#[]⟩, ⟨#[]⟩)).2.1 ((l.map toP).foldl takeP ([], ⟨#[]⟩, ⟨#[]⟩)).2.2
 unfold Ad normP
 rw [List.length_map, List.length_append]; omega
theorem Dy (l : List IP) (hp : ∀ p ∈ l, AV p) : ((l.map toP).foldl takeP ([], ⟨#[]⟩, ⟨#[]⟩)).1.length ≤ 3 * l.length := by
 have hs : ∀ x ∈ l, x.f1.size ≤ 300 ∧ x.f2.size ≤ 300 := fun x hx => ⟨(hp x hx).2.2.1, (hp x hx).2.2.2.1⟩
 obtain ⟨b0, _, _⟩ := stN_bound l hs l.length (Nat.le_refl _)
 have e : stN l l.length = (l.map toP).foldl takeP ([], ⟨#[]⟩, ⟨#[]⟩) := by unfold stN; rw [List.take_of_length_le (Nat.le_refl _)]
 rw [e] at b0; exact b0
theorem CP {l : List IP} (h : Ac l = true) : BB l := by
 obtain ⟨_, hp, _, _⟩ := Ab h
 intro p hm
 refine ⟨Ak (hp p hm), ?_⟩
 have hb := hp p hm
 unfold Af at hb
 unfold As
 by_cases c0 : p.f0 = 0
 rotate_left
 ·have := (Ak (hp p hm)).1; omega
 rw [if_pos c0] at hb
 by_cases c1 : p.f1.toList = ([] : List UInt8)
 rotate_left
 ·rw [Aa] at c1; omega
 rw [if_pos c1] at hb
 by_cases c2 : p.f2.toList = ([] : List UInt8)
 rotate_left
 ·rw [Aa] at c2; omega
 rw [if_pos c2] at hb; cases hb
theorem Bn : ∀ a b : List At, Cv (a ++ b) = Cv a + Cv b
 | [], b => by simp [Cv]
 | .k :: a, b => by rw [List.cons_append]; simp only [Cv]; rw [Bn a b]; omega
 | .p c :: a, b => by rw [List.cons_append]; simp only [Cv]; rw [Bn a b]; omega
 | .d c :: a, b => by rw [List.cons_append]; simp only [Cv]; rw [Bn a b]
theorem AI : ∀ a b : List At, B4 (a ++ b) = B4 a + B4 b
 | [], b => by simp [B4]
 | .k :: a, b => by rw [List.cons_append]; simp only [B4]; rw [AI a b]; omega
 | .p c :: a, b => by rw [List.cons_append]; simp only [B4]; rw [AI a b]
 | .d c :: a, b => by rw [List.cons_append]; simp only [B4]; rw [AI a b]; omega
theorem HW : ∀ n, Cv (kA n) = n
 | 0 => rfl
 | n + 1 => by show Cv (kA n) + 1 = _; rw [HW n]
theorem H3 : ∀ n, B4 (kA n) = n
 | 0 => rfl
 | n + 1 => by show B4 (kA n) + 1 = _; rw [H3 n]
theorem GF : ∀ l : List UInt8, Cv (l.map At.p) = l.length
 | [] => rfl
 | c :: l => by show Cv (l.map At.p) + 1 = _; rw [GF l]; rfl
theorem Gr : ∀ l : List UInt8, Cv (l.map At.d) = 0
 | [] => rfl
 | c :: l => Gr l
theorem Gi : ∀ l : List UInt8, B4 (l.map At.p) = 0
 | [] => rfl
 | c :: l => Gi l
theorem GJ : ∀ l : List UInt8, B4 (l.map At.d) = l.length
 | [] => rfl
 | c :: l => by show B4 (l.map At.d) + 1 = _; rw [GJ l]; rfl
theorem CH (p : IP) : Cv (AU p) = p.f0.toNat + p.f1.size := by
 unfold AU pA dA
 rw [Bn, Bn, HW, GF, Gr, Array.length_toList]; rfl
theorem AX (p : IP) : B4 (AU p) = p.f0.toNat + p.f2.size := by
 unfold AU pA dA
 rw [AI, AI, H3, Gi, GJ, Array.length_toList]; show _ + (0 + p.f2.size) = _; omega
theorem DM : ∀ l : List IP, Cv (Ay l) = Au (l.map D6)
 | [] => rfl
 | p :: l => by rw [Ae, Bn, CH, List.map_cons, A3, DM l]; rfl
theorem B6 : ∀ l : List IP, B4 (Ay l) = Au l
 | [] => rfl
 | p :: l => by rw [Ae, AI, AX, A3, B6 l]; rfl
def AP : List At → List At → Option (List At × List At)
 | .p c :: x, y => (AP x y).map (fun r => (At.p c :: r.1, At.k :: r.2))
 | x, .p c :: y => (AP x y).map (fun r => (At.k :: r.1, At.p c :: r.2))
 | [], [] => some ([], [])
 | .k :: x, .k :: y => (AP x y).map (fun r => (At.k :: r.1, At.k :: r.2))
 | .k :: x, .d c :: y => (AP x y).map (fun r => (r.1, At.d c :: r.2))
 | .d c :: x, .k :: y => (AP x y).map (fun r => (At.d c :: r.1, r.2))
 | .d _ :: x, .d _ :: y => AP x y
 | _, _ => none
termination_by x y => x.length + y.length
theorem Iw (c : UInt8) (x y : List At) : AP (.p c :: x) y = (AP x y).map (fun r => (At.p c :: r.1, At.k :: r.2)) := by
 cases y with
 | nil => rw [AP]
 | cons b y => cases b <;> rw [AP]
theorem Ia (c : UInt8) (y : List At) : AP [] (.p c :: y) = (AP [] y).map (fun r => (At.k :: r.1, At.p c :: r.2)) := by rw [AP]; intro _ _ h; cases h
theorem H0 (c : UInt8) (x y : List At) : AP (.k :: x) (.p c :: y) = (AP (.k :: x) y).map (fun r => (At.k :: r.1, At.p c :: r.2)) := by rw [AP]; intro _ _ h; cases h
theorem H6 (c e : UInt8) (x y : List At) : AP (.d e :: x) (.p c :: y) = (AP (.d e :: x) y).map (fun r => (At.k :: r.1, At.p c :: r.2)) := by rw [AP]; intro _ _ h; cases h
theorem H5 : AP [] [] = some ([], []) := by rw [AP]
theorem HZ (x y : List At) : AP (.k :: x) (.k :: y) = (AP x y).map (fun r => (At.k :: r.1, At.k :: r.2)) := by rw [AP]
theorem H9 (c : UInt8) (x y : List At) : AP (.k :: x) (.d c :: y) = (AP x y).map (fun r => (r.1, At.d c :: r.2)) := by rw [AP]
theorem H4 (c : UInt8) (x y : List At) : AP (.d c :: x) (.k :: y) = (AP x y).map (fun r => (At.d c :: r.1, r.2)) := by rw [AP]
theorem HR (c e : UInt8) (x y : List At) : AP (.d c :: x) (.d e :: y) = AP x y := by rw [AP]
def CJ (a b : List At) (o : Option (List At × List At)) : Option (List At × List At) := o.map (fun r => (a ++ r.1, b ++ r.2))
theorem Bw (o : Option (List At × List At)) : CJ [] [] o = o := by cases o <;> rfl
theorem Dz (a b : At) (c d : List At) (o : Option (List At × List At)) : (CJ c d o).map (fun r => (a :: r.1, b :: r.2)) = CJ (a :: c) (b :: d) o := by cases o <;> rfl
def IC : List At → Prop
 | .p _ :: _ => False
 | _ => True
theorem IK {x : List At} (h : IC x) (c : UInt8) (y : List At) : AP x (.p c :: y) = (AP x y).map (fun r => (At.k :: r.1, At.p c :: r.2)) := by
 cases x with
 | nil => exact Ia c y
 | cons a x =>
  cases a with
  | k => exact H0 c x y
  | p e => exact h.elim
  | d e => exact H6 c e x y
theorem H1 : ∀ (l : List UInt8) (x y : List At), AP (l.map At.p ++ x) y = CJ (l.map At.p) (kA l.length) (AP x y)
 | [], x, y => (Bw _).symm
 | c :: l, x, y => by rw [List.map_cons, List.cons_append, Iw, H1 l x y, Dz]; rfl
theorem H2 {x : List At} (h : IC x) : ∀ (l : List UInt8) (y : List At), AP x (l.map At.p ++ y) = CJ (kA l.length) (l.map At.p) (AP x y)
 | [], y => (Bw _).symm
 | c :: l, y => by rw [List.map_cons, List.cons_append, IK h, H2 h l y, Dz]; rfl
theorem Hl : ∀ (n : Nat) (x y : List At), AP (kA n ++ x) (kA n ++ y) = CJ (kA n) (kA n) (AP x y)
 | 0, x, y => (Bw _).symm
 | n + 1, x, y => by
  have e : kA (n + 1) = At.k :: kA n := rfl
  rw [e, List.cons_append, List.cons_append, HZ, Hl n x y, Dz]
theorem GW : ∀ (l : List UInt8) (x y : List At), AP (kA l.length ++ x) (l.map At.d ++ y) = CJ [] (l.map At.d) (AP x y)
 | [], x, y => (Bw _).symm
 | c :: l, x, y => by
  have e : kA (c :: l).length = At.k :: kA l.length := rfl
  rw [e, List.map_cons, List.cons_append, List.cons_append, H9, GW l x y]
  cases AP x y <;> rfl
theorem Gq : ∀ (l : List UInt8) (x y : List At), AP (l.map At.d ++ x) (kA l.length ++ y) = CJ (l.map At.d) [] (AP x y)
 | [], x, y => (Bw _).symm
 | c :: l, x, y => by
  have e : kA (c :: l).length = At.k :: kA l.length := rfl
  rw [e, List.map_cons, List.cons_append, List.cons_append, H4, Gq l x y]
  cases AP x y <;> rfl
theorem Gm : ∀ (l m : List UInt8) (x y : List At), l.length = m.length → AP (l.map At.d ++ x) (m.map At.d ++ y) = AP x y
 | [], [], x, y, _ => rfl
 | c :: l, e :: m, x, y, h => by
  rw [List.map_cons, List.map_cons, List.cons_append, List.cons_append, HR]
  exact Gm l m x y (by simpa using h)
theorem Hr (a b : IP) (x y : List At) (ha : AV a) (hb : AV b) (hs : As a = As b) (h1 : a.f1.size = 0) (h2 : b.f1.size = 0) :
  AP (AU a ++ x) (AU b ++ y) = CJ (if 0 < b.f0 then AU a else []) (if 0 < a.f0 then AU b else []) (AP x y) := by
 by_cases ka : 0 < a.f0
 ·rw [if_pos ka, (AQ ha ka).2]
  by_cases kb : 0 < b.f0
  ·rw [if_pos kb, (AQ hb kb).2, hs]; exact Hl _ x y
  obtain ⟨e1, e2⟩ := BA hb kb h2
  rw [if_neg kb, e1, hs, ← e2]; exact GW _ x y
 obtain ⟨f1, f2⟩ := BA ha ka h1
 rw [if_neg ka, f1]
 by_cases kb : 0 < b.f0
 ·rw [if_pos kb, (AQ hb kb).2, ← hs, ← f2]; exact Gq _ x y
 obtain ⟨e1, e2⟩ := BA hb kb h2
 rw [if_neg kb, e1, Bw]; exact Gm _ _ x y (by omega)
def Cb (n : Nat) : IP := ⟨n, ⟨#[]⟩, ⟨#[]⟩⟩
theorem BO {n : Nat} (h : n ≤ 300) : AV (Cb n) := ⟨by show (0 : Int) ≤ n; omega, by show (n : Int) ≤ 300; omega, Nat.zero_le _, Nat.zero_le _, .inr ⟨rfl, rfl⟩, .inl rfl⟩
theorem E6 (n : Nat) : AU (Cb n) = kA n := by
 unfold AU Cb
 dsimp only
 rw [Int.toNat_natCast, Bs rfl, By (s := ⟨#[]⟩) rfl, List.append_nil, List.append_nil]
theorem FT (p : IP) (x y : List At) (h : AV p) (hd : p.f1.size ≠ 0) : AP (AU p ++ x) y = CJ (AU p) (AU (Cb p.f1.size)) (AP x y) := by
 have hk : ¬ 0 < p.f0 := fun z => by have := h.2.2.2.2.1; omega
 have h1 : p.f2.size = 0 := by have := h.2.2.2.2.2; omega
 obtain ⟨e1, e2⟩ := CD h hk h1
 rw [E6, e1, H1, Array.length_toList]; rfl
theorem FQ (q : IP) (x y : List At) (h : AV q) (hd : q.f1.size ≠ 0) (hn : IC x) : AP x (AU q ++ y) = CJ (AU (Cb q.f1.size)) (AU q) (AP x y) := by
 have hk : ¬ 0 < q.f0 := fun z => by have := h.2.2.2.2.1; omega
 have h1 : q.f2.size = 0 := by have := h.2.2.2.2.2; omega
 obtain ⟨e1, e2⟩ := CD h hk h1
 rw [E6, e1, H2 hn, Array.length_toList]; rfl
theorem Gt (p : IP) (x : List IP) (h : AV p) (hz : 0 < As p) (hd : p.f1.size = 0) : IC (Ay (p :: x)) := by
 rw [Ae]
 by_cases hk : 0 < p.f0
 ·rw [(AQ h hk).2]
  obtain ⟨m, hm⟩ : ∃ m, As p = m + 1 := ⟨As p - 1, by omega⟩
  rw [hm]; exact True.intro
 obtain ⟨e1, e2⟩ := BA h hk hd
 rw [e1]
 cases hl : p.f2.data.toList with
 | nil => rw [hl] at e2; simp at e2; omega
 | cons c l => exact True.intro
theorem Fi (s : CM) (n : Nat) : takeP s (toP (Cb n)) = Go.Proofs.Ytoagljlnfakgjaa.Mk.keepS s.1 s.2.1 s.2.2 (n : Int) := by
 unfold takeP toP Cb
 dsimp only
 rw [A2, A2]
theorem Fit.more {n : Nat} {s : CM} (h : Fit n s) : Fit (n + 1) s :=
 ⟨h.last.imp id (fun ⟨u, v, w, z⟩ => ⟨u, v, w, z.1, by omega⟩), by have := h.len; omega, by have := h.put; omega, by have := h.drop; omega⟩
theorem BP {o : Option (List At)} {l : List At} (h : Av o (some l)) : ∃ m, o = some m ∧ Sim m l := by
 cases o with
 | none => exact h.elim
 | some m => exact ⟨m, rfl, h⟩
theorem Fk {o : Option (List At)} {l : List At} (h : Av (some l) o) : ∃ m, o = some m ∧ Sim l m := by
 cases o with
 | none => exact h.elim
 | some m => exact ⟨m, rfl, h⟩
def Al : List At → List UInt8 → Option (List UInt8)
 | [], [] => some []
 | .k :: x, c :: s => (Al x s).map (c :: ·)
 | .p c :: x, s => (Al x s).map (c :: ·)
 | .d c :: x, e :: s => if c = e then Al x s else none
 | _, _ => none
theorem BI (c : UInt8) (x : List At) (s : List UInt8) : Al (.p c :: x) s = (Al x s).map (c :: ·) := by cases s <;> rfl
theorem Fm (x : List At) : Al (.k :: x) [] = none := rfl
theorem GV (c : UInt8) (x : List At) : Al (.d c :: x) [] = none := rfl
theorem HT (c : UInt8) (s : List UInt8) : Al [] (c :: s) = none := rfl
theorem BK : ∀ (n : Nat) (x y z : List At) (s t : List UInt8), x.length + y.length ≤ n → Ap x y = some z → Al x s = some t → Al z s = Al y t
 | 0, .d c :: x, y, z, s, t, hn, h, hr => absurd hn (by simp only [List.length_cons]; omega)
 | 0, [], .p c :: y, z, s, t, hn, h, hr => absurd hn (by simp only [List.length_cons]; omega)
 | 0, .k :: x, .p c :: y, z, s, t, hn, h, hr => absurd hn (by simp only [List.length_cons]; omega)
 | 0, .p e :: x, .p c :: y, z, s, t, hn, h, hr => absurd hn (by simp only [List.length_cons]; omega)
 | 0, .k :: x, .k :: y, z, s, t, hn, h, hr => absurd hn (by simp only [List.length_cons]; omega)
 | 0, .k :: x, .d c :: y, z, s, t, hn, h, hr => absurd hn (by simp only [List.length_cons]; omega)
 | 0, .p c :: x, .k :: y, z, s, t, hn, h, hr => absurd hn (by simp only [List.length_cons]; omega)
 | 0, .p c :: x, .d e :: y, z, s, t, hn, h, hr => absurd hn (by simp only [List.length_cons]; omega)
 | n, [], [], z, s, t, _, h, hr => by
  rw [FV] at h; cases h
  cases s with
  | nil => cases hr; rfl
  | cons c s => rw [HT] at hr; cases hr
 | n + 1, .d c :: x, y, z, s, t, hn, h, hr => by
  rw [Bo] at h
  obtain ⟨z', h1, rfl⟩ := Option.map_eq_some_iff.1 h
  cases s with
  | nil => rw [GV] at hr; cases hr
  | cons e s =>
   have e1 : ∀ x, Al (.d c :: x) (e :: s) = if c = e then Al x s else none := fun _ => rfl
   rw [e1] at hr ⊢
   by_cases q : c = e
   ·rw [if_pos q] at hr ⊢
    exact BK n x y z' s t (by simp only [List.length_cons] at hn; omega) h1 hr
   ·rw [if_neg q] at hr; cases hr
 | n + 1, [], .p c :: y, z, s, t, hn, h, hr => by
  rw [Ds] at h
  obtain ⟨z', h1, rfl⟩ := Option.map_eq_some_iff.1 h
  rw [BI, BI, BK n [] y z' s t (by simp only [List.length_cons] at hn ⊢; omega) h1 hr]
 | n + 1, .k :: x, .p c :: y, z, s, t, hn, h, hr => by
  rw [Cx] at h
  obtain ⟨z', h1, rfl⟩ := Option.map_eq_some_iff.1 h
  rw [BI, BI, BK n _ y z' s t (by simp only [List.length_cons] at hn ⊢; omega) h1 hr]
 | n + 1, .p e :: x, .p c :: y, z, s, t, hn, h, hr => by
  rw [Ce] at h
  obtain ⟨z', h1, rfl⟩ := Option.map_eq_some_iff.1 h
  rw [BI, BI, BK n _ y z' s t (by simp only [List.length_cons] at hn ⊢; omega) h1 hr]
 | n, [], .k :: y, z, s, t, _, h, _ => by rw [FJ] at h; cases h
 | n, [], .d c :: y, z, s, t, _, h, _ => by rw [DY] at h; cases h
 | n, .k :: x, [], z, s, t, _, h, _ => by rw [FL] at h; cases h
 | n, .p c :: x, [], z, s, t, _, h, _ => by rw [CW] at h; cases h
 | n + 1, .k :: x, .k :: y, z, s, t, hn, h, hr => by
  rw [Cr] at h
  obtain ⟨z', h1, rfl⟩ := Option.map_eq_some_iff.1 h
  cases s with
  | nil => rw [Fm] at hr; cases hr
  | cons e s =>
   have e1 : ∀ x s, Al (.k :: x) (e :: s) = (Al x s).map (e :: ·) := fun _ _ => rfl
   rw [e1] at hr
   obtain ⟨t', h2, rfl⟩ := Option.map_eq_some_iff.1 hr
   rw [e1, e1, BK n x y z' s t' (by simp only [List.length_cons] at hn; omega) h1 h2]
 | n + 1, .k :: x, .d c :: y, z, s, t, hn, h, hr => by
  rw [B1] at h
  obtain ⟨z', h1, rfl⟩ := Option.map_eq_some_iff.1 h
  cases s with
  | nil => rw [Fm] at hr; cases hr
  | cons e s =>
   have e1 : ∀ x s, Al (.k :: x) (e :: s) = (Al x s).map (e :: ·) := fun _ _ => rfl
   have e2 : ∀ x s, Al (.d c :: x) (e :: s) = if c = e then Al x s else none := fun _ _ => rfl
   rw [e1] at hr
   obtain ⟨t', h2, rfl⟩ := Option.map_eq_some_iff.1 hr
   rw [e2, e2, BK n x y z' s t' (by simp only [List.length_cons] at hn; omega) h1 h2]
 | n + 1, .p c :: x, .k :: y, z, s, t, hn, h, hr => by
  rw [A6] at h
  obtain ⟨z', h1, rfl⟩ := Option.map_eq_some_iff.1 h
  rw [BI] at hr
  obtain ⟨t', h2, rfl⟩ := Option.map_eq_some_iff.1 hr
  have e1 : ∀ x s, Al (.k :: x) (c :: s) = (Al x s).map (c :: ·) := fun _ _ => rfl
  rw [BI, e1, BK n x y z' s t' (by simp only [List.length_cons] at hn; omega) h1 h2]
 | n + 1, .p c :: x, .d e :: y, z, s, t, hn, h, hr => by
  rw [B9] at h
  by_cases q : c = e
  ·rw [if_pos q] at h
   rw [BI] at hr
   obtain ⟨t', h2, rfl⟩ := Option.map_eq_some_iff.1 hr
   have e2 : ∀ x s, Al (.d e :: x) (c :: s) = if e = c then Al x s else none := fun _ _ => rfl
   rw [e2, if_pos q.symm]
   exact BK n x y z s t' (by simp only [List.length_cons] at hn; omega) h h2
  ·rw [if_neg q] at h; cases h
theorem HO {x y : List At} (h : Sim x y) : ∀ s, Al x s = Al y s := by
 induction h with
 | refl _ => exact fun _ => rfl
 | cons a _ ih =>
  intro s
  cases a with
  | k => cases s with
   | nil => rfl
   | cons c s => show (Al _ s).map _ = (Al _ s).map _; rw [ih]
  | p c => rw [BI, BI, ih]
  | d c => cases s with
   | nil => rfl
   | cons e s => show (if c = e then Al _ s else none) = (if c = e then Al _ s else none); rw [ih]
 | swap c d m =>
  intro s
  rw [BI]
  cases s with
  | nil => rfl
  | cons e s =>
   show Option.map _ (if d = e then Al m s else none) = (if d = e then Al (.p c :: m) s else none)
   by_cases q : d = e
   rotate_left
   ·rw [if_neg q, if_neg q]; rfl
   rw [if_pos q, if_pos q, BI]
 | symm _ ih => exact fun s => (ih s).symm
 | trans _ _ i1 i2 => exact fun s => (i1 s).trans (i2 s)
def Bt (s : ByteArray) : List UInt8 := s.data.toList
def oB (l : List UInt8) : ByteArray := ⟨l.toArray⟩
theorem B5 (a b : ByteArray) : Bt (a ++ b) = Bt a ++ Bt b := by unfold Bt; rw [ByteArray.data_append, Array.toList_append]
theorem Ge (a : ByteArray) : (Bt a).length = a.size := by unfold Bt; rw [Array.length_toList]; rfl
theorem Fs {a b : ByteArray} (h : Bt a = Bt b) : a = b := ByteArray.ext (Array.toList_inj.1 h)
theorem C4 (l : List UInt8) : Bt (oB l) = l := by simp [Bt, oB]
theorem Hx (l : List UInt8) : (oB l).size = l.length := by rw [← Ge, C4]
theorem Ec : ∀ (K : List UInt8) (x : List At) (s : List UInt8), Al (kA K.length ++ x) (K ++ s) = (Al x s).map (K ++ ·)
 | [], x, s => by simp [kA]
 | c :: K, x, s => by
  have e : kA (c :: K).length = At.k :: kA K.length := rfl
  have e1 : ∀ y t, Al (.k :: y) (c :: t) = (Al y t).map (c :: ·) := fun _ _ => rfl
  rw [e, List.cons_append, List.cons_append, e1, Ec K x s]
  cases Al x s <;> rfl
theorem DG : ∀ (P : List UInt8) (x : List At) (s : List UInt8), Al (P.map At.p ++ x) s = (Al x s).map (P ++ ·)
 | [], x, s => by simp
 | c :: P, x, s => by
  rw [List.map_cons, List.cons_append, BI, DG P x s]; cases Al x s <;> rfl
theorem Ea : ∀ (D : List UInt8) (x : List At) (s : List UInt8), Al (D.map At.d ++ x) (D ++ s) = Al x s
 | [], x, s => by simp
 | c :: D, x, s => by
  have e1 : ∀ y t, Al (.d c :: y) (c :: t) = if c = c then Al y t else none := fun _ _ => rfl
  rw [List.map_cons, List.cons_append, List.cons_append, e1, if_pos rfl]; exact Ea D x s
theorem Cq : ∀ (n : Nat) (x : List At) (s u : List UInt8), Al (kA n ++ x) s = some u → ∃ K s' u', K.length = n ∧ s = K ++ s' ∧ u = K ++ u' ∧ Al x s' = some u'
 | 0, x, s, u, h => ⟨[], s, u, rfl, rfl, rfl, h⟩
 | n + 1, x, s, u, h => by
  have e : kA (n + 1) = At.k :: kA n := rfl
  rw [e, List.cons_append] at h
  cases s with
  | nil => rw [Fm] at h; cases h
  | cons c s =>
   have e1 : Al (.k :: (kA n ++ x)) (c :: s) = (Al (kA n ++ x) s).map (c :: ·) := rfl
   rw [e1] at h
   obtain ⟨u1, h1, rfl⟩ := Option.map_eq_some_iff.1 h
   obtain ⟨K, s', u', a, b, c', d⟩ := Cq n x s u1 h1
   exact ⟨c :: K, s', u', by rw [List.length_cons, a], by rw [b]; rfl, by rw [c']; rfl, d⟩
theorem Cp : ∀ (D : List UInt8) (x : List At) (s u : List UInt8), Al (D.map At.d ++ x) s = some u → ∃ s', s = D ++ s' ∧ Al x s' = some u
 | [], x, s, u, h => ⟨s, rfl, h⟩
 | c :: D, x, s, u, h => by
  rw [List.map_cons, List.cons_append] at h
  cases s with
  | nil => rw [GV] at h; cases h
  | cons e s =>
   have e1 : Al (.d c :: (D.map At.d ++ x)) (e :: s) = if c = e then Al (D.map At.d ++ x) s else none := rfl
   rw [e1] at h
   by_cases q : c = e
   ·rw [if_pos q] at h
    obtain ⟨s', a, b⟩ := Cp D x s u h
    exact ⟨s', by rw [q, a]; rfl, b⟩
   ·rw [if_neg q] at h; cases h
theorem Gj (p : IP) (r : List IP) : Ay (p :: r) = kA p.f0.toNat ++ ((Bt p.f1).map At.p ++ ((Bt p.f2).map At.d ++ Ay r)) := by
 rw [Ae]; unfold AU; rw [List.append_assoc, List.append_assoc]; rfl
theorem C9 : ∀ (l : List IP) (s t : ByteArray), G2 l s t → Al (Ay l) (Bt s) = some (Bt t)
 | [], s, t, h => by rw [h.1, h.2]; rfl
 | p :: r, s, t, ⟨K, s', t', h1, h2, h3, h4⟩ => by
  have ih := C9 r s' t' h4
  rw [Gj, ← h1, ← Ge K, h2, h3, B5, B5, B5, B5, Ec, DG, Ea, ih]; rfl
theorem FS : ∀ (l : List IP) (s u : List UInt8), Al (Ay l) s = some u → G2 l (oB s) (oB u)
 | [], s, u, h => by
  cases s with
  | nil => cases h; exact ⟨rfl, rfl⟩
  | cons c s => rw [Ba, HT] at h; cases h
 | p :: r, s, u, h => by
  rw [Gj] at h
  obtain ⟨K, s1, u1, k1, rfl, rfl, h1⟩ := Cq _ _ _ _ h
  rw [DG] at h1
  obtain ⟨u2, h2, rfl⟩ := Option.map_eq_some_iff.1 h1
  obtain ⟨s2, rfl, h3⟩ := Cp _ _ _ _ h2
  exact ⟨oB K, oB s2, oB u2, by rw [Hx, k1], Fs (by rw [B5, B5, C4, C4, C4]), Fs (by rw [B5, B5, C4, C4, C4]), FS r s2 u2 h3⟩
theorem HS (s : ByteArray) : oB (Bt s) = s := Fs (C4 _)
theorem GL {l : List IP} {s : ByteArray} (h : ¬ (Cu l s).2 = true) : Cu l s = (E0, false) := by
 unfold Cu at h ⊢
 split
 rotate_left
 ·rfl
 rename_i h1; rw [if_pos h1] at h
 split
 rotate_left
 ·rfl
 rename_i h2; rw [if_pos h2] at h
 split
 rotate_left
 ·rfl
 rename_i h3; rw [if_pos h3] at h
 split
 rotate_left
 ·rfl
 rename_i h4; rw [if_pos h4] at h; exact absurd h4 h
def C5 : List At → List UInt8
 | [] => []
 | .k :: x => 0 :: C5 x
 | .p _ :: x => C5 x
 | .d c :: x => c :: C5 x
def ID : List UInt8 → List UInt8 → Prop
 | a :: l, b :: m => (a = 0 ∨ b = 0 ∨ a = b) ∧ ID l m
 | _, _ => True
def HI (x : List At) : Prop := ∀ c, At.d c ∈ x → c ≠ 0
theorem AT {a : At} {x : List At} (h : HI (a :: x)) : HI x := fun c hc => h c (List.mem_cons_of_mem _ hc)
theorem AJ : ∀ (n : Nat) (x y u v : List At), x.length + y.length ≤ n → AP x y = some (u, v) → ID (C5 x) (C5 y) → HI x → HI y → Av (Ap x v) (Ap y u) ∧ ∃ z, Ap x v = some z
 | n, .p c :: x, y, u, v, hn, h, ha, hx, hy => by
  rw [Iw] at h
  obtain ⟨⟨u', v'⟩, h1, h2⟩ := Option.map_eq_some_iff.1 h
  obtain ⟨rfl, rfl⟩ := Prod.mk.inj h2
  match n, hn with
  | 0, hn => simp only [List.length_cons] at hn; omega
  | n + 1, hn =>
   obtain ⟨ih, z, hz⟩ := AJ n x y u' v' (by simp only [List.length_cons] at hn; omega) h1 ha (AT hx) hy
   refine ⟨?_, At.p c :: z, ?_⟩
   ·rw [A6]; exact (ih.map _).trans (BL c u' y).symm
   ·rw [A6, hz]; rfl
 | n, [], .p c :: y, u, v, hn, h, ha, hx, hy => by
  rw [Ia] at h
  obtain ⟨⟨u', v'⟩, h1, h2⟩ := Option.map_eq_some_iff.1 h
  obtain ⟨rfl, rfl⟩ := Prod.mk.inj h2
  match n, hn with
  | 0, hn => simp only [List.length_cons] at hn; omega
  | n + 1, hn =>
   obtain ⟨ih, z, hz⟩ := AJ n [] y u' v' (by simp only [List.length_cons] at hn; omega) h1 ha hx (AT hy)
   have q := BL c v' []
   rw [hz] at q
   obtain ⟨m, hm, _⟩ := BP q
   refine ⟨?_, m, hm⟩
   rw [A6]; exact (BL c v' []).trans (ih.map _)
 | n, .k :: x, .p c :: y, u, v, hn, h, ha, hx, hy => by
  rw [H0] at h
  obtain ⟨⟨u', v'⟩, h1, h2⟩ := Option.map_eq_some_iff.1 h
  obtain ⟨rfl, rfl⟩ := Prod.mk.inj h2
  match n, hn with
  | 0, hn => simp only [List.length_cons] at hn; omega
  | n + 1, hn =>
   obtain ⟨ih, z, hz⟩ := AJ n (.k :: x) y u' v' (by simp only [List.length_cons] at hn ⊢; omega) h1 ha hx (AT hy)
   have q := BL c v' (.k :: x)
   rw [hz] at q
   obtain ⟨m, hm, _⟩ := BP q
   refine ⟨?_, m, hm⟩
   rw [A6]; exact (BL c v' _).trans (ih.map _)
 | n, .d e :: x, .p c :: y, u, v, hn, h, ha, hx, hy => by
  rw [H6] at h
  obtain ⟨⟨u', v'⟩, h1, h2⟩ := Option.map_eq_some_iff.1 h
  obtain ⟨rfl, rfl⟩ := Prod.mk.inj h2
  match n, hn with
  | 0, hn => simp only [List.length_cons] at hn; omega
  | n + 1, hn =>
   obtain ⟨ih, z, hz⟩ := AJ n (.d e :: x) y u' v' (by simp only [List.length_cons] at hn ⊢; omega) h1 ha hx (AT hy)
   have q := BL c v' (.d e :: x)
   rw [hz] at q
   obtain ⟨m, hm, _⟩ := BP q
   refine ⟨?_, m, hm⟩
   rw [A6]; exact (BL c v' _).trans (ih.map _)
 | n, [], [], u, v, hn, h, ha, hx, hy => by
  rw [H5] at h
  obtain ⟨rfl, rfl⟩ := Prod.mk.inj (Option.some.inj h)
  exact ⟨Av.refl _, [], FV⟩
 | n, [], .k :: y, u, v, hn, h, ha, hx, hy => by
  have : AP [] (.k :: y) = none := by rw [AP] <;> (intros; simp_all)
  rw [this] at h; cases h
 | n, [], .d c :: y, u, v, hn, h, ha, hx, hy => by
  have : AP [] (.d c :: y) = none := by rw [AP] <;> (intros; simp_all)
  rw [this] at h; cases h
 | n, .k :: x, [], u, v, hn, h, ha, hx, hy => by
  have : AP (.k :: x) [] = none := by rw [AP] <;> (intros; simp_all)
  rw [this] at h; cases h
 | n, .d c :: x, [], u, v, hn, h, ha, hx, hy => by
  have : AP (.d c :: x) [] = none := by rw [AP] <;> (intros; simp_all)
  rw [this] at h; cases h
 | n, .k :: x, .k :: y, u, v, hn, h, ha, hx, hy => by
  rw [HZ] at h
  obtain ⟨⟨u', v'⟩, h1, h2⟩ := Option.map_eq_some_iff.1 h
  obtain ⟨rfl, rfl⟩ := Prod.mk.inj h2
  match n, hn with
  | 0, hn => simp only [List.length_cons] at hn; omega
  | n + 1, hn =>
   obtain ⟨ih, z, hz⟩ := AJ n x y u' v' (by simp only [List.length_cons] at hn; omega) h1 ha.2 (AT hx) (AT hy)
   refine ⟨?_, At.k :: z, ?_⟩
   ·rw [Cr, Cr]; exact ih.map _
   ·rw [Cr, hz]; rfl
 | n, .k :: x, .d c :: y, u, v, hn, h, ha, hx, hy => by
  rw [H9] at h
  obtain ⟨⟨u', v'⟩, h1, h2⟩ := Option.map_eq_some_iff.1 h
  obtain ⟨rfl, rfl⟩ := Prod.mk.inj h2
  match n, hn with
  | 0, hn => simp only [List.length_cons] at hn; omega
  | n + 1, hn =>
   obtain ⟨ih, z, hz⟩ := AJ n x y u' v' (by simp only [List.length_cons] at hn; omega) h1 ha.2 (AT hx) (AT hy)
   refine ⟨?_, At.d c :: z, ?_⟩
   ·rw [B1, Bo]; exact ih.map _
   ·rw [B1, hz]; rfl
 | n, .d c :: x, .k :: y, u, v, hn, h, ha, hx, hy => by
  rw [H4] at h
  obtain ⟨⟨u', v'⟩, h1, h2⟩ := Option.map_eq_some_iff.1 h
  obtain ⟨rfl, rfl⟩ := Prod.mk.inj h2
  match n, hn with
  | 0, hn => simp only [List.length_cons] at hn; omega
  | n + 1, hn =>
   obtain ⟨ih, z, hz⟩ := AJ n x y u' v' (by simp only [List.length_cons] at hn; omega) h1 ha.2 (AT hx) (AT hy)
   refine ⟨?_, At.d c :: z, ?_⟩
   ·rw [Bo, B1]; exact ih.map _
   ·rw [Bo, hz]; rfl
 | n, .d c :: x, .d e :: y, u, v, hn, h, ha, hx, hy => by
  rw [HR] at h
  have hce : c = e := (ha.1.resolve_left (hx c (List.mem_cons_self ..))).resolve_left (hy e (List.mem_cons_self ..))
  subst hce
  match n, hn with
  | 0, hn => simp only [List.length_cons] at hn; omega
  | n + 1, hn =>
   obtain ⟨ih, z, hz⟩ := AJ n x y u v (by simp only [List.length_cons] at hn; omega) h ha.2 (AT hx) (AT hy)
   refine ⟨?_, At.d c :: z, ?_⟩
   ·rw [Bo, Bo]; exact ih.map _
   ·rw [Bo, hz]; rfl
theorem Cf {p : IP} (h : AV p) : szQ p = (As p : Int) := by
 obtain ⟨q1, q2, q3, q4, _, _⟩ := h
 unfold szQ As
 rw [wrap_id (x := p.f0 + (p.f1.size : Int)) (by omega) (by omega), wrap_id (by omega) (by omega)]; omega
theorem DZ (p : IP) (r : List IP) (n : Nat) (h : AV p) (hr : BB r) (h0 : 0 < n) (h1 : n ≤ As p) :
  ∃ a l', takQ (p :: r) (n : Int) = some (a, l') ∧ CutIs p n a ∧ BB l' ∧ Ay (p :: r) = AU a ++ Ay l' ∧ (n = As p → l' = r) ∧ l'.length ≤ r.length + 1 := by
 by_cases hn : n = As p
 ·subst hn
  refine ⟨p, r, ?_, Dc h, hr, Ae p r, fun _ => rfl, by omega⟩
  unfold takQ
  dsimp only
  rw [if_pos (Cf h).symm]
 have hlt : n < As p := by omega
 have hne : ¬ (n : Int) = szQ p := by rw [Cf h]; omega
 have hp2 := As
 by_cases hk : 0 < p.f0
 ·obtain ⟨c1, ⟨c2, c3⟩, c4⟩ := Dp h h0 hlt hk
  refine ⟨⟨n, p.f1, p.f2⟩, ⟨p.f0 - n, p.f1, p.f2⟩ :: r, ?_, c1, CE c2 (by omega) hr, by rw [Ae, Ae, c4, List.append_assoc], fun q => absurd q hn, by rw [List.length_cons]; omega⟩
  unfold takQ
  dsimp only
  have w : wrap64 (p.f0 - n) = p.f0 - n := by
   have := h.1; have := h.2.1
   have hb : As p ≤ 1000 := by obtain ⟨_, _, q3, q4, _, _⟩ := h; unfold As; omega
   exact wrap_id (by omega) (by omega)
  rw [if_neg hne, if_pos hk, w]
 by_cases hp : p.f1.size = 0
 ·obtain ⟨hn2, c1, ⟨c2, c3⟩, c4⟩ := Dt h h0 hlt hk hp
  refine ⟨⟨p.f0, p.f1, p.f2.extract 0 n⟩, ⟨p.f0, p.f1, p.f2.extract n p.f2.size⟩ :: r, ?_, c1, CE c2 (by omega) hr, by rw [Ae, Ae, c4, List.append_assoc], fun q => absurd q hn, by rw [List.length_cons]; omega⟩
  unfold takQ
  dsimp only
  rw [if_neg hne, if_neg hk, if_pos ((Aa _).2 hp), if_pos (by omega), Int.toNat_natCast]
 obtain ⟨hn2, c1, ⟨c2, c3⟩, c4⟩ := Ei h h0 hlt hk hp
 refine ⟨⟨p.f0, p.f1.extract 0 n, p.f2⟩, ⟨p.f0, p.f1.extract n p.f1.size, p.f2⟩ :: r, ?_, c1, CE c2 (by omega) hr, by rw [Ae, Ae, c4, List.append_assoc], fun q => absurd q hn, by rw [List.length_cons]; omega⟩
 unfold takQ
 dsimp only
 rw [if_neg hne, if_neg hk, if_neg (fun e => hp ((Aa _).1 e)), if_pos (by omega), Int.toNat_natCast]
theorem Da {p : IP} (h : AV p) : szI p = (As p : Int) := by
 obtain ⟨q1, q2, q3, q4, _, _⟩ := h
 unfold szI As
 rw [wrap_id (x := p.f0 + (p.f1.size : Int)) (by omega) (by omega), wrap_id (by omega) (by omega)]; omega
theorem C2 (p : IP) (h : AV p) : zeroP p = true ↔ As p = 0 := by
 obtain ⟨q1, _, _, _, _, _⟩ := h
 unfold zeroP As
 rw [Bool.and_eq_true, Bool.and_eq_true, beq_iff_eq, beq_iff_eq, beq_iff_eq, Aa, Aa]
 omega
theorem CT (p : IP) (r : List IP) (n : Nat) (h : AV p) (hr : BB r) (h0 : 0 < n) (h1 : n ≤ As p) :
  ∃ a y, cutP p (n : Int) = some (a, y) ∧ CutIs p n a ∧ BB (restP y r) ∧ Ay (p :: r) = AU a ++ Ay (restP y r) ∧ (n = As p → restP y r = r) ∧ (restP y r).length ≤ r.length + 1 ∧ (n = As p → a = p) := by
 have key : ∀ (a y : IP), cutP p (n : Int) = some (a, y) → CutIs p n a → AV y → As y = As p - n → AU p = AU a ++ AU y → (n = As p → a = p) → ∃ a y, cutP p (n : Int) = some (a, y) ∧ CutIs p n a ∧ BB (restP y r) ∧ Ay (p :: r) = AU a ++ Ay (restP y r) ∧ (n = As p → restP y r = r) ∧ (restP y r).length ≤ r.length + 1 ∧ (n = As p → a = p) := by
  intro a y e1 e2 e3 e4 e5 e6
  refine ⟨a, y, e1, e2, ?_⟩
  unfold restP
  by_cases z : zeroP y = true
  ·rw [if_pos z]
   have hz := (C2 y e3).1 z
   have hy : AU y = [] := by
    unfold AU; unfold As at hz
    rw [show y.f0.toNat = 0 by omega, Bs (by omega), By (by omega)]; rfl
   exact ⟨hr, by rw [Ae, e5, hy, List.append_nil], fun _ => rfl, by omega, e6⟩
  ·rw [if_neg z]
   have hz : As y ≠ 0 := fun q => z ((C2 y e3).2 q)
   exact ⟨CE e3 (by omega) hr, by rw [Ae, Ae, e5, List.append_assoc], fun q => by omega, by rw [List.length_cons]; omega, e6⟩
 have hb : As p ≤ 1000 := by obtain ⟨_, _, q3, q4, _, _⟩ := h; unfold As; omega
 have hb0 := h.1
 have hb1 := h.2.1
 by_cases hn : n = As p
 rotate_left
 ·have hlt : n < As p := by omega
  by_cases hk : 0 < p.f0
  ·obtain ⟨c1, ⟨c2, c3⟩, c4⟩ := Dp h h0 hlt hk
   refine key _ _ ?_ c1 c2 c3 c4 (fun q => absurd q hn)
   unfold cutP
   rw [if_pos hk, wrap_id (by omega) (by omega)]
  by_cases hp : p.f1.size = 0
  ·obtain ⟨hn2, c1, ⟨c2, c3⟩, c4⟩ := Dt h h0 hlt hk hp
   refine key _ _ ?_ c1 c2 c3 c4 (fun q => absurd q hn)
   unfold cutP
   rw [if_neg hk, if_pos ((Aa _).2 hp), if_pos (by omega), Int.toNat_natCast]
  obtain ⟨hn2, c1, ⟨c2, c3⟩, c4⟩ := Ei h h0 hlt hk hp
  refine key _ _ ?_ c1 c2 c3 c4 (fun q => absurd q hn)
  unfold cutP
  rw [if_neg hk, if_neg (fun e => hp ((Aa _).1 e)), if_pos (by omega), Int.toNat_natCast]
 by_cases hk : 0 < p.f0
 ·obtain ⟨k1, k2⟩ := AQ h hk
  have hf : p.f0 = (n : Int) := by rw [hn]; exact congrArg S60.f0 k1
  have hf1 : p.f1 = (⟨#[]⟩ : ByteArray) := congrArg S60.f1 k1
  have hf2 : p.f2 = (⟨#[]⟩ : ByteArray) := congrArg S60.f2 k1
  refine key p ⟨0, p.f1, p.f2⟩ ?_ (hn ▸ Dc h) ⟨Int.le_refl 0, by show (0 : Int) ≤ 300; omega, h.2.2.1, h.2.2.2.1, .inl rfl, h.2.2.2.2.2⟩ ?_ ?_ (fun _ => rfl)
  ·unfold cutP
   rw [if_pos hk, show p.f0 - (n : Int) = 0 by omega, wrap_id (by decide) (by decide)]
   congr 2
   rw [← hf]
  ·have e1 : p.f1.size = 0 := by rw [hf1]; rfl
   have e2 : p.f2.size = 0 := by rw [hf2]; rfl
   unfold As at hn ⊢; dsimp only; omega
  have : AU ⟨0, p.f1, p.f2⟩ = [] := by unfold AU; rw [hf1, hf2]; rfl
  rw [this, List.append_nil]
 by_cases hp : p.f1.size = 0
 ·have hz2 : p.f2.size = n := by unfold As at hn; omega
  have ex : p.f2.extract 0 n = p.f2 := by rw [← hz2]; exact ByteArray.extract_zero_size
  have ey : (p.f2.extract n p.f2.size).size = 0 := by rw [ByteArray.size_extract]; omega
  refine key p ⟨p.f0, p.f1, p.f2.extract n p.f2.size⟩ ?_ (hn ▸ Dc h) ⟨h.1, h.2.1, h.2.2.1, by dsimp only; omega, .inl (by dsimp only; omega), .inl hp⟩ ?_ ?_ (fun _ => rfl)
  ·unfold cutP
   rw [if_neg hk, if_pos ((Aa _).2 hp), if_pos (by omega), Int.toNat_natCast, ex]
  ·unfold As at hn ⊢; dsimp only; omega
  have : AU ⟨p.f0, p.f1, p.f2.extract n p.f2.size⟩ = [] := by
   unfold AU; dsimp only
   rw [show p.f0.toNat = 0 by omega, Bs hp, By ey]; rfl
  rw [this, List.append_nil]
 have hz0 : p.f2.size = 0 := h.2.2.2.2.2.resolve_left hp
 have hz2 : p.f1.size = n := by unfold As at hn; omega
 have ex : p.f1.extract 0 n = p.f1 := by rw [← hz2]; exact ByteArray.extract_zero_size
 have ey : (p.f1.extract n p.f1.size).size = 0 := by rw [ByteArray.size_extract]; omega
 refine key p ⟨p.f0, p.f1.extract n p.f1.size, p.f2⟩ ?_ (hn ▸ Dc h) ⟨h.1, h.2.1, by dsimp only; omega, h.2.2.2.1, .inl (by dsimp only; omega), .inr hz0⟩ ?_ ?_ (fun _ => rfl)
 ·unfold cutP
  rw [if_neg hk, if_neg (fun e => hp ((Aa _).1 e)), if_pos (by omega), Int.toNat_natCast, ex]
 ·unfold As at hn ⊢; dsimp only; omega
 have : AU ⟨p.f0, p.f1.extract n p.f1.size, p.f2⟩ = [] := by
  unfold AU; dsimp only
  rw [show p.f0.toNat = 0 by omega, Bs ey, By hz0]; rfl
 rw [this, List.append_nil]
theorem AA {n : Nat} {s : CM} {p : IP} (hf : Fit n s) (hn : n ≤ 250) (hp : AV p) : tkG s p = some (takeP s (toP p)) := by
 unfold tkG
 obtain ⟨_, _, q3, q4, _, _⟩ := hp
 have := hf.len
 have := hf.put
 have := hf.drop
 rw [if_pos (by omega)]
def Ej (o : Option (List At × List At)) (m : Nat) (s u : CM) (g : Option (CM × CM)) (f : Nat → Option (List IP × List IP)) : Prop :=
 ∃ E O : List IP, o = some (Ay E, Ay O) ∧ ((∀ p ∈ E, AV p) ∧ (∀ p ∈ O, AV p)) ∧ (E.length < m ∧ O.length < m) ∧ g = some ((E.map toP).foldl takeP s, (O.map toP).foldl takeP u) ∧ Ev f (AY ((E.map toP).foldl takeP s), AY ((O.map toP).foldl takeP u))
theorem Cw {o o' : Option (List At × List At)} {m : Nat} {s u : CM} {a b : IP} {g g' : Option (CM × CM)} {f f' : Nat → Option (List IP × List IP)} (h : Ej o m (takeP s (toP a)) (takeP u (toP b)) g f) (ha : AV a) (hb : AV b) (ho : o' = CJ (AU a) (AU b) o) (hg : g' = g) (hf : ∀ r, Ev f r → Ev f' r) : Ej o' (m + 1) s u g' f' := by
 subst ho hg
 obtain ⟨E, O, h1, ⟨h2, h3⟩, ⟨h4, h5⟩, h6, h7⟩ := h
 refine ⟨a :: E, b :: O, by rw [h1]; rfl, ⟨fun p hp => (List.mem_cons.1 hp).elim (fun q => by rw [q]; exact ha) (h2 p), fun p hp => (List.mem_cons.1 hp).elim (fun q => by rw [q]; exact hb) (h3 p)⟩, ⟨by rw [List.length_cons]; omega, by rw [List.length_cons]; omega⟩, ?_, ?_⟩
 ·rw [List.map_cons, List.foldl_cons, List.map_cons, List.foldl_cons]; exact h6
 rw [List.map_cons, List.foldl_cons, List.map_cons, List.foldl_cons]; exact hf _ h7
theorem Ib {o o' : Option (List At × List At)} {m : Nat} {s u : CM} {a : IP} {g g' : Option (CM × CM)} {f f' : Nat → Option (List IP × List IP)} (h : Ej o m (takeP s (toP a)) u g f) (ha : AV a) (ho : o' = CJ (AU a) [] o) (hg : g' = g) (hf : ∀ r, Ev f r → Ev f' r) : Ej o' (m + 1) s u g' f' := by
 subst ho hg
 obtain ⟨E, O, h1, ⟨h2, h3⟩, ⟨h4, h5⟩, h6, h7⟩ := h
 refine ⟨a :: E, O, by rw [h1]; rfl, ⟨fun p hp => (List.mem_cons.1 hp).elim (fun q => by rw [q]; exact ha) (h2 p), h3⟩, ⟨by rw [List.length_cons]; omega, by omega⟩, ?_, ?_⟩
 ·rw [List.map_cons, List.foldl_cons]; exact h6
 rw [List.map_cons, List.foldl_cons]; exact hf _ h7
theorem Ir {o o' : Option (List At × List At)} {m : Nat} {s u : CM} {b : IP} {g g' : Option (CM × CM)} {f f' : Nat → Option (List IP × List IP)} (h : Ej o m s (takeP u (toP b)) g f) (hb : AV b) (ho : o' = CJ [] (AU b) o) (hg : g' = g) (hf : ∀ r, Ev f r → Ev f' r) : Ej o' (m + 1) s u g' f' := by
 subst ho hg
 obtain ⟨E, O, h1, ⟨h2, h3⟩, ⟨h4, h5⟩, h6, h7⟩ := h
 refine ⟨E, b :: O, by rw [h1]; rfl, ⟨h2, fun p hp => (List.mem_cons.1 hp).elim (fun q => by rw [q]; exact hb) (h3 p)⟩, ⟨by omega, by rw [List.length_cons]; omega⟩, ?_, ?_⟩
 ·rw [List.map_cons, List.foldl_cons]; exact h6
 rw [List.map_cons, List.foldl_cons]; exact hf _ h7
theorem Hw {o o' : Option (List At × List At)} {m : Nat} {s u : CM} {g g' : Option (CM × CM)} {f f' : Nat → Option (List IP × List IP)} (h : Ej o m s u g f) (ho : o' = o) (hg : g' = g) (hf : ∀ r, Ev f r → Ev f' r) : Ej o' (m + 1) s u g' f' := by
 subst ho hg
 obtain ⟨E, O, h1, h2, ⟨h4, h5⟩, h6, h7⟩ := h
 exact ⟨E, O, h1, h2, ⟨by omega, by omega⟩, h6, hf _ h7⟩
theorem CG {n : Nat} {s : CM} (hf : Fit n s) (hn : n ≤ 250) (m : Nat) : kpG s (m : Int) = some (takeP s (toP (Cb m))) := by
 unfold kpG
 have := hf.len
 rw [if_pos (by omega), Fi]
theorem Cl (n : Nat) (s : CM) (m : Nat) (hn : n ≤ 1000) (hf : Fit n s) (hm : m ≤ 300) : Ev (fun k => jA.f k (AY s) (m : Int) (⟨#[]⟩ : ByteArray) (⟨#[]⟩ : ByteArray)) (AY (takeP s (toP (Cb m)))) ∧ Fit (n + 1) (takeP s (toP (Cb m))) := AB n s (Cb m) hn hf (BO hm)
theorem FA {p : IP} {r : List IP} {n : Nat} {a : IP} {x2 : List IP} (h : AV p) (hr : BB r) (h0 : 0 < n) (h1 : n ≤ As p) (ht : takQ (p :: r) (n : Int) = some (a, x2)) : ∃ y, cutP p (n : Int) = some (a, y) ∧ restP y r = x2 := by
 obtain ⟨a', y', e1, _, _, _, e5, _, e7⟩ := CT p r n h hr h0 h1
 by_cases hn : n = As p
 ·have : takQ (p :: r) (n : Int) = some (p, r) := by
   unfold takQ
   dsimp only
   rw [if_pos (by rw [Cf h, hn])]
  rw [this] at ht
  simp only [Option.some.injEq, Prod.mk.injEq] at ht
  refine ⟨y', ?_, ?_⟩
  rotate_left
  ·rw [e5 hn, ht.2]
  rw [e1, e7 hn, ht.1]
 have hlt : n < As p := by omega
 have hne : ¬ (n : Int) = szQ p := by rw [Cf h]; omega
 have nz : ∀ y : IP, AV y → As y = As p - n → restP y r = y :: r := fun y hy hz => by
  unfold restP
  rw [if_neg (fun q => by have := (C2 y hy).1 q; omega)]
 unfold takQ at ht
 dsimp only at ht
 rw [if_neg hne] at ht
 unfold cutP
 by_cases hk : 0 < p.f0
 ·obtain ⟨c1, ⟨c2, c3⟩, c4⟩ := Dp h h0 hlt hk
  rw [if_pos hk] at ht
  simp only [Option.some.injEq, Prod.mk.injEq] at ht
  obtain ⟨rfl, rfl⟩ := ht
  have hb0 := h.1
  have hb1 := h.2.1
  have hb : As p ≤ 1000 := by obtain ⟨_, _, q3, q4, _, _⟩ := h; unfold As; omega
  have w : wrap64 (p.f0 - n) = p.f0 - n := wrap_id (by omega) (by omega)
  exact ⟨_, if_pos hk, by rw [w]; exact nz _ c2 c3⟩
 rw [if_neg hk] at ht ⊢
 by_cases hp : p.f1.size = 0
 ·obtain ⟨hn2, c1, ⟨c2, c3⟩, c4⟩ := Dt h h0 hlt hk hp
  rw [if_pos ((Aa _).2 hp)] at ht ⊢
  rw [if_pos (by omega)] at ht ⊢
  simp only [Option.some.injEq, Prod.mk.injEq, Int.toNat_natCast] at ht
  obtain ⟨rfl, rfl⟩ := ht
  exact ⟨_, by rw [Int.toNat_natCast], nz _ c2 c3⟩
 obtain ⟨hn2, c1, ⟨c2, c3⟩, c4⟩ := Ei h h0 hlt hk hp
 rw [if_neg (fun e => hp ((Aa _).1 e))] at ht ⊢
 rw [if_pos (by omega)] at ht ⊢
 simp only [Option.some.injEq, Prod.mk.injEq, Int.toNat_natCast] at ht
 obtain ⟨rfl, rfl⟩ := ht
 exact ⟨_, by rw [Int.toNat_natCast], nz _ c2 c3⟩
theorem CN : ∀ (m : Nat) (x y : List IP) (s u : CM) (n : Nat), BB x → BB y → x.length + y.length < m → n + m ≤ 250 → Fit n s → Fit n u → B4 (Ay x) = B4 (Ay y) → Ej (AP (Ay x) (Ay y)) m s u (trI m s u x y) (fun k => trS k m (AY s) (AY u) x y)
 | 0, x, y, s, u, n, _, _, h, _, _, _, _ => absurd h (by omega)
 | m + 1, [], [], s, u, n, hx, hy, h, hn, hf, hu, hb => by
  refine ⟨[], [], H5, ⟨(fun p hp => by cases hp), (fun p hp => by cases hp)⟩, ⟨Nat.succ_pos m, Nat.succ_pos m⟩, by rw [trI]; rfl, ?_⟩
  exact ev_val' (f := fun _ => some (AY s, AY u)) (fun k => by rw [trS]) (ev_ret rfl)
 | m + 1, p :: x, [], s, u, n, hx, hy, h, hn, hf, hu, hb => by
  obtain ⟨⟨hp, hz⟩, hx'⟩ := AN hx
  rw [List.length_cons, List.length_nil] at h
  rw [Ae, AI, AX, Ba] at hb
  have hb0 : B4 [] = 0 := rfl
  have hp1 : p.f1.size ≤ 300 := hp.2.2.1
  have hd : p.f1.size ≠ 0 := by unfold As at hz; omega
  obtain ⟨a1, a2⟩ := AB n s p (by omega) hf hp
  obtain ⟨b1, b2⟩ := Cl n u p.f1.size (by omega) hu hp1
  refine Cw (CN m x [] _ _ (n + 1) hx' hy (by simp only [List.length_nil]; omega) (by omega) a2 b2 (by rw [Ba]; omega)) hp (BO hp1) ?_ ?_ (fun r hr => ?_)
  ·rw [Ae]; exact FT p _ _ hp hd
  ·rw [trI, if_neg (fun e => hd ((Aa _).1 e)), AA hf (by omega) hp, CG hu (by omega)]; rfl
  ·exact ev_val' (fun k => by rw [trS, if_neg (fun e => hd ((Aa _).1 e))]) (Ev.bind a1 (Ev.bind b1 hr))
 | m + 1, [], q :: y, s, u, n, hx, hy, h, hn, hf, hu, hb => by
  obtain ⟨⟨hq, hz⟩, hy'⟩ := AN hy
  rw [List.length_cons, List.length_nil] at h
  rw [Ae, AI, AX, Ba] at hb
  have hb0 : B4 [] = 0 := rfl
  have hp1 : q.f1.size ≤ 300 := hq.2.2.1
  have hd : q.f1.size ≠ 0 := by unfold As at hz; omega
  obtain ⟨a1, a2⟩ := AB n u q (by omega) hu hq
  obtain ⟨b1, b2⟩ := Cl n s q.f1.size (by omega) hf hp1
  refine Cw (CN m [] y _ _ (n + 1) hx hy' (by simp only [List.length_nil]; omega) (by omega) b2 a2 (by rw [Ba]; omega)) (BO hp1) hq ?_ ?_ (fun r hr => ?_)
  ·rw [Ae, Ba]; exact FQ q [] _ hq hd True.intro
  ·rw [trI, if_neg (fun e => hd ((Aa _).1 e)), AA hu (by omega) hq, CG hf (by omega)]; rfl
  ·exact ev_val' (fun k => by rw [trS, if_neg (fun e => hd ((Aa _).1 e))]) (Ev.bind a1 (Ev.bind b1 hr))
 | m + 1, p :: x, q :: y, s, u, n, hx, hy, h, hn, hf, hu, hb => by
  obtain ⟨⟨hp, hzp⟩, hx'⟩ := AN hx
  obtain ⟨⟨hq, hzq⟩, hy'⟩ := AN hy
  rw [List.length_cons, List.length_cons] at h
  by_cases hd : p.f1.size = 0
  ·by_cases hv : q.f1.size = 0
   ·obtain ⟨t, ht, ht2, e0, e1, e2, e3⟩ : ∃ t : Nat, (if szQ q < szQ p then szQ q else szQ p) = (t : Int) ∧ (if szI q < szI p then szI q else szI p) = (t : Int) ∧ 0 < t ∧ t ≤ As p ∧ t ≤ As q ∧ (t = As p ∨ t = As q) := by
     rw [Cf hp, Cf hq, Da hp, Da hq]
     by_cases c : (As q : Int) < As p
     ·exact ⟨As q, by rw [if_pos c], by rw [if_pos c], hzq, by omega, by omega, .inr rfl⟩
     ·exact ⟨As p, by rw [if_neg c], by rw [if_neg c], hzp, by omega, by omega, .inl rfl⟩
    obtain ⟨a, x2, b1, b2, b3, b4, b5, b6⟩ := DZ p x t hp hx' e0 e1
    obtain ⟨b, y2, c1, c2, c3, c4, c5, c6⟩ := DZ q y t hq hy' e0 e2
    obtain ⟨ra, i1, i2⟩ := FA hp hx' e0 e1 b1
    obtain ⟨rb, j1, j2⟩ := FA hq hy' e0 e2 c1
    have hlen : x2.length + y2.length < m := by
     rcases e3 with e | e
     ·rw [b5 e]; omega
     ·rw [c5 e]; omega
    have hem := Hr a b (Ay x2) (Ay y2) b2.one c2.one (b2.sz.trans c2.sz.symm) (b2.put.2 hd) (c2.put.2 hv)
    rw [b4, c4, AI, AI, AX, AX] at hb
    have hb' : B4 (Ay x2) = B4 (Ay y2) := by
     have z1 := b2.sz; have z2 := c2.sz; have z3 := b2.put.2 hd; have z4 := c2.put.2 hv
     unfold As at z1 z2; omega
    rw [← b4, ← c4] at hem
    rw [hem]
    obtain ⟨m1, m2⟩ := AB n s a (by omega) hf b2.one
    obtain ⟨o1, o2⟩ := AB n u b (by omega) hu c2.one
    have gI : trI (m + 1) s u (p :: x) (q :: y) = if 0 < b.f0 then (if 0 < a.f0 then (tkG s a).bind fun z => (tkG u b).bind fun t => trI m z t x2 y2 else (tkG s a).bind fun z => trI m z u x2 y2) else if 0 < a.f0 then (tkG u b).bind fun t => trI m s t x2 y2 else trI m s u x2 y2 := by
     rw [trI, if_pos ((Aa _).2 hd), if_pos ((Aa _).2 hv), ht2, i1, j1]
     dsimp only [Option.bind_some]
     rw [i2, j2]
    have gS : ∀ {r : List IP × List IP}, Ev (fun k => if 0 < a.f0 then (if 0 < b.f0 then (jA.f k (AY s) a.f0 a.f1 a.f2).bind fun ax => (jA.f k (AY u) b.f0 b.f1 b.f2).bind fun bx => trS k m ax bx x2 y2 else (jA.f k (AY u) b.f0 b.f1 b.f2).bind fun bx => trS k m (AY s) bx x2 y2) else if 0 < b.f0 then (jA.f k (AY s) a.f0 a.f1 a.f2).bind fun ax => trS k m ax (AY u) x2 y2 else trS k m (AY s) (AY u) x2 y2) r → Ev (fun k => trS k (m + 1) (AY s) (AY u) (p :: x) (q :: y)) r := by
     intro r hr
     refine ev_val' (fun k => ?_) hr
     rw [trS, if_pos ((Aa _).2 hd), if_pos ((Aa _).2 hv), ht, b1, c1]; rfl
    by_cases ka : 0 < a.f0
    ·rw [if_pos ka]
     by_cases kb : 0 < b.f0
     ·rw [if_pos kb, gI.trans ((if_pos kb).trans (if_pos ka))]
      exact Cw (CN m x2 y2 _ _ (n + 1) b3 c3 hlen (by omega) m2 o2 hb') b2.one c2.one rfl (by rw [AA hf (by omega) b2.one, AA hu (by omega) c2.one]; rfl) (fun r hr => gS (ev_pos ka (ev_pos kb (Ev.bind m1 (Ev.bind o1 hr)))))
     ·rw [if_neg kb, gI.trans ((if_neg kb).trans (if_pos ka))]
      exact Ir (CN m x2 y2 _ _ (n + 1) b3 c3 hlen (by omega) hf.more o2 hb') c2.one rfl (by rw [AA hu (by omega) c2.one]; rfl) (fun r hr => gS (ev_pos ka (ev_neg kb (Ev.bind o1 hr))))
    ·rw [if_neg ka]
     by_cases kb : 0 < b.f0
     ·rw [if_pos kb, gI.trans ((if_pos kb).trans (if_neg ka))]
      exact Ib (CN m x2 y2 _ _ (n + 1) b3 c3 hlen (by omega) m2 hu.more hb') b2.one rfl (by rw [AA hf (by omega) b2.one]; rfl) (fun r hr => gS (ev_neg ka (ev_pos kb (Ev.bind m1 hr))))
     ·rw [if_neg kb, gI.trans ((if_neg kb).trans (if_neg ka)), Bw]
      exact Hw (CN m x2 y2 _ _ (n + 1) b3 c3 hlen (by omega) hf.more hu.more hb') rfl rfl (fun r hr => gS (ev_neg ka (ev_neg kb hr)))
   ·have hp1 : q.f1.size ≤ 300 := hq.2.2.1
    obtain ⟨a1, a2⟩ := AB n u q (by omega) hu hq
    obtain ⟨b1, b2⟩ := Cl n s q.f1.size (by omega) hf hp1
    have hq2 : q.f0 = 0 ∧ q.f2.size = 0 := by have := hq.2.2.2.2.1; have := hq.2.2.2.2.2; omega
    refine Cw (CN m (p :: x) y _ _ (n + 1) hx hy' (by simp only [List.length_cons]; omega) (by omega) b2 a2 ?_) (BO hp1) hq ?_ ?_ (fun r hr => ?_)
    ·rw [Ae q y, AI, AX] at hb; omega
    ·rw [Ae q y]; exact FQ q _ _ hq hv (Gt p x hp hzp hd)
    ·rw [trI, if_pos ((Aa _).2 hd), if_neg (fun e => hv ((Aa _).1 e)), AA hu (by omega) hq, CG hf (by omega)]; rfl
    ·exact ev_val' (fun k => by rw [trS, if_pos ((Aa _).2 hd), if_neg (fun e => hv ((Aa _).1 e))]) (Ev.bind a1 (Ev.bind b1 hr))
  have hp1 : p.f1.size ≤ 300 := hp.2.2.1
  obtain ⟨a1, a2⟩ := AB n s p (by omega) hf hp
  obtain ⟨b1, b2⟩ := Cl n u p.f1.size (by omega) hu hp1
  have hp2 : p.f0 = 0 ∧ p.f2.size = 0 := by have := hp.2.2.2.2.1; have := hp.2.2.2.2.2; omega
  refine Cw (CN m x (q :: y) _ _ (n + 1) hx' hy (by simp only [List.length_cons]; omega) (by omega) a2 b2 ?_) hp (BO hp1) ?_ ?_ (fun r hr => ?_)
  ·rw [Ae p x, AI, AX] at hb; omega
  ·rw [Ae p x]; exact FT p _ _ hp hd
  ·rw [trI, if_neg (fun e => hd ((Aa _).1 e)), AA hf (by omega) hp, CG hu (by omega)]; rfl
  exact ev_val' (fun k => by rw [trS, if_neg (fun e => hd ((Aa _).1 e))]) (Ev.bind a1 (Ev.bind b1 hr))
theorem Df (l : List IP) (hl : l.length ≤ 60) (hp : ∀ p ∈ l, Af p = true) (d : Nat) : ∀ (i : Nat) (a : List Int), i + d = l.length → a.length ≤ 600 * i →
  Ev (fun k => jO.l0 k a l (l.length : Int) (i : Int)) (a ++ Ag (l.drop i)) := by
 induction d with
 | zero =>
  intro i a hi ha
  refine Ev.step (fun k => by rw [jO.l0]) ?_
  refine ev_neg (by omega) (ev_ret ?_)
  rw [List.drop_eq_nil_of_le (by omega)]; simp [Ag]
 | succ d ih =>
  intro i a hi ha
  obtain ⟨f1, f2, f3, f4, f5⟩ := AD (hp _ (gt_mem A9 l i (by omega)))
  refine Ev.step (fun k => by rw [jO.l0]) ?_
  refine ev_pos (by omega) (ev_pos (by omega) (ev_pos (by omega) ?_))
  rw [gt_drop A9 l i (by omega), wrap_succ i (by omega)]
  simp only [BV]
  refine ev_pos (by omega) (ev_pos (by omega) (ev_some (ev_pos ?_ ?_)))
  ·rw [List.length_append, List.length_replicate]; omega
  refine ev_val (ih (i + 1) _ (by omega) ?_) ?_
  rotate_left
  ·simp only [Ag, List.append_assoc]
  rw [List.length_append, List.length_append, List.length_replicate, bytesOf_length]; omega
theorem AR (l : List IP) (hl : l.length ≤ 60) (hp : ∀ p ∈ l, Af p = true) : Ev (fun k => jO.f k l) (Ag l) := by
 unfold jO.f
 exact Df l hl hp l.length 0 [] (by omega) (by simp)
theorem Dx (l : List IP) (hl : l.length ≤ 60) (hp : ∀ p ∈ l, Af p = true) (d : Nat) : ∀ (i : Nat) (a : List Int), i + d = l.length → a.length ≤ 600 * i →
  Ev (fun k => jT.l0 k a l (l.length : Int) (i : Int)) (a ++ Ag (l.drop i)) := by
 induction d with
 | zero =>
  intro i a hi ha
  refine Ev.step (fun k => by rw [jT.l0]) ?_
  refine ev_neg (by omega) (ev_ret ?_)
  rw [List.drop_eq_nil_of_le (by omega)]; simp [Ag]
 | succ d ih =>
  intro i a hi ha
  obtain ⟨f1, f2, f3, f4, f5⟩ := AD (hp _ (gt_mem A9 l i (by omega)))
  refine Ev.step (fun k => by rw [jT.l0]) ?_
  refine ev_pos (by omega) (ev_pos (by omega) (ev_pos (by omega) ?_))
  rw [gt_drop A9 l i (by omega), wrap_succ i (by omega)]
  simp only [BV]
  refine ev_pos (by omega) (ev_pos (by omega) (ev_some (ev_pos ?_ ?_)))
  ·rw [List.length_append, List.length_replicate]; omega
  refine ev_val (ih (i + 1) _ (by omega) ?_) ?_
  rotate_left
  ·simp only [Ag, List.append_assoc]
  rw [List.length_append, List.length_append, List.length_replicate, bytesOf_length]; omega
theorem AE (l : List IP) (hl : l.length ≤ 60) (hp : ∀ p ∈ l, Af p = true) : Ev (fun k => jT.f k l) (Ag l) := by
 unfold jT.f
 exact Dx l hl hp l.length 0 [] (by omega) (by simp)
def Bc (x y : List Int) : Nat → Nat → Bool × Bool
 | 0, _ => (true, true)
 | d + 1, i => if rd x (i : Int) = 0 then Bc x y d (i + 1) else (if rd y (i : Int) = 0 then Bc x y d (i + 1) else (if rd x (i : Int) = rd y (i : Int) then Bc x y d (i + 1) else (false, true)))
theorem DX (x y : List Int) (hx : x.length ≤ 1048576) (hxy : x.length = y.length) (d : Nat) : ∀ i : Nat, i + d = x.length →
  Ev (fun k => jV.l0 k x y (x.length : Int) (i : Int)) (Bc x y d i) := by
 induction d with
 | zero =>
  intro i hi
  refine Ev.step (fun k => by rw [jV.l0]) ?_
  exact ev_neg (by omega) (ev_ret rfl)
 | succ d ih =>
  intro i hi
  refine Ev.step (fun k => by rw [jV.l0]) ?_
  refine ev_pos (by omega) (ev_pos (by omega) (ev_pos (by omega) ?_))
  rw [wrap_succ i (by omega)]
  have ih' := ih (i + 1) (by omega)
  unfold Bc
  refine ev_if (fun h => by rw [if_pos h]; exact ih') (fun h => ?_)
  rw [if_neg h]
  refine ev_pos (by omega) (ev_if (fun h => by rw [if_pos h]; exact ih') (fun h => ?_))
  rw [if_neg h]
  exact ev_if (fun h => by rw [if_pos h]; exact ih') (fun h => by rw [if_neg h]; exact ev_ret rfl)
theorem CQ (x y : List Int) (hx : x.length ≤ 1048576) (hxy : x.length = y.length) (d : Nat) : ∀ i : Nat, i + d = x.length →
  Ev (fun k => jF.l0 k y x (x.length : Int) (i : Int)) (Bc x y d i) := by
 induction d with
 | zero =>
  intro i hi
  refine Ev.step (fun k => by rw [jF.l0]) ?_
  exact ev_neg (by omega) (ev_ret rfl)
 | succ d ih =>
  intro i hi
  refine Ev.step (fun k => by rw [jF.l0]) ?_
  refine ev_pos (by omega) (ev_pos (by omega) (ev_pos (by omega) ?_))
  rw [wrap_succ i (by omega)]
  have ih' := ih (i + 1) (by omega)
  unfold Bc
  refine ev_if (fun h => by rw [if_pos h]; exact ih') (fun h => ?_)
  rw [if_neg h]
  refine ev_pos (by omega) (ev_if (fun h => by rw [if_pos h]; exact ih') (fun h => ?_))
  rw [if_neg h]
  exact ev_if (fun h => by rw [if_pos h]; exact ih') (fun h => by rw [if_neg h]; exact ev_ret rfl)
def BM (a b : List IP) : Bool × Bool := if (Ag a).length = (Ag b).length then Bc (Ag a) (Ag b) (Ag a).length 0 else (false, false)
theorem Bg (a b : List IP) (ha : a.length ≤ 60) (pa : ∀ p ∈ a, Af p = true) (hb : b.length ≤ 60) (pb : ∀ p ∈ b, Af p = true) : Ev (fun k => jV.f k a b) (BM a b) := by
 unfold jV.f BM
 have la := BR a pa
 refine Ev.bind (AR a ha pa) (Ev.bind (AR b hb pb) ?_)
 by_cases c : (Ag a).length = (Ag b).length
 rotate_left
 ·rw [if_neg c]
  exact ev_neg (by omega) (ev_ret rfl)
 rw [if_pos c]
 exact ev_pos (by omega) (DX _ _ (by omega) c _ 0 (by omega))
def An (a b : List IP) : Bool × Bool := if Ac a = true then (if Ac b = true then BM a b else (false, false)) else (false, false)
theorem AF (a b : List IP) (wa : ∀ x ∈ a, x.f1.size ≤ 1048576 ∧ x.f2.size ≤ 1048576) (wb : ∀ x ∈ b, x.f1.size ≤ 1048576 ∧ x.f2.size ≤ 1048576) : Ev (fun k => jF.f k a b) (An a b) := by
 unfold jF.f An
 refine Ev.bind (AC a wa) (ev_if (fun ga => ?_) (fun ga => ?_))
 rotate_left
 ·rw [if_neg ga]
  refine Ev.step (fun k => by rw [jF.j0]) ?_
  exact ev_pos rfl (ev_ret rfl)
 rw [if_pos ga]
 refine Ev.bind (AC b wb) ?_
 refine Ev.step (fun k => by rw [jF.j0]) ?_
 by_cases gb : Ac b = true
 rotate_left
 ·rw [if_neg gb]
  rw [Bool.not_eq_true] at gb
  exact ev_pos (by rw [gb]; rfl) (ev_ret rfl)
 rw [if_pos gb]
 obtain ⟨ha, pa, _, _⟩ := Ab ga
 obtain ⟨hb, pb, _, _⟩ := Ab gb
 have la := BR a pa
 refine ev_neg (by rw [gb]; simp) (Ev.bind (AE a ha pa) (Ev.bind (AE b hb pb) ?_))
 unfold BM
 by_cases c : (Ag a).length = (Ag b).length
 rotate_left
 ·rw [if_neg c]
  exact ev_neg (by omega) (ev_ret rfl)
 rw [if_pos c]
 exact ev_pos (by omega) (CQ _ _ (by omega) c _ 0 (by omega))
theorem GX (l : List IP) (hl : l.length ≤ 60) (hp : ∀ p ∈ l, AV p) (d : Nat) : ∀ i : Nat, i + d = l.length → Fit i (stN l i) →
  Ev (fun k => jM.l0 k (AY (stN l i)) l (l.length : Int) (i : Int)) ((normP (l.map toP)).map ofP) := by
 induction d with
 | zero =>
  intro i hi hf
  refine Ev.step (fun k => by rw [jM.l0]) ?_
  refine ev_neg (by omega) (ev_ret ?_)
  have e : stN l i = (l.map toP).foldl takeP ([], ⟨#[]⟩, ⟨#[]⟩) := by unfold stN; rw [List.take_of_length_le (by omega)]
  unfold AY normP; rw [e]
 | succ d ih =>
  intro i hi hf
  have hm := hp _ (gt_mem A9 l i (by omega))
  have es := stN_succ l i (by omega)
  have eg : l[i]'(by omega) = gt A9 l i := by unfold gt; rw [List.getD_eq_getElem?_getD, List.getElem?_eq_getElem (by omega)]; rfl
  rw [eg] at es
  obtain ⟨h1, h2⟩ := AB i (stN l i) (gt A9 l i) (by omega) hf hm
  rw [← es] at h1 h2
  refine Ev.step (fun k => by rw [jM.l0]) ?_
  refine ev_pos (by omega) (ev_pos (by omega) (ev_pos (by omega) ?_))
  rw [wrap_succ i (by omega)]
  simp only [BV]
  exact Ev.bind h1 (ih (i + 1) (by omega) h2)
theorem AZ (l : List IP) (hl : l.length ≤ 60) (hp : ∀ p ∈ l, AV p) : Ev (fun k => jM.f k l) (Ad l) := by
 unfold jM.f
 have e : AY (stN l 0) = [] := by
  have e0 : stN l 0 = ([], (⟨#[]⟩ : ByteArray), (⟨#[]⟩ : ByteArray)) := rfl
  rw [e0]; unfold AY; rw [Ax BW BW]; rfl
 have := GX l hl hp l.length 0 (by omega) CI
 rw [e] at this
 exact this
def Bl (a b : List IP) : List IP × List IP × Bool :=
 if An a b = (true, true) then
  (match AP (Ay (Ad a)) (Ay (Ad b)) with
   | some r => if Ac (Cz r.1) = true ∧ Ac (Cz r.2) = true then (Cz r.1, Cz r.2, true) else ([], [], false)
   | none => ([], [], false))
 else ([], [], false)
theorem A1 {a b : List IP} (h : An a b = (true, true)) : Ac a = true ∧ Ac b = true ∧ BM a b = (true, true) ∧ Au a = Au b := by
 unfold An at h
 by_cases ga : Ac a = true
 rotate_left
 ·rw [if_neg ga] at h; cases h
 rw [if_pos ga] at h
 by_cases gb : Ac b = true
 rotate_left
 ·rw [if_neg gb] at h; cases h
 rw [if_pos gb] at h
 refine ⟨ga, gb, h, ?_⟩
 unfold BM at h
 by_cases c : (Ag a).length = (Ag b).length
 rotate_left
 ·rw [if_neg c] at h; cases h
 have e : ∀ l : List IP, (Ag l).length = Au l := fun l => by
  induction l with
  | nil => rfl
  | cons p r ih => rw [Ag, List.length_append, List.length_append, List.length_replicate, bytesOf_length, ih, A3]; rfl
 rw [e, e] at c; exact c
theorem D0 (E : List IP) : AY ((E.map toP).foldl takeP ([], ⟨#[]⟩, ⟨#[]⟩)) = Ad E := rfl
theorem CA {a b : List IP} (h : An a b = (true, true)) : ∃ E O : List IP, AP (Ay (Ad a)) (Ay (Ad b)) = some (Ay E, Ay O) ∧ ((∀ p ∈ E, AV p) ∧ (∀ p ∈ O, AV p)) ∧ (E.length < 121 ∧ O.length < 121) ∧
  trI 121 ([], ⟨#[]⟩, ⟨#[]⟩) ([], ⟨#[]⟩, ⟨#[]⟩) (Ad a) (Ad b) = some ((E.map toP).foldl takeP ([], ⟨#[]⟩, ⟨#[]⟩), (O.map toP).foldl takeP ([], ⟨#[]⟩, ⟨#[]⟩)) ∧ Ev (fun k => trS k 121 [] [] (Ad a) (Ad b)) (Ad E, Ad O) := by
 obtain ⟨ga, gb, _, ht⟩ := A1 h
 obtain ⟨na, ta, _⟩ := Bf ga
 obtain ⟨nb, tb, _⟩ := Bf gb
 obtain ⟨la, _, _, _⟩ := Ab na
 obtain ⟨lb, _, _, _⟩ := Ab nb
 have e0 : AY ([], (⟨#[]⟩ : ByteArray), (⟨#[]⟩ : ByteArray)) = [] := by unfold AY; rw [Ax BW BW]; rfl
 obtain ⟨E, O, h1, h2, h3, h4, h5⟩ := CN 121 (Ad a) (Ad b) ([], ⟨#[]⟩, ⟨#[]⟩) ([], ⟨#[]⟩, ⟨#[]⟩) 0 (CP na) (CP nb) (by omega) (by omega) CI CI (by rw [B6, B6]; omega)
 rw [e0, D0, D0] at h5
 exact ⟨E, O, h1, h2, h3, h4, h5⟩
theorem Hj {a b : List IP} (h : An a b = (true, true)) {E O : List IP} (he : AP (Ay (Ad a)) (Ay (Ad b)) = some (Ay E, Ay O)) (h1 : ∀ p ∈ E, AV p) (h2 : ∀ p ∈ O, AV p) (l1 : E.length ≤ 1000) (l2 : O.length ≤ 1000) : Bl a b = if Ac (Ad E) = true ∧ Ac (Ad O) = true then (Ad E, Ad O, true) else ([], [], false) := by
 unfold Bl
 rw [if_pos h, he, BH E l1 h1, BH O l2 h2]
theorem Em {a b : List IP} (h : ¬ An a b = (true, true)) : Bl a b = ([], [], false) := by unfold Bl; rw [if_neg h]
theorem Co (l : List IP) (hw : ∀ x ∈ l, x.f1.size ≤ 1048576 ∧ x.f2.size ≤ 1048576) : Ev (fun k => yG.f k l) (if Ac l = true then l else [], Ac l) := by
 unfold yG.f
 refine Ev.bind (AC l hw) ?_
 by_cases g : Ac l = true
 ·exact ev_val (ev_pos g (ev_ret rfl)) (by rw [if_pos g, g])
 exact ev_val (ev_neg g (ev_ret rfl)) (by rw [if_neg g, Bool.eq_false_iff.2 g])
theorem Cm (a b : List IP) (ha : ∀ x ∈ a, x.f1.size ≤ 1048576 ∧ x.f2.size ≤ 1048576) (hb : ∀ x ∈ b, x.f1.size ≤ 1048576 ∧ x.f2.size ≤ 1048576) : Ev (fun k => yD.f k a b) (Bl a b) := by
 unfold yD.f
 refine Ev.bind (AF a b ha hb) ?_
 by_cases h : An a b = (true, true)
 rotate_left
 ·rw [Em h]
  cases e : An a b with
  | mk s1 s2 =>
   dsimp only
   cases s2 with
   | false => exact ev_neg (by simp) (ev_ret rfl)
   | true =>
    cases s1 with
    | false => exact ev_pos rfl (ev_neg (by simp) (ev_ret rfl))
    | true => exact absurd e h
 obtain ⟨ga, gb, _, _⟩ := A1 h
 obtain ⟨la, pa, _, _⟩ := Ab ga
 obtain ⟨lb, pb, _, _⟩ := Ab gb
 obtain ⟨na, _, _⟩ := Bf ga
 obtain ⟨nb, _, _⟩ := Bf gb
 obtain ⟨lna, _, _, _⟩ := Ab na
 obtain ⟨lnb, _, _, _⟩ := Ab nb
 obtain ⟨E, O, h1, ⟨h2, h3⟩, ⟨h4, h5⟩, h6, _⟩ := CA h
 rw [Hj h h1 h2 h3 (by omega) (by omega)]
 rw [h]
 refine ev_pos rfl (ev_pos rfl (ev_eq (AM a la (fun p q => Ak (pa p q))) (ev_eq (AM b lb (fun p q => Ak (pb p q))) (ev_pos (by omega) (Ev.bind (Ev.of (fun k => trI_mono k _ _ _ _) h6) ?_)))))
 have l1 := Dy E h2
 have l2 := Dy O h3
 refine ev_val' (f := fun k => if ((E.map toP).foldl takeP ([], ⟨#[]⟩, ⟨#[]⟩)).1.length ≤ 1000 ∧ ((O.map toP).foldl takeP ([], ⟨#[]⟩, ⟨#[]⟩)).1.length ≤ 1000 then (yG.f k (Ad E)).bind fun g1 => (yG.f k (Ad O)).bind fun g2 => some (if g1.2 = true ∧ g2.2 = true then g1.1 else [], if g1.2 = true ∧ g2.2 = true then g2.1 else [], g1.2 && g2.2) else none) (fun k => rfl) (ev_pos (by omega) (Ev.bind (Co (Ad E) (A7 E (by omega) h2).1) (Ev.bind (Co (Ad O) (A7 O (by omega) h3).1) (ev_ret ?_))))
 dsimp only
 by_cases g : Ac (Ad E) = true ∧ Ac (Ad O) = true
 ·rw [if_pos g, if_pos g, if_pos g, if_pos g.1, if_pos g.2, g.1, g.2]; rfl
 rw [if_neg g, if_neg g, if_neg g]
 have : (Ac (Ad E) && Ac (Ad O)) = false := by
  rw [Bool.eq_false_iff]; intro q; exact g ((Bool.and_eq_true _ _).mp q)
 rw [this]
theorem A8 (k : Nat) : ∀ (m : Nat) (ax bx x y : List IP), LeO (trS k m ax bx x y) (trS k (m + 1) ax bx x y)
 | 0, ax, bx, x, y => by rw [trS]; exact LeO.none _
 | m + 1, ax, bx, [], [] => by rw [trS, trS]; exact LeO.refl _
 | m + 1, ax, bx, p :: x, [] => by
  rw [trS, trS]
  exact LeO.ite (LeO.refl _) (LeO.bind (LeO.refl _) (fun _ => LeO.bind (LeO.refl _) (fun _ => A8 k m _ _ _ _)))
 | m + 1, ax, bx, [], q :: y => by
  rw [trS, trS]
  exact LeO.ite (LeO.refl _) (LeO.bind (LeO.refl _) (fun _ => LeO.bind (LeO.refl _) (fun _ => A8 k m _ _ _ _)))
 | m + 1, ax, bx, p :: x, q :: y => by
  rw [trS, trS]
  exact LeO.ite (LeO.ite (LeO.bind (LeO.refl _) (fun _ => LeO.bind (LeO.refl _) (fun _ => LeO.ite (LeO.ite (LeO.bind (LeO.refl _) (fun _ => LeO.bind (LeO.refl _) (fun _ => A8 k m _ _ _ _))) (LeO.bind (LeO.refl _) (fun _ => A8 k m _ _ _ _))) (LeO.ite (LeO.bind (LeO.refl _) (fun _ => A8 k m _ _ _ _)) (A8 k m _ _ _ _)))))
   (LeO.bind (LeO.refl _) (fun _ => LeO.bind (LeO.refl _) (fun _ => A8 k m _ _ _ _)))) (LeO.bind (LeO.refl _) (fun _ => LeO.bind (LeO.refl _) (fun _ => A8 k m _ _ _ _)))
theorem Il {m : Nat} {ax bx x y : List IP} {r : List IP × List IP} (h : Ev (fun k => trS k m ax bx x y) r) : Ev (fun k => trS k k ax bx x y) r := by
 obtain ⟨K, hK⟩ := h
 refine ⟨K + m, fun k hk => ?_⟩
 have h1 := hK k (by omega)
 obtain ⟨d, rfl⟩ : ∃ d, k = m + d := ⟨k - m, by omega⟩
 have : ∀ d', trS (m + d) (m + d') ax bx x y = some r := fun d' => by
  induction d' with
  | zero => exact h1
  | succ d' ih => exact A8 _ _ _ _ _ _ r ih
 exact this d
theorem Cn (a b : List IP) (ha : ∀ x ∈ a, x.f1.size ≤ 1048576 ∧ x.f2.size ≤ 1048576) (hb : ∀ x ∈ b, x.f1.size ≤ 1048576 ∧ x.f2.size ≤ 1048576) : Ev (fun k => jP.f k a b) (Bl a b) := by
 unfold jP.f
 refine Ev.bind (Ai a ha) ?_
 by_cases ga : Ac a = true
 rotate_left
 ·refine ev_neg ga ?_
  refine Ev.step (fun k => by rw [jP.j0]) ?_
  refine ev_pos rfl (ev_ret ?_)
  rw [Em (fun h => ga (A1 h).1)]
 refine ev_pos ga (Ev.bind (Ai b hb) ?_)
 refine Ev.step (fun k => by rw [jP.j0]) ?_
 by_cases gb : Ac b = true
 rotate_left
 ·refine ev_pos (by simp [gb]) (ev_ret ?_)
  rw [Em (fun h => gb (A1 h).2.1)]
 obtain ⟨la, pa, _, _⟩ := Ab ga
 obtain ⟨lb, pb, _, _⟩ := Ab gb
 have hs : An a b = BM a b := by unfold An; rw [if_pos ga, if_pos gb]
 refine ev_neg (by rw [gb]; simp) ?_
 have hl : Ev (fun k => yH.f k a b) (if An a b = (true, true) then (match AP (Ay (Ad a)) (Ay (Ad b)) with | some r => (Cz r.1, Cz r.2, true) | none => ([], [], false)) else ([], [], false)) := by
  unfold yH.f
  refine Ev.bind (Bg a b la pa lb pb) ?_
  rw [← hs]
  by_cases h : An a b = (true, true)
  ·obtain ⟨E, O, h1, ⟨h2, h3⟩, ⟨h4, h5⟩, _, h7⟩ := CA h
   obtain ⟨lna, _, _, _⟩ := Ab (Bf ga).1
   obtain ⟨lnb, _, _, _⟩ := Ab (Bf gb).1
   have key : Ev (fun k => if (true, true).1 = true then (if (true, true).2 = true then (jM.f k a).bind fun na => (jM.f k b).bind fun nb => (if na.length ≤ 1000 ∧ nb.length ≤ 1000 then (trS k k [] [] na nb).bind fun r => some (r.1, r.2, true) else none) else some ([], [], false)) else some ([], [], false)) (Ad E, Ad O, true) :=
    ev_pos rfl (ev_pos rfl (Ev.bind (AZ a la (fun p q => Ak (pa p q))) (Ev.bind (AZ b lb (fun p q => Ak (pb p q))) (ev_pos (by omega) (Ev.bind (Il h7) (ev_ret rfl))))))
   rw [if_pos h, h1, h]
   rw [BH E (by omega) h2, BH O (by omega) h3] at key
   exact key
  ·rw [if_neg h]
   cases e : An a b with
   | mk s1 s2 =>
    dsimp only
    cases s1 with
    | false => exact ev_neg (by simp) (ev_ret rfl)
    | true =>
     cases s2 with
     | false => exact ev_pos rfl (ev_neg (by simp) (ev_ret rfl))
     | true => exact absurd e h
 refine Ev.bind hl ?_
 by_cases h : An a b = (true, true)
 rotate_left
 ·rw [Em h, if_neg h]
  exact ev_neg (by simp) (ev_ret rfl)
 obtain ⟨E, O, h1, ⟨h2, h3⟩, ⟨h4, h5⟩, _, _⟩ := CA h
 rw [Hj h h1 h2 h3 (by omega) (by omega), if_pos h, h1]
 dsimp only
 rw [← BH E (by omega) h2, ← BH O (by omega) h3]
 refine ev_pos rfl (Ev.bind (Ai (Ad E) (A7 E (by omega) h2).1) ?_)
 by_cases gE : Ac (Ad E) = true
 rotate_left
 ·exact ev_val (ev_neg gE (ev_ret rfl)) (by rw [if_neg (fun q => gE q.1)])
 refine ev_pos gE (Ev.bind (Ai (Ad O) (A7 O (by omega) h3).1) ?_)
 by_cases gO : Ac (Ad O) = true
 ·exact ev_val (ev_pos gO (ev_ret rfl)) (by rw [if_pos ⟨gE, gO⟩])
 exact ev_val (ev_neg gO (ev_ret rfl)) (by rw [if_neg (fun q => gO q.2)])
theorem Ek {a b : List IP} (h : (Bl a b).2.2 = true) : An a b = (true, true) ∧ ∃ r, AP (Ay (Ad a)) (Ay (Ad b)) = some r ∧ Ac (Cz r.1) = true ∧ Ac (Cz r.2) = true ∧ Bl a b = (Cz r.1, Cz r.2, true) := by
 unfold Bl at h ⊢
 by_cases c : An a b = (true, true)
 rotate_left
 ·rw [if_neg c] at h; cases h
 rw [if_pos c] at h ⊢
 cases e : AP (Ay (Ad a)) (Ay (Ad b)) with
 | none => rw [e] at h; cases h
 | some r =>
  rw [e] at h
  dsimp only at h ⊢
  by_cases g : Ac (Cz r.1) = true ∧ Ac (Cz r.2) = true
  rotate_left
  ·rw [if_neg g] at h; cases h
  rw [if_pos g]; exact ⟨c, r, rfl, g.1, g.2, rfl⟩
theorem CY (a b : List IP) : (Bl a b).2.2 = true ∨ Bl a b = ([], [], false) := by
 unfold Bl
 by_cases c : An a b = (true, true)
 rotate_left
 ·rw [if_neg c]; exact .inr rfl
 rw [if_pos c]
 split
 rotate_left
 ·exact .inr rfl
 split
 ·exact .inl rfl
 exact .inr rfl
theorem Hq (a b : List IP) : (Bl a b).1.length ≤ 60 ∧ (Bl a b).2.1.length ≤ 60 := by
 rcases CY a b with h | h
 rotate_left
 ·rw [h]; simp
 obtain ⟨_, r, _, g1, g2, e⟩ := Ek h
 rw [e]; exact ⟨(Ab g1).1, (Ab g2).1⟩
theorem Ii {l m : List IP} (gl : Ac l = true) (gm : Ac m = true) {s t : ByteArray} (hs : goodB (bytesOf s) = true) (ht : goodB (bytesOf t) = true) (h : Al (Ay l) (Bt s) = Al (Ay m) (Bt t)) : Cu l s = Cu m t := by
 have key : ∀ (l m : List IP) (s t : ByteArray), Ac m = true → goodB (bytesOf t) = true → Al (Ay l) (Bt s) = Al (Ay m) (Bt t) → (Cu l s).2 = true → Cu m t = Cu l s := by
  intro l m s t gm ht h g
  obtain ⟨_, _, u, e, hr⟩ := Dd g
  have h1 := C9 l s u hr
  rw [h] at h1
  have h2 := FS m _ _ h1
  rw [HS, HS] at h2
  rw [e, (Db gm h2 ht).1]
 by_cases g : (Cu l s).2 = true
 ·exact (key l m s t gm ht h g).symm
 by_cases g' : (Cu m t).2 = true
 rotate_left
 ·rw [GL g, GL g']
 exact key m l t s gl hs h.symm g'
def D1 (o : Option (List At)) (m : Nat) (s : CM) (g : Option (Option CM)) : Prop :=
 (o = none ∧ g = some none) ∨ ∃ E : List IP, o = some (Ay E) ∧ (∀ p ∈ E, AV p) ∧ E.length < m ∧ g = some (some ((E.map toP).foldl takeP s))
theorem BQ {o o' : Option (List At)} {m : Nat} {s : CM} {e : IP} {g g' : Option (Option CM)} (h : D1 o m (takeP s (toP e)) g) (he : AV e) (ho : o' = o.map (AU e ++ ·)) (hg : g' = g) : D1 o' (m + 1) s g' := by
 subst ho hg
 rcases h with ⟨h1, h2⟩ | ⟨E, h1, h2, h3, h4⟩
 ·exact .inl ⟨by rw [h1]; rfl, h2⟩
 refine .inr ⟨e :: E, by rw [h1]; rfl, fun p hp => (List.mem_cons.1 hp).elim (fun q => by rw [q]; exact he) (h2 p), by rw [List.length_cons]; omega, ?_⟩
 rw [List.map_cons, List.foldl_cons]; exact h4
theorem GH {o o' : Option (List At)} {m : Nat} {s : CM} {g g' : Option (Option CM)} (h : D1 o m s g) (ho : o' = o) (hg : g' = g) : D1 o' (m + 1) s g' := by
 subst ho hg
 rcases h with ⟨h1, h2⟩ | ⟨E, h1, h2, h3, h4⟩
 ·exact .inl ⟨h1, h2⟩
 exact .inr ⟨E, h1, h2, by omega, h4⟩
theorem BE : ∀ (m : Nat) (x y : List IP) (s : CM) (n : Nat), BB x → BB y → x.length + y.length < m → n + m ≤ 250 → Fit n s → Cv (Ay x) = B4 (Ay y) → D1 (Ap (Ay x) (Ay y)) m s (cmpI m s x y)
 | 0, x, y, s, n, _, _, h, _, _, _ => absurd h (by omega)
 | m + 1, [], [], s, n, hx, hy, h, hn, hf, hb => .inr ⟨[], FV, (fun p hp => by cases hp), Nat.succ_pos m, by rw [cmpI]; rfl⟩
 | m + 1, p :: x, [], s, n, hx, hy, h, hn, hf, hb => by
  obtain ⟨⟨hp, hz⟩, hx'⟩ := AN hx
  rw [List.length_cons, List.length_nil] at h
  rw [Ae, Bn, CH, Ba] at hb
  have hb0 : B4 [] = 0 := rfl
  by_cases hd : p.f2.size = 0
  ·unfold As at hz; omega
  ·refine BQ (BE m x [] (takeP s (toP p)) (n + 1) hx' hy (by simp only [List.length_nil]; omega) (by omega) (AB n s p (by omega) hf hp).2 (by rw [Ba]; omega)) hp ?_ ?_
   ·rw [Ae]; exact Ey p _ _ hp hd
   ·rw [cmpI, if_neg (fun e => hd ((Aa _).1 e)), AA hf (by omega) hp]; rfl
 | m + 1, [], q :: y, s, n, hx, hy, h, hn, hf, hb => by
  obtain ⟨⟨hq, hz⟩, hy'⟩ := AN hy
  rw [List.length_cons, List.length_nil] at h
  rw [Ae, AI, AX, Ba] at hb
  have hb0 : Cv [] = 0 := rfl
  by_cases hd : q.f1.size = 0
  ·unfold As at hz; omega
  ·refine BQ (BE m [] y (takeP s (toP q)) (n + 1) hx hy' (by simp only [List.length_nil]; omega) (by omega) (AB n s q (by omega) hf hq).2 (by rw [Ba]; omega)) hq ?_ ?_
   ·rw [Ae, Ba]; exact FW q [] _ hq hd True.intro
   ·rw [cmpI, if_neg (fun e => hd ((Aa _).1 e)), AA hf (by omega) hq]; rfl
 | m + 1, p :: x, q :: y, s, n, hx, hy, h, hn, hf, hb => by
  obtain ⟨⟨hp, hzp⟩, hx'⟩ := AN hx
  obtain ⟨⟨hq, hzq⟩, hy'⟩ := AN hy
  rw [List.length_cons, List.length_cons] at h
  by_cases hd : p.f2.size = 0
  ·by_cases hu : q.f1.size = 0
   ·obtain ⟨t, ht, e0, e1, e2, e3⟩ : ∃ t : Nat, (if szI q < szI p then szI q else szI p) = (t : Int) ∧ 0 < t ∧ t ≤ As p ∧ t ≤ As q ∧ (t = As p ∨ t = As q) := by
     rw [Da hp, Da hq]
     by_cases c : (As q : Int) < As p
     ·exact ⟨As q, by rw [if_pos c], hzq, by omega, by omega, .inr rfl⟩
     ·exact ⟨As p, by rw [if_neg c], hzp, by omega, by omega, .inl rfl⟩
    obtain ⟨a, ra, b1, b2, b3, b4, b5, b6⟩ := CT p x t hp hx' e0 e1
    obtain ⟨b, rb, c1, c2, c3, c4, c5, c6⟩ := CT q y t hq hy' e0 e2
    have hlen : (restP ra x).length + (restP rb y).length < m := by
     rcases e3 with e | e
     ·rw [b5 e]; omega
     ·rw [c5 e]; omega
    have hem := Hv a b (Ay (restP ra x)) (Ay (restP rb y)) b2.one c2.one (b2.sz.trans c2.sz.symm) (b2.drop.2 hd) (c2.put.2 hu)
    rw [b4, c4, Bn, AI, CH, AX] at hb
    have hb' : Cv (Ay (restP ra x)) = B4 (Ay (restP rb y)) := by
     have z1 := b2.sz; have z2 := c2.sz; have z3 := b2.drop.2 hd; have z4 := c2.put.2 hu
     unfold As at z1 z2; omega
    rw [← b4, ← c4] at hem
    rw [hem]
    have hgo : cmpI (m + 1) s (p :: x) (q :: y) = if 0 < b.f0 then (tkG s a).bind fun z => cmpI m z (restP ra x) (restP rb y) else if 0 < a.f0 then (tkG s b).bind fun z => cmpI m z (restP ra x) (restP rb y) else if a.f1 = b.f2 then cmpI m s (restP ra x) (restP rb y) else some none := by
     rw [cmpI, if_pos ((Aa _).2 hd), if_pos ((Aa _).2 hu), ht, b1, c1]; rfl
    by_cases kb : 0 < b.f0
    ·rw [hgo.trans (if_pos kb)]
     have fin : D1 ((Ap (Ay (restP ra x)) (Ay (restP rb y))).map (AU a ++ ·)) (m + 1) s ((tkG s a).bind fun z => cmpI m z (restP ra x) (restP rb y)) :=
      BQ (BE m _ _ (takeP s (toP a)) (n + 1) b3 c3 hlen (by omega) (AB n s a (by omega) hf b2.one).2 hb') b2.one rfl (by rw [AA hf (by omega) b2.one]; rfl)
     by_cases ka : 0 < a.f0
     ·have : a = b := by rw [(AQ b2.one ka).1, (AQ c2.one kb).1, b2.sz, c2.sz]
      rw [if_pos ka, ← this]; exact fin
     ·rw [if_neg ka, if_pos kb]; exact fin
    ·by_cases ka : 0 < a.f0
     ·rw [hgo.trans ((if_neg kb).trans (if_pos ka)), if_pos ka]
      exact BQ (BE m _ _ (takeP s (toP b)) (n + 1) b3 c3 hlen (by omega) (AB n s b (by omega) hf c2.one).2 hb') c2.one rfl (by rw [AA hf (by omega) c2.one]; rfl)
     ·by_cases e : a.f1 = b.f2
      ·rw [hgo.trans ((if_neg kb).trans ((if_neg ka).trans (if_pos e))), if_neg ka, if_neg kb, if_pos e]
       have hf' : Fit (n + 1) s := ⟨hf.last.imp id (fun ⟨u, v, w, z⟩ => ⟨u, v, w, z.1, by omega⟩), by have := hf.len; omega, by have := hf.put; omega, by have := hf.drop; omega⟩
       exact GH (BE m _ _ s (n + 1) b3 c3 hlen (by omega) hf' hb') rfl rfl
      ·rw [hgo.trans ((if_neg kb).trans ((if_neg ka).trans (if_neg e))), if_neg ka, if_neg kb, if_neg e]
       exact .inl ⟨rfl, rfl⟩
   ·refine BQ (BE m (p :: x) y (takeP s (toP q)) (n + 1) hx hy' (by simp only [List.length_cons]; omega) (by omega) (AB n s q (by omega) hf hq).2 ?_) hq ?_ ?_
    ·rw [Ae q y, AI, AX] at hb
     have hk := hq.2.2.2.2.1; have h2 := hq.2.2.2.2.2; omega
    ·rw [Ae q y]; exact FW q _ _ hq hu (Gk p x hp hzp hd)
    ·rw [cmpI, if_pos ((Aa _).2 hd), if_neg (fun e => hu ((Aa _).1 e)), AA hf (by omega) hq]; rfl
  refine BQ (BE m x (q :: y) (takeP s (toP p)) (n + 1) hx' hy (by simp only [List.length_cons]; omega) (by omega) (AB n s p (by omega) hf hp).2 ?_) hp ?_ ?_
  ·rw [Ae p x, Bn, CH] at hb
   have hk := hp.2.2.2.2.1; have h2 := hp.2.2.2.2.2; omega
  ·rw [Ae p x]; exact Ey p _ _ hp hd
  rw [cmpI, if_neg (fun e => hd ((Aa _).1 e)), AA hf (by omega) hp]; rfl
theorem DU (l : List IP) (hw : ∀ x ∈ l, x.f1.size ≤ 1048576 ∧ x.f2.size ≤ 1048576) : Ev (fun k => yG.f k l) (if Ac l = true then (l, true) else ([], false)) := by
 unfold yG.f
 refine Ev.bind (AC l hw) ?_
 by_cases g : Ac l = true
 ·exact ev_val (ev_pos g (ev_ret rfl)) (by rw [if_pos g])
 exact ev_val (ev_neg g (ev_ret rfl)) (by rw [if_neg g])
theorem BJ (a b : List IP) (ha : ∀ x ∈ a, x.f1.size ≤ 1048576 ∧ x.f2.size ≤ 1048576) (hb : ∀ x ∈ b, x.f1.size ≤ 1048576 ∧ x.f2.size ≤ 1048576) : Ev (fun k => yF.f k a b) (BU a b) := by
 unfold yF.f
 refine Ev.bind (AC a ha) ?_
 by_cases ga : Ac a = true
 rotate_left
 ·refine ev_neg ga (ev_ret ?_)
  rw [C7 (fun h => ga h.1)]
 refine ev_pos ga (Ev.bind (AC b hb) ?_)
 by_cases gb : Ac b = true
 rotate_left
 ·refine ev_neg gb (ev_ret ?_)
  rw [C7 (fun h => gb h.2)]
 obtain ⟨la, pa, _, _⟩ := Ab ga
 obtain ⟨lb, pb, _, _⟩ := Ab gb
 refine ev_pos gb (Ev.bind (Bp a (by omega)) (Ev.bind (Bp b (by omega)) ?_))
 have e1 := Ed a pa (by omega)
 have e2 := Eh b pb (by omega)
 dsimp only
 by_cases he : Es b 0 = FX a 0
 rotate_left
 ·refine ev_neg he (ev_ret ?_)
  cases hz : Ap (Ay a) (Ay b) with
  | none => rw [Cj hz]
  | some z =>
   have := (B0 _ _ _ z (Nat.le_refl _) hz).1
   rw [DM, B6] at this; omega
 refine ev_pos he (ev_pos (by omega) ?_)
 have hz : ([], (⟨#[]⟩ : ByteArray), (⟨#[]⟩ : ByteArray)) = (([], ⟨#[]⟩, ⟨#[]⟩) : CM) := rfl
 rcases BE 121 a b ([], ⟨#[]⟩, ⟨#[]⟩) 0 (CP ga) (CP gb) (by omega) (by omega) CI (by rw [DM, B6]; omega) with ⟨h1, h2⟩ | ⟨E, h1, h2, h3, h4⟩
 ·rw [Cj h1]
  exact Ev.bind (Ev.of (fun k => cmpI_mono k _ _ _) h2) (ev_ret rfl)
 have hn := BH E (by omega) h2
 rw [CZ ⟨ga, gb⟩ h1, ← hn]
 refine Ev.bind (Ev.of (fun k => cmpI_mono k _ _ _) h4) ?_
 have hl := Dy E h2
 refine ev_val' (fun k => by rw [icEnd]) (ev_pos (by omega) ?_)
 exact DU (Ad E) (A7 E (by omega) h2).1
theorem DJ (l : List IP) (hl : l.length ≤ 60) (hp : ∀ p ∈ l, Af p = true) (d : Nat) : ∀ (i : Nat) (s o : ByteArray), i + d = l.length → s.size = Au (l.drop i) → s.size ≤ 140737488351232 → o.size ≤ 1000 * i →
  Ev (fun k => jK.l0 k s o l (l.length : Int) (i : Int)) (Eu (l.drop i) s o) := by
 induction d with
 | zero =>
  intro i s o hi ht hs ho
  refine Ev.step (fun k => by rw [jK.l0]) ?_
  refine ev_neg (by omega) (ev_ret ?_)
  rw [List.drop_eq_nil_of_le (by omega)]; rfl
 | succ d ih =>
  intro i s o hi ht hs ho
  have hpi := hp _ (gt_mem A9 l i (by omega))
  obtain ⟨f1, f2, f3, f4, f5⟩ := AD hpi
  have hn := G7 hpi
  refine Ev.step (fun k => by rw [jK.l0]) ?_
  refine ev_pos (by omega) (ev_pos (by omega) (ev_pos (by omega) ?_))
  rw [gt_drop A9 l i (by omega)] at ht ⊢
  unfold Au at ht
  have hd : nP (gt A9 l i) = (gt A9 l i).f0.toNat + (gt A9 l i).f2.size := rfl
  have hw1 := wrap_succ i (by omega)
  simp only [BV, FI hpi, hw1]
  unfold Eu
  have hx : (s.extract 0 (gt A9 l i).f0.toNat).size ≤ 300 := by rw [Cc]; omega
  have hx' : (s.extract (nP (gt A9 l i)) s.size).size ≤ 140737488351232 := by rw [Cc]; omega
  refine ev_pos (Int.natCast_nonneg _) (ev_pos (Iu ht hd f1).2.2 ?_)
  rw [Int.toNat_natCast]
  refine ev_if (fun h => ?_) (fun h => by rw [if_neg h]; exact ev_ret rfl)
  rw [if_pos h]
  have i60 : i ≤ 60 := Nat.le_trans (Nat.le_of_lt (Nat.lt_of_lt_of_le (Nat.lt_add_of_pos_right (Nat.succ_pos d)) (Nat.le_of_eq hi))) hl
  obtain ⟨fs, fn, _⟩ := Iu ht hd f1
  refine ev_pos f1 (ev_pos fs (ev_pos (II hx f3) (ev_pos (by rw [ByteArray.size_append]; exact IG ho hx f3 i60) (ev_pos (Int.natCast_nonneg _) (ev_pos fn ?_)))))
  rw [Int.toNat_natCast]
  exact ih (i + 1) (s.extract (nP (gt A9 l i)) s.size) (o ++ (s.extract 0 (gt A9 l i).f0.toNat ++ (gt A9 l i).f1)) (by omega) (by rw [Cc, ht]; clear ih; omega) hx' (by rw [ByteArray.size_append, ByteArray.size_append]; exact IJ ho hx f3)
theorem A5 (l : List IP) (s : ByteArray) (hw : ∀ x ∈ l, x.f1.size ≤ 1048576 ∧ x.f2.size ≤ 1048576) (hs : s.size ≤ 140737488351232) : Ev (fun k => jK.f k l s) (Cu l s) := by
 unfold jK.f Cu
 refine Ev.bind (AC l hw) (ev_if (fun g => ?_) (fun g => ?_))
 rotate_left
 ·rw [if_neg g]
  refine Ev.step (fun k => by rw [jK.j0]) ?_
  exact ev_pos rfl (ev_ret rfl)
 rw [if_pos g]
 obtain ⟨hl, hp, _, _⟩ := Ab g
 refine Ev.bind (Bj s hs) ?_
 refine Ev.step (fun k => by rw [jK.j0]) ?_
 by_cases gs : goodB (bytesOf s) = true
 rotate_left
 ·rw [if_neg gs]
  rw [Bool.not_eq_true] at gs
  exact ev_pos (by rw [gs]; rfl) (ev_ret rfl)
 rw [if_pos gs]
 refine ev_neg (by rw [gs]; simp) (Ev.bind (Bp l (by omega)) ?_)
 have ht : Es l 0 = ((Au l : Nat) : Int) := by
  have := Fb l hp 0 (by omega)
  rw [Nat.zero_add] at this; exact this
 by_cases c : s.size = Au l
 rotate_left
 ·rw [if_neg c]
  exact ev_neg (by show ¬ Es l 0 = _; omega) (ev_ret rfl)
 rw [if_pos c]
 refine ev_pos (by show Es l 0 = _; omega) ?_
 have H := DJ l hl hp l.length 0 s E0 (by omega) (by rw [List.drop_zero]; exact c) hs (Nat.le_refl 0)
 refine ev_val H ?_
 rw [List.drop_zero]
 by_cases q : (Eu l s E0).2 = true
 ·rw [if_pos q]
 rw [if_neg q]; exact Gd l s _ (by simpa using q)
theorem Dk (l : List IP) (hl : l.length ≤ 1000000) (d : Nat) : ∀ i : Nat, i + d = l.length → Ev (fun k => jQ.l0 k l l (l.length : Int) (i : Int)) true := by
 induction d with
 | zero =>
  intro i hi
  refine Ev.step (fun k => by rw [jQ.l0]) ?_
  exact ev_neg (by omega) (ev_ret rfl)
 | succ d ih =>
  intro i hi
  refine Ev.step (fun k => by rw [jQ.l0]) ?_
  refine ev_pos (by omega) (ev_pos (by omega) (ev_pos (by omega) (ev_pos (by omega) (ev_neg (by simp) ?_))))
  rw [wrap_succ i (by omega)]
  exact ih (i + 1) (by omega)
theorem Bu (l : List IP) (hl : l.length ≤ 1000000) : Ev (fun k => jQ.f k l l) true := by
 unfold jQ.f
 exact ev_pos rfl (Dk l hl l.length 0 (by omega))
def Ff : List (Int × Int) → Prop
 | x :: y :: t => ((x.1 > 0 ∧ x.1 = y.1) ↔ (x.2 ≠ 0 ∧ y.2 ≠ 0)) ∧ Ff (y :: t)
 | _ => True
theorem GQ (n : Nat) (t : List (Int × Int)) (h : Ff t) : Ff (List.replicate n (0, 0) ++ t) := by
 induction n with
 | zero => exact h
 | succ n ih =>
  rw [List.replicate_succ, List.cons_append]
  cases hq : List.replicate n ((0 : Int), (0 : Int)) ++ t with
  | nil => exact trivial
  | cons y r =>
   rw [hq] at ih
   exact ⟨by simp, ih⟩
theorem EX (r : Int) (hr : 0 < r) (d : List Int) (hd : ∀ x ∈ d, x ≠ 0) (t : List (Int × Int)) (ht : t = [] ∨ ∃ u, t = (0, 0) :: u) (h : Ff t) : Ff (d.map (fun x => (r, x)) ++ t) := by
 induction d with
 | nil => exact h
 | cons a d ih =>
  have ih' := ih (fun x hx => hd x (List.mem_cons_of_mem _ hx))
  have ha := hd a (List.mem_cons_self ..)
  rw [List.map_cons, List.cons_append]
  cases d with
  | nil =>
   rw [List.map_nil, List.nil_append] at ih' ⊢
   rcases ht with rfl | ⟨u, rfl⟩
   ·exact trivial
   exact ⟨by simp only; constructor <;> intro q <;> omega, ih'⟩
  | cons c d =>
   rw [List.map_cons, List.cons_append] at ih' ⊢
   have hc := hd c (List.mem_cons_of_mem _ (List.mem_cons_self ..))
   exact ⟨by simp only; exact ⟨fun _ => ⟨ha, hc⟩, fun _ => ⟨hr, trivial⟩⟩, ih'⟩
def Dr : Nat → List Bh → ByteArray → List (Int × Int)
 | r, [], b => (bytesOf b).map (fun x => (((r + 1 : Nat) : Int), x))
 | r, s :: g, b => (bytesOf s.2.1).map (fun x => (((r + 1 : Nat) : Int), x)) ++ (List.replicate s.2.2.toNat (0, 0) ++ Dr (if s.2.1.size = 0 then r else r + 1) g b)
theorem EI (b : ByteArray) (nb : NZ b) : ∀ (g : List Bh) (r : Nat), (∀ x ∈ g, SegOk 60 x) → Ff (Dr r g b)
 | [], r, _ => by
  have := EX ((r + 1 : Nat) : Int) (by omega) (bytesOf b) nb [] (.inl rfl) trivial
  rw [List.append_nil] at this
  exact this
 | s :: g, r, h => by
  have o := h s (List.mem_cons_self ..)
  have ih := EI b nb g (if s.2.1.size = 0 then r else r + 1) (fun x hx => h x (List.mem_cons_of_mem _ hx))
  have hp := o.pos
  refine EX ((r + 1 : Nat) : Int) (by omega) (bytesOf s.2.1) o.nz _ (.inr ?_) (GQ _ _ ih)
  obtain ⟨m, hm⟩ := Nat.exists_eq_succ_of_ne_zero (show s.2.2.toNat ≠ 0 by omega)
  rw [hm, List.replicate_succ, List.cons_append]
  exact ⟨_, rfl⟩
theorem EO (b : ByteArray) : ∀ (g : List Bh) (r : Nat), (Dr r g b).map (fun x => x.2) = Bb g ++ bytesOf b
 | [], r => by simp [Dr, Bb, Function.comp_def]
 | s :: g, r => by
  have ih := EO b g (if s.2.1.size = 0 then r else r + 1)
  rw [Bz, Dr, List.map_append, List.map_append, ih]
  simp [Function.comp_def]
theorem GO : ∀ (z : List (Int × Int)), Ff z → ∀ i, i + 1 < z.length → ((gt 0 (z.map (fun x => x.1)) i > 0 ∧ gt 0 (z.map (fun x => x.1)) i = gt 0 (z.map (fun x => x.1)) (i + 1)) ↔ (gt 0 (z.map (fun x => x.2)) i ≠ 0 ∧ gt 0 (z.map (fun x => x.2)) (i + 1) ≠ 0))
 | [], _, i, h => by simp at h
 | [_], _, i, h => by simp at h
 | x :: y :: t, ha, 0, _ => ha.1
 | x :: y :: t, ha, i + 1, h => by
  have := GO (y :: t) ha.2 i (by simp at h ⊢; omega)
  exact this
theorem FD (X : List IP) (p0 : Int) (p1 p2 : ByteArray) (run : Int) (n idx : Int) (hp : p2.size ≤ 1000000) (d : Nat) : ∀ (j : Nat) (x3 : List Int), j + d = p2.size → x3.length ≤ 100000000 + j → ∀ r, Ev (fun k => jL.l0 k (x3 ++ List.replicate d run) run X n (wrap64 (idx + 1))) r → Ev (fun k => jL.l1 k x3 run (j : Int) X n idx p0 p1 p2) r := by
 induction d with
 | zero =>
  intro j x3 hj hx r h
  refine Ev.step (fun k => by rw [jL.l1]) ?_
  rw [List.replicate_zero, List.append_nil] at h
  exact ev_neg (by omega) h
 | succ d ih =>
  intro j x3 hj hx r h
  refine Ev.step (fun k => by rw [jL.l1]) ?_
  refine ev_pos (by omega) (ev_pos (by omega) ?_)
  rw [wrap_succ j (by omega)]
  refine ih (j + 1) (x3 ++ [run]) (by omega) (by rw [List.length_append, List.length_singleton]; omega) r ?_
  rw [List.append_assoc]
  exact h
theorem HN (pre suf : List IP) (p : IP) : pre ++ p :: suf = (pre ++ [p]) ++ suf := by rw [List.append_assoc]; rfl
theorem Ht (pre : List IP) (p : IP) (h : pre.length ≤ 1000000) : wrap64 ((pre.length : Int) + 1) = ((pre ++ [p]).length : Int) := by
 rw [wrap_succ _ (by omega), List.length_append, List.length_singleton]
theorem BT (pre suf : List IP) (p : IP) (run : Nat) (x3 : List Int) (h0 : 0 ≤ p.f0 ∧ p.f0 ≤ 100000) (h2 : p.f2.size ≤ 100000) (hpl : pre.length ≤ 10000) (hx : x3.length ≤ 50000000) (hr : run ≤ 100000) (r : List Int)
  (h : Ev (fun k => jL.l0 k ((x3 ++ List.replicate p.f0.toNat 0) ++ List.replicate p.f2.size ((run + 1 : Nat) : Int)) ((if p.f2.size = 0 then run else run + 1 : Nat) : Int) ((pre ++ [p]) ++ suf) (((pre ++ [p]) ++ suf).length : Int) ((pre ++ [p]).length : Int)) r) :
  Ev (fun k => jL.l0 k x3 (run : Int) (pre ++ p :: suf) ((pre ++ p :: suf).length : Int) (pre.length : Int)) r := by
 have hl : (pre ++ p :: suf).length = pre.length + (suf.length + 1) := by rw [List.length_append, List.length_cons]
 rw [← HN, ← Ht pre _ (by omega)] at h
 have hlx : (x3 ++ List.replicate p.f0.toNat (0 : Int)).length ≤ 100000000 := by rw [List.length_append, List.length_replicate]; omega
 refine Ev.step (fun k => by rw [jL.l0]) ?_
 simp only [BV, Id]
 refine ev_pos (by omega) (ev_pos (by omega) (ev_pos (by omega) (ev_pos h0.1 (ev_pos (by omega) (ev_eq rfl (ev_if (fun c => ?_) (fun c => ?_)))))))
 rotate_left
 ·rw [Aa] at c
  rw [if_neg c] at h
  refine Ev.step (fun k => by rw [jL.j1]) ?_
  rw [wrap_succ run (by omega)]
  exact FD _ p.f0 p.f1 p.f2 ((run + 1 : Nat) : Int) _ _ (by omega) p.f2.size 0 _ (by omega) (by omega) r h
 rw [Aa] at c
 rw [if_pos c, c, List.replicate_zero, List.append_nil] at h
 refine Ev.step (fun k => by rw [jL.j1]) ?_
 exact FD _ p.f0 p.f1 p.f2 (run : Int) _ _ (by omega) p.f2.size 0 _ (by omega) (by omega) r (by rw [c, List.replicate_zero, List.append_nil]; exact h)
theorem DN (pre suf : List IP) (u v : ByteArray) (run : Nat) (x3 : List Int) (h1 : u.size ≤ 100000) (h2 : v.size ≤ 100000) (hpl : pre.length ≤ 9000) (hx : x3.length ≤ 50000000) (hr : run ≤ 100000) (r : List Int)
  (h : Ev (fun k => jL.l0 k (x3 ++ List.replicate v.size ((run + 1 : Nat) : Int)) ((if v.size = 0 then run else run + 1 : Nat) : Int) ((pre ++ (endL u v).map ofP) ++ suf) (((pre ++ (endL u v).map ofP) ++ suf).length : Int) ((pre ++ (endL u v).map ofP).length : Int)) r) :
  Ev (fun k => jL.l0 k x3 (run : Int) ((pre ++ (endL u v).map ofP) ++ suf) (((pre ++ (endL u v).map ofP) ++ suf).length : Int) (pre.length : Int)) r := by
 by_cases hu : u.size = 0
 ·by_cases hv : v.size = 0
  ·rw [Ax hu hv] at h ⊢
   rw [if_pos hv, hv, List.replicate_zero, List.append_nil] at h
   simp only [List.map_nil, List.append_nil] at h ⊢
   exact h
  rw [AW hu hv] at h ⊢
  rw [List.append_assoc]
  refine BT pre suf ⟨0, ⟨#[]⟩, v⟩ run x3 ⟨Int.le_refl _, by show (0 : Int) ≤ 100000; omega⟩ h2 (by omega) hx hr r ?_
  simp only [Int.toNat_zero, List.replicate_zero, List.append_nil]
  exact h
 by_cases hv : v.size = 0
 ·rw [A0 hu hv] at h ⊢
  rw [List.append_assoc]
  refine BT pre suf ⟨0, u, ⟨#[]⟩⟩ run x3 ⟨Int.le_refl _, by show (0 : Int) ≤ 100000; omega⟩ (Nat.zero_le _) (by omega) hx hr r ?_
  simp only [Int.toNat_zero, List.replicate_zero, List.append_nil, BW, if_true]
  rw [if_pos hv, hv, List.replicate_zero, List.append_nil] at h
  exact h
 rw [AK hu hv] at h ⊢
 rw [List.append_assoc]
 refine BT pre ((⟨0, ⟨#[]⟩, v⟩ : IP) :: suf) ⟨0, u, ⟨#[]⟩⟩ run x3 ⟨Int.le_refl _, by show (0 : Int) ≤ 100000; omega⟩ (Nat.zero_le _) (by omega) hx hr r ?_
 simp only [Int.toNat_zero, List.replicate_zero, List.append_nil, BW, if_true]
 refine BT (pre ++ [⟨0, u, ⟨#[]⟩⟩]) suf ⟨0, ⟨#[]⟩, v⟩ run x3 ⟨Int.le_refl _, by show (0 : Int) ≤ 100000; omega⟩ h2 (by rw [List.length_append, List.length_singleton]; omega) hx hr r ?_
 simp only [Int.toNat_zero, List.replicate_zero, List.append_nil]
 have em : (pre ++ [(⟨0, u, ⟨#[]⟩⟩ : IP)]) ++ [(⟨0, ⟨#[]⟩, v⟩ : IP)] = pre ++ List.map ofP [(0, u, (⟨#[]⟩ : ByteArray)), (0, ⟨#[]⟩, v)] := by rw [List.append_assoc]; rfl
 rw [em]
 exact h
theorem HA (g : List Bh) (a b : ByteArray) (s : Bh) : (Ah (s :: g) ++ endL a b).map ofP = (endL s.1 s.2.1).map ofP ++ ((⟨s.2.2, ⟨#[]⟩, ⟨#[]⟩⟩ : IP) :: (Ah g ++ endL a b).map ofP) := by
 rw [Aw, List.append_assoc, List.map_append, List.cons_append, List.map_cons]; rfl
theorem CK (u v : ByteArray) : ((endL u v).map ofP).length ≤ 2 := by rw [List.length_map]; exact CB u v
theorem FM (v : ByteArray) (r : Nat) : ((bytesOf v).map (fun x => (((r + 1 : Nat) : Int), x))).map (fun x => x.1) = List.replicate v.size ((r + 1 : Nat) : Int) := by
 rw [List.map_map, ← bytesOf_length v]
 exact List.map_const' ..
theorem EZ (a b : ByteArray) (ha : a.size ≤ 20000) (hb : b.size ≤ 20000) : ∀ (g : List Bh), (∀ x ∈ g, SegOk 60 x) → ∀ (pre : List IP) (run : Nat) (x3 : List Int), pre.length + 3 * g.length ≤ 1000 → run ≤ pre.length → x3.length ≤ 40000 * pre.length →
  Ev (fun k => jL.l0 k x3 (run : Int) (pre ++ (Ah g ++ endL a b).map ofP) ((pre ++ (Ah g ++ endL a b).map ofP).length : Int) (pre.length : Int)) (x3 ++ (Dr run g b).map (fun x => x.1))
 | [], hg, pre, run, x3, hl, hr, hx => by
  have em : pre ++ (Ah [] ++ endL a b).map ofP = (pre ++ (endL a b).map ofP) ++ [] := by rw [List.append_nil]; rfl
  have e2 := CK a b
  simp only [List.length_nil] at hl
  rw [em]
  refine DN pre [] a b run x3 (by omega) (by omega) (by omega) (by omega) (by omega) _ ?_
  rw [List.append_nil, Dr, FM]
  refine Ev.step (fun k => by rw [jL.l0]) ?_
  exact ev_neg (by omega) (ev_ret rfl)
 | s :: g, hg, pre, run, x3, hl, hr, hx => by
  obtain ⟨o1, o2, o3, o4, o5⟩ := hg s (List.mem_cons_self ..)
  obtain ⟨u, v, x⟩ := s
  simp only at o1 o2 o3 o4 o5
  have e2 := CK u v
  simp only [List.length_cons] at hl
  rw [HA, ← List.append_assoc]
  simp only
  have hl1 : (pre ++ (endL u v).map ofP).length = pre.length + ((endL u v).map ofP).length := List.length_append
  have hv1 : v.size ≠ 0 → 1 ≤ ((endL u v).map ofP).length := fun hv => by
   rw [List.length_map]
   by_cases hu : u.size = 0
   ·rw [AW hu hv]; exact Nat.le_refl _
   ·rw [AK hu hv]; exact Nat.le_succ _
  have hrun : (if v.size = 0 then run else run + 1) ≤ pre.length + ((endL u v).map ofP).length := by
   by_cases hv : v.size = 0
   ·rw [if_pos hv]; omega
   ·rw [if_neg hv]; have := hv1 hv; omega
  refine DN pre _ u v run x3 (by omega) (by omega) (by omega) (by omega) (by omega) _ ?_
  refine BT (pre ++ (endL u v).map ofP) _ ⟨x, ⟨#[]⟩, ⟨#[]⟩⟩ (if v.size = 0 then run else run + 1) _ ⟨by show 0 ≤ x; omega, by show x ≤ 100000; omega⟩ (Nat.zero_le _) (by omega) (by rw [List.length_append, List.length_replicate]; omega) (by omega) _ ?_
  simp only [BW, if_true, List.replicate_zero, List.append_nil]
  have := EZ a b ha hb g (fun y hy => hg y (List.mem_cons_of_mem _ hy)) ((pre ++ (endL u v).map ofP) ++ [⟨x, ⟨#[]⟩, ⟨#[]⟩⟩]) (if v.size = 0 then run else run + 1) ((x3 ++ List.replicate v.size ((run + 1 : Nat) : Int)) ++ List.replicate x.toNat 0)
   (by rw [List.length_append, List.length_singleton]; omega) (by rw [List.length_append, List.length_singleton]; omega) (by simp only [List.length_append, List.length_replicate, List.length_singleton] at hl1 ⊢; omega)
  refine ev_val this ?_
  rw [Dr, List.map_append, List.map_append, FM, List.append_assoc, List.append_assoc]
  congr 2
  rw [List.map_replicate]
theorem G1 (D R : List Int) (hRD : R.length = D.length) (hD : D.length ≤ 1000000) (hadj : ∀ i, i + 1 < D.length → ((gt 0 R i > 0 ∧ gt 0 R i = gt 0 R (i + 1)) ↔ (gt 0 D i ≠ 0 ∧ gt 0 D (i + 1) ≠ 0))) (X : List IP) (hX : X.length ≤ 1000) (hw : ∀ p ∈ X, 0 ≤ p.f0 ∧ p.f0 ≤ 20000 ∧ p.f2.size ≤ 20000) (d : Nat) : ∀ (i at_ c : Nat), i + d = X.length → at_ ≤ 40000 * i → c ≤ i →
  ∃ n : Int, Ev (fun k => jN.l0 k D R (c : Int) (at_ : Int) X (X.length : Int) (i : Int)) n ∧ Ev (fun k => jJ.l0 k D (c : Int) (at_ : Int) X (X.length : Int) (i : Int)) n := by
 induction d with
 | zero =>
  intro i at_ c hi ha hc
  refine ⟨(c : Int), ?_, ?_⟩
  ·refine Ev.step (fun k => by rw [jN.l0]) ?_
   exact ev_neg (by omega) (ev_ret rfl)
  refine Ev.step (fun k => by rw [jJ.l0]) ?_
  exact ev_neg (by omega) (ev_ret rfl)
 | succ d ih =>
  intro i at_ c hi ha hc
  obtain ⟨w1, w2, w3⟩ := hw _ (gt_mem A9 X i (by omega))
  obtain ⟨xn, hxn⟩ := Int.eq_ofNat_of_zero_le w1
  have e1 : wrap64 ((at_ : Int) + wrap64 ((gt A9 X i).f0 + ((gt A9 X i).f2.size : Int))) = ((at_ + xn + (gt A9 X i).f2.size : Nat) : Int) := by
   rw [wrap_id (x := (gt A9 X i).f0 + ((gt A9 X i).f2.size : Int)) (by omega) (by omega), wrap_id (by omega) (by omega)]; omega
  obtain ⟨n0, p1, p2⟩ := ih (i + 1) (at_ + xn + (gt A9 X i).f2.size) c (by omega) (by omega) (by omega)
  obtain ⟨n1, q1, q2⟩ := ih (i + 1) (at_ + xn + (gt A9 X i).f2.size) (c + 1) (by omega) (by omega) (by omega)
  have spl : ∀ n, Ev (fun k => if (gt A9 X i).f1.toList = ([] : List UInt8) then jN.l0 k D R (c : Int) ((at_ + xn + (gt A9 X i).f2.size : Nat) : Int) X (X.length : Int) ((i + 1 : Nat) : Int) else
    if (at_ : Int) > 0 then if (at_ : Int) < (D.length : Int) then if 0 ≤ wrap64 ((at_ : Int) - 1) then if wrap64 ((at_ : Int) - 1) < (R.length : Int) then if rd R (wrap64 ((at_ : Int) - 1)) > 0 then if 0 ≤ (at_ : Int) then if (at_ : Int) < (R.length : Int) then if rd R (wrap64 ((at_ : Int) - 1)) = rd R (at_ : Int) then
     jN.l0 k D R (wrap64 ((c : Int) + 1)) ((at_ + xn + (gt A9 X i).f2.size : Nat) : Int) X (X.length : Int) ((i + 1 : Nat) : Int) else jN.l0 k D R (c : Int) ((at_ + xn + (gt A9 X i).f2.size : Nat) : Int) X (X.length : Int) ((i + 1 : Nat) : Int) else none else none else jN.l0 k D R (c : Int) ((at_ + xn + (gt A9 X i).f2.size : Nat) : Int) X (X.length : Int) ((i + 1 : Nat) : Int) else none else none else jN.l0 k D R (c : Int) ((at_ + xn + (gt A9 X i).f2.size : Nat) : Int) X (X.length : Int) ((i + 1 : Nat) : Int) else jN.l0 k D R (c : Int) ((at_ + xn + (gt A9 X i).f2.size : Nat) : Int) X (X.length : Int) ((i + 1 : Nat) : Int)) n →
    Ev (fun k => jN.l0 k D R (c : Int) (at_ : Int) X (X.length : Int) (i : Int)) n := fun n h => by
   refine Ev.step (fun k => by rw [jN.l0]) ?_
   simp only [BV]
   rw [e1, wrap_succ i (by omega)]
   exact ev_pos (by omega) (ev_pos (by omega) (ev_pos (by omega) h))
  have ipl : ∀ n, Ev (fun k => if (gt A9 X i).f1.toList = ([] : List UInt8) then jJ.l0 k D (c : Int) ((at_ + xn + (gt A9 X i).f2.size : Nat) : Int) X (X.length : Int) ((i + 1 : Nat) : Int) else
    if (at_ : Int) > 0 then if (at_ : Int) < (D.length : Int) then if 0 ≤ wrap64 ((at_ : Int) - 1) then if wrap64 ((at_ : Int) - 1) < (D.length : Int) then if rd D (wrap64 ((at_ : Int) - 1)) = 0 then jJ.l0 k D (c : Int) ((at_ + xn + (gt A9 X i).f2.size : Nat) : Int) X (X.length : Int) ((i + 1 : Nat) : Int) else if 0 ≤ (at_ : Int) then if rd D (at_ : Int) = 0 then
     jJ.l0 k D (c : Int) ((at_ + xn + (gt A9 X i).f2.size : Nat) : Int) X (X.length : Int) ((i + 1 : Nat) : Int) else jJ.l0 k D (wrap64 ((c : Int) + 1)) ((at_ + xn + (gt A9 X i).f2.size : Nat) : Int) X (X.length : Int) ((i + 1 : Nat) : Int) else none else none else none else jJ.l0 k D (c : Int) ((at_ + xn + (gt A9 X i).f2.size : Nat) : Int) X (X.length : Int) ((i + 1 : Nat) : Int) else jJ.l0 k D (c : Int) ((at_ + xn + (gt A9 X i).f2.size : Nat) : Int) X (X.length : Int) ((i + 1 : Nat) : Int)) n →
    Ev (fun k => jJ.l0 k D (c : Int) (at_ : Int) X (X.length : Int) (i : Int)) n := fun n h => by
   refine Ev.step (fun k => by rw [jJ.l0]) ?_
   simp only [BV]
   rw [e1, wrap_succ i (by omega)]
   exact ev_pos (by omega) (ev_pos (by omega) (ev_pos (by omega) h))
  by_cases hp : (gt A9 X i).f1.toList = ([] : List UInt8)
  ·exact ⟨n0, spl n0 (ev_pos hp p1), ipl n0 (ev_pos hp p2)⟩
  by_cases h1 : (at_ : Int) > 0
  rotate_left
  ·exact ⟨n0, spl n0 (ev_neg hp (ev_neg h1 p1)), ipl n0 (ev_neg hp (ev_neg h1 p2))⟩
  by_cases h2 : (at_ : Int) < (D.length : Int)
  rotate_left
  ·exact ⟨n0, spl n0 (ev_neg hp (ev_pos h1 (ev_neg h2 p1))), ipl n0 (ev_neg hp (ev_pos h1 (ev_neg h2 p2)))⟩
  obtain ⟨j, rfl⟩ := Nat.exists_eq_succ_of_ne_zero (show at_ ≠ 0 by omega)
  have ew : wrap64 (((j + 1 : Nat) : Int) - 1) = (j : Int) := by rw [wrap_id (by omega) (by omega)]; omega
  have hj := hadj j (by omega)
  rw [show Nat.succ j = j + 1 from rfl] at *
  by_cases c1 : gt 0 R j > 0 ∧ gt 0 R j = gt 0 R (j + 1)
  ·obtain ⟨c3, c4⟩ := hj.1 c1
   refine ⟨n1, spl n1 (ev_neg hp (ev_pos h1 (ev_pos h2 ?_))), ipl n1 (ev_neg hp (ev_pos h1 (ev_pos h2 ?_)))⟩
   rotate_left
   ·rw [ew, wrap_succ c (by omega)]
    exact ev_pos (by omega) (ev_pos (by omega) (ev_neg c3 (ev_pos (by omega) (ev_neg c4 q2))))
   rw [ew, wrap_succ c (by omega)]
   exact ev_pos (by omega) (ev_pos (by omega) (ev_pos c1.1 (ev_pos (by omega) (ev_pos (by omega) (ev_pos c1.2 q1)))))
  refine ⟨n0, spl n0 (ev_neg hp (ev_pos h1 (ev_pos h2 ?_))), ipl n0 (ev_neg hp (ev_pos h1 (ev_pos h2 ?_)))⟩
  ·rw [ew]
   refine ev_pos (by omega) (ev_pos (by omega) (ev_if (fun c2 => ev_pos (by omega) (ev_pos (by omega) (ev_neg (fun c3 => c1 ⟨c2, c3⟩) p1))) (fun _ => p1)))
  rw [ew]
  refine ev_pos (by omega) (ev_pos (by omega) (ev_if (fun _ => p2) (fun c2 => ev_pos (by omega) (ev_if (fun _ => p2) (fun c3 => absurd (hj.2 ⟨c2, c3⟩) c1)))))
theorem EC {l : List IP} {g : List Bh} {a b : ByteArray} (e : Ad l = (Ah g ++ endL a b).map ofP) (hg : ∀ x ∈ g, SegOk 60 x) (ha : a.size ≤ 18000) (hb : b.size ≤ 18000) : ∀ p ∈ Ad l, 0 ≤ p.f0 ∧ p.f0 ≤ 20000 ∧ p.f2.size ≤ 20000 := by
 have he : ∀ (u v : ByteArray), v.size ≤ 18000 → ∀ q ∈ endL u v, q.1 = 0 ∧ q.2.2.size ≤ 18000 := fun u v hv q hq => by
  unfold endL at hq
  rcases List.mem_append.1 hq with h | h
  ·split at h
   ·cases h
   ·rw [List.mem_singleton.1 h]; exact ⟨rfl, Nat.zero_le _⟩
  ·split at h
   ·cases h
   ·rw [List.mem_singleton.1 h]; exact ⟨rfl, hv⟩
 rw [e]
 intro p hp
 obtain ⟨q, hq, rfl⟩ := List.mem_map.1 hp
 show 0 ≤ q.1 ∧ q.1 ≤ 20000 ∧ q.2.2.size ≤ 20000
 rcases List.mem_append.1 hq with h | h
 rotate_left
 ·have := he a b (by omega) q h; omega
 unfold Ah at h
 obtain ⟨s, hs, h⟩ := List.mem_flatMap.1 h
 obtain ⟨o1, o2, o3, o4, o5⟩ := hg s hs
 rcases List.mem_append.1 h with h | h
 ·have := he _ _ (by omega) q h; omega
 rw [List.mem_singleton.1 h]
 exact ⟨by show 0 ≤ s.2.2; omega, by show s.2.2 ≤ 20000; omega, Nat.zero_le _⟩
theorem E5 (a b : List IP) (ha : a.length ≤ 60) (pa : ∀ p ∈ a, Af p = true) (hb : b.length ≤ 60) (pb : ∀ p ∈ b, Af p = true) : ∃ n : Int, Ev (fun k => jN.f k a b) n ∧ Ev (fun k => jJ.f k (Ad a) (Ag b)) n := by
 obtain ⟨g, u, v, e, s1, s2, s3, s4, s5, s6⟩ := D9 b hb pb
 obtain ⟨g', u', v', e', t1, t2, t3, t4, t5, t6⟩ := D9 a ha pa
 have lb := BR b pb
 have hz := EO v g 0
 rw [s5] at hz
 have hzl : (Dr 0 g v).length = (Ag b).length := by rw [← hz, List.length_map]
 have ho : ∀ p ∈ a, AV p := fun p h => Ak (pa p h)
 have ho' : ∀ p ∈ b, AV p := fun p h => Ak (pb p h)
 have hr := EZ u v (by omega) (by omega) g s1 [] 0 [] (by simp; omega) (Nat.le_refl _) (by simp)
 rw [List.nil_append, ← e, List.nil_append] at hr
 obtain ⟨n, h1, h2⟩ := G1 (Ag b) ((Dr 0 g v).map (fun x => x.1)) (by rw [List.length_map, hzl]) (by omega)
  (fun i hi => by have := GO _ (EI v s4 g 0 s1) i (by rw [hzl]; exact hi); rw [hz] at this; exact this) (Ad a) (by have := FY a ha ho; omega) (EC e' t1 t2 t3) (Ad a).length 0 0 0 (by omega) (Nat.zero_le _) (Nat.le_refl _)
 refine ⟨n, ?_, ?_⟩
 rotate_left
 ·unfold jJ.f
  exact h2
 unfold jN.f
 refine Ev.bind (AR b hb pb) (Ev.bind (a := (Dr 0 g v).map (fun x => x.1)) ?_ (Ev.bind (AZ a ha ho) h1))
 unfold jL.f
 exact Ev.bind (AZ b hb ho') hr
theorem C1 (a b : List IP) (wa : ∀ x ∈ a, x.f1.size ≤ 1048576 ∧ x.f2.size ≤ 1048576) (wb : ∀ x ∈ b, x.f1.size ≤ 1048576 ∧ x.f2.size ≤ 1048576) : Ev (fun k => yI.f k a b) (An a b) := by
 unfold yI.f An
 refine Ev.bind (Ai a wa) (ev_if (fun ga => ?_) (fun ga => by rw [if_neg ga]; exact ev_ret rfl))
 rw [if_pos ga]
 refine Ev.bind (Ai b wb) (ev_if (fun gb => ?_) (fun gb => by rw [if_neg gb]; exact ev_ret rfl))
 rw [if_pos gb]
 obtain ⟨ha, pa, _, _⟩ := Ab ga
 obtain ⟨hb, pb, _, _⟩ := Ab gb
 exact Ev.bind (Bg a b ha pa hb pb) (ev_ret rfl)
theorem In (E : Int) (h0 : 0 ≤ E) (h1 : E ≤ 18446744073709551615) : 0 ≤ Go.bits .and .u64 E 255 ∧ Go.bits .and .u64 E 255 ≤ 255 := by
 have h := Go.bits_and_u64_nat E.toNat 255 (by omega) (by omega)
 rw [Int.toNat_of_nonneg h0] at h
 have h2 : E.toNat &&& 255 ≤ 255 := Nat.and_le_right
 have h3 : Go.bits .and .u64 E 255 = ((E.toNat &&& 255 : Nat) : Int) := h
 rw [h3]; omega
theorem Fv (x : Int) : 0 ≤ wrap64 (Go.bits .and .u64 (Go.IntKind.u64.wrap x / 1099511627776) 255) ∧ wrap64 (Go.bits .and .u64 (Go.IntKind.u64.wrap x / 1099511627776) 255) ≤ 255 := by
 have hw := Go.IntKind.wrap_u64 x
 obtain ⟨a, b⟩ := In (Go.IntKind.u64.wrap x / 1099511627776) (by rw [hw]; omega) (by rw [hw]; omega)
 rw [wrap_id (by omega) (by omega)]; exact ⟨a, b⟩
def BC (s : List Int) : Prop := (∀ x ∈ s, 0 ≤ x ∧ x ≤ 255) ∧ s.length ≤ 1000000000000
theorem En {s : List Int} (hs : BC s) (at_ seed : Int) (h0 : 0 ≤ at_) (h1 : at_ ≤ 100000000000000000) : ∃ x seed', yJ.f s at_ seed = some (x, at_ + 1, seed') ∧ 0 ≤ x ∧ x ≤ 255 := by
 unfold yJ.f
 rw [wrap_id (x := at_ + 1) (by omega) (by omega)]
 by_cases c : at_ < (s.length : Int)
 rotate_left
 ·rw [if_neg c]
  by_cases c2 : at_ + 1 ≤ (s.length : Int)
  rotate_left
  ·rw [if_neg c2]; exact ⟨_, _, rfl, Fv _⟩
  rw [if_pos c2]; exact ⟨_, _, rfl, Int.le_refl _, by decide⟩
 rw [if_pos c, if_pos h0]
 have hx : 0 ≤ rd s at_ ∧ rd s at_ ≤ 255 := by
  obtain ⟨n, rfl⟩ := Int.eq_ofNat_of_zero_le h0
  exact hs.1 _ (gt_mem 0 s n (by omega))
 have e : wrap64 (rd s at_) = rd s at_ := wrap_id (by omega) (by omega)
 by_cases c2 : at_ + 1 ≤ (s.length : Int)
 rotate_left
 ·rw [if_neg c2]; exact ⟨_, _, rfl, Fv _⟩
 rw [if_pos c2]; exact ⟨_, _, rfl, by rw [e]; exact hx.1, by rw [e]; exact hx.2⟩
theorem Bq (n : Nat) (h : n ≤ 4611686018427387904) : wrap64 (((n + 1 : Nat) : Int) - 1) = (n : Int) := by rw [wrap_id (by omega) (by omega)]; omega
theorem Fy {x n : Int} (hx : 0 ≤ x) (hn : 0 < n) : 0 ≤ Int.tmod x n ∧ Int.tmod x n < n := by
 rw [Int.tmod_eq_emod_of_nonneg hx]
 exact ⟨Int.emod_nonneg _ (by omega), Int.emod_lt_of_pos _ hn⟩
theorem AS {s : List Int} (hs : BC s) (at_ seed n : Int) (h0 : 0 ≤ at_) (h1 : at_ ≤ 10000000000000000) : ∃ r at' seed', jD.f s at_ seed n = some (r, at', seed') ∧ 0 ≤ r ∧ (1 ≤ n → r < n) ∧ at_ ≤ at' ∧ at' ≤ at_ + 2 := by
 unfold jD.f
 by_cases c : n ≤ 1
 ·rw [if_pos c]; exact ⟨_, _, _, rfl, Int.le_refl _, fun h => by omega, Int.le_refl _, by omega⟩
 rw [if_neg c]
 obtain ⟨x, s1, e1, x0, x1⟩ := En hs at_ seed h0 (by omega)
 rw [e1]
 simp only [Option.bind_some]
 by_cases c2 : n > 200
 rotate_left
 ·rw [if_neg c2, if_neg (by omega)]
  obtain ⟨t1, t2⟩ := Fy (x := x) (n := n) x0 (by omega)
  exact ⟨_, _, _, rfl, t1, fun _ => t2, by omega, by omega⟩
 rw [if_pos c2]
 obtain ⟨y, s2, e2, y0, y1⟩ := En hs (at_ + 1) s1 (by omega) (by omega)
 rw [e2]
 simp only [Option.bind_some]
 rw [if_neg (by omega)]
 have e3 : wrap64 (wrap64 (x * 256) + y) = x * 256 + y := by rw [wrap_id (x := x * 256) (by omega) (by omega), wrap_id (by omega) (by omega)]
 rw [e3]
 obtain ⟨t1, t2⟩ := Fy (x := x * 256 + y) (n := n) (by omega) (by omega)
 exact ⟨_, _, _, rfl, t1, fun _ => t2, by omega, by omega⟩
theorem Eb {s : List Int} (hs : BC s) (at_ seed n : Int) (h0 : 0 ≤ at_) (h1 : at_ ≤ 10000000000000000) : ∃ b at' seed', yB.f s at_ seed n = some (b, at', seed') ∧ at_ ≤ at' ∧ at' ≤ at_ + 2 := by
 unfold yB.f
 obtain ⟨r, a, z, e, _, _, h2, h3⟩ := AS hs at_ seed n h0 h1
 rw [e]
 exact ⟨_, _, _, rfl, h2, h3⟩
theorem Hy {s : List Int} (hs : BC s) (at_ seed : Int) (l : List ByteArray) (h0 : 0 ≤ at_) (h1 : at_ ≤ 10000000000000000) (hl : 1 ≤ l.length) (hl2 : l.length ≤ 1000) (m : Nat) (hm : ∀ x ∈ l, x.size ≤ m) : ∃ r at' seed', yK.f s at_ seed l = some (r, at', seed') ∧ r.size ≤ m ∧ at_ ≤ at' ∧ at' ≤ at_ + 2 := by
 unfold yK.f
 obtain ⟨r, a, z, e, r0, r1, h2, h3⟩ := AS hs at_ seed (l.length : Int) h0 h1
 rw [e]
 simp only [Option.bind_some]
 have := r1 (by omega)
 rw [if_pos r0, if_pos this]
 refine ⟨_, _, _, rfl, ?_, h2, h3⟩
 obtain ⟨n, rfl⟩ := Int.eq_ofNat_of_zero_le r0
 exact hm _ (gt_mem ByteArray.empty l n (by omega))
def Ep (s : List Int) (d C S : Nat) : Prop := ∀ (n : Nat) (x7 : ByteArray) (at_ seed : Int), n ≤ 60 → 0 ≤ at_ → at_ + ((n * C : Nat) : Int) ≤ 1000000000000000 → x7.size + n * S ≤ 1000000000 →
 ∃ (r : ByteArray) (at' seed' : Int), Ev (fun k => jB.l0 k (n : Int) (d : Int) x7 s at_ seed) (r, at', seed') ∧ at_ ≤ at' ∧ at' ≤ at_ + ((n * C : Nat) : Int) ∧ r.size ≤ x7.size + n * S
theorem AH (a b : ByteArray) : (a ++ b).size = a.size + b.size := ByteArray.size_append
theorem BY {s : List Int} (hs : BC s) (d C S : Nat) (hd : d ≤ 10) (hC : 4 ≤ C ∧ C ≤ 1000) (hS : 3 ≤ S ∧ S ≤ 1000) (hin : d = 0 ∨ ∃ e c z, d = e + 1 ∧ Ep s e c z ∧ 6 + 3 * c ≤ C ∧ 2 + 3 * z ≤ S) : Ep s d C S := by
 intro n
 induction n with
 | zero =>
  intro x7 at_ seed hn h0 h1 h2
  refine ⟨x7, at_, seed, ?_, Int.le_refl _, by omega, by omega⟩
  refine Ev.step (fun k => by rw [jB.l0]) ?_
  exact ev_neg (by omega) (ev_ret rfl)
 | succ n ih =>
  intro x7 at_ seed hn h0 h1 h2
  have m1 : (n + 1) * C = n * C + C := Nat.succ_mul n C
  have m2 : (n + 1) * S = n * S + S := Nat.succ_mul n S
  generalize (n + 1) * C = CC at m1 h1 ⊢
  generalize (n + 1) * S = SS at m2 h2 ⊢
  generalize n * C = cc at m1 ih
  generalize n * S = ss at m2 ih
  -- a part without elements
  have flat : ∀ (a z : Int), 0 ≤ a → a ≤ at_ + 2 → at_ ≤ a → ∃ (r : ByteArray) (at' seed' : Int), Ev (fun k => jB.j1 k ((n + 1 : Nat) : Int) (d : Int) x7 false s a z) (r, at', seed') ∧ at_ ≤ at' ∧ at' ≤ at_ + (CC : Int) ∧ r.size ≤ x7.size + SS := fun a z a0 a1 a2 => by
   obtain ⟨t, a', z', e, ht, b1, b2⟩ := Hy hs a z [(⟨#[97]⟩ : ByteArray), (⟨#[98]⟩ : ByteArray), (⟨#[97, 98]⟩ : ByteArray), (⟨#[120]⟩ : ByteArray), (⟨#[32]⟩ : ByteArray), (⟨#[111, 110, 101]⟩ : ByteArray), (⟨#[49]⟩ : ByteArray), (⟨#[122, 46]⟩ : ByteArray)] (by omega) (by omega) (by simp) (by simp) 3 (by
    intro x hx
    simp only [List.mem_cons, List.not_mem_nil, or_false] at hx
    rcases hx with rfl | rfl | rfl | rfl | rfl | rfl | rfl | rfl <;> decide)
   obtain ⟨r, at', seed', q1, q2, q3, q4⟩ := ih (x7 ++ t) a' z' (by omega) (by omega) (by omega) (by rw [AH]; omega)
   rw [AH] at q4
   refine ⟨r, at', seed', ?_, by omega, by omega, by omega⟩
   refine Ev.step (fun k => by rw [jB.j1]) ?_
   refine ev_neg (by simp) (ev_eq e (ev_pos (by dsimp only; omega) ?_))
   rw [Bq n (by omega)]; exact q1
  rcases hin with rfl | ⟨e, c, z, rfl, hok, hc, hz⟩
  ·obtain ⟨r, at', seed', q1, q2, q3, q4⟩ := flat at_ seed h0 (by omega) (Int.le_refl _)
   refine ⟨r, at', seed', ?_, q2, q3, q4⟩
   refine Ev.step (fun k => by rw [jB.l0]) ?_
   exact ev_pos (by omega) (ev_neg (by omega) q1)
  obtain ⟨b, a, z1, e1, b1, b2⟩ := Eb hs at_ seed 3 h0 (by omega)
  have hstart : ∀ r, Ev (fun k => jB.j1 k ((n + 1 : Nat) : Int) ((e + 1 : Nat) : Int) x7 b s a z1) r → Ev (fun k => jB.l0 k ((n + 1 : Nat) : Int) ((e + 1 : Nat) : Int) x7 s at_ seed) r := fun r h => by
   refine Ev.step (fun k => by rw [jB.l0]) ?_
   exact ev_pos (by omega) (ev_pos (by omega) (ev_eq e1 h))
  cases b with
  | false =>
   obtain ⟨r, at', seed', q1, q2, q3, q4⟩ := flat a z1 (by omega) b2 b1
   exact ⟨r, at', seed', hstart _ q1, q2, q3, q4⟩
  | true =>
   obtain ⟨p, a2, z2, e2, p0, p1, b3, b4⟩ := AS hs a z1 4 (by omega) (by omega)
   obtain ⟨m, a3, z3, e3, m0, m1', b5, b6⟩ := AS hs a2 z2 4 (by omega) (by omega)
   have m3 := m1' (by omega)
   obtain ⟨mn, rfl⟩ := Int.eq_ofNat_of_zero_le m0
   have c1 : mn * c ≤ 3 * c := Nat.mul_le_mul_right c (by omega)
   have c2 : mn * z ≤ 3 * z := Nat.mul_le_mul_right z (by omega)
   obtain ⟨t, a4, z4, t1, t2, t3, t4⟩ := hok mn (⟨#[]⟩ : ByteArray) a3 z3 (by omega) (by omega) (by omega) (by show 0 + mn * z ≤ _; omega)
   have t4' : t.size ≤ mn * z := by have : (⟨#[]⟩ : ByteArray).size = 0 := rfl; omega
   have hsz : ∀ y : List Int, y.length = 1 → (Go.strOfNums y).size = 1 := fun y hy => by rw [Go.strOfNums_size, hy]
   have hs1 : (Go.strOfNums [(wrap64 (65 + p)) % 256]).size = 1 := hsz _ rfl
   have hs2 : (⟨#[47]⟩ : ByteArray).size = 1 := rfl
   have hs3 : ((Go.strOfNums [(wrap64 (65 + p)) % 256] ++ t) ++ (⟨#[47]⟩ : ByteArray)).size = 2 + t.size := by rw [AH, AH, hs1, hs2]; omega
   obtain ⟨r, at', seed', q1, q2, q3, q4⟩ := ih (x7 ++ ((Go.strOfNums [(wrap64 (65 + p)) % 256] ++ t) ++ (⟨#[47]⟩ : ByteArray))) a4 z4 (by omega) (by omega) (by omega) (by rw [AH, hs3]; omega)
   rw [AH, hs3] at q4
   refine ⟨r, at', seed', hstart _ ?_, by omega, by omega, by omega⟩
   refine Ev.step (fun k => by rw [jB.j1]) ?_
   rw [Bq e (by omega), Bq n (by omega)]
   refine ev_pos rfl (ev_eq e2 (ev_eq rfl (ev_eq e3 (Ev.bind (a := (t, a4, z4)) ?_ (ev_pos (by rw [hs1]; simp only; omega) (ev_pos (by rw [AH, hs1]; simp only; omega) (ev_pos (by rw [hs3]; omega) q1)))))))
   refine Ev.step (fun k => by rw [jB.f]) ?_
   exact t1
theorem Ga {s : List Int} (hs : BC s) : Ep s 3 186 107 :=
 BY hs 3 186 107 (by omega) (by omega) (by omega) (.inr ⟨2, 60, 35, rfl, BY hs 2 60 35 (by omega) (by omega) (by omega) (.inr ⟨1, 18, 11, rfl, BY hs 1 18 11 (by omega) (by omega) (by omega) (.inr ⟨0, 4, 3, rfl, BY hs 0 4 3 (by omega) (by omega) (by omega) (.inl rfl), by omega, by omega⟩), by omega, by omega⟩), by omega, by omega⟩)
theorem FN {s : List Int} (hs : BC s) (n : Nat) (hn : n ≤ 60) (at_ seed : Int) (h0 : 0 ≤ at_) (h1 : at_ ≤ 900000000000000) : ∃ (r : ByteArray) (at' seed' : Int), Ev (fun k => jB.f k s at_ seed (n : Int) 3) (r, at', seed') ∧ at_ ≤ at' ∧ at' ≤ at_ + 20000 ∧ r.size ≤ 10000 := by
 obtain ⟨r, a, z, q1, q2, q3, q4⟩ := Ga hs n (⟨#[]⟩ : ByteArray) at_ seed hn h0 (by omega) (by show 0 + n * 107 ≤ _; omega)
 have e0 : (⟨#[]⟩ : ByteArray).size = 0 := rfl
 refine ⟨r, a, z, ?_, q2, by omega, by omega⟩
 refine Ev.step (fun k => by rw [jB.f]) ?_
 exact q1
theorem BX (x : ByteArray) (a b : Nat) (h : b ≤ x.size) : (x.extract a b).size = b - a := by rw [ByteArray.size_extract]; omega
set_option maxHeartbeats 4000000 in
theorem CF {s : List Int} (hs : BC s) (w : ByteArray) (hw : 1 ≤ w.size ∧ w.size ≤ 100) : ∀ (n : Nat) (x : ByteArray) (at_ seed : Int), n ≤ 3 → 0 ≤ at_ → at_ + 6 * (n : Int) ≤ 6000000000000000 → x.size + n ≤ 1000000000 →
  ∃ (r : ByteArray) (at' seed' : Int), Ev (fun k => jH.l0 k x w (n : Int) s at_ seed) (r, at', seed') ∧ at_ ≤ at' ∧ at' ≤ at_ + 6 * (n : Int) ∧ r.size ≤ x.size + n
 | 0, x, at_, seed, hn, h0, h1, hx => by
  refine ⟨x, at_, seed, ?_, Int.le_refl _, by omega, by omega⟩
  refine Ev.step (fun k => by rw [jH.l0]) ?_
  refine ev_neg (by omega) ?_
  refine Ev.step (fun k => by rw [jH.j1]) ?_
  exact ev_neg (by simp) (ev_ret rfl)
 | n + 1, x, at_, seed, hn, h0, h1, hx => by
  have hstart : ∀ r, Ev (fun k => jH.j1 k x w ((n + 1 : Nat) : Int) (decide ((x.size : Int) > 0)) s at_ seed) r → Ev (fun k => jH.l0 k x w ((n + 1 : Nat) : Int) s at_ seed) r := fun r h => by
   refine Ev.step (fun k => by rw [jH.l0]) ?_
   exact ev_pos (by omega) h
  by_cases hx0 : (x.size : Int) > 0
  ·rw [decide_eq_true hx0] at hstart
   obtain ⟨i, a1, z1, e1, i0, i1, b1, b2⟩ := AS hs at_ seed (x.size : Int) h0 (by omega)
   obtain ⟨j, a2, z2, e2, j0, j1, b3, b4⟩ := AS hs a1 z1 (w.size : Int) (by omega) (by omega)
   obtain ⟨c, a3, z3, e3, c0, c1, b5, b6⟩ := AS hs a2 z2 3 (by omega) (by omega)
   have i2 := i1 (by omega)
   have j2 := j1 (by omega)
   have hone : (Go.strOfNums [bt w j]).size = 1 := by rw [Go.strOfNums_size]; rfl
   obtain ⟨im, rfl⟩ := Int.eq_ofNat_of_zero_le i0
   have s1 := BX x 0 im (by omega)
   have s2 := BX x im x.size (Nat.le_refl _)
   have s3 := BX x (im + 1) x.size (Nat.le_refl _)
   by_cases h3 : c = 0
   ·obtain ⟨r, at', seed', q1, q2, q3, q4⟩ := CF hs w hw n (((x.extract 0 im) ++ (Go.strOfNums [bt w j])) ++ (x.extract im x.size)) a3 z3 (by omega) (by omega) (by omega) (by rw [AH, AH, hone]; omega)
    rw [AH, AH, hone] at q4
    refine ⟨r, at', seed', hstart _ ?_, by omega, by omega, by omega⟩
    refine Ev.step (fun k => by rw [jH.j1]) ?_
    refine ev_pos rfl (ev_eq e1 (ev_eq e2 (ev_pos j0 (ev_pos j2 (ev_eq rfl (ev_eq e3 ?_))))))
    dsimp only
    rw [wrap_succ im (by omega), Bq n (by omega), Int.toNat_natCast, Int.toNat_natCast]
    exact ev_pos h3 (ev_pos (by omega) (ev_pos (by omega) (ev_pos (by omega) (ev_pos (by rw [AH]; omega) q1))))
   ·by_cases h4 : c = 1
    ·obtain ⟨r, at', seed', q1, q2, q3, q4⟩ := CF hs w hw n (((x.extract 0 im) ++ (Go.strOfNums [bt w j])) ++ (x.extract (im + 1) x.size)) a3 z3 (by omega) (by omega) (by omega) (by rw [AH, AH, hone]; omega)
     rw [AH, AH, hone] at q4
     refine ⟨r, at', seed', hstart _ ?_, by omega, by omega, by omega⟩
     refine Ev.step (fun k => by rw [jH.j1]) ?_
     refine ev_pos rfl (ev_eq e1 (ev_eq e2 (ev_pos j0 (ev_pos j2 (ev_eq rfl (ev_eq e3 ?_))))))
     dsimp only
     rw [wrap_succ im (by omega), Bq n (by omega), Int.toNat_natCast, Int.toNat_natCast]
     exact ev_neg h3 (ev_pos h4 (ev_pos (by omega) (ev_pos (by omega) (ev_pos (by omega) (ev_pos (by omega) (ev_pos (by omega) (ev_pos (by rw [AH]; omega) q1)))))))
    ·obtain ⟨r, at', seed', q1, q2, q3, q4⟩ := CF hs w hw n ((x.extract 0 im) ++ (x.extract (im + 1) x.size)) a3 z3 (by omega) (by omega) (by omega) (by rw [AH]; omega)
     rw [AH] at q4
     refine ⟨r, at', seed', hstart _ ?_, by omega, by omega, by omega⟩
     refine Ev.step (fun k => by rw [jH.j1]) ?_
     refine ev_pos rfl (ev_eq e1 (ev_eq e2 (ev_pos j0 (ev_pos j2 (ev_eq rfl (ev_eq e3 ?_))))))
     dsimp only
     rw [wrap_succ im (by omega), Bq n (by omega), Int.toNat_natCast, Int.toNat_natCast]
     exact ev_neg h3 (ev_neg h4 (ev_pos (by omega) (ev_pos (by omega) (ev_pos (by omega) (ev_pos (by omega) (ev_pos (by omega) q1))))))
  ·rw [decide_eq_false hx0] at hstart
   refine ⟨x, at_, seed, hstart _ ?_, Int.le_refl _, by omega, by omega⟩
   refine Ev.step (fun k => by rw [jH.j1]) ?_
   exact ev_neg (by simp) (ev_ret rfl)
theorem Gh {s : List Int} (hs : BC s) (x w : ByteArray) (hw : 1 ≤ w.size ∧ w.size ≤ 100) (hx : x.size ≤ 900000000) (at_ seed : Int) (h0 : 0 ≤ at_) (h1 : at_ ≤ 5900000000000000) : ∃ (r : ByteArray) (at' seed' : Int), Ev (fun k => jH.f k s at_ seed x w) (r, at', seed') ∧ at_ ≤ at' ∧ at' ≤ at_ + 20 ∧ r.size ≤ x.size + 3 := by
 obtain ⟨m, a, z, e, m0, m1, b1, b2⟩ := AS hs at_ seed 3 h0 (by omega)
 have m2 := m1 (by omega)
 obtain ⟨mn, rfl⟩ := Int.eq_ofNat_of_zero_le m0
 obtain ⟨r, at', seed', q1, q2, q3, q4⟩ := CF hs w hw mn x a z (by omega) (by omega) (by omega) (by omega)
 refine ⟨r, at', seed', ?_, by omega, by omega, by omega⟩
 unfold jH.f
 exact ev_eq e q1
theorem Iv {s : List Int} (hs : BC s) (at_ seed : Int) (h0 : 0 ≤ at_) (h1 : at_ ≤ 500000000000000) : ∃ (r : ByteArray) (at' seed' : Int), Ev (fun k => jS.f k s at_ seed) (r, at', seed') ∧ at_ ≤ at' ∧ at' ≤ at_ + 50000 ∧ r.size ≤ 20000 := by
 have last : ∀ (x : ByteArray) (a z : Int), 0 ≤ a → a ≤ 900000000000000 → x.size ≤ 10000 → ∃ (r : ByteArray) (at' seed' : Int), Ev (fun k => jS.j0 k x s a z) (r, at', seed') ∧ a ≤ at' ∧ at' ≤ a + 30 ∧ r.size ≤ 20000 := fun x a z a0 a1 hx => by
  obtain ⟨b, a2, z2, e2, b1, b2⟩ := Eb hs a z 12 a0 (by omega)
  cases b with
  | true =>
   obtain ⟨r, at', seed', q1, q2, q3, q4⟩ := Gh hs x (⟨#[65, 47, 97, 90]⟩ : ByteArray) (by decide) (by omega) a2 z2 (by omega) (by omega)
   refine ⟨r, at', seed', ?_, by omega, by omega, by omega⟩
   refine Ev.step (fun k => by rw [jS.j0]) ?_
   exact ev_eq e2 (ev_pos rfl (Ev.bind q1 (ev_ret rfl)))
  | false =>
   refine ⟨x, a2, z2, ?_, by omega, by omega, by omega⟩
   refine Ev.step (fun k => by rw [jS.j0]) ?_
   exact ev_eq e2 (ev_neg (by simp) (ev_ret rfl))
 obtain ⟨m, a1, z1, e1, m0, m1, b1, b2⟩ := AS hs at_ seed 7 h0 (by omega)
 have m2 := m1 (by omega)
 obtain ⟨mn, rfl⟩ := Int.eq_ofNat_of_zero_le m0
 obtain ⟨x, a2, z2, q1, q2, q3, q4⟩ := FN hs mn (by omega) a1 z1 (by omega) (by omega)
 obtain ⟨c, a3, z3, e3, c0, c1, b3, b4⟩ := AS hs a2 z2 30 (by omega) (by omega)
 unfold jS.f
 by_cases h3 : c = 0
 ·obtain ⟨y, a4, z4, p1, p2, p3, p4⟩ := FN hs 60 (Nat.le_refl _) a3 z3 (by omega) (by omega)
  obtain ⟨r, at', seed', r1, r2, r3, r4⟩ := last y a4 z4 (by omega) (by omega) (by omega)
  exact ⟨r, at', seed', ev_eq e1 (Ev.bind q1 (ev_eq e3 (ev_pos h3 (Ev.bind p1 r1)))), by omega, by omega, r4⟩
 by_cases h4 : c = 1
 rotate_left
 ·obtain ⟨r, at', seed', r1, r2, r3, r4⟩ := last x a3 z3 (by omega) (by omega) (by omega)
  exact ⟨r, at', seed', ev_eq e1 (Ev.bind q1 (ev_eq e3 (ev_neg h3 (ev_neg h4 r1)))), by omega, by omega, r4⟩
 obtain ⟨y, a4, z4, e4, p4, p2, p3⟩ := Hy hs a3 z3 [(⟨#[65, 65, 65, 65, 65, 65, 65, 65, 65, 65, 65, 65, 47, 47, 47, 47, 47, 47, 47, 47, 47, 47, 47, 47]⟩ : ByteArray), (⟨#[65, 65, 65, 65, 65, 65, 65, 65, 65, 65, 65, 65, 65, 47, 47, 47, 47, 47, 47, 47, 47, 47, 47, 47, 47, 47]⟩ : ByteArray)] (by omega) (by omega) (by simp) (by simp) 30 (by
  intro x hx
  simp only [List.mem_cons, List.not_mem_nil, or_false] at hx
  rcases hx with rfl | rfl <;> decide)
 obtain ⟨r, at', seed', r1, r2, r3, r4⟩ := last y a4 z4 (by omega) (by omega) (by omega)
 exact ⟨r, at', seed', ev_eq e1 (Ev.bind q1 (ev_eq e3 (ev_neg h3 (ev_pos h4 (ev_eq e4 r1))))), by omega, by omega, r4⟩
def B3 (z : Int) : Int := (z * 6364136223846793005 + 1442695040888963407) % 18446744073709551616
def Ee (z : Int) : Int := B3 (B3 (B3 z))
def tI : Nat → Int → Int
 | 0, z => z
 | n + 1, z => tI n (Ee z)
theorem Dw : ∀ (m n : Nat) (z : Int), tI (m + n) z = tI n (tI m z)
 | 0, n, z => by rw [Nat.zero_add]; rfl
 | m + 1, n, z => by rw [Nat.add_right_comm]; exact Dw m n (Ee z)
theorem Hu (n : Nat) (z : Int) : tI (n + 1) z = Ee (tI n z) := by rw [Dw n 1 z]; rfl
def ES (n : Nat) (p : Int × Int) : Prop := ∀ z, tI n z % 4398046511104 = (p.1 * z + p.2) % 4398046511104
def IA : Nat → Int × Int
 | 0 => (1610380290293, 146808144153)
 | k + 1 => let p := IA k; (p.1 * p.1 % 4398046511104, (p.1 * p.2 + p.2) % 4398046511104)
theorem GD (n : Nat) (p : Int × Int) (h : ES n p) : ES (n + n) (p.1 * p.1 % 4398046511104, (p.1 * p.2 + p.2) % 4398046511104) := by
 intro z
 rw [Dw, h]
 have h1 := h z
 have e1 : (p.1 * tI n z + p.2) % 4398046511104 = (p.1 * (p.1 * z + p.2) + p.2) % 4398046511104 := by
  rw [Int.add_emod, Int.mul_emod, h1, ← Int.mul_emod, ← Int.add_emod]
 rw [e1]
 have e2 : p.1 * (p.1 * z + p.2) + p.2 = p.1 * p.1 * z + (p.1 * p.2 + p.2) := by rw [Int.mul_add, Int.mul_assoc, Int.add_assoc]
 rw [e2]
 show _ = ((p.1 * p.1 % 4398046511104) * z + (p.1 * p.2 + p.2) % 4398046511104) % 4398046511104
 rw [← Int.add_emod_emod]
 have e3 : (p.1 * p.1 * z) % 4398046511104 = (p.1 * p.1 % 4398046511104 * z) % 4398046511104 := by rw [Int.mul_emod (p.1 * p.1) z, Int.mul_emod (p.1 * p.1 % 4398046511104) z, Int.emod_emod_of_dvd (p.1 * p.1) (Int.dvd_refl 4398046511104)]
 rw [Int.add_emod, e3, ← Int.add_emod]
theorem GN : ES 1 (IA 0) := by
 intro z
 show Ee z % 4398046511104 = (1610380290293 * z + 146808144153) % 4398046511104
 unfold Ee B3; omega
theorem EB : ∀ k : Nat, ES (2 ^ k) (IA k)
 | 0 => GN
 | k + 1 => by
  have := GD _ _ (EB k)
  rw [← Nat.two_mul, Nat.mul_comm, ← Nat.pow_succ] at this
  exact this
def Qr (w : Int) : Prop := w / 1099511627776 % 4 = 1
theorem GU (m n : Nat) (p q : Int × Int) (hp : ES m p) (hq : ES n q) : ES (m + n) (q.1 * p.1 % 4398046511104, (q.1 * p.2 + q.2) % 4398046511104) := by
 intro z
 rw [Dw, hq]
 have h1 := hp z
 have e1 : (q.1 * tI m z + q.2) % 4398046511104 = (q.1 * (p.1 * z + p.2) + q.2) % 4398046511104 := by
  rw [Int.add_emod, Int.mul_emod, h1, ← Int.mul_emod, ← Int.add_emod]
 rw [e1]
 have e2 : q.1 * (p.1 * z + p.2) + q.2 = q.1 * p.1 * z + (q.1 * p.2 + q.2) := by rw [Int.mul_add, Int.mul_assoc, Int.add_assoc]
 rw [e2]
 show _ = ((q.1 * p.1 % 4398046511104) * z + (q.1 * p.2 + q.2) % 4398046511104) % 4398046511104
 rw [← Int.add_emod_emod]
 have e3 : (q.1 * p.1 * z) % 4398046511104 = (q.1 * p.1 % 4398046511104 * z) % 4398046511104 := by rw [Int.mul_emod (q.1 * p.1) z, Int.mul_emod (q.1 * p.1 % 4398046511104) z, Int.emod_emod_of_dvd (q.1 * p.1) (Int.dvd_refl 4398046511104)]
 rw [Int.add_emod, e3, ← Int.add_emod]
def E8 : List Nat → Int × Int
 | [] => (1, 0)
 | k :: l => let p := E8 l; let q := IA k; (q.1 * p.1 % 4398046511104, (q.1 * p.2 + q.2) % 4398046511104)
def It : List Nat → Nat
 | [] => 0
 | k :: l => It l + 2 ^ k
theorem BN : ∀ l : List Nat, ES (It l) (E8 l)
 | [] => fun z => by show z % _ = (1 * z + 0) % _; omega
 | k :: l => GU _ _ _ _ (BN l) (EB k)
theorem Hp (z : Int) : tI 40 z % 4398046511104 = (3113555458273 * z + 671486118104) % 4398046511104 := by
 have h := BN [3, 5] z
 have e : E8 [3, 5] = (3113555458273, 671486118104) := by decide +kernel
 rw [e] at h; exact h
theorem Gz (z : Int) : tI 253 z % 4398046511104 = (3530636718853 * z + 2973535732173) % 4398046511104 := by
 have h := BN [0, 2, 3, 4, 5, 6, 7] z
 have e : E8 [0, 2, 3, 4, 5, 6, 7] = (3530636718853, 2973535732173) := by decide +kernel
 rw [e] at h; exact h
theorem Gg (z : Int) : tI 254 z % 4398046511104 = (2446635195337 * z + 151530357322) % 4398046511104 := by
 have h := BN [1, 2, 3, 4, 5, 6, 7] z
 have e : E8 [1, 2, 3, 4, 5, 6, 7] = (2446635195337, 151530357322) := by decide +kernel
 rw [e] at h; exact h
theorem GY (z : Int) : tI 286 z % 4398046511104 = (2087427804489 * z + 2179666371370) % 4398046511104 := by
 have h := BN [1, 2, 3, 4, 8] z
 have e : E8 [1, 2, 3, 4, 8] = (2087427804489, 2179666371370) := by decide +kernel
 rw [e] at h; exact h
theorem GP (z : Int) : tI 421 z % 4398046511104 = (1886938275173 * z + 2374622980997) % 4398046511104 := by
 have h := BN [0, 2, 5, 7, 8] z
 have e : E8 [0, 2, 5, 7, 8] = (1886938275173, 2374622980997) := by decide +kernel
 rw [e] at h; exact h
theorem Ct {w : Int} (h : Qr w) : 1099511627776 ≤ w % 4398046511104 ∧ w % 4398046511104 < 2199023255552 := by
 unfold Qr at h; omega
theorem Ik (w a b c d e : Int) (ha : a % 4398046511104 = (2446635195337 * w + 151530357322) % 4398046511104) (hb : b % 4398046511104 = (1886938275173 * w + 2374622980997) % 4398046511104) (hc : c % 4398046511104 = (3113555458273 * w + 671486118104) % 4398046511104)
  (hd : d % 4398046511104 = (3530636718853 * w + 2973535732173) % 4398046511104) (he : e % 4398046511104 = (2087427804489 * w + 2179666371370) % 4398046511104) (h0 : Qr w) (h1 : Qr a) (h2 : Qr b) (h3 : Qr c) (h4 : Qr d) (h5 : Qr e) :
  w % 4398046511104 + a % 4398046511104 + b % 4398046511104 - c % 4398046511104 - d % 4398046511104 - e % 4398046511104 = 1099511627776 := by
 have g0 := Ct h0
 have g1 := Ct h1
 have g2 := Ct h2
 have g3 := Ct h3
 have g4 := Ct h4
 have g5 := Ct h5
 clear h0 h1 h2 h3 h4 h5
 have q : (w % 4398046511104 + a % 4398046511104 + b % 4398046511104 - c % 4398046511104 - d % 4398046511104 - e % 4398046511104) % 4398046511104 = 1099511627776 := by
  rw [ha, hb, hc, hd, he]; clear g0 g1 g2 g3 g4 g5 ha hb hc hd he; omega
 clear ha hb hc hd he
 generalize w % 4398046511104 = w' at *
 generalize a % 4398046511104 = a' at *
 generalize b % 4398046511104 = b' at *
 generalize c % 4398046511104 = c' at *
 generalize d % 4398046511104 = d' at *
 generalize e % 4398046511104 = e' at *
 omega
def Az (w : Int) : Nat → Int
 | 0 => 0
 | n + 1 => Az w n + tI n w % 4398046511104
theorem Bv (w : Int) (a : Nat) : ∀ n : Nat, (∀ i, i < a + n → Qr (tI i w)) → (n : Int) * 1099511627776 ≤ Az w (a + n) - Az w a ∧ Az w (a + n) - Az w a ≤ (n : Int) * 2199023255551
 | 0, _ => by simp
 | n + 1, h => by
  have ih := Bv w a n (fun i hi => h i (by omega))
  have g := Ct (h (a + n) (by omega))
  have e : Az w (a + (n + 1)) = Az w (a + n) + tI (a + n) w % 4398046511104 := rfl
  rw [e]
  omega
theorem E3 (w : Int) : ∀ m : Nat, (∀ i, i < 421 + m → Qr (tI i w)) →
  Az w m + (Az w (254 + m) - Az w 254) + (Az w (421 + m) - Az w 421) - (Az w (40 + m) - Az w 40) - (Az w (253 + m) - Az w 253) - (Az w (286 + m) - Az w 286) = (m : Int) * 1099511627776
 | 0, _ => by
  show (0 : Int) + (Az w 254 - Az w 254) + (Az w 421 - Az w 421) - (Az w 40 - Az w 40) - (Az w 253 - Az w 253) - (Az w 286 - Az w 286) = _
  omega
 | m + 1, h => by
  have ih := E3 w m (fun i hi => h i (by omega))
  have t : ∀ n : Nat, tI n (tI m w) = tI (n + m) w := fun n => by rw [← Dw, Nat.add_comm]
  have q := Ik (tI m w) (tI (254 + m) w) (tI (421 + m) w) (tI (40 + m) w) (tI (253 + m) w) (tI (286 + m) w) (by rw [← t]; exact Gg _) (by rw [← t]; exact GP _) (by rw [← t]; exact Hp _) (by rw [← t]; exact Gz _) (by rw [← t]; exact GY _)
   (h m (by omega)) (h _ (by omega)) (h _ (by omega)) (h _ (by omega)) (h _ (by omega)) (h _ (by omega))
  have e : ∀ n : Nat, Az w (n + (m + 1)) = Az w (n + m) + tI (n + m) w % 4398046511104 := fun n => rfl
  have e0 : Az w (m + 1) = Az w m + tI m w % 4398046511104 := rfl
  rw [e0, e, e, e, e, e]
  clear e e0 t h
  omega
theorem Ho (w : Int) (h : ∀ i, i ≤ 596 → Qr (tI i w)) : False := by
 have s := E3 w 176 (fun i hi => h i (by omega))
 have a1 := Bv w 0 40 (fun i hi => h i (by omega))
 have a2 := Bv w 176 40 (fun i hi => h i (by omega))
 have b1 := Bv w 253 1 (fun i hi => h i (by omega))
 have b2 := Bv w (253 + 176) 1 (fun i hi => h i (by omega))
 have c1 := Bv w 286 135 (fun i hi => h i (by omega))
 have c2 := Bv w (286 + 176) 135 (fun i hi => h i (by omega))
 have z : Az w 0 = 0 := rfl
 simp only [Nat.reduceAdd] at s a1 a2 b1 b2 c1 c2
 clear h
 generalize Az w 40 = y40 at *
 generalize Az w 176 = y176 at *
 generalize Az w 216 = y216 at *
 generalize Az w 253 = y253 at *
 generalize Az w 254 = y254 at *
 generalize Az w 429 = y429 at *
 generalize Az w 430 = y430 at *
 generalize Az w 286 = y286 at *
 generalize Az w 421 = y421 at *
 generalize Az w 462 = y462 at *
 generalize Az w 597 = y597 at *
 generalize Az w 0 = y0 at *
 omega
theorem GR {s : List Int} (at_ seed : Int) (h0 : (s.length : Int) ≤ at_) (h1 : at_ ≤ 100000000000000000) : yJ.f s at_ seed = some (B3 seed / 1099511627776 % 256, at_ + 1, B3 seed) := by
 unfold yJ.f
 have e1 : IntKind.u64.wrap ((IntKind.u64.wrap ((IntKind.u64.wrap (seed * 6364136223846793005)) + 0)) + 1442695040888963407) = B3 seed := by
  rw [Go.IntKind.wrap_u64, Go.IntKind.wrap_u64, Go.IntKind.wrap_u64]; unfold B3; omega
 have hs : 0 ≤ B3 seed ∧ B3 seed < 18446744073709551616 := by unfold B3; omega
 rw [wrap_id (x := at_ + 1) (by omega) (by omega), if_neg (by omega), if_neg (by omega), e1]
 have e2 : Go.bits .and .u64 (B3 seed / 1099511627776) 255 = B3 seed / 1099511627776 % 256 := by
  have h := Go.bits_and_u64_nat (B3 seed / 1099511627776).toNat 255 (by omega) (by omega)
  rw [Int.toNat_of_nonneg (by omega)] at h
  have h2 : (B3 seed / 1099511627776).toNat &&& 255 = (B3 seed / 1099511627776).toNat % 256 := Nat.and_two_pow_sub_one_eq_mod _ 8
  have h3 : Go.bits .and .u64 (B3 seed / 1099511627776) 255 = (((B3 seed / 1099511627776).toNat &&& 255 : Nat) : Int) := h
  rw [h3, h2]; omega
 rw [e2, wrap_id (by omega) (by omega)]
theorem Cd {s : List Int} (at_ seed n : Int) (h0 : (s.length : Int) ≤ at_) (h1 : at_ ≤ 100000000000000000) (hn : 1 < n) (hn2 : n ≤ 200) : jD.f s at_ seed n = some (B3 seed / 1099511627776 % 256 % n, at_ + 1, B3 seed) := by
 unfold jD.f
 rw [if_neg (by omega), GR at_ seed h0 h1]
 simp only [Option.bind_some]
 rw [if_neg (by omega), if_neg (by omega), Int.tmod_eq_emod_of_nonneg (by omega)]
theorem Ic {s : List Int} (at_ seed : Int) (l : List ByteArray) (h0 : (s.length : Int) ≤ at_) (h1 : at_ ≤ 100000000000000000) (hl : 1 < l.length) (hl2 : l.length ≤ 200) : ∃ x, yK.f s at_ seed l = some (x, at_ + 1, B3 seed) := by
 unfold yK.f
 rw [Cd at_ seed (l.length : Int) h0 h1 (by omega) (by omega)]
 simp only [Option.bind_some]
 have a : 0 ≤ B3 seed / 1099511627776 % 256 % (l.length : Int) := Int.emod_nonneg _ (by omega)
 have b : B3 seed / 1099511627776 % 256 % (l.length : Int) < (l.length : Int) := Int.emod_lt_of_pos _ (by omega)
 rw [if_pos a, if_pos b]
 exact ⟨_, rfl⟩
def HX (x : IP) : Prop := 0 ≤ x.f0 ∧ x.f0 ≤ 5 ∧ x.f1.size ≤ 3 ∧ x.f2.size ≤ 5
theorem Er {l : List IP} {p : IP} (h : ∀ x ∈ l, HX x) (hp : HX p) : ∀ x ∈ l ++ [p], HX x := fun x hx => by
 rcases List.mem_append.1 hx with q | q
 ·exact h x q
 ·rw [List.mem_singleton.1 q]; exact hp
def Bx : List ByteArray := [(⟨#[120]⟩ : ByteArray), (⟨#[121, 121]⟩ : ByteArray), (⟨#[65, 47]⟩ : ByteArray), (⟨#[110, 101, 119]⟩ : ByteArray), (⟨#[66]⟩ : ByteArray)]
theorem Ig {s : List Int} (hs : BC s) (x1 : ByteArray) (h1 : x1.size ≤ 10000000000) (x5 : List IP) (hl : x5.length ≤ 3518437208000) (p : Nat) (hp : p < x1.size) (at_ seed : Int) (h0 : 0 ≤ at_) (ha : at_ ≤ 9000000000000000) :
  ∃ (at' seed' : Int) (q : IP) (p' : Nat), at_ + 2 ≤ at' ∧ at' ≤ at_ + 6 ∧ p' ≤ x1.size ∧ HX q ∧ (p < p' ∨ (p' = p ∧ ((s.length : Int) ≤ at_ → Qr (B3 (B3 seed)) ∧ seed' = Ee seed))) ∧
   ∀ r, Ev (fun k => jE.l0 k x1 (x5 ++ [q]) (p' : Int) s at' seed') r → Ev (fun k => jE.l0 k x1 x5 (p : Int) s at_ seed) r := by
 obtain ⟨n, a1, z1, e1, n0, n1, b1, b2⟩ := AS hs at_ seed 5 h0 (by omega)
 have n2 := n1 (by omega)
 have b1' : at_ < a1 := by
  by_cases q : at_ < (s.length : Int)
  ·obtain ⟨x, z, e, _⟩ := En hs at_ seed h0 (by omega)
   unfold jD.f at e1
   rw [if_neg (by omega), e] at e1
   simp only [Option.bind_some] at e1
   rw [if_neg (by omega), if_neg (by omega)] at e1
   injection e1 with e1; injection e1 with _ e1; injection e1 with e1 _; omega
  ·rw [Cd at_ seed 5 (by omega) (by omega) (by omega) (by omega)] at e1
   injection e1 with e1; injection e1 with _ e1; injection e1 with e1 _; omega
 obtain ⟨c, a2, z2, e2, c0, c1, b3, b4⟩ := AS hs a1 z1 4 (by omega) (by omega)
 have b3' : a1 < a2 := by
  by_cases q : a1 < (s.length : Int)
  ·obtain ⟨x, z, e, _⟩ := En hs a1 z1 (by omega) (by omega)
   unfold jD.f at e2
   rw [if_neg (by omega), e] at e2
   simp only [Option.bind_some] at e2
   rw [if_neg (by omega), if_neg (by omega)] at e2
   injection e2 with e2; injection e2 with _ e2; injection e2 with e2 _; omega
  ·rw [Cd a1 z1 4 (by omega) (by omega) (by omega) (by omega)] at e2
   injection e2 with e2; injection e2 with _ e2; injection e2 with e2 _; omega
 obtain ⟨t, ht1, ht2, ht3, hst⟩ : ∃ t : Nat, 1 ≤ t ∧ p + t ≤ x1.size ∧ t ≤ 5 ∧ ∀ r, Ev (fun k => jE.j1 k x1 x5 (p : Int) (t : Int) s a1 z1) r → Ev (fun k => jE.l0 k x1 x5 (p : Int) s at_ seed) r := by
  have w1 : wrap64 (1 + n) = 1 + n := wrap_id (by omega) (by omega)
  have w2 : wrap64 ((x1.size : Int) - (p : Int)) = (x1.size : Int) - (p : Int) := wrap_id (by omega) (by omega)
  by_cases g : 1 + n > (x1.size : Int) - (p : Int)
  ·refine ⟨x1.size - p, by omega, by omega, by omega, fun r h => ?_⟩
   refine Ev.step (fun k => by rw [jE.l0]) ?_
   refine ev_pos (by omega) (ev_eq e1 ?_)
   rw [w1, w2]
   refine ev_pos g ?_
   rw [show (x1.size : Int) - (p : Int) = ((x1.size - p : Nat) : Int) by omega]; exact h
  ·obtain ⟨nn, rfl⟩ := Int.eq_ofNat_of_zero_le n0
   refine ⟨1 + nn, by omega, by omega, by omega, fun r h => ?_⟩
   refine Ev.step (fun k => by rw [jE.l0]) ?_
   refine ev_pos (by omega) (ev_eq e1 ?_)
   rw [w1, w2]
   refine ev_neg g ?_
   rw [show 1 + (nn : Int) = ((1 + nn : Nat) : Int) by omega]; exact h
 have w3 : wrap64 ((p : Int) + (t : Int)) = ((p + t : Nat) : Int) := by rw [wrap_id (by omega) (by omega)]; omega
 by_cases h3 : c = 0
 ·refine ⟨a2, z2, ⟨0, (⟨#[]⟩ : ByteArray), x1.extract p (p + t)⟩, p + t, by omega, by omega, by omega, ⟨Int.le_refl _, (by show (0 : Int) ≤ 5; omega), Nat.zero_le _, ?_⟩, .inl (by omega), fun r h => hst r ?_⟩
  ·show (x1.extract p (p + t)).size ≤ _
   rw [ByteArray.size_extract]; omega
  refine Ev.step (fun k => by rw [jE.j1]) ?_
  rw [w3, Int.toNat_natCast, Int.toNat_natCast]
  exact ev_eq e2 (ev_pos h3 (ev_pos (by omega) (ev_pos (by omega) (ev_pos (by omega) (ev_pos (by omega) h)))))
 by_cases h4 : c = 1
 rotate_left
 ·refine ⟨a2, z2, ⟨(t : Int), (⟨#[]⟩ : ByteArray), (⟨#[]⟩ : ByteArray)⟩, p + t, by omega, by omega, by omega, ⟨(by show (0 : Int) ≤ (t : Int); omega), (by show (t : Int) ≤ 5; omega), Nat.zero_le _, Nat.zero_le _⟩, .inl (by omega), fun r h => hst r ?_⟩
  refine Ev.step (fun k => by rw [jE.j1]) ?_
  rw [w3]
  exact ev_eq e2 (ev_neg h3 (ev_neg h4 (ev_pos (by omega) h)))
 obtain ⟨u, a3, z3, e3, u1, b5, b6⟩ := Hy hs a2 z2 Bx (by omega) (by omega) (by simp [Bx]) (by simp [Bx]) 3 (by
  intro x hx
  simp only [Bx, List.mem_cons, List.not_mem_nil, or_false] at hx
  rcases hx with rfl | rfl | rfl | rfl | rfl <;> decide)
 refine ⟨a3, z3, ⟨0, u, (⟨#[]⟩ : ByteArray)⟩, p, by omega, by omega, by omega, ⟨Int.le_refl _, (by show (0 : Int) ≤ 5; omega), (by show u.size ≤ 3; omega), Nat.zero_le _⟩, .inr ⟨rfl, fun hc => ?_⟩, fun r h => hst r ?_⟩
 rotate_left
 ·refine Ev.step (fun k => by rw [jE.j1]) ?_
  exact ev_eq e2 (ev_neg h3 (ev_pos h4 (ev_eq e3 (ev_pos (by omega) h))))
 rw [Cd at_ seed 5 (by omega) (by omega) (by omega) (by omega)] at e1
 injection e1 with e1; injection e1 with _ e1; injection e1 with f1 g1
 rw [Cd a1 z1 4 (by omega) (by omega) (by omega) (by omega)] at e2
 injection e2 with e2; injection e2 with k2 e2; injection e2 with f2 g2
 obtain ⟨x, hx⟩ := Ic (s := s) a2 z2 Bx (by omega) (by omega) (by simp [Bx]) (by simp [Bx])
 rw [hx] at e3
 injection e3 with e3; injection e3 with _ e3; injection e3 with f3 g3
 rw [← g1] at g2 k2
 refine ⟨?_, ?_⟩
 rotate_left
 ·rw [← g3, ← g2]; rfl
 rw [h4] at k2
 unfold Qr
 clear hst
 generalize B3 (B3 seed) / 1099511627776 = X at k2 ⊢
 omega
def B2 (s : List Int) (x1 : ByteArray) (r K : Nat) (m : Int → Int → Prop) : Prop := ∀ (x5 : List IP) (p : Nat) (at_ seed : Int), p + r = x1.size → m at_ seed → 0 ≤ at_ → at_ + 6 * (K : Int) ≤ 8000000000000000 → x5.length + K ≤ 3518437208000 → (∀ x ∈ x5, HX x) →
 ∃ (o : List IP) (at' seed' : Int), Ev (fun k => jE.l0 k x1 x5 (p : Int) s at_ seed) (o, at', seed') ∧ at_ ≤ at' ∧ at' ≤ at_ + 6 * (K : Int) ∧ o.length ≤ x5.length + K ∧ ∀ x ∈ o, HX x
theorem F7 {s : List Int} (hs : BC s) (x1 : ByteArray) (h1 : x1.size ≤ 10000000000) : B2 s x1 0 2 (fun _ _ => True) := by
 intro x5 p at_ seed hp _ h0 ha hl hsm
 obtain ⟨b, a1, z1, e1, b1, b2⟩ := Eb hs at_ seed 3 h0 (by omega)
 cases b with
 | false =>
  refine ⟨x5, a1, z1, ?_, by omega, by omega, by omega, hsm⟩
  refine Ev.step (fun k => by rw [jE.l0]) ?_
  exact ev_neg (by omega) (ev_eq e1 (ev_neg (by simp) (ev_ret rfl)))
 | true =>
  obtain ⟨u, a2, z2, e2, u1, b3, b4⟩ := Hy hs a1 z1 [(⟨#[101, 110, 100]⟩ : ByteArray), (⟨#[46]⟩ : ByteArray)] (by omega) (by omega) (by simp) (by simp) 3 (by
   intro x hx
   simp only [List.mem_cons, List.not_mem_nil, or_false] at hx
   rcases hx with rfl | rfl <;> decide)
  refine ⟨x5 ++ [⟨0, u, (⟨#[]⟩ : ByteArray)⟩], a2, z2, ?_, by omega, by omega, by rw [List.length_append, List.length_singleton]; omega, Er hsm ⟨Int.le_refl _, (by show (0 : Int) ≤ 5; omega), (by show u.size ≤ 3; omega), Nat.zero_le _⟩⟩
  refine Ev.step (fun k => by rw [jE.l0]) ?_
  exact ev_neg (by omega) (ev_eq e1 (ev_pos rfl (ev_eq e2 (ev_pos (by omega) (ev_ret rfl)))))
theorem DK {s : List Int} (hs : BC s) (x1 : ByteArray) (h1 : x1.size ≤ 10000000000) (r K : Nat) (m : Int → Int → Prop) (hr : 0 < r)
  (hadv : ∀ r', r' < r → B2 s x1 r' K (fun at_ _ => ∃ a z, m a z ∧ a + 2 ≤ at_))
  (hput : B2 s x1 r K (fun at_ seed => ∃ a z, m a z ∧ a + 2 ≤ at_ ∧ ((s.length : Int) ≤ a → Qr (B3 (B3 z)) ∧ seed = Ee z))) : B2 s x1 r (K + 1) m := by
 intro x5 p at_ seed hp hm h0 ha hl hsm
 obtain ⟨a', z', q, p', c1, c2, c3, c4, c5, c6⟩ := Ig hs x1 h1 x5 (by omega) p (by omega) at_ seed h0 (by omega)
 have hlen : (x5 ++ [q]).length = x5.length + 1 := by rw [List.length_append, List.length_singleton]
 rcases c5 with c5 | ⟨c5, c7⟩
 rotate_left
 ·subst c5
  obtain ⟨o, at', seed', q1, q2, q3, q4, q5⟩ := hput (x5 ++ [q]) p' a' z' hp ⟨at_, seed, hm, c1, c7⟩ (by omega) (by omega) (by omega) (Er hsm c4)
  exact ⟨o, at', seed', c6 _ q1, by omega, by omega, by omega, q5⟩
 obtain ⟨o, at', seed', q1, q2, q3, q4, q5⟩ := hadv (x1.size - p') (by omega) (x5 ++ [q]) p' a' z' (by omega) ⟨at_, seed, hm, c1⟩ (by omega) (by omega) (by omega) (Er hsm c4)
 exact ⟨o, at', seed', c6 _ q1, by omega, by omega, by omega, q5⟩
theorem B2.imp {s : List Int} {x1 : ByteArray} {r K K' : Nat} {m m' : Int → Int → Prop} (h : B2 s x1 r K m) (hm : ∀ a z, m' a z → m a z) (hK : K ≤ K') : B2 s x1 r K' m' := by
 intro x5 p at_ seed hp hm' h0 ha hl hsm
 obtain ⟨o, at', seed', q1, q2, q3, q4, q5⟩ := h x5 p at_ seed hp (hm _ _ hm') h0 (by omega) (by omega) hsm
 exact ⟨o, at', seed', q1, q2, by omega, by omega, q5⟩
theorem F3 (z : Int) : B3 (B3 (Ee z)) = Ee (B3 (B3 z)) := rfl
theorem F2 {s : List Int} (hs : BC s) (x1 : ByteArray) (h1 : x1.size ≤ 10000000000) (r K : Nat) (hr : 0 < r)
  (hadv : ∀ r', r' < r → B2 s x1 r' K (fun at_ _ => (s.length : Int) ≤ at_)) (w : Int) (d : Nat) : ∀ i : Nat, i + d = 597 → (∀ j, j < i → Qr (tI j w)) →
   B2 s x1 r (K + d) (fun at_ seed => (s.length : Int) ≤ at_ ∧ B3 (B3 seed) = tI i w) := by
 induction d with
 | zero =>
  intro i hi hq
  exact absurd (Ho w (fun j hj => hq j (by omega))) id
 | succ d ih =>
  intro i hi hq
  refine DK hs x1 h1 r (K + d) _ hr (fun r' hr' => (hadv r' hr').imp (fun a z ⟨a0, z0, q, q2⟩ => by have := q.1; omega) (by omega)) ?_
  by_cases hqi : Qr (tI i w)
  rotate_left
  ·intro x5 p at_ seed hp ⟨a0, z0, q, q2, q3⟩
   obtain ⟨g1, _⟩ := q3 q.1
   rw [q.2] at g1
   exact absurd g1 hqi
  refine (ih (i + 1) (by omega) (fun j hj => ?_)).imp (fun a z ⟨a0, z0, q, q2, q3⟩ => ?_) (Nat.le_refl _)
  ·by_cases hji : j < i
   ·exact hq j hji
   have : j = i := by omega
   subst this; exact hqi
  obtain ⟨_, g2⟩ := q3 q.1
  refine ⟨by have := q.1; omega, ?_⟩
  rw [g2, F3, q.2, Hu]
theorem Do {s : List Int} (hs : BC s) (x1 : ByteArray) (h1 : x1.size ≤ 10000000000) (r K : Nat) (hr : 0 < r)
  (hadv : ∀ r', r' < r → ∀ m : Nat, B2 s x1 r' (K + m) (fun at_ _ => (s.length : Int) ≤ at_ + 2 * (m : Int))) : ∀ m : Nat,
   B2 s x1 r (K + 597 + m) (fun at_ _ => (s.length : Int) ≤ at_ + 2 * (m : Int))
 | 0 => by
  intro x5 p at_ seed hp hm
  exact F2 hs x1 h1 r K hr (fun r' hr' => (hadv r' hr' 0).imp (fun a z q => by omega) (Nat.le_refl _)) (B3 (B3 seed)) 597 0 (by omega) (fun j hj => by omega) x5 p at_ seed hp ⟨by omega, rfl⟩
 | m + 1 => by
  refine DK hs x1 h1 r (K + 597 + m) _ hr (fun r' hr' => (hadv r' hr' m).imp (fun a z ⟨a0, z0, q, q2⟩ => by omega) (by omega)) ?_
  exact (Do hs x1 h1 r K hr hadv m).imp (fun a z ⟨a0, z0, q, q2, _⟩ => by omega) (Nat.le_refl _)
theorem FZ {s : List Int} (hs : BC s) (x1 : ByteArray) (h1 : x1.size ≤ 10000000000) (r : Nat) : ∀ r', r' ≤ r → ∀ m : Nat, B2 s x1 r' (r * 597 + 2 + m) (fun at_ _ => (s.length : Int) ≤ at_ + 2 * (m : Int)) := by
 induction r with
 | zero =>
  intro r' hr' m
  have : r' = 0 := by omega
  subst this
  exact (F7 hs x1 h1).imp (fun _ _ _ => trivial) (by omega)
 | succ r ih =>
  intro r' hr' m
  have e : (r + 1) * 597 = r * 597 + 597 := Nat.succ_mul _ _
  by_cases h : r' ≤ r
  ·exact (ih r' h m).imp (fun _ _ q => q) (by omega)
  exact (Do hs x1 h1 r' (r * 597 + 2) (by omega) (fun r'' hr'' m => ih r'' (by omega) m) m).imp (fun _ _ q => q) (by omega)
theorem Fj {s : List Int} (hs : BC s) (n : Nat) (hn : s.length ≤ 2 * n) (t : ByteArray) (hK : t.size * 597 + 2 + n ≤ 3518437208000) (at_ seed : Int) (h0 : 0 ≤ at_) (h1 : at_ ≤ 200000000000000) :
  ∃ (o : List IP) (at' seed' : Int), Ev (fun k => jE.f k s at_ seed t) (o, at', seed') ∧ at_ ≤ at' ∧ at' ≤ at_ + 6 * ((t.size * 597 + 2 + n : Nat) : Int) ∧ o.length ≤ t.size * 597 + 2 + n ∧ ∀ x ∈ o, HX x := by
 obtain ⟨o, at', seed', q1, q2, q3, q4, q5⟩ := FZ hs t (by omega) t.size t.size (Nat.le_refl _) n [] 0 at_ seed (by omega) (by omega) h0 (by omega) (by simp only [List.length_nil]; omega) (fun x hx => by cases hx)
 refine ⟨o, at', seed', q1, q2, q3, by simp only [List.length_nil] at q4; omega, q5⟩
theorem C3 {s : List Int} (hs : BC s) (at_ seed : Int) (h0 : 0 ≤ at_) (h1 : at_ ≤ 400000000000000) :
  ∃ (t : ByteArray) (at' seed' : Int), Ev (fun k => jY.f k s at_ seed) (t, at', seed') ∧ at_ ≤ at' ∧ at' ≤ at_ + 60000 ∧ t.size ≤ 300 := by
 obtain ⟨x, a1, z1, e1, b1, b2, hx⟩ := Iv hs at_ seed h0 (by omega)
 have hg := Bk x (by omega)
 unfold jY.f
 by_cases g : goodB (bytesOf x) = true
 rotate_left
 ·exact ⟨(⟨#[116, 101, 120, 116]⟩ : ByteArray), a1, z1, Ev.bind e1 (Ev.bind hg (ev_neg g (ev_neg (by omega) (ev_ret rfl)))), by omega, by omega, by decide⟩
 have hz := BD g
 by_cases c : (x.size : Int) > 40
 rotate_left
 ·exact ⟨x, a1, z1, Ev.bind e1 (Ev.bind hg (ev_pos g (ev_neg c (ev_ret rfl)))), by omega, by omega, hz⟩
 obtain ⟨b, a2, z2, e2, b3, b4⟩ := Eb hs a1 z1 20 (by omega) (by omega)
 cases b with
 | true => exact ⟨x, a2, z2, Ev.bind e1 (Ev.bind hg (ev_pos g (ev_pos c (ev_eq e2 (ev_pos rfl (ev_ret rfl)))))), by omega, by omega, hz⟩
 | false => exact ⟨x.extract 0 40, a2, z2, Ev.bind e1 (Ev.bind hg (ev_pos g (ev_pos c (ev_eq e2 (ev_neg (by simp) (ev_pos (by omega) (ev_pos (by dsimp only; omega) (ev_ret rfl)))))))), by omega, by omega, by rw [ByteArray.size_extract]; omega⟩
theorem Ix {x : Int} (h : (Lit.int .u8 x).wf = true) : 0 ≤ x ∧ x ≤ 255 := by
 simp [Lit.wf, IntKind.min, IntKind.max, IntKind.signed, IntKind.bits] at h
 omega
theorem HC {l : List Int} (hl : l.length ≤ 1048576) (h : ∀ x ∈ l, (Lit.int .u8 x).wf = true) : BC l := ⟨fun x hx => Ix (h x hx), by omega⟩
abbrev E7 (l : List IP) : Prop := ∀ x ∈ l, x.f1.size ≤ 1048576 ∧ x.f2.size ≤ 1048576
theorem Ef {l : List IP} (h : ∀ p ∈ l, HX p) : E7 l := fun x hx => by
 obtain ⟨_, _, a, b⟩ := h x hx; omega
def KN : Nat := 524288
theorem Fn {n : Nat} (h : n ≤ 1048576) : n ≤ 2 * KN := by unfold KN; omega
theorem G4 {l : List IP} {p : IP} (h : E7 l) (hp : p.f1.size ≤ 1048576 ∧ p.f2.size ≤ 1048576) (i : Nat) : E7 (l.set i p) := fun x hx => by
 rcases List.mem_or_eq_of_mem_set hx with q | q
 ·exact h x q
 ·rw [q]; exact hp
theorem Hb {l : List IP} {p : IP} (h : E7 l) (hp : p.f1.size ≤ 1048576 ∧ p.f2.size ≤ 1048576) : E7 (l ++ [p]) := fun x hx => by
 rcases List.mem_append.1 hx with q | q
 ·exact h x q
 ·rw [List.mem_singleton.1 q]; exact hp
theorem Hs {s : List Int} (hs : BC s) (at_ seed : Int) (l : List Int) (h0 : 0 ≤ at_) (h1 : at_ ≤ 10000000000000000) (hl : 1 ≤ l.length) : ∃ r a' z', yR.f s at_ seed l = some (r, a', z') ∧ at_ ≤ a' ∧ a' ≤ at_ + 2 := by
 obtain ⟨r, a, z, e, b1, b2, b3, b4⟩ := AS hs at_ seed (l.length : Int) h0 h1
 have b2' := b2 (by omega)
 unfold yR.f
 rw [e]
 exact ⟨rd l r, a, z, by simp only [Option.bind_some]; rw [if_pos b1, if_pos b2'], b3, b4⟩
theorem IF {s : List Int} (hs : BC s) (hsl : s.length ≤ 1048576) (at_ seed : Int) (h0 : 0 ≤ at_) (h1 : at_ ≤ 100000000000000) : ∃ (o : List IP) (a z : Int), Ev (fun k => jX.f k s at_ seed) (o, a, z) ∧ E7 o := by
 have kn : KN = 524288 := rfl
 obtain ⟨t, a1, z1, e1, b1, b2, ht⟩ := C3 hs at_ seed h0 (by omega)
 obtain ⟨o, a2, z2, e2, b3, b4, ho, hsm0⟩ := Fj hs KN (Fn hsl) t (by unfold KN; omega) a1 z1 (by omega) (by omega)
 have hsm := Ef hsm0
 have hj : ∀ (b : Bool) (a3 z3 : Int), a2 ≤ a3 → a3 ≤ a2 + 10 → 0 < o.length ∨ b = false → ∃ (o' : List IP) (a z : Int), Ev (fun k => jX.j0 k o b s a3 z3) (o', a, z) ∧ E7 o' := by
  intro b a3 z3 c1 c2 c3
  cases b with
  | false =>
   refine ⟨o, a3, z3, Ev.step (fun k => by rw [jX.j0]) (ev_neg (by simp) (ev_ret rfl)), hsm⟩
  | true =>
   have hpos : 0 < o.length := c3.resolve_right (by simp)
   obtain ⟨r4, a4, z4, e4, d1, d2, d3, d4⟩ := AS hs a3 z3 4 (by omega) (by omega)
   by_cases q0 : r4 = 0
   ·obtain ⟨r5, a5, z5, e5, f1, f2, f3, f4⟩ := AS hs a4 z4 (o.length : Int) (by omega) (by omega)
    obtain ⟨r6, a6, z6, e6, g1, g2, g3, g4⟩ := AS hs a5 z5 5 (by omega) (by omega)
    have f2' := f2 (by omega)
    obtain ⟨n5, rfl⟩ := Int.eq_ofNat_of_zero_le f1
    have hx := hsm _ (gt_mem A9 o n5 (by omega))
    refine ⟨o.set n5 ⟨wrap64 (r6 - 1), (gt A9 o n5).f1, (gt A9 o n5).f2⟩, a6, z6, ?_, G4 hsm (p := (⟨wrap64 (r6 - 1), (gt A9 o n5).f1, (gt A9 o n5).f2⟩ : IP)) hx _⟩
    refine Ev.step (fun k => by rw [jX.j0]) ?_
    exact (ev_pos rfl (ev_eq e4 (ev_pos q0 (ev_eq e5 (ev_eq e6 (ev_pos f1 (ev_pos f2' (ev_ret rfl))))))))
   ·by_cases q1 : r4 = 1
    ·obtain ⟨r5, a5, z5, e5, f1, f2, f3, f4⟩ := AS hs a4 z4 (o.length : Int) (by omega) (by omega)
     have f2' := f2 (by omega)
     obtain ⟨n5, rfl⟩ := Int.eq_ofNat_of_zero_le f1
     have hx := hsm _ (gt_mem A9 o n5 (by omega))
     refine ⟨o.set n5 ⟨(gt A9 o n5).f0, (⟨#[90]⟩ : ByteArray), (gt A9 o n5).f2⟩, a5, z5, ?_, G4 hsm (p := (⟨(gt A9 o n5).f0, (⟨#[90]⟩ : ByteArray), (gt A9 o n5).f2⟩ : IP)) ⟨(show (1 : Nat) ≤ 1048576 by omega), hx.2⟩ _⟩
     refine Ev.step (fun k => by rw [jX.j0]) ?_
     exact (ev_pos rfl (ev_eq e4 (ev_neg q0 (ev_pos q1 (ev_eq e5 (ev_pos f1 (ev_pos f2' (ev_ret rfl))))))))
    ·by_cases q2 : r4 = 2
     ·refine ⟨o ++ [⟨0, (⟨#[]⟩ : ByteArray), (⟨#[]⟩ : ByteArray)⟩], a4, z4, ?_, Hb hsm ⟨Nat.zero_le _, Nat.zero_le _⟩⟩
      refine Ev.step (fun k => by rw [jX.j0]) ?_
      exact (ev_pos rfl (ev_eq e4 (ev_neg q0 (ev_neg q1 (ev_pos q2 (ev_pos (by omega) (ev_ret rfl)))))))
     ·obtain ⟨r5, a5, z5, e5, f3, f4⟩ := Hs hs a4 z4 ([300, 301] : List Int) (by omega) (by omega) (by decide)
      refine ⟨o ++ [⟨r5, (⟨#[]⟩ : ByteArray), (⟨#[]⟩ : ByteArray)⟩], a5, z5, ?_, Hb hsm ⟨Nat.zero_le _, Nat.zero_le _⟩⟩
      refine Ev.step (fun k => by rw [jX.j0]) ?_
      exact (ev_pos rfl (ev_eq e4 (ev_neg q0 (ev_neg q1 (ev_neg q2 (ev_eq e5 (ev_pos (by omega) (ev_ret rfl))))))))
 unfold jX.f
 by_cases c : 0 < o.length
 rotate_left
 ·obtain ⟨o', a, z, h1, h5⟩ := hj false a2 z2 (by omega) (by omega) (.inr rfl)
  exact ⟨o', a, z, Ev.bind e1 (Ev.bind e2 (ev_neg (by dsimp only; omega) h1)), h5⟩
 obtain ⟨b, a3, z3, e3, b5, b6⟩ := Eb hs a2 z2 12 (by omega) (by omega)
 obtain ⟨o', a, z, h1, h5⟩ := hj b a3 z3 (by omega) (by omega) (.inl c)
 exact ⟨o', a, z, Ev.bind e1 (Ev.bind e2 (ev_pos (by dsimp only; omega) (ev_eq e3 h1))), h5⟩
theorem E9 {s : List Int} (hs : BC s) (hsl : s.length ≤ 1048576) : ∃ r : List IP × List IP, Ev (fun k => jZ.f k s) r ∧ E7 r.1 ∧ E7 r.2 := by
 have kn : KN = 524288 := rfl
 obtain ⟨t, a1, z1, e1, b1, b2, ht⟩ := C3 hs 0 0 (Int.le_refl _) (by omega)
 obtain ⟨o, a2, z2, e2, b3, b4, ho, hsm⟩ := Fj hs KN (Fn hsl) t (by unfold KN; omega) a1 z1 (by omega) (by omega)
 obtain ⟨c, a3, z3, e3, b5, b6⟩ := Eb hs a2 z2 8 (by omega) (by omega)
 unfold jZ.f yM.f
 cases c with
 | true =>
  obtain ⟨b, a4, z4, e4, hb⟩ := IF hs hsl a3 z3 (by omega) (by omega)
  exact ⟨(o, b), Ev.bind (Ev.bind e1 (Ev.bind e2 (ev_eq e3 (ev_pos rfl (Ev.bind e4 (ev_ret rfl)))))) (ev_ret rfl), Ef hsm, hb⟩
 | false =>
  obtain ⟨b, a4, z4, e4, b7, b8, hl, hsm2⟩ := Fj hs KN (Fn hsl) t (by unfold KN; omega) a3 z3 (by omega) (by omega)
  exact ⟨(o, b), Ev.bind (Ev.bind e1 (Ev.bind e2 (ev_eq e3 (ev_neg (by simp) (Ev.bind e4 (ev_ret rfl)))))) (ev_ret rfl), Ef hsm, Ef hsm2⟩
def DV : List Int → List Int → Int → Int
 | x :: r, y :: q, c => if x = 0 then DV r q c else if y = 0 then DV r q c else DV r q (wrap64 (c + 1))
 | _, _, c => c
theorem Ca : ∀ (x y : List Int) (c : Int), DV x y c = DV y x c
 | [], [], c => rfl
 | [], _ :: _, c => rfl
 | _ :: _, [], c => rfl
 | x :: r, y :: q, c => by
  unfold DV
  by_cases h1 : x = 0
  ·by_cases h2 : y = 0
   ·rw [if_pos h1, if_pos h2]; exact Ca r q c
   ·rw [if_pos h1, if_neg h2, if_pos h1]; exact Ca r q c
  ·by_cases h2 : y = 0
   ·rw [if_neg h1, if_pos h2, if_pos h2]; exact Ca r q c
   ·rw [if_neg h1, if_neg h2, if_neg h2, if_neg h1]; exact Ca r q _
theorem FC (x y : List Int) (hx : x.length ≤ 1000000) (hxy : x.length = y.length) (d : Nat) : ∀ (i : Nat) (c : Int), i + d = x.length →
  Ev (fun k => jC.l0 k c x y (x.length : Int) (i : Int)) (DV (x.drop i) (y.drop i) c, true) ∧ Ev (fun k => jG.l0 k y c x (x.length : Int) (i : Int)) (DV (x.drop i) (y.drop i) c, true) := by
 induction d with
 | zero =>
  intro i c hi
  rw [List.drop_eq_nil_of_le (by omega), List.drop_eq_nil_of_le (by omega)]
  constructor
  ·refine Ev.step (fun k => by rw [jC.l0]) ?_
   exact ev_neg (by omega) (ev_ret rfl)
  refine Ev.step (fun k => by rw [jG.l0]) ?_
  exact ev_neg (by omega) (ev_ret rfl)
 | succ d ih =>
  intro i c hi
  rw [gt_drop 0 x i (by omega), gt_drop 0 y i (by omega), DV]
  obtain ⟨p1, p2⟩ := ih (i + 1) c (by omega)
  obtain ⟨q1, q2⟩ := ih (i + 1) (wrap64 (c + 1)) (by omega)
  by_cases h1 : gt 0 x i = 0
  ·rw [if_pos h1]
   constructor
   ·refine Ev.step (fun k => by rw [jC.l0]) ?_
    rw [wrap_succ i (by omega)]
    exact ev_pos (by omega) (ev_pos (by omega) (ev_pos (by omega) (ev_pos h1 p1)))
   refine Ev.step (fun k => by rw [jG.l0]) ?_
   rw [wrap_succ i (by omega)]
   exact ev_pos (by omega) (ev_pos (by omega) (ev_pos (by omega) (ev_pos h1 p2)))
  rw [if_neg h1]
  by_cases h2 : gt 0 y i = 0
  ·rw [if_pos h2]
   constructor
   ·refine Ev.step (fun k => by rw [jC.l0]) ?_
    rw [wrap_succ i (by omega)]
    exact ev_pos (by omega) (ev_pos (by omega) (ev_pos (by omega) (ev_neg h1 (ev_pos (by omega) (ev_pos h2 p1)))))
   refine Ev.step (fun k => by rw [jG.l0]) ?_
   rw [wrap_succ i (by omega)]
   exact ev_pos (by omega) (ev_pos (by omega) (ev_pos (by omega) (ev_neg h1 (ev_pos (by omega) (ev_pos h2 p2)))))
  rw [if_neg h2]
  constructor
  ·refine Ev.step (fun k => by rw [jC.l0]) ?_
   rw [wrap_succ i (by omega)]
   exact ev_pos (by omega) (ev_pos (by omega) (ev_pos (by omega) (ev_neg h1 (ev_pos (by omega) (ev_neg h2 q1)))))
  refine Ev.step (fun k => by rw [jG.l0]) ?_
  rw [wrap_succ i (by omega)]
  exact ev_pos (by omega) (ev_pos (by omega) (ev_pos (by omega) (ev_neg h1 (ev_pos (by omega) (ev_neg h2 q2)))))
theorem Hg (a b : List IP) (wa : E7 a) (wb : E7 b) (h : ¬ An a b = (true, true)) : Ev (fun k => jC.f k a b) (0, false) ∧ Ev (fun k => jG.f k a b) (0, false) := by
 have sno : Ev (fun k => jC.j1 k a b true) (0, false) := Ev.step (fun k => by rw [jC.j1]) (ev_pos rfl (ev_ret rfl))
 have sno0 : Ev (fun k => jC.j0 k a b true) (0, false) := Ev.step (fun k => by rw [jC.j0]) (ev_pos rfl (ev_ret rfl))
 have ino : Ev (fun k => jG.j0 k a b true) (0, false) := Ev.step (fun k => by rw [jG.j0]) (ev_pos rfl (ev_ret rfl))
 unfold jC.f jG.f
 constructor
 rotate_left
 ·refine Ev.bind (AF a b wa wb) (ev_if (fun c => ?_) (fun _ => ino))
  have : (An a b).1 = false := by
   cases hq : (An a b).1 with
   | false => rfl
   | true => exact absurd (Prod.ext hq c) h
  rw [this]; exact ino
 refine Ev.bind (Ai a wa) (ev_if (fun ga => ?_) (fun _ => sno0))
 refine Ev.bind (Ai b wb) ?_
 by_cases gb : Ac b = true
 rotate_left
 ·rw [Bool.not_eq_true] at gb
  rw [gb]; exact sno0
 obtain ⟨ha, pa, _, _⟩ := Ab ga
 obtain ⟨hb, pb, _, _⟩ := Ab gb
 have est : An a b = BM a b := by unfold An; rw [if_pos ga, if_pos gb]
 rw [est] at h
 rw [gb]
 refine Ev.step (fun k => by rw [jC.j0]) ?_
 refine ev_neg (by simp) (Ev.bind (Bg a b ha pa hb pb) (ev_if (fun c => ?_) (fun _ => sno)))
 have : (BM a b).2 = false := by
  cases hq : (BM a b).2 with
  | false => rfl
  | true => exact absurd (Prod.ext c hq) h
 rw [this]; exact sno
theorem Cg (x y : List Int) : ∀ (d i : Nat), Bc x y d i = (true, true) → ∀ j, i ≤ j → j < i + d → gt 0 x j = 0 ∨ gt 0 y j = 0 ∨ gt 0 x j = gt 0 y j
 | 0, i, _, j, h1, h2 => by omega
 | d + 1, i, h, j, h1, h2 => by
  have e : Bc x y (d + 1) i = if gt 0 x i = 0 then Bc x y d (i + 1) else (if gt 0 y i = 0 then Bc x y d (i + 1) else (if gt 0 x i = gt 0 y i then Bc x y d (i + 1) else (false, true))) := rfl
  rw [e] at h
  by_cases c0 : gt 0 x i = 0
  ·rw [if_pos c0] at h
   by_cases hj : j = i
   ·subst hj; exact .inl c0
   ·exact Cg x y d (i + 1) h j (by omega) (by omega)
  ·rw [if_neg c0] at h
   by_cases c1 : gt 0 y i = 0
   ·rw [if_pos c1] at h
    by_cases hj : j = i
    ·subst hj; exact .inr (.inl c1)
    ·exact Cg x y d (i + 1) h j (by omega) (by omega)
   ·rw [if_neg c1] at h
    by_cases c2 : gt 0 x i = gt 0 y i
    ·rw [if_pos c2] at h
     by_cases hj : j = i
     ·subst hj; exact .inr (.inr c2)
     ·exact Cg x y d (i + 1) h j (by omega) (by omega)
    ·rw [if_neg c2] at h; cases h
theorem CX {a b : List IP} (h : BM a b = (true, true)) : (Ag a).length = (Ag b).length ∧ ∀ j, j < (Ag a).length → gt 0 (Ag a) j = 0 ∨ gt 0 (Ag b) j = 0 ∨ gt 0 (Ag a) j = gt 0 (Ag b) j := by
 unfold BM at h
 by_cases c : (Ag a).length = (Ag b).length
 rotate_left
 ·rw [if_neg c] at h; cases h
 rw [if_pos c] at h
 exact ⟨c, fun j hj => Cg _ _ _ 0 h j (Nat.zero_le _) (by omega)⟩
theorem Ez (x y : List Int) : ∀ (d i : Nat), (∀ j, i ≤ j → j < i + d → gt 0 x j = 0 ∨ gt 0 y j = 0 ∨ gt 0 x j = gt 0 y j) → Bc x y d i = (true, true)
 | 0, i, _ => rfl
 | d + 1, i, h => by
  have e : Bc x y (d + 1) i = if gt 0 x i = 0 then Bc x y d (i + 1) else (if gt 0 y i = 0 then Bc x y d (i + 1) else (if gt 0 x i = gt 0 y i then Bc x y d (i + 1) else (false, true))) := rfl
  have ih := Ez x y d (i + 1) (fun j h1 h2 => h j (by omega) (by omega))
  have h0 := h i (Nat.le_refl _) (by omega)
  rw [e, ih]
  by_cases c0 : gt 0 x i = 0
  ·rw [if_pos c0]
  ·by_cases c1 : gt 0 y i = 0
   ·rw [if_neg c0, if_pos c1]
   ·rw [if_neg c0, if_neg c1, if_pos ((h0.resolve_left c0).resolve_left c1)]
theorem F1 {a b : List IP} (h : An a b = (true, true)) : An b a = (true, true) := by
 obtain ⟨ga, gb, hs, _⟩ := A1 h
 obtain ⟨hl, ha⟩ := CX hs
 unfold An BM
 rw [if_pos gb, if_pos ga, if_pos hl.symm]
 refine Ez _ _ _ 0 (fun j _ h2 => ?_)
 rcases ha j (by omega) with q | q | q
 ·exact .inr (.inl q)
 ·exact .inl q
 exact .inr (.inr q.symm)
theorem D3 (a b : List IP) (wa : E7 a) (wb : E7 b) (h : An a b = (true, true)) : ∃ n : Int, Ev (fun k => jC.f k a b) (n, true) ∧ Ev (fun k => jG.f k a b) (n, true) ∧ Ev (fun k => jG.f k b a) (n, true) := by
 have h' := F1 h
 obtain ⟨ga, gb, hs, _⟩ := A1 h
 obtain ⟨ha, pa, _, _⟩ := Ab ga
 obtain ⟨hb, pb, _, _⟩ := Ab gb
 have hlen := (CX hs).1
 have hst := AF a b wa wb
 have hst' := AF b a wb wa
 rw [h] at hst
 rw [h'] at hst'
 obtain ⟨n1, u1, u2⟩ := E5 a b ha pa hb pb
 obtain ⟨n2, v1, v2⟩ := E5 b a hb pb ha pa
 have la := BR a pa
 obtain ⟨r1, r2⟩ := FC (Ag a) (Ag b) (by omega) hlen (Ag a).length 0 (wrap64 (n1 + n2)) (by omega)
 obtain ⟨_, q2⟩ := FC (Ag b) (Ag a) (by omega) hlen.symm (Ag b).length 0 (wrap64 (n2 + n1)) (by omega)
 rw [List.drop_zero, List.drop_zero] at r1 r2 q2
 rw [Int.add_comm n2 n1, Ca] at q2
 refine ⟨DV (Ag a) (Ag b) (wrap64 (n1 + n2)), ?_, ?_, ?_⟩
 ·unfold jC.f
  refine Ev.bind (Ai a wa) (ev_pos ga (Ev.bind (Ai b wb) ?_))
  rw [gb]
  refine Ev.step (fun k => by rw [jC.j0]) ?_
  have hl4 := Bg a b ha pa hb pb
  rw [hs] at hl4
  refine ev_neg (by simp) (Ev.bind hl4 (ev_pos rfl ?_))
  refine Ev.step (fun k => by rw [jC.j1]) ?_
  exact ev_neg (by simp) (Ev.bind u1 (Ev.bind v1 (Ev.bind (AR a ha pa) (Ev.bind (AR b hb pb) r1))))
 ·unfold jG.f
  refine Ev.bind hst (ev_pos rfl ?_)
  refine Ev.step (fun k => by rw [jG.j0]) ?_
  exact ev_neg (by simp) (Ev.bind (AE a ha pa) (Ev.bind (AE b hb pb) (ev_eq (AM a ha (fun p h => Ak (pa p h))) (Ev.bind u2 (ev_eq (AM b hb (fun p h => Ak (pb p h))) (Ev.bind v2 r2))))))
 unfold jG.f
 refine Ev.bind hst' (ev_pos rfl ?_)
 refine Ev.step (fun k => by rw [jG.j0]) ?_
 have e : wrap64 (n2 + n1) = wrap64 (n1 + n2) := by rw [Int.add_comm]
 refine ev_neg (by simp) (Ev.bind (AE b hb pb) (Ev.bind (AE a ha pa) (ev_eq (AM b hb (fun p h => Ak (pb p h))) (Ev.bind v2 (ev_eq (AM a ha (fun p h => Ak (pa p h))) (Ev.bind u2 ?_))))))
 rw [e]; exact q2
theorem Ci : ∀ x y : List At, C5 (x ++ y) = C5 x ++ C5 y
 | [], y => rfl
 | .k :: x, y => by show 0 :: C5 (x ++ y) = 0 :: (C5 x ++ C5 y); rw [Ci x y]
 | .p c :: x, y => Ci x y
 | .d c :: x, y => by show c :: C5 (x ++ y) = c :: (C5 x ++ C5 y); rw [Ci x y]
theorem HU : ∀ n, C5 (kA n) = List.replicate n 0
 | 0 => rfl
 | n + 1 => by show 0 :: C5 (kA n) = _; rw [HU n]; rfl
theorem HY : ∀ l : List UInt8, C5 (l.map At.p) = []
 | [] => rfl
 | _ :: l => HY l
theorem H7 : ∀ l : List UInt8, C5 (l.map At.d) = l
 | [] => rfl
 | c :: l => by show c :: C5 (l.map At.d) = c :: l; rw [H7 l]
theorem CO : ∀ l : List IP, (C5 (Ay l)).map (fun c => (c.toNat : Int)) = Ag l
 | [] => rfl
 | p :: r => by
  rw [Ae, Ci, List.map_append, CO r, Ag]
  unfold AU
  rw [Ci, Ci, HU]
  unfold pA dA
  rw [HY, H7, List.nil_append, List.map_append, List.map_replicate]
  rfl
theorem Hi {x y : List At} (h : Sim x y) : C5 x = C5 y := by
 induction h with
 | refl => rfl
 | cons a _ ih => cases a <;> simp only [C5, ih]
 | swap c d l => rfl
 | symm _ ih => exact ih.symm
 | trans _ _ i1 i2 => exact i1.trans i2
theorem Gu {x y : List At} (h : Sim x y) : HI x ↔ HI y := by
 have hc : ∀ (a : At) (l : List At), HI (a :: l) ↔ (∀ c, a = At.d c → c ≠ 0) ∧ HI l := fun a l =>
  ⟨fun q => ⟨fun c e => q c (by rw [e]; exact List.mem_cons_self ..), AT q⟩, fun q c hm => by
   rcases List.mem_cons.1 hm with e | e
   ·exact q.1 c e.symm
   ·exact q.2 c e⟩
 induction h with
 | refl => exact Iff.rfl
 | cons a _ ih => rw [hc, hc]; exact ⟨fun q => ⟨q.1, ih.1 q.2⟩, fun q => ⟨q.1, ih.2 q.2⟩⟩
 | swap c d l => rw [hc, hc, hc, hc]; constructor <;> exact fun ⟨q1, q2, q3⟩ => ⟨q2, q1, q3⟩
 | symm _ ih => exact ih.symm
 | trans _ _ i1 i2 => exact i1.trans i2
theorem Fx {l : List IP} (h : ∀ p ∈ l, Af p = true) : HI (Ay l) := by
 intro c hm
 unfold Ay at hm
 obtain ⟨p, hp, hm⟩ := List.mem_flatMap.1 hm
 unfold AU at hm
 rcases List.mem_append.1 hm with hm | hm
 ·have := List.eq_of_mem_replicate hm; cases this
 rcases List.mem_append.1 hm with hm | hm
 ·obtain ⟨x, _, e⟩ := List.mem_map.1 hm; cases e
 obtain ⟨x, hx, e⟩ := List.mem_map.1 hm
 injection e with e
 subst e
 intro e0
 exact FK (h p hp) (x.toNat : Int) (List.mem_map.2 ⟨x, hx, rfl⟩) (by rw [e0]; rfl)
theorem H8 : ∀ (x y : List UInt8), (∀ j, j < x.length → j < y.length → gt 0 (x.map (fun c => (c.toNat : Int))) j = 0 ∨ gt 0 (y.map (fun c => (c.toNat : Int))) j = 0 ∨ gt 0 (x.map (fun c => (c.toNat : Int))) j = gt 0 (y.map (fun c => (c.toNat : Int))) j) → ID x y
 | [], _, _ => trivial
 | _ :: _, [], _ => trivial
 | a :: x, b :: y, h => by
  have z : ∀ c : UInt8, (c.toNat : Int) = 0 → c = 0 := fun c q => UInt8.toNat_inj.1 (by show c.toNat = 0; omega)
  refine ⟨?_, H8 x y (fun j h1 h2 => h (j + 1) (by rw [List.length_cons]; omega) (by rw [List.length_cons]; omega))⟩
  rcases h 0 (by simp) (by simp) with q | q | q
  ·exact .inl (z a q)
  ·exact .inr (.inl (z b q))
  ·exact .inr (.inr (UInt8.toNat_inj.1 (by have q' : (a.toNat : Int) = (b.toNat : Int) := q; omega)))
theorem IE {a b : List IP} (h : (Bl a b).2.2 = true) : Ac a = true ∧ Ac b = true ∧ Ac (Bl a b).1 = true ∧ Ac (Bl a b).2.1 = true ∧
  ∃ z1 z2, Ap (Ay a) (Ay (Bl a b).2.1) = some z1 ∧ Ap (Ay b) (Ay (Bl a b).1) = some z2 ∧ Sim z1 z2 := by
 obtain ⟨hs, r, hr, g1, g2, e⟩ := Ek h
 obtain ⟨ga, gb, hsr, _⟩ := A1 hs
 obtain ⟨_, pa, _, _⟩ := Ab ga
 obtain ⟨_, pb, _, _⟩ := Ab gb
 obtain ⟨E, O, h1, ⟨h2, h3⟩, ⟨h4, h5⟩, _, _⟩ := CA hs
 rw [hr] at h1
 obtain ⟨e1, e2⟩ := Prod.mk.inj (Option.some.inj (show some (r.1, r.2) = _ from h1))
 have hsim : ∀ (z : List At) (E : List IP), z = Ay E → (∀ p ∈ E, AV p) → E.length < 121 → Ac (Cz z) = true → Sim z (Ay (Cz z)) := fun z E ez hE hl g => by
  obtain ⟨l1, p1, _, _⟩ := Ab g
  subst ez
  have e2 : Ad E = Cz (Ay E) := BH E (by omega) hE
  rw [Eo, Br _ (fun p q => Ak (p1 p q)), ← e2, Dm _ (by omega) hE, ← Br _ hE]
 have s1 := hsim r.1 E e1 h2 h4 g1
 have s2 := hsim r.2 O e2 h3 h5 g2
 have sa := EM ga
 have sb := EM gb
 have hag : ID (C5 (Ay (Ad a))) (C5 (Ay (Ad b))) := by
  rw [← Hi sa, ← Hi sb]
  refine H8 _ _ (fun j j1 j2 => ?_)
  rw [CO, CO]
  have := congrArg List.length (CO a)
  rw [List.length_map] at this
  exact (CX hsr).2 j (by omega)
 obtain ⟨hd, z, hz⟩ := AJ _ (Ay (Ad a)) (Ay (Ad b)) r.1 r.2 (Nat.le_refl _) hr hag ((Gu sa).1 (Fx pa)) ((Gu sb).1 (Fx pb))
 rw [e]
 refine ⟨ga, gb, g1, g2, ?_⟩
 have o1 := G3 sa s2.symm
 have o2 := G3 sb s1.symm
 rw [hz] at hd
 obtain ⟨z', hz', sz'⟩ := Fk hd
 rw [hz'] at o2
 have o1' : Av (Ap (Ay a) (Ay (Cz r.2))) (some z) := hz ▸ o1
 obtain ⟨z1, hz1, q1⟩ := BP o1'
 obtain ⟨z2, hz2, q2⟩ := BP o2
 exact ⟨z1, z2, hz1, hz2, (q1.trans sz').trans q2.symm⟩
theorem HE {a b : List IP} (h : (Bl a b).2.2 = true) (h1 : (BU a (Bl a b).2.1).2 = true) (h2 : (BU b (Bl a b).1).2 = true) : (BU a (Bl a b).2.1).1 = (BU b (Bl a b).1).1 := by
 obtain ⟨_, _, _, _, z1, z2, e1, e2, hs⟩ := IE h
 obtain ⟨_, _, x1, q1, _, r1⟩ := Dq h1
 obtain ⟨_, _, x2, q2, _, r2⟩ := Dq h2
 rw [e1] at q1
 rw [e2] at q2
 obtain rfl := Option.some.inj q1
 obtain rfl := Option.some.inj q2
 rw [r1, r2]
 exact Io hs
theorem HF {a b : List IP} (h : (Bl a b).2.2 = true) {s : ByteArray} (h1 : (Cu a s).2 = true) (h2 : (Cu b s).2 = true) : Cu (Bl a b).2.1 (Cu a s).1 = Cu (Bl a b).1 (Cu b s).1 := by
 obtain ⟨_, _, gx, gy, z1, z2, e1, e2, hs⟩ := IE h
 obtain ⟨ga, gs, t, q1, r1⟩ := Dd h1
 obtain ⟨gb, _, u, q2, r2⟩ := Dd h2
 rw [q1, q2]
 refine Ii gy gx (Db ga r1 gs).2.1 (Db gb r2 gs).2.1 ?_
 have w1 := BK _ _ _ z1 _ _ (Nat.le_refl _) e1 (C9 a s t r1)
 have w2 := BK _ _ _ z2 _ _ (Nat.le_refl _) e2 (C9 b s u r2)
 rw [← w1, ← w2]
 exact HO hs _
theorem EW : ∀ (n : Nat) (o : List Int) (t : Nat), (fitKeep n o t).1.length ≤ o.length + n
 | 0, o, t => Nat.le_refl _
 | n + 1, o, t => by
  have := EW n (fitGrow o t) (t + 1)
  have h : (fitGrow o t).length ≤ o.length + 1 := by unfold fitGrow; split <;> simp
  rw [fitKeep]; omega
theorem EJ : ∀ (l o : List Int) (t : Nat), (fitDrop l o t).1.length ≤ o.length + l.length
 | [], o, t => Nat.le_refl _
 | b :: l, o, t => by
  have := EJ l ((fitGrow o t).set t b) (t + 1)
  have h : (fitGrow o t).length ≤ o.length + 1 := by unfold fitGrow; split <;> simp
  rw [List.length_set] at this
  rw [fitDrop, List.length_cons]; omega
theorem DE : ∀ (l : List IP) (o : List Int) (t : Nat), (fitOp l o t).1.length ≤ o.length + fitSz l
 | [], o, t => Nat.le_refl _
 | p :: l, o, t => by
  have h1 := EW p.f0.toNat o t
  have h2 := EJ (bytesOf p.f2) (fitKeep p.f0.toNat o t).1 (fitKeep p.f0.toNat o t).2
  have h3 := DE l (fitDrop (bytesOf p.f2) (fitKeep p.f0.toNat o t).1 (fitKeep p.f0.toNat o t).2).1 (fitDrop (bytesOf p.f2) (fitKeep p.f0.toNat o t).1 (fitKeep p.f0.toNat o t).2).2
  rw [bytesOf_length] at h2
  rw [fitOp, fitSz]; omega
theorem Dn : ∀ l : List IP, (∀ p ∈ l, Af p = true) → fitSz l ≤ 600 * l.length
 | [], _ => Nat.le_refl _
 | p :: r, h => by
  have h1 := G7 (h p (List.mem_cons_self ..))
  have h2 := Dn r (fun q hq => h q (List.mem_cons_of_mem _ hq))
  unfold nP at h1
  rw [fitSz, List.length_cons]; omega
theorem G6 {a b : List IP} (ga : Ac a = true) (gb : Ac b = true) : ∃ s : ByteArray, yW.f a b = some s ∧ s.size ≤ 100000 := by
 obtain ⟨la, pa, _, _⟩ := Ab ga
 obtain ⟨lb, pb, _, _⟩ := Ab gb
 have ha := Dn a pa
 have hb := Dn b pb
 refine ⟨_, by unfold yW.f; rw [if_pos ⟨by omega, by omega, by omega⟩], ?_⟩
 rw [Go.strOfNums_size]
 have h1 := DE a [] 0
 have h2 := DE b (fitOp a [] 0).1 0
 simp only [List.length_nil] at h1
 omega
theorem Ih (a b : List IP) : E7 (Bl a b).1 ∧ E7 (Bl a b).2.1 := by
 have hg : ∀ l : List IP, Ac l = true → E7 l := fun l h x hx => by
  obtain ⟨_, hp, _, _⟩ := Ab h
  obtain ⟨f1, f2, f3, f4, f5⟩ := AD (hp x hx)
  omega
 rcases CY a b with h | h
 ·obtain ⟨_, _, g1, g2, _⟩ := IE h
  exact ⟨hg _ g1, hg _ g2⟩
 rw [h]; exact ⟨fun x hx => (by cases hx), fun x hx => (by cases hx)⟩
theorem FnDiamond : lZ.Pure := by
 intro code hl _ hc
 refine Ev.rounds ?_
 unfold lZ.f
 refine ev_if (fun _ => ev_ret rfl) (fun h => ?_)
 have hs := HC (by omega) hc
 obtain ⟨⟨a, b⟩, hd, wa, wb⟩ := E9 hs (by omega)
 dsimp only at wa wb
 obtain ⟨l1, l2⟩ := Hq a b
 obtain ⟨wx, wy⟩ := Ih a b
 have e1 := Cm a b wa wb
 have e2 := Cn a b wa wb
 have e3 := AF a b wa wb
 have e4 := C1 a b wa wb
 refine Ev.bind hd (Ev.bind e1 (Ev.bind e2 (Ev.bind e3 (Ev.bind e4 ?_))))
 suffices hm : ∃ (n : Int) (c : Bool), Ev (fun k => jC.f k a b) (n, c) ∧ Ev (fun k => jG.f k a b) (n, c) ∧ Ev (fun k => lZ.j0 k a b (Bl a b).1 (Bl a b).2.1 (Bl a b).2.2 (An a b).1 (An a b).2 n false) true by
  obtain ⟨n, c, hq, hi, hj⟩ := hm
  refine Ev.bind hi (Ev.bind hq (ev_neg (by simp) (Ev.bind (Bu (Bl a b).1 (by omega)) (ev_pos rfl (Ev.bind (Bu (Bl a b).2.1 (by omega)) (ev_pos rfl (ev_neg (by simp) (ev_neg (by simp) (ev_neg (by simp) ?_)))))))))
  have e0 : (n != n) = false := by simp
  simp only [e0]
  exact hj
 by_cases ok : (Bl a b).2.2 = true
 rotate_left
 ·have hsh := (CY a b).resolve_left ok
  have hfin : ∀ n : Int, Ev (fun k => lZ.j0 k a b (Bl a b).1 (Bl a b).2.1 (Bl a b).2.2 (An a b).1 (An a b).2 n false) true := fun n => by
   rw [hsh]
   refine Ev.step (fun k => by rw [lZ.j0]) ?_
   exact ev_neg (by simp) (ev_neg (by simp) (ev_pos rfl (ev_ret rfl)))
  by_cases hst : An a b = (true, true)
  rotate_left
  ·obtain ⟨c1, c2⟩ := Hg a b wa wb hst
   exact ⟨0, false, c1, c2, hfin 0⟩
  obtain ⟨n, c1, c2, _⟩ := D3 a b wa wb hst
  exact ⟨n, true, c1, c2, hfin n⟩
 obtain ⟨hst, _⟩ := Ek ok
 obtain ⟨n, c1, c2, c3⟩ := D3 a b wa wb hst
 refine ⟨n, true, c1, c2, ?_⟩
 obtain ⟨ga, gb, gx, gy, _⟩ := IE ok
 refine Ev.step (fun k => by rw [lZ.j0]) ?_
 refine ev_neg (by simp) (ev_pos ok (Ev.bind c3 (Ev.bind (BJ a (Bl a b).2.1 wa wy) (Ev.bind (BJ b (Bl a b).1 wb wx) ?_))))
 rw [hst]
 refine ev_pos rfl (ev_pos rfl (ev_pos rfl ?_))
 rw [show (n != n) = false by simp]
 refine Ev.step (fun k => by rw [lZ.j1]) ?_
 refine ev_neg (by simp) ?_
 obtain ⟨s, hf, hsz⟩ := G6 ga gb
 refine Ev.step (fun k => by rw [lZ.l0]) ?_
 refine ev_pos (by omega) (ev_eq hf ?_)
 rw [show wrap64 ((0 : Int) + 1) = 1 by unfold wrap64; omega]
 refine Ev.step (fun k => by rw [lZ.l0]) ?_
 refine ev_neg (by omega) (Ev.bind (A5 a s wa (by omega)) (Ev.bind (A5 b s wb (by omega)) ?_))
 have hno : Ev (fun k => lZ.j3 k (Bl a b).1 (Bl a b).2.1 (BU a (Bl a b).2.1).1 (BU a (Bl a b).2.1).2 (BU b (Bl a b).1).1 (BU b (Bl a b).1).2 (Cu a s).1 (Cu b s).1 true) true := Ev.step (fun k => by rw [lZ.j3]) (ev_pos rfl (ev_ret rfl))
 refine ev_if (fun f5 => ?_) (fun _ => hno)
 by_cases f6 : (Cu b s).2 = true
 rotate_left
 ·rw [Bool.not_eq_true] at f6
  rw [f6]; exact hno
 rw [f6]
 refine Ev.step (fun k => by rw [lZ.j3]) ?_
 have hsize : ∀ l : List IP, (Cu l s).2 = true → (Cu l s).1.size ≤ 1000 := fun l hq => by
  obtain ⟨gl, gs, t, q1, r1⟩ := Dd hq
  rw [q1]
  have := BD (Db gl r1 gs).2.1
  show t.size ≤ 1000
  omega
 have z1 := hsize a f5
 have z2 := hsize b f6
 refine ev_neg (by simp) (Ev.bind (A5 (Bl a b).2.1 (Cu a s).1 wy (by omega)) (Ev.bind (A5 (Bl a b).1 (Cu b s).1 wx (by omega)) ?_))
 rw [HF ok f5 f6]
 refine ev_pos (by simp) (ev_pos rfl (ev_if (fun t3 => ev_if (fun t4 => ?_) (fun _ => ev_ret rfl)) (fun _ => ev_ret rfl)))
 rw [HE ok t3 t4]
 exact Ev.bind (Bu (BU b (Bl a b).1).1 (by have := Hh b (Bl a b).1; omega)) (ev_ret rfl)
end Go.Proofs.Ytoagljlnfakgjaa.Pure
