/- FnOver over plain functions: a drawn change behind drawn others one by one fits where they lead, and the program's answer is the reference's; no condition. -/
import Derived.Test.YtoagljlnfakgjaaPFnOverx17
import Derived.Test.YtoagljlnfakgjaaBase
import Derived.Test.YtoagljlnfakgjaaMk
namespace Go.Proofs.Ytoagljlnfakgjaa.Pure
open Go.RowKit Go.Proofs.Ytoagljlnfakgjaa.PFnOver Go.Proofs.YtoagljlnfakgjaaW.PrintWords Go.Proofs.YtoagljlnfakgjaaW.PrintLast Go.Proofs.Ytoagljlnfakgjaa.Base Go.Proofs.Ytoagljlnfakgjaa.Mk
set_option linter.unusedVariables false
set_option linter.unusedSimpArgs false
abbrev IP := S60
def Bp : IP := z60
theorem Bo (l : List IP) (i : Nat) : rd_T60 l (i : Int) = gt Bp l i := rfl
theorem Aa (s : ByteArray) : s.toList = ([] : List UInt8) ↔ s.size = 0 := by
 rw [← List.length_eq_zero_iff]
 have := data_length s
 rw [ByteArray.toList_eq, this]
theorem Ak {s : ByteArray} (h : s.size = 0) : s = (⟨#[]⟩ : ByteArray) := by
 obtain ⟨d⟩ := s
 have h' : d.size = 0 := h
 rw [Array.size_eq_zero_iff.1 h']
theorem AR (s : ByteArray) : s ++ (⟨#[]⟩ : ByteArray) = s := by
 apply ByteArray.ext; rw [ByteArray.data_append]; simp
theorem AB (a b : ByteArray) : (a ++ b).size = a.size + b.size := ByteArray.size_append
def AI (p : IP) : Prop := 0 ≤ p.f0 ∧ p.f0 ≤ 300 ∧ p.f1.size ≤ 300 ∧ p.f2.size ≤ 300 ∧ (p.f0 = 0 ∨ (p.f1.size = 0 ∧ p.f2.size = 0)) ∧ (p.f1.size = 0 ∨ p.f2.size = 0)
theorem Bs (m : List IP) (z v : IP) : (m ++ [z]).set m.length v = m ++ [v] := by
 rw [List.set_append_right _ _ (Nat.le_refl _), Nat.sub_self]; rfl
theorem Eu (m : List IP) (y z v : IP) : (m ++ [y, z]).set m.length v = m ++ [v, z] := by
 rw [List.set_append_right _ _ (Nat.le_refl _), Nat.sub_self]; rfl
theorem EL (m : List IP) (y z : IP) : gt Bp (m ++ [y, z]) m.length = y := by
 unfold gt; rw [List.getD_eq_getElem?_getD, List.getElem?_append_right (Nat.le_refl _)]; simp
theorem BV (m : List IP) (z : IP) : gt Bp (m ++ [z]) m.length = z := by
 unfold gt; rw [List.getD_eq_getElem?_getD, List.getElem?_append_right (Nat.le_refl _)]; simp
theorem B9 (m : List IP) (z : IP) (h : m.length ≤ 100000) : wrap64 (((m ++ [z]).length : Int) - 1) = (m.length : Int) := by
 rw [List.length_append, List.length_singleton, wrap_id (by omega) (by omega)]; omega
theorem EN (l : List IP) (p : IP) (h0 : p.f0 = 0) (h1 : p.f1.size = 0) (h2 : p.f2.size = 0) : Ev (fun k => spec_l3Add.f k l p.f0 p.f1 p.f2) l := by
 unfold spec_l3Add.f
 rw [beq_iff_eq.2 ((Aa _).2 h2)]
 refine ev_pos h0 (ev_pos ((Aa _).2 h1) ?_)
 refine Ev.step (fun k => by rw [spec_l3Add.j0]) ?_
 exact ev_pos rfl (ev_ret rfl)
theorem CV (l : List IP) (p : IP) (h : p.f0 ≠ 0 ∨ p.f1.size ≠ 0 ∨ p.f2.size ≠ 0) {r : List IP} (hr : Ev (fun k => spec_l3Add.j0 k l (l.length : Int) false p.f0 p.f1 p.f2) r) : Ev (fun k => spec_l3Add.f k l p.f0 p.f1 p.f2) r := by
 unfold spec_l3Add.f
 refine ev_if (fun h0 => ev_if (fun h1 => ?_) (fun _ => hr)) (fun _ => hr)
 rw [Aa] at h1
 have h2 : ¬ p.f2.toList = ([] : List UInt8) := by rw [Aa]; omega
 rw [beq_eq_false_iff_ne.2 h2]; exact hr
theorem Cb (p : IP) (h : p.f0 ≠ 0 ∨ p.f1.size ≠ 0 ∨ p.f2.size ≠ 0) : Ev (fun k => spec_l3Add.f k [] p.f0 p.f1 p.f2) [p] := by
 refine CV [] p h ?_
 refine Ev.step (fun k => by rw [spec_l3Add.j0]) ?_
 exact ev_neg (by simp) (ev_pos (by simp) (ev_pos (by simp) (ev_ret rfl)))
theorem Fr (m : List IP) (z p : IP) (hm : m.length ≤ 100000) (h : p.f0 ≠ 0 ∨ p.f1.size ≠ 0 ∨ p.f2.size ≠ 0) {r : List IP}
  (hr : Ev (fun k => spec_l3Add.j1 k (m ++ [z]) ((m ++ [z]).length : Int) (decide (p.f0 > 0 ∧ z.f0 > 0)) p.f0 p.f1 p.f2 z.f0 z.f1 z.f2) r) : Ev (fun k => spec_l3Add.f k (m ++ [z]) p.f0 p.f1 p.f2) r := by
 refine CV _ p h ?_
 refine Ev.step (fun k => by rw [spec_l3Add.j0]) ?_
 rw [B9 m z hm, Bo, BV]
 have hl : (m ++ [z]).length = m.length + 1 := by rw [List.length_append, List.length_singleton]
 refine ev_neg (by simp) (ev_neg (by omega) (ev_pos (by omega) (ev_pos (by omega) (ev_if (fun c => ?_) (fun c => ?_)))))
 ·simp only [c, true_and] at hr; exact hr
 rw [decide_eq_false (fun q => c q.1)] at hr; exact hr
theorem EV (m : List IP) (z p : IP) (hm : m.length ≤ 100000) (h : p.f0 ≠ 0 ∨ p.f1.size ≠ 0 ∨ p.f2.size ≠ 0) (h1 : ¬ (p.f0 > 0 ∧ z.f0 > 0)) {r : List IP}
  (hr : Ev (fun k => spec_l3Add.j2 k (m ++ [z]) ((m ++ [z]).length : Int) (decide (p.f2.size ≠ 0 ∧ z.f2.size ≠ 0)) p.f0 p.f1 p.f2 z.f0 z.f1 z.f2) r) : Ev (fun k => spec_l3Add.f k (m ++ [z]) p.f0 p.f1 p.f2) r := by
 refine Fr m z p hm h ?_
 rw [decide_eq_false h1]
 refine Ev.step (fun k => by rw [spec_l3Add.j1]) ?_
 refine ev_neg (by simp) (ev_if (fun c => ?_) (fun c => ?_))
 ·rw [Aa] at c
  rw [decide_eq_false (fun q => q.1 c)] at hr; exact hr
 rw [Aa] at c
 have e : (z.f2.toList != ([] : List UInt8)) = decide (p.f2.size ≠ 0 ∧ z.f2.size ≠ 0) := by
  by_cases q : z.f2.size = 0
  ·rw [decide_eq_false (fun x => x.2 q), bne_eq_false_iff_eq]; exact (Aa _).2 q
  ·rw [decide_eq_true ⟨c, q⟩, bne_iff_ne]; exact fun x => q ((Aa _).1 x)
 rw [e]; exact hr
theorem EZ (m : List IP) (z p : IP) (hm : m.length ≤ 100000) (h : p.f0 ≠ 0 ∨ p.f1.size ≠ 0 ∨ p.f2.size ≠ 0) (h1 : ¬ (p.f0 > 0 ∧ z.f0 > 0)) (h2 : ¬ (p.f2.size ≠ 0 ∧ z.f2.size ≠ 0)) {r : List IP}
  (hr : Ev (fun k => spec_l3Add.j3 k (m ++ [z]) ((m ++ [z]).length : Int) (decide (p.f1.size ≠ 0 ∧ z.f1.size ≠ 0)) p.f0 p.f1 p.f2 z.f0 z.f1 z.f2) r) : Ev (fun k => spec_l3Add.f k (m ++ [z]) p.f0 p.f1 p.f2) r := by
 refine EV m z p hm h h1 ?_
 rw [decide_eq_false h2]
 refine Ev.step (fun k => by rw [spec_l3Add.j2]) ?_
 refine ev_neg (by simp) (ev_if (fun c => ?_) (fun c => ?_))
 ·rw [Aa] at c
  rw [decide_eq_false (fun q => q.1 c)] at hr; exact hr
 rw [Aa] at c
 have e : (z.f1.toList != ([] : List UInt8)) = decide (p.f1.size ≠ 0 ∧ z.f1.size ≠ 0) := by
  by_cases q : z.f1.size = 0
  ·rw [decide_eq_false (fun x => x.2 q), bne_eq_false_iff_eq]; exact (Aa _).2 q
  ·rw [decide_eq_true ⟨c, q⟩, bne_iff_ne]; exact fun x => q ((Aa _).1 x)
 rw [e]; exact hr
theorem DN (m : List IP) (z p : IP) (hm : m.length ≤ 100000) (h : p.f0 ≠ 0 ∨ p.f1.size ≠ 0 ∨ p.f2.size ≠ 0) (h1 : ¬ (p.f0 > 0 ∧ z.f0 > 0)) (h2 : ¬ (p.f2.size ≠ 0 ∧ z.f2.size ≠ 0)) (h3 : ¬ (p.f1.size ≠ 0 ∧ z.f1.size ≠ 0)) {r : List IP}
  (hr : Ev (fun k => spec_l3Add.j4 k (m ++ [z]) ((m ++ [z]).length : Int) (decide (p.f1.size ≠ 0 ∧ z.f2.size ≠ 0)) p.f0 p.f1 p.f2 z.f0 z.f1 z.f2) r) : Ev (fun k => spec_l3Add.f k (m ++ [z]) p.f0 p.f1 p.f2) r := by
 refine EZ m z p hm h h1 h2 ?_
 rw [decide_eq_false h3]
 refine Ev.step (fun k => by rw [spec_l3Add.j3]) ?_
 refine ev_neg (by simp) (ev_if (fun c => ?_) (fun c => ?_))
 ·rw [Aa] at c
  rw [decide_eq_false (fun q => q.1 c)] at hr; exact hr
 rw [Aa] at c
 have e : (z.f2.toList != ([] : List UInt8)) = decide (p.f1.size ≠ 0 ∧ z.f2.size ≠ 0) := by
  by_cases q : z.f2.size = 0
  ·rw [decide_eq_false (fun x => x.2 q), bne_eq_false_iff_eq]; exact (Aa _).2 q
  ·rw [decide_eq_true ⟨c, q⟩, bne_iff_ne]; exact fun x => q ((Aa _).1 x)
 rw [e]; exact hr
theorem EJ (m : List IP) (z p : IP) (hm : m.length ≤ 100000) (h1 : p.f0 > 0 ∧ z.f0 > 0) : Ev (fun k => spec_l3Add.f k (m ++ [z]) p.f0 p.f1 p.f2) (m ++ [⟨wrap64 (z.f0 + p.f0), z.f1, z.f2⟩]) := by
 refine Fr m z p hm (.inl (by omega)) ?_
 rw [decide_eq_true h1]
 refine Ev.step (fun k => by rw [spec_l3Add.j1]) ?_
 rw [B9 m z hm, Bo, BV, Int.toNat_natCast, Bs]
 exact ev_pos rfl (ev_pos (by omega) (ev_pos (by rw [List.length_append, List.length_singleton]; omega) (ev_ret rfl)))
theorem DA (m : List IP) (z p : IP) (hm : m.length ≤ 100000) (h1 : ¬ (p.f0 > 0 ∧ z.f0 > 0)) (h2 : p.f2.size ≠ 0 ∧ z.f2.size ≠ 0) (hs : z.f2.size + p.f2.size ≤ 9223372036854775807) : Ev (fun k => spec_l3Add.f k (m ++ [z]) p.f0 p.f1 p.f2) (m ++ [⟨z.f0, z.f1, z.f2 ++ p.f2⟩]) := by
 refine EV m z p hm (.inr (.inr h2.1)) h1 ?_
 rw [decide_eq_true h2]
 refine Ev.step (fun k => by rw [spec_l3Add.j2]) ?_
 rw [B9 m z hm, Bo, BV, Int.toNat_natCast, Bs]
 exact ev_pos rfl (ev_pos (by omega) (ev_pos (by rw [List.length_append, List.length_singleton]; omega) (ev_pos hs (ev_ret rfl))))
theorem Fy (m : List IP) (z p : IP) (hm : m.length ≤ 100000) (h1 : ¬ (p.f0 > 0 ∧ z.f0 > 0)) (h2 : ¬ (p.f2.size ≠ 0 ∧ z.f2.size ≠ 0)) (h3 : p.f1.size ≠ 0 ∧ z.f1.size ≠ 0) (hs : z.f1.size + p.f1.size ≤ 9223372036854775807) : Ev (fun k => spec_l3Add.f k (m ++ [z]) p.f0 p.f1 p.f2) (m ++ [⟨z.f0, z.f1 ++ p.f1, z.f2⟩]) := by
 refine EZ m z p hm (.inr (.inl h3.1)) h1 h2 ?_
 rw [decide_eq_true h3]
 refine Ev.step (fun k => by rw [spec_l3Add.j3]) ?_
 rw [B9 m z hm, Bo, BV, Int.toNat_natCast, Bs]
 exact ev_pos rfl (ev_pos (by omega) (ev_pos (by rw [List.length_append, List.length_singleton]; omega) (ev_pos hs (ev_ret rfl))))
theorem BG (m : List IP) (z p : IP) (hm : m.length ≤ 100000) (h : p.f0 ≠ 0 ∨ p.f1.size ≠ 0 ∨ p.f2.size ≠ 0) (h1 : ¬ (p.f0 > 0 ∧ z.f0 > 0)) (h2 : ¬ (p.f2.size ≠ 0 ∧ z.f2.size ≠ 0)) (h3 : ¬ (p.f1.size ≠ 0 ∧ z.f1.size ≠ 0)) (h4 : ¬ (p.f1.size ≠ 0 ∧ z.f2.size ≠ 0)) : Ev (fun k => spec_l3Add.f k (m ++ [z]) p.f0 p.f1 p.f2) (m ++ [z, p]) := by
 refine DN m z p hm h h1 h2 h3 ?_
 rw [decide_eq_false h4]
 refine Ev.step (fun k => by rw [spec_l3Add.j4]) ?_
 exact ev_neg (by simp) (ev_pos (by rw [List.length_append, List.length_singleton]; omega) (ev_ret (by rw [List.append_assoc]; rfl)))
theorem DY (z p : IP) (h1 : ¬ (p.f0 > 0 ∧ z.f0 > 0)) (h2 : ¬ (p.f2.size ≠ 0 ∧ z.f2.size ≠ 0)) (h3 : ¬ (p.f1.size ≠ 0 ∧ z.f1.size ≠ 0)) (h4 : p.f1.size ≠ 0 ∧ z.f2.size ≠ 0) : Ev (fun k => spec_l3Add.f k [z] p.f0 p.f1 p.f2) [p, z] := by
 refine DN [] z p (by simp) (.inr (.inl h4.1)) h1 h2 h3 ?_
 rw [decide_eq_true h4]
 refine Ev.step (fun k => by rw [spec_l3Add.j4]) ?_
 rw [B9 [] z (by simp), Int.toNat_natCast, Bs]
 exact ev_pos rfl (ev_neg (by simp) (ev_pos (by simp) (ev_pos (by simp) (ev_eq rfl (ev_pos (by simp) (ev_ret rfl))))))
theorem Gi (m : List IP) (y z : IP) (h : m.length ≤ 90000) : wrap64 (((m ++ [y, z]).length : Int) - 2) = (m.length : Int) := by
 have : (m ++ [y, z]).length = m.length + 2 := by rw [List.length_append]; rfl
 rw [this, wrap_id (by omega) (by omega)]; omega
theorem Cq (m : List IP) (y z p : IP) (hm : m.length ≤ 90000) (h1 : ¬ (p.f0 > 0 ∧ z.f0 > 0)) (h2 : ¬ (p.f2.size ≠ 0 ∧ z.f2.size ≠ 0)) (h3 : ¬ (p.f1.size ≠ 0 ∧ z.f1.size ≠ 0)) (h4 : p.f1.size ≠ 0 ∧ z.f2.size ≠ 0) (hs : y.f1.size + p.f1.size ≤ 9223372036854775807) :
  Ev (fun k => spec_l3Add.f k (m ++ [y, z]) p.f0 p.f1 p.f2) (if y.f1.size = 0 then m ++ [y, p, z] else m ++ [⟨y.f0, y.f1 ++ p.f1, y.f2⟩, z]) := by
 have em : m ++ [y, z] = (m ++ [y]) ++ [z] := by rw [List.append_assoc]; rfl
 have hl1 : (m ++ [y]).length = m.length + 1 := by rw [List.length_append, List.length_singleton]
 have hl2 : (m ++ [y, z]).length = m.length + 2 := by rw [List.length_append]; rfl
 rw [em]
 refine DN (m ++ [y]) z p (by omega) (.inr (.inl h4.1)) h1 h2 h3 ?_
 rw [decide_eq_true h4]
 refine Ev.step (fun k => by rw [spec_l3Add.j4]) ?_
 rw [B9 (m ++ [y]) z (by omega), Int.toNat_natCast, Bs]
 rw [← em, Gi m y z hm, Bo, EL, Int.toNat_natCast, Eu]
 refine ev_pos rfl (ev_pos (by omega) (ev_pos (by omega) (ev_pos (by omega) (ev_if (fun c => ?_) (fun c => ?_)))))
 rotate_left
 ·rw [Aa] at c
  rw [if_neg c]
  exact ev_pos hs (ev_ret rfl)
 rw [Aa] at c
 rw [if_pos c]
 refine ev_pos (by omega) (ev_pos (by omega) (ev_eq rfl (ev_pos (by rw [List.length_append, List.length_singleton]; omega) (ev_ret ?_))))
 rw [List.append_assoc, List.append_assoc]; rfl
structure Fit (n : Nat) (s : List Pt × ByteArray × ByteArray) : Prop where
 last : s.1 = [] ∨ ∃ m x, s.1 = m ++ [(x, (⟨#[]⟩ : ByteArray), (⟨#[]⟩ : ByteArray))] ∧ 0 < x ∧ x ≤ 300 * (n : Int)
 len : s.1.length ≤ 3 * n
 put : s.2.1.size ≤ 300 * n
 drop : s.2.2.size ≤ 300 * n
def Az (s : List Pt × ByteArray × ByteArray) : List IP := (s.1 ++ endL s.2.1 s.2.2).map ofP
theorem Ap {a b : ByteArray} (ha : a.size = 0) (hb : b.size = 0) : endL a b = [] := by
 unfold endL; rw [if_pos ((Aa _).2 ha), if_pos ((Aa _).2 hb)]; rfl
theorem AE {a b : ByteArray} (ha : a.size ≠ 0) (hb : b.size = 0) : endL a b = [(0, a, ⟨#[]⟩)] := by
 unfold endL; rw [if_neg (fun e => ha ((Aa _).1 e)), if_pos ((Aa _).2 hb)]; rfl
theorem AD {a b : ByteArray} (ha : a.size = 0) (hb : b.size ≠ 0) : endL a b = [(0, ⟨#[]⟩, b)] := by
 unfold endL; rw [if_pos ((Aa _).2 ha), if_neg (fun e => hb ((Aa _).1 e))]; rfl
theorem Av {a b : ByteArray} (ha : a.size ≠ 0) (hb : b.size ≠ 0) : endL a b = [(0, a, ⟨#[]⟩), (0, ⟨#[]⟩, b)] := by
 unfold endL; rw [if_neg (fun e => ha ((Aa _).1 e)), if_neg (fun e => hb ((Aa _).1 e))]; rfl
theorem DI (a b : ByteArray) : (endL a b).length ≤ 2 := by unfold endL; rw [List.length_append]; split <;> split <;> simp
theorem Bw : (⟨#[]⟩ : ByteArray).size = 0 := rfl
theorem B6 (m : List Pt) (q : Pt) (x : Int) : keepA (m ++ [q]) x = if q.1 > 0 then m ++ [(wrap64 (q.1 + x), q.2.1, q.2.2)] else m ++ [q, (x, ⟨#[]⟩, ⟨#[]⟩)] := by
 unfold keepA
 rw [List.getLast?_append]
 simp only [List.getLast?_singleton, Option.some_or]
 split
 ·rw [List.dropLast_concat]
 rw [List.append_assoc]; rfl
theorem AO (n : Nat) (s : List Pt × ByteArray × ByteArray) (p : IP) (hn : n ≤ 1000) (hf : Fit n s) (hp : AI p) :
  Ev (fun k => spec_l3Add.f k (Az s) p.f0 p.f1 p.f2) (Az (takeP s (toP p))) ∧ Fit (n + 1) (takeP s (toP p)) := by
 obtain ⟨l, a, b⟩ := s
 obtain ⟨f1, f2, f3, f4⟩ := hf
 obtain ⟨p0, p1, p2⟩ := p
 obtain ⟨q1, q2, q3, q4, q5, q6⟩ := hp
 simp only at f1 f2 f3 f4 q1 q2 q3 q4 q5 q6
 have hel := DI a b
 by_cases h0 : p0 = 0
 rotate_left
 ·-- bytes are kept
  obtain ⟨h1, h2⟩ := q5.resolve_left h0
  have hk : keepS l a b p0 = (keepA (l ++ endL a b) p0, ⟨#[]⟩, ⟨#[]⟩) := by unfold keepS; rw [if_neg h0]
  have et : takeP (l, a, b) (toP ⟨p0, p1, p2⟩) = (keepA (l ++ endL a b) p0, ⟨#[]⟩, ⟨#[]⟩) := by
   unfold takeP toP
   simp only [hk]
   rw [Ak h1, Ak h2, AR]
  rw [et, Ak h1, Ak h2]
  have hq : ∀ (M : List Pt) (q : Pt), l ++ endL a b = M ++ [q] → q.1 ≤ 300 * (n : Int) → (q.1 > 0 → q.2.1 = ⟨#[]⟩ ∧ q.2.2 = ⟨#[]⟩) →
    Ev (fun k => spec_l3Add.f k (Az (l, a, b)) p0 ⟨#[]⟩ ⟨#[]⟩) (Az (keepA (l ++ endL a b) p0, ⟨#[]⟩, ⟨#[]⟩)) ∧ Fit (n + 1) (keepA (l ++ endL a b) p0, ⟨#[]⟩, ⟨#[]⟩) := by
   intro M q e hq1 hq2
   have hML : M.length + 1 ≤ 3 * n + 2 := by
    have := congrArg List.length e
    rw [List.length_append, List.length_append, List.length_singleton] at this
    omega
   unfold Az
   simp only
   rw [Ap Bw Bw, List.append_nil, e, B6]
   by_cases hx : q.1 > 0
   ·rw [if_pos hx, List.map_append, List.map_append]
    refine ⟨EJ (M.map ofP) (ofP q) ⟨p0, ⟨#[]⟩, ⟨#[]⟩⟩ (by rw [List.length_map]; omega) ⟨by simp only; omega, hx⟩, ?_⟩
    rw [wrap_id (by omega) (by omega)]
    obtain ⟨e1, e2⟩ := hq2 hx
    refine ⟨.inr ⟨M, q.1 + p0, by rw [e1, e2], by omega, by omega⟩, ?_, Nat.zero_le _, Nat.zero_le _⟩
    simp only [List.length_append, List.length_cons, List.length_nil]; omega
   ·rw [if_neg hx, List.map_append, List.map_append]
    refine ⟨BG (M.map ofP) (ofP q) ⟨p0, ⟨#[]⟩, ⟨#[]⟩⟩ (by rw [List.length_map]; omega) (.inl (by simp only; omega)) (fun c => hx c.2) (by simp [Bw]) (by simp [Bw]) (by simp [Bw]), ?_⟩
    refine ⟨.inr ⟨M ++ [q], p0, by rw [List.append_assoc]; rfl, by omega, by omega⟩, ?_, Nat.zero_le _, Nat.zero_le _⟩
    simp only [List.length_append, List.length_cons, List.length_nil]; omega
  by_cases ha : a.size = 0
  rotate_left
  ·by_cases hb : b.size = 0
   ·exact hq l (0, a, ⟨#[]⟩) (by rw [AE ha hb]) (by simp only; omega) (fun c => absurd c (by simp))
   exact hq (l ++ [(0, a, ⟨#[]⟩)]) (0, ⟨#[]⟩, b) (by rw [Av ha hb, List.append_assoc]; rfl) (by simp only; omega) (fun c => absurd c (by simp))
  by_cases hb : b.size = 0
  rotate_left
  ·exact hq l (0, ⟨#[]⟩, b) (by rw [AD ha hb]) (by simp only; omega) (fun c => absurd c (by simp))
  rcases f1 with e | ⟨m, x, e, hx, hx2⟩
  rotate_left
  ·exact hq m (x, ⟨#[]⟩, ⟨#[]⟩) (by rw [Ap ha hb, List.append_nil]; exact e) (by simp only; omega) (fun _ => ⟨rfl, rfl⟩)
  subst e
  unfold Az
  rw [Ap ha hb]
  simp only [List.nil_append, List.map_nil]
  rw [Ap Bw Bw]
  refine ⟨Cb ⟨p0, ⟨#[]⟩, ⟨#[]⟩⟩ (.inl h0), ⟨.inr ⟨[], p0, rfl, by omega, by omega⟩, by show 1 ≤ _; omega, Nat.zero_le _, Nat.zero_le _⟩⟩
 -- nothing is kept
 subst h0
 have et : takeP (l, a, b) (toP ⟨0, p1, p2⟩) = (l, a ++ p1, b ++ p2) := rfl
 rw [et]
 refine ⟨?_, ?_⟩
 rotate_left
 ·refine ⟨?_, by show l.length ≤ _; omega, by show (a ++ p1).size ≤ _; rw [AB]; omega, by show (b ++ p2).size ≤ _; rw [AB]; omega⟩
  rcases f1 with e | ⟨m, x, e, hx, hx2⟩
  ·exact .inl e
  exact .inr ⟨m, x, e, hx, by omega⟩
 unfold Az
 simp only
 by_cases h1 : p1.size = 0
 ·by_cases h2 : p2.size = 0
  ·rw [Ak h1, Ak h2, AR, AR]
   exact EN _ ⟨0, ⟨#[]⟩, ⟨#[]⟩⟩ rfl rfl rfl
  rw [Ak h1, AR]
  by_cases hb : b.size = 0
  rotate_left
  ·have hb2 : (b ++ p2).size ≠ 0 := by rw [AB]; omega
   by_cases ha : a.size = 0
   ·rw [AD ha hb, AD ha hb2, List.map_append, List.map_append]
    exact DA (l.map ofP) (ofP (0, ⟨#[]⟩, b)) ⟨0, ⟨#[]⟩, p2⟩ (by rw [List.length_map]; omega) (by simp) ⟨h2, hb⟩ (by simp only [ofP]; omega)
   rw [Av ha hb, Av ha hb2, List.map_append, List.map_append]
   have := DA (l.map ofP ++ [ofP (0, a, ⟨#[]⟩)]) (ofP (0, ⟨#[]⟩, b)) ⟨0, ⟨#[]⟩, p2⟩ (by rw [List.length_append, List.length_map, List.length_singleton]; omega) (by simp) ⟨h2, hb⟩ (by simp only [ofP]; omega)
   rw [List.append_assoc, List.append_assoc] at this; exact this
  rw [Ak hb, show (⟨#[]⟩ : ByteArray) ++ p2 = p2 by apply ByteArray.ext; rw [ByteArray.data_append]; simp]
  by_cases ha : a.size = 0
  rotate_left
  ·rw [AE ha Bw, Av ha h2, List.map_append, List.map_append]
   exact BG (l.map ofP) (ofP (0, a, ⟨#[]⟩)) ⟨0, ⟨#[]⟩, p2⟩ (by rw [List.length_map]; omega) (.inr (.inr h2)) (by simp) (by simp [ofP, Bw]) (by simp [Bw]) (by simp [Bw])
  rw [Ap ha Bw, AD ha h2, List.append_nil, List.map_append]
  rcases f1 with e | ⟨m, x, e, hx, _⟩
  ·rw [e]; exact Cb ⟨0, ⟨#[]⟩, p2⟩ (.inr (.inr h2))
  rw [e, List.map_append]
  have := BG (m.map ofP) (ofP (x, ⟨#[]⟩, ⟨#[]⟩)) ⟨0, ⟨#[]⟩, p2⟩ (by rw [e] at f2; simp at f2 ⊢; omega) (.inr (.inr h2)) (by simp) (by simp [ofP, Bw]) (by simp [Bw]) (by simp [Bw])
  rw [List.append_assoc]; exact this
 have h2 : p2.size = 0 := by omega
 rw [Ak h2, AR]
 by_cases ha : a.size = 0
 rotate_left
 ·have ha2 : (a ++ p1).size ≠ 0 := by rw [AB]; omega
  by_cases hb : b.size = 0
  ·rw [AE ha hb, AE ha2 hb, List.map_append, List.map_append]
   exact Fy (l.map ofP) (ofP (0, a, ⟨#[]⟩)) ⟨0, p1, ⟨#[]⟩⟩ (by rw [List.length_map]; omega) (by simp) (by simp [Bw]) ⟨h1, ha⟩ (by simp only [ofP]; omega)
  rw [Av ha hb, Av ha2 hb, List.map_append, List.map_append]
  have := Cq (l.map ofP) (ofP (0, a, ⟨#[]⟩)) (ofP (0, ⟨#[]⟩, b)) ⟨0, p1, ⟨#[]⟩⟩ (by rw [List.length_map]; omega) (by simp) (by simp [Bw]) (by simp [ofP, Bw]) ⟨h1, hb⟩ (by simp only [ofP]; omega)
  rw [if_neg (by simp only [ofP]; exact ha)] at this
  exact this
 rw [Ak ha, show (⟨#[]⟩ : ByteArray) ++ p1 = p1 by apply ByteArray.ext; rw [ByteArray.data_append]; simp]
 by_cases hb : b.size = 0
 ·rw [Ap Bw hb, AE h1 hb, List.append_nil, List.map_append]
  rcases f1 with e | ⟨m, x, e, hx, _⟩
  ·rw [e]; exact Cb ⟨0, p1, ⟨#[]⟩⟩ (.inr (.inl h1))
  rw [e, List.map_append]
  have := BG (m.map ofP) (ofP (x, ⟨#[]⟩, ⟨#[]⟩)) ⟨0, p1, ⟨#[]⟩⟩ (by rw [e] at f2; simp at f2 ⊢; omega) (.inr (.inl h1)) (by simp) (by simp [ofP, Bw]) (by simp [ofP, Bw]) (by simp [ofP, Bw])
  rw [List.append_assoc]; exact this
 rw [AD Bw hb, Av h1 hb, List.map_append, List.map_append]
 rcases f1 with e | ⟨m, x, e, hx, _⟩
 ·rw [e]; exact DY (ofP (0, ⟨#[]⟩, b)) ⟨0, p1, ⟨#[]⟩⟩ (by simp) (by simp [Bw]) (by simp [ofP, Bw]) ⟨h1, hb⟩
 rw [e, List.map_append]
 have := Cq (m.map ofP) (ofP (x, ⟨#[]⟩, ⟨#[]⟩)) (ofP (0, ⟨#[]⟩, b)) ⟨0, p1, ⟨#[]⟩⟩ (by rw [e] at f2; simp at f2 ⊢; omega) (by simp) (by simp [Bw]) (by simp [ofP, Bw]) ⟨h1, hb⟩ (by simp only [ofP, Bw]; omega)
 rw [if_pos (by rfl)] at this
 rw [List.append_assoc, List.append_assoc]; exact this
theorem CF : Fit 0 ([], (⟨#[]⟩ : ByteArray), (⟨#[]⟩ : ByteArray)) := ⟨.inl rfl, Nat.le_refl _, Nat.le_refl _, Nat.le_refl _⟩
def Ad (l : List IP) : List IP := (normP (l.map toP)).map ofP
theorem EC (l : List IP) (hl : l.length ≤ 60) (hp : ∀ p ∈ l, AI p) : l.length ≤ 60 ∧ (l.all fun x => decide (x.f1.size ≤ 300 ∧ x.f2.size ≤ 300)) = true :=
 ⟨hl, List.all_eq_true.2 fun x hx => decide_eq_true ⟨(hp x hx).2.2.1, (hp x hx).2.2.2.1⟩⟩
theorem BK (l : List IP) (hl : l.length ≤ 60) (hp : ∀ p ∈ l, AI p) : impl_normal.f l = some (Ad l) := by
 unfold impl_normal.f
 rw [if_pos (EC l hl hp)]; rfl
theorem Du (a b c : Int) : spec_l1In.f a b c = some (decide (b ≤ a ∧ a ≤ c)) := by
 unfold spec_l1In.f; split <;> simp <;> omega
theorem CR (c : Int) : spec_l1Open.f c = some (openB c) := by
 unfold spec_l1Open.f openB; split <;> simp <;> omega
theorem Cs (c : Int) : spec_l1Plain.f c = some (plainB c) := by
 unfold spec_l1Plain.f plainB
 repeat' split
 all_goals (rw [Option.some.injEq, Bool.eq_iff_iff]; simp only [Bool.or_eq_true, decide_eq_true_eq, beq_iff_eq, true_iff]; omega)
theorem CK (s : ByteArray) (hs : s.size ≤ 140737488351232) (d : Nat) : ∀ i : Nat, i + d = s.size → Ev (fun k => spec_l1Text.l0 k s (i : Int)) (textB ((bytesOf s).drop i)) := by
 induction d with
 | zero =>
  intro i hi
  refine Ev.step (fun k => by rw [spec_l1Text.l0]) ?_
  refine ev_neg (by omega) (ev_ret ?_)
  rw [drop_end s i (by omega)]; rfl
 | succ d ih =>
  intro i hi
  refine Ev.step (fun k => by rw [spec_l1Text.l0]) ?_
  refine ev_pos (by omega) (ev_pos (by omega) (ev_eq (CR _) ?_))
  rw [drop_bytes s i (by omega), wrap_succ i (by omega)]
  have ih' := ih (i + 1) (by omega)
  refine ev_if (fun h => ev_val ih' (by simp [textB, okB, h])) (fun h => ?_)
  refine ev_eq (Cs _) (ev_if (fun h2 => ev_val ih' (by simp [textB, okB, h2])) (fun h2 => ?_))
  refine ev_if (fun h3 => ev_val ih' (by simp [textB, okB, h3])) (fun h3 => ev_ret ?_)
  simp [textB, okB, h, h2, h3]
theorem CP (s : ByteArray) (hs : s.size ≤ 140737488351232) : Ev (fun k => spec_l1Text.f k s) (textB (bytesOf s)) :=
 CK s hs s.size 0 (by omega)
theorem AQ (s : ByteArray) (hs : s.size ≤ 140737488351232) : Ev (fun k => spec_GoodText.f k s) (goodB (bytesOf s)) := by
 unfold spec_GoodText.f goodB
 refine Ev.bind (CP s hs) (ev_if (fun h => ev_ret ?_) (fun h => ev_ret ?_))
 rotate_left
 ·simp at h; simp [h]
 rw [h, bytesOf_length, Bool.true_and]; congr 1; simp; omega
theorem CO (c : Int) : impl_isName.f c = some (openB c) := by
 unfold impl_isName.f openB; split <;> simp <;> omega
theorem Cl (c : Int) : impl_isPlain.f c = some (plainB c) := by
 unfold impl_isPlain.f plainB
 repeat' split
 all_goals (rw [Option.some.injEq, Bool.eq_iff_iff]; simp only [Bool.or_eq_true, decide_eq_true_eq, beq_iff_eq, true_iff]; omega)
theorem Ch (s : ByteArray) (hs : s.size ≤ 140737488351232) (d : Nat) : ∀ i : Nat, i + d = s.size → Ev (fun k => impl_GoodText.l0 k s (s.size : Int) (i : Int)) (textB ((bytesOf s).drop i) && decide (s.size ≤ 300)) := by
 induction d with
 | zero =>
  intro i hi
  refine Ev.step (fun k => by rw [impl_GoodText.l0]) ?_
  refine ev_neg (by omega) (ev_ret ?_)
  rw [drop_end s i (by omega)]; simp [textB]; omega
 | succ d ih =>
  intro i hi
  refine Ev.step (fun k => by rw [impl_GoodText.l0]) ?_
  refine ev_pos (by omega) (ev_pos (by omega) (ev_pos (by omega) (ev_eq (CO _) ?_)))
  rw [drop_bytes s i (by omega), wrap_succ i (by omega)]
  have ih' := ih (i + 1) (by omega)
  refine ev_if (fun h => ev_val ih' (by simp [textB, okB, h])) (fun h => ?_)
  refine ev_eq (Cl _) (ev_if (fun h2 => ev_val ih' (by simp [textB, okB, h2])) (fun h2 => ?_))
  refine ev_if (fun h3 => ev_val ih' (by simp [textB, okB, h3])) (fun h3 => ev_ret ?_)
  simp [textB, okB, h, h2, h3]
theorem Bq (s : ByteArray) (hs : s.size ≤ 140737488351232) : Ev (fun k => impl_GoodText.f k s) (goodB (bytesOf s)) := by
 unfold impl_GoodText.f
 refine ev_val (Ch s hs s.size 0 (by omega)) ?_
 simp [goodB, bytesOf_length]
def Ae (p : IP) : Bool := if p.f0 = 0 then (if p.f1.toList = ([] : List UInt8) then (if p.f2.toList = ([] : List UInt8) then false else goodB (bytesOf p.f2)) else (if p.f2.toList = ([] : List UInt8) then goodB (bytesOf p.f1) else false)) else (decide (1 ≤ p.f0 ∧ p.f0 ≤ 300) && (decide (p.f1.toList = ([] : List UInt8)) && (p.f2.toList == ([] : List UInt8))))
theorem CM (p : IP) (h1 : p.f1.size ≤ 140737488351232) (h2 : p.f2.size ≤ 140737488351232) : Ev (fun k => spec_l3Part.f k p.f0 p.f1 p.f2) (Ae p) := by
 unfold spec_l3Part.f Ae
 by_cases c0 : p.f0 = 0
 rotate_left
 ·rw [if_neg c0]
  refine ev_neg c0 (ev_eq (Du _ _ _) ?_)
  refine ev_if (fun h => ?_) (fun h => ev_ret (by rw [Bool.not_eq_true] at h; rw [h]; rfl))
  rw [h, Bool.true_and]
  exact ev_if (fun h1 => ev_ret (by rw [decide_eq_true h1, Bool.true_and])) (fun h1 => ev_ret (by rw [decide_eq_false h1]; rfl))
 rw [if_pos c0]
 refine ev_pos c0 ?_
 by_cases c1 : p.f1.toList = ([] : List UInt8)
 ·rw [if_pos c1]
  refine ev_pos c1 ?_
  by_cases c2 : p.f2.toList = ([] : List UInt8)
  ·rw [if_pos c2]; exact ev_pos c2 (ev_ret rfl)
  rw [if_neg c2]; exact ev_neg c2 (Ev.bind (AQ _ h2) (ev_ret rfl))
 rw [if_neg c1]
 refine ev_neg c1 ?_
 by_cases c2 : p.f2.toList = ([] : List UInt8)
 rotate_left
 ·rw [if_neg c2]; exact ev_neg c2 (ev_ret rfl)
 rw [if_pos c2]; exact ev_pos c2 (Ev.bind (AQ _ h1) (ev_ret rfl))
theorem BP (p : IP) (h1 : p.f1.size ≤ 140737488351232) (h2 : p.f2.size ≤ 140737488351232) : Ev (fun k => impl_Part_isPart.f k p.f0 p.f1 p.f2) (Ae p) := by
 unfold impl_Part_isPart.f Ae
 by_cases c0 : p.f0 = 0
 rotate_left
 ·rw [if_neg c0]
  refine ev_neg c0 ?_
  refine ev_if (fun h => ?_) (fun h => ev_ret (by rw [decide_eq_false (by omega)]; rfl))
  refine ev_if (fun h' => ?_) (fun h' => ev_ret (by rw [decide_eq_false (by omega)]; rfl))
  rw [decide_eq_true (show 1 ≤ p.f0 ∧ p.f0 ≤ 300 from ⟨h, h'⟩), Bool.true_and]
  exact ev_if (fun h1 => ev_ret (by rw [decide_eq_true h1, Bool.true_and])) (fun h1 => ev_ret (by rw [decide_eq_false h1]; rfl))
 rw [if_pos c0]
 refine ev_pos c0 ?_
 by_cases c1 : p.f1.toList = ([] : List UInt8)
 ·rw [if_pos c1]
  refine ev_pos c1 ?_
  by_cases c2 : p.f2.toList = ([] : List UInt8)
  ·rw [if_pos c2]; exact ev_pos c2 (ev_ret rfl)
  rw [if_neg c2]; exact ev_neg c2 (Ev.bind (Bq _ h2) (ev_ret rfl))
 rw [if_neg c1]
 refine ev_neg c1 ?_
 by_cases c2 : p.f2.toList = ([] : List UInt8)
 rotate_left
 ·rw [if_neg c2]; exact ev_neg c2 (ev_ret rfl)
 rw [if_pos c2]; exact ev_pos c2 (Ev.bind (Bq _ h1) (ev_ret rfl))
def De : List IP → Int → Int
 | [], a => a
 | p :: r, a => De r (wrap64 (a + wrap64 (p.f0 + (p.f2.size : Int))))
def DL : List IP → Int → Int
 | [], a => a
 | p :: r, a => DL r (wrap64 (a + wrap64 (p.f0 + (p.f1.size : Int))))
theorem Cz (l : List IP) (hl : l.length ≤ 1048576) (d : Nat) : ∀ (i : Nat) (a b : Int), i + d = l.length →
  Ev (fun k => spec_l3Sizes.l0 k a b l (l.length : Int) (i : Int)) (De (l.drop i) a, DL (l.drop i) b) := by
 induction d with
 | zero =>
  intro i a b hi
  refine Ev.step (fun k => by rw [spec_l3Sizes.l0]) ?_
  refine ev_neg (by omega) (ev_ret ?_)
  rw [List.drop_eq_nil_of_le (by omega)]; rfl
 | succ d ih =>
  intro i a b hi
  refine Ev.step (fun k => by rw [spec_l3Sizes.l0]) ?_
  refine ev_pos (by omega) (ev_pos (by omega) (ev_pos (by omega) ?_))
  rw [gt_drop Bp l i (by omega), wrap_succ i (by omega)]
  exact ih (i + 1) _ _ (by omega)
theorem CG (l : List IP) (hl : l.length ≤ 1048576) : Ev (fun k => spec_l3Sizes.f k l) (De l 0, DL l 0) := by
 unfold spec_l3Sizes.f
 exact Cz l hl l.length 0 0 0 (by omega)
theorem C6 (l : List IP) (hl : l.length ≤ 1048576) (d : Nat) : ∀ (i : Nat) (a b : Int), i + d = l.length →
  Ev (fun k => impl_sizes.l0 k a b l (l.length : Int) (i : Int)) (De (l.drop i) a, DL (l.drop i) b) := by
 induction d with
 | zero =>
  intro i a b hi
  refine Ev.step (fun k => by rw [impl_sizes.l0]) ?_
  refine ev_neg (by omega) (ev_ret ?_)
  rw [List.drop_eq_nil_of_le (by omega)]; rfl
 | succ d ih =>
  intro i a b hi
  refine Ev.step (fun k => by rw [impl_sizes.l0]) ?_
  refine ev_pos (by omega) (ev_pos (by omega) (ev_pos (by omega) ?_))
  rw [gt_drop Bp l i (by omega), wrap_succ i (by omega)]
  exact ih (i + 1) _ _ (by omega)
theorem BZ (l : List IP) (hl : l.length ≤ 1048576) : Ev (fun k => impl_sizes.f k l) (De l 0, DL l 0) := by
 unfold impl_sizes.f
 exact C6 l hl l.length 0 0 0 (by omega)
def Ac (l : List IP) : Bool := decide (l.length ≤ 60) && (l.all Ae && decide (De l 0 ≤ 300 ∧ DL l 0 ≤ 300))
theorem CX {l : List IP} (h : ¬ l.length ≤ 60) : Ac l = false := by unfold Ac; rw [decide_eq_false h]; rfl
theorem D0 {l : List IP} {p : IP} (hp : p ∈ l) (h : Ae p = false) : Ac l = false := by
 unfold Ac
 have : l.all Ae = false := by
  rw [Bool.eq_false_iff]; intro e
  rw [List.all_eq_true] at e
  rw [e p hp] at h; cases h
 rw [this]; simp
theorem CS (l : List IP) (hl : l.length ≤ 60) (hw : ∀ x ∈ l, x.f1.size ≤ 1048576 ∧ x.f2.size ≤ 1048576) (d : Nat) : ∀ i : Nat, i + d = l.length →
  (l.take i).all Ae = true → Ev (fun k => spec_GoodOp.l0 k l l (l.length : Int) (i : Int)) (Ac l) := by
 induction d with
 | zero =>
  intro i hi hg
  refine Ev.step (fun k => by rw [spec_GoodOp.l0]) ?_
  rw [List.take_of_length_le (by omega)] at hg
  have e : Ac l = decide (De l 0 ≤ 300 ∧ DL l 0 ≤ 300) := by unfold Ac; rw [hg, decide_eq_true hl]; rfl
  rw [e]
  refine ev_neg (by omega) (Ev.bind (CG l (by omega)) ?_)
  exact ev_if (fun h => ev_ret (decide_eq_decide.2 (by constructor <;> intro q; exact ⟨h, q⟩; exact q.2))) (fun h => ev_ret (by rw [decide_eq_false (fun q => h q.1)]))
 | succ d ih =>
  intro i hi hg
  have hm := hw _ (gt_mem Bp l i (by omega))
  refine Ev.step (fun k => by rw [spec_GoodOp.l0]) ?_
  refine ev_pos (by omega) (ev_pos (by omega) (ev_pos (by omega) ?_))
  rw [wrap_succ i (by omega)]
  simp only [Bo]
  refine Ev.bind (CM _ (by omega) (by omega)) (ev_if (fun h => ?_) (fun h => ev_ret (D0 (gt_mem Bp l i (by omega)) (by simpa using h)).symm))
  refine ih (i + 1) (by omega) ?_
  rw [gt_take Bp l i (by omega), List.all_append, hg]
  simp [h]
theorem Ax (l : List IP) (hw : ∀ x ∈ l, x.f1.size ≤ 1048576 ∧ x.f2.size ≤ 1048576) : Ev (fun k => spec_GoodOp.f k l) (Ac l) := by
 unfold spec_GoodOp.f
 refine ev_if (fun h => ev_ret (CX (by omega)).symm) (fun h => ?_)
 exact CS l (by omega) hw l.length 0 (by omega) rfl
theorem EU (l : List IP) (hw : ∀ x ∈ l, x.f1.size ≤ 1048576 ∧ x.f2.size ≤ 1048576) : ∀ n : Int, 0 ≤ n → ∃ v : Int, Ev (fun k => idxBad k l n) v ∧ (v ≥ 0 ↔ l.all Ae = false) := by
 induction l with
 | nil => exact fun n _ => ⟨-1, by unfold idxBad; exact ev_ret rfl, by simp⟩
 | cons p r ih =>
  intro n hn
  have hm := hw p (List.mem_cons_self ..)
  obtain ⟨v, hv, hb⟩ := ih (fun x hx => hw x (List.mem_cons_of_mem _ hx)) (n + 1) (by omega)
  have hp : Ev (fun k => impl_GoodOp_1.f k p.f0 p.f1 p.f2) (!(Ae p)) := by unfold impl_GoodOp_1.f; exact Ev.bind (BP p (by omega) (by omega)) (ev_ret rfl)
  by_cases c : Ae p = true
  ·refine ⟨v, ?_, by rw [hb, List.all_cons, c, Bool.true_and]⟩
   unfold idxBad
   refine Ev.bind hp (ev_neg (by rw [c]; simp) hv)
  rw [Bool.not_eq_true] at c
  refine ⟨n, ?_, by rw [List.all_cons, c]; simp; omega⟩
  unfold idxBad
  exact Ev.bind hp (ev_pos (by rw [c]; rfl) (ev_ret rfl))
theorem Ay (l : List IP) (hw : ∀ x ∈ l, x.f1.size ≤ 1048576 ∧ x.f2.size ≤ 1048576) : Ev (fun k => impl_GoodOp.f k l) (Ac l) := by
 unfold impl_GoodOp.f
 refine ev_if (fun h => ev_ret (CX (by omega)).symm) (fun h => ?_)
 obtain ⟨v, hv, hb⟩ := EU l hw 0 (by omega)
 refine Ev.bind hv (ev_if (fun c => ev_ret ?_) (fun c => Ev.bind (BZ l (by omega)) ?_))
 ·unfold Ac; rw [hb.1 c]; simp
 have hg : l.all Ae = true := by
  by_cases q : l.all Ae = true
  ·exact q
  ·exact absurd (hb.2 (by simpa using q)) c
 have e : Ac l = decide (De l 0 ≤ 300 ∧ DL l 0 ≤ 300) := by unfold Ac; rw [hg, decide_eq_true (by omega : l.length ≤ 60)]; rfl
 rw [e]
 exact ev_if (fun h => ev_ret (decide_eq_decide.2 (by constructor <;> intro q; exact ⟨h, q⟩; exact q.2))) (fun h => ev_ret (by rw [decide_eq_false (fun q => h q.1)]))
theorem By {s : ByteArray} (h : goodB (bytesOf s) = true) : s.size ≤ 300 := by
 unfold goodB at h
 rw [Bool.and_eq_true, bytesOf_length] at h
 exact of_decide_eq_true h.2
theorem AC {p : IP} (h : Ae p = true) : 0 ≤ p.f0 ∧ p.f0 ≤ 300 ∧ p.f1.size ≤ 300 ∧ p.f2.size ≤ 300 ∧ (p.f0 = 0 ∨ p.f2.size = 0) := by
 unfold Ae at h
 by_cases c0 : p.f0 = 0
 rotate_left
 ·rw [if_neg c0, Bool.and_eq_true, Bool.and_eq_true] at h
  obtain ⟨a, b, c⟩ := h
  have a := of_decide_eq_true a
  have b := (Aa _).1 (of_decide_eq_true b)
  have c := (Aa _).1 (by simpa using c)
  exact ⟨by omega, by omega, by omega, by omega, Or.inr c⟩
 rw [if_pos c0] at h
 by_cases c1 : p.f1.toList = ([] : List UInt8)
 ·rw [if_pos c1] at h
  rw [Aa] at c1
  by_cases c2 : p.f2.toList = ([] : List UInt8)
  ·rw [if_pos c2] at h; cases h
  rw [if_neg c2] at h
  have := By h
  exact ⟨by omega, by omega, by omega, by omega, Or.inl c0⟩
 rw [if_neg c1] at h
 by_cases c2 : p.f2.toList = ([] : List UInt8)
 rotate_left
 ·rw [if_neg c2] at h; cases h
 rw [if_pos c2] at h
 rw [Aa] at c2
 have := By h
 exact ⟨by omega, by omega, by omega, by omega, Or.inl c0⟩
theorem Ab {l : List IP} (h : Ac l = true) : l.length ≤ 60 ∧ (∀ p ∈ l, Ae p = true) ∧ De l 0 ≤ 300 ∧ DL l 0 ≤ 300 := by
 unfold Ac at h
 rw [Bool.and_eq_true, Bool.and_eq_true, List.all_eq_true] at h
 have a := of_decide_eq_true h.1
 have b := of_decide_eq_true h.2.2
 exact ⟨a, h.2.1, b.1, b.2⟩
theorem AF {p : IP} (h : Ae p = true) : AI p := by
 obtain ⟨a1, a2, a3, a4, a5⟩ := AC h
 refine ⟨a1, a2, a3, a4, ?_, ?_⟩
 ·unfold Ae at h
  by_cases c0 : p.f0 = 0
  ·exact .inl c0
  rw [if_neg c0, Bool.and_eq_true, Bool.and_eq_true] at h
  exact .inr ⟨(Aa _).1 (of_decide_eq_true h.2.1), a5.resolve_left c0⟩
 unfold Ae at h
 by_cases c0 : p.f0 = 0
 rotate_left
 ·exact .inr (a5.resolve_left c0)
 rw [if_pos c0] at h
 by_cases c1 : p.f1.toList = ([] : List UInt8)
 ·exact .inl ((Aa _).1 c1)
 rw [if_neg c1] at h
 by_cases c2 : p.f2.toList = ([] : List UInt8)
 rotate_left
 ·rw [if_neg c2] at h; cases h
 exact .inr ((Aa _).1 c2)
def An : List IP → List Int
 | [] => []
 | p :: r => (List.replicate p.f0.toNat 0 ++ bytesOf p.f2) ++ An r
theorem B8 : ∀ (l : List IP), (∀ p ∈ l, Ae p = true) → (An l).length ≤ 600 * l.length
 | [], _ => by simp [An]
 | p :: r, h => by
  obtain ⟨f1, f2, f3, f4, f5⟩ := AC (h p (List.mem_cons_self ..))
  have := B8 r (fun x hx => h x (List.mem_cons_of_mem _ hx))
  simp only [An, List.length_append, List.length_replicate, bytesOf_length, List.length_cons]
  omega
abbrev Ba := ByteArray × ByteArray × Int
def As (l : List Ba) : List Pt := l.flatMap (fun s => endL s.1 s.2.1 ++ [(s.2.2, (⟨#[]⟩ : ByteArray), (⟨#[]⟩ : ByteArray))])
def Gs (l : List Ba) : List Int := l.flatMap (fun s => bytesOf s.2.1 ++ List.replicate s.2.2.toNat 0)
theorem Bc (a b : List Ba) : As (a ++ b) = As a ++ As b := by simp [As]
theorem AN (s : Ba) (b : List Ba) : As (s :: b) = endL s.1 s.2.1 ++ (s.2.2, (⟨#[]⟩ : ByteArray), (⟨#[]⟩ : ByteArray)) :: As b := by simp [As]
theorem Dp (a b : ByteArray) : bytesOf (a ++ b) = bytesOf a ++ bytesOf b := by unfold bytesOf; rw [ByteArray.data_append]; simp
theorem Dk {s : ByteArray} (h : s.size = 0) : bytesOf s = [] := by
 rw [← List.length_eq_zero_iff, bytesOf_length]; exact h
def NZ (s : ByteArray) : Prop := ∀ x ∈ bytesOf s, x ≠ 0
structure SegOk (n : Nat) (s : Ba) : Prop where
 put : s.1.size ≤ 300 * n
 drop : s.2.1.size ≤ 300 * n
 nz : NZ s.2.1
 pos : 0 < s.2.2
 top : s.2.2 ≤ 300 * (n : Int)
theorem SegOk.more {n : Nat} {s : Ba} (h : SegOk n s) : SegOk (n + 1) s := by
 obtain ⟨a, b, c, d, e⟩ := h
 exact ⟨by omega, by omega, c, d, by omega⟩
structure SegIs (n : Nat) (l : List IP) (s : List Pt × ByteArray × ByteArray) (g : List Ba) : Prop where
 flat : s.1 = As g
 ok : ∀ x ∈ g, SegOk n x
 put : s.2.1.size ≤ 300 * n
 drop : s.2.2.size ≤ 300 * n
 nz : NZ s.2.2
 bytes : Gs g ++ bytesOf s.2.2 = An l
 len : g.length ≤ n
theorem EA (L : List Pt) (a b : ByteArray) (x : Int) (h : a.size ≠ 0 ∨ b.size ≠ 0) : keepA (L ++ endL a b) x = L ++ (endL a b ++ [(x, (⟨#[]⟩ : ByteArray), (⟨#[]⟩ : ByteArray))]) := by
 have z : ∀ (M : List Pt) (q : Pt), q.1 = 0 → keepA (M ++ [q]) x = M ++ ([q] ++ [(x, (⟨#[]⟩ : ByteArray), (⟨#[]⟩ : ByteArray))]) := fun M q hq => by rw [B6, if_neg (by omega)]; rfl
 by_cases ha : a.size = 0
 ·have hb : b.size ≠ 0 := by omega
  rw [AD ha hb]; exact z L _ rfl
 by_cases hb : b.size = 0
 ·rw [AE ha hb]; exact z L _ rfl
 rw [Av ha hb]
 have := z (L ++ [(0, a, ⟨#[]⟩)]) (0, ⟨#[]⟩, b) rfl
 rw [List.append_assoc, List.append_assoc] at this
 exact this
abbrev E0 : ByteArray := ⟨#[]⟩
def nP (p : IP) : Nat := p.f0.toNat + p.f2.size
def Ao : List IP → Nat
 | [] => 0
 | p :: r => nP p + Ao r
theorem Gt {p : IP} (h : Ae p = true) : nP p ≤ 600 := by
 obtain ⟨f1, f2, f3, f4, f5⟩ := AC h
 unfold nP; omega
theorem FM {p : IP} (h : Ae p = true) : wrap64 (p.f0 + (p.f2.size : Int)) = (nP p : Int) := by
 obtain ⟨f1, f2, f3, f4, f5⟩ := AC h
 rw [wrap_id (by omega) (by omega)]; unfold nP; omega
theorem EQ : ∀ (l : List IP), (∀ p ∈ l, Ae p = true) → ∀ a : Nat, a + 600 * l.length ≤ 4611686018427387904 → De l (a : Int) = ((a + Ao l : Nat) : Int)
 | [], _, a, _ => by simp [De, Ao]
 | p :: r, h, a, hb => by
  have hp := h p (List.mem_cons_self ..)
  have hn := Gt hp
  rw [List.length_cons] at hb
  unfold De Ao
  rw [FM hp, show wrap64 ((a : Int) + (nP p : Int)) = ((a + nP p : Nat) : Int) by rw [wrap_id (by omega) (by omega)]; omega, EQ r (fun x hx => h x (List.mem_cons_of_mem _ hx)) (a + nP p) (by omega), Nat.add_assoc]
theorem Bt (s : ByteArray) (a b : Nat) : (s.extract a b).size = min b s.size - a := by simp
theorem C7 (x : ByteArray) : E0 ++ x = x := ByteArray.empty_append
def Dg (x : IP) : IP := ⟨x.f0, x.f2, x.f1⟩
abbrev GS := List Ba × ByteArray × ByteArray
def AM (g : List Ba) (a b : ByteArray) (k : Int) : List Ba :=
 if a.size = 0 ∧ b.size = 0 then (match g.getLast? with | some s => g.dropLast ++ [(s.1, s.2.1, s.2.2 + k)] | none => [(a, b, k)]) else g ++ [(a, b, k)]
def Ag (s : GS) (p : IP) : GS := if p.f0 = 0 then (s.1, s.2.1 ++ p.f1, s.2.2 ++ p.f2) else (AM s.1 s.2.1 s.2.2 p.f0, ⟨#[]⟩, ⟨#[]⟩)
def AK (l : List IP) : GS := l.foldl Ag ([], ⟨#[]⟩, ⟨#[]⟩)
theorem Ar {a b : ByteArray} (h : a.size = 0 ∧ b.size = 0) (k : Int) : AM [] a b k = [(a, b, k)] := by unfold AM; rw [if_pos h]; rfl
theorem Ah {a b : ByteArray} (h : a.size = 0 ∧ b.size = 0) (g : List Ba) (s : Ba) (k : Int) : AM (g ++ [s]) a b k = g ++ [(s.1, s.2.1, s.2.2 + k)] := by
 unfold AM; rw [if_pos h]; simp
theorem Al {a b : ByteArray} (h : ¬ (a.size = 0 ∧ b.size = 0)) (g : List Ba) (k : Int) : AM g a b k = g ++ [(a, b, k)] := by unfold AM; rw [if_neg h]
def EF (B : Int) (g : List Ba) : Prop := ∀ x ∈ g, 0 < x.2.2 ∧ x.2.2 ≤ B
theorem EH {B : Int} {g : List Ba} (h : EF B g) (hB : 0 ≤ B) (a b : ByteArray) (k : Int) (hk : 0 < k) (hk2 : k ≤ 300) : EF (B + 300) (AM g a b k) := by
 have h' : EF (B + 300) g := fun x hx => by have := h x hx; omega
 have hn : ∀ u v : ByteArray, 0 < (u, v, k).2.2 ∧ (u, v, k).2.2 ≤ B + 300 := fun u v => by dsimp only; omega
 by_cases c : a.size = 0 ∧ b.size = 0
 rotate_left
 ·rw [Al c]
  intro x hx
  rcases List.mem_append.1 hx with q | q
  ·exact h' x q
  rw [List.mem_singleton.1 q]; exact hn _ _
 rcases List.eq_nil_or_concat g with e | ⟨g0, s0, e⟩
 ·subst e
  rw [Ar c]
  intro x hx; rw [List.mem_singleton.1 hx]; exact hn _ _
 rw [List.concat_eq_append] at e
 subst e
 rw [Ah c]
 intro x hx
 rcases List.mem_append.1 hx with q | q
 ·exact h' x (List.mem_append_left _ q)
 rw [List.mem_singleton.1 q]
 have := h s0 (by simp)
 dsimp only; omega
theorem EM {B : Int} {g : List Ba} (h : EF B g) (hB : 0 ≤ B) (hB2 : B ≤ 1000000000) (a b : ByteArray) (p : IP) (hp : AI p) :
  takeP (As g, a, b) (toP p) = (As (Ag (g, a, b) p).1, (Ag (g, a, b) p).2) ∧ EF (B + 300) (Ag (g, a, b) p).1 := by
 obtain ⟨p0, p1, p2⟩ := p
 obtain ⟨q1, q2, q3, q4, q5, q6⟩ := hp
 simp only at q1 q2 q3 q4 q5 q6
 by_cases h0 : p0 = 0
 ·subst h0
  exact ⟨rfl, fun x hx => by have := h x hx; omega⟩
 obtain ⟨h1, h2⟩ := q5.resolve_left h0
 have es : Ag (g, a, b) ⟨p0, p1, p2⟩ = (AM g a b p0, ⟨#[]⟩, ⟨#[]⟩) := by unfold Ag; rw [if_neg h0]
 have hk : keepS (As g) a b p0 = (keepA (As g ++ endL a b) p0, ⟨#[]⟩, ⟨#[]⟩) := by unfold keepS; rw [if_neg h0]
 have et : takeP (As g, a, b) (toP ⟨p0, p1, p2⟩) = (keepA (As g ++ endL a b) p0, ⟨#[]⟩, ⟨#[]⟩) := by
  unfold takeP toP
  simp only [hk]
  rw [Ak h1, Ak h2, AR]
 rw [et, es]
 refine ⟨?_, EH h hB a b p0 (by omega) q2⟩
 congr 1
 by_cases c : a.size = 0 ∧ b.size = 0
 rotate_left
 ·rw [Al c, Bc, AN, EA _ _ _ _ (by omega)]; rfl
 rw [Ap c.1 c.2, List.append_nil]
 rcases List.eq_nil_or_concat g with e | ⟨g0, s0, e⟩
 ·subst e
  rw [Ar c, AN, Ap c.1 c.2]; rfl
 rw [List.concat_eq_append] at e
 subst e
 have hs := h s0 (by simp)
 rw [Ah c, Bc, Bc, AN, AN]
 have e1 : As g0 ++ (endL s0.1 s0.2.1 ++ (s0.2.2, (⟨#[]⟩ : ByteArray), (⟨#[]⟩ : ByteArray)) :: As []) = (As g0 ++ endL s0.1 s0.2.1) ++ [(s0.2.2, (⟨#[]⟩ : ByteArray), (⟨#[]⟩ : ByteArray))] := by rw [List.append_assoc]; rfl
 rw [e1, B6, if_pos hs.1, wrap_id (by dsimp only; omega) (by dsimp only; omega), List.append_assoc]; rfl
theorem Dx : ∀ (l : List IP) (g : List Ba) (a b : ByteArray) (B : Int), (∀ p ∈ l, AI p) → EF B g → 0 ≤ B → B + 300 * (l.length : Int) ≤ 1000000000 →
  (l.map toP).foldl takeP (As g, a, b) = (As (l.foldl Ag (g, a, b)).1, (l.foldl Ag (g, a, b)).2) ∧ EF (B + 300 * (l.length : Int)) (l.foldl Ag (g, a, b)).1
 | [], g, a, b, B, _, h, hB, hB2 => ⟨rfl, by simpa using h⟩
 | p :: r, g, a, b, B, hp, h, hB, hB2 => by
  rw [List.length_cons] at hB2 ⊢
  obtain ⟨e1, e2⟩ := EM h hB (by omega) a b p (hp p (List.mem_cons_self ..))
  obtain ⟨e3, e4⟩ := Dx r _ (Ag (g, a, b) p).2.1 (Ag (g, a, b) p).2.2 (B + 300) (fun x hx => hp x (List.mem_cons_of_mem _ hx)) e2 (by omega) (by omega)
  rw [List.map_cons, List.foldl_cons, e1, List.foldl_cons]
  refine ⟨e3, ?_⟩
  have : B + 300 + 300 * (r.length : Int) = B + 300 * ((r.length + 1 : Nat) : Int) := by omega
  rw [← this]; exact e4
theorem Cc (l : List IP) (hl : l.length ≤ 1000) (hp : ∀ p ∈ l, AI p) : Ad l = (As (AK l).1 ++ endL (AK l).2.1 (AK l).2.2).map ofP ∧ EF 300000 (AK l).1 := by
 obtain ⟨e, h⟩ := Dx l [] ⟨#[]⟩ ⟨#[]⟩ 0 hp (fun x hx => by cases hx) (Int.le_refl _) (by omega)
 refine ⟨?_, fun x hx => by have := h x hx; omega⟩
 have e0 : As [] = [] := rfl
 rw [e0] at e
 unfold Ad normP AK
 rw [e]
def Gp (s : GS) : GS := (s.1.map (fun x => (x.2.1, x.1, x.2.2)), s.2.2, s.2.1)
theorem Gg (g : List Ba) (a b : ByteArray) (k : Int) : AM (g.map (fun x => (x.2.1, x.1, x.2.2))) b a k = (AM g a b k).map (fun x => (x.2.1, x.1, x.2.2)) := by
 by_cases c : a.size = 0 ∧ b.size = 0
 rotate_left
 ·rw [Al c, Al (fun q => c ⟨q.2, q.1⟩), List.map_append]; rfl
 have c' : b.size = 0 ∧ a.size = 0 := ⟨c.2, c.1⟩
 rcases List.eq_nil_or_concat g with e | ⟨g0, s0, e⟩
 ·subst e; rw [Ar c, List.map_nil, Ar c']; rfl
 rw [List.concat_eq_append] at e
 subst e
 rw [Ah c, List.map_append, List.map_append]
 exact Ah c' _ _ _
theorem FJ (s : GS) (p : IP) : Ag (Gp s) (Dg p) = Gp (Ag s p) := by
 unfold Ag
 by_cases h0 : p.f0 = 0
 ·rw [if_pos h0, if_pos (show (Dg p).f0 = 0 from h0)]; rfl
 rw [if_neg h0, if_neg (show ¬ (Dg p).f0 = 0 from h0)]
 show (AM (s.1.map _) s.2.2 s.2.1 p.f0, _) = _
 rw [Gg]; rfl
theorem D9 : ∀ (l : List IP) (s : GS), (l.map Dg).foldl Ag (Gp s) = Gp (l.foldl Ag s)
 | [], s => rfl
 | p :: r, s => by rw [List.map_cons, List.foldl_cons, FJ, D9 r, List.foldl_cons]
theorem EX (l : List IP) : AK (l.map Dg) = Gp (AK l) := D9 l ([], ⟨#[]⟩, ⟨#[]⟩)
def Fu (g : List Ba) : Prop := ∀ x ∈ g.tail, ¬ (x.1.size = 0 ∧ x.2.1.size = 0)
theorem CD {α : Type} {g : List α} (h : g ≠ []) (r : List α) : (g ++ r).tail = g.tail ++ r := by
 cases g with
 | nil => exact absurd rfl h
 | cons a t => rfl
theorem Fw {s : GS} (h : Fu s.1) (p : IP) : Fu (Ag s p).1 := by
 unfold Ag
 by_cases h0 : p.f0 = 0
 ·rw [if_pos h0]; exact h
 rw [if_neg h0]
 show Fu (AM s.1 s.2.1 s.2.2 p.f0)
 obtain ⟨g, a, b⟩ := s
 dsimp only at h ⊢
 by_cases c : a.size = 0 ∧ b.size = 0
 rotate_left
 ·rw [Al c]
  by_cases hg : g = []
  ·subst hg; intro x hx; cases hx
  unfold Fu at h ⊢
  rw [CD hg]
  intro x hx
  rcases List.mem_append.1 hx with q | q
  ·exact h x q
  rw [List.mem_singleton.1 q]; exact c
 rcases List.eq_nil_or_concat g with e | ⟨g0, s0, e⟩
 ·subst e; rw [Ar c]; intro x hx; cases hx
 rw [List.concat_eq_append] at e
 subst e
 rw [Ah c]
 by_cases hg : g0 = []
 ·subst hg; intro x hx; cases hx
 unfold Fu at h ⊢
 rw [CD hg] at h ⊢
 intro x hx
 rcases List.mem_append.1 hx with q | q
 ·exact h x (List.mem_append_left _ q)
 rw [List.mem_singleton.1 q]; exact h s0 (by simp)
theorem Ef : ∀ (l : List IP) (s : GS), Fu s.1 → Fu (l.foldl Ag s).1
 | [], s, h => h
 | p :: r, s, h => Ef r _ (Fw h p)
theorem E3 (l : List IP) : Fu (AK l).1 := Ef l _ (fun x hx => by cases hx)
theorem Dq (g : List Ba) (a b : ByteArray) : ((endL a b).map ofP).foldl Ag (g, ⟨#[]⟩, ⟨#[]⟩) = (g, a, b) := by
 have s1 : ∀ x y : ByteArray, Ag (g, x, y) (ofP (0, a, ⟨#[]⟩)) = (g, x ++ a, y) := fun x y => by
  show (g, x ++ a, y ++ (⟨#[]⟩ : ByteArray)) = _
  rw [AR]
 have s2 : ∀ x y : ByteArray, Ag (g, x, y) (ofP (0, ⟨#[]⟩, b)) = (g, x, y ++ b) := fun x y => by
  show (g, x ++ (⟨#[]⟩ : ByteArray), y ++ b) = _
  rw [AR]
 by_cases ha : a.size = 0
 ·by_cases hb : b.size = 0
  ·rw [Ap ha hb, Ak ha, Ak hb]; rfl
  rw [AD ha hb]
  show Ag (g, ⟨#[]⟩, ⟨#[]⟩) (ofP (0, ⟨#[]⟩, b)) = _
  rw [s2, Ak ha, C7]
 by_cases hb : b.size = 0
 ·rw [AE ha hb]
  show Ag (g, ⟨#[]⟩, ⟨#[]⟩) (ofP (0, a, ⟨#[]⟩)) = _
  rw [s1, Ak hb, C7]
 rw [Av ha hb]
 show Ag (Ag (g, ⟨#[]⟩, ⟨#[]⟩) (ofP (0, a, ⟨#[]⟩))) (ofP (0, ⟨#[]⟩, b)) = _
 rw [s1, s2, C7, C7]
theorem CZ (g : List Ba) (hb : EF 300000 g) (hw : Fu g) : ∀ (n : Nat) (h : List Ba), h.length = n → (∃ t, h ++ t = g) → ((As h).map ofP).foldl Ag ([], ⟨#[]⟩, ⟨#[]⟩) = (h, ⟨#[]⟩, ⟨#[]⟩)
 | 0, h, e, _ => by rw [List.length_eq_zero_iff.1 e]; rfl
 | n + 1, h, e, ⟨t, ht⟩ => by
  obtain ⟨h0, s, e'⟩ := (List.eq_nil_or_concat h).resolve_left (fun q => by rw [q] at e; cases e)
  rw [List.concat_eq_append] at e'
  subst e'
  rw [List.length_append, List.length_singleton] at e
  have ih' := CZ g hb hw n h0 (by omega) ⟨s :: t, by rw [← ht, List.append_assoc]; rfl⟩
  have hs := hb s (by rw [← ht]; simp)
  rw [Bc, AN, List.map_append, List.foldl_append, ih', List.map_append, List.foldl_append, Dq]
  show Ag (h0, s.1, s.2.1) (ofP (s.2.2, ⟨#[]⟩, ⟨#[]⟩)) = _
  unfold Ag
  rw [if_neg (show ¬ (ofP (s.2.2, ⟨#[]⟩, ⟨#[]⟩)).f0 = 0 by show ¬ s.2.2 = 0; omega)]
  show (AM h0 s.1 s.2.1 s.2.2, _) = _
  by_cases hg : h0 = []
  ·subst hg
   by_cases c : s.1.size = 0 ∧ s.2.1.size = 0
   ·rw [Ar c]; rfl
   ·rw [Al c]
  ·have hm : s ∈ g.tail := by rw [← ht, List.append_assoc, CD hg]; simp
   rw [Al (hw s hm)]
theorem Ep (g : List Ba) (a b : ByteArray) (hb : EF 300000 g) (hw : Fu g) : AK ((As g ++ endL a b).map ofP) = (g, a, b) := by
 unfold AK
 rw [List.map_append, List.foldl_append, CZ g hb hw g.length g rfl ⟨[], List.append_nil g⟩, Dq]
theorem D2 (l : List IP) (hl : l.length ≤ 1000) (hp : ∀ p ∈ l, AI p) : AK (Ad l) = AK l := by
 obtain ⟨e, h⟩ := Cc l hl hp
 rw [e]; exact Ep _ _ _ h (E3 l)
theorem Cn (p : IP) : Ae (Dg p) = Ae p := by
 obtain ⟨p0, p1, p2⟩ := p
 unfold Ae Dg
 dsimp only
 by_cases h0 : p0 = 0
 ·rw [if_pos h0, if_pos h0]
  by_cases h1 : p1.toList = ([] : List UInt8)
  ·by_cases h2 : p2.toList = ([] : List UInt8)
   ·simp [h1, h2]
   simp [h1, h2]
  by_cases h2 : p2.toList = ([] : List UInt8)
  ·simp [h1, h2]
  simp [h1, h2]
 rw [if_neg h0, if_neg h0]
 by_cases h1 : p1.toList = ([] : List UInt8)
 ·by_cases h2 : p2.toList = ([] : List UInt8)
  ·simp [h1, h2]
  simp [h1, h2]
 by_cases h2 : p2.toList = ([] : List UInt8)
 ·simp [h1, h2]
 simp [h1, h2]
theorem Fm : ∀ (l : List IP) (a : Int), De (l.map Dg) a = DL l a
 | [], a => rfl
 | p :: r, a => by rw [List.map_cons]; unfold De DL; exact Fm r _
theorem AV (p : IP) (r : List IP) : Ao (p :: r) = nP p + Ao r := rfl
theorem Fl : Ao [] = 0 := rfl
theorem Ai : ∀ (a b : List IP), Ao (a ++ b) = Ao a + Ao b
 | [], b => by rw [List.nil_append, Fl]; omega
 | p :: r, b => by rw [List.cons_append, AV, AV, Ai r b]; omega
def Da (g : List Ba) : List IP := (As g).map ofP
def D6 (a b : ByteArray) : List IP := (endL a b).map ofP
theorem Bj (g h : List Ba) : Da (g ++ h) = Da g ++ Da h := by unfold Da; rw [Bc, List.map_append]
theorem A8 (s : Ba) : Da [s] = D6 s.1 s.2.1 ++ [⟨s.2.2, ⟨#[]⟩, ⟨#[]⟩⟩] := by unfold Da D6; rw [AN, List.map_append]; rfl
theorem B2 (a b : ByteArray) : Ao (D6 a b) = b.size := by
 unfold D6
 by_cases ha : a.size = 0
 ·by_cases hb : b.size = 0
  ·rw [Ap ha hb, hb]; rfl
  rw [AD ha hb]; show (0 : Int).toNat + b.size + 0 = _; omega
 by_cases hb : b.size = 0
 ·rw [AE ha hb, hb]; rfl
 rw [Av ha hb]; show (0 : Int).toNat + 0 + ((0 : Int).toNat + b.size + 0) = _; omega
theorem Dh (a b : ByteArray) : Ao ((D6 a b).map Dg) = a.size := by
 unfold D6
 by_cases ha : a.size = 0
 ·by_cases hb : b.size = 0
  ·rw [Ap ha hb, ha]; rfl
  rw [AD ha hb, ha]; rfl
 by_cases hb : b.size = 0
 ·rw [AE ha hb]; show (0 : Int).toNat + a.size + 0 = _; omega
 rw [Av ha hb]; show (0 : Int).toNat + a.size + ((0 : Int).toNat + 0 + 0) = _; omega
theorem Bf (k : Int) : Ao [⟨k, ⟨#[]⟩, ⟨#[]⟩⟩] = k.toNat := by show k.toNat + 0 + 0 = _; omega
theorem DW (a b : ByteArray) : (D6 a b).length = (if a.size = 0 then 0 else 1) + (if b.size = 0 then 0 else 1) := by
 unfold D6
 rw [List.length_map]
 by_cases ha : a.size = 0
 ·by_cases hb : b.size = 0
  ·rw [Ap ha hb, if_pos ha, if_pos hb]; rfl
  rw [AD ha hb, if_pos ha, if_neg hb]; rfl
 by_cases hb : b.size = 0
 ·rw [AE ha hb, if_neg ha, if_pos hb]; rfl
 rw [Av ha hb, if_neg ha, if_neg hb]; rfl
theorem FA {B : Int} {g : List Ba} (h : EF B g) (a b : ByteArray) (k : Int) (hk : 0 < k) : Ao (Da (AM g a b k)) = Ao (Da g) + b.size + k.toNat ∧ (Da (AM g a b k)).length ≤ (Da g).length + (D6 a b).length + 1 := by
 by_cases c : a.size = 0 ∧ b.size = 0
 rotate_left
 ·rw [Al c, Bj, A8, Ai, Ai, B2, Bf]
  refine ⟨by dsimp only; omega, ?_⟩
  simp only [List.length_append, List.length_singleton]; omega
 rcases List.eq_nil_or_concat g with e | ⟨g0, s0, e⟩
 ·subst e
  rw [Ar c, A8, Ai, B2, Bf, List.length_append]
  refine ⟨?_, ?_⟩
  ·show b.size + k.toNat = 0 + b.size + k.toNat; omega
  show _ ≤ 0 + _ + _; simp only [List.length_singleton]; omega
 rw [List.concat_eq_append] at e
 subst e
 have hs := (h s0 (by simp)).1
 rw [Ah c, Bj, Bj, A8, A8, Ai, Ai, Ai, Ai, Bf, Bf]
 refine ⟨by dsimp only; omega, ?_⟩
 simp only [List.length_append, List.length_singleton]; omega
def Df (s : ByteArray) : Prop := textB (bytesOf s) = true
theorem D5 {a b : ByteArray} (ha : Df a) (hb : Df b) : Df (a ++ b) := by
 unfold Df textB at ha hb ⊢
 rw [Dp, List.all_append, ha, hb]; rfl
theorem A6 {a : ByteArray} (h : a.size = 0) : Df a := by unfold Df; rw [Dk h]; rfl
theorem Dm {s : ByteArray} (h : goodB (bytesOf s) = true) : Df s := by
 unfold goodB at h; rw [Bool.and_eq_true] at h; exact h.1
theorem EP {s : ByteArray} (h : Df s) (hs : s.size ≤ 300) : goodB (bytesOf s) = true := by
 unfold goodB; rw [Bool.and_eq_true, bytesOf_length]; exact ⟨h, decide_eq_true hs⟩
theorem FC {p : IP} (h : Ae p = true) : Df p.f1 ∧ Df p.f2 := by
 unfold Ae at h
 by_cases c0 : p.f0 = 0
 rotate_left
 ·rw [if_neg c0, Bool.and_eq_true, Bool.and_eq_true] at h
  exact ⟨A6 ((Aa _).1 (of_decide_eq_true h.2.1)), A6 ((Aa _).1 (by simpa using h.2.2))⟩
 rw [if_pos c0] at h
 by_cases c1 : p.f1.toList = ([] : List UInt8)
 ·rw [if_pos c1] at h
  by_cases c2 : p.f2.toList = ([] : List UInt8)
  ·rw [if_pos c2] at h; cases h
  rw [if_neg c2] at h; exact ⟨A6 ((Aa _).1 c1), Dm h⟩
 rw [if_neg c1] at h
 by_cases c2 : p.f2.toList = ([] : List UInt8)
 rotate_left
 ·rw [if_neg c2] at h; cases h
 rw [if_pos c2] at h; exact ⟨Dm h, A6 ((Aa _).1 c2)⟩
structure GI (n : Nat) (T : Nat) (s : GS) : Prop where
 bd : EF (300 * (n : Int)) s.1
 sum : Ao (Da s.1) + s.2.2.size = T
 len : (Da s.1).length + (D6 s.2.1 s.2.2).length ≤ n
 txt : ∀ x ∈ s.1, Df x.1 ∧ Df x.2.1
 txa : Df s.2.1
 txb : Df s.2.2
theorem FE {n T : Nat} {s : GS} (h : GI n T s) (p : IP) (hg : Ae p = true) : GI (n + 1) (T + nP p) (Ag s p) := by
 obtain ⟨g, a, b⟩ := s
 obtain ⟨i1, i2, i3, i4, i5, i6⟩ := h
 obtain ⟨q1, q2, q3, q4, q5, q6⟩ := AF hg
 obtain ⟨t1, t2⟩ := FC hg
 dsimp only at i1 i2 i3 i4 i5 i6
 have hn : nP p = p.f0.toNat + p.f2.size := rfl
 by_cases h0 : p.f0 = 0
 ·have e : Ag (g, a, b) p = (g, a ++ p.f1, b ++ p.f2) := by unfold Ag; rw [if_pos h0]
  rw [e]
  refine ⟨fun x hx => by have := i1 x hx; omega, ?_, ?_, i4, D5 i5 t1, D5 i6 t2⟩
  ·dsimp only; rw [AB]; omega
  dsimp only
  rw [DW] at i3 ⊢
  rw [AB, AB]
  rcases q6 with c | c
  ·rw [c, Nat.add_zero]
   split <;> split <;> split at i3 <;> omega
  rw [c, Nat.add_zero]
  split <;> split <;> split at i3 <;> omega
 obtain ⟨h1, h2⟩ := q5.resolve_left h0
 have e : Ag (g, a, b) p = (AM g a b p.f0, ⟨#[]⟩, ⟨#[]⟩) := by unfold Ag; rw [if_neg h0]
 rw [e]
 obtain ⟨u1, u2⟩ := FA i1 a b p.f0 (by omega)
 have e0 : (D6 (⟨#[]⟩ : ByteArray) (⟨#[]⟩ : ByteArray)).length = 0 := by rw [DW]; rfl
 refine ⟨?_, ?_, ?_, ?_, A6 rfl, A6 rfl⟩
 ·have := EH i1 (by omega) a b p.f0 (by omega) q2
  intro x hx; have := this x hx; omega
 ·dsimp only; rw [u1, Bw]; omega
 ·dsimp only; rw [e0]; omega
 dsimp only
 by_cases c : a.size = 0 ∧ b.size = 0
 rotate_left
 ·rw [Al c]
  intro x hx
  rcases List.mem_append.1 hx with q | q
  ·exact i4 x q
  rw [List.mem_singleton.1 q]; exact ⟨i5, i6⟩
 rcases List.eq_nil_or_concat g with e | ⟨g0, s0, e⟩
 ·subst e
  rw [Ar c]
  intro x hx; rw [List.mem_singleton.1 hx]; exact ⟨i5, i6⟩
 rw [List.concat_eq_append] at e
 subst e
 rw [Ah c]
 intro x hx
 rcases List.mem_append.1 hx with q | q
 ·exact i4 x (List.mem_append_left _ q)
 rw [List.mem_singleton.1 q]; exact i4 s0 (by simp)
theorem Eg : ∀ (l : List IP) (n T : Nat) (s : GS), (∀ p ∈ l, Ae p = true) → GI n T s → GI (n + l.length) (T + Ao l) (l.foldl Ag s)
 | [], n, T, s, _, h => h
 | p :: r, n, T, s, hp, h => by
  have := Eg r (n + 1) (T + nP p) (Ag s p) (fun x hx => hp x (List.mem_cons_of_mem _ hx)) (FE h p (hp p (List.mem_cons_self ..)))
  rw [List.foldl_cons, List.length_cons, AV]
  rw [show n + (r.length + 1) = n + 1 + r.length by omega, show T + (nP p + Ao r) = T + nP p + Ao r by omega]; exact this
theorem Fk (l : List IP) (hp : ∀ p ∈ l, Ae p = true) : GI l.length (Ao l) (AK l) := by
 have := Eg l 0 0 ([], ⟨#[]⟩, ⟨#[]⟩) hp ⟨fun x hx => (by cases hx), rfl, by rw [DW]; exact Nat.le_refl _, fun x hx => (by cases hx), A6 rfl, A6 rfl⟩
 rw [Nat.zero_add, Nat.zero_add] at this
 exact this
theorem Ca {u : ByteArray} (h : u.size ≠ 0) (ht : Df u) (hs : u.size ≤ 300) : Ae ⟨0, u, ⟨#[]⟩⟩ = true := by
 unfold Ae
 dsimp only
 rw [if_pos rfl, if_neg (fun e => h ((Aa _).1 e)), if_pos ((Aa _).2 Bw)]
 exact EP ht hs
theorem Co {u : ByteArray} (h : u.size ≠ 0) (ht : Df u) (hs : u.size ≤ 300) : Ae ⟨0, ⟨#[]⟩, u⟩ = true := by
 rw [← Cn]; exact Ca h ht hs
theorem DQ {k : Int} (h : 1 ≤ k) (h2 : k ≤ 300) : Ae ⟨k, ⟨#[]⟩, ⟨#[]⟩⟩ = true := by
 unfold Ae
 dsimp only
 have e := (Aa (⟨#[]⟩ : ByteArray)).2 Bw
 rw [if_neg (by omega), decide_eq_true (show 1 ≤ k ∧ k ≤ 300 from ⟨h, h2⟩), decide_eq_true e]
 simp [e]
theorem DF {a b : ByteArray} (ha : Df a) (hb : Df b) (sa : a.size ≤ 300) (sb : b.size ≤ 300) : ∀ p ∈ D6 a b, Ae p = true := by
 intro p hp
 unfold D6 at hp
 by_cases za : a.size = 0
 ·by_cases zb : b.size = 0
  ·rw [Ap za zb] at hp; cases hp
  rw [AD za zb] at hp; rw [List.mem_singleton.1 hp]; exact Co zb hb sb
 by_cases zb : b.size = 0
 ·rw [AE za zb] at hp; rw [List.mem_singleton.1 hp]; exact Ca za ha sa
 rw [Av za zb] at hp
 simp only [List.map_cons, List.map_nil, List.mem_cons, List.not_mem_nil, or_false] at hp
 rcases hp with rfl | rfl
 ·exact Ca za ha sa
 exact Co zb hb sb
theorem FT {g : List Ba} {p : IP} (h : p ∈ Da g) : ∃ s ∈ g, p ∈ Da [s] := by
 induction g with
 | nil => cases h
 | cons s r ih =>
  rw [show s :: r = [s] ++ r from rfl, Bj] at h
  rcases List.mem_append.1 h with q | q
  ·exact ⟨s, List.mem_cons_self .., q⟩
  obtain ⟨x, hx, hp⟩ := ih q; exact ⟨x, List.mem_cons_of_mem _ hx, hp⟩
theorem Ee {g : List Ba} {s : Ba} (h : s ∈ g) : Ao (Da [s]) ≤ Ao (Da g) := by
 induction g with
 | nil => cases h
 | cons x r ih =>
  rw [show x :: r = [x] ++ r from rfl, Bj, Ai]
  rcases List.mem_cons.1 h with rfl | q
  ·omega
  have := ih q; omega
theorem Dj : ∀ g : List Ba, Ao ((Da g).map Dg) = Ao (Da (g.map (fun x => (x.2.1, x.1, x.2.2))))
 | [] => rfl
 | s :: r => by
  rw [show s :: r = [s] ++ r from rfl, Bj, List.map_append, Ai, Dj r, List.map_append, Bj, Ai]
  congr 1
  rw [A8, List.map_append, Ai, Dh, List.map_singleton, List.map_singleton, A8, Ai, B2]; rfl
theorem C1 (l : List IP) (hp : ∀ p ∈ l, Ae p = true) (hl : l.length ≤ 1000000) : De l 0 = ((Ao l : Nat) : Int) := by
 have := EQ l hp 0 (by omega)
 rw [Nat.zero_add] at this; exact this
theorem DU (l : List IP) (hp : ∀ p ∈ l, Ae p = true) (hl : l.length ≤ 1000000) : DL l 0 = ((Ao (l.map Dg) : Nat) : Int) := by
 rw [← Fm]
 exact C1 _ (fun p h => by obtain ⟨q, hq, rfl⟩ := List.mem_map.1 h; rw [Cn]; exact hp q hq) (by rw [List.length_map]; exact hl)
theorem Fg (l : List IP) (hl : l.length ≤ 1000) (hp : ∀ p ∈ l, AI p) : Ad l = Da (AK l).1 ++ D6 (AK l).2.1 (AK l).2.2 := by
 rw [(Cc l hl hp).1, List.map_append]; rfl
theorem AL {l : List IP} (h : Ac l = true) : Ac (Ad l) = true ∧ Ao (Ad l) = Ao l ∧ Ao ((Ad l).map Dg) = Ao (l.map Dg) := by
 obtain ⟨hl, hp, hk, hm⟩ := Ab h
 have ho : ∀ p ∈ l, AI p := fun p h => AF (hp p h)
 have hps : ∀ p ∈ l.map Dg, Ae p = true := fun p h => by obtain ⟨q, hq, rfl⟩ := List.mem_map.1 h; rw [Cn]; exact hp q hq
 obtain ⟨b1, b2, b3, b4, b5, b6⟩ := Fk l hp
 obtain ⟨_, c2, _, _, _, _⟩ := Fk (l.map Dg) hps
 rw [EX] at c2
 rw [C1 l hp (by omega)] at hk
 rw [DU l hp (by omega)] at hm
 have e := Fg l (by omega) ho
 generalize AK l = s at b1 b2 b3 b4 b5 b6 c2 e
 obtain ⟨g, a, b⟩ := s
 unfold Gp at c2
 dsimp only at b1 b2 b3 b4 b5 b6 c2 e
 have t1 : Ao (Ad l) = Ao l := by rw [e, Ai, B2]; omega
 have t2 : Ao ((Ad l).map Dg) = Ao (l.map Dg) := by rw [e, List.map_append, Ai, Dh, Dj]; omega
 have hpn : ∀ p ∈ Ad l, Ae p = true := by
  rw [e]
  intro p hp'
  rcases List.mem_append.1 hp' with q | q
  ·obtain ⟨s, hs, hps'⟩ := FT q
   have z1 := Ee hs
   have z2 := Ee (List.mem_map.2 ⟨s, hs, rfl⟩ : (s.2.1, s.1, s.2.2) ∈ g.map (fun x => (x.2.1, x.1, x.2.2)))
   rw [A8, Ai, B2, Bf] at z1 z2
   dsimp only at z2
   rw [A8] at hps'
   obtain ⟨x1, x2⟩ := b4 s hs
   have x3 := (b1 s hs).1
   rcases List.mem_append.1 hps' with w | w
   ·exact DF x1 x2 (by omega) (by omega) p w
   ·rw [List.mem_singleton.1 w]; exact DQ (by omega) (by omega)
  ·exact DF b5 b6 (by omega) (by omega) p q
 have hln : (Ad l).length ≤ 60 := by rw [e, List.length_append]; omega
 refine ⟨?_, t1, t2⟩
 unfold Ac
 rw [decide_eq_true hln, List.all_eq_true.2 hpn, C1 _ hpn (by omega), DU _ hpn (by omega), t1, t2, decide_eq_true ⟨hk, hm⟩]; rfl
theorem E8 (s : ByteArray) (n : Nat) (h : n ≤ s.size) : s = s.extract 0 n ++ s.extract n s.size := by
 have := ByteArray.extract_append_extract (a := s) (i := 0) (j := n) (k := s.size)
 rw [this]
 have e1 : min 0 n = 0 := by omega
 have e2 : max n s.size = s.size := by omega
 rw [e1, e2, ByteArray.extract_zero_size]
inductive At where
 | k : At
 | p (c : UInt8) : At
 | d (c : UInt8) : At
inductive Sim : List At → List At → Prop where
 | refl (l : List At) : Sim l l
 | cons (a : At) {l m : List At} : Sim l m → Sim (a :: l) (a :: m)
 | swap (c d : UInt8) (l : List At) : Sim (.p c :: .d d :: l) (.d d :: .p c :: l)
 | symm {l m : List At} : Sim l m → Sim m l
 | trans {l m n : List At} : Sim l m → Sim m n → Sim l n
def B1 : Option (List At) → Option (List At) → Prop
 | none, none => True
 | some l, some m => Sim l m
 | _, _ => False
theorem B1.refl : ∀ o, B1 o o
 | none => True.intro
 | some l => Sim.refl l
theorem B1.symm : ∀ {o q}, B1 o q → B1 q o
 | none, none, _ => True.intro
 | some _, some _, h => Sim.symm h
theorem B1.trans : ∀ {o q r}, B1 o q → B1 q r → B1 o r
 | none, none, none, _, _ => True.intro
 | some _, some _, some _, h, h' => Sim.trans h h'
theorem B1.map (a : At) : ∀ {o q}, B1 o q → B1 (o.map (a :: ·)) (q.map (a :: ·))
 | none, none, _ => True.intro
 | some _, some _, h => Sim.cons a h
theorem B1.swap (c d : UInt8) : ∀ o : Option (List At), B1 ((o.map (At.d d :: ·)).map (At.p c :: ·)) ((o.map (At.p c :: ·)).map (At.d d :: ·))
 | none => True.intro
 | some l => Sim.swap c d l
def CJ : List At → Nat
 | [] => 0
 | .d _ :: x => CJ x
 | _ :: x => CJ x + 1
def BO : List At → Nat
 | [] => 0
 | .p _ :: x => BO x
 | _ :: x => BO x + 1
def kA (n : Nat) : List At := List.replicate n .k
def pA (s : ByteArray) : List At := s.data.toList.map .p
def dA (s : ByteArray) : List At := s.data.toList.map .d
def AJ (p : IP) : List At := kA p.f0.toNat ++ (pA p.f1 ++ dA p.f2)
def A9 (l : List IP) : List At := l.flatMap AJ
theorem BU : A9 [] = [] := rfl
theorem Af (p : IP) (l : List IP) : A9 (p :: l) = AJ p ++ A9 l := rfl
theorem A1 {s : ByteArray} (h : s.size = 0) : pA s = [] := by rw [Ak h]; rfl
theorem A2 {s : ByteArray} (h : s.size = 0) : dA s = [] := by rw [Ak h]; rfl
def D3 (f : UInt8 → At) (s : ByteArray) : List At := s.data.toList.map f
theorem Ct (f : UInt8 → At) (a b : ByteArray) : D3 f (a ++ b) = D3 f a ++ D3 f b := by unfold D3; rw [ByteArray.data_append, Array.toList_append, List.map_append]
theorem Gn (a b : ByteArray) : pA (a ++ b) = pA a ++ pA b := Ct _ a b
theorem Gd (a b : ByteArray) : dA (a ++ b) = dA a ++ dA b := Ct _ a b
theorem Di (f : UInt8 → At) (s : ByteArray) (n : Nat) (h : n ≤ s.size) : D3 f s = D3 f (s.extract 0 n) ++ D3 f (s.extract n s.size) := by
 rw [← Ct, ← E8 s n h]
theorem DS (a b : Nat) : kA (a + b) = kA a ++ kA b := by unfold kA; rw [List.replicate_append_replicate]
def E1 (c : UInt8) : ByteArray := ⟨#[c]⟩
def DO (s : GS) : At → GS
 | .k => (AM s.1 s.2.1 s.2.2 1, ⟨#[]⟩, ⟨#[]⟩)
 | .p c => (s.1, s.2.1 ++ E1 c, s.2.2)
 | .d c => (s.1, s.2.1, s.2.2 ++ E1 c)
theorem Dv {l m : List At} (h : Sim l m) : ∀ s : GS, l.foldl DO s = m.foldl DO s := by
 induction h with
 | refl l => exact fun _ => rfl
 | cons a _ ih => exact fun s => by rw [List.foldl_cons, List.foldl_cons, ih]
 | swap c d l => exact fun s => rfl
 | symm _ ih => exact fun s => (ih s).symm
 | trans _ _ i1 i2 => exact fun s => (i1 s).trans (i2 s)
theorem Fs (c : UInt8) (l : List UInt8) : E1 c ++ (⟨l.toArray⟩ : ByteArray) = ⟨(c :: l).toArray⟩ := by
 apply ByteArray.ext; rw [ByteArray.data_append]; simp [E1]
theorem Em : ∀ (l : List UInt8) (g : List Ba) (a b : ByteArray), (l.map At.p).foldl DO (g, a, b) = (g, a ++ ⟨l.toArray⟩, b)
 | [], g, a, b => by
  show (g, a, b) = (g, a ++ (⟨#[]⟩ : ByteArray), b)
  rw [AR]
 | c :: l, g, a, b => by
  rw [List.map_cons, List.foldl_cons]
  show (l.map At.p).foldl DO (g, a ++ E1 c, b) = _
  rw [Em l, ByteArray.append_assoc, Fs]
theorem Dr : ∀ (l : List UInt8) (g : List Ba) (a b : ByteArray), (l.map At.d).foldl DO (g, a, b) = (g, a, b ++ ⟨l.toArray⟩)
 | [], g, a, b => by
  show (g, a, b) = (g, a, b ++ (⟨#[]⟩ : ByteArray))
  rw [AR]
 | c :: l, g, a, b => by
  rw [List.map_cons, List.foldl_cons]
  show (l.map At.d).foldl DO (g, a, b ++ E1 c) = _
  rw [Dr l, ByteArray.append_assoc, Fs]
theorem Fb (s : ByteArray) : (⟨s.data.toList.toArray⟩ : ByteArray) = s := by apply ByteArray.ext; simp
theorem EB (g : List Ba) (a b : ByteArray) (j : Int) : AM (AM g a b j) ⟨#[]⟩ ⟨#[]⟩ 1 = AM g a b (j + 1) := by
 have c0 : (⟨#[]⟩ : ByteArray).size = 0 ∧ (⟨#[]⟩ : ByteArray).size = 0 := ⟨rfl, rfl⟩
 by_cases c : a.size = 0 ∧ b.size = 0
 rotate_left
 ·rw [Al c, Al c, Ah c0]
 rcases List.eq_nil_or_concat g with e | ⟨g0, s0, e⟩
 ·subst e
  rw [Ar c, Ar c]
  exact Ah c0 [] (a, b, j) 1
 rw [List.concat_eq_append] at e
 subst e
 rw [Ah c, Ah c, Ah c0]
 dsimp only
 rw [Int.add_assoc]
theorem DE : ∀ (n : Nat) (g : List Ba) (a b : ByteArray), (kA (n + 1)).foldl DO (g, a, b) = (AM g a b ((n + 1 : Nat) : Int), ⟨#[]⟩, ⟨#[]⟩)
 | 0, g, a, b => rfl
 | n + 1, g, a, b => by
  have e : kA (n + 1 + 1) = kA (n + 1) ++ [At.k] := by rw [DS (n + 1) 1]; rfl
  rw [e, List.foldl_append, DE n g a b]
  show (AM (AM g a b ((n + 1 : Nat) : Int)) ⟨#[]⟩ ⟨#[]⟩ 1, _, _) = _
  rw [EB]; rfl
theorem FK (s : GS) (p : IP) (hp : AI p) : (AJ p).foldl DO s = Ag s p := by
 obtain ⟨g, a, b⟩ := s
 obtain ⟨p0, p1, p2⟩ := p
 obtain ⟨q1, q2, q3, q4, q5, q6⟩ := hp
 dsimp only at q1 q2 q3 q4 q5 q6
 unfold AJ Ag
 dsimp only
 by_cases h0 : p0 = 0
 ·rw [if_pos h0, h0]
  show (pA p1 ++ dA p2).foldl DO (g, a, b) = _
  unfold pA dA
  rw [List.foldl_append, Em, Dr, Fb, Fb]
 obtain ⟨z1, z2⟩ := q5.resolve_left h0
 rw [if_neg h0, A1 z1, A2 z2, List.append_nil, List.append_nil]
 obtain ⟨n, hn⟩ : ∃ n : Nat, p0 = ((n + 1 : Nat) : Int) := ⟨p0.toNat - 1, by omega⟩
 subst hn
 rw [Int.toNat_natCast, DE]
theorem Eb : ∀ (l : List IP) (s : GS), (∀ p ∈ l, AI p) → (A9 l).foldl DO s = l.foldl Ag s
 | [], s, _ => rfl
 | p :: l, s, h => by
  rw [Af, List.foldl_append, FK s p (h p (List.mem_cons_self ..)), List.foldl_cons]
  exact Eb l _ (fun x hx => h x (List.mem_cons_of_mem _ hx))
abbrev CQ := List Pt × ByteArray × ByteArray
def Am (p : IP) : Nat := p.f0.toNat + p.f1.size + p.f2.size
def Bd (l : List IP) : Prop := ∀ p ∈ l, AI p ∧ 0 < Am p
theorem Bh {p : IP} {l : List IP} (h : Bd (p :: l)) : (AI p ∧ 0 < Am p) ∧ Bd l := ⟨h p (List.mem_cons_self ..), fun x hx => h x (List.mem_cons_of_mem _ hx)⟩
theorem BX {p : IP} {l : List IP} (h1 : AI p) (h2 : 0 < Am p) (h : Bd l) : Bd (p :: l) := fun x hx => (List.mem_cons.1 hx).elim (fun e => by rw [e]; exact ⟨h1, h2⟩) (h x)
structure CutIs (p : IP) (n : Nat) (a : IP) : Prop where
 one : AI a
 sz : Am a = n
 k : 0 < a.f0 ↔ 0 < p.f0
 put : a.f1.size = 0 ↔ p.f1.size = 0
 drop : a.f2.size = 0 ↔ p.f2.size = 0
theorem Cu (s : ByteArray) (n : Nat) (h : n ≤ s.size) : (s.extract 0 n).size = n ∧ (s.extract n s.size).size = s.size - n := by
 rw [ByteArray.size_extract, ByteArray.size_extract]; omega
theorem CH {p : IP} {n : Nat} (h : AI p) (h0 : 0 < n) (h1 : n < Am p) (hk : 0 < p.f0) : CutIs p n ⟨n, p.f1, p.f2⟩ ∧ (AI ⟨p.f0 - n, p.f1, p.f2⟩ ∧ Am ⟨p.f0 - n, p.f1, p.f2⟩ = Am p - n) ∧ AJ p = AJ ⟨n, p.f1, p.f2⟩ ++ AJ ⟨p.f0 - n, p.f1, p.f2⟩ := by
 obtain ⟨p0, p1, p2⟩ := p
 obtain ⟨q1, q2, q3, q4, q5, q6⟩ := h
 unfold Am at *
 dsimp only at *
 obtain ⟨z1, z2⟩ := q5.resolve_left (by omega)
 refine ⟨⟨⟨by dsimp only; omega, by dsimp only; omega, by dsimp only; omega, by dsimp only; omega, .inr ⟨z1, z2⟩, .inl z1⟩, by unfold Am; dsimp only; omega, by dsimp only; omega, Iff.rfl, Iff.rfl⟩, ⟨⟨by dsimp only; omega, by dsimp only; omega, by dsimp only; omega, by dsimp only; omega, .inr ⟨z1, z2⟩, .inl z1⟩, by omega⟩, ?_⟩
 unfold AJ
 dsimp only
 rw [A1 z1, A2 z2]
 simp only [List.append_nil]
 rw [← DS]
 congr 1; omega
theorem Dc {p : IP} {n : Nat} (h : AI p) (h0 : 0 < n) (h1 : n < Am p) (hk : ¬ 0 < p.f0) (hp : p.f1.size ≠ 0) : n ≤ p.f1.size ∧ CutIs p n ⟨p.f0, p.f1.extract 0 n, p.f2⟩ ∧ (AI ⟨p.f0, p.f1.extract n p.f1.size, p.f2⟩ ∧ Am ⟨p.f0, p.f1.extract n p.f1.size, p.f2⟩ = Am p - n) ∧ AJ p = AJ ⟨p.f0, p.f1.extract 0 n, p.f2⟩ ++ AJ ⟨p.f0, p.f1.extract n p.f1.size, p.f2⟩ := by
 obtain ⟨p0, p1, p2⟩ := p
 obtain ⟨q1, q2, q3, q4, q5, q6⟩ := h
 unfold Am at *
 dsimp only at *
 have z2 : p2.size = 0 := by omega
 have z0 : p0 = 0 := by omega
 have hn : n ≤ p1.size := by omega
 obtain ⟨e1, e2⟩ := Cu p1 n hn
 refine ⟨hn, ⟨⟨by dsimp only; omega, by dsimp only; omega, by dsimp only; omega, by dsimp only; omega, .inl z0, .inr z2⟩, by unfold Am; dsimp only; omega, by dsimp only; omega, by dsimp only; omega, Iff.rfl⟩, ⟨⟨by dsimp only; omega, by dsimp only; omega, by dsimp only; omega, by dsimp only; omega, .inl z0, .inr z2⟩, by omega⟩, ?_⟩
 unfold AJ
 dsimp only
 rw [z0, A2 z2, List.append_nil, List.append_nil, List.append_nil]
 exact Di At.p p1 n hn
theorem Cw {p : IP} {n : Nat} (h : AI p) (h0 : 0 < n) (h1 : n < Am p) (hk : ¬ 0 < p.f0) (hp : p.f1.size = 0) : n ≤ p.f2.size ∧ CutIs p n ⟨p.f0, p.f1, p.f2.extract 0 n⟩ ∧ (AI ⟨p.f0, p.f1, p.f2.extract n p.f2.size⟩ ∧ Am ⟨p.f0, p.f1, p.f2.extract n p.f2.size⟩ = Am p - n) ∧ AJ p = AJ ⟨p.f0, p.f1, p.f2.extract 0 n⟩ ++ AJ ⟨p.f0, p.f1, p.f2.extract n p.f2.size⟩ := by
 obtain ⟨p0, p1, p2⟩ := p
 obtain ⟨q1, q2, q3, q4, q5, q6⟩ := h
 unfold Am at *
 dsimp only at *
 have z0 : p0 = 0 := by omega
 have hn : n ≤ p2.size := by omega
 obtain ⟨e1, e2⟩ := Cu p2 n hn
 refine ⟨hn, ⟨⟨by dsimp only; omega, by dsimp only; omega, by dsimp only; omega, by dsimp only; omega, .inl z0, .inl hp⟩, by unfold Am; dsimp only; omega, by dsimp only; omega, Iff.rfl, by dsimp only; omega⟩, ⟨⟨by dsimp only; omega, by dsimp only; omega, by dsimp only; omega, by dsimp only; omega, .inl z0, .inl hp⟩, by omega⟩, ?_⟩
 unfold AJ
 dsimp only
 rw [z0, A1 hp]
 exact Di At.d p2 n hn
theorem Ci {p : IP} (h : AI p) : CutIs p (Am p) p := ⟨h, rfl, Iff.rfl, Iff.rfl, Iff.rfl⟩
theorem BB {a : IP} (h : AI a) (hk : 0 < a.f0) : a = ⟨Am a, ⟨#[]⟩, ⟨#[]⟩⟩ ∧ AJ a = kA (Am a) := by
 obtain ⟨p0, p1, p2⟩ := a
 obtain ⟨q1, q2, q3, q4, q5, q6⟩ := h
 unfold Am
 dsimp only at *
 obtain ⟨z1, z2⟩ := q5.resolve_left (by omega)
 refine ⟨?_, ?_⟩
 ·rw [Ak z1, Ak z2]
  congr 1
  show p0 = ((p0.toNat + 0 + 0 : Nat) : Int); omega
 unfold AJ
 dsimp only
 rw [A1 z1, A2 z2, z1, z2, List.append_nil, List.append_nil]; rfl
theorem D8 {a : IP} (h : AI a) (hk : ¬ 0 < a.f0) (hd : a.f2.size = 0) : AJ a = a.f1.data.toList.map At.p ∧ a.f1.data.toList.length = Am a := by
 obtain ⟨p0, p1, p2⟩ := a
 obtain ⟨q1, q2, q3, q4, q5, q6⟩ := h
 unfold Am AJ
 dsimp only at *
 have z : p0 = 0 := by omega
 rw [z, A2 hd, hd, List.append_nil]
 refine ⟨rfl, ?_⟩
 rw [Array.length_toList]; show p1.size = 0 + p1.size + 0; omega
theorem B0 {a : IP} (h : AI a) (hk : ¬ 0 < a.f0) (hd : a.f1.size = 0) : AJ a = a.f2.data.toList.map At.d ∧ a.f2.data.toList.length = Am a := by
 obtain ⟨p0, p1, p2⟩ := a
 obtain ⟨q1, q2, q3, q4, q5, q6⟩ := h
 unfold Am AJ
 dsimp only at *
 have z : p0 = 0 := by omega
 rw [z, A1 hd, hd]
 refine ⟨rfl, ?_⟩
 rw [Array.length_toList]; show p2.size = 0 + 0 + p2.size; omega
theorem CB {x y : List At} (h : Sim x y) : ∀ l : List At, Sim (l ++ x) (l ++ y)
 | [] => h
 | a :: l => Sim.cons a (CB h l)
theorem EE {x y : List At} (h : Sim x y) (l : List At) : Sim (x ++ l) (y ++ l) := by
 induction h with
 | refl _ => exact Sim.refl _
 | cons a _ ih => exact Sim.cons a ih
 | swap c d m => exact Sim.swap c d _
 | symm _ ih => exact ih.symm
 | trans _ _ i1 i2 => exact i1.trans i2
theorem DC (c : UInt8) (l : List At) : ∀ ds : List UInt8, Sim (ds.map At.d ++ At.p c :: l) (At.p c :: (ds.map At.d ++ l))
 | [] => Sim.refl _
 | d :: ds => (Sim.cons (.d d) (DC c l ds)).trans (Sim.swap c d _).symm
def DV (g : List Ba) : Prop := ∀ x ∈ g, 0 ≤ x.2.2
def D1 (g : List Ba) : List At := g.flatMap (fun x => pA x.1 ++ (dA x.2.1 ++ kA x.2.2.toNat))
def FD (s : GS) : List At := D1 s.1 ++ (pA s.2.1 ++ dA s.2.2)
theorem Dd (g h : List Ba) : D1 (g ++ h) = D1 g ++ D1 h := by unfold D1; rw [List.flatMap_append]
theorem Cj (x : Ba) : D1 [x] = pA x.1 ++ (dA x.2.1 ++ kA x.2.2.toNat) := by unfold D1; simp
theorem FU {g : List Ba} (h : DV g) (a b : ByteArray) : DV (AM g a b 1) := by
 by_cases c : a.size = 0 ∧ b.size = 0
 rotate_left
 ·rw [Al c]
  intro x hx
  rcases List.mem_append.1 hx with q | q
  ·exact h x q
  rw [List.mem_singleton.1 q]; show (0 : Int) ≤ 1; omega
 rcases List.eq_nil_or_concat g with e | ⟨g0, s0, e⟩
 ·subst e
  rw [Ar c]
  intro x hx; rw [List.mem_singleton.1 hx]; show (0 : Int) ≤ 1; omega
 rw [List.concat_eq_append] at e
 subst e
 rw [Ah c]
 intro x hx
 rcases List.mem_append.1 hx with q | q
 ·exact h x (List.mem_append_left _ q)
 rw [List.mem_singleton.1 q]
 have := h s0 (by simp)
 show 0 ≤ s0.2.2 + 1; omega
theorem EK {s : GS} (h : DV s.1) (a : At) : DV (DO s a).1 := by
 cases a with
 | k => exact FU h _ _
 | p c => exact h
 | d c => exact h
theorem Gq (c : UInt8) : pA (E1 c) = [At.p c] := rfl
theorem Gw (c : UInt8) : dA (E1 c) = [At.d c] := rfl
theorem Gb {g : List Ba} (h : DV g) (a b : ByteArray) : D1 (AM g a b 1) = D1 g ++ (pA a ++ (dA b ++ [At.k])) := by
 by_cases c : a.size = 0 ∧ b.size = 0
 rotate_left
 ·rw [Al c, Dd, Cj]; rfl
 rcases List.eq_nil_or_concat g with e | ⟨g0, s0, e⟩
 ·subst e
  rw [Ar c, Cj]; rfl
 rw [List.concat_eq_append] at e
 subst e
 have hs := h s0 (by simp)
 have e2 : kA (s0.2.2 + 1).toNat = kA s0.2.2.toNat ++ [At.k] := by
  rw [show (s0.2.2 + 1).toNat = s0.2.2.toNat + 1 by omega, DS]; rfl
 rw [Ah c, Dd, Dd, Cj, Cj, A1 c.1, A2 c.2]
 dsimp only
 rw [e2]
 simp only [List.append_assoc, List.nil_append]
theorem FS (s : GS) (h : DV s.1) (a : At) : Sim (FD s ++ [a]) (FD (DO s a)) := by
 obtain ⟨g, u, v⟩ := s
 cases a with
 | k =>
  have e : FD (DO (g, u, v) .k) = FD (g, u, v) ++ [At.k] := by
   show D1 (AM g u v 1) ++ (pA ⟨#[]⟩ ++ dA ⟨#[]⟩) = D1 g ++ (pA u ++ dA v) ++ [At.k]
   rw [Gb h, A1 (s := ⟨#[]⟩) rfl, A2 (s := ⟨#[]⟩) rfl]; simp only [List.append_assoc, List.append_nil]
  rw [e]; exact Sim.refl _
 | p c =>
  show Sim (D1 g ++ (pA u ++ dA v) ++ [At.p c]) (D1 g ++ (pA (u ++ E1 c) ++ dA v))
  rw [Gn, Gq]
  simp only [List.append_assoc]
  refine CB (CB ?_ _) _
  have := DC c [] v.data.toList
  rw [List.append_nil] at this
  exact this
 | d c =>
  show Sim (D1 g ++ (pA u ++ dA v) ++ [At.d c]) (D1 g ++ (pA u ++ dA (v ++ E1 c)))
  rw [Gd, Gw]
  simp only [List.append_assoc]
  exact Sim.refl _
theorem Ea : ∀ (z : List At) (s : GS), DV s.1 → Sim (FD s ++ z) (FD (z.foldl DO s))
 | [], s, _ => by rw [List.append_nil]; exact Sim.refl _
 | a :: z, s, h => by
  have e : FD s ++ a :: z = (FD s ++ [a]) ++ z := by simp
  rw [e, List.foldl_cons]
  exact (EE (FS s h a) z).trans (Ea z _ (EK h a))
def CI (z : List At) : GS := z.foldl DO ([], ⟨#[]⟩, ⟨#[]⟩)
theorem Ej (z : List At) : Sim z (FD (CI z)) := by
 have := Ea z ([], ⟨#[]⟩, ⟨#[]⟩) (fun x hx => by cases hx)
 exact this
theorem FN {z w : List At} : Sim z w ↔ CI z = CI w :=
 ⟨fun h => Dv h _, fun h => (Ej z).trans (by rw [h]; exact (Ej w).symm)⟩
theorem BQ (l : List IP) (h : ∀ p ∈ l, AI p) : CI (A9 l) = AK l := Eb l _ h
def DM (z : List At) : List IP := (As (CI z).1 ++ endL (CI z).2.1 (CI z).2.2).map ofP
theorem Bi (l : List IP) (hl : l.length ≤ 1000) (h : ∀ p ∈ l, AI p) : Ad l = DM (A9 l) := by
 rw [(Cc l hl h).1]; unfold DM; rw [BQ l h]
def A7 (n : Nat) (L : List Pt) : Prop := ∀ q ∈ L, q.2.1.size ≤ 300 * n ∧ q.2.2.size ≤ 300 * n
theorem A7.app {n : Nat} {A B : List Pt} (ha : A7 n A) (hb : A7 n B) : A7 n (A ++ B) := fun q h => (List.mem_append.1 h).elim (ha q) (hb q)
theorem Cv {n : Nat} {a b : ByteArray} (ha : a.size ≤ 300 * n) (hb : b.size ≤ 300 * n) : A7 n (endL a b) := by
 intro q hq
 unfold endL at hq
 rcases List.mem_append.1 hq with h | h
 ·split at h
  ·cases h
  rw [List.mem_singleton.1 h]; exact ⟨ha, Nat.zero_le _⟩
 split at h
 ·cases h
 rw [List.mem_singleton.1 h]; exact ⟨Nat.zero_le _, hb⟩
theorem DJ {n : Nat} {L : List Pt} (h : A7 n L) (x : Int) : A7 n (keepA L x) := by
 unfold keepA
 split
 rotate_left
 ·intro q hq; rw [List.mem_singleton.1 hq]; exact ⟨Nat.zero_le _, Nat.zero_le _⟩
 rename_i p hp
 have hm := List.mem_of_getLast? hp
 split
 rotate_left
 ·exact A7.app h (fun q hq => by rw [List.mem_singleton.1 hq]; exact ⟨Nat.zero_le _, Nat.zero_le _⟩)
 exact A7.app (fun q hq => h q (List.dropLast_subset _ hq)) (fun q hq => by rw [List.mem_singleton.1 hq]; exact h p hm)
theorem DP {n : Nat} {s : List Pt × ByteArray × ByteArray} (p : Pt) (h : A7 n s.1) (ha : s.2.1.size ≤ 300 * n) (hb : s.2.2.size ≤ 300 * n) : A7 n (takeP s p).1 := by
 unfold takeP keepS
 simp only
 split
 ·exact h
 exact DJ (A7.app h (Cv ha hb)) _
theorem CU (l : List IP) (hs : ∀ x ∈ l, x.f1.size ≤ 300 ∧ x.f2.size ≤ 300) : ∀ i, i ≤ l.length → A7 i (stN l i).1
 | 0, _ => fun q h => by cases h
 | i + 1, h => by
  have ih := CU l hs i (by omega)
  obtain ⟨_, h2, h3⟩ := stN_bound l hs i (by omega)
  rw [stN_succ l i (by omega)]
  intro q hq
  have := DP (toP (l[i]'(by omega))) ih h2 h3 q hq
  omega
theorem AT (l : List IP) (hl : l.length ≤ 1000) (hp : ∀ p ∈ l, AI p) : (∀ x ∈ Ad l, x.f1.size ≤ 1048576 ∧ x.f2.size ≤ 1048576) ∧ (Ad l).length ≤ 3 * l.length + 2 := by
 have hs : ∀ x ∈ l, x.f1.size ≤ 300 ∧ x.f2.size ≤ 300 := fun x hx => ⟨(hp x hx).2.2.1, (hp x hx).2.2.2.1⟩
 obtain ⟨b0, b2, b3⟩ := stN_bound l hs l.length (Nat.le_refl _)
 have b1 := CU l hs l.length (Nat.le_refl _)
 have e : stN l l.length = (l.map toP).foldl takeP ([], ⟨#[]⟩, ⟨#[]⟩) := by unfold stN; rw [List.take_of_length_le (Nat.le_refl _)]
 rw [e] at b0 b1 b2 b3
 refine ⟨fun x hx => ?_, ?_⟩
 ·unfold Ad normP at hx
  obtain ⟨q, hq, rfl⟩ := List.mem_map.1 hx
  have := A7.app b1 (Cv b2 b3) q hq
  exact ⟨by show q.2.1.size ≤ _; omega, by show q.2.2.size ≤ _; omega⟩
 have := DI ((l.map toP).foldl takeP ([], ⟨#[]⟩, ⟨#[]⟩)).2.1 ((l.map toP).foldl takeP ([], ⟨#[]⟩, ⟨#[]⟩)).2.2
 unfold Ad normP
 rw [List.length_map, List.length_append]; omega
theorem DG (l : List IP) (hp : ∀ p ∈ l, AI p) : ((l.map toP).foldl takeP ([], ⟨#[]⟩, ⟨#[]⟩)).1.length ≤ 3 * l.length := by
 have hs : ∀ x ∈ l, x.f1.size ≤ 300 ∧ x.f2.size ≤ 300 := fun x hx => ⟨(hp x hx).2.2.1, (hp x hx).2.2.2.1⟩
 obtain ⟨b0, _, _⟩ := stN_bound l hs l.length (Nat.le_refl _)
 have e : stN l l.length = (l.map toP).foldl takeP ([], ⟨#[]⟩, ⟨#[]⟩) := by unfold stN; rw [List.take_of_length_le (Nat.le_refl _)]
 rw [e] at b0; exact b0
theorem Dw {l : List IP} (h : Ac l = true) : Bd l := by
 obtain ⟨_, hp, _, _⟩ := Ab h
 intro p hm
 refine ⟨AF (hp p hm), ?_⟩
 have hb := hp p hm
 unfold Ae at hb
 unfold Am
 by_cases c0 : p.f0 = 0
 rotate_left
 ·have := (AF (hp p hm)).1; omega
 rw [if_pos c0] at hb
 by_cases c1 : p.f1.toList = ([] : List UInt8)
 rotate_left
 ·rw [Aa] at c1; omega
 rw [if_pos c1] at hb
 by_cases c2 : p.f2.toList = ([] : List UInt8)
 rotate_left
 ·rw [Aa] at c2; omega
 rw [if_pos c2] at hb; cases hb
theorem BH : ∀ a b : List At, CJ (a ++ b) = CJ a + CJ b
 | [], b => by simp [CJ]
 | .k :: a, b => by rw [List.cons_append]; simp only [CJ]; rw [BH a b]; omega
 | .p c :: a, b => by rw [List.cons_append]; simp only [CJ]; rw [BH a b]; omega
 | .d c :: a, b => by rw [List.cons_append]; simp only [CJ]; rw [BH a b]
theorem AA : ∀ a b : List At, BO (a ++ b) = BO a + BO b
 | [], b => by simp [BO]
 | .k :: a, b => by rw [List.cons_append]; simp only [BO]; rw [AA a b]; omega
 | .p c :: a, b => by rw [List.cons_append]; simp only [BO]; rw [AA a b]
 | .d c :: a, b => by rw [List.cons_append]; simp only [BO]; rw [AA a b]; omega
theorem FZ : ∀ n, CJ (kA n) = n
 | 0 => rfl
 | n + 1 => by show CJ (kA n) + 1 = _; rw [FZ n]
theorem F0 : ∀ n, BO (kA n) = n
 | 0 => rfl
 | n + 1 => by show BO (kA n) + 1 = _; rw [F0 n]
theorem Fd : ∀ l : List UInt8, CJ (l.map At.p) = l.length
 | [] => rfl
 | c :: l => by show CJ (l.map At.p) + 1 = _; rw [Fd l]; rfl
theorem Fq : ∀ l : List UInt8, CJ (l.map At.d) = 0
 | [] => rfl
 | c :: l => Fq l
theorem EO : ∀ l : List UInt8, BO (l.map At.p) = 0
 | [] => rfl
 | c :: l => EO l
theorem Fj : ∀ l : List UInt8, BO (l.map At.d) = l.length
 | [] => rfl
 | c :: l => by show BO (l.map At.d) + 1 = _; rw [Fj l]; rfl
theorem ER (p : IP) : CJ (AJ p) = p.f0.toNat + p.f1.size := by
 unfold AJ pA dA
 rw [BH, BH, FZ, Fd, Fq, Array.length_toList]; rfl
theorem A3 (p : IP) : BO (AJ p) = p.f0.toNat + p.f2.size := by
 unfold AJ pA dA
 rw [AA, AA, F0, EO, Fj, Array.length_toList]; show _ + (0 + p.f2.size) = _; omega
theorem Do : ∀ l : List IP, CJ (A9 l) = Ao (l.map Dg)
 | [] => rfl
 | p :: l => by rw [Af, BH, ER, List.map_cons, AV, Do l]; rfl
theorem BS : ∀ l : List IP, BO (A9 l) = Ao l
 | [] => rfl
 | p :: l => by rw [Af, AA, A3, AV, BS l]; rfl
def Aw : List At → List At → Option (List At × List At)
 | .p c :: x, y => (Aw x y).map (fun r => (At.p c :: r.1, At.k :: r.2))
 | x, .p c :: y => (Aw x y).map (fun r => (At.k :: r.1, At.p c :: r.2))
 | [], [] => some ([], [])
 | .k :: x, .k :: y => (Aw x y).map (fun r => (At.k :: r.1, At.k :: r.2))
 | .k :: x, .d c :: y => (Aw x y).map (fun r => (r.1, At.d c :: r.2))
 | .d c :: x, .k :: y => (Aw x y).map (fun r => (At.d c :: r.1, r.2))
 | .d _ :: x, .d _ :: y => Aw x y
 | _, _ => none
termination_by x y => x.length + y.length
theorem Gx (c : UInt8) (x y : List At) : Aw (.p c :: x) y = (Aw x y).map (fun r => (At.p c :: r.1, At.k :: r.2)) := by
 cases y with
 | nil => rw [Aw]
 | cons b y => cases b <;> rw [Aw]
theorem F2 (c : UInt8) (y : List At) : Aw [] (.p c :: y) = (Aw [] y).map (fun r => (At.k :: r.1, At.p c :: r.2)) := by rw [Aw]; intro _ _ h; cases h
theorem FY (c : UInt8) (x y : List At) : Aw (.k :: x) (.p c :: y) = (Aw (.k :: x) y).map (fun r => (At.k :: r.1, At.p c :: r.2)) := by rw [Aw]; intro _ _ h; cases h
theorem FW (c e : UInt8) (x y : List At) : Aw (.d e :: x) (.p c :: y) = (Aw (.d e :: x) y).map (fun r => (At.k :: r.1, At.p c :: r.2)) := by rw [Aw]; intro _ _ h; cases h
theorem F4 : Aw [] [] = some ([], []) := by rw [Aw]
theorem F1 (x y : List At) : Aw (.k :: x) (.k :: y) = (Aw x y).map (fun r => (At.k :: r.1, At.k :: r.2)) := by rw [Aw]
theorem FX (c : UInt8) (x y : List At) : Aw (.k :: x) (.d c :: y) = (Aw x y).map (fun r => (r.1, At.d c :: r.2)) := by rw [Aw]
theorem F3 (c : UInt8) (x y : List At) : Aw (.d c :: x) (.k :: y) = (Aw x y).map (fun r => (At.d c :: r.1, r.2)) := by rw [Aw]
theorem F6 (c e : UInt8) (x y : List At) : Aw (.d c :: x) (.d e :: y) = Aw x y := by rw [Aw]
def B4 (a b : List At) (o : Option (List At × List At)) : Option (List At × List At) := o.map (fun r => (a ++ r.1, b ++ r.2))
theorem AY (o : Option (List At × List At)) : B4 [] [] o = o := by cases o <;> rfl
theorem CA (a b : At) (c d : List At) (o : Option (List At × List At)) : (B4 c d o).map (fun r => (a :: r.1, b :: r.2)) = B4 (a :: c) (b :: d) o := by cases o <;> rfl
def Gz : List At → Prop
 | .p _ :: _ => False
 | _ => True
theorem GB {x : List At} (h : Gz x) (c : UInt8) (y : List At) : Aw x (.p c :: y) = (Aw x y).map (fun r => (At.k :: r.1, At.p c :: r.2)) := by
 cases x with
 | nil => exact F2 c y
 | cons a x =>
  cases a with
  | k => exact FY c x y
  | p e => exact h.elim
  | d e => exact FW c e x y
theorem F5 : ∀ (l : List UInt8) (x y : List At), Aw (l.map At.p ++ x) y = B4 (l.map At.p) (kA l.length) (Aw x y)
 | [], x, y => (AY _).symm
 | c :: l, x, y => by rw [List.map_cons, List.cons_append, Gx, F5 l x y, CA]; rfl
theorem FV {x : List At} (h : Gz x) : ∀ (l : List UInt8) (y : List At), Aw x (l.map At.p ++ y) = B4 (kA l.length) (l.map At.p) (Aw x y)
 | [], y => (AY _).symm
 | c :: l, y => by rw [List.map_cons, List.cons_append, GB h, FV h l y, CA]; rfl
theorem Fn : ∀ (n : Nat) (x y : List At), Aw (kA n ++ x) (kA n ++ y) = B4 (kA n) (kA n) (Aw x y)
 | 0, x, y => (AY _).symm
 | n + 1, x, y => by
  have e : kA (n + 1) = At.k :: kA n := rfl
  rw [e, List.cons_append, List.cons_append, F1, Fn n x y, CA]
theorem Fh : ∀ (l : List UInt8) (x y : List At), Aw (kA l.length ++ x) (l.map At.d ++ y) = B4 [] (l.map At.d) (Aw x y)
 | [], x, y => (AY _).symm
 | c :: l, x, y => by
  have e : kA (c :: l).length = At.k :: kA l.length := rfl
  rw [e, List.map_cons, List.cons_append, List.cons_append, FX, Fh l x y]
  cases Aw x y <;> rfl
theorem E6 : ∀ (l : List UInt8) (x y : List At), Aw (l.map At.d ++ x) (kA l.length ++ y) = B4 (l.map At.d) [] (Aw x y)
 | [], x, y => (AY _).symm
 | c :: l, x, y => by
  have e : kA (c :: l).length = At.k :: kA l.length := rfl
  rw [e, List.map_cons, List.cons_append, List.cons_append, F3, E6 l x y]
  cases Aw x y <;> rfl
theorem Ff : ∀ (l m : List UInt8) (x y : List At), l.length = m.length → Aw (l.map At.d ++ x) (m.map At.d ++ y) = Aw x y
 | [], [], x, y, _ => rfl
 | c :: l, e :: m, x, y, h => by
  rw [List.map_cons, List.map_cons, List.cons_append, List.cons_append, F6]
  exact Ff l m x y (by simpa using h)
theorem Fx (a b : IP) (x y : List At) (ha : AI a) (hb : AI b) (hs : Am a = Am b) (h1 : a.f1.size = 0) (h2 : b.f1.size = 0) :
  Aw (AJ a ++ x) (AJ b ++ y) = B4 (if 0 < b.f0 then AJ a else []) (if 0 < a.f0 then AJ b else []) (Aw x y) := by
 by_cases ka : 0 < a.f0
 ·rw [if_pos ka, (BB ha ka).2]
  by_cases kb : 0 < b.f0
  ·rw [if_pos kb, (BB hb kb).2, hs]; exact Fn _ x y
  obtain ⟨e1, e2⟩ := B0 hb kb h2
  rw [if_neg kb, e1, hs, ← e2]; exact Fh _ x y
 obtain ⟨f1, f2⟩ := B0 ha ka h1
 rw [if_neg ka, f1]
 by_cases kb : 0 < b.f0
 ·rw [if_pos kb, (BB hb kb).2, ← hs, ← f2]; exact E6 _ x y
 obtain ⟨e1, e2⟩ := B0 hb kb h2
 rw [if_neg kb, e1, AY]; exact Ff _ _ x y (by omega)
def BD (n : Nat) : IP := ⟨n, ⟨#[]⟩, ⟨#[]⟩⟩
theorem Be {n : Nat} (h : n ≤ 300) : AI (BD n) := ⟨by show (0 : Int) ≤ n; omega, by show (n : Int) ≤ 300; omega, Nat.zero_le _, Nat.zero_le _, .inr ⟨rfl, rfl⟩, .inl rfl⟩
theorem DK (n : Nat) : AJ (BD n) = kA n := by
 unfold AJ BD
 dsimp only
 rw [Int.toNat_natCast, A1 rfl, A2 (s := ⟨#[]⟩) rfl, List.append_nil, List.append_nil]
theorem El (p : IP) (x y : List At) (h : AI p) (hd : p.f1.size ≠ 0) : Aw (AJ p ++ x) y = B4 (AJ p) (AJ (BD p.f1.size)) (Aw x y) := by
 have hk : ¬ 0 < p.f0 := fun z => by have := h.2.2.2.2.1; omega
 have h1 : p.f2.size = 0 := by have := h.2.2.2.2.2; omega
 obtain ⟨e1, e2⟩ := D8 h hk h1
 rw [DK, e1, F5, Array.length_toList]; rfl
theorem Ek (q : IP) (x y : List At) (h : AI q) (hd : q.f1.size ≠ 0) (hn : Gz x) : Aw x (AJ q ++ y) = B4 (AJ (BD q.f1.size)) (AJ q) (Aw x y) := by
 have hk : ¬ 0 < q.f0 := fun z => by have := h.2.2.2.2.1; omega
 have h1 : q.f2.size = 0 := by have := h.2.2.2.2.2; omega
 obtain ⟨e1, e2⟩ := D8 h hk h1
 rw [DK, e1, FV hn, Array.length_toList]; rfl
theorem Fa (p : IP) (x : List IP) (h : AI p) (hz : 0 < Am p) (hd : p.f1.size = 0) : Gz (A9 (p :: x)) := by
 rw [Af]
 by_cases hk : 0 < p.f0
 ·rw [(BB h hk).2]
  obtain ⟨m, hm⟩ : ∃ m, Am p = m + 1 := ⟨Am p - 1, by omega⟩
  rw [hm]; exact True.intro
 obtain ⟨e1, e2⟩ := B0 h hk hd
 rw [e1]
 cases hl : p.f2.data.toList with
 | nil => rw [hl] at e2; simp at e2; omega
 | cons c l => exact True.intro
theorem DR (s : CQ) (n : Nat) : takeP s (toP (BD n)) = Go.Proofs.Ytoagljlnfakgjaa.Mk.keepS s.1 s.2.1 s.2.2 (n : Int) := by
 unfold takeP toP BD
 dsimp only
 rw [AR, AR]
theorem Fit.more {n : Nat} {s : CQ} (h : Fit n s) : Fit (n + 1) s :=
 ⟨h.last.imp id (fun ⟨u, v, w, z⟩ => ⟨u, v, w, z.1, by omega⟩), by have := h.len; omega, by have := h.put; omega, by have := h.drop; omega⟩
theorem BF {p : IP} (h : AI p) : szQ p = (Am p : Int) := by
 obtain ⟨q1, q2, q3, q4, _, _⟩ := h
 unfold szQ Am
 rw [wrap_id (x := p.f0 + (p.f1.size : Int)) (by omega) (by omega), wrap_id (by omega) (by omega)]; omega
theorem CT (p : IP) (r : List IP) (n : Nat) (h : AI p) (hr : Bd r) (h0 : 0 < n) (h1 : n ≤ Am p) :
  ∃ a l', takQ (p :: r) (n : Int) = some (a, l') ∧ CutIs p n a ∧ Bd l' ∧ A9 (p :: r) = AJ a ++ A9 l' ∧ (n = Am p → l' = r) ∧ l'.length ≤ r.length + 1 := by
 by_cases hn : n = Am p
 ·subst hn
  refine ⟨p, r, ?_, Ci h, hr, Af p r, fun _ => rfl, by omega⟩
  unfold takQ
  dsimp only
  rw [if_pos (BF h).symm]
 have hlt : n < Am p := by omega
 have hne : ¬ (n : Int) = szQ p := by rw [BF h]; omega
 have hp2 := Am
 by_cases hk : 0 < p.f0
 ·obtain ⟨c1, ⟨c2, c3⟩, c4⟩ := CH h h0 hlt hk
  refine ⟨⟨n, p.f1, p.f2⟩, ⟨p.f0 - n, p.f1, p.f2⟩ :: r, ?_, c1, BX c2 (by omega) hr, by rw [Af, Af, c4, List.append_assoc], fun q => absurd q hn, by rw [List.length_cons]; omega⟩
  unfold takQ
  dsimp only
  have w : wrap64 (p.f0 - n) = p.f0 - n := by
   have := h.1; have := h.2.1
   have hb : Am p ≤ 1000 := by obtain ⟨_, _, q3, q4, _, _⟩ := h; unfold Am; omega
   exact wrap_id (by omega) (by omega)
  rw [if_neg hne, if_pos hk, w]
 by_cases hp : p.f1.size = 0
 ·obtain ⟨hn2, c1, ⟨c2, c3⟩, c4⟩ := Cw h h0 hlt hk hp
  refine ⟨⟨p.f0, p.f1, p.f2.extract 0 n⟩, ⟨p.f0, p.f1, p.f2.extract n p.f2.size⟩ :: r, ?_, c1, BX c2 (by omega) hr, by rw [Af, Af, c4, List.append_assoc], fun q => absurd q hn, by rw [List.length_cons]; omega⟩
  unfold takQ
  dsimp only
  rw [if_neg hne, if_neg hk, if_pos ((Aa _).2 hp), if_pos (by omega), Int.toNat_natCast]
 obtain ⟨hn2, c1, ⟨c2, c3⟩, c4⟩ := Dc h h0 hlt hk hp
 refine ⟨⟨p.f0, p.f1.extract 0 n, p.f2⟩, ⟨p.f0, p.f1.extract n p.f1.size, p.f2⟩ :: r, ?_, c1, BX c2 (by omega) hr, by rw [Af, Af, c4, List.append_assoc], fun q => absurd q hn, by rw [List.length_cons]; omega⟩
 unfold takQ
 dsimp only
 rw [if_neg hne, if_neg hk, if_neg (fun e => hp ((Aa _).1 e)), if_pos (by omega), Int.toNat_natCast]
theorem Ed {p : IP} (h : AI p) : szI p = (Am p : Int) := by
 obtain ⟨q1, q2, q3, q4, _, _⟩ := h
 unfold szI Am
 rw [wrap_id (x := p.f0 + (p.f1.size : Int)) (by omega) (by omega), wrap_id (by omega) (by omega)]; omega
theorem Ce (p : IP) (h : AI p) : zeroP p = true ↔ Am p = 0 := by
 obtain ⟨q1, _, _, _, _, _⟩ := h
 unfold zeroP Am
 rw [Bool.and_eq_true, Bool.and_eq_true, beq_iff_eq, beq_iff_eq, beq_iff_eq, Aa, Aa]
 omega
theorem Er (p : IP) (r : List IP) (n : Nat) (h : AI p) (hr : Bd r) (h0 : 0 < n) (h1 : n ≤ Am p) :
  ∃ a y, cutP p (n : Int) = some (a, y) ∧ CutIs p n a ∧ Bd (restP y r) ∧ A9 (p :: r) = AJ a ++ A9 (restP y r) ∧ (n = Am p → restP y r = r) ∧ (restP y r).length ≤ r.length + 1 ∧ (n = Am p → a = p) := by
 have key : ∀ (a y : IP), cutP p (n : Int) = some (a, y) → CutIs p n a → AI y → Am y = Am p - n → AJ p = AJ a ++ AJ y → (n = Am p → a = p) → ∃ a y, cutP p (n : Int) = some (a, y) ∧ CutIs p n a ∧ Bd (restP y r) ∧ A9 (p :: r) = AJ a ++ A9 (restP y r) ∧ (n = Am p → restP y r = r) ∧ (restP y r).length ≤ r.length + 1 ∧ (n = Am p → a = p) := by
  intro a y e1 e2 e3 e4 e5 e6
  refine ⟨a, y, e1, e2, ?_⟩
  unfold restP
  by_cases z : zeroP y = true
  ·rw [if_pos z]
   have hz := (Ce y e3).1 z
   have hy : AJ y = [] := by
    unfold AJ; unfold Am at hz
    rw [show y.f0.toNat = 0 by omega, A1 (by omega), A2 (by omega)]; rfl
   exact ⟨hr, by rw [Af, e5, hy, List.append_nil], fun _ => rfl, by omega, e6⟩
  ·rw [if_neg z]
   have hz : Am y ≠ 0 := fun q => z ((Ce y e3).2 q)
   exact ⟨BX e3 (by omega) hr, by rw [Af, Af, e5, List.append_assoc], fun q => by omega, by rw [List.length_cons]; omega, e6⟩
 have hb : Am p ≤ 1000 := by obtain ⟨_, _, q3, q4, _, _⟩ := h; unfold Am; omega
 have hb0 := h.1
 have hb1 := h.2.1
 by_cases hn : n = Am p
 rotate_left
 ·have hlt : n < Am p := by omega
  by_cases hk : 0 < p.f0
  ·obtain ⟨c1, ⟨c2, c3⟩, c4⟩ := CH h h0 hlt hk
   refine key _ _ ?_ c1 c2 c3 c4 (fun q => absurd q hn)
   unfold cutP
   rw [if_pos hk, wrap_id (by omega) (by omega)]
  by_cases hp : p.f1.size = 0
  ·obtain ⟨hn2, c1, ⟨c2, c3⟩, c4⟩ := Cw h h0 hlt hk hp
   refine key _ _ ?_ c1 c2 c3 c4 (fun q => absurd q hn)
   unfold cutP
   rw [if_neg hk, if_pos ((Aa _).2 hp), if_pos (by omega), Int.toNat_natCast]
  obtain ⟨hn2, c1, ⟨c2, c3⟩, c4⟩ := Dc h h0 hlt hk hp
  refine key _ _ ?_ c1 c2 c3 c4 (fun q => absurd q hn)
  unfold cutP
  rw [if_neg hk, if_neg (fun e => hp ((Aa _).1 e)), if_pos (by omega), Int.toNat_natCast]
 by_cases hk : 0 < p.f0
 ·obtain ⟨k1, k2⟩ := BB h hk
  have hf : p.f0 = (n : Int) := by rw [hn]; exact congrArg S60.f0 k1
  have hf1 : p.f1 = (⟨#[]⟩ : ByteArray) := congrArg S60.f1 k1
  have hf2 : p.f2 = (⟨#[]⟩ : ByteArray) := congrArg S60.f2 k1
  refine key p ⟨0, p.f1, p.f2⟩ ?_ (hn ▸ Ci h) ⟨Int.le_refl 0, by show (0 : Int) ≤ 300; omega, h.2.2.1, h.2.2.2.1, .inl rfl, h.2.2.2.2.2⟩ ?_ ?_ (fun _ => rfl)
  ·unfold cutP
   rw [if_pos hk, show p.f0 - (n : Int) = 0 by omega, wrap_id (by decide) (by decide)]
   congr 2
   rw [← hf]
  ·have e1 : p.f1.size = 0 := by rw [hf1]; rfl
   have e2 : p.f2.size = 0 := by rw [hf2]; rfl
   unfold Am at hn ⊢; dsimp only; omega
  have : AJ ⟨0, p.f1, p.f2⟩ = [] := by unfold AJ; rw [hf1, hf2]; rfl
  rw [this, List.append_nil]
 by_cases hp : p.f1.size = 0
 ·have hz2 : p.f2.size = n := by unfold Am at hn; omega
  have ex : p.f2.extract 0 n = p.f2 := by rw [← hz2]; exact ByteArray.extract_zero_size
  have ey : (p.f2.extract n p.f2.size).size = 0 := by rw [ByteArray.size_extract]; omega
  refine key p ⟨p.f0, p.f1, p.f2.extract n p.f2.size⟩ ?_ (hn ▸ Ci h) ⟨h.1, h.2.1, h.2.2.1, by dsimp only; omega, .inl (by dsimp only; omega), .inl hp⟩ ?_ ?_ (fun _ => rfl)
  ·unfold cutP
   rw [if_neg hk, if_pos ((Aa _).2 hp), if_pos (by omega), Int.toNat_natCast, ex]
  ·unfold Am at hn ⊢; dsimp only; omega
  have : AJ ⟨p.f0, p.f1, p.f2.extract n p.f2.size⟩ = [] := by
   unfold AJ; dsimp only
   rw [show p.f0.toNat = 0 by omega, A1 hp, A2 ey]; rfl
  rw [this, List.append_nil]
 have hz0 : p.f2.size = 0 := h.2.2.2.2.2.resolve_left hp
 have hz2 : p.f1.size = n := by unfold Am at hn; omega
 have ex : p.f1.extract 0 n = p.f1 := by rw [← hz2]; exact ByteArray.extract_zero_size
 have ey : (p.f1.extract n p.f1.size).size = 0 := by rw [ByteArray.size_extract]; omega
 refine key p ⟨p.f0, p.f1.extract n p.f1.size, p.f2⟩ ?_ (hn ▸ Ci h) ⟨h.1, h.2.1, by dsimp only; omega, h.2.2.2.1, .inl (by dsimp only; omega), .inr hz0⟩ ?_ ?_ (fun _ => rfl)
 ·unfold cutP
  rw [if_neg hk, if_neg (fun e => hp ((Aa _).1 e)), if_pos (by omega), Int.toNat_natCast, ex]
 ·unfold Am at hn ⊢; dsimp only; omega
 have : AJ ⟨p.f0, p.f1.extract n p.f1.size, p.f2⟩ = [] := by
  unfold AJ; dsimp only
  rw [show p.f0.toNat = 0 by omega, A1 ey, A2 hz0]; rfl
 rw [this, List.append_nil]
theorem AP {n : Nat} {s : CQ} {p : IP} (hf : Fit n s) (hn : n ≤ 250) (hp : AI p) : tkG s p = some (takeP s (toP p)) := by
 unfold tkG
 obtain ⟨_, _, q3, q4, _, _⟩ := hp
 have := hf.len
 have := hf.put
 have := hf.drop
 rw [if_pos (by omega)]
def C2 (o : Option (List At × List At)) (m : Nat) (s u : CQ) (g : Option (CQ × CQ)) (f : Nat → Option (List IP × List IP)) : Prop :=
 ∃ E O : List IP, o = some (A9 E, A9 O) ∧ ((∀ p ∈ E, AI p) ∧ (∀ p ∈ O, AI p)) ∧ (E.length < m ∧ O.length < m) ∧ g = some ((E.map toP).foldl takeP s, (O.map toP).foldl takeP u) ∧ Ev f (Az ((E.map toP).foldl takeP s), Az ((O.map toP).foldl takeP u))
theorem B3 {o o' : Option (List At × List At)} {m : Nat} {s u : CQ} {a b : IP} {g g' : Option (CQ × CQ)} {f f' : Nat → Option (List IP × List IP)} (h : C2 o m (takeP s (toP a)) (takeP u (toP b)) g f) (ha : AI a) (hb : AI b) (ho : o' = B4 (AJ a) (AJ b) o) (hg : g' = g) (hf : ∀ r, Ev f r → Ev f' r) : C2 o' (m + 1) s u g' f' := by
 subst ho hg
 obtain ⟨E, O, h1, ⟨h2, h3⟩, ⟨h4, h5⟩, h6, h7⟩ := h
 refine ⟨a :: E, b :: O, by rw [h1]; rfl, ⟨fun p hp => (List.mem_cons.1 hp).elim (fun q => by rw [q]; exact ha) (h2 p), fun p hp => (List.mem_cons.1 hp).elim (fun q => by rw [q]; exact hb) (h3 p)⟩, ⟨by rw [List.length_cons]; omega, by rw [List.length_cons]; omega⟩, ?_, ?_⟩
 ·rw [List.map_cons, List.foldl_cons, List.map_cons, List.foldl_cons]; exact h6
 rw [List.map_cons, List.foldl_cons, List.map_cons, List.foldl_cons]; exact hf _ h7
theorem F7 {o o' : Option (List At × List At)} {m : Nat} {s u : CQ} {a : IP} {g g' : Option (CQ × CQ)} {f f' : Nat → Option (List IP × List IP)} (h : C2 o m (takeP s (toP a)) u g f) (ha : AI a) (ho : o' = B4 (AJ a) [] o) (hg : g' = g) (hf : ∀ r, Ev f r → Ev f' r) : C2 o' (m + 1) s u g' f' := by
 subst ho hg
 obtain ⟨E, O, h1, ⟨h2, h3⟩, ⟨h4, h5⟩, h6, h7⟩ := h
 refine ⟨a :: E, O, by rw [h1]; rfl, ⟨fun p hp => (List.mem_cons.1 hp).elim (fun q => by rw [q]; exact ha) (h2 p), h3⟩, ⟨by rw [List.length_cons]; omega, by omega⟩, ?_, ?_⟩
 ·rw [List.map_cons, List.foldl_cons]; exact h6
 rw [List.map_cons, List.foldl_cons]; exact hf _ h7
theorem Gc {o o' : Option (List At × List At)} {m : Nat} {s u : CQ} {b : IP} {g g' : Option (CQ × CQ)} {f f' : Nat → Option (List IP × List IP)} (h : C2 o m s (takeP u (toP b)) g f) (hb : AI b) (ho : o' = B4 [] (AJ b) o) (hg : g' = g) (hf : ∀ r, Ev f r → Ev f' r) : C2 o' (m + 1) s u g' f' := by
 subst ho hg
 obtain ⟨E, O, h1, ⟨h2, h3⟩, ⟨h4, h5⟩, h6, h7⟩ := h
 refine ⟨E, b :: O, by rw [h1]; rfl, ⟨h2, fun p hp => (List.mem_cons.1 hp).elim (fun q => by rw [q]; exact hb) (h3 p)⟩, ⟨by omega, by rw [List.length_cons]; omega⟩, ?_, ?_⟩
 ·rw [List.map_cons, List.foldl_cons]; exact h6
 rw [List.map_cons, List.foldl_cons]; exact hf _ h7
theorem FL {o o' : Option (List At × List At)} {m : Nat} {s u : CQ} {g g' : Option (CQ × CQ)} {f f' : Nat → Option (List IP × List IP)} (h : C2 o m s u g f) (ho : o' = o) (hg : g' = g) (hf : ∀ r, Ev f r → Ev f' r) : C2 o' (m + 1) s u g' f' := by
 subst ho hg
 obtain ⟨E, O, h1, h2, ⟨h4, h5⟩, h6, h7⟩ := h
 exact ⟨E, O, h1, h2, ⟨by omega, by omega⟩, h6, hf _ h7⟩
theorem BT {n : Nat} {s : CQ} (hf : Fit n s) (hn : n ≤ 250) (m : Nat) : kpG s (m : Int) = some (takeP s (toP (BD m))) := by
 unfold kpG
 have := hf.len
 rw [if_pos (by omega), DR]
theorem BE (n : Nat) (s : CQ) (m : Nat) (hn : n ≤ 1000) (hf : Fit n s) (hm : m ≤ 300) : Ev (fun k => spec_l3Add.f k (Az s) (m : Int) (⟨#[]⟩ : ByteArray) (⟨#[]⟩ : ByteArray)) (Az (takeP s (toP (BD m)))) ∧ Fit (n + 1) (takeP s (toP (BD m))) := AO n s (BD m) hn hf (Be hm)
theorem Eh {p : IP} {r : List IP} {n : Nat} {a : IP} {x2 : List IP} (h : AI p) (hr : Bd r) (h0 : 0 < n) (h1 : n ≤ Am p) (ht : takQ (p :: r) (n : Int) = some (a, x2)) : ∃ y, cutP p (n : Int) = some (a, y) ∧ restP y r = x2 := by
 obtain ⟨a', y', e1, _, _, _, e5, _, e7⟩ := Er p r n h hr h0 h1
 by_cases hn : n = Am p
 ·have : takQ (p :: r) (n : Int) = some (p, r) := by
   unfold takQ
   dsimp only
   rw [if_pos (by rw [BF h, hn])]
  rw [this] at ht
  simp only [Option.some.injEq, Prod.mk.injEq] at ht
  refine ⟨y', ?_, ?_⟩
  rotate_left
  ·rw [e5 hn, ht.2]
  rw [e1, e7 hn, ht.1]
 have hlt : n < Am p := by omega
 have hne : ¬ (n : Int) = szQ p := by rw [BF h]; omega
 have nz : ∀ y : IP, AI y → Am y = Am p - n → restP y r = y :: r := fun y hy hz => by
  unfold restP
  rw [if_neg (fun q => by have := (Ce y hy).1 q; omega)]
 unfold takQ at ht
 dsimp only at ht
 rw [if_neg hne] at ht
 unfold cutP
 by_cases hk : 0 < p.f0
 ·obtain ⟨c1, ⟨c2, c3⟩, c4⟩ := CH h h0 hlt hk
  rw [if_pos hk] at ht
  simp only [Option.some.injEq, Prod.mk.injEq] at ht
  obtain ⟨rfl, rfl⟩ := ht
  have hb0 := h.1
  have hb1 := h.2.1
  have hb : Am p ≤ 1000 := by obtain ⟨_, _, q3, q4, _, _⟩ := h; unfold Am; omega
  have w : wrap64 (p.f0 - n) = p.f0 - n := wrap_id (by omega) (by omega)
  exact ⟨_, if_pos hk, by rw [w]; exact nz _ c2 c3⟩
 rw [if_neg hk] at ht ⊢
 by_cases hp : p.f1.size = 0
 ·obtain ⟨hn2, c1, ⟨c2, c3⟩, c4⟩ := Cw h h0 hlt hk hp
  rw [if_pos ((Aa _).2 hp)] at ht ⊢
  rw [if_pos (by omega)] at ht ⊢
  simp only [Option.some.injEq, Prod.mk.injEq, Int.toNat_natCast] at ht
  obtain ⟨rfl, rfl⟩ := ht
  exact ⟨_, by rw [Int.toNat_natCast], nz _ c2 c3⟩
 obtain ⟨hn2, c1, ⟨c2, c3⟩, c4⟩ := Dc h h0 hlt hk hp
 rw [if_neg (fun e => hp ((Aa _).1 e))] at ht ⊢
 rw [if_pos (by omega)] at ht ⊢
 simp only [Option.some.injEq, Prod.mk.injEq, Int.toNat_natCast] at ht
 obtain ⟨rfl, rfl⟩ := ht
 exact ⟨_, by rw [Int.toNat_natCast], nz _ c2 c3⟩
theorem BW : ∀ (m : Nat) (x y : List IP) (s u : CQ) (n : Nat), Bd x → Bd y → x.length + y.length < m → n + m ≤ 250 → Fit n s → Fit n u → BO (A9 x) = BO (A9 y) → C2 (Aw (A9 x) (A9 y)) m s u (trI m s u x y) (fun k => trS k m (Az s) (Az u) x y)
 | 0, x, y, s, u, n, _, _, h, _, _, _, _ => absurd h (by omega)
 | m + 1, [], [], s, u, n, hx, hy, h, hn, hf, hu, hb => by
  refine ⟨[], [], F4, ⟨(fun p hp => by cases hp), (fun p hp => by cases hp)⟩, ⟨Nat.succ_pos m, Nat.succ_pos m⟩, by rw [trI]; rfl, ?_⟩
  exact ev_val' (f := fun _ => some (Az s, Az u)) (fun k => by rw [trS]) (ev_ret rfl)
 | m + 1, p :: x, [], s, u, n, hx, hy, h, hn, hf, hu, hb => by
  obtain ⟨⟨hp, hz⟩, hx'⟩ := Bh hx
  rw [List.length_cons, List.length_nil] at h
  rw [Af, AA, A3, BU] at hb
  have hb0 : BO [] = 0 := rfl
  have hp1 : p.f1.size ≤ 300 := hp.2.2.1
  have hd : p.f1.size ≠ 0 := by unfold Am at hz; omega
  obtain ⟨a1, a2⟩ := AO n s p (by omega) hf hp
  obtain ⟨b1, b2⟩ := BE n u p.f1.size (by omega) hu hp1
  refine B3 (BW m x [] _ _ (n + 1) hx' hy (by simp only [List.length_nil]; omega) (by omega) a2 b2 (by rw [BU]; omega)) hp (Be hp1) ?_ ?_ (fun r hr => ?_)
  ·rw [Af]; exact El p _ _ hp hd
  ·rw [trI, if_neg (fun e => hd ((Aa _).1 e)), AP hf (by omega) hp, BT hu (by omega)]; rfl
  ·exact ev_val' (fun k => by rw [trS, if_neg (fun e => hd ((Aa _).1 e))]) (Ev.bind a1 (Ev.bind b1 hr))
 | m + 1, [], q :: y, s, u, n, hx, hy, h, hn, hf, hu, hb => by
  obtain ⟨⟨hq, hz⟩, hy'⟩ := Bh hy
  rw [List.length_cons, List.length_nil] at h
  rw [Af, AA, A3, BU] at hb
  have hb0 : BO [] = 0 := rfl
  have hp1 : q.f1.size ≤ 300 := hq.2.2.1
  have hd : q.f1.size ≠ 0 := by unfold Am at hz; omega
  obtain ⟨a1, a2⟩ := AO n u q (by omega) hu hq
  obtain ⟨b1, b2⟩ := BE n s q.f1.size (by omega) hf hp1
  refine B3 (BW m [] y _ _ (n + 1) hx hy' (by simp only [List.length_nil]; omega) (by omega) b2 a2 (by rw [BU]; omega)) (Be hp1) hq ?_ ?_ (fun r hr => ?_)
  ·rw [Af, BU]; exact Ek q [] _ hq hd True.intro
  ·rw [trI, if_neg (fun e => hd ((Aa _).1 e)), AP hu (by omega) hq, BT hf (by omega)]; rfl
  ·exact ev_val' (fun k => by rw [trS, if_neg (fun e => hd ((Aa _).1 e))]) (Ev.bind a1 (Ev.bind b1 hr))
 | m + 1, p :: x, q :: y, s, u, n, hx, hy, h, hn, hf, hu, hb => by
  obtain ⟨⟨hp, hzp⟩, hx'⟩ := Bh hx
  obtain ⟨⟨hq, hzq⟩, hy'⟩ := Bh hy
  rw [List.length_cons, List.length_cons] at h
  by_cases hd : p.f1.size = 0
  ·by_cases hv : q.f1.size = 0
   ·obtain ⟨t, ht, ht2, e0, e1, e2, e3⟩ : ∃ t : Nat, (if szQ q < szQ p then szQ q else szQ p) = (t : Int) ∧ (if szI q < szI p then szI q else szI p) = (t : Int) ∧ 0 < t ∧ t ≤ Am p ∧ t ≤ Am q ∧ (t = Am p ∨ t = Am q) := by
     rw [BF hp, BF hq, Ed hp, Ed hq]
     by_cases c : (Am q : Int) < Am p
     ·exact ⟨Am q, by rw [if_pos c], by rw [if_pos c], hzq, by omega, by omega, .inr rfl⟩
     ·exact ⟨Am p, by rw [if_neg c], by rw [if_neg c], hzp, by omega, by omega, .inl rfl⟩
    obtain ⟨a, x2, b1, b2, b3, b4, b5, b6⟩ := CT p x t hp hx' e0 e1
    obtain ⟨b, y2, c1, c2, c3, c4, c5, c6⟩ := CT q y t hq hy' e0 e2
    obtain ⟨ra, i1, i2⟩ := Eh hp hx' e0 e1 b1
    obtain ⟨rb, j1, j2⟩ := Eh hq hy' e0 e2 c1
    have hlen : x2.length + y2.length < m := by
     rcases e3 with e | e
     ·rw [b5 e]; omega
     ·rw [c5 e]; omega
    have hem := Fx a b (A9 x2) (A9 y2) b2.one c2.one (b2.sz.trans c2.sz.symm) (b2.put.2 hd) (c2.put.2 hv)
    rw [b4, c4, AA, AA, A3, A3] at hb
    have hb' : BO (A9 x2) = BO (A9 y2) := by
     have z1 := b2.sz; have z2 := c2.sz; have z3 := b2.put.2 hd; have z4 := c2.put.2 hv
     unfold Am at z1 z2; omega
    rw [← b4, ← c4] at hem
    rw [hem]
    obtain ⟨m1, m2⟩ := AO n s a (by omega) hf b2.one
    obtain ⟨o1, o2⟩ := AO n u b (by omega) hu c2.one
    have gI : trI (m + 1) s u (p :: x) (q :: y) = if 0 < b.f0 then (if 0 < a.f0 then (tkG s a).bind fun z => (tkG u b).bind fun t => trI m z t x2 y2 else (tkG s a).bind fun z => trI m z u x2 y2) else if 0 < a.f0 then (tkG u b).bind fun t => trI m s t x2 y2 else trI m s u x2 y2 := by
     rw [trI, if_pos ((Aa _).2 hd), if_pos ((Aa _).2 hv), ht2, i1, j1]
     dsimp only [Option.bind_some]
     rw [i2, j2]
    have gS : ∀ {r : List IP × List IP}, Ev (fun k => if 0 < a.f0 then (if 0 < b.f0 then (spec_l3Add.f k (Az s) a.f0 a.f1 a.f2).bind fun ax => (spec_l3Add.f k (Az u) b.f0 b.f1 b.f2).bind fun bx => trS k m ax bx x2 y2 else (spec_l3Add.f k (Az u) b.f0 b.f1 b.f2).bind fun bx => trS k m (Az s) bx x2 y2) else if 0 < b.f0 then (spec_l3Add.f k (Az s) a.f0 a.f1 a.f2).bind fun ax => trS k m ax (Az u) x2 y2 else trS k m (Az s) (Az u) x2 y2) r → Ev (fun k => trS k (m + 1) (Az s) (Az u) (p :: x) (q :: y)) r := by
     intro r hr
     refine ev_val' (fun k => ?_) hr
     rw [trS, if_pos ((Aa _).2 hd), if_pos ((Aa _).2 hv), ht, b1, c1]; rfl
    by_cases ka : 0 < a.f0
    ·rw [if_pos ka]
     by_cases kb : 0 < b.f0
     ·rw [if_pos kb, gI.trans ((if_pos kb).trans (if_pos ka))]
      exact B3 (BW m x2 y2 _ _ (n + 1) b3 c3 hlen (by omega) m2 o2 hb') b2.one c2.one rfl (by rw [AP hf (by omega) b2.one, AP hu (by omega) c2.one]; rfl) (fun r hr => gS (ev_pos ka (ev_pos kb (Ev.bind m1 (Ev.bind o1 hr)))))
     ·rw [if_neg kb, gI.trans ((if_neg kb).trans (if_pos ka))]
      exact Gc (BW m x2 y2 _ _ (n + 1) b3 c3 hlen (by omega) hf.more o2 hb') c2.one rfl (by rw [AP hu (by omega) c2.one]; rfl) (fun r hr => gS (ev_pos ka (ev_neg kb (Ev.bind o1 hr))))
    ·rw [if_neg ka]
     by_cases kb : 0 < b.f0
     ·rw [if_pos kb, gI.trans ((if_pos kb).trans (if_neg ka))]
      exact F7 (BW m x2 y2 _ _ (n + 1) b3 c3 hlen (by omega) m2 hu.more hb') b2.one rfl (by rw [AP hf (by omega) b2.one]; rfl) (fun r hr => gS (ev_neg ka (ev_pos kb (Ev.bind m1 hr))))
     ·rw [if_neg kb, gI.trans ((if_neg kb).trans (if_neg ka)), AY]
      exact FL (BW m x2 y2 _ _ (n + 1) b3 c3 hlen (by omega) hf.more hu.more hb') rfl rfl (fun r hr => gS (ev_neg ka (ev_neg kb hr)))
   ·have hp1 : q.f1.size ≤ 300 := hq.2.2.1
    obtain ⟨a1, a2⟩ := AO n u q (by omega) hu hq
    obtain ⟨b1, b2⟩ := BE n s q.f1.size (by omega) hf hp1
    have hq2 : q.f0 = 0 ∧ q.f2.size = 0 := by have := hq.2.2.2.2.1; have := hq.2.2.2.2.2; omega
    refine B3 (BW m (p :: x) y _ _ (n + 1) hx hy' (by simp only [List.length_cons]; omega) (by omega) b2 a2 ?_) (Be hp1) hq ?_ ?_ (fun r hr => ?_)
    ·rw [Af q y, AA, A3] at hb; omega
    ·rw [Af q y]; exact Ek q _ _ hq hv (Fa p x hp hzp hd)
    ·rw [trI, if_pos ((Aa _).2 hd), if_neg (fun e => hv ((Aa _).1 e)), AP hu (by omega) hq, BT hf (by omega)]; rfl
    ·exact ev_val' (fun k => by rw [trS, if_pos ((Aa _).2 hd), if_neg (fun e => hv ((Aa _).1 e))]) (Ev.bind a1 (Ev.bind b1 hr))
  have hp1 : p.f1.size ≤ 300 := hp.2.2.1
  obtain ⟨a1, a2⟩ := AO n s p (by omega) hf hp
  obtain ⟨b1, b2⟩ := BE n u p.f1.size (by omega) hu hp1
  have hp2 : p.f0 = 0 ∧ p.f2.size = 0 := by have := hp.2.2.2.2.1; have := hp.2.2.2.2.2; omega
  refine B3 (BW m x (q :: y) _ _ (n + 1) hx' hy (by simp only [List.length_cons]; omega) (by omega) a2 b2 ?_) hp (Be hp1) ?_ ?_ (fun r hr => ?_)
  ·rw [Af p x, AA, A3] at hb; omega
  ·rw [Af p x]; exact El p _ _ hp hd
  ·rw [trI, if_neg (fun e => hd ((Aa _).1 e)), AP hf (by omega) hp, BT hu (by omega)]; rfl
  exact ev_val' (fun k => by rw [trS, if_neg (fun e => hd ((Aa _).1 e))]) (Ev.bind a1 (Ev.bind b1 hr))
theorem CE (l : List IP) (hl : l.length ≤ 60) (hp : ∀ p ∈ l, Ae p = true) (d : Nat) : ∀ (i : Nat) (a : List Int), i + d = l.length → a.length ≤ 600 * i →
  Ev (fun k => spec_l4Bytes.l0 k a l (l.length : Int) (i : Int)) (a ++ An (l.drop i)) := by
 induction d with
 | zero =>
  intro i a hi ha
  refine Ev.step (fun k => by rw [spec_l4Bytes.l0]) ?_
  refine ev_neg (by omega) (ev_ret ?_)
  rw [List.drop_eq_nil_of_le (by omega)]; simp [An]
 | succ d ih =>
  intro i a hi ha
  obtain ⟨f1, f2, f3, f4, f5⟩ := AC (hp _ (gt_mem Bp l i (by omega)))
  refine Ev.step (fun k => by rw [spec_l4Bytes.l0]) ?_
  refine ev_pos (by omega) (ev_pos (by omega) (ev_pos (by omega) ?_))
  rw [gt_drop Bp l i (by omega), wrap_succ i (by omega)]
  simp only [Bo]
  refine ev_pos (by omega) (ev_pos (by omega) (ev_some (ev_pos ?_ ?_)))
  ·rw [List.length_append, List.length_replicate]; omega
  refine ev_val (ih (i + 1) _ (by omega) ?_) ?_
  rotate_left
  ·simp only [An, List.append_assoc]
  rw [List.length_append, List.length_append, List.length_replicate, bytesOf_length]; omega
theorem BC (l : List IP) (hl : l.length ≤ 60) (hp : ∀ p ∈ l, Ae p = true) : Ev (fun k => spec_l4Bytes.f k l) (An l) := by
 unfold spec_l4Bytes.f
 exact CE l hl hp l.length 0 [] (by omega) (by simp)
theorem Cr (l : List IP) (hl : l.length ≤ 60) (hp : ∀ p ∈ l, Ae p = true) (d : Nat) : ∀ (i : Nat) (a : List Int), i + d = l.length → a.length ≤ 600 * i →
  Ev (fun k => impl_dropped.l0 k a l (l.length : Int) (i : Int)) (a ++ An (l.drop i)) := by
 induction d with
 | zero =>
  intro i a hi ha
  refine Ev.step (fun k => by rw [impl_dropped.l0]) ?_
  refine ev_neg (by omega) (ev_ret ?_)
  rw [List.drop_eq_nil_of_le (by omega)]; simp [An]
 | succ d ih =>
  intro i a hi ha
  obtain ⟨f1, f2, f3, f4, f5⟩ := AC (hp _ (gt_mem Bp l i (by omega)))
  refine Ev.step (fun k => by rw [impl_dropped.l0]) ?_
  refine ev_pos (by omega) (ev_pos (by omega) (ev_pos (by omega) ?_))
  rw [gt_drop Bp l i (by omega), wrap_succ i (by omega)]
  simp only [Bo]
  refine ev_pos (by omega) (ev_pos (by omega) (ev_some (ev_pos ?_ ?_)))
  ·rw [List.length_append, List.length_replicate]; omega
  refine ev_val (ih (i + 1) _ (by omega) ?_) ?_
  rotate_left
  ·simp only [An, List.append_assoc]
  rw [List.length_append, List.length_append, List.length_replicate, bytesOf_length]; omega
theorem Bz (l : List IP) (hl : l.length ≤ 60) (hp : ∀ p ∈ l, Ae p = true) : Ev (fun k => impl_dropped.f k l) (An l) := by
 unfold impl_dropped.f
 exact Cr l hl hp l.length 0 [] (by omega) (by simp)
def Cg (x y : List Int) : Nat → Nat → Bool × Bool
 | 0, _ => (true, true)
 | d + 1, i => if rd x (i : Int) = 0 then Cg x y d (i + 1) else (if rd y (i : Int) = 0 then Cg x y d (i + 1) else (if rd x (i : Int) = rd y (i : Int) then Cg x y d (i + 1) else (false, true)))
theorem CN (x y : List Int) (hx : x.length ≤ 1048576) (hxy : x.length = y.length) (d : Nat) : ∀ i : Nat, i + d = x.length →
  Ev (fun k => spec_l4Same.l0 k x y (x.length : Int) (i : Int)) (Cg x y d i) := by
 induction d with
 | zero =>
  intro i hi
  refine Ev.step (fun k => by rw [spec_l4Same.l0]) ?_
  exact ev_neg (by omega) (ev_ret rfl)
 | succ d ih =>
  intro i hi
  refine Ev.step (fun k => by rw [spec_l4Same.l0]) ?_
  refine ev_pos (by omega) (ev_pos (by omega) (ev_pos (by omega) ?_))
  rw [wrap_succ i (by omega)]
  have ih' := ih (i + 1) (by omega)
  unfold Cg
  refine ev_if (fun h => by rw [if_pos h]; exact ih') (fun h => ?_)
  rw [if_neg h]
  refine ev_pos (by omega) (ev_if (fun h => by rw [if_pos h]; exact ih') (fun h => ?_))
  rw [if_neg h]
  exact ev_if (fun h => by rw [if_pos h]; exact ih') (fun h => by rw [if_neg h]; exact ev_ret rfl)
theorem Cd (x y : List Int) (hx : x.length ≤ 1048576) (hxy : x.length = y.length) (d : Nat) : ∀ i : Nat, i + d = x.length →
  Ev (fun k => impl_SameTexts.l0 k y x (x.length : Int) (i : Int)) (Cg x y d i) := by
 induction d with
 | zero =>
  intro i hi
  refine Ev.step (fun k => by rw [impl_SameTexts.l0]) ?_
  exact ev_neg (by omega) (ev_ret rfl)
 | succ d ih =>
  intro i hi
  refine Ev.step (fun k => by rw [impl_SameTexts.l0]) ?_
  refine ev_pos (by omega) (ev_pos (by omega) (ev_pos (by omega) ?_))
  rw [wrap_succ i (by omega)]
  have ih' := ih (i + 1) (by omega)
  unfold Cg
  refine ev_if (fun h => by rw [if_pos h]; exact ih') (fun h => ?_)
  rw [if_neg h]
  refine ev_pos (by omega) (ev_if (fun h => by rw [if_pos h]; exact ih') (fun h => ?_))
  rw [if_neg h]
  exact ev_if (fun h => by rw [if_pos h]; exact ih') (fun h => by rw [if_neg h]; exact ev_ret rfl)
def Ck (a b : List IP) : Bool × Bool := if (An a).length = (An b).length then Cg (An a) (An b) (An a).length 0 else (false, false)
theorem CL (a b : List IP) (ha : a.length ≤ 60) (pa : ∀ p ∈ a, Ae p = true) (hb : b.length ≤ 60) (pb : ∀ p ∈ b, Ae p = true) : Ev (fun k => spec_l4Same.f k a b) (Ck a b) := by
 unfold spec_l4Same.f Ck
 have la := B8 a pa
 refine Ev.bind (BC a ha pa) (Ev.bind (BC b hb pb) ?_)
 by_cases c : (An a).length = (An b).length
 rotate_left
 ·rw [if_neg c]
  exact ev_neg (by omega) (ev_ret rfl)
 rw [if_pos c]
 exact ev_pos (by omega) (CN _ _ (by omega) c _ 0 (by omega))
def AG (a b : List IP) : Bool × Bool := if Ac a = true then (if Ac b = true then Ck a b else (false, false)) else (false, false)
theorem B7 (a b : List IP) (wa : ∀ x ∈ a, x.f1.size ≤ 1048576 ∧ x.f2.size ≤ 1048576) (wb : ∀ x ∈ b, x.f1.size ≤ 1048576 ∧ x.f2.size ≤ 1048576) : Ev (fun k => impl_SameTexts.f k a b) (AG a b) := by
 unfold impl_SameTexts.f AG
 refine Ev.bind (Ay a wa) (ev_if (fun ga => ?_) (fun ga => ?_))
 rotate_left
 ·rw [if_neg ga]
  refine Ev.step (fun k => by rw [impl_SameTexts.j0]) ?_
  exact ev_pos rfl (ev_ret rfl)
 rw [if_pos ga]
 refine Ev.bind (Ay b wb) ?_
 refine Ev.step (fun k => by rw [impl_SameTexts.j0]) ?_
 by_cases gb : Ac b = true
 rotate_left
 ·rw [if_neg gb]
  rw [Bool.not_eq_true] at gb
  exact ev_pos (by rw [gb]; rfl) (ev_ret rfl)
 rw [if_pos gb]
 obtain ⟨ha, pa, _, _⟩ := Ab ga
 obtain ⟨hb, pb, _, _⟩ := Ab gb
 have la := B8 a pa
 refine ev_neg (by rw [gb]; simp) (Ev.bind (Bz a ha pa) (Ev.bind (Bz b hb pb) ?_))
 unfold Ck
 by_cases c : (An a).length = (An b).length
 rotate_left
 ·rw [if_neg c]
  exact ev_neg (by omega) (ev_ret rfl)
 rw [if_pos c]
 exact ev_pos (by omega) (Cd _ _ (by omega) c _ 0 (by omega))
theorem E4 (l : List IP) (hl : l.length ≤ 60) (hp : ∀ p ∈ l, AI p) (d : Nat) : ∀ i : Nat, i + d = l.length → Fit i (stN l i) →
  Ev (fun k => spec_l3Normal.l0 k (Az (stN l i)) l (l.length : Int) (i : Int)) ((normP (l.map toP)).map ofP) := by
 induction d with
 | zero =>
  intro i hi hf
  refine Ev.step (fun k => by rw [spec_l3Normal.l0]) ?_
  refine ev_neg (by omega) (ev_ret ?_)
  have e : stN l i = (l.map toP).foldl takeP ([], ⟨#[]⟩, ⟨#[]⟩) := by unfold stN; rw [List.take_of_length_le (by omega)]
  unfold Az normP; rw [e]
 | succ d ih =>
  intro i hi hf
  have hm := hp _ (gt_mem Bp l i (by omega))
  have es := stN_succ l i (by omega)
  have eg : l[i]'(by omega) = gt Bp l i := by unfold gt; rw [List.getD_eq_getElem?_getD, List.getElem?_eq_getElem (by omega)]; rfl
  rw [eg] at es
  obtain ⟨h1, h2⟩ := AO i (stN l i) (gt Bp l i) (by omega) hf hm
  rw [← es] at h1 h2
  refine Ev.step (fun k => by rw [spec_l3Normal.l0]) ?_
  refine ev_pos (by omega) (ev_pos (by omega) (ev_pos (by omega) ?_))
  rw [wrap_succ i (by omega)]
  simp only [Bo]
  exact Ev.bind h1 (ih (i + 1) (by omega) h2)
theorem Bn (l : List IP) (hl : l.length ≤ 60) (hp : ∀ p ∈ l, AI p) : Ev (fun k => spec_l3Normal.f k l) (Ad l) := by
 unfold spec_l3Normal.f
 have e : Az (stN l 0) = [] := by
  have e0 : stN l 0 = ([], (⟨#[]⟩ : ByteArray), (⟨#[]⟩ : ByteArray)) := rfl
  rw [e0]; unfold Az; rw [Ap Bw Bw]; rfl
 have := E4 l hl hp l.length 0 (by omega) CF
 rw [e] at this
 exact this
def BM (a b : List IP) : List IP × List IP × Bool :=
 if AG a b = (true, true) then
  (match Aw (A9 (Ad a)) (A9 (Ad b)) with
   | some r => if Ac (DM r.1) = true ∧ Ac (DM r.2) = true then (DM r.1, DM r.2, true) else ([], [], false)
   | none => ([], [], false))
 else ([], [], false)
theorem AW {a b : List IP} (h : AG a b = (true, true)) : Ac a = true ∧ Ac b = true ∧ Ck a b = (true, true) ∧ Ao a = Ao b := by
 unfold AG at h
 by_cases ga : Ac a = true
 rotate_left
 ·rw [if_neg ga] at h; cases h
 rw [if_pos ga] at h
 by_cases gb : Ac b = true
 rotate_left
 ·rw [if_neg gb] at h; cases h
 rw [if_pos gb] at h
 refine ⟨ga, gb, h, ?_⟩
 unfold Ck at h
 by_cases c : (An a).length = (An b).length
 rotate_left
 ·rw [if_neg c] at h; cases h
 have e : ∀ l : List IP, (An l).length = Ao l := fun l => by
  induction l with
  | nil => rfl
  | cons p r ih => rw [An, List.length_append, List.length_append, List.length_replicate, bytesOf_length, ih, AV]; rfl
 rw [e, e] at c; exact c
theorem CY (E : List IP) : Az ((E.map toP).foldl takeP ([], ⟨#[]⟩, ⟨#[]⟩)) = Ad E := rfl
theorem BR {a b : List IP} (h : AG a b = (true, true)) : ∃ E O : List IP, Aw (A9 (Ad a)) (A9 (Ad b)) = some (A9 E, A9 O) ∧ ((∀ p ∈ E, AI p) ∧ (∀ p ∈ O, AI p)) ∧ (E.length < 121 ∧ O.length < 121) ∧
  trI 121 ([], ⟨#[]⟩, ⟨#[]⟩) ([], ⟨#[]⟩, ⟨#[]⟩) (Ad a) (Ad b) = some ((E.map toP).foldl takeP ([], ⟨#[]⟩, ⟨#[]⟩), (O.map toP).foldl takeP ([], ⟨#[]⟩, ⟨#[]⟩)) ∧ Ev (fun k => trS k 121 [] [] (Ad a) (Ad b)) (Ad E, Ad O) := by
 obtain ⟨ga, gb, _, ht⟩ := AW h
 obtain ⟨na, ta, _⟩ := AL ga
 obtain ⟨nb, tb, _⟩ := AL gb
 obtain ⟨la, _, _, _⟩ := Ab na
 obtain ⟨lb, _, _, _⟩ := Ab nb
 have e0 : Az ([], (⟨#[]⟩ : ByteArray), (⟨#[]⟩ : ByteArray)) = [] := by unfold Az; rw [Ap Bw Bw]; rfl
 obtain ⟨E, O, h1, h2, h3, h4, h5⟩ := BW 121 (Ad a) (Ad b) ([], ⟨#[]⟩, ⟨#[]⟩) ([], ⟨#[]⟩, ⟨#[]⟩) 0 (Dw na) (Dw nb) (by omega) (by omega) CF CF (by rw [BS, BS]; omega)
 rw [e0, CY, CY] at h5
 exact ⟨E, O, h1, h2, h3, h4, h5⟩
theorem E2 {a b : List IP} (h : AG a b = (true, true)) {E O : List IP} (he : Aw (A9 (Ad a)) (A9 (Ad b)) = some (A9 E, A9 O)) (h1 : ∀ p ∈ E, AI p) (h2 : ∀ p ∈ O, AI p) (l1 : E.length ≤ 1000) (l2 : O.length ≤ 1000) : BM a b = if Ac (Ad E) = true ∧ Ac (Ad O) = true then (Ad E, Ad O, true) else ([], [], false) := by
 unfold BM
 rw [if_pos h, he, Bi E l1 h1, Bi O l2 h2]
theorem C9 {a b : List IP} (h : ¬ AG a b = (true, true)) : BM a b = ([], [], false) := by unfold BM; rw [if_neg h]
theorem BL (l : List IP) (hw : ∀ x ∈ l, x.f1.size ≤ 1048576 ∧ x.f2.size ≤ 1048576) : Ev (fun k => impl_goodOp.f k l) (if Ac l = true then l else [], Ac l) := by
 unfold impl_goodOp.f
 refine Ev.bind (Ay l hw) ?_
 by_cases g : Ac l = true
 ·exact ev_val (ev_pos g (ev_ret rfl)) (by rw [if_pos g, g])
 exact ev_val (ev_neg g (ev_ret rfl)) (by rw [if_neg g, Bool.eq_false_iff.2 g])
theorem AS (a b : List IP) (ha : ∀ x ∈ a, x.f1.size ≤ 1048576 ∧ x.f2.size ≤ 1048576) (hb : ∀ x ∈ b, x.f1.size ≤ 1048576 ∧ x.f2.size ≤ 1048576) : Ev (fun k => impl_TransformOps.f k a b) (BM a b) := by
 unfold impl_TransformOps.f
 refine Ev.bind (B7 a b ha hb) ?_
 by_cases h : AG a b = (true, true)
 rotate_left
 ·rw [C9 h]
  cases e : AG a b with
  | mk s1 s2 =>
   dsimp only
   cases s2 with
   | false => exact ev_neg (by simp) (ev_ret rfl)
   | true =>
    cases s1 with
    | false => exact ev_pos rfl (ev_neg (by simp) (ev_ret rfl))
    | true => exact absurd e h
 obtain ⟨ga, gb, _, _⟩ := AW h
 obtain ⟨la, pa, _, _⟩ := Ab ga
 obtain ⟨lb, pb, _, _⟩ := Ab gb
 obtain ⟨na, _, _⟩ := AL ga
 obtain ⟨nb, _, _⟩ := AL gb
 obtain ⟨lna, _, _, _⟩ := Ab na
 obtain ⟨lnb, _, _, _⟩ := Ab nb
 obtain ⟨E, O, h1, ⟨h2, h3⟩, ⟨h4, h5⟩, h6, _⟩ := BR h
 rw [E2 h h1 h2 h3 (by omega) (by omega)]
 rw [h]
 refine ev_pos rfl (ev_pos rfl (ev_eq (BK a la (fun p q => AF (pa p q))) (ev_eq (BK b lb (fun p q => AF (pb p q))) (ev_pos (by omega) (Ev.bind (Ev.of (fun k => trI_mono k _ _ _ _) h6) ?_)))))
 have l1 := DG E h2
 have l2 := DG O h3
 refine ev_val' (f := fun k => if ((E.map toP).foldl takeP ([], ⟨#[]⟩, ⟨#[]⟩)).1.length ≤ 1000 ∧ ((O.map toP).foldl takeP ([], ⟨#[]⟩, ⟨#[]⟩)).1.length ≤ 1000 then (impl_goodOp.f k (Ad E)).bind fun g1 => (impl_goodOp.f k (Ad O)).bind fun g2 => some (if g1.2 = true ∧ g2.2 = true then g1.1 else [], if g1.2 = true ∧ g2.2 = true then g2.1 else [], g1.2 && g2.2) else none) (fun k => rfl) (ev_pos (by omega) (Ev.bind (BL (Ad E) (AT E (by omega) h2).1) (Ev.bind (BL (Ad O) (AT O (by omega) h3).1) (ev_ret ?_))))
 dsimp only
 by_cases g : Ac (Ad E) = true ∧ Ac (Ad O) = true
 ·rw [if_pos g, if_pos g, if_pos g, if_pos g.1, if_pos g.2, g.1, g.2]; rfl
 rw [if_neg g, if_neg g, if_neg g]
 have : (Ac (Ad E) && Ac (Ad O)) = false := by
  rw [Bool.eq_false_iff]; intro q; exact g ((Bool.and_eq_true _ _).mp q)
 rw [this]
theorem AH (k : Nat) : ∀ (m : Nat) (ax bx x y : List IP), LeO (trS k m ax bx x y) (trS k (m + 1) ax bx x y)
 | 0, ax, bx, x, y => by rw [trS]; exact LeO.none _
 | m + 1, ax, bx, [], [] => by rw [trS, trS]; exact LeO.refl _
 | m + 1, ax, bx, p :: x, [] => by
  rw [trS, trS]
  exact LeO.ite (LeO.refl _) (LeO.bind (LeO.refl _) (fun _ => LeO.bind (LeO.refl _) (fun _ => AH k m _ _ _ _)))
 | m + 1, ax, bx, [], q :: y => by
  rw [trS, trS]
  exact LeO.ite (LeO.refl _) (LeO.bind (LeO.refl _) (fun _ => LeO.bind (LeO.refl _) (fun _ => AH k m _ _ _ _)))
 | m + 1, ax, bx, p :: x, q :: y => by
  rw [trS, trS]
  exact LeO.ite (LeO.ite (LeO.bind (LeO.refl _) (fun _ => LeO.bind (LeO.refl _) (fun _ => LeO.ite (LeO.ite (LeO.bind (LeO.refl _) (fun _ => LeO.bind (LeO.refl _) (fun _ => AH k m _ _ _ _))) (LeO.bind (LeO.refl _) (fun _ => AH k m _ _ _ _))) (LeO.ite (LeO.bind (LeO.refl _) (fun _ => AH k m _ _ _ _)) (AH k m _ _ _ _)))))
   (LeO.bind (LeO.refl _) (fun _ => LeO.bind (LeO.refl _) (fun _ => AH k m _ _ _ _)))) (LeO.bind (LeO.refl _) (fun _ => LeO.bind (LeO.refl _) (fun _ => AH k m _ _ _ _)))
theorem F9 {m : Nat} {ax bx x y : List IP} {r : List IP × List IP} (h : Ev (fun k => trS k m ax bx x y) r) : Ev (fun k => trS k k ax bx x y) r := by
 obtain ⟨K, hK⟩ := h
 refine ⟨K + m, fun k hk => ?_⟩
 have h1 := hK k (by omega)
 obtain ⟨d, rfl⟩ : ∃ d, k = m + d := ⟨k - m, by omega⟩
 have : ∀ d', trS (m + d) (m + d') ax bx x y = some r := fun d' => by
  induction d' with
  | zero => exact h1
  | succ d' ih => exact AH _ _ _ _ _ _ r ih
 exact this d
theorem BI (a b : List IP) (ha : ∀ x ∈ a, x.f1.size ≤ 1048576 ∧ x.f2.size ≤ 1048576) (hb : ∀ x ∈ b, x.f1.size ≤ 1048576 ∧ x.f2.size ≤ 1048576) : Ev (fun k => spec_TransformOps.f k a b) (BM a b) := by
 unfold spec_TransformOps.f
 refine Ev.bind (Ax a ha) ?_
 by_cases ga : Ac a = true
 rotate_left
 ·refine ev_neg ga ?_
  refine Ev.step (fun k => by rw [spec_TransformOps.j0]) ?_
  refine ev_pos rfl (ev_ret ?_)
  rw [C9 (fun h => ga (AW h).1)]
 refine ev_pos ga (Ev.bind (Ax b hb) ?_)
 refine Ev.step (fun k => by rw [spec_TransformOps.j0]) ?_
 by_cases gb : Ac b = true
 rotate_left
 ·refine ev_pos (by simp [gb]) (ev_ret ?_)
  rw [C9 (fun h => gb (AW h).2.1)]
 obtain ⟨la, pa, _, _⟩ := Ab ga
 obtain ⟨lb, pb, _, _⟩ := Ab gb
 have hs : AG a b = Ck a b := by unfold AG; rw [if_pos ga, if_pos gb]
 refine ev_neg (by rw [gb]; simp) ?_
 have hl : Ev (fun k => spec_l4Transform.f k a b) (if AG a b = (true, true) then (match Aw (A9 (Ad a)) (A9 (Ad b)) with | some r => (DM r.1, DM r.2, true) | none => ([], [], false)) else ([], [], false)) := by
  unfold spec_l4Transform.f
  refine Ev.bind (CL a b la pa lb pb) ?_
  rw [← hs]
  by_cases h : AG a b = (true, true)
  ·obtain ⟨E, O, h1, ⟨h2, h3⟩, ⟨h4, h5⟩, _, h7⟩ := BR h
   obtain ⟨lna, _, _, _⟩ := Ab (AL ga).1
   obtain ⟨lnb, _, _, _⟩ := Ab (AL gb).1
   have key : Ev (fun k => if (true, true).1 = true then (if (true, true).2 = true then (spec_l3Normal.f k a).bind fun na => (spec_l3Normal.f k b).bind fun nb => (if na.length ≤ 1000 ∧ nb.length ≤ 1000 then (trS k k [] [] na nb).bind fun r => some (r.1, r.2, true) else none) else some ([], [], false)) else some ([], [], false)) (Ad E, Ad O, true) :=
    ev_pos rfl (ev_pos rfl (Ev.bind (Bn a la (fun p q => AF (pa p q))) (Ev.bind (Bn b lb (fun p q => AF (pb p q))) (ev_pos (by omega) (Ev.bind (F9 h7) (ev_ret rfl))))))
   rw [if_pos h, h1, h]
   rw [Bi E (by omega) h2, Bi O (by omega) h3] at key
   exact key
  ·rw [if_neg h]
   cases e : AG a b with
   | mk s1 s2 =>
    dsimp only
    cases s1 with
    | false => exact ev_neg (by simp) (ev_ret rfl)
    | true =>
     cases s2 with
     | false => exact ev_pos rfl (ev_neg (by simp) (ev_ret rfl))
     | true => exact absurd e h
 refine Ev.bind hl ?_
 by_cases h : AG a b = (true, true)
 rotate_left
 ·rw [C9 h, if_neg h]
  exact ev_neg (by simp) (ev_ret rfl)
 obtain ⟨E, O, h1, ⟨h2, h3⟩, ⟨h4, h5⟩, _, _⟩ := BR h
 rw [E2 h h1 h2 h3 (by omega) (by omega), if_pos h, h1]
 dsimp only
 rw [← Bi E (by omega) h2, ← Bi O (by omega) h3]
 refine ev_pos rfl (Ev.bind (Ax (Ad E) (AT E (by omega) h2).1) ?_)
 by_cases gE : Ac (Ad E) = true
 rotate_left
 ·exact ev_val (ev_neg gE (ev_ret rfl)) (by rw [if_neg (fun q => gE q.1)])
 refine ev_pos gE (Ev.bind (Ax (Ad O) (AT O (by omega) h3).1) ?_)
 by_cases gO : Ac (Ad O) = true
 ·exact ev_val (ev_pos gO (ev_ret rfl)) (by rw [if_pos ⟨gE, gO⟩])
 exact ev_val (ev_neg gO (ev_ret rfl)) (by rw [if_neg (fun q => gO q.2)])
theorem C4 {a b : List IP} (h : (BM a b).2.2 = true) : AG a b = (true, true) ∧ ∃ r, Aw (A9 (Ad a)) (A9 (Ad b)) = some r ∧ Ac (DM r.1) = true ∧ Ac (DM r.2) = true ∧ BM a b = (DM r.1, DM r.2, true) := by
 unfold BM at h ⊢
 by_cases c : AG a b = (true, true)
 rotate_left
 ·rw [if_neg c] at h; cases h
 rw [if_pos c] at h ⊢
 cases e : Aw (A9 (Ad a)) (A9 (Ad b)) with
 | none => rw [e] at h; cases h
 | some r =>
  rw [e] at h
  dsimp only at h ⊢
  by_cases g : Ac (DM r.1) = true ∧ Ac (DM r.2) = true
  rotate_left
  ·rw [if_neg g] at h; cases h
  rw [if_pos g]; exact ⟨c, r, rfl, g.1, g.2, rfl⟩
theorem Et (a b : List IP) : (BM a b).2.2 = true ∨ BM a b = ([], [], false) := by
 unfold BM
 by_cases c : AG a b = (true, true)
 rotate_left
 ·rw [if_neg c]; exact .inr rfl
 rw [if_pos c]
 split
 rotate_left
 ·exact .inr rfl
 split
 ·exact .inl rfl
 exact .inr rfl
theorem FQ (a b : List IP) : (BM a b).1.length ≤ 60 ∧ (BM a b).2.1.length ≤ 60 := by
 rcases Et a b with h | h
 rotate_left
 ·rw [h]; simp
 obtain ⟨_, r, _, g1, g2, e⟩ := C4 h
 rw [e]; exact ⟨(Ab g1).1, (Ab g2).1⟩
def BJ : List IP → List (List IP) → List IP × Bool
 | a, [] => (a, true)
 | a, b :: r => if (BM a b).2.2 = true then BJ (BM a b).1 r else ([], false)
def En (a : List IP) (l : List (List IP)) : List IP × Bool := if Ac a = true ∧ l.length ≤ 20 then BJ a l else ([], false)
theorem Ec : ∀ (l : List (List IP)) (a : List IP), a.length ≤ 60 → (BJ a l).1.length ≤ 60
 | [], a, h => h
 | b :: r, a, h => by
  unfold BJ
  split
  ·exact Ec r _ (FQ a b).1
  ·simp
theorem FH (a : List IP) (l : List (List IP)) : (En a l).1.length ≤ 60 := by
 unfold En
 split
 rotate_left
 ·simp
 rename_i h; exact Ec l a (Ab h.1).1
theorem AZ {a : List IP} (h : Ac a = true) : ∀ x ∈ a, x.f1.size ≤ 1048576 ∧ x.f2.size ≤ 1048576 := fun x hx => by
 obtain ⟨_, hp, _, _⟩ := Ab h
 obtain ⟨f1, f2, f3, f4, f5⟩ := AC (hp x hx)
 omega
theorem BY {a b : List IP} (h : (BM a b).2.2 = true) : Ac (BM a b).1 = true := by
 obtain ⟨_, r, _, g1, _, e⟩ := C4 h
 rw [e]; exact g1
theorem Dn (l : List (List IP)) (hl : l.length ≤ 1048576) (hw : ∀ b ∈ l, ∀ x ∈ b, x.f1.size ≤ 1048576 ∧ x.f2.size ≤ 1048576) (d : Nat) : ∀ (i : Nat) (a : List IP), i + d = l.length → Ac a = true →
  Ev (fun k => spec_TransformOver.l0 k a l (l.length : Int) (i : Int)) (BJ a (l.drop i)) := by
 induction d with
 | zero =>
  intro i a hi ha
  refine Ev.step (fun k => by rw [spec_TransformOver.l0]) ?_
  refine ev_neg (by omega) (ev_ret ?_)
  rw [List.drop_eq_nil_of_le (by omega), BJ]
 | succ d ih =>
  intro i a hi ha
  have hm := hw _ (gt_mem [] l i (by omega))
  rw [gt_drop [] l i (by omega), BJ]
  refine Ev.step (fun k => by rw [spec_TransformOver.l0]) ?_
  refine ev_pos (by omega) (ev_pos (by omega) (ev_pos (by omega) ?_))
  rw [wrap_succ i (by omega)]
  refine Ev.bind (a := BM a (gt [] l i)) (BI a (gt [] l i) (AZ ha) hm) (ev_if (fun h => ?_) (fun h => ev_ret ?_))
  rotate_left
  ·rw [if_neg h]
  rw [if_pos h]; exact ih (i + 1) _ (by omega) (BY h)
theorem Ds (l : List (List IP)) (hl : l.length ≤ 1048576) (hw : ∀ b ∈ l, ∀ x ∈ b, x.f1.size ≤ 1048576 ∧ x.f2.size ≤ 1048576) (d : Nat) : ∀ (i : Nat) (a : List IP), i + d = l.length → Ac a = true →
  Ev (fun k => impl_TransformOver.l0 k a l (l.length : Int) (i : Int)) (BJ a (l.drop i)) := by
 induction d with
 | zero =>
  intro i a hi ha
  refine Ev.step (fun k => by rw [impl_TransformOver.l0]) ?_
  refine ev_neg (by omega) (ev_ret ?_)
  rw [List.drop_eq_nil_of_le (by omega), BJ]
 | succ d ih =>
  intro i a hi ha
  have hm := hw _ (gt_mem [] l i (by omega))
  rw [gt_drop [] l i (by omega), BJ]
  refine Ev.step (fun k => by rw [impl_TransformOver.l0]) ?_
  refine ev_pos (by omega) (ev_pos (by omega) (ev_pos (by omega) ?_))
  rw [wrap_succ i (by omega)]
  refine Ev.bind (a := BM a (gt [] l i)) (AS a (gt [] l i) (AZ ha) hm) (ev_if (fun h => ?_) (fun h => ev_ret ?_))
  rotate_left
  ·rw [if_neg h]
  rw [if_pos h]; exact ih (i + 1) _ (by omega) (BY h)
theorem Bx (a : List IP) (l : List (List IP)) (ha : ∀ x ∈ a, x.f1.size ≤ 1048576 ∧ x.f2.size ≤ 1048576) (hl : l.length ≤ 1048576) (hw : ∀ b ∈ l, ∀ x ∈ b, x.f1.size ≤ 1048576 ∧ x.f2.size ≤ 1048576) :
  Ev (fun k => spec_TransformOver.f k a l) (En a l) := by
 unfold spec_TransformOver.f En
 have hno : Ev (fun k => spec_TransformOver.j0 k a l true) ([], false) := by
  refine Ev.step (fun k => by rw [spec_TransformOver.j0]) ?_
  exact ev_pos rfl (ev_ret rfl)
 refine Ev.bind (Ax a ha) (ev_if (fun g => ?_) (fun g => by rw [if_neg (fun q => g q.1)]; exact hno))
 by_cases c : l.length ≤ 20
 rotate_left
 ·rw [if_neg (fun q => c q.2), decide_eq_true (show (l.length : Int) > 20 by omega)]; exact hno
 rw [if_pos ⟨g, c⟩, decide_eq_false (show ¬ (l.length : Int) > 20 by omega)]
 refine Ev.step (fun k => by rw [spec_TransformOver.j0]) ?_
 have h60 := (Ab g).1
 refine ev_neg (by simp) (ev_some (ev_pos (by simp; omega) ?_))
 exact Dn l hl hw l.length 0 a (by omega) g
theorem Bv (a : List IP) (l : List (List IP)) (ha : ∀ x ∈ a, x.f1.size ≤ 1048576 ∧ x.f2.size ≤ 1048576) (hl : l.length ≤ 1048576) (hw : ∀ b ∈ l, ∀ x ∈ b, x.f1.size ≤ 1048576 ∧ x.f2.size ≤ 1048576) :
  Ev (fun k => impl_TransformOver.f k a l) (En a l) := by
 unfold impl_TransformOver.f En
 have hno : Ev (fun k => impl_TransformOver.j0 k a l true) ([], false) := by
  refine Ev.step (fun k => by rw [impl_TransformOver.j0]) ?_
  exact ev_pos rfl (ev_ret rfl)
 refine Ev.bind (Ay a ha) (ev_if (fun g => ?_) (fun g => by rw [if_neg (fun q => g q.1)]; exact hno))
 by_cases c : l.length ≤ 20
 rotate_left
 ·rw [if_neg (fun q => c q.2), decide_eq_true (show (l.length : Int) > 20 by omega)]; exact hno
 rw [if_pos ⟨g, c⟩, decide_eq_false (show ¬ (l.length : Int) > 20 by omega)]
 refine Ev.step (fun k => by rw [impl_TransformOver.j0]) ?_
 have h60 := (Ab g).1
 refine ev_neg (by simp) (ev_eq (a := a) (by unfold impl_Part_54.f; exact if_neg (by omega)) ?_)
 exact Ds l hl hw l.length 0 a (by omega) g
theorem Gl (E : Int) (h0 : 0 ≤ E) (h1 : E ≤ 18446744073709551615) : 0 ≤ Go.bits .and .u64 E 255 ∧ Go.bits .and .u64 E 255 ≤ 255 := by
 have h := Go.bits_and_u64_nat E.toNat 255 (by omega) (by omega)
 rw [Int.toNat_of_nonneg h0] at h
 have h2 : E.toNat &&& 255 ≤ 255 := Nat.and_le_right
 have h3 : Go.bits .and .u64 E 255 = ((E.toNat &&& 255 : Nat) : Int) := h
 rw [h3]; omega
theorem D7 (x : Int) : 0 ≤ wrap64 (Go.bits .and .u64 (Go.IntKind.u64.wrap x / 1099511627776) 255) ∧ wrap64 (Go.bits .and .u64 (Go.IntKind.u64.wrap x / 1099511627776) 255) ≤ 255 := by
 have hw := Go.IntKind.wrap_u64 x
 obtain ⟨a, b⟩ := Gl (Go.IntKind.u64.wrap x / 1099511627776) (by rw [hw]; omega) (by rw [hw]; omega)
 rw [wrap_id (by omega) (by omega)]; exact ⟨a, b⟩
def AX (s : List Int) : Prop := (∀ x ∈ s, 0 ≤ x ∧ x ≤ 255) ∧ s.length ≤ 1000000000000
theorem C8 {s : List Int} (hs : AX s) (at_ seed : Int) (h0 : 0 ≤ at_) (h1 : at_ ≤ 100000000000000000) : ∃ x seed', spec_l1Cur_next.f s at_ seed = some (x, at_ + 1, seed') ∧ 0 ≤ x ∧ x ≤ 255 := by
 unfold spec_l1Cur_next.f
 rw [wrap_id (x := at_ + 1) (by omega) (by omega)]
 by_cases c : at_ < (s.length : Int)
 rotate_left
 ·rw [if_neg c]
  by_cases c2 : at_ + 1 ≤ (s.length : Int)
  rotate_left
  ·rw [if_neg c2]; exact ⟨_, _, rfl, D7 _⟩
  rw [if_pos c2]; exact ⟨_, _, rfl, Int.le_refl _, by decide⟩
 rw [if_pos c, if_pos h0]
 have hx : 0 ≤ rd s at_ ∧ rd s at_ ≤ 255 := by
  obtain ⟨n, rfl⟩ := Int.eq_ofNat_of_zero_le h0
  exact hs.1 _ (gt_mem 0 s n (by omega))
 have e : wrap64 (rd s at_) = rd s at_ := wrap_id (by omega) (by omega)
 by_cases c2 : at_ + 1 ≤ (s.length : Int)
 rotate_left
 ·rw [if_neg c2]; exact ⟨_, _, rfl, D7 _⟩
 rw [if_pos c2]; exact ⟨_, _, rfl, by rw [e]; exact hx.1, by rw [e]; exact hx.2⟩
theorem AU (n : Nat) (h : n ≤ 4611686018427387904) : wrap64 (((n + 1 : Nat) : Int) - 1) = (n : Int) := by rw [wrap_id (by omega) (by omega)]; omega
theorem Eo {x n : Int} (hx : 0 ≤ x) (hn : 0 < n) : 0 ≤ Int.tmod x n ∧ Int.tmod x n < n := by
 rw [Int.tmod_eq_emod_of_nonneg hx]
 exact ⟨Int.emod_nonneg _ (by omega), Int.emod_lt_of_pos _ hn⟩
theorem Au {s : List Int} (hs : AX s) (at_ seed n : Int) (h0 : 0 ≤ at_) (h1 : at_ ≤ 10000000000000000) : ∃ r at' seed', spec_l1Cur_pick.f s at_ seed n = some (r, at', seed') ∧ 0 ≤ r ∧ (1 ≤ n → r < n) ∧ at_ ≤ at' ∧ at' ≤ at_ + 2 := by
 unfold spec_l1Cur_pick.f
 by_cases c : n ≤ 1
 ·rw [if_pos c]; exact ⟨_, _, _, rfl, Int.le_refl _, fun h => by omega, Int.le_refl _, by omega⟩
 rw [if_neg c]
 obtain ⟨x, s1, e1, x0, x1⟩ := C8 hs at_ seed h0 (by omega)
 rw [e1]
 simp only [Option.bind_some]
 by_cases c2 : n > 200
 rotate_left
 ·rw [if_neg c2, if_neg (by omega)]
  obtain ⟨t1, t2⟩ := Eo (x := x) (n := n) x0 (by omega)
  exact ⟨_, _, _, rfl, t1, fun _ => t2, by omega, by omega⟩
 rw [if_pos c2]
 obtain ⟨y, s2, e2, y0, y1⟩ := C8 hs (at_ + 1) s1 (by omega) (by omega)
 rw [e2]
 simp only [Option.bind_some]
 rw [if_neg (by omega)]
 have e3 : wrap64 (wrap64 (x * 256) + y) = x * 256 + y := by rw [wrap_id (x := x * 256) (by omega) (by omega), wrap_id (by omega) (by omega)]
 rw [e3]
 obtain ⟨t1, t2⟩ := Eo (x := x * 256 + y) (n := n) (by omega) (by omega)
 exact ⟨_, _, _, rfl, t1, fun _ => t2, by omega, by omega⟩
theorem CW {s : List Int} (hs : AX s) (at_ seed n : Int) (h0 : 0 ≤ at_) (h1 : at_ ≤ 10000000000000000) : ∃ b at' seed', spec_l1Cur_one.f s at_ seed n = some (b, at', seed') ∧ at_ ≤ at' ∧ at' ≤ at_ + 2 := by
 unfold spec_l1Cur_one.f
 obtain ⟨r, a, z, e, _, _, h2, h3⟩ := Au hs at_ seed n h0 h1
 rw [e]
 exact ⟨_, _, _, rfl, h2, h3⟩
theorem FB {s : List Int} (hs : AX s) (at_ seed : Int) (l : List ByteArray) (h0 : 0 ≤ at_) (h1 : at_ ≤ 10000000000000000) (hl : 1 ≤ l.length) (hl2 : l.length ≤ 1000) (m : Nat) (hm : ∀ x ∈ l, x.size ≤ m) : ∃ r at' seed', spec_l1Cur_of.f s at_ seed l = some (r, at', seed') ∧ r.size ≤ m ∧ at_ ≤ at' ∧ at' ≤ at_ + 2 := by
 unfold spec_l1Cur_of.f
 obtain ⟨r, a, z, e, r0, r1, h2, h3⟩ := Au hs at_ seed (l.length : Int) h0 h1
 rw [e]
 simp only [Option.bind_some]
 have := r1 (by omega)
 rw [if_pos r0, if_pos this]
 refine ⟨_, _, _, rfl, ?_, h2, h3⟩
 obtain ⟨n, rfl⟩ := Int.eq_ofNat_of_zero_le r0
 exact hm _ (gt_mem ByteArray.empty l n (by omega))
def C5 (s : List Int) (d C S : Nat) : Prop := ∀ (n : Nat) (x7 : ByteArray) (at_ seed : Int), n ≤ 60 → 0 ≤ at_ → at_ + ((n * C : Nat) : Int) ≤ 1000000000000000 → x7.size + n * S ≤ 1000000000 →
 ∃ (r : ByteArray) (at' seed' : Int), Ev (fun k => spec_l1Cur_inner.l0 k (n : Int) (d : Int) x7 s at_ seed) (r, at', seed') ∧ at_ ≤ at' ∧ at' ≤ at_ + ((n * C : Nat) : Int) ∧ r.size ≤ x7.size + n * S
theorem Aq (a b : ByteArray) : (a ++ b).size = a.size + b.size := ByteArray.size_append
theorem Bl {s : List Int} (hs : AX s) (d C S : Nat) (hd : d ≤ 10) (hC : 4 ≤ C ∧ C ≤ 1000) (hS : 3 ≤ S ∧ S ≤ 1000) (hin : d = 0 ∨ ∃ e c z, d = e + 1 ∧ C5 s e c z ∧ 6 + 3 * c ≤ C ∧ 2 + 3 * z ≤ S) : C5 s d C S := by
 intro n
 induction n with
 | zero =>
  intro x7 at_ seed hn h0 h1 h2
  refine ⟨x7, at_, seed, ?_, Int.le_refl _, by omega, by omega⟩
  refine Ev.step (fun k => by rw [spec_l1Cur_inner.l0]) ?_
  exact ev_neg (by omega) (ev_ret rfl)
 | succ n ih =>
  intro x7 at_ seed hn h0 h1 h2
  have m1 : (n + 1) * C = n * C + C := Nat.succ_mul n C
  have m2 : (n + 1) * S = n * S + S := Nat.succ_mul n S
  generalize (n + 1) * C = CC at m1 h1 ⊢
  generalize (n + 1) * S = SS at m2 h2 ⊢
  generalize n * C = cc at m1 ih
  generalize n * S = ss at m2 ih
  -- a part without elements
  have flat : ∀ (a z : Int), 0 ≤ a → a ≤ at_ + 2 → at_ ≤ a → ∃ (r : ByteArray) (at' seed' : Int), Ev (fun k => spec_l1Cur_inner.j1 k ((n + 1 : Nat) : Int) (d : Int) x7 false s a z) (r, at', seed') ∧ at_ ≤ at' ∧ at' ≤ at_ + (CC : Int) ∧ r.size ≤ x7.size + SS := fun a z a0 a1 a2 => by
   obtain ⟨t, a', z', e, ht, b1, b2⟩ := FB hs a z [(⟨#[97]⟩ : ByteArray), (⟨#[98]⟩ : ByteArray), (⟨#[97, 98]⟩ : ByteArray), (⟨#[120]⟩ : ByteArray), (⟨#[32]⟩ : ByteArray), (⟨#[111, 110, 101]⟩ : ByteArray), (⟨#[49]⟩ : ByteArray), (⟨#[122, 46]⟩ : ByteArray)] (by omega) (by omega) (by simp) (by simp) 3 (by
    intro x hx
    simp only [List.mem_cons, List.not_mem_nil, or_false] at hx
    rcases hx with rfl | rfl | rfl | rfl | rfl | rfl | rfl | rfl <;> decide)
   obtain ⟨r, at', seed', q1, q2, q3, q4⟩ := ih (x7 ++ t) a' z' (by omega) (by omega) (by omega) (by rw [Aq]; omega)
   rw [Aq] at q4
   refine ⟨r, at', seed', ?_, by omega, by omega, by omega⟩
   refine Ev.step (fun k => by rw [spec_l1Cur_inner.j1]) ?_
   refine ev_neg (by simp) (ev_eq e (ev_pos (by dsimp only; omega) ?_))
   rw [AU n (by omega)]; exact q1
  rcases hin with rfl | ⟨e, c, z, rfl, hok, hc, hz⟩
  ·obtain ⟨r, at', seed', q1, q2, q3, q4⟩ := flat at_ seed h0 (by omega) (Int.le_refl _)
   refine ⟨r, at', seed', ?_, q2, q3, q4⟩
   refine Ev.step (fun k => by rw [spec_l1Cur_inner.l0]) ?_
   exact ev_pos (by omega) (ev_neg (by omega) q1)
  obtain ⟨b, a, z1, e1, b1, b2⟩ := CW hs at_ seed 3 h0 (by omega)
  have hstart : ∀ r, Ev (fun k => spec_l1Cur_inner.j1 k ((n + 1 : Nat) : Int) ((e + 1 : Nat) : Int) x7 b s a z1) r → Ev (fun k => spec_l1Cur_inner.l0 k ((n + 1 : Nat) : Int) ((e + 1 : Nat) : Int) x7 s at_ seed) r := fun r h => by
   refine Ev.step (fun k => by rw [spec_l1Cur_inner.l0]) ?_
   exact ev_pos (by omega) (ev_pos (by omega) (ev_eq e1 h))
  cases b with
  | false =>
   obtain ⟨r, at', seed', q1, q2, q3, q4⟩ := flat a z1 (by omega) b2 b1
   exact ⟨r, at', seed', hstart _ q1, q2, q3, q4⟩
  | true =>
   obtain ⟨p, a2, z2, e2, p0, p1, b3, b4⟩ := Au hs a z1 4 (by omega) (by omega)
   obtain ⟨m, a3, z3, e3, m0, m1', b5, b6⟩ := Au hs a2 z2 4 (by omega) (by omega)
   have m3 := m1' (by omega)
   obtain ⟨mn, rfl⟩ := Int.eq_ofNat_of_zero_le m0
   have c1 : mn * c ≤ 3 * c := Nat.mul_le_mul_right c (by omega)
   have c2 : mn * z ≤ 3 * z := Nat.mul_le_mul_right z (by omega)
   obtain ⟨t, a4, z4, t1, t2, t3, t4⟩ := hok mn (⟨#[]⟩ : ByteArray) a3 z3 (by omega) (by omega) (by omega) (by show 0 + mn * z ≤ _; omega)
   have t4' : t.size ≤ mn * z := by have : (⟨#[]⟩ : ByteArray).size = 0 := rfl; omega
   have hsz : ∀ y : List Int, y.length = 1 → (Go.strOfNums y).size = 1 := fun y hy => by rw [Go.strOfNums_size, hy]
   have hs1 : (Go.strOfNums [(wrap64 (65 + p)) % 256]).size = 1 := hsz _ rfl
   have hs2 : (⟨#[47]⟩ : ByteArray).size = 1 := rfl
   have hs3 : ((Go.strOfNums [(wrap64 (65 + p)) % 256] ++ t) ++ (⟨#[47]⟩ : ByteArray)).size = 2 + t.size := by rw [Aq, Aq, hs1, hs2]; omega
   obtain ⟨r, at', seed', q1, q2, q3, q4⟩ := ih (x7 ++ ((Go.strOfNums [(wrap64 (65 + p)) % 256] ++ t) ++ (⟨#[47]⟩ : ByteArray))) a4 z4 (by omega) (by omega) (by omega) (by rw [Aq, hs3]; omega)
   rw [Aq, hs3] at q4
   refine ⟨r, at', seed', hstart _ ?_, by omega, by omega, by omega⟩
   refine Ev.step (fun k => by rw [spec_l1Cur_inner.j1]) ?_
   rw [AU e (by omega), AU n (by omega)]
   refine ev_pos rfl (ev_eq e2 (ev_eq rfl (ev_eq e3 (Ev.bind (a := (t, a4, z4)) ?_ (ev_pos (by rw [hs1]; simp only; omega) (ev_pos (by rw [Aq, hs1]; simp only; omega) (ev_pos (by rw [hs3]; omega) q1)))))))
   refine Ev.step (fun k => by rw [spec_l1Cur_inner.f]) ?_
   exact t1
theorem Ew {s : List Int} (hs : AX s) : C5 s 3 186 107 :=
 Bl hs 3 186 107 (by omega) (by omega) (by omega) (.inr ⟨2, 60, 35, rfl, Bl hs 2 60 35 (by omega) (by omega) (by omega) (.inr ⟨1, 18, 11, rfl, Bl hs 1 18 11 (by omega) (by omega) (by omega) (.inr ⟨0, 4, 3, rfl, Bl hs 0 4 3 (by omega) (by omega) (by omega) (.inl rfl), by omega, by omega⟩), by omega, by omega⟩), by omega, by omega⟩)
theorem Ei {s : List Int} (hs : AX s) (n : Nat) (hn : n ≤ 60) (at_ seed : Int) (h0 : 0 ≤ at_) (h1 : at_ ≤ 900000000000000) : ∃ (r : ByteArray) (at' seed' : Int), Ev (fun k => spec_l1Cur_inner.f k s at_ seed (n : Int) 3) (r, at', seed') ∧ at_ ≤ at' ∧ at' ≤ at_ + 20000 ∧ r.size ≤ 10000 := by
 obtain ⟨r, a, z, q1, q2, q3, q4⟩ := Ew hs n (⟨#[]⟩ : ByteArray) at_ seed hn h0 (by omega) (by show 0 + n * 107 ≤ _; omega)
 have e0 : (⟨#[]⟩ : ByteArray).size = 0 := rfl
 refine ⟨r, a, z, ?_, q2, by omega, by omega⟩
 refine Ev.step (fun k => by rw [spec_l1Cur_inner.f]) ?_
 exact q1
theorem Bk (x : ByteArray) (a b : Nat) (h : b ≤ x.size) : (x.extract a b).size = b - a := by rw [ByteArray.size_extract]; omega
set_option maxHeartbeats 4000000 in
theorem B5 {s : List Int} (hs : AX s) (w : ByteArray) (hw : 1 ≤ w.size ∧ w.size ≤ 100) : ∀ (n : Nat) (x : ByteArray) (at_ seed : Int), n ≤ 3 → 0 ≤ at_ → at_ + 6 * (n : Int) ≤ 6000000000000000 → x.size + n ≤ 1000000000 →
  ∃ (r : ByteArray) (at' seed' : Int), Ev (fun k => spec_l1Cur_spoilt.l0 k x w (n : Int) s at_ seed) (r, at', seed') ∧ at_ ≤ at' ∧ at' ≤ at_ + 6 * (n : Int) ∧ r.size ≤ x.size + n
 | 0, x, at_, seed, hn, h0, h1, hx => by
  refine ⟨x, at_, seed, ?_, Int.le_refl _, by omega, by omega⟩
  refine Ev.step (fun k => by rw [spec_l1Cur_spoilt.l0]) ?_
  refine ev_neg (by omega) ?_
  refine Ev.step (fun k => by rw [spec_l1Cur_spoilt.j1]) ?_
  exact ev_neg (by simp) (ev_ret rfl)
 | n + 1, x, at_, seed, hn, h0, h1, hx => by
  have hstart : ∀ r, Ev (fun k => spec_l1Cur_spoilt.j1 k x w ((n + 1 : Nat) : Int) (decide ((x.size : Int) > 0)) s at_ seed) r → Ev (fun k => spec_l1Cur_spoilt.l0 k x w ((n + 1 : Nat) : Int) s at_ seed) r := fun r h => by
   refine Ev.step (fun k => by rw [spec_l1Cur_spoilt.l0]) ?_
   exact ev_pos (by omega) h
  by_cases hx0 : (x.size : Int) > 0
  ·rw [decide_eq_true hx0] at hstart
   obtain ⟨i, a1, z1, e1, i0, i1, b1, b2⟩ := Au hs at_ seed (x.size : Int) h0 (by omega)
   obtain ⟨j, a2, z2, e2, j0, j1, b3, b4⟩ := Au hs a1 z1 (w.size : Int) (by omega) (by omega)
   obtain ⟨c, a3, z3, e3, c0, c1, b5, b6⟩ := Au hs a2 z2 3 (by omega) (by omega)
   have i2 := i1 (by omega)
   have j2 := j1 (by omega)
   have hone : (Go.strOfNums [bt w j]).size = 1 := by rw [Go.strOfNums_size]; rfl
   obtain ⟨im, rfl⟩ := Int.eq_ofNat_of_zero_le i0
   have s1 := Bk x 0 im (by omega)
   have s2 := Bk x im x.size (Nat.le_refl _)
   have s3 := Bk x (im + 1) x.size (Nat.le_refl _)
   by_cases h3 : c = 0
   ·obtain ⟨r, at', seed', q1, q2, q3, q4⟩ := B5 hs w hw n (((x.extract 0 im) ++ (Go.strOfNums [bt w j])) ++ (x.extract im x.size)) a3 z3 (by omega) (by omega) (by omega) (by rw [Aq, Aq, hone]; omega)
    rw [Aq, Aq, hone] at q4
    refine ⟨r, at', seed', hstart _ ?_, by omega, by omega, by omega⟩
    refine Ev.step (fun k => by rw [spec_l1Cur_spoilt.j1]) ?_
    refine ev_pos rfl (ev_eq e1 (ev_eq e2 (ev_pos j0 (ev_pos j2 (ev_eq rfl (ev_eq e3 ?_))))))
    dsimp only
    rw [wrap_succ im (by omega), AU n (by omega), Int.toNat_natCast, Int.toNat_natCast]
    exact ev_pos h3 (ev_pos (by omega) (ev_pos (by omega) (ev_pos (by omega) (ev_pos (by rw [Aq]; omega) q1))))
   ·by_cases h4 : c = 1
    ·obtain ⟨r, at', seed', q1, q2, q3, q4⟩ := B5 hs w hw n (((x.extract 0 im) ++ (Go.strOfNums [bt w j])) ++ (x.extract (im + 1) x.size)) a3 z3 (by omega) (by omega) (by omega) (by rw [Aq, Aq, hone]; omega)
     rw [Aq, Aq, hone] at q4
     refine ⟨r, at', seed', hstart _ ?_, by omega, by omega, by omega⟩
     refine Ev.step (fun k => by rw [spec_l1Cur_spoilt.j1]) ?_
     refine ev_pos rfl (ev_eq e1 (ev_eq e2 (ev_pos j0 (ev_pos j2 (ev_eq rfl (ev_eq e3 ?_))))))
     dsimp only
     rw [wrap_succ im (by omega), AU n (by omega), Int.toNat_natCast, Int.toNat_natCast]
     exact ev_neg h3 (ev_pos h4 (ev_pos (by omega) (ev_pos (by omega) (ev_pos (by omega) (ev_pos (by omega) (ev_pos (by omega) (ev_pos (by rw [Aq]; omega) q1)))))))
    ·obtain ⟨r, at', seed', q1, q2, q3, q4⟩ := B5 hs w hw n ((x.extract 0 im) ++ (x.extract (im + 1) x.size)) a3 z3 (by omega) (by omega) (by omega) (by rw [Aq]; omega)
     rw [Aq] at q4
     refine ⟨r, at', seed', hstart _ ?_, by omega, by omega, by omega⟩
     refine Ev.step (fun k => by rw [spec_l1Cur_spoilt.j1]) ?_
     refine ev_pos rfl (ev_eq e1 (ev_eq e2 (ev_pos j0 (ev_pos j2 (ev_eq rfl (ev_eq e3 ?_))))))
     dsimp only
     rw [wrap_succ im (by omega), AU n (by omega), Int.toNat_natCast, Int.toNat_natCast]
     exact ev_neg h3 (ev_neg h4 (ev_pos (by omega) (ev_pos (by omega) (ev_pos (by omega) (ev_pos (by omega) (ev_pos (by omega) q1))))))
  ·rw [decide_eq_false hx0] at hstart
   refine ⟨x, at_, seed, hstart _ ?_, Int.le_refl _, by omega, by omega⟩
   refine Ev.step (fun k => by rw [spec_l1Cur_spoilt.j1]) ?_
   exact ev_neg (by simp) (ev_ret rfl)
theorem EI {s : List Int} (hs : AX s) (x w : ByteArray) (hw : 1 ≤ w.size ∧ w.size ≤ 100) (hx : x.size ≤ 900000000) (at_ seed : Int) (h0 : 0 ≤ at_) (h1 : at_ ≤ 5900000000000000) : ∃ (r : ByteArray) (at' seed' : Int), Ev (fun k => spec_l1Cur_spoilt.f k s at_ seed x w) (r, at', seed') ∧ at_ ≤ at' ∧ at' ≤ at_ + 20 ∧ r.size ≤ x.size + 3 := by
 obtain ⟨m, a, z, e, m0, m1, b1, b2⟩ := Au hs at_ seed 3 h0 (by omega)
 have m2 := m1 (by omega)
 obtain ⟨mn, rfl⟩ := Int.eq_ofNat_of_zero_le m0
 obtain ⟨r, at', seed', q1, q2, q3, q4⟩ := B5 hs w hw mn x a z (by omega) (by omega) (by omega) (by omega)
 refine ⟨r, at', seed', ?_, by omega, by omega, by omega⟩
 unfold spec_l1Cur_spoilt.f
 exact ev_eq e q1
theorem Gr {s : List Int} (hs : AX s) (at_ seed : Int) (h0 : 0 ≤ at_) (h1 : at_ ≤ 500000000000000) : ∃ (r : ByteArray) (at' seed' : Int), Ev (fun k => spec_l1Cur_doc.f k s at_ seed) (r, at', seed') ∧ at_ ≤ at' ∧ at' ≤ at_ + 50000 ∧ r.size ≤ 20000 := by
 have last : ∀ (x : ByteArray) (a z : Int), 0 ≤ a → a ≤ 900000000000000 → x.size ≤ 10000 → ∃ (r : ByteArray) (at' seed' : Int), Ev (fun k => spec_l1Cur_doc.j0 k x s a z) (r, at', seed') ∧ a ≤ at' ∧ at' ≤ a + 30 ∧ r.size ≤ 20000 := fun x a z a0 a1 hx => by
  obtain ⟨b, a2, z2, e2, b1, b2⟩ := CW hs a z 12 a0 (by omega)
  cases b with
  | true =>
   obtain ⟨r, at', seed', q1, q2, q3, q4⟩ := EI hs x (⟨#[65, 47, 97, 90]⟩ : ByteArray) (by decide) (by omega) a2 z2 (by omega) (by omega)
   refine ⟨r, at', seed', ?_, by omega, by omega, by omega⟩
   refine Ev.step (fun k => by rw [spec_l1Cur_doc.j0]) ?_
   exact ev_eq e2 (ev_pos rfl (Ev.bind q1 (ev_ret rfl)))
  | false =>
   refine ⟨x, a2, z2, ?_, by omega, by omega, by omega⟩
   refine Ev.step (fun k => by rw [spec_l1Cur_doc.j0]) ?_
   exact ev_eq e2 (ev_neg (by simp) (ev_ret rfl))
 obtain ⟨m, a1, z1, e1, m0, m1, b1, b2⟩ := Au hs at_ seed 7 h0 (by omega)
 have m2 := m1 (by omega)
 obtain ⟨mn, rfl⟩ := Int.eq_ofNat_of_zero_le m0
 obtain ⟨x, a2, z2, q1, q2, q3, q4⟩ := Ei hs mn (by omega) a1 z1 (by omega) (by omega)
 obtain ⟨c, a3, z3, e3, c0, c1, b3, b4⟩ := Au hs a2 z2 30 (by omega) (by omega)
 unfold spec_l1Cur_doc.f
 by_cases h3 : c = 0
 ·obtain ⟨y, a4, z4, p1, p2, p3, p4⟩ := Ei hs 60 (Nat.le_refl _) a3 z3 (by omega) (by omega)
  obtain ⟨r, at', seed', r1, r2, r3, r4⟩ := last y a4 z4 (by omega) (by omega) (by omega)
  exact ⟨r, at', seed', ev_eq e1 (Ev.bind q1 (ev_eq e3 (ev_pos h3 (Ev.bind p1 r1)))), by omega, by omega, r4⟩
 by_cases h4 : c = 1
 rotate_left
 ·obtain ⟨r, at', seed', r1, r2, r3, r4⟩ := last x a3 z3 (by omega) (by omega) (by omega)
  exact ⟨r, at', seed', ev_eq e1 (Ev.bind q1 (ev_eq e3 (ev_neg h3 (ev_neg h4 r1)))), by omega, by omega, r4⟩
 obtain ⟨y, a4, z4, e4, p4, p2, p3⟩ := FB hs a3 z3 [(⟨#[65, 65, 65, 65, 65, 65, 65, 65, 65, 65, 65, 65, 47, 47, 47, 47, 47, 47, 47, 47, 47, 47, 47, 47]⟩ : ByteArray), (⟨#[65, 65, 65, 65, 65, 65, 65, 65, 65, 65, 65, 65, 65, 47, 47, 47, 47, 47, 47, 47, 47, 47, 47, 47, 47, 47]⟩ : ByteArray)] (by omega) (by omega) (by simp) (by simp) 30 (by
  intro x hx
  simp only [List.mem_cons, List.not_mem_nil, or_false] at hx
  rcases hx with rfl | rfl <;> decide)
 obtain ⟨r, at', seed', r1, r2, r3, r4⟩ := last y a4 z4 (by omega) (by omega) (by omega)
 exact ⟨r, at', seed', ev_eq e1 (Ev.bind q1 (ev_eq e3 (ev_neg h3 (ev_pos h4 (ev_eq e4 r1))))), by omega, by omega, r4⟩
def Br (z : Int) : Int := (z * 6364136223846793005 + 1442695040888963407) % 18446744073709551616
def C0 (z : Int) : Int := Br (Br (Br z))
def tI : Nat → Int → Int
 | 0, z => z
 | n + 1, z => tI n (C0 z)
theorem Cy : ∀ (m n : Nat) (z : Int), tI (m + n) z = tI n (tI m z)
 | 0, n, z => by rw [Nat.zero_add]; rfl
 | m + 1, n, z => by rw [Nat.add_right_comm]; exact Cy m n (C0 z)
theorem FI (n : Nat) (z : Int) : tI (n + 1) z = C0 (tI n z) := by rw [Cy n 1 z]; rfl
def Dt (n : Nat) (p : Int × Int) : Prop := ∀ z, tI n z % 4398046511104 = (p.1 * z + p.2) % 4398046511104
def Gy : Nat → Int × Int
 | 0 => (1610380290293, 146808144153)
 | k + 1 => let p := Gy k; (p.1 * p.1 % 4398046511104, (p.1 * p.2 + p.2) % 4398046511104)
theorem Fo (n : Nat) (p : Int × Int) (h : Dt n p) : Dt (n + n) (p.1 * p.1 % 4398046511104, (p.1 * p.2 + p.2) % 4398046511104) := by
 intro z
 rw [Cy, h]
 have h1 := h z
 have e1 : (p.1 * tI n z + p.2) % 4398046511104 = (p.1 * (p.1 * z + p.2) + p.2) % 4398046511104 := by
  rw [Int.add_emod, Int.mul_emod, h1, ← Int.mul_emod, ← Int.add_emod]
 rw [e1]
 have e2 : p.1 * (p.1 * z + p.2) + p.2 = p.1 * p.1 * z + (p.1 * p.2 + p.2) := by rw [Int.mul_add, Int.mul_assoc, Int.add_assoc]
 rw [e2]
 show _ = ((p.1 * p.1 % 4398046511104) * z + (p.1 * p.2 + p.2) % 4398046511104) % 4398046511104
 rw [← Int.add_emod_emod]
 have e3 : (p.1 * p.1 * z) % 4398046511104 = (p.1 * p.1 % 4398046511104 * z) % 4398046511104 := by rw [Int.mul_emod (p.1 * p.1) z, Int.mul_emod (p.1 * p.1 % 4398046511104) z, Int.emod_emod_of_dvd (p.1 * p.1) (Int.dvd_refl 4398046511104)]
 rw [Int.add_emod, e3, ← Int.add_emod]
theorem EY : Dt 1 (Gy 0) := by
 intro z
 show C0 z % 4398046511104 = (1610380290293 * z + 146808144153) % 4398046511104
 unfold C0 Br; omega
theorem Dy : ∀ k : Nat, Dt (2 ^ k) (Gy k)
 | 0 => EY
 | k + 1 => by
  have := Fo _ _ (Dy k)
  rw [← Nat.two_mul, Nat.mul_comm, ← Nat.pow_succ] at this
  exact this
def Qr (w : Int) : Prop := w / 1099511627776 % 4 = 1
theorem E9 (m n : Nat) (p q : Int × Int) (hp : Dt m p) (hq : Dt n q) : Dt (m + n) (q.1 * p.1 % 4398046511104, (q.1 * p.2 + q.2) % 4398046511104) := by
 intro z
 rw [Cy, hq]
 have h1 := hp z
 have e1 : (q.1 * tI m z + q.2) % 4398046511104 = (q.1 * (p.1 * z + p.2) + q.2) % 4398046511104 := by
  rw [Int.add_emod, Int.mul_emod, h1, ← Int.mul_emod, ← Int.add_emod]
 rw [e1]
 have e2 : q.1 * (p.1 * z + p.2) + q.2 = q.1 * p.1 * z + (q.1 * p.2 + q.2) := by rw [Int.mul_add, Int.mul_assoc, Int.add_assoc]
 rw [e2]
 show _ = ((q.1 * p.1 % 4398046511104) * z + (q.1 * p.2 + q.2) % 4398046511104) % 4398046511104
 rw [← Int.add_emod_emod]
 have e3 : (q.1 * p.1 * z) % 4398046511104 = (q.1 * p.1 % 4398046511104 * z) % 4398046511104 := by rw [Int.mul_emod (q.1 * p.1) z, Int.mul_emod (q.1 * p.1 % 4398046511104) z, Int.emod_emod_of_dvd (q.1 * p.1) (Int.dvd_refl 4398046511104)]
 rw [Int.add_emod, e3, ← Int.add_emod]
def DX : List Nat → Int × Int
 | [] => (1, 0)
 | k :: l => let p := DX l; let q := Gy k; (q.1 * p.1 % 4398046511104, (q.1 * p.2 + q.2) % 4398046511104)
def Gv : List Nat → Nat
 | [] => 0
 | k :: l => Gv l + 2 ^ k
theorem Bb : ∀ l : List Nat, Dt (Gv l) (DX l)
 | [] => fun z => by show z % _ = (1 * z + 0) % _; omega
 | k :: l => E9 _ _ _ _ (Bb l) (Dy k)
theorem FP (z : Int) : tI 40 z % 4398046511104 = (3113555458273 * z + 671486118104) % 4398046511104 := by
 have h := Bb [3, 5] z
 have e : DX [3, 5] = (3113555458273, 671486118104) := by decide +kernel
 rw [e] at h; exact h
theorem E7 (z : Int) : tI 253 z % 4398046511104 = (3530636718853 * z + 2973535732173) % 4398046511104 := by
 have h := Bb [0, 2, 3, 4, 5, 6, 7] z
 have e : DX [0, 2, 3, 4, 5, 6, 7] = (3530636718853, 2973535732173) := by decide +kernel
 rw [e] at h; exact h
theorem ET (z : Int) : tI 254 z % 4398046511104 = (2446635195337 * z + 151530357322) % 4398046511104 := by
 have h := Bb [1, 2, 3, 4, 5, 6, 7] z
 have e : DX [1, 2, 3, 4, 5, 6, 7] = (2446635195337, 151530357322) := by decide +kernel
 rw [e] at h; exact h
theorem ES (z : Int) : tI 286 z % 4398046511104 = (2087427804489 * z + 2179666371370) % 4398046511104 := by
 have h := Bb [1, 2, 3, 4, 8] z
 have e : DX [1, 2, 3, 4, 8] = (2087427804489, 2179666371370) := by decide +kernel
 rw [e] at h; exact h
theorem EW (z : Int) : tI 421 z % 4398046511104 = (1886938275173 * z + 2374622980997) % 4398046511104 := by
 have h := Bb [0, 2, 5, 7, 8] z
 have e : DX [0, 2, 5, 7, 8] = (1886938275173, 2374622980997) := by decide +kernel
 rw [e] at h; exact h
theorem BN {w : Int} (h : Qr w) : 1099511627776 ≤ w % 4398046511104 ∧ w % 4398046511104 < 2199023255552 := by
 unfold Qr at h; omega
theorem Gf (w a b c d e : Int) (ha : a % 4398046511104 = (2446635195337 * w + 151530357322) % 4398046511104) (hb : b % 4398046511104 = (1886938275173 * w + 2374622980997) % 4398046511104) (hc : c % 4398046511104 = (3113555458273 * w + 671486118104) % 4398046511104)
  (hd : d % 4398046511104 = (3530636718853 * w + 2973535732173) % 4398046511104) (he : e % 4398046511104 = (2087427804489 * w + 2179666371370) % 4398046511104) (h0 : Qr w) (h1 : Qr a) (h2 : Qr b) (h3 : Qr c) (h4 : Qr d) (h5 : Qr e) :
  w % 4398046511104 + a % 4398046511104 + b % 4398046511104 - c % 4398046511104 - d % 4398046511104 - e % 4398046511104 = 1099511627776 := by
 have g0 := BN h0
 have g1 := BN h1
 have g2 := BN h2
 have g3 := BN h3
 have g4 := BN h4
 have g5 := BN h5
 clear h0 h1 h2 h3 h4 h5
 have q : (w % 4398046511104 + a % 4398046511104 + b % 4398046511104 - c % 4398046511104 - d % 4398046511104 - e % 4398046511104) % 4398046511104 = 1099511627776 := by
  rw [ha, hb, hc, hd, he]; clear g0 g1 g2 g3 g4 g5 ha hb hc hd he; omega
 clear ha hb hc hd he
 generalize w % 4398046511104 = w' at *
 generalize a % 4398046511104 = a' at *
 generalize b % 4398046511104 = b' at *
 generalize c % 4398046511104 = c' at *
 generalize d % 4398046511104 = d' at *
 generalize e % 4398046511104 = e' at *
 omega
def Aj (w : Int) : Nat → Int
 | 0 => 0
 | n + 1 => Aj w n + tI n w % 4398046511104
theorem A4 (w : Int) (a : Nat) : ∀ n : Nat, (∀ i, i < a + n → Qr (tI i w)) → (n : Int) * 1099511627776 ≤ Aj w (a + n) - Aj w a ∧ Aj w (a + n) - Aj w a ≤ (n : Int) * 2199023255551
 | 0, _ => by simp
 | n + 1, h => by
  have ih := A4 w a n (fun i hi => h i (by omega))
  have g := BN (h (a + n) (by omega))
  have e : Aj w (a + (n + 1)) = Aj w (a + n) + tI (a + n) w % 4398046511104 := rfl
  rw [e]
  omega
theorem DB (w : Int) : ∀ m : Nat, (∀ i, i < 421 + m → Qr (tI i w)) →
  Aj w m + (Aj w (254 + m) - Aj w 254) + (Aj w (421 + m) - Aj w 421) - (Aj w (40 + m) - Aj w 40) - (Aj w (253 + m) - Aj w 253) - (Aj w (286 + m) - Aj w 286) = (m : Int) * 1099511627776
 | 0, _ => by
  show (0 : Int) + (Aj w 254 - Aj w 254) + (Aj w 421 - Aj w 421) - (Aj w 40 - Aj w 40) - (Aj w 253 - Aj w 253) - (Aj w 286 - Aj w 286) = _
  omega
 | m + 1, h => by
  have ih := DB w m (fun i hi => h i (by omega))
  have t : ∀ n : Nat, tI n (tI m w) = tI (n + m) w := fun n => by rw [← Cy, Nat.add_comm]
  have q := Gf (tI m w) (tI (254 + m) w) (tI (421 + m) w) (tI (40 + m) w) (tI (253 + m) w) (tI (286 + m) w) (by rw [← t]; exact ET _) (by rw [← t]; exact EW _) (by rw [← t]; exact FP _) (by rw [← t]; exact E7 _) (by rw [← t]; exact ES _)
   (h m (by omega)) (h _ (by omega)) (h _ (by omega)) (h _ (by omega)) (h _ (by omega)) (h _ (by omega))
  have e : ∀ n : Nat, Aj w (n + (m + 1)) = Aj w (n + m) + tI (n + m) w % 4398046511104 := fun n => rfl
  have e0 : Aj w (m + 1) = Aj w m + tI m w % 4398046511104 := rfl
  rw [e0, e, e, e, e, e]
  clear e e0 t h
  omega
theorem FR (w : Int) (h : ∀ i, i ≤ 596 → Qr (tI i w)) : False := by
 have s := DB w 176 (fun i hi => h i (by omega))
 have a1 := A4 w 0 40 (fun i hi => h i (by omega))
 have a2 := A4 w 176 40 (fun i hi => h i (by omega))
 have b1 := A4 w 253 1 (fun i hi => h i (by omega))
 have b2 := A4 w (253 + 176) 1 (fun i hi => h i (by omega))
 have c1 := A4 w 286 135 (fun i hi => h i (by omega))
 have c2 := A4 w (286 + 176) 135 (fun i hi => h i (by omega))
 have z : Aj w 0 = 0 := rfl
 simp only [Nat.reduceAdd] at s a1 a2 b1 b2 c1 c2
 clear h
 generalize Aj w 40 = y40 at *
 generalize Aj w 176 = y176 at *
 generalize Aj w 216 = y216 at *
 generalize Aj w 253 = y253 at *
 generalize Aj w 254 = y254 at *
 generalize Aj w 429 = y429 at *
 generalize Aj w 430 = y430 at *
 generalize Aj w 286 = y286 at *
 generalize Aj w 421 = y421 at *
 generalize Aj w 462 = y462 at *
 generalize Aj w 597 = y597 at *
 generalize Aj w 0 = y0 at *
 omega
theorem Fi {s : List Int} (at_ seed : Int) (h0 : (s.length : Int) ≤ at_) (h1 : at_ ≤ 100000000000000000) : spec_l1Cur_next.f s at_ seed = some (Br seed / 1099511627776 % 256, at_ + 1, Br seed) := by
 unfold spec_l1Cur_next.f
 have e1 : IntKind.u64.wrap ((IntKind.u64.wrap ((IntKind.u64.wrap (seed * 6364136223846793005)) + 0)) + 1442695040888963407) = Br seed := by
  rw [Go.IntKind.wrap_u64, Go.IntKind.wrap_u64, Go.IntKind.wrap_u64]; unfold Br; omega
 have hs : 0 ≤ Br seed ∧ Br seed < 18446744073709551616 := by unfold Br; omega
 rw [wrap_id (x := at_ + 1) (by omega) (by omega), if_neg (by omega), if_neg (by omega), e1]
 have e2 : Go.bits .and .u64 (Br seed / 1099511627776) 255 = Br seed / 1099511627776 % 256 := by
  have h := Go.bits_and_u64_nat (Br seed / 1099511627776).toNat 255 (by omega) (by omega)
  rw [Int.toNat_of_nonneg (by omega)] at h
  have h2 : (Br seed / 1099511627776).toNat &&& 255 = (Br seed / 1099511627776).toNat % 256 := Nat.and_two_pow_sub_one_eq_mod _ 8
  have h3 : Go.bits .and .u64 (Br seed / 1099511627776) 255 = (((Br seed / 1099511627776).toNat &&& 255 : Nat) : Int) := h
  rw [h3, h2]; omega
 rw [e2, wrap_id (by omega) (by omega)]
theorem Bu {s : List Int} (at_ seed n : Int) (h0 : (s.length : Int) ≤ at_) (h1 : at_ ≤ 100000000000000000) (hn : 1 < n) (hn2 : n ≤ 200) : spec_l1Cur_pick.f s at_ seed n = some (Br seed / 1099511627776 % 256 % n, at_ + 1, Br seed) := by
 unfold spec_l1Cur_pick.f
 rw [if_neg (by omega), Fi at_ seed h0 h1]
 simp only [Option.bind_some]
 rw [if_neg (by omega), if_neg (by omega), Int.tmod_eq_emod_of_nonneg (by omega)]
theorem Gm {s : List Int} (at_ seed : Int) (l : List ByteArray) (h0 : (s.length : Int) ≤ at_) (h1 : at_ ≤ 100000000000000000) (hl : 1 < l.length) (hl2 : l.length ≤ 200) : ∃ x, spec_l1Cur_of.f s at_ seed l = some (x, at_ + 1, Br seed) := by
 unfold spec_l1Cur_of.f
 rw [Bu at_ seed (l.length : Int) h0 h1 (by omega) (by omega)]
 simp only [Option.bind_some]
 have a : 0 ≤ Br seed / 1099511627776 % 256 % (l.length : Int) := Int.emod_nonneg _ (by omega)
 have b : Br seed / 1099511627776 % 256 % (l.length : Int) < (l.length : Int) := Int.emod_lt_of_pos _ (by omega)
 rw [if_pos a, if_pos b]
 exact ⟨_, rfl⟩
def FF (x : IP) : Prop := 0 ≤ x.f0 ∧ x.f0 ≤ 5 ∧ x.f1.size ≤ 3 ∧ x.f2.size ≤ 5
theorem Db {l : List IP} {p : IP} (h : ∀ x ∈ l, FF x) (hp : FF p) : ∀ x ∈ l ++ [p], FF x := fun x hx => by
 rcases List.mem_append.1 hx with q | q
 ·exact h x q
 ·rw [List.mem_singleton.1 q]; exact hp
def A0 : List ByteArray := [(⟨#[120]⟩ : ByteArray), (⟨#[121, 121]⟩ : ByteArray), (⟨#[65, 47]⟩ : ByteArray), (⟨#[110, 101, 119]⟩ : ByteArray), (⟨#[66]⟩ : ByteArray)]
theorem Gk {s : List Int} (hs : AX s) (x1 : ByteArray) (h1 : x1.size ≤ 10000000000) (x5 : List IP) (hl : x5.length ≤ 3518437208000) (p : Nat) (hp : p < x1.size) (at_ seed : Int) (h0 : 0 ≤ at_) (ha : at_ ≤ 9000000000000000) :
  ∃ (at' seed' : Int) (q : IP) (p' : Nat), at_ + 2 ≤ at' ∧ at' ≤ at_ + 6 ∧ p' ≤ x1.size ∧ FF q ∧ (p < p' ∨ (p' = p ∧ ((s.length : Int) ≤ at_ → Qr (Br (Br seed)) ∧ seed' = C0 seed))) ∧
   ∀ r, Ev (fun k => spec_l1Cur_opOn.l0 k x1 (x5 ++ [q]) (p' : Int) s at' seed') r → Ev (fun k => spec_l1Cur_opOn.l0 k x1 x5 (p : Int) s at_ seed) r := by
 obtain ⟨n, a1, z1, e1, n0, n1, b1, b2⟩ := Au hs at_ seed 5 h0 (by omega)
 have n2 := n1 (by omega)
 have b1' : at_ < a1 := by
  by_cases q : at_ < (s.length : Int)
  ·obtain ⟨x, z, e, _⟩ := C8 hs at_ seed h0 (by omega)
   unfold spec_l1Cur_pick.f at e1
   rw [if_neg (by omega), e] at e1
   simp only [Option.bind_some] at e1
   rw [if_neg (by omega), if_neg (by omega)] at e1
   injection e1 with e1; injection e1 with _ e1; injection e1 with e1 _; omega
  ·rw [Bu at_ seed 5 (by omega) (by omega) (by omega) (by omega)] at e1
   injection e1 with e1; injection e1 with _ e1; injection e1 with e1 _; omega
 obtain ⟨c, a2, z2, e2, c0, c1, b3, b4⟩ := Au hs a1 z1 4 (by omega) (by omega)
 have b3' : a1 < a2 := by
  by_cases q : a1 < (s.length : Int)
  ·obtain ⟨x, z, e, _⟩ := C8 hs a1 z1 (by omega) (by omega)
   unfold spec_l1Cur_pick.f at e2
   rw [if_neg (by omega), e] at e2
   simp only [Option.bind_some] at e2
   rw [if_neg (by omega), if_neg (by omega)] at e2
   injection e2 with e2; injection e2 with _ e2; injection e2 with e2 _; omega
  ·rw [Bu a1 z1 4 (by omega) (by omega) (by omega) (by omega)] at e2
   injection e2 with e2; injection e2 with _ e2; injection e2 with e2 _; omega
 obtain ⟨t, ht1, ht2, ht3, hst⟩ : ∃ t : Nat, 1 ≤ t ∧ p + t ≤ x1.size ∧ t ≤ 5 ∧ ∀ r, Ev (fun k => spec_l1Cur_opOn.j1 k x1 x5 (p : Int) (t : Int) s a1 z1) r → Ev (fun k => spec_l1Cur_opOn.l0 k x1 x5 (p : Int) s at_ seed) r := by
  have w1 : wrap64 (1 + n) = 1 + n := wrap_id (by omega) (by omega)
  have w2 : wrap64 ((x1.size : Int) - (p : Int)) = (x1.size : Int) - (p : Int) := wrap_id (by omega) (by omega)
  by_cases g : 1 + n > (x1.size : Int) - (p : Int)
  ·refine ⟨x1.size - p, by omega, by omega, by omega, fun r h => ?_⟩
   refine Ev.step (fun k => by rw [spec_l1Cur_opOn.l0]) ?_
   refine ev_pos (by omega) (ev_eq e1 ?_)
   rw [w1, w2]
   refine ev_pos g ?_
   rw [show (x1.size : Int) - (p : Int) = ((x1.size - p : Nat) : Int) by omega]; exact h
  ·obtain ⟨nn, rfl⟩ := Int.eq_ofNat_of_zero_le n0
   refine ⟨1 + nn, by omega, by omega, by omega, fun r h => ?_⟩
   refine Ev.step (fun k => by rw [spec_l1Cur_opOn.l0]) ?_
   refine ev_pos (by omega) (ev_eq e1 ?_)
   rw [w1, w2]
   refine ev_neg g ?_
   rw [show 1 + (nn : Int) = ((1 + nn : Nat) : Int) by omega]; exact h
 have w3 : wrap64 ((p : Int) + (t : Int)) = ((p + t : Nat) : Int) := by rw [wrap_id (by omega) (by omega)]; omega
 by_cases h3 : c = 0
 ·refine ⟨a2, z2, ⟨0, (⟨#[]⟩ : ByteArray), x1.extract p (p + t)⟩, p + t, by omega, by omega, by omega, ⟨Int.le_refl _, (by show (0 : Int) ≤ 5; omega), Nat.zero_le _, ?_⟩, .inl (by omega), fun r h => hst r ?_⟩
  ·show (x1.extract p (p + t)).size ≤ _
   rw [ByteArray.size_extract]; omega
  refine Ev.step (fun k => by rw [spec_l1Cur_opOn.j1]) ?_
  rw [w3, Int.toNat_natCast, Int.toNat_natCast]
  exact ev_eq e2 (ev_pos h3 (ev_pos (by omega) (ev_pos (by omega) (ev_pos (by omega) (ev_pos (by omega) h)))))
 by_cases h4 : c = 1
 rotate_left
 ·refine ⟨a2, z2, ⟨(t : Int), (⟨#[]⟩ : ByteArray), (⟨#[]⟩ : ByteArray)⟩, p + t, by omega, by omega, by omega, ⟨(by show (0 : Int) ≤ (t : Int); omega), (by show (t : Int) ≤ 5; omega), Nat.zero_le _, Nat.zero_le _⟩, .inl (by omega), fun r h => hst r ?_⟩
  refine Ev.step (fun k => by rw [spec_l1Cur_opOn.j1]) ?_
  rw [w3]
  exact ev_eq e2 (ev_neg h3 (ev_neg h4 (ev_pos (by omega) h)))
 obtain ⟨u, a3, z3, e3, u1, b5, b6⟩ := FB hs a2 z2 A0 (by omega) (by omega) (by simp [A0]) (by simp [A0]) 3 (by
  intro x hx
  simp only [A0, List.mem_cons, List.not_mem_nil, or_false] at hx
  rcases hx with rfl | rfl | rfl | rfl | rfl <;> decide)
 refine ⟨a3, z3, ⟨0, u, (⟨#[]⟩ : ByteArray)⟩, p, by omega, by omega, by omega, ⟨Int.le_refl _, (by show (0 : Int) ≤ 5; omega), (by show u.size ≤ 3; omega), Nat.zero_le _⟩, .inr ⟨rfl, fun hc => ?_⟩, fun r h => hst r ?_⟩
 rotate_left
 ·refine Ev.step (fun k => by rw [spec_l1Cur_opOn.j1]) ?_
  exact ev_eq e2 (ev_neg h3 (ev_pos h4 (ev_eq e3 (ev_pos (by omega) h))))
 rw [Bu at_ seed 5 (by omega) (by omega) (by omega) (by omega)] at e1
 injection e1 with e1; injection e1 with _ e1; injection e1 with f1 g1
 rw [Bu a1 z1 4 (by omega) (by omega) (by omega) (by omega)] at e2
 injection e2 with e2; injection e2 with k2 e2; injection e2 with f2 g2
 obtain ⟨x, hx⟩ := Gm (s := s) a2 z2 A0 (by omega) (by omega) (by simp [A0]) (by simp [A0])
 rw [hx] at e3
 injection e3 with e3; injection e3 with _ e3; injection e3 with f3 g3
 rw [← g1] at g2 k2
 refine ⟨?_, ?_⟩
 rotate_left
 ·rw [← g3, ← g2]; rfl
 rw [h4] at k2
 unfold Qr
 clear hst
 generalize Br (Br seed) / 1099511627776 = X at k2 ⊢
 omega
def Bm (s : List Int) (x1 : ByteArray) (r K : Nat) (m : Int → Int → Prop) : Prop := ∀ (x5 : List IP) (p : Nat) (at_ seed : Int), p + r = x1.size → m at_ seed → 0 ≤ at_ → at_ + 6 * (K : Int) ≤ 8000000000000000 → x5.length + K ≤ 3518437208000 → (∀ x ∈ x5, FF x) →
 ∃ (o : List IP) (at' seed' : Int), Ev (fun k => spec_l1Cur_opOn.l0 k x1 x5 (p : Int) s at_ seed) (o, at', seed') ∧ at_ ≤ at' ∧ at' ≤ at_ + 6 * (K : Int) ∧ o.length ≤ x5.length + K ∧ ∀ x ∈ o, FF x
theorem Ey {s : List Int} (hs : AX s) (x1 : ByteArray) (h1 : x1.size ≤ 10000000000) : Bm s x1 0 2 (fun _ _ => True) := by
 intro x5 p at_ seed hp _ h0 ha hl hsm
 obtain ⟨b, a1, z1, e1, b1, b2⟩ := CW hs at_ seed 3 h0 (by omega)
 cases b with
 | false =>
  refine ⟨x5, a1, z1, ?_, by omega, by omega, by omega, hsm⟩
  refine Ev.step (fun k => by rw [spec_l1Cur_opOn.l0]) ?_
  exact ev_neg (by omega) (ev_eq e1 (ev_neg (by simp) (ev_ret rfl)))
 | true =>
  obtain ⟨u, a2, z2, e2, u1, b3, b4⟩ := FB hs a1 z1 [(⟨#[101, 110, 100]⟩ : ByteArray), (⟨#[46]⟩ : ByteArray)] (by omega) (by omega) (by simp) (by simp) 3 (by
   intro x hx
   simp only [List.mem_cons, List.not_mem_nil, or_false] at hx
   rcases hx with rfl | rfl <;> decide)
  refine ⟨x5 ++ [⟨0, u, (⟨#[]⟩ : ByteArray)⟩], a2, z2, ?_, by omega, by omega, by rw [List.length_append, List.length_singleton]; omega, Db hsm ⟨Int.le_refl _, (by show (0 : Int) ≤ 5; omega), (by show u.size ≤ 3; omega), Nat.zero_le _⟩⟩
  refine Ev.step (fun k => by rw [spec_l1Cur_opOn.l0]) ?_
  exact ev_neg (by omega) (ev_eq e1 (ev_pos rfl (ev_eq e2 (ev_pos (by omega) (ev_ret rfl)))))
theorem Cx {s : List Int} (hs : AX s) (x1 : ByteArray) (h1 : x1.size ≤ 10000000000) (r K : Nat) (m : Int → Int → Prop) (hr : 0 < r)
  (hadv : ∀ r', r' < r → Bm s x1 r' K (fun at_ _ => ∃ a z, m a z ∧ a + 2 ≤ at_))
  (hput : Bm s x1 r K (fun at_ seed => ∃ a z, m a z ∧ a + 2 ≤ at_ ∧ ((s.length : Int) ≤ a → Qr (Br (Br z)) ∧ seed = C0 z))) : Bm s x1 r (K + 1) m := by
 intro x5 p at_ seed hp hm h0 ha hl hsm
 obtain ⟨a', z', q, p', c1, c2, c3, c4, c5, c6⟩ := Gk hs x1 h1 x5 (by omega) p (by omega) at_ seed h0 (by omega)
 have hlen : (x5 ++ [q]).length = x5.length + 1 := by rw [List.length_append, List.length_singleton]
 rcases c5 with c5 | ⟨c5, c7⟩
 rotate_left
 ·subst c5
  obtain ⟨o, at', seed', q1, q2, q3, q4, q5⟩ := hput (x5 ++ [q]) p' a' z' hp ⟨at_, seed, hm, c1, c7⟩ (by omega) (by omega) (by omega) (Db hsm c4)
  exact ⟨o, at', seed', c6 _ q1, by omega, by omega, by omega, q5⟩
 obtain ⟨o, at', seed', q1, q2, q3, q4, q5⟩ := hadv (x1.size - p') (by omega) (x5 ++ [q]) p' a' z' (by omega) ⟨at_, seed, hm, c1⟩ (by omega) (by omega) (by omega) (Db hsm c4)
 exact ⟨o, at', seed', c6 _ q1, by omega, by omega, by omega, q5⟩
theorem Bm.imp {s : List Int} {x1 : ByteArray} {r K K' : Nat} {m m' : Int → Int → Prop} (h : Bm s x1 r K m) (hm : ∀ a z, m' a z → m a z) (hK : K ≤ K') : Bm s x1 r K' m' := by
 intro x5 p at_ seed hp hm' h0 ha hl hsm
 obtain ⟨o, at', seed', q1, q2, q3, q4, q5⟩ := h x5 p at_ seed hp (hm _ _ hm') h0 (by omega) (by omega) hsm
 exact ⟨o, at', seed', q1, q2, by omega, by omega, q5⟩
theorem ED (z : Int) : Br (Br (C0 z)) = C0 (Br (Br z)) := rfl
theorem Es {s : List Int} (hs : AX s) (x1 : ByteArray) (h1 : x1.size ≤ 10000000000) (r K : Nat) (hr : 0 < r)
  (hadv : ∀ r', r' < r → Bm s x1 r' K (fun at_ _ => (s.length : Int) ≤ at_)) (w : Int) (d : Nat) : ∀ i : Nat, i + d = 597 → (∀ j, j < i → Qr (tI j w)) →
   Bm s x1 r (K + d) (fun at_ seed => (s.length : Int) ≤ at_ ∧ Br (Br seed) = tI i w) := by
 induction d with
 | zero =>
  intro i hi hq
  exact absurd (FR w (fun j hj => hq j (by omega))) id
 | succ d ih =>
  intro i hi hq
  refine Cx hs x1 h1 r (K + d) _ hr (fun r' hr' => (hadv r' hr').imp (fun a z ⟨a0, z0, q, q2⟩ => by have := q.1; omega) (by omega)) ?_
  by_cases hqi : Qr (tI i w)
  rotate_left
  ·intro x5 p at_ seed hp ⟨a0, z0, q, q2, q3⟩
   obtain ⟨g1, _⟩ := q3 q.1
   rw [q.2] at g1
   exact absurd g1 hqi
  refine (ih (i + 1) (by omega) (fun j hj => ?_)).imp (fun a z ⟨a0, z0, q, q2, q3⟩ => ?_) (Nat.le_refl _)
  ·by_cases hji : j < i
   ·exact hq j hji
   have : j = i := by omega
   subst this; exact hqi
  obtain ⟨_, g2⟩ := q3 q.1
  refine ⟨by have := q.1; omega, ?_⟩
  rw [g2, ED, q.2, FI]
theorem Cp {s : List Int} (hs : AX s) (x1 : ByteArray) (h1 : x1.size ≤ 10000000000) (r K : Nat) (hr : 0 < r)
  (hadv : ∀ r', r' < r → ∀ m : Nat, Bm s x1 r' (K + m) (fun at_ _ => (s.length : Int) ≤ at_ + 2 * (m : Int))) : ∀ m : Nat,
   Bm s x1 r (K + 597 + m) (fun at_ _ => (s.length : Int) ≤ at_ + 2 * (m : Int))
 | 0 => by
  intro x5 p at_ seed hp hm
  exact Es hs x1 h1 r K hr (fun r' hr' => (hadv r' hr' 0).imp (fun a z q => by omega) (Nat.le_refl _)) (Br (Br seed)) 597 0 (by omega) (fun j hj => by omega) x5 p at_ seed hp ⟨by omega, rfl⟩
 | m + 1 => by
  refine Cx hs x1 h1 r (K + 597 + m) _ hr (fun r' hr' => (hadv r' hr' m).imp (fun a z ⟨a0, z0, q, q2⟩ => by omega) (by omega)) ?_
  exact (Cp hs x1 h1 r K hr hadv m).imp (fun a z ⟨a0, z0, q, q2, _⟩ => by omega) (Nat.le_refl _)
theorem Ez {s : List Int} (hs : AX s) (x1 : ByteArray) (h1 : x1.size ≤ 10000000000) (r : Nat) : ∀ r', r' ≤ r → ∀ m : Nat, Bm s x1 r' (r * 597 + 2 + m) (fun at_ _ => (s.length : Int) ≤ at_ + 2 * (m : Int)) := by
 induction r with
 | zero =>
  intro r' hr' m
  have : r' = 0 := by omega
  subst this
  exact (Ey hs x1 h1).imp (fun _ _ _ => trivial) (by omega)
 | succ r ih =>
  intro r' hr' m
  have e : (r + 1) * 597 = r * 597 + 597 := Nat.succ_mul _ _
  by_cases h : r' ≤ r
  ·exact (ih r' h m).imp (fun _ _ q => q) (by omega)
  exact (Cp hs x1 h1 r' (r * 597 + 2) (by omega) (fun r'' hr'' m => ih r'' (by omega) m) m).imp (fun _ _ q => q) (by omega)
theorem DZ {s : List Int} (hs : AX s) (n : Nat) (hn : s.length ≤ 2 * n) (t : ByteArray) (hK : t.size * 597 + 2 + n ≤ 3518437208000) (at_ seed : Int) (h0 : 0 ≤ at_) (h1 : at_ ≤ 200000000000000) :
  ∃ (o : List IP) (at' seed' : Int), Ev (fun k => spec_l1Cur_opOn.f k s at_ seed t) (o, at', seed') ∧ at_ ≤ at' ∧ at' ≤ at_ + 6 * ((t.size * 597 + 2 + n : Nat) : Int) ∧ o.length ≤ t.size * 597 + 2 + n ∧ ∀ x ∈ o, FF x := by
 obtain ⟨o, at', seed', q1, q2, q3, q4, q5⟩ := Ez hs t (by omega) t.size t.size (Nat.le_refl _) n [] 0 at_ seed (by omega) (by omega) h0 (by omega) (by simp only [List.length_nil]; omega) (fun x hx => by cases hx)
 refine ⟨o, at', seed', q1, q2, q3, by simp only [List.length_nil] at q4; omega, q5⟩
theorem Cf {s : List Int} (hs : AX s) (at_ seed : Int) (h0 : 0 ≤ at_) (h1 : at_ ≤ 400000000000000) :
  ∃ (t : ByteArray) (at' seed' : Int), Ev (fun k => spec_l1Cur_plainText.f k s at_ seed) (t, at', seed') ∧ at_ ≤ at' ∧ at' ≤ at_ + 60000 ∧ t.size ≤ 300 := by
 obtain ⟨x, a1, z1, e1, b1, b2, hx⟩ := Gr hs at_ seed h0 (by omega)
 have hg := AQ x (by omega)
 unfold spec_l1Cur_plainText.f
 by_cases g : goodB (bytesOf x) = true
 rotate_left
 ·exact ⟨(⟨#[116, 101, 120, 116]⟩ : ByteArray), a1, z1, Ev.bind e1 (Ev.bind hg (ev_neg g (ev_neg (by omega) (ev_ret rfl)))), by omega, by omega, by decide⟩
 have hz := By g
 by_cases c : (x.size : Int) > 40
 rotate_left
 ·exact ⟨x, a1, z1, Ev.bind e1 (Ev.bind hg (ev_pos g (ev_neg c (ev_ret rfl)))), by omega, by omega, hz⟩
 obtain ⟨b, a2, z2, e2, b3, b4⟩ := CW hs a1 z1 20 (by omega) (by omega)
 cases b with
 | true => exact ⟨x, a2, z2, Ev.bind e1 (Ev.bind hg (ev_pos g (ev_pos c (ev_eq e2 (ev_pos rfl (ev_ret rfl)))))), by omega, by omega, hz⟩
 | false => exact ⟨x.extract 0 40, a2, z2, Ev.bind e1 (Ev.bind hg (ev_pos g (ev_pos c (ev_eq e2 (ev_neg (by simp) (ev_pos (by omega) (ev_pos (by dsimp only; omega) (ev_ret rfl)))))))), by omega, by omega, by rw [ByteArray.size_extract]; omega⟩
theorem Gu {x : Int} (h : (Lit.int .u8 x).wf = true) : 0 ≤ x ∧ x ≤ 255 := by
 simp [Lit.wf, IntKind.min, IntKind.max, IntKind.signed, IntKind.bits] at h
 omega
theorem FO {l : List Int} (hl : l.length ≤ 1048576) (h : ∀ x ∈ l, (Lit.int .u8 x).wf = true) : AX l := ⟨fun x hx => Gu (h x hx), by omega⟩
abbrev EG (l : List IP) : Prop := ∀ x ∈ l, x.f1.size ≤ 1048576 ∧ x.f2.size ≤ 1048576
theorem C3 {l : List IP} (h : ∀ p ∈ l, FF p) : EG l := fun x hx => by
 obtain ⟨_, _, a, b⟩ := h x hx; omega
theorem Dz (l : List IP) (hl : l.length ≤ 3518437208883) (hp : ∀ p ∈ l, FF p) (c : Nat) (hc : c ≤ 10000000000) (d : Nat) : ∀ (i : Nat) (s o : ByteArray), i + d = l.length → o.size + s.size ≤ c + 3 * i →
  ∃ r : ByteArray × Bool, Ev (fun k => spec_l3Apply.l0 k s o l (l.length : Int) (i : Int)) r ∧ r.1.size ≤ c + 3 * l.length := by
 induction d with
 | zero =>
  intro i s o hi ho
  exact ⟨_, Ev.step (fun k => by rw [spec_l3Apply.l0]) (ev_neg (by omega) (ev_ret rfl)), by show o.size ≤ _; omega⟩
 | succ d ih =>
  intro i s o hi ho
  obtain ⟨f1, f2, f3, f4⟩ := hp _ (gt_mem Bp l i (by omega))
  obtain ⟨n, hn, hn2⟩ : ∃ n : Nat, wrap64 ((gt Bp l i).f0 + ((gt Bp l i).f2.size : Int)) = (n : Int) ∧ n ≤ 10 := ⟨(gt Bp l i).f0.toNat + (gt Bp l i).f2.size, by rw [wrap_id (by omega) (by omega)]; omega, by omega⟩
  have J : ∀ b : Bool, (b = true ∨ n ≤ s.size) → ∃ r : ByteArray × Bool, Ev (fun k => spec_l3Apply.j1 k s o (n : Int) l (l.length : Int) (i : Int) b (gt Bp l i).f0 (gt Bp l i).f1 (gt Bp l i).f2) r ∧ r.1.size ≤ c + 3 * l.length := by
   intro b hb
   cases b with
   | true => exact ⟨(E0, false), Ev.step (fun k => by rw [spec_l3Apply.j1]) (ev_pos rfl (ev_ret rfl)), Nat.zero_le _⟩
   | false =>
    have hle := hb.resolve_left (by simp)
    by_cases g : (gt Bp l i).f0 > 0
    ·obtain ⟨r, h1, h2⟩ := ih (i + 1) (s.extract n s.size) ((o ++ s.extract 0 n) ++ (gt Bp l i).f1) (by omega) (by rw [ByteArray.size_append, ByteArray.size_append, Bt, Bt]; omega)
     refine ⟨r, Ev.step (fun k => by rw [spec_l3Apply.j1]) (ev_neg (by simp) (ev_pos g (ev_pos (by omega) (ev_pos (by omega) (ev_pos (by rw [Int.toNat_natCast, Bt]; omega) (ev_pos (by rw [Int.toNat_natCast, ByteArray.size_append, Bt]; omega) ?_)))))), h2⟩
     rw [Int.toNat_natCast, wrap_succ i (by omega)]
     exact h1
    ·obtain ⟨r, h1, h2⟩ := ih (i + 1) (s.extract n s.size) (o ++ (gt Bp l i).f1) (by omega) (by rw [ByteArray.size_append, Bt]; omega)
     refine ⟨r, Ev.step (fun k => by rw [spec_l3Apply.j1]) (ev_neg (by simp) (ev_neg g (ev_pos (by omega) (ev_pos (by omega) (ev_pos (by omega) ?_))))), h2⟩
     rw [Int.toNat_natCast, wrap_succ i (by omega)]
     exact h1
  by_cases h : (n : Int) > (s.size : Int)
  ·obtain ⟨r, h1, h2⟩ := J true (.inl rfl)
   refine ⟨r, Ev.step (fun k => by rw [spec_l3Apply.l0]) (ev_pos (by omega) (ev_pos (by omega) (ev_pos (by omega) ?_))), h2⟩
   simp only [Bo, hn]
   exact ev_pos h h1
  by_cases g : (gt Bp l i).f2.toList = ([] : List UInt8)
  ·obtain ⟨r, h1, h2⟩ := J false (.inr (by omega))
   refine ⟨r, Ev.step (fun k => by rw [spec_l3Apply.l0]) (ev_pos (by omega) (ev_pos (by omega) (ev_pos (by omega) ?_))), h2⟩
   simp only [Bo, hn]
   exact ev_neg h (ev_pos g h1)
  obtain ⟨r, h1, h2⟩ := J ((s.extract 0 ((n : Int)).toNat).toList != (gt Bp l i).f2.toList) (.inr (by omega))
  refine ⟨r, Ev.step (fun k => by rw [spec_l3Apply.l0]) (ev_pos (by omega) (ev_pos (by omega) (ev_pos (by omega) ?_))), h2⟩
  simp only [Bo, hn]
  exact ev_neg h (ev_neg g (ev_pos (by omega) (ev_pos (by omega) h1)))
def KN : Nat := 524288
theorem D4 {n : Nat} (h : n ≤ 1048576) : n ≤ 2 * KN := by unfold KN; omega
def Fv : Nat → Nat → Prop
 | 0, _ => True
 | n + 1, c => c * 597 + 2 + KN ≤ 3518437208000 ∧ c ≤ 10000000000 ∧ Fv n (c + 3 * (c * 597 + 2 + KN))
theorem Ex : Fv 3 300 := by
 have k : KN = 524288 := rfl
 unfold Fv; refine ⟨by omega, by omega, ?_⟩
 unfold Fv; refine ⟨by omega, by omega, ?_⟩
 unfold Fv; refine ⟨by omega, by omega, ?_⟩
 unfold Fv; trivial
theorem DD : ∀ (n m c : Nat), m ≤ n → Fv n c → Fv m c
 | _, 0, _, _, _ => trivial
 | 0, m + 1, _, h, _ => absurd h (by omega)
 | n + 1, m + 1, c, h, ⟨h1, h2, h3⟩ => ⟨h1, h2, DD n m _ (by omega) h3⟩
theorem Ge {u c : Nat} (h : u ≤ c) (k : c * 597 + 2 + KN ≤ 3518437208000) : u * 597 + 2 + KN ≤ 3518437208000 := Nat.le_trans (Nat.add_le_add_right (Nat.add_le_add_right (Nat.mul_le_mul_right 597 h) 2) KN) k
theorem F8 {u c x P : Nat} (h : u ≤ c) (hp : P ≤ u * 597 + 2 + KN) (hx : x ≤ u + 3 * P) : x ≤ c + 3 * (c * 597 + 2 + KN) := by omega
theorem Fp {s : List Int} (hs : AX s) (hsl : s.length ≤ 1048576) : ∀ (n c : Nat) (t : ByteArray) (L : List (List IP)) (a z : Int), Fv n c → t.size ≤ c → 0 ≤ a → a + 21110623250000 * (n : Int) ≤ 100000000000000 → L.length + n ≤ 100 → (∀ b ∈ L, EG b) →
  ∃ (L' : List (List IP)) (a' z' : Int), Ev (fun k => spec_DrawTransformOver.g k s n t L a z) (L', a', z') ∧ L'.length ≤ L.length + n ∧ (∀ b ∈ L', EG b) ∧ a ≤ a' ∧ a' ≤ a + 21110623250000 * (n : Int)
 | 0, c, t, L, a, z, _, _, _, _, _, hL => ⟨L, a, z, ev_ret rfl, by omega, hL, by omega, by omega⟩
 | n + 1, c, t, L, a, z, hk, ht, h0, h1, hn, hL => by
  obtain ⟨k1, k2, k3⟩ : c * 597 + 2 + KN ≤ 3518437208000 ∧ c ≤ 10000000000 ∧ Fv n (c + 3 * (c * 597 + 2 + KN)) := hk
  have k4 := Ge ht k1
  obtain ⟨o, a2, z2, e2, b3, b4, ho, hsm⟩ := DZ hs KN (D4 hsl) t k4 a z (by omega) (by omega)
  obtain ⟨⟨u, uk⟩, e3, hu⟩ := Dz o (by omega) hsm t.size (by omega) o.length 0 t E0 (by omega) (by show 0 + t.size ≤ _; omega)
  have e3' : Ev (fun k => spec_l3Apply.f k o t) (u, uk) := by unfold spec_l3Apply.f; exact e3
  dsimp only at hu
  obtain ⟨L', a', z', q1, q2, q3, q4, q5⟩ := Fp hs hsl n (c + 3 * (c * 597 + 2 + KN)) u (L ++ [o]) a2 z2 k3 (F8 ht ho hu) (by omega) (by omega) (by rw [List.length_append, List.length_singleton]; omega) (fun b hb => by
   rcases List.mem_append.1 hb with hb | hb
   ·exact hL b hb
   ·rw [List.mem_singleton.1 hb]; exact C3 hsm)
  rw [List.length_append, List.length_singleton] at q2
  exact ⟨L', a', z', Ev.bind e2 (Ev.bind e3' (ev_pos (by omega) q1)), by omega, q3, by omega, by omega⟩
theorem E5 {l : List IP} {p : IP} (h : EG l) (hp : p.f1.size ≤ 1048576 ∧ p.f2.size ≤ 1048576) (i : Nat) : EG (l.set i p) := fun x hx => by
 rcases List.mem_or_eq_of_mem_set hx with q | q
 ·exact h x q
 ·rw [q]; exact hp
theorem Fc {l : List IP} {p : IP} (h : EG l) (hp : p.f1.size ≤ 1048576 ∧ p.f2.size ≤ 1048576) : EG (l ++ [p]) := fun x hx => by
 rcases List.mem_append.1 hx with q | q
 ·exact h x q
 ·rw [List.mem_singleton.1 q]; exact hp
theorem FG {s : List Int} (hs : AX s) (at_ seed : Int) (l : List Int) (h0 : 0 ≤ at_) (h1 : at_ ≤ 10000000000000000) (hl : 1 ≤ l.length) : ∃ r a' z', spec_l1Cur_among.f s at_ seed l = some (r, a', z') ∧ at_ ≤ a' ∧ a' ≤ at_ + 2 := by
 obtain ⟨r, a, z, e, b1, b2, b3, b4⟩ := Au hs at_ seed (l.length : Int) h0 h1
 have b2' := b2 (by omega)
 unfold spec_l1Cur_among.f
 rw [e]
 exact ⟨rd l r, a, z, by simp only [Option.bind_some]; rw [if_pos b1, if_pos b2'], b3, b4⟩
theorem GA {s : List Int} (hs : AX s) (hsl : s.length ≤ 1048576) (at_ seed : Int) (h0 : 0 ≤ at_) (h1 : at_ ≤ 100000000000000) : ∃ (o : List IP) (a z : Int), Ev (fun k => spec_l1Cur_op.f k s at_ seed) (o, a, z) ∧ EG o := by
 have kn : KN = 524288 := rfl
 obtain ⟨t, a1, z1, e1, b1, b2, ht⟩ := Cf hs at_ seed h0 (by omega)
 obtain ⟨o, a2, z2, e2, b3, b4, ho, hsm0⟩ := DZ hs KN (D4 hsl) t (by unfold KN; omega) a1 z1 (by omega) (by omega)
 have hsm := C3 hsm0
 have hj : ∀ (b : Bool) (a3 z3 : Int), a2 ≤ a3 → a3 ≤ a2 + 10 → 0 < o.length ∨ b = false → ∃ (o' : List IP) (a z : Int), Ev (fun k => spec_l1Cur_op.j0 k o b s a3 z3) (o', a, z) ∧ EG o' := by
  intro b a3 z3 c1 c2 c3
  cases b with
  | false =>
   refine ⟨o, a3, z3, Ev.step (fun k => by rw [spec_l1Cur_op.j0]) (ev_neg (by simp) (ev_ret rfl)), hsm⟩
  | true =>
   have hpos : 0 < o.length := c3.resolve_right (by simp)
   obtain ⟨r4, a4, z4, e4, d1, d2, d3, d4⟩ := Au hs a3 z3 4 (by omega) (by omega)
   by_cases q0 : r4 = 0
   ·obtain ⟨r5, a5, z5, e5, f1, f2, f3, f4⟩ := Au hs a4 z4 (o.length : Int) (by omega) (by omega)
    obtain ⟨r6, a6, z6, e6, g1, g2, g3, g4⟩ := Au hs a5 z5 5 (by omega) (by omega)
    have f2' := f2 (by omega)
    obtain ⟨n5, rfl⟩ := Int.eq_ofNat_of_zero_le f1
    have hx := hsm _ (gt_mem Bp o n5 (by omega))
    refine ⟨o.set n5 ⟨wrap64 (r6 - 1), (gt Bp o n5).f1, (gt Bp o n5).f2⟩, a6, z6, ?_, E5 hsm (p := (⟨wrap64 (r6 - 1), (gt Bp o n5).f1, (gt Bp o n5).f2⟩ : IP)) hx _⟩
    refine Ev.step (fun k => by rw [spec_l1Cur_op.j0]) ?_
    exact (ev_pos rfl (ev_eq e4 (ev_pos q0 (ev_eq e5 (ev_eq e6 (ev_pos f1 (ev_pos f2' (ev_ret rfl))))))))
   ·by_cases q1 : r4 = 1
    ·obtain ⟨r5, a5, z5, e5, f1, f2, f3, f4⟩ := Au hs a4 z4 (o.length : Int) (by omega) (by omega)
     have f2' := f2 (by omega)
     obtain ⟨n5, rfl⟩ := Int.eq_ofNat_of_zero_le f1
     have hx := hsm _ (gt_mem Bp o n5 (by omega))
     refine ⟨o.set n5 ⟨(gt Bp o n5).f0, (⟨#[90]⟩ : ByteArray), (gt Bp o n5).f2⟩, a5, z5, ?_, E5 hsm (p := (⟨(gt Bp o n5).f0, (⟨#[90]⟩ : ByteArray), (gt Bp o n5).f2⟩ : IP)) ⟨(show (1 : Nat) ≤ 1048576 by omega), hx.2⟩ _⟩
     refine Ev.step (fun k => by rw [spec_l1Cur_op.j0]) ?_
     exact (ev_pos rfl (ev_eq e4 (ev_neg q0 (ev_pos q1 (ev_eq e5 (ev_pos f1 (ev_pos f2' (ev_ret rfl))))))))
    ·by_cases q2 : r4 = 2
     ·refine ⟨o ++ [⟨0, (⟨#[]⟩ : ByteArray), (⟨#[]⟩ : ByteArray)⟩], a4, z4, ?_, Fc hsm ⟨Nat.zero_le _, Nat.zero_le _⟩⟩
      refine Ev.step (fun k => by rw [spec_l1Cur_op.j0]) ?_
      exact (ev_pos rfl (ev_eq e4 (ev_neg q0 (ev_neg q1 (ev_pos q2 (ev_pos (by omega) (ev_ret rfl)))))))
     ·obtain ⟨r5, a5, z5, e5, f3, f4⟩ := FG hs a4 z4 ([300, 301] : List Int) (by omega) (by omega) (by decide)
      refine ⟨o ++ [⟨r5, (⟨#[]⟩ : ByteArray), (⟨#[]⟩ : ByteArray)⟩], a5, z5, ?_, Fc hsm ⟨Nat.zero_le _, Nat.zero_le _⟩⟩
      refine Ev.step (fun k => by rw [spec_l1Cur_op.j0]) ?_
      exact (ev_pos rfl (ev_eq e4 (ev_neg q0 (ev_neg q1 (ev_neg q2 (ev_eq e5 (ev_pos (by omega) (ev_ret rfl))))))))
 unfold spec_l1Cur_op.f
 by_cases c : 0 < o.length
 rotate_left
 ·obtain ⟨o', a, z, h1, h5⟩ := hj false a2 z2 (by omega) (by omega) (.inr rfl)
  exact ⟨o', a, z, Ev.bind e1 (Ev.bind e2 (ev_neg (by dsimp only; omega) h1)), h5⟩
 obtain ⟨b, a3, z3, e3, b5, b6⟩ := CW hs a2 z2 12 (by omega) (by omega)
 obtain ⟨o', a, z, h1, h5⟩ := hj b a3 z3 (by omega) (by omega) (.inl c)
 exact ⟨o', a, z, Ev.bind e1 (Ev.bind e2 (ev_pos (by dsimp only; omega) (ev_eq e3 h1))), h5⟩
theorem DT {s : List Int} (hs : AX s) (hsl : s.length ≤ 1048576) : ∃ r : List IP × List (List IP), Ev (fun k => spec_DrawTransformOver.f k s) r ∧ EG r.1 ∧ r.2.length ≤ 10 ∧ ∀ b ∈ r.2, EG b := by
 have kn : KN = 524288 := rfl
 obtain ⟨t, a1, z1, e1, b1, b2, ht⟩ := Cf hs 0 0 (Int.le_refl _) (by omega)
 obtain ⟨o, a2, z2, e2, b3, b4, ho, hsm⟩ := DZ hs KN (D4 hsl) t (by unfold KN; omega) a1 z1 (by omega) (by omega)
 obtain ⟨n, a3, z3, e3, n0, n1, b5, b6⟩ := Au hs a2 z2 4 (by omega) (by omega)
 have n2 := n1 (by omega)
 obtain ⟨L, a4, z4, e4, hl, hL, b7, b8⟩ := Fp hs hsl n.toNat 300 t [] a3 z3 (DD 3 _ _ (by omega) Ex) ht (by omega) (by omega) (by simp; omega) (fun b hb => by cases hb)
 simp only [List.length_nil] at hl
 obtain ⟨c, a5, z5, e5, b9, b10⟩ := CW hs a4 z4 20 (by omega) (by omega)
 unfold spec_DrawTransformOver.f
 cases c with
 | false => exact ⟨(o, L), Ev.bind e1 (Ev.bind e2 (ev_eq e3 (ev_pos (by dsimp only; omega) (Ev.bind e4 (ev_eq e5 (ev_neg (by simp) (ev_ret rfl))))))), C3 hsm, by dsimp only; omega, hL⟩
 | true =>
  obtain ⟨b, a6, z6, e6, hb⟩ := GA hs hsl a5 z5 (by omega) (by omega)
  refine ⟨(o, L ++ [b]), Ev.bind e1 (Ev.bind e2 (ev_eq e3 (ev_pos (by dsimp only; omega) (Ev.bind e4 (ev_eq e5 (ev_pos rfl (Ev.bind e6 (ev_pos (by dsimp only; omega) (ev_ret rfl))))))))), C3 hsm, by simp; omega, fun x hx => ?_⟩
  rcases List.mem_append.1 hx with hx | hx
  ·exact hL x hx
  rw [List.mem_singleton.1 hx]; exact hb
theorem Cm (l : List IP) (hl : l.length ≤ 1000000) (d : Nat) : ∀ i : Nat, i + d = l.length → Ev (fun k => laws_sameOps.l0 k l l (l.length : Int) (i : Int)) true := by
 induction d with
 | zero =>
  intro i hi
  refine Ev.step (fun k => by rw [laws_sameOps.l0]) ?_
  exact ev_neg (by omega) (ev_ret rfl)
 | succ d ih =>
  intro i hi
  refine Ev.step (fun k => by rw [laws_sameOps.l0]) ?_
  refine ev_pos (by omega) (ev_pos (by omega) (ev_pos (by omega) (ev_pos (by omega) (ev_neg (by simp) ?_))))
  rw [wrap_succ i (by omega)]
  exact ih (i + 1) (by omega)
theorem A5 (l : List IP) (hl : l.length ≤ 1000000) : Ev (fun k => laws_sameOps.f k l l) true := by
 unfold laws_sameOps.f
 exact ev_pos rfl (Cm l hl l.length 0 (by omega))
theorem BA (l : List IP) (hl : l.length ≤ 1048576) (hw : ∀ x ∈ l, x.f1.size ≤ 1048576 ∧ x.f2.size ≤ 1048576) : Ev (fun k => impl_SizesOf.f k l) (if Ac l = true then (De l 0, DL l 0, true) else (0, 0, false)) := by
 unfold impl_SizesOf.f
 refine Ev.bind (Ay l hw) (ev_if (fun h => ?_) (fun h => ?_))
 rotate_left
 ·rw [if_neg h]; exact ev_ret rfl
 rw [if_pos h]; exact Ev.bind (BZ l hl) (ev_ret rfl)
theorem Bg : ∀ (n : Nat) (x y u v : List At), x.length + y.length ≤ n → Aw x y = some (u, v) → BO u = CJ y
 | n, .p c :: x, y, u, v, hn, h => by
  rw [Gx] at h
  obtain ⟨⟨u', v'⟩, h1, h2⟩ := Option.map_eq_some_iff.1 h
  obtain ⟨rfl, rfl⟩ := Prod.mk.inj h2
  match n, hn with
  | 0, hn => simp only [List.length_cons] at hn; omega
  | n + 1, hn => exact Bg n x y u' v' (by simp only [List.length_cons] at hn; omega) h1
 | n, [], .p c :: y, u, v, hn, h => by
  rw [F2] at h
  obtain ⟨⟨u', v'⟩, h1, h2⟩ := Option.map_eq_some_iff.1 h
  obtain ⟨rfl, rfl⟩ := Prod.mk.inj h2
  match n, hn with
  | 0, hn => simp only [List.length_cons] at hn; omega
  | n + 1, hn => have := Bg n [] y u' v' (by simp only [List.length_cons] at hn; omega) h1; show BO u' + 1 = CJ y + 1; omega
 | n, .k :: x, .p c :: y, u, v, hn, h => by
  rw [FY] at h
  obtain ⟨⟨u', v'⟩, h1, h2⟩ := Option.map_eq_some_iff.1 h
  obtain ⟨rfl, rfl⟩ := Prod.mk.inj h2
  match n, hn with
  | 0, hn => simp only [List.length_cons] at hn; omega
  | n + 1, hn => have := Bg n (.k :: x) y u' v' (by simp only [List.length_cons] at hn ⊢; omega) h1; show BO u' + 1 = CJ y + 1; omega
 | n, .d e :: x, .p c :: y, u, v, hn, h => by
  rw [FW] at h
  obtain ⟨⟨u', v'⟩, h1, h2⟩ := Option.map_eq_some_iff.1 h
  obtain ⟨rfl, rfl⟩ := Prod.mk.inj h2
  match n, hn with
  | 0, hn => simp only [List.length_cons] at hn; omega
  | n + 1, hn => have := Bg n (.d e :: x) y u' v' (by simp only [List.length_cons] at hn ⊢; omega) h1; show BO u' + 1 = CJ y + 1; omega
 | n, [], [], u, v, hn, h => by
  rw [F4] at h
  obtain ⟨rfl, rfl⟩ := Prod.mk.inj (Option.some.inj h)
  rfl
 | n, .k :: x, .k :: y, u, v, hn, h => by
  rw [F1] at h
  obtain ⟨⟨u', v'⟩, h1, h2⟩ := Option.map_eq_some_iff.1 h
  obtain ⟨rfl, rfl⟩ := Prod.mk.inj h2
  match n, hn with
  | 0, hn => simp only [List.length_cons] at hn; omega
  | n + 1, hn => have := Bg n x y u' v' (by simp only [List.length_cons] at hn; omega) h1; show BO u' + 1 = CJ y + 1; omega
 | n, .k :: x, .d c :: y, u, v, hn, h => by
  rw [FX] at h
  obtain ⟨⟨u', v'⟩, h1, h2⟩ := Option.map_eq_some_iff.1 h
  obtain ⟨rfl, rfl⟩ := Prod.mk.inj h2
  match n, hn with
  | 0, hn => simp only [List.length_cons] at hn; omega
  | n + 1, hn => exact Bg n x y u' v' (by simp only [List.length_cons] at hn; omega) h1
 | n, .d c :: x, .k :: y, u, v, hn, h => by
  rw [F3] at h
  obtain ⟨⟨u', v'⟩, h1, h2⟩ := Option.map_eq_some_iff.1 h
  obtain ⟨rfl, rfl⟩ := Prod.mk.inj h2
  match n, hn with
  | 0, hn => simp only [List.length_cons] at hn; omega
  | n + 1, hn => have := Bg n x y u' v' (by simp only [List.length_cons] at hn; omega) h1; show BO u' + 1 = CJ y + 1; omega
 | n, .d c :: x, .d e :: y, u, v, hn, h => by
  rw [F6] at h
  match n, hn with
  | 0, hn => simp only [List.length_cons] at hn; omega
  | n + 1, hn => exact Bg n x y u v (by simp only [List.length_cons] at hn; omega) h
 | n, [], .k :: y, u, v, hn, h => by rw [Aw] at h <;> first | cases h | (intros; simp_all)
 | n, [], .d c :: y, u, v, hn, h => by rw [Aw] at h <;> first | cases h | (intros; simp_all)
 | n, .k :: x, [], u, v, hn, h => by rw [Aw] at h <;> first | cases h | (intros; simp_all)
 | n, .d c :: x, [], u, v, hn, h => by rw [Aw] at h <;> first | cases h | (intros; simp_all)
theorem Gh {x y : List At} (h : Sim x y) : BO x = BO y := by
 induction h with
 | refl => rfl
 | cons a _ ih => cases a <;> simp only [BO, ih]
 | swap c d l => rfl
 | symm _ ih => exact ih.symm
 | trans _ _ i1 i2 => exact i1.trans i2
theorem Ft {a b : List IP} (h : (BM a b).2.2 = true) : Ac (BM a b).1 = true ∧ Ac b = true ∧ De (BM a b).1 0 = DL b 0 := by
 obtain ⟨hs, r, hr, g1, g2, e⟩ := C4 h
 obtain ⟨ga, gb, _, _⟩ := AW hs
 obtain ⟨nb, tb, sb⟩ := AL gb
 obtain ⟨_, pb, _, _⟩ := Ab gb
 obtain ⟨lb, _, _, _⟩ := Ab gb
 obtain ⟨E, O, h1, ⟨h2, h3⟩, ⟨h4, h5⟩, _, _⟩ := BR hs
 rw [hr] at h1
 have e1 : r.1 = A9 E := (Prod.mk.inj (Option.some.inj h1)).1
 rw [e]
 refine ⟨g1, gb, ?_⟩
 obtain ⟨l1, p1, _, _⟩ := Ab g1
 have ht := Bg _ _ _ r.1 r.2 (Nat.le_refl _) hr
 have hsim : Sim (A9 E) (A9 (DM r.1)) := by
  have e2 : Ad E = DM r.1 := by rw [e1]; exact Bi E (by omega) h2
  rw [FN, BQ _ (fun p q => AF (p1 p q)), ← e2, D2 _ (by omega) h2, ← BQ _ h2]
 have h6 := Gh hsim
 rw [← e1, ht, BS, Do, sb] at h6
 rw [C1 _ p1 (by omega), DU b pb (by omega), ← h6]
theorem DH : ∀ (l : List (List IP)) (a : List IP), (BJ a l).2 = true → Ac a = true → Ac (BJ a l).1 = true
 | [], a, _, h => h
 | b :: r, a, h, ha => by
  unfold BJ at h ⊢
  by_cases c : (BM a b).2.2 = true
  ·rw [if_pos c] at h ⊢; exact DH r _ h (BY c)
  ·rw [if_neg c] at h; cases h
theorem Dl : ∀ (l : List (List IP)) (a b : List IP), (BJ a (b :: l)).2 = true → Ac ((b :: l).getD l.length []) = true ∧ De (BJ a (b :: l)).1 0 = DL ((b :: l).getD l.length []) 0
 | [], a, b, h => by
  unfold BJ at h ⊢
  by_cases c : (BM a b).2.2 = true
  ·rw [if_pos c] at h ⊢
   obtain ⟨_, g, e⟩ := Ft c
   exact ⟨g, by rw [BJ]; exact e⟩
  ·rw [if_neg c] at h; cases h
 | b' :: l, a, b, h => by
  have e0 : BJ a (b :: b' :: l) = if (BM a b).2.2 = true then BJ (BM a b).1 (b' :: l) else ([], false) := by rw [BJ]
  rw [e0] at h ⊢
  by_cases c : (BM a b).2.2 = true
  ·rw [if_pos c] at h ⊢
   exact Dl l (BM a b).1 b' h
  ·rw [if_neg c] at h; cases h
theorem Fz {a : List IP} {l : List (List IP)} (h : (En a l).2 = true) : Ac a = true ∧ En a l = BJ a l := by
 unfold En at h ⊢
 split at h
 rotate_left
 ·cases h
 rename_i c; rw [if_pos c]; exact ⟨c.1, rfl⟩
theorem Fe : ∀ (l : List (List IP)) (a : List IP), ¬ (BJ a l).2 = true → (BJ a l).1 = []
 | [], a, h => absurd rfl h
 | b :: r, a, h => by
  unfold BJ at h ⊢
  by_cases c : (BM a b).2.2 = true
  ·rw [if_pos c] at h ⊢; exact Fe r _ h
  ·rw [if_neg c]
theorem Ga {a : List IP} {l : List (List IP)} (h : ¬ (En a l).2 = true) : (En a l).1 = [] := by
 unfold En at h ⊢
 split
 rotate_left
 ·rfl
 rename_i c; rw [if_pos c] at h; exact Fe l a h
theorem Gj (a : List IP) (l : List (List IP)) (hl : l.length ≤ 10) (hw : ∀ b ∈ l, EG b) (ga : Ac a = true) (ho : (BJ a l).2 = true) (d : Nat) : ∀ (i : Nat) (y : List IP), i + d = l.length → Ac y = true → BJ y (l.drop i) = BJ a l →
  Ev (fun k => lZ.l0 k a l (BJ a l).1 y l (l.length : Int) (i : Int)) true := by
 have gx := DH l a ho ga
 obtain ⟨lx, px, _, _⟩ := Ab gx
 induction d with
 | zero =>
  intro i y hi gy e
  rw [List.drop_eq_nil_of_le (by omega), BJ] at e
  have ey : (BJ a l).1 = y := by rw [← e]
  refine Ev.step (fun k => by rw [lZ.l0]) ?_
  refine ev_neg (by omega) ?_
  have sx := BA (BJ a l).1 (by omega) (AZ gx)
  rw [if_pos gx] at sx
  refine Ev.bind sx ?_
  cases l with
  | nil =>
   refine ev_pos (by simp) ?_
   exact Ev.bind (A5 a (by have := (Ab ga).1; omega)) (ev_ret rfl)
  | cons b r =>
   obtain ⟨gl, es⟩ := Dl r a b ho
   have hm : (b :: r).getD r.length [] ∈ b :: r := gt_mem [] (b :: r) r.length (by simp)
   have sl := BA ((b :: r).getD r.length []) (by have := (Ab gl).1; omega) (AZ gl)
   rw [if_pos gl] at sl
   have e1 : wrap64 (((b :: r).length : Int) - 1) = ((r.length : Nat) : Int) := by rw [List.length_cons] at hl ⊢; rw [wrap_id (by omega) (by omega)]; omega
   rw [e1]
   refine ev_neg (by rw [List.length_cons]; omega) (ev_pos (by omega) (ev_pos (by rw [List.length_cons]; omega) ?_))
   refine Ev.bind (a := (De ((b :: r).getD r.length []) 0, DL ((b :: r).getD r.length []) 0, true)) sl ?_
   refine ev_pos rfl (ev_pos rfl (ev_pos es ?_))
   rw [← ey]
   exact Ev.bind (A5 (BJ a (b :: r)).1 (by omega)) (ev_ret rfl)
 | succ d ih =>
  intro i y hi gy e
  have hm := hw _ (gt_mem [] l i (by omega))
  rw [gt_drop [] l i (by omega), BJ] at e
  by_cases c : (BM y (gt [] l i)).2.2 = true
  rotate_left
  ·rw [if_neg c] at e
   rw [← e] at ho; cases ho
  rw [if_pos c] at e
  refine Ev.step (fun k => by rw [lZ.l0]) ?_
  refine ev_pos (by omega) (ev_pos (by omega) (ev_pos (by omega) ?_))
  rw [wrap_succ i (by omega)]
  refine Ev.bind (a := BM y (gt [] l i)) (AS y (gt [] l i) (AZ gy) hm) (ev_pos c ?_)
  exact ih (i + 1) _ (by omega) (BY c) e
theorem FnOver : lZ.Pure := by
 intro code hl _ hc
 refine Ev.rounds ?_
 unfold lZ.f
 refine ev_if (fun _ => ev_ret rfl) (fun h => ?_)
 have hs := FO (by omega) hc
 obtain ⟨⟨a, l⟩, hd, wa, hl10, wl⟩ := DT hs (by omega)
 dsimp only at wa hl10 wl
 have him := Bv a l wa (by omega) wl
 have hsp := Bx a l wa (by omega) wl
 have hlen := FH a l
 refine Ev.bind hd (Ev.bind him (Ev.bind hsp (ev_neg (by simp) (Ev.bind (A5 (En a l).1 (by omega)) ?_))))
 refine Ev.step (fun k => by rw [lZ.j0]) ?_
 refine ev_neg (by simp) ?_
 by_cases ho : (En a l).2 = true
 rotate_left
 ·refine ev_neg ho (ev_ret ?_)
  rw [Ga ho]; rfl
 obtain ⟨ga, e⟩ := Fz ho
 refine ev_pos ho ?_
 rw [e] at ho ⊢
 exact Gj a l hl10 wl ga ho l.length 0 a (by omega) ga (by rw [List.drop_zero])
end Go.Proofs.Ytoagljlnfakgjaa.Pure
