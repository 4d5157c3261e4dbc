/- FnExactGoodExpr over plain functions: at every text the program's GoodExpr and the reference's give one answer; no condition. -/
import Derived.Test.YtjiidokpmhabgaaPFnExactGoodExprx4
import Derived.Test.YtjiidokpmhabgaaBase
namespace Go.Proofs.Ytjiidokpmhabgaa.Pure
open Go.RowKit Go.Proofs.Ytjiidokpmhabgaa.PFnExactGoodExpr Go.Proofs.YtjiidokpmhabgaaW.PrintWords Go.Proofs.YtjiidokpmhabgaaW.PrintLast Go.Proofs.Ytjiidokpmhabgaa.Base
set_option linter.unusedVariables false
set_option linter.unusedSimpArgs false

def symB (c : Int) : Bool := decide (65 ≤ c ∧ c ≤ 70) || decide (c = 116)
def symI (c : Int) : Int := if c = 116 then 6 else c - 65
set_option maxRecDepth 100000 in
theorem index_all : ∀ n : Fin 256, Lib.indexByte [65, 66, 67, 68, 69, 70, 116] n.val.toUInt8 = (if symB (n.val : Int) = true then symI (n.val : Int) else -1) := by decide
theorem index_sym (c : Int) (h0 : 0 ≤ c) (h1 : c ≤ 255) : strings_IndexByte.f (⟨#[65, 66, 67, 68, 69, 70, 116]⟩ : ByteArray) c = some (if symB c = true then symI c else -1) := by
  obtain ⟨n, rfl⟩ := Int.eq_ofNat_of_zero_le h0
  have := index_all ⟨n, by omega⟩
  unfold strings_IndexByte.f
  exact congrArg some this
theorem symI_range {c : Int} (h : symB c = true) : 0 ≤ symI c ∧ symI c < 7 := by
  unfold symB at h
  simp only [Bool.or_eq_true, decide_eq_true_eq] at h
  unfold symI
  split <;> omega
theorem isSymbol_is (c : Int) (h0 : 0 ≤ c) (h1 : c ≤ 255) : impl_isSymbol.f c = some (symB c) := by
  unfold impl_isSymbol.f
  rw [index_sym c h0 h1]
  by_cases h : symB c = true
  · have := symI_range h
    rw [if_pos h, h]; simp; omega
  · rw [if_neg h, Bool.eq_false_iff.mpr h]; rfl
theorem l6Symbol_is (c : Int) : spec_l6Symbol.f c = some (symB c) := by
  unfold spec_l6Symbol.f spec_l1Open.f symB
  by_cases h : c ≥ 65
  · rw [if_pos h]
    by_cases g : c ≤ 70
    · simp [h, g]
    · have e : (c == 116) = decide (c = 116) := by rw [Bool.eq_iff_iff]; simp
      simp [h, g, e]
  · have e : (c == 116) = decide (c = 116) := by rw [Bool.eq_iff_iff]; simp
    rw [if_neg h]; simp [h, e]

theorem bytesOf_extract (s : ByteArray) (a b : Nat) : bytesOf (s.extract a b) = ((bytesOf s).take b).drop a := by
  unfold bytesOf
  rw [ByteArray.data_extract, Array.toList_extract]
  simp only [List.extract_eq_take_drop, List.map_take, List.map_drop, List.drop_take]
theorem size_extract (s : ByteArray) (a b : Nat) (hb : b ≤ s.size) : (s.extract a b).size = b - a := by
  rw [ByteArray.size_extract]; omega

theorem bytes_inj {a b : ByteArray} (h : bytesOf a = bytesOf b) : a = b := by
  unfold bytesOf at h
  apply ByteArray.ext
  apply Array.toList_inj.1
  refine (List.map_inj_right ?_).1 h
  intro x y hxy
  exact UInt8.toNat_inj.1 (by omega)
theorem toL_nil (s : ByteArray) : s.toList = ([] : List UInt8) ↔ s.size = 0 := by
  rw [← List.length_eq_zero_iff]
  have := data_length s
  rw [ByteArray.toList_eq, this]
/-- What is left of a text from a place on. -/
def rstE (s : ByteArray) (p : Nat) : ByteArray := s.extract p s.size
theorem rst_bytes (s : ByteArray) (p : Nat) : bytesOf (rstE s p) = (bytesOf s).drop p := by
  unfold rstE
  rw [bytesOf_extract, List.take_of_length_le (by rw [bytesOf_length]; omega)]
theorem rst_size (s : ByteArray) (p : Nat) : (rstE s p).size = s.size - p := by
  unfold rstE; rw [size_extract _ _ _ (Nat.le_refl _)]
theorem rst_zero (s : ByteArray) : rstE s 0 = s := bytes_inj (by rw [rst_bytes]; rfl)
theorem rst_tl (s : ByteArray) (p : Nat) : tlB (rstE s p) = rstE s (p + 1) := by
  apply bytes_inj
  show bytesOf ((rstE s p).extract 1 (rstE s p).size) = _
  rw [bytesOf_extract, List.take_of_length_le (by rw [bytesOf_length]; omega), rst_bytes, rst_bytes, List.drop_drop]
theorem rst_nx (s : ByteArray) (p : Nat) : nxB (rstE s p) = nxS s (p : Int) := by
  unfold nxB nxS
  by_cases h : (p : Int) < (s.size : Int)
  · rw [if_pos h, if_neg (fun e => by have := (toL_nil _).1 e; rw [rst_size] at this; omega)]
    rw [← rd_bytesOf, ← rd_bytesOf, rst_bytes]
    unfold rd
    rw [List.getD_eq_getElem?_getD, List.getD_eq_getElem?_getD, List.getElem?_drop]
    rfl
  · rw [if_neg h, if_pos ((toL_nil _).2 (by rw [rst_size]; omega))]
theorem nx_range (s : ByteArray) (x : Int) : 0 ≤ nxS s x ∧ nxS s x ≤ 255 := by
  unfold nxS
  split
  · exact bt_range s x
  · omega
theorem nx_end (s : ByteArray) (p : Nat) (h : s.size ≤ p) : nxS s (p : Int) = 0 := by
  unfold nxS; rw [if_neg (by omega)]
set_option maxRecDepth 100000 in
theorem star_all : ∀ n : Fin 256, Lib.indexByte [42, 63, 43] n.val.toUInt8 = (if (n.val : Int) = 42 then 0 else if (n.val : Int) = 63 then 1 else if (n.val : Int) = 43 then 2 else -1) := by decide
theorem index_star (c : Int) (h0 : 0 ≤ c) (h1 : c ≤ 255) : strings_IndexByte.f (⟨#[42, 63, 43]⟩ : ByteArray) c = some (if c = 42 then 0 else if c = 63 then 1 else if c = 43 then 2 else -1) := by
  obtain ⟨n, rfl⟩ := Int.eq_ofNat_of_zero_le h0
  have := star_all ⟨n, by omega⟩
  unfold strings_IndexByte.f
  exact congrArg some this
theorem tail_bad (s : ByteArray) (y : Int) : Ev (fun k => sTail k s y true) (y, true) :=
  Ev.step (fun k => by rw [sTail]) (ev_pos rfl (ev_ret rfl))
theorem tail_r (s : ByteArray) (hs : s.size ≤ 1048576) (e : Nat) : ∀ q : Nat, q + e = s.size →
    ∃ q2 : Nat, q ≤ q2 ∧ q2 ≤ s.size ∧ Ev (fun k => stars k (rstE s q)) (rstE s q2) ∧ Ev (fun k => sTail k s (q : Int) false) ((q2 : Int), false) := by
  induction e with
  | zero =>
    intro q hq
    have h0 : nxS s (q : Int) = 0 := nx_end s q (by omega)
    refine ⟨q, Nat.le_refl _, by omega, Ev.step (fun k => by rw [stars]) ?_, Ev.step (fun k => by rw [sTail]) ?_⟩
    · rw [rst_nx, h0]; exact ev_pos rfl (ev_ret rfl)
    · rw [h0]; exact ev_neg (by simp) (ev_neg (by omega) (ev_neg (by decide) (ev_neg (by decide) (ev_neg (by decide) (ev_ret rfl)))))
  | succ e ih =>
    intro q hq
    have hr := nx_range s (q : Int)
    obtain ⟨q2, a1, a2, a3, a4⟩ := ih (q + 1) (by omega)
    have go : (nxS s (q : Int) = 42 ∨ nxS s (q : Int) = 63 ∨ nxS s (q : Int) = 43) → ∃ q2 : Nat, q ≤ q2 ∧ q2 ≤ s.size ∧ Ev (fun k => stars k (rstE s q)) (rstE s q2) ∧ Ev (fun k => sTail k s (q : Int) false) ((q2 : Int), false) := by
      intro hc
      refine ⟨q2, by omega, a2, Ev.step (fun k => by rw [stars]) ?_, Ev.step (fun k => by rw [sTail]) ?_⟩
      · rw [rst_nx]
        refine ev_neg (by omega) (ev_eq (index_star _ hr.1 hr.2) (ev_pos ?_ ?_))
        · rcases hc with h | h | h <;> rw [h] <;> decide
        · rw [rst_tl]; exact a3
      · refine ev_neg (by simp) (ev_neg (by omega) ?_)
        rcases hc with h | h | h
        · exact ev_pos h a4
        · exact ev_neg (by omega) (ev_pos h a4)
        · exact ev_neg (by omega) (ev_neg (by omega) (ev_pos h a4))
    by_cases c1 : nxS s (q : Int) = 42
    · exact go (.inl c1)
    by_cases c2 : nxS s (q : Int) = 63
    · exact go (.inr (.inl c2))
    by_cases c3 : nxS s (q : Int) = 43
    · exact go (.inr (.inr c3))
    refine ⟨q, Nat.le_refl _, by omega, Ev.step (fun k => by rw [stars]) ?_, Ev.step (fun k => by rw [sTail]) ?_⟩
    · rw [rst_nx]
      refine ev_if (fun _ => ev_ret rfl) (fun _ => ev_eq (index_star _ hr.1 hr.2) (ev_neg ?_ (ev_ret rfl)))
      rw [if_neg c1, if_neg c2, if_neg c3]; decide
    · exact ev_neg (by simp) (ev_neg (by omega) (ev_neg c1 (ev_neg c2 (ev_neg c3 (ev_ret rfl)))))
/-- One expression: both readers read it, or neither does. -/
def AtomR (s : ByteArray) (p : Nat) (d : Int) : Prop :=
  (∃ q q2 : Nat, p < q ∧ q ≤ q2 ∧ q2 ≤ s.size ∧ Ev (fun k => iAtom k (rstE s p) d) (some (rstE s q)) ∧ Ev (fun k => stars k (rstE s q)) (rstE s q2) ∧ Ev (fun k => sOne k s (p : Int) (d + 1)) ((q2 : Int), false)) ∨
  (Ev (fun k => iAtom k (rstE s p) d) none ∧ ∃ y : Int, 0 ≤ y ∧ y ≤ (s.size : Int) + 21 - d ∧ Ev (fun k => sOne k s (p : Int) (d + 1)) (y, true))
def RowR (s : ByteArray) (p : Nat) (d : Int) (m : Nat) : Prop :=
  (∃ q : Nat, p ≤ q ∧ q ≤ s.size ∧ (q = s.size ∨ nxS s (q : Int) = 124 ∨ nxS s (q : Int) = 41) ∧ Ev (fun k => iRow k (rstE s p) d m) (some (rstE s q)) ∧ Ev (fun k => sRow k s (p : Int) false (d + 1) m) ((q : Int), false)) ∨
  (∃ y : Int, 0 ≤ y ∧ y ≤ (s.size : Int) + 21 - d ∧ Ev (fun k => sRow k s (p : Int) false (d + 1) m) (y, true) ∧ (Ev (fun k => iRow k (rstE s p) d m) none ∨ ∃ q : Nat, q < s.size ∧ nxS s (q : Int) = 0 ∧ Ev (fun k => iRow k (rstE s p) d m) (some (rstE s q))))
def PartR (s : ByteArray) (p : Nat) (d : Int) (m : Nat) : Prop :=
  (∃ q : Nat, p ≤ q ∧ q ≤ s.size ∧ (q = s.size ∨ nxS s (q : Int) = 41) ∧ Ev (fun k => iParted k (rstE s p) d m) (some (rstE s q)) ∧ Ev (fun k => (sRow k s (p : Int) false (d + 1) 0).bind fun r => sEl k s r.1 r.2 (d + 1) (m + 1)) ((q : Int), false)) ∨
  (∃ y : Int, 0 ≤ y ∧ y ≤ (s.size : Int) + 21 - d ∧ Ev (fun k => (sRow k s (p : Int) false (d + 1) 0).bind fun r => sEl k s r.1 r.2 (d + 1) (m + 1)) (y, true) ∧ (Ev (fun k => iParted k (rstE s p) d m) none ∨ ∃ q : Nat, q < s.size ∧ nxS s (q : Int) = 0 ∧ Ev (fun k => iParted k (rstE s p) d m) (some (rstE s q))))
theorem sOne_other (s : ByteArray) (p : Nat) (d : Int) (hp : p < s.size) (hs : s.size ≤ 1048576) (h1 : symB (nxS s (p : Int)) = false) (h2 : nxS s (p : Int) ≠ 46) (h3 : nxS s (p : Int) ≠ 45) (h4 : nxS s (p : Int) ≠ 33) (h5 : nxS s (p : Int) ≠ 40) :
    Ev (fun k => sOne k s (p : Int) d) ((p : Int) + 1, true) := by
  refine Ev.step (fun k => by rw [sOne]) ?_
  refine ev_neg (by omega) (ev_eq (l6Symbol_is _) ?_)
  rw [h1]
  exact ev_neg (by simp) (ev_neg h2 (ev_neg h3 (ev_neg h4 (ev_neg h5 (tail_bad s _)))))
theorem sEl_bad (s : ByteArray) (y : Int) (d : Int) (m : Nat) (h0 : 0 ≤ y) (h1 : y ≤ 1099511627776) (hm : m ≤ 1099511627776) : Ev (fun k => sEl k s y true d m) (y, true) :=
  Ev.step (fun k => by rw [sEl]) (ev_neg (by omega) (ev_pos rfl (ev_ret rfl)))
theorem sRow_bad (s : ByteArray) (y : Int) (d : Int) (m : Nat) (h0 : 0 ≤ y) (h1 : y ≤ 1099511627776) (hm : m ≤ 1099511627776) : Ev (fun k => sRow k s y true d m) (y, true) := by
  refine Ev.step (fun k => by rw [sRow]) ?_
  exact ev_neg (by omega) (ev_pos rfl (ev_if (fun _ => ev_ret rfl) (fun _ => ev_ret rfl)))
theorem atom_r (s : ByteArray) (hs : s.size ≤ 1048576) (p : Nat) (hp : p < s.size) (d : Int) (hd0 : 0 ≤ d) (hd1 : d ≤ 19) (ih : d + 1 ≤ 19 → PartR s (p + 1) (d + 1) 0) : AtomR s p d := by
  have hr := nx_range s (p : Int)
  have hn := rst_nx s p
  have hsym : impl_isSymbol.f (nxB (rstE s p)) = some (symB (nxS s (p : Int))) := by rw [hn]; exact isSymbol_is _ hr.1 hr.2
  obtain ⟨q2, t1, t2, t3, t4⟩ := tail_r s hs (s.size - (p + 1)) (p + 1) (by omega)
  by_cases c0 : symB (nxS s (p : Int)) = true
  · left
    refine ⟨p + 1, q2, by omega, t1, t2, Ev.step (fun k => by rw [iAtom]) ?_, t3, Ev.step (fun k => by rw [sOne]) ?_⟩
    · refine ev_eq hsym (ev_pos c0 (ev_neg ?_ (ev_ret (by rw [rst_tl]))))
      rw [hn]; intro e; rw [e] at c0; exact absurd c0 (by decide)
    · exact ev_neg (by omega) (ev_eq (l6Symbol_is _) (ev_pos c0 t4))
  have c0' := Bool.eq_false_iff.mpr c0
  by_cases c1 : nxS s (p : Int) = 46
  · left
    refine ⟨p + 1, q2, by omega, t1, t2, Ev.step (fun k => by rw [iAtom]) ?_, t3, Ev.step (fun k => by rw [sOne]) ?_⟩
    · exact ev_eq hsym (ev_neg c0 (ev_pos (hn.trans c1) (ev_ret (by rw [rst_tl]))))
    · exact ev_neg (by omega) (ev_eq (l6Symbol_is _) (ev_neg c0 (ev_pos c1 t4)))
  by_cases c2 : nxS s (p : Int) = 45
  · left
    refine ⟨p + 1, q2, by omega, t1, t2, Ev.step (fun k => by rw [iAtom]) ?_, t3, Ev.step (fun k => by rw [sOne]) ?_⟩
    · exact ev_eq hsym (ev_neg c0 (ev_neg (fun e => c1 (hn.symm.trans e)) (ev_pos (hn.trans c2) (ev_ret (by rw [rst_tl])))))
    · exact ev_neg (by omega) (ev_eq (l6Symbol_is _) (ev_neg c0 (ev_neg c1 (ev_pos c2 t4))))
  by_cases c3 : nxS s (p : Int) = 33
  · left
    refine ⟨p + 1, q2, by omega, t1, t2, Ev.step (fun k => by rw [iAtom]) ?_, t3, Ev.step (fun k => by rw [sOne]) ?_⟩
    · exact ev_eq hsym (ev_neg c0 (ev_neg (fun e => c1 (hn.symm.trans e)) (ev_neg (fun e => c2 (hn.symm.trans e)) (ev_pos (hn.trans c3) (ev_ret (by rw [rst_tl]))))))
    · exact ev_neg (by omega) (ev_eq (l6Symbol_is _) (ev_neg c0 (ev_neg c1 (ev_neg c2 (ev_pos c3 t4)))))
  have ia : ∀ {g : Nat → Option (Option ByteArray)} {r}, (nxS s (p : Int) = 40 → Ev (fun k => if d = 19 then some none else (iParted k (tlB (rstE s p)) (d + 1) 0).bind fun r => match r with | none => some none | some s' => if nxB s' = 41 then some (some (tlB s')) else some none) r) → (nxS s (p : Int) ≠ 40 → r = none) → Ev (fun k => iAtom k (rstE s p) d) r := by
    intro _ r h h2
    refine Ev.step (fun k => by rw [iAtom]) ?_
    refine ev_eq hsym (ev_neg c0 (ev_neg (fun e => c1 (hn.symm.trans e)) (ev_neg (fun e => c2 (hn.symm.trans e)) (ev_neg (fun e => c3 (hn.symm.trans e)) (ev_if (fun e => h (hn.symm.trans e)) (fun e => ev_ret (h2 (fun e2 => e (hn.trans e2))).symm))))))
  by_cases c4 : nxS s (p : Int) = 40
  · have so : ∀ {r r1}, Ev (fun k => sEither k s ((p : Int) + 1) (d + 1)) r1 → (0 ≤ r1.1 ∧ r1.1 ≤ 1099511627776) → Ev (fun k => if nxS s r1.1 = 41 then sTail k s (r1.1 + 1) r1.2 else sTail k s (r1.1 + 1) true) r → Ev (fun k => sOne k s (p : Int) (d + 1)) r := by
      intro r r1 h1 h2 h3
      refine Ev.step (fun k => by rw [sOne]) ?_
      exact ev_neg (by omega) (ev_eq (l6Symbol_is _) (ev_neg c0 (ev_neg c1 (ev_neg c2 (ev_neg c3 (ev_pos c4 (Ev.bind h1 (ev_neg (by omega) h3))))))))
    by_cases c5 : d = 19
    · right
      refine ⟨ia (g := fun _ => none) (fun _ => ev_pos c5 (ev_ret rfl)) (fun _ => rfl), (p : Int) + 1 + 1, by omega, by omega, ?_⟩
      have e1 : Ev (fun k => sEither k s ((p : Int) + 1) (d + 1)) ((p : Int) + 1, true) := by
        refine Ev.step (fun k => by rw [sEither]) ?_
        rw [decide_eq_true (show (20 : Int) < d + 1 + 1 by omega)]
        exact Ev.bind (sRow_bad s _ _ _ (by omega) (by omega) (by omega)) (sEl_bad s _ _ _ (by show (0 : Int) ≤ (p : Int) + 1; omega) (by show (p : Int) + 1 ≤ _; omega) (by omega))
      exact so e1 ⟨by show (0 : Int) ≤ (p : Int) + 1; omega, by show (p : Int) + 1 ≤ _; omega⟩ (ev_if (fun _ => tail_bad s _) (fun _ => tail_bad s _))
    · have ei : ∀ {r}, Ev (fun k => (sRow k s ((p + 1 : Nat) : Int) false (d + 1 + 1) 0).bind fun r => sEl k s r.1 r.2 (d + 1 + 1) (0 + 1)) r → Ev (fun k => sEither k s ((p : Int) + 1) (d + 1)) r := by
        intro r h
        refine Ev.step (fun k => by rw [sEither]) ?_
        rw [decide_eq_false (show ¬ (20 : Int) < d + 1 + 1 by omega)]
        exact h
      rcases ih (by omega) with ⟨q, b1, b2, b3, b4, b5⟩ | ⟨y, b1, b2, b3, b4⟩
      · by_cases c6 : nxS s (q : Int) = 41
        · have hq : q < s.size := by
            rcases Nat.lt_or_ge q s.size with h | h
            · exact h
            · rw [nx_end s q h] at c6; cases c6
          obtain ⟨q3, u1, u2, u3, u4⟩ := tail_r s hs (s.size - (q + 1)) (q + 1) (by omega)
          left
          refine ⟨q + 1, q3, by omega, u1, u2, ia (g := fun _ => none) (fun _ => ev_neg c5 ?_) (fun h => absurd c4 h), u3, so (ei b5) ⟨by show (0 : Int) ≤ (q : Int); omega, by show (q : Int) ≤ _; omega⟩ (ev_pos c6 u4)⟩
          rw [rst_tl]
          refine Ev.bind b4 ?_
          exact ev_pos ((rst_nx s q).trans c6) (ev_ret (by rw [rst_tl]))
        · right
          refine ⟨ia (g := fun _ => none) (fun _ => ev_neg c5 ?_) (fun _ => rfl), (q : Int) + 1, by omega, by omega, so (ei b5) ⟨by show (0 : Int) ≤ (q : Int); omega, by show (q : Int) ≤ _; omega⟩ (ev_neg c6 (tail_bad s _))⟩
          rw [rst_tl]
          exact Ev.bind b4 (ev_neg (fun e => c6 ((rst_nx s q).symm.trans e)) (ev_ret rfl))
      · right
        refine ⟨ia (g := fun _ => none) (fun _ => ev_neg c5 ?_) (fun _ => rfl), y + 1, by omega, by omega, so (ei b3) ⟨b1, by show y ≤ _; omega⟩ (ev_if (fun _ => tail_bad s _) (fun _ => tail_bad s _))⟩
        rw [rst_tl]
        rcases b4 with b4 | ⟨q, g1, g2, b4⟩
        · exact Ev.bind b4 (ev_ret rfl)
        · exact Ev.bind b4 (ev_neg (fun e => by rw [rst_nx, g2] at e; cases e) (ev_ret rfl))
  · right
    exact ⟨ia (g := fun _ => none) (fun h => absurd h c4) (fun _ => rfl), (p : Int) + 1, by omega, by omega, sOne_other s p _ hp hs c0' c1 c2 c3 c4⟩
theorem row_r (s : ByteArray) (hs : s.size ≤ 1048576) (d : Int) (hd0 : 0 ≤ d) (hd1 : d ≤ 19) (e : Nat) : ∀ (p m : Nat), p + e = s.size → m ≤ p → (∀ p', p ≤ p' → p' < s.size → AtomR s p' d) → RowR s p d m := by
  induction e using Nat.strongRecOn with
  | ind e ih =>
  intro p m hp hm ha
  have hn := rst_nx s p
  have hr := nx_range s (p : Int)
  have si : ∀ {r}, Ev (fun k => if (p : Int) < (s.size : Int) then (if nxS s (p : Int) = 124 then (if m = 0 then some ((p : Int), true) else some ((p : Int), false)) else if nxS s (p : Int) = 41 then (if m = 0 then some ((p : Int), true) else some ((p : Int), false)) else if 20 < d + 1 then none else (sOne k s (p : Int) (d + 1)).bind fun r => sRow k s r.1 r.2 (d + 1) (m + 1)) else (if m = 0 then some ((p : Int), true) else some ((p : Int), false))) r → Ev (fun k => sRow k s (p : Int) false (d + 1) m) r := by
    intro r h
    refine Ev.step (fun k => by rw [sRow]) ?_
    exact ev_neg (by omega) (ev_neg (by simp) h)
  have ii : ∀ {r}, Ev (fun k => if nxB (rstE s p) = 0 then (if m = 0 then some none else some (some (rstE s p))) else if nxB (rstE s p) = 124 then (if m = 0 then some none else some (some (rstE s p))) else if nxB (rstE s p) = 41 then (if m = 0 then some none else some (some (rstE s p))) else (iAtom k (rstE s p) d).bind fun r => match r with | none => some none | some s' => (stars k s').bind fun s2 => iRow k s2 d (m + 1)) r → Ev (fun k => iRow k (rstE s p) d m) r := by
    intro r h
    refine Ev.step (fun k => by rw [iRow]) ?_
    exact ev_neg (by omega) h
  rw [hn] at ii
  by_cases c0 : p = s.size
  · have h0 : nxS s (p : Int) = 0 := nx_end s p (by omega)
    by_cases hm0 : m = 0
    · right
      refine ⟨(p : Int), by omega, by omega, si (ev_neg (by omega) (ev_pos hm0 (ev_ret rfl))), .inl (ii (ev_pos h0 (ev_pos hm0 (ev_ret rfl))))⟩
    · left
      exact ⟨p, Nat.le_refl _, by omega, .inl c0, ii (ev_pos h0 (ev_neg hm0 (ev_ret rfl))), si (ev_neg (by omega) (ev_neg hm0 (ev_ret rfl)))⟩
  have hp' : p < s.size := by omega
  by_cases c1 : nxS s (p : Int) = 0
  · have so := sOne_other s p (d + 1) hp' hs (by rw [c1]; rfl) (by omega) (by omega) (by omega) (by omega)
    right
    refine ⟨(p : Int) + 1, by omega, by omega, si (ev_pos (by omega) (ev_neg (by omega) (ev_neg (by omega) (ev_neg (by omega) (Ev.bind so (sRow_bad s _ _ _ (by show (0 : Int) ≤ (p : Int) + 1; omega) (by show (p : Int) + 1 ≤ _; omega) (by omega))))))), ?_⟩
    by_cases hm0 : m = 0
    · exact .inl (ii (ev_pos c1 (ev_pos hm0 (ev_ret rfl))))
    · exact .inr ⟨p, hp', c1, ii (ev_pos c1 (ev_neg hm0 (ev_ret rfl)))⟩
  by_cases c2 : nxS s (p : Int) = 124
  · by_cases hm0 : m = 0
    · right
      exact ⟨(p : Int), by omega, by omega, si (ev_pos (by omega) (ev_pos c2 (ev_pos hm0 (ev_ret rfl)))), .inl (ii (ev_neg c1 (ev_pos c2 (ev_pos hm0 (ev_ret rfl)))))⟩
    · left
      exact ⟨p, Nat.le_refl _, by omega, .inr (.inl c2), ii (ev_neg c1 (ev_pos c2 (ev_neg hm0 (ev_ret rfl)))), si (ev_pos (by omega) (ev_pos c2 (ev_neg hm0 (ev_ret rfl))))⟩
  by_cases c3 : nxS s (p : Int) = 41
  · by_cases hm0 : m = 0
    · right
      exact ⟨(p : Int), by omega, by omega, si (ev_pos (by omega) (ev_neg c2 (ev_pos c3 (ev_pos hm0 (ev_ret rfl))))), .inl (ii (ev_neg c1 (ev_neg c2 (ev_pos c3 (ev_pos hm0 (ev_ret rfl))))))⟩
    · left
      exact ⟨p, Nat.le_refl _, by omega, .inr (.inr c3), ii (ev_neg c1 (ev_neg c2 (ev_pos c3 (ev_neg hm0 (ev_ret rfl))))), si (ev_pos (by omega) (ev_neg c2 (ev_pos c3 (ev_neg hm0 (ev_ret rfl)))))⟩
  have sn : ∀ {r r1}, Ev (fun k => sOne k s (p : Int) (d + 1)) r1 → Ev (fun k => sRow k s r1.1 r1.2 (d + 1) (m + 1)) r → Ev (fun k => sRow k s (p : Int) false (d + 1) m) r := fun h1 h2 =>
    si (ev_pos (by omega) (ev_neg c2 (ev_neg c3 (ev_neg (by omega) (Ev.bind h1 h2)))))
  rcases ha p (Nat.le_refl _) hp' with ⟨q, q2, b1, b2, b3, b4, b5, b6⟩ | ⟨b1, y, b2, b3, b4⟩
  · have im : ∀ {r}, Ev (fun k => iRow k (rstE s q2) d (m + 1)) r → Ev (fun k => iRow k (rstE s p) d m) r := fun h =>
      ii (ev_neg c1 (ev_neg c2 (ev_neg c3 (Ev.bind b4 (Ev.bind b5 h)))))
    rcases ih (s.size - q2) (by omega) q2 (m + 1) (by omega) (by omega) (fun p' h1 h2 => ha p' (by omega) h2) with ⟨z, g1, g2, g3, g4, g5⟩ | ⟨y, g1, g2, g3, g4⟩
    · exact .inl ⟨z, by omega, g2, g3, im g4, sn b6 g5⟩
    · refine .inr ⟨y, g1, g2, sn b6 g3, ?_⟩
      rcases g4 with g4 | ⟨z, x1, x2, g4⟩
      · exact .inl (im g4)
      · exact .inr ⟨z, x1, x2, im g4⟩
  · refine .inr ⟨y, b2, b3, sn b4 (sRow_bad s _ _ _ (by show (0 : Int) ≤ y; omega) (by show y ≤ _; omega) (by omega)), .inl (ii (ev_neg c1 (ev_neg c2 (ev_neg c3 (Ev.bind b1 (ev_ret rfl))))))⟩
theorem part_r (s : ByteArray) (hs : s.size ≤ 1048576) (e : Nat) : ∀ (p : Nat) (d : Int) (m : Nat), p + e = s.size → 0 ≤ d → d ≤ 19 → m ≤ p → PartR s p d m := by
  induction e using Nat.strongRecOn with
  | ind e ih =>
  intro p d m hp hd0 hd1 hm
  have hA : ∀ p', p ≤ p' → p' < s.size → AtomR s p' d := fun p' h1 h2 =>
    atom_r s hs p' h2 d hd0 hd1 (fun h => ih (s.size - (p' + 1)) (by omega) (p' + 1) (d + 1) 0 (by omega) (by omega) h (by omega))
  have ip : ∀ {r r1}, Ev (fun k => iRow k (rstE s p) d 0) r1 → Ev (fun k => match r1 with | none => some none | some s' => if nxB s' = 124 then iParted k (tlB s') d (m + 1) else some (some s')) r → Ev (fun k => iParted k (rstE s p) d m) r := by
    intro r r1 h1 h2
    refine Ev.step (fun k => by rw [iParted]) ?_
    exact ev_neg (by omega) (Ev.bind h1 h2)
  rcases row_r s hs d hd0 hd1 e p 0 hp (by omega) hA with ⟨q, b1, b2, b3, b4, b5⟩ | ⟨y, b1, b2, b3, b4⟩
  · by_cases c : nxS s (q : Int) = 124
    · have hq : q < s.size := by
        rcases Nat.lt_or_ge q s.size with h | h
        · exact h
        · rw [nx_end s q h] at c; cases c
      have ic : ∀ {r}, Ev (fun k => iParted k (rstE s (q + 1)) d (m + 1)) r → Ev (fun k => iParted k (rstE s p) d m) r := by
        intro r h
        refine ip b4 (ev_pos ((rst_nx s q).trans c) ?_)
        rw [rst_tl]; exact h
      have sc : ∀ {r}, Ev (fun k => (sRow k s ((q + 1 : Nat) : Int) false (d + 1) 0).bind fun r => sEl k s r.1 r.2 (d + 1) (m + 1 + 1)) r → Ev (fun k => (sRow k s (p : Int) false (d + 1) 0).bind fun r => sEl k s r.1 r.2 (d + 1) (m + 1)) r := by
        intro r h
        refine Ev.bind b5 (Ev.step (fun k => by rw [sEl]) ?_)
        exact ev_neg (by omega) (ev_neg (by simp) (ev_pos c h))
      rcases ih (s.size - (q + 1)) (by omega) (q + 1) d (m + 1) (by omega) hd0 hd1 (by omega) with ⟨z, g1, g2, g3, g4, g5⟩ | ⟨y, g1, g2, g3, g4⟩
      · exact .inl ⟨z, by omega, g2, g3, ic g4, sc g5⟩
      · refine .inr ⟨y, g1, g2, sc g3, ?_⟩
        rcases g4 with g4 | ⟨z, x1, x2, g4⟩
        · exact .inl (ic g4)
        · exact .inr ⟨z, x1, x2, ic g4⟩
    · refine .inl ⟨q, b1, b2, ?_, ip b4 (ev_neg (fun h => c ((rst_nx s q).symm.trans h)) (ev_ret rfl)), Ev.bind b5 (Ev.step (fun k => by rw [sEl]) (ev_neg (by omega) (ev_neg (by simp) (ev_neg c (ev_ret rfl)))))⟩
      rcases b3 with h | h | h
      · exact .inl h
      · exact absurd h c
      · exact .inr h
  · refine .inr ⟨y, b1, b2, Ev.bind b3 (sEl_bad s _ _ _ b1 (by show y ≤ _; omega) (by omega)), ?_⟩
    rcases b4 with b4 | ⟨q, g1, g2, b4⟩
    · exact .inl (ip b4 (ev_ret rfl))
    · exact .inr ⟨q, g1, g2, ip b4 (ev_neg (fun h => by rw [rst_nx, g2] at h; cases h) (ev_ret rfl))⟩
theorem rst_empty (s : ByteArray) (q : Nat) (h : q ≤ s.size) : (rstE s q).toList.isEmpty = decide (q = s.size) := by
  have e := rst_size s q
  by_cases c : q = s.size
  · rw [decide_eq_true c]; exact List.isEmpty_iff.mpr ((toL_nil _).2 (by omega))
  · rw [decide_eq_false c]; exact List.isEmpty_eq_false_iff.mpr (fun h2 => by have := (toL_nil _).1 h2; omega)
theorem good_both (s : ByteArray) (hs : s.size ≤ 1048576) : ∃ b : Bool, Ev (fun k => spec_GoodExpr.f k s) b ∧ Ev (fun k => impl_GoodExpr.f k s) b := by
  have P := part_r s hs s.size 0 0 0 (by omega) (by omega) (by omega) (by omega)
  have ei : ∀ {r}, Ev (fun k => (sRow k s ((0 : Nat) : Int) false (0 + 1) 0).bind fun r => sEl k s r.1 r.2 (0 + 1) (0 + 1)) r → Ev (fun k => sEither k s 0 0) r := by
    intro r h
    refine Ev.step (fun k => by rw [sEither]) ?_
    rw [decide_eq_false (show ¬ (20 : Int) < 0 + 1 by omega)]
    exact h
  have ii : ∀ {r : Option ByteArray} {b : Bool}, Ev (fun k => iParted k (rstE s 0) 0 0) r → ((1 ≤ s.size ∧ s.size ≤ 60) → (match r with | none => false | some s' => s'.toList.isEmpty) = b) → (¬ (1 ≤ s.size ∧ s.size ≤ 60) → b = false) → Ev (fun k => impl_GoodExpr.f k s) b := by
    intro r b h h1 h2
    rw [rst_zero] at h
    unfold impl_GoodExpr.f readB
    refine ev_if (fun c => ev_ret (h2 (by omega)).symm) (fun c => ev_if (fun c2 => ev_ret (h2 (by omega)).symm) (fun c2 => Ev.bind h ?_))
    have := h1 (by omega)
    cases r with
    | none => exact ev_ret this
    | some s' => exact ev_ret this
  rcases P with ⟨q, b1, b2, b3, b4, b5⟩ | ⟨y, b1, b2, b3, b4⟩
  · refine ⟨decide (q = s.size ∧ 1 ≤ s.size ∧ s.size ≤ 60), ?_, ii b4 ?_ ?_⟩
    · unfold spec_GoodExpr.f sRead
      refine Ev.bind (ei b5) (ev_neg (by simp) (ev_if (fun c => ?_) (fun c => ev_ret ?_)))
      · have c' : q = s.size := by have : (q : Int) = (s.size : Int) := c; omega
        unfold spec_l1In.f
        by_cases g : (s.size : Int) ≥ 1
        · rw [if_pos g]
          refine ev_ret ?_
          by_cases g2 : s.size ≤ 60
          · rw [decide_eq_true (show (s.size : Int) ≤ 60 by omega), decide_eq_true ⟨c', by omega, g2⟩]
          · rw [decide_eq_false (show ¬ (s.size : Int) ≤ 60 by omega), decide_eq_false (fun h => g2 h.2.2)]
        · rw [if_neg g]
          refine ev_ret ?_
          rw [decide_eq_false (fun h => by omega)]
      · rw [decide_eq_false (fun h => c (by show (q : Int) = (s.size : Int); omega))]
    · intro h
      show (rstE s q).toList.isEmpty = _
      rw [rst_empty s q b2]
      by_cases c : q = s.size
      · rw [decide_eq_true c, decide_eq_true ⟨c, h⟩]
      · rw [decide_eq_false c, decide_eq_false (fun g => c g.1)]
    · intro h
      exact decide_eq_false (fun g => h g.2)
  · have sp : Ev (fun k => spec_GoodExpr.f k s) false := by
      unfold spec_GoodExpr.f sRead
      exact Ev.bind (ei b3) (ev_pos rfl (ev_ret rfl))
    refine ⟨false, sp, ?_⟩
    rcases b4 with b4 | ⟨q, g1, g2, b4⟩
    · exact ii b4 (fun _ => rfl) (fun _ => rfl)
    · refine ii b4 (fun _ => ?_) (fun _ => rfl)
      show (rstE s q).toList.isEmpty = false
      rw [rst_empty s q (by omega)]; exact decide_eq_false (by omega)
theorem FnExactGoodExpr : laws_FnExactGoodExpr.Pure := by
  intro s hs
  refine Ev.rounds ?_
  unfold laws_FnExactGoodExpr.f
  refine ev_if (fun _ => ev_ret rfl) (fun h => ?_)
  obtain ⟨b, h1, h2⟩ := good_both s (by omega)
  exact Ev.bind h1 (Ev.bind h2 (ev_neg (by simp) (ev_ret rfl)))

end Go.Proofs.Ytjiidokpmhabgaa.Pure
