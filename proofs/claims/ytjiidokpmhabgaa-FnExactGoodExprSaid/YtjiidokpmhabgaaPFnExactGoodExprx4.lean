/- Written by a program of this session (wip/ovl.py) over the kit's print: plain functions with the answers of the Go functions, and the proofs that they are; no condition. -/
import Derived.Test.YtjiidokpmhabgaaBase
import Derived.Test.YtjiidokpmhabgaaPFnExactGoodExprx0
import Derived.Test.YtjiidokpmhabgaaPFnExactGoodExprx3
namespace Go.Proofs.Ytjiidokpmhabgaa.PFnExactGoodExpr
open Go.RowKit Go.Proofs.YtjiidokpmhabgaaW.PrintWords Go.Proofs.YtjiidokpmhabgaaW.PrintLast Go.Proofs.YtjiidokpmhabgaaW.PrintMore
attribute [local go_sem] max2_int min2_int max_two min_two max_three min_three max_four min_four   -- for this text's walks alone
set_option linter.unusedVariables false
set_option linter.unusedSimpArgs false

/-! ### impl_scanner_parted: function 30 (by hand) -/
-- import Base
-- fn: (*loop.example/g00253/impl.scanner).parted
/-- The byte that is next, 0 at the end. -/
def nxB (s : ByteArray) : Int := if s.toList = ([] : List UInt8) then 0 else bt s 0
abbrev tlB (s : ByteArray) : ByteArray := s.extract 1 s.size
theorem nx_size {s : ByteArray} (h : nxB s ≠ 0) : 0 < s.size := by
  unfold nxB at h
  by_cases c : s.toList = ([] : List UInt8)
  · rw [if_pos c] at h; exact absurd rfl h
  · have e := data_length s
    rw [← ByteArray.toList_eq] at e
    have : s.toList.length ≠ 0 := fun e0 => c (List.length_eq_zero_iff.1 e0)
    omega
def stars : Nat → ByteArray → Option ByteArray
  | 0, _ => none
  | k + 1, s => if nxB s = 0 then some s else (strings_IndexByte.f (⟨#[42, 63, 43]⟩ : ByteArray) (nxB s)).bind fun t => if t ≥ 0 then stars k (tlB s) else some s
mutual
def iAtom : Nat → ByteArray → Int → Option (Option ByteArray)
  | 0, _, _ => none
  | k + 1, s, d => (impl_isSymbol.f (nxB s)).bind fun t => if t = true then (if nxB s = 0 then none else some (some (tlB s))) else if nxB s = 46 then some (some (tlB s)) else if nxB s = 45 then some (some (tlB s)) else if nxB s = 33 then some (some (tlB s)) else if nxB s = 40 then (if d = 19 then some none else (iParted k (tlB s) (d + 1) 0).bind fun r => match r with | none => some none | some s' => if nxB s' = 41 then some (some (tlB s')) else some none) else some none
def iRow : Nat → ByteArray → Int → Nat → Option (Option ByteArray)
  | 0, _, _, _ => none
  | k + 1, s, d, n => if 1073741824 < n then none else if nxB s = 0 then (if n = 0 then some none else some (some s)) else if nxB s = 124 then (if n = 0 then some none else some (some s)) else if nxB s = 41 then (if n = 0 then some none else some (some s)) else (iAtom k s d).bind fun r => match r with | none => some none | some s' => (stars k s').bind fun s2 => iRow k s2 d (n + 1)
def iParted : Nat → ByteArray → Int → Nat → Option (Option ByteArray)
  | 0, _, _, _ => none
  | k + 1, s, d, n => if 1073741824 < n then none else (iRow k s d 0).bind fun r => match r with | none => some none | some s' => if nxB s' = 124 then iParted k (tlB s') d (n + 1) else some (some s')
end
abbrev ScB (w : World) (g : Nat) (s : ByteArray) (d : Int) : Prop := w.heap[g]? = some (.cells #[.string s, .int .i64 d] 60 (0, 0))
/-- What a call comes to: nil, or a pointer and what is left. -/
def RetE (res : Option ByteArray) (d : Int) (g : Nat) (e : Ending) (w' : World) : Prop := match res with | none => e = .returned (.pointer none) | some s' => ∃ a, e = .returned (.pointer (some a)) ∧ ScB w' g s' d
def AtomS (k : Nat) : Prop := ∀ (s : ByteArray) (d : Int) (res : Option ByteArray) (g : Nat) (w : World), 0 ≤ d → d ≤ 19 → ScB w g s d → iAtom k s d = some res → Calls Try.prog 53 #[.pointer (some ⟨g, 0, none⟩)] w fun e w' => RetE res d g e w' ∧ w.grownBy w' (some g)
def RowS (k : Nat) : Prop := ∀ (s : ByteArray) (d : Int) (res : Option ByteArray) (g : Nat) (w : World), 0 ≤ d → d ≤ 19 → ScB w g s d → iRow k s d 0 = some res → Calls Try.prog 44 #[.pointer (some ⟨g, 0, none⟩)] w fun e w' => RetE res d g e w' ∧ w.grownBy w' (some g)
def PartedS (k : Nat) : Prop := ∀ (s : ByteArray) (d : Int) (res : Option ByteArray) (g : Nat) (w : World), 0 ≤ d → d ≤ 19 → ScB w g s d → iParted k s d 0 = some res → Calls Try.prog 30 #[.pointer (some ⟨g, 0, none⟩)] w fun e w' => RetE res d g e w' ∧ w.grownBy w' (some g)
theorem gr_refl (w : World) (g : Option Nat) : w.grownBy w g := ⟨rfl, rfl, rfl, Nat.le_refl _, fun _ _ _ => rfl⟩
theorem gr_size {w w' : World} {g : Option Nat} (h : w.grownBy w' g) : w.heap.size ≤ w'.heap.size := h.size
theorem gr_drewN {w w' : World} {g : Option Nat} (h : w.grownBy w' g) (n : Nat) : w.grownBy (w'.drewN n) g := ⟨h.os, h.tape, h.output, h.size, h.block⟩
theorem gr_alloc {w w' : World} {g : Option Nat} (h : w.grownBy w' g) (o : Obj) : w.grownBy (w'.alloc o) g :=
  have b := below_alloc (Below.refl w'.heap.size w') o
  ⟨b.os.trans h.os, b.tape.trans h.tape, b.output.trans h.output, Nat.le_trans h.size b.size, fun i hi hne => (b.block i (Nat.lt_of_lt_of_le hi h.size)).trans (h.block i hi hne)⟩
theorem gr_trans {w w1 w2 : World} {g : Option Nat} (h : w.grownBy w1 g) (k : w1.grownBy w2 g) : w.grownBy w2 g :=
  ⟨k.os.trans h.os, k.tape.trans h.tape, k.output.trans h.output, Nat.le_trans h.size k.size, fun i hi hne => (k.block i (Nat.lt_of_lt_of_le hi h.size) hne).trans (h.block i hi hne)⟩
theorem gr_set {w w' : World} {g j : Nat} {u : Value} (h : w.grownBy w' (some g)) : w.grownBy (w'.setCell ⟨g, j, none⟩ u) (some g) :=
  have b := (Below.refl 0 w').setCell (p := ⟨g, j, none⟩) (Nat.zero_le _) u
  ⟨b.os.trans h.os, b.tape.trans h.tape, b.output.trans h.output, Nat.le_trans h.size b.size, fun i hi hne => (Below.heap_setCell w' ⟨g, j, none⟩ u i (fun e => hne (by rw [e]))).trans (h.block i hi hne)⟩
theorem gr_below {w w1 w2 : World} {g : Option Nat} (h : w.grownBy w1 g) (k : Below w1.heap.size w1 w2) : w.grownBy w2 g :=
  ⟨k.os.trans h.os, k.tape.trans h.tape, k.output.trans h.output, Nat.le_trans h.size k.size, fun i hi hne => (k.block i (Nat.lt_of_lt_of_le hi h.size)).trans (h.block i hi hne)⟩
theorem gr_own {w w1 w2 : World} {g : Option Nat} {v : Value} (h : w.grownBy w1 g) (k : w1.grownBy w2 v.ownBlock) (hv : ∀ b, v.ownBlock = some b → w.heap.size ≤ b) : w.grownBy w2 g :=
  ⟨k.os.trans h.os, k.tape.trans h.tape, k.output.trans h.output, Nat.le_trans h.size k.size, fun i hi hne => (k.block i (Nat.lt_of_lt_of_le hi h.size) (fun e => Nat.lt_irrefl _ (Nat.lt_of_lt_of_le hi (hv i e.symm)))).trans (h.block i hi hne)⟩
theorem sc_below {w w1 : World} {g : Nat} {s : ByteArray} {d : Int} (h : ScB w g s d) (k : Below w.heap.size w w1) : ScB w1 g s d := (k.block g (blk_lt h)).trans h
theorem sc_own {w w1 : World} {g : Nat} {s : ByteArray} {d : Int} {v : Value} (h : ScB w g s d) (k : w.grownBy w1 v.ownBlock) (hv : v.ownBlock ≠ some g) : ScB w1 g s d := (k.block g (blk_lt h) (fun e => hv e.symm)).trans h
theorem sc_set0 {w : World} {g : Nat} {s : ByteArray} {d : Int} (h : ScB w g s d) (x : ByteArray) : ScB (w.setCell ⟨g, 0, none⟩ (.string x)) g x d := blk_set h 0 (.string x)
theorem sc_set1 {w : World} {g : Nat} {s : ByteArray} {d : Int} (h : ScB w g s d) (x : Int) : ScB (w.setCell ⟨g, 1, none⟩ (.int .i64 x)) g s x := blk_set h 1 (.int .i64 x)
theorem sc_cell0 {w : World} {g : Nat} {s : ByteArray} {d : Int} (h : ScB w g s d) : w.cell? ⟨g, 0, none⟩ = some (.string s) := (blk_cell h 0).trans rfl
theorem sc_cell1 {w : World} {g : Nat} {s : ByteArray} {d : Int} (h : ScB w g s d) : w.cell? ⟨g, 1, none⟩ = some (.int .i64 d) := (blk_cell h 1).trans rfl
set_option maxHeartbeats 4000000 in
set_option maxRecDepth 100000 in
theorem next_d (g : Nat) (s : ByteArray) (d : Int) (w : World) (hb : ScB w g s d) : Calls Try.prog 45 #[.pointer (some ⟨g, 0, none⟩)] w fun e w' => e = .returned (.int .u8 (nxB s)) ∧ Drawn0 w w' := by
  have hc := sc_cell0 hb
  clear hb
  unfold nxB
  by_cases c : s.toList = ([] : List UInt8)
  · rw [if_pos c]
    have c2 : (s.toList == ([] : List UInt8)) = true := beq_iff_eq.mpr c
    have c3 : s.toList.isEmpty = true := List.isEmpty_iff.mpr c
    clear c
    go_enter Try.func45, Try.ntmps45
    go_wp2
    go_ret
    exact ⟨rfl, Drawn0.refl _⟩
  · rw [if_neg c]
    have c2 : (s.toList == ([] : List UInt8)) = false := beq_eq_false_iff_ne.mpr c
    have c3 : s.toList.isEmpty = false := List.isEmpty_eq_false_iff.mpr c
    have hs : 0 < s.size := by
      have e := data_length s
      rw [← ByteArray.toList_eq] at e
      have : s.toList.length ≠ 0 := fun e0 => c (List.length_eq_zero_iff.1 e0)
      omega
    have c4 : decide (0 < s.size) = true := decide_eq_true hs
    have c5 : decide ((0 : Int) < (s.size : Int)) = true := decide_eq_true (by omega)
    have hx : ∀ h : 0 < s.size, (((s[0]'h).toNat : Nat) : Int) = bt s 0 := bt_at s 0
    have c6 := eq_true hs
    clear c hs
    go_enter Try.func45, Try.ntmps45
    go_wp2
    go_ret
    exact ⟨rfl, Drawn0.refl _⟩
theorem le_slice {s : ByteArray} (h : 0 < s.size) : (1 : Nat) ≤ s.size := h
set_option maxHeartbeats 4000000 in
set_option maxRecDepth 100000 in
theorem atom_walk (k : Nat) (ih : ∀ j, j < k → PartedS j) : AtomS k := by
  intro s d res g w hd0 hd1 hb h
  have HSC := Aside0.mk hb
  have hc0 := sc_cell0 hb
  have hc1 := sc_cell1 hb
  have hf0 := blk_frozen hb 0
  have hf1 := blk_frozen hb 1
  clear hb
  cases k with
  | zero => exact absurd h (by simp [iAtom])
  | succ k =>
    rw [iAtom] at h
    obtain ⟨t, hs, h⟩ := Option.bind_eq_some_iff.mp h
    have AS := Aside0.mk hs
    clear hs
    cases t with
    | true =>
      rw [if_pos rfl] at h
      by_cases c0 : nxB s = 0
      · rw [if_pos c0] at h; cases h
      · rw [if_neg c0] at h
        obtain rfl := Option.some.inj h
        have hz : 0 < s.size := nx_size (by exact c0)
        have z1 : decide (1 ≤ s.size) = true := decide_eq_true hz
        have z2 := eq_true (show 1 ≤ s.size from hz)
        have z3 : decide ((1 : Int) ≤ (s.size : Int)) = true := decide_eq_true (by omega)
        have z4 := eq_true (show (1 : Int) ≤ (s.size : Int) by omega)
        clear hz
        clear h c0
        go_enter Try.func53, Try.ntmps53
        go_wp2_with (first | (go_at_call 45; (with_reducible refine (next_d g s d _ (by (with_reducible repeat (first | refine blk_drewN ?_ _ | refine blk_drew ?_)); exact HSC.out)).mono ?_); rintro e w' ⟨rfl, ⟨nd, rfl⟩⟩) | (go_at_call 34; (with_reducible refine (impl_isSymbol.calls (nxB s) true _ AS.out).mono ?_); rintro e w' ⟨rfl, ⟨nd, rfl⟩⟩) | ((with_reducible refine gate_dst (N := 32) rfl ?_); refine box_event ?hg (N := 32) ?hd (cs := #[.int .u8 (nxB s), .slice none 0 0]) (t := 75) ?hr ?_; (case hd => rfl); (case hg => rfl); (case hr => first | (go_simp; done) | (go_simp; rfl)); intro gx hgx wx hbox hb; have HX := Aside0.mk hb; clear hbox hgx hb))
        go_ret
        exact ⟨⟨_, rfl, sc_below (sc_set0 ((by (with_reducible repeat (first | refine blk_drewN ?_ _ | refine blk_drew ?_)); exact HSC.out)) _) HX.out⟩, gr_below (by repeat (first | (with_reducible first | exact gr_refl _ _ | refine gr_drewN ?_ _ | refine gr_set ?_) | exact gr_refl _ _)) HX.out⟩
    | false =>
      rw [if_neg (by decide)] at h
      by_cases a46 : nxB s = 46
      · rw [if_pos a46] at h
        obtain rfl := Option.some.inj h
        have hz : 0 < s.size := nx_size (by rw [a46]; decide)
        have z1 : decide (1 ≤ s.size) = true := decide_eq_true hz
        have z2 := eq_true (show 1 ≤ s.size from hz)
        have z3 : decide ((1 : Int) ≤ (s.size : Int)) = true := decide_eq_true (by omega)
        have z4 := eq_true (show (1 : Int) ≤ (s.size : Int) by omega)
        clear hz
        have ea46 : (nxB s == 46) = true := beq_iff_eq.mpr a46
        have ea46n : (nxB s != 46) = false := by rw [bne, ea46]; rfl
        clear h a46
        go_enter Try.func53, Try.ntmps53
        go_wp2_with (first | (go_at_call 45; (with_reducible refine (next_d g s d _ (by (with_reducible repeat (first | refine blk_drewN ?_ _ | refine blk_drew ?_)); exact HSC.out)).mono ?_); rintro e w' ⟨rfl, ⟨nd, rfl⟩⟩) | (go_at_call 34; (with_reducible refine (impl_isSymbol.calls (nxB s) false _ AS.out).mono ?_); rintro e w' ⟨rfl, ⟨nd, rfl⟩⟩) | ((with_reducible refine gate_dst (N := 32) rfl ?_); refine box_event ?hg (N := 32) ?hd (cs := #[.int .u8 (nxB s), .slice none 0 0]) (t := 75) ?hr ?_; (case hd => rfl); (case hg => rfl); (case hr => first | (go_simp; done) | (go_simp; rfl)); intro gx hgx wx hbox hb; have HX := Aside0.mk hb; clear hbox hgx hb))
        go_ret
        exact ⟨⟨_, rfl, sc_below (sc_set0 ((by (with_reducible repeat (first | refine blk_drewN ?_ _ | refine blk_drew ?_)); exact HSC.out)) _) HX.out⟩, gr_below (by repeat (first | (with_reducible first | exact gr_refl _ _ | refine gr_drewN ?_ _ | refine gr_set ?_) | exact gr_refl _ _)) HX.out⟩
      rw [if_neg a46] at h
      by_cases a45 : nxB s = 45
      · rw [if_pos a45] at h
        obtain rfl := Option.some.inj h
        have hz : 0 < s.size := nx_size (by rw [a45]; decide)
        have z1 : decide (1 ≤ s.size) = true := decide_eq_true hz
        have z2 := eq_true (show 1 ≤ s.size from hz)
        have z3 : decide ((1 : Int) ≤ (s.size : Int)) = true := decide_eq_true (by omega)
        have z4 := eq_true (show (1 : Int) ≤ (s.size : Int) by omega)
        clear hz
        have ea45 : (nxB s == 45) = true := beq_iff_eq.mpr a45
        have ea45n : (nxB s != 45) = false := by rw [bne, ea45]; rfl
        have ea46 : (nxB s == 46) = false := beq_eq_false_iff_ne.mpr a46
        have ea46n : (nxB s != 46) = true := by rw [bne, ea46]; rfl
        clear h a45 a46
        go_enter Try.func53, Try.ntmps53
        go_wp2_with (first | (go_at_call 45; (with_reducible refine (next_d g s d _ (by (with_reducible repeat (first | refine blk_drewN ?_ _ | refine blk_drew ?_)); exact HSC.out)).mono ?_); rintro e w' ⟨rfl, ⟨nd, rfl⟩⟩) | (go_at_call 34; (with_reducible refine (impl_isSymbol.calls (nxB s) false _ AS.out).mono ?_); rintro e w' ⟨rfl, ⟨nd, rfl⟩⟩) | ((with_reducible refine gate_dst (N := 32) rfl ?_); refine box_event ?hg (N := 32) ?hd (cs := #[.int .u8 (nxB s), .slice none 0 0]) (t := 75) ?hr ?_; (case hd => rfl); (case hg => rfl); (case hr => first | (go_simp; done) | (go_simp; rfl)); intro gx hgx wx hbox hb; have HX := Aside0.mk hb; clear hbox hgx hb))
        go_ret
        exact ⟨⟨_, rfl, sc_below (sc_set0 ((by (with_reducible repeat (first | refine blk_drewN ?_ _ | refine blk_drew ?_)); exact HSC.out)) _) HX.out⟩, gr_below (by repeat (first | (with_reducible first | exact gr_refl _ _ | refine gr_drewN ?_ _ | refine gr_set ?_) | exact gr_refl _ _)) HX.out⟩
      rw [if_neg a45] at h
      by_cases a33 : nxB s = 33
      · rw [if_pos a33] at h
        obtain rfl := Option.some.inj h
        have hz : 0 < s.size := nx_size (by rw [a33]; decide)
        have z1 : decide (1 ≤ s.size) = true := decide_eq_true hz
        have z2 := eq_true (show 1 ≤ s.size from hz)
        have z3 : decide ((1 : Int) ≤ (s.size : Int)) = true := decide_eq_true (by omega)
        have z4 := eq_true (show (1 : Int) ≤ (s.size : Int) by omega)
        clear hz
        have ea33 : (nxB s == 33) = true := beq_iff_eq.mpr a33
        have ea33n : (nxB s != 33) = false := by rw [bne, ea33]; rfl
        have ea46 : (nxB s == 46) = false := beq_eq_false_iff_ne.mpr a46
        have ea46n : (nxB s != 46) = true := by rw [bne, ea46]; rfl
        have ea45 : (nxB s == 45) = false := beq_eq_false_iff_ne.mpr a45
        have ea45n : (nxB s != 45) = true := by rw [bne, ea45]; rfl
        clear h a33 a46 a45
        go_enter Try.func53, Try.ntmps53
        go_wp2_with (first | (go_at_call 45; (with_reducible refine (next_d g s d _ (by (with_reducible repeat (first | refine blk_drewN ?_ _ | refine blk_drew ?_)); exact HSC.out)).mono ?_); rintro e w' ⟨rfl, ⟨nd, rfl⟩⟩) | (go_at_call 34; (with_reducible refine (impl_isSymbol.calls (nxB s) false _ AS.out).mono ?_); rintro e w' ⟨rfl, ⟨nd, rfl⟩⟩) | ((with_reducible refine gate_dst (N := 32) rfl ?_); refine box_event ?hg (N := 32) ?hd (cs := #[.int .u8 (nxB s), .slice none 0 0]) (t := 75) ?hr ?_; (case hd => rfl); (case hg => rfl); (case hr => first | (go_simp; done) | (go_simp; rfl)); intro gx hgx wx hbox hb; have HX := Aside0.mk hb; clear hbox hgx hb))
        go_ret
        exact ⟨⟨_, rfl, sc_below (sc_set0 ((by (with_reducible repeat (first | refine blk_drewN ?_ _ | refine blk_drew ?_)); exact HSC.out)) _) HX.out⟩, gr_below (by repeat (first | (with_reducible first | exact gr_refl _ _ | refine gr_drewN ?_ _ | refine gr_set ?_) | exact gr_refl _ _)) HX.out⟩
      rw [if_neg a33] at h
      have ea46 : (nxB s == 46) = false := beq_eq_false_iff_ne.mpr a46
      have ea46n : (nxB s != 46) = true := by rw [bne, ea46]; rfl
      have ea45 : (nxB s == 45) = false := beq_eq_false_iff_ne.mpr a45
      have ea45n : (nxB s != 45) = true := by rw [bne, ea45]; rfl
      have ea33 : (nxB s == 33) = false := beq_eq_false_iff_ne.mpr a33
      have ea33n : (nxB s != 33) = true := by rw [bne, ea33]; rfl
      by_cases a40 : nxB s = 40
      · rw [if_pos a40] at h
        have hz : 0 < s.size := nx_size (by rw [a40]; decide)
        have z1 : decide (1 ≤ s.size) = true := decide_eq_true hz
        have z2 := eq_true (show 1 ≤ s.size from hz)
        have z3 : decide ((1 : Int) ≤ (s.size : Int)) = true := decide_eq_true (by omega)
        have z4 := eq_true (show (1 : Int) ≤ (s.size : Int) by omega)
        clear hz
        have e40 : (nxB s == 40) = true := beq_iff_eq.mpr a40
        have e40n : (nxB s != 40) = false := by rw [bne, e40]; rfl
        clear a46 a45 a33 a40
        by_cases cd : d = 19
        · rw [if_pos cd] at h
          obtain rfl := Option.some.inj h
          have cd1 : (d == 19) = true := beq_iff_eq.mpr cd
          clear h cd
          go_enter Try.func53, Try.ntmps53
          go_wp2_with (first | (go_at_call 45; (with_reducible refine (next_d g s d _ (by (with_reducible repeat (first | refine blk_drewN ?_ _ | refine blk_drew ?_)); exact HSC.out)).mono ?_); rintro e w' ⟨rfl, ⟨nd, rfl⟩⟩) | (go_at_call 34; (with_reducible refine (impl_isSymbol.calls (nxB s) false _ AS.out).mono ?_); rintro e w' ⟨rfl, ⟨nd, rfl⟩⟩))
          go_ret
          exact ⟨rfl, by repeat (first | (with_reducible first | exact gr_refl _ _ | refine gr_drewN ?_ _ | refine gr_set ?_) | exact gr_refl _ _)⟩
        · rw [if_neg cd] at h
          have cd1 : (d == 19) = false := beq_eq_false_iff_ne.mpr cd
          obtain ⟨r, hp, h⟩ := Option.bind_eq_some_iff.mp h
          have HP := Aside0.mk hp
          have ihk := ih k (Nat.lt_succ_self k)
          unfold PartedS at ihk
          have IH := Aside0.mk ihk
          clear ihk
          have D0 := Aside0.mk (show 0 ≤ d + 1 ∧ d + 1 ≤ 19 by omega)
          have hw : wrap64 (d + 1) = d + 1 := by unfold wrap64; omega
          have hw2 : wrap64 d = d := by unfold wrap64; omega
          clear hp ih cd hd0 hd1
          cases r with
          | none =>
            obtain rfl := Option.some.inj h
            clear h
            go_enter Try.func53, Try.ntmps53
            go_wp2_with (first | (go_at_call 45; (with_reducible refine (next_d g s d _ (by (with_reducible repeat (first | refine blk_drewN ?_ _ | refine blk_drew ?_)); exact HSC.out)).mono ?_); rintro e w' ⟨rfl, ⟨nd, rfl⟩⟩) | (go_at_call 34; (with_reducible refine (impl_isSymbol.calls (nxB s) false _ AS.out).mono ?_); rintro e w' ⟨rfl, ⟨nd, rfl⟩⟩) | (go_at_call 30; (with_reducible refine (IH.out (tlB s) (d + 1) none g _ D0.out.1 D0.out.2 (sc_set1 (sc_set0 (by (with_reducible repeat (first | refine blk_drewN ?_ _ | refine blk_drew ?_)); exact HSC.out) _) _) HP.out).mono ?_); rintro e w2 ⟨hr, hg⟩; obtain rfl := hr; have HG := Aside0.mk (show w.grownBy w2 (some g) from gr_trans (by repeat (first | (with_reducible first | exact gr_refl _ _ | refine gr_drewN ?_ _ | refine gr_set ?_) | exact gr_refl _ _)) hg); clear hg))
            go_ret
            exact ⟨rfl, by repeat (first | (with_reducible first | exact HG.out | refine gr_drewN ?_ _ | refine gr_set ?_) | exact HG.out)⟩
          | some s' =>
            dsimp only at h
            by_cases a41 : nxB s' = 41
            · rw [if_pos a41] at h
              obtain rfl := Option.some.inj h
              have hy : 0 < s'.size := nx_size (by rw [a41]; decide)
              have y1 : decide (1 ≤ s'.size) = true := decide_eq_true hy
              have y2 := eq_true (show 1 ≤ s'.size from hy)
              have y3 : decide ((1 : Int) ≤ (s'.size : Int)) = true := decide_eq_true (by omega)
              have y4 := eq_true (show (1 : Int) ≤ (s'.size : Int) by omega)
              clear hy
              have e41 : (nxB s' == 41) = true := beq_iff_eq.mpr a41
              have e41n : (nxB s' != 41) = false := by rw [bne, e41]; rfl
              clear h a41
              go_enter Try.func53, Try.ntmps53
              go_wp2_with (first | (go_at_call 45; (with_reducible refine (next_d g s d _ (by (with_reducible repeat (first | refine blk_drewN ?_ _ | refine blk_drew ?_)); exact HSC.out)).mono ?_); rintro e w' ⟨rfl, ⟨nd, rfl⟩⟩) | (go_at_call 34; (with_reducible refine (impl_isSymbol.calls (nxB s) false _ AS.out).mono ?_); rintro e w' ⟨rfl, ⟨nd, rfl⟩⟩) | (go_at_call 30; (with_reducible refine (IH.out (tlB s) (d + 1) (some s') g _ D0.out.1 D0.out.2 (sc_set1 (sc_set0 (by (with_reducible repeat (first | refine blk_drewN ?_ _ | refine blk_drew ?_)); exact HSC.out) _) _) HP.out).mono ?_); rintro e w2 ⟨hr, hg⟩; obtain ⟨ap, rfl, hsc⟩ := hr; have HG := Aside0.mk (show w.grownBy w2 (some g) from gr_trans (by repeat (first | (with_reducible first | exact gr_refl _ _ | refine gr_drewN ?_ _ | refine gr_set ?_) | exact gr_refl _ _)) hg); clear hg; have HS2 := Aside0.mk hsc; have hc2 := sc_cell0 hsc; have hc3 := sc_cell1 hsc; have hf2 := blk_frozen hsc 0; have hf3 := blk_frozen hsc 1; clear hsc) | (go_at_call 45; (with_reducible refine (next_d g s' (d + 1) _ (by (with_reducible repeat (first | refine blk_drewN ?_ _ | refine blk_drew ?_)); exact HS2.out)).mono ?_); rintro e w' ⟨rfl, ⟨nd, rfl⟩⟩))
              go_ret
              exact ⟨⟨_, rfl, by first | exact sc_set0 (sc_set1 ((by (with_reducible repeat (first | refine blk_drewN ?_ _ | refine blk_drew ?_)); exact HS2.out)) _) _ | (rw [hw2]; exact sc_set0 (sc_set1 ((by (with_reducible repeat (first | refine blk_drewN ?_ _ | refine blk_drew ?_)); exact HS2.out)) _) _)⟩, by repeat (first | (with_reducible first | exact HG.out | refine gr_drewN ?_ _ | refine gr_set ?_) | exact HG.out)⟩
            · rw [if_neg a41] at h
              obtain rfl := Option.some.inj h
              have e41 : (nxB s' == 41) = false := beq_eq_false_iff_ne.mpr a41
              have e41n : (nxB s' != 41) = true := by rw [bne, e41]; rfl
              clear h a41
              go_enter Try.func53, Try.ntmps53
              go_wp2_with (first | (go_at_call 45; (with_reducible refine (next_d g s d _ (by (with_reducible repeat (first | refine blk_drewN ?_ _ | refine blk_drew ?_)); exact HSC.out)).mono ?_); rintro e w' ⟨rfl, ⟨nd, rfl⟩⟩) | (go_at_call 34; (with_reducible refine (impl_isSymbol.calls (nxB s) false _ AS.out).mono ?_); rintro e w' ⟨rfl, ⟨nd, rfl⟩⟩) | (go_at_call 30; (with_reducible refine (IH.out (tlB s) (d + 1) (some s') g _ D0.out.1 D0.out.2 (sc_set1 (sc_set0 (by (with_reducible repeat (first | refine blk_drewN ?_ _ | refine blk_drew ?_)); exact HSC.out) _) _) HP.out).mono ?_); rintro e w2 ⟨hr, hg⟩; obtain ⟨ap, rfl, hsc⟩ := hr; have HG := Aside0.mk (show w.grownBy w2 (some g) from gr_trans (by repeat (first | (with_reducible first | exact gr_refl _ _ | refine gr_drewN ?_ _ | refine gr_set ?_) | exact gr_refl _ _)) hg); clear hg; have HS2 := Aside0.mk hsc; have hc2 := sc_cell0 hsc; have hc3 := sc_cell1 hsc; have hf2 := blk_frozen hsc 0; have hf3 := blk_frozen hsc 1; clear hsc) | (go_at_call 45; (with_reducible refine (next_d g s' (d + 1) _ (by (with_reducible repeat (first | refine blk_drewN ?_ _ | refine blk_drew ?_)); exact HS2.out)).mono ?_); rintro e w' ⟨rfl, ⟨nd, rfl⟩⟩))
              go_ret
              exact ⟨rfl, by repeat (first | (with_reducible first | exact HG.out | refine gr_drewN ?_ _ | refine gr_set ?_) | exact HG.out)⟩
      · rw [if_neg a40] at h
        obtain rfl := Option.some.inj h
        have e40 : (nxB s == 40) = false := beq_eq_false_iff_ne.mpr a40
        have e40n : (nxB s != 40) = true := by rw [bne, e40]; rfl
        clear h a46 a45 a33 a40
        go_enter Try.func53, Try.ntmps53
        go_wp2_with (first | (go_at_call 45; (with_reducible refine (next_d g s d _ (by (with_reducible repeat (first | refine blk_drewN ?_ _ | refine blk_drew ?_)); exact HSC.out)).mono ?_); rintro e w' ⟨rfl, ⟨nd, rfl⟩⟩) | (go_at_call 34; (with_reducible refine (impl_isSymbol.calls (nxB s) false _ AS.out).mono ?_); rintro e w' ⟨rfl, ⟨nd, rfl⟩⟩))
        go_ret
        exact ⟨rfl, by repeat (first | (with_reducible first | exact gr_refl _ _ | refine gr_drewN ?_ _ | refine gr_set ?_) | exact gr_refl _ _)⟩
theorem ptr_info : (Try.prog.info? 38).map (fun i => (i.zero, i.size, i.bytes)) = some (some (.pointer none), 1, 8) := by kernel_rfl
abbrev PtR (w : World) (base g : Nat) (v : Value) (l : List (Option Addr)) : Prop := Kd.R (Kd.scalar (fun a : Option Addr => Value.pointer a) (fun _ => rfl)) 38 w base (fun k_ => k_ ≠ g) v l
set_option maxHeartbeats 4000000 in
set_option maxRecDepth 100000 in
theorem row_walk (k : Nat) (ih : ∀ j, j < k → AtomS j) : RowS k := by
  intro s d res g w hd0 hd1 hb h
  have HSC := Aside0.mk hb
  have HH := Aside0.mk h
  have HD := Aside0.mk (And.intro hd0 hd1)
  have HIH := Aside0.mk ih
  clear hb h hd0 hd1 ih
  go_enter Try.func44, Try.ntmps44
  go_wp2_with (first | (go_at_call 45; (with_reducible refine (next_d g s d _ (by (with_reducible repeat (first | refine blk_drewN ?_ _ | refine blk_drew ?_)); exact HSC.out)).mono ?_); rintro e w' ⟨rfl, ⟨nd, rfl⟩⟩))
  go_loopg [3, 4] k (fun kq v3 v4 w' => ∃ (s1 : ByteArray) (l : List (Option Addr)), v4 = .int .u8 (nxB s1) ∧ Aside0 (iRow kq s1 d l.length = some res) ∧ Aside0 (kq ≤ k) ∧ Aside0 (PtR w' w.heap.size g v3 l) ∧ Aside0 (ScB w' g s1 d) ∧ Aside0 (w.grownBy w' (some g)))
  case atStart => exact ⟨s, [], rfl, HH, ⟨Nat.le_refl _⟩, ⟨Kd.R_nil _ _ _ _ _⟩, ⟨(by (with_reducible repeat (first | refine blk_drewN ?_ _ | refine blk_drew ?_)); exact HSC.out)⟩, ⟨by repeat (first | (with_reducible first | exact gr_refl _ _ | refine gr_drewN ?_ _ | refine gr_set ?_) | exact gr_refl _ _)⟩⟩
  case round =>
    clear HSC HH
    obtain ⟨s1, l, rfl, HA, HK1, HR, HSC, HG⟩ := hrel
    obtain ⟨Al, cl, el⟩ := Kd.R_slice HR.out
    subst el
    cases gk with
    | zero => exact absurd HA.out (by simp [iRow])
    | succ k1 =>
      have H := HA.out
      clear HA
      rw [iRow] at H
      by_cases hn : 1073741824 < l.length
      · rw [if_pos hn] at H; cases H
      rw [if_neg hn] at H
      have HN := Aside0.mk (show l.length ≤ 1073741824 by omega)
      clear hn
      by_cases b0 : nxB s1 = 0
      · rw [if_pos b0] at H
        have eb0 : (nxB s1 == 0) = true := beq_iff_eq.mpr b0
        have eb0n : (nxB s1 != 0) = false := by rw [bne, eb0]; rfl
        clear b0
        by_cases hl : l.length = 0
        · rw [if_pos hl] at H
          obtain rfl := Option.some.inj H
          have l1 : ((l.length : Int) == 0) = true := beq_iff_eq.mpr (by omega)
          clear H hl
          go_wp2
          go_ret
          exact ⟨rfl, by repeat (first | (with_reducible first | exact HG.out | refine gr_drewN ?_ _ | refine gr_set ?_) | exact HG.out)⟩
        · rw [if_neg hl] at H
          obtain rfl := Option.some.inj H
          have l1 : ((l.length : Int) == 0) = false := beq_eq_false_iff_ne.mpr (by omega)
          clear H hl
          go_wp2_with (first | ((with_reducible refine gate_dst (N := 58) rfl ?_); refine box_event ?hg (N := 58) ?hd (cs := #[.int .u8 44, .slice Al l.length cl]) (t := 75) ?hr ?_; (case hd => rfl); (case hg => rfl); (case hr => first | (go_simp; done) | (go_simp; rfl)); intro gx hgx wx hbox hb; have HX := Aside0.mk hb; clear hbox hgx hb))
          go_ret
          exact ⟨⟨_, rfl, sc_below ((by (with_reducible repeat (first | refine blk_drewN ?_ _ | refine blk_drew ?_)); exact HSC.out)) HX.out⟩, gr_below (by repeat (first | (with_reducible first | exact HG.out | refine gr_drewN ?_ _ | refine gr_set ?_) | exact HG.out)) HX.out⟩
      rw [if_neg b0] at H
      by_cases b124 : nxB s1 = 124
      · rw [if_pos b124] at H
        have eb124 : (nxB s1 == 124) = true := beq_iff_eq.mpr b124
        have eb124n : (nxB s1 != 124) = false := by rw [bne, eb124]; rfl
        have eb0 : (nxB s1 == 0) = false := beq_eq_false_iff_ne.mpr b0
        have eb0n : (nxB s1 != 0) = true := by rw [bne, eb0]; rfl
        clear b124 b0
        by_cases hl : l.length = 0
        · rw [if_pos hl] at H
          obtain rfl := Option.some.inj H
          have l1 : ((l.length : Int) == 0) = true := beq_iff_eq.mpr (by omega)
          clear H hl
          go_wp2
          go_ret
          exact ⟨rfl, by repeat (first | (with_reducible first | exact HG.out | refine gr_drewN ?_ _ | refine gr_set ?_) | exact HG.out)⟩
        · rw [if_neg hl] at H
          obtain rfl := Option.some.inj H
          have l1 : ((l.length : Int) == 0) = false := beq_eq_false_iff_ne.mpr (by omega)
          clear H hl
          go_wp2_with (first | ((with_reducible refine gate_dst (N := 58) rfl ?_); refine box_event ?hg (N := 58) ?hd (cs := #[.int .u8 44, .slice Al l.length cl]) (t := 75) ?hr ?_; (case hd => rfl); (case hg => rfl); (case hr => first | (go_simp; done) | (go_simp; rfl)); intro gx hgx wx hbox hb; have HX := Aside0.mk hb; clear hbox hgx hb))
          go_ret
          exact ⟨⟨_, rfl, sc_below ((by (with_reducible repeat (first | refine blk_drewN ?_ _ | refine blk_drew ?_)); exact HSC.out)) HX.out⟩, gr_below (by repeat (first | (with_reducible first | exact HG.out | refine gr_drewN ?_ _ | refine gr_set ?_) | exact HG.out)) HX.out⟩
      rw [if_neg b124] at H
      by_cases b41 : nxB s1 = 41
      · rw [if_pos b41] at H
        have eb41 : (nxB s1 == 41) = true := beq_iff_eq.mpr b41
        have eb41n : (nxB s1 != 41) = false := by rw [bne, eb41]; rfl
        have eb0 : (nxB s1 == 0) = false := beq_eq_false_iff_ne.mpr b0
        have eb0n : (nxB s1 != 0) = true := by rw [bne, eb0]; rfl
        have eb124 : (nxB s1 == 124) = false := beq_eq_false_iff_ne.mpr b124
        have eb124n : (nxB s1 != 124) = true := by rw [bne, eb124]; rfl
        clear b41 b0 b124
        by_cases hl : l.length = 0
        · rw [if_pos hl] at H
          obtain rfl := Option.some.inj H
          have l1 : ((l.length : Int) == 0) = true := beq_iff_eq.mpr (by omega)
          clear H hl
          go_wp2
          go_ret
          exact ⟨rfl, by repeat (first | (with_reducible first | exact HG.out | refine gr_drewN ?_ _ | refine gr_set ?_) | exact HG.out)⟩
        · rw [if_neg hl] at H
          obtain rfl := Option.some.inj H
          have l1 : ((l.length : Int) == 0) = false := beq_eq_false_iff_ne.mpr (by omega)
          clear H hl
          go_wp2_with (first | ((with_reducible refine gate_dst (N := 58) rfl ?_); refine box_event ?hg (N := 58) ?hd (cs := #[.int .u8 44, .slice Al l.length cl]) (t := 75) ?hr ?_; (case hd => rfl); (case hg => rfl); (case hr => first | (go_simp; done) | (go_simp; rfl)); intro gx hgx wx hbox hb; have HX := Aside0.mk hb; clear hbox hgx hb))
          go_ret
          exact ⟨⟨_, rfl, sc_below ((by (with_reducible repeat (first | refine blk_drewN ?_ _ | refine blk_drew ?_)); exact HSC.out)) HX.out⟩, gr_below (by repeat (first | (with_reducible first | exact HG.out | refine gr_drewN ?_ _ | refine gr_set ?_) | exact HG.out)) HX.out⟩
      rw [if_neg b41] at H
      have eb0 : (nxB s1 == 0) = false := beq_eq_false_iff_ne.mpr b0
      have eb0n : (nxB s1 != 0) = true := by rw [bne, eb0]; rfl
      have eb124 : (nxB s1 == 124) = false := beq_eq_false_iff_ne.mpr b124
      have eb124n : (nxB s1 != 124) = true := by rw [bne, eb124]; rfl
      have eb41 : (nxB s1 == 41) = false := beq_eq_false_iff_ne.mpr b41
      have eb41n : (nxB s1 != 41) = true := by rw [bne, eb41]; rfl
      clear b0 b124 b41
      obtain ⟨r, hp, H⟩ := Option.bind_eq_some_iff.mp H
      have HP := Aside0.mk hp
      have ihk := HIH.out k1 (Nat.lt_of_lt_of_le (Nat.lt_succ_self k1) HK1.out)
      unfold AtomS at ihk
      have IH := Aside0.mk ihk
      clear hp ihk
      cases r with
      | none =>
        obtain rfl := Option.some.inj H
        clear H
        go_wp2_with (first | (go_at_call 53; (with_reducible refine (IH.out s1 d none g _ HD.out.1 HD.out.2 (by (with_reducible repeat (first | refine blk_drewN ?_ _ | refine blk_drew ?_)); exact HSC.out) HP.out).mono ?_); rintro e w2 ⟨hr, hg⟩; obtain rfl := hr; have HG2 := Aside0.mk (show w.grownBy w2 (some g) from gr_trans (by repeat (first | (with_reducible first | exact HG.out | refine gr_drewN ?_ _ | refine gr_set ?_) | exact HG.out)) hg); have HR2 := Aside0.mk (Kd.R_grown (ok := fun k_ => k_ ≠ g) (by (with_reducible repeat (first | apply Kd.R_alloc | apply Kd.R_drewN | apply Kd.R_drew)); exact HR.out) hg (fun k_ h_ e_ => h_ (Option.some.inj e_))); clear hg))
        go_ret
        exact ⟨rfl, by repeat (first | (with_reducible first | exact HG2.out | refine gr_drewN ?_ _ | refine gr_set ?_) | exact HG2.out)⟩
      | some s' =>
        dsimp only at H
        obtain ⟨s2, hst, H⟩ := Option.bind_eq_some_iff.mp H
        have HT := Aside0.mk hst
        have H' := Aside0.mk H
        clear H hst
        go_wp2_with (first | (go_at_call 53; (with_reducible refine (IH.out s1 d (some s') g _ HD.out.1 HD.out.2 (by (with_reducible repeat (first | refine blk_drewN ?_ _ | refine blk_drew ?_)); exact HSC.out) HP.out).mono ?_); rintro e w2 ⟨hr, hg⟩; obtain ⟨ap, rfl, hsc⟩ := hr; have HG2 := Aside0.mk (show w.grownBy w2 (some g) from gr_trans (by repeat (first | (with_reducible first | exact HG.out | refine gr_drewN ?_ _ | refine gr_set ?_) | exact HG.out)) hg); have HR2 := Aside0.mk (Kd.R_grown (ok := fun k_ => k_ ≠ g) (by (with_reducible repeat (first | apply Kd.R_alloc | apply Kd.R_drewN | apply Kd.R_drew)); exact HR.out) hg (fun k_ h_ e_ => h_ (Option.some.inj e_))); clear hg; have HS2 := Aside0.mk hsc; clear hsc) | (go_at_call 45; (with_reducible refine (next_d g s' d _ (by (with_reducible repeat (first | refine blk_drewN ?_ _ | refine blk_drew ?_)); exact HS2.out)).mono ?_); rintro e w' ⟨rfl, ⟨nd, rfl⟩⟩))
        go_loopg [5, 6] k1 (fun kq v5 v6 w' => ∃ (s3 : ByteArray) (a : Addr), v5 = .pointer (some a) ∧ v6 = .int .u8 (nxB s3) ∧ Aside0 (stars kq s3 = some s2) ∧ Aside0 (PtR w' w.heap.size g (.slice Al l.length cl) l) ∧ Aside0 (ScB w' g s3 d) ∧ Aside0 (w.grownBy w' (some g)))
        case atStart => exact ⟨s', ap, rfl, rfl, HT, ⟨(by (with_reducible repeat (first | apply Kd.R_alloc | apply Kd.R_drewN | apply Kd.R_drew)); exact HR2.out)⟩, ⟨(by (with_reducible repeat (first | refine blk_drewN ?_ _ | refine blk_drew ?_)); exact HS2.out)⟩, ⟨by repeat (first | (with_reducible first | exact HG2.out | refine gr_drewN ?_ _ | refine gr_set ?_) | exact HG2.out)⟩⟩
        case round =>
          clear HT HS2 HG2 HR2 HR HSC HG
          obtain ⟨s3, a, rfl, rfl, HT, HR, HSC, HG⟩ := hrel
          cases gk with
          | zero => exact absurd HT.out (by simp [stars])
          | succ k2 =>
            have T := HT.out
            clear HT
            rw [stars] at T
            by_cases c0 : nxB s3 = 0
            · rw [if_pos c0] at T
              have e3 : (nxB s3 == 0) = true := beq_iff_eq.mpr c0
              have e3n : (nxB s3 != 0) = false := by rw [bne, e3]; rfl
              clear c0
              obtain rfl := Option.some.inj T
              clear T
              go_wp2_with (first | (at_builtin; refine Kd.R_append (Kd.scalar (fun a : Option Addr => Value.pointer a) (fun _ => rfl)) (w0 := _) w.heap.size rfl (.tmp 49) (.tmp 51) 73 38 (.pointer none) 8 rfl Try.underlying73 ptr_info ?x1 ?x2 ?x3 (.slice Al l.length cl) l (some a) [.pointer (some a)] (fun k_ => k_ ≠ g) (fun _ => False) ?x4 ?x5 ?aP ?x6 ?aF ?aO (Below.refl _ _) ?aS ?aL ?_; (case x1 => exact rfl); (case x2 => exact Nat.one_pos); (case x3 => exact Nat.succ_pos 7); (case x4 => exact rfl); (case x5 => exact rfl); (case x6 => exact (fun _ hk => hk.elim)); (case aP => exact rfl); (case aF => exact (fun k_ hk e_ => by subst e_; exact absurd (blk_lt (by (with_reducible repeat (first | refine blk_drewN ?_ _ | refine blk_drew ?_)); exact HSC.out)) (Nat.not_lt.2 hk))); (case aO => exact (by (with_reducible repeat (first | apply Kd.R_alloc | apply Kd.R_drewN | apply Kd.R_drew)); exact HR.out)); (case aS => exact gr_size (w := w) (g := some g) (by repeat (first | (with_reducible first | exact HG.out | refine gr_drewN ?_ _ | refine gr_set ?_) | exact HG.out))); (case aL => have := HN.out; omega); intro v1 w1 ho hb hg hat; have HS1 := Aside0.mk (sc_own (v := .slice Al l.length cl) (by (with_reducible repeat (first | refine blk_drewN ?_ _ | refine blk_drew ?_)); exact HSC.out) hg (fun e_ => HR.out.1 _ e_ rfl)); have HG1 := Aside0.mk (gr_own (w := w) (g := some g) (v := .slice Al l.length cl) (by repeat (first | (with_reducible first | exact HG.out | refine gr_drewN ?_ _ | refine gr_set ?_) | exact HG.out)) hg (Kd.R_base HR.out)); have HR1 := Aside0.mk ho; clear hg hat hb ho) | (go_at_call 45; (with_reducible refine (next_d g s3 d _ (by (with_reducible repeat (first | refine blk_drewN ?_ _ | refine blk_drew ?_)); exact HS1.out)).mono ?_); rintro e w' ⟨rfl, ⟨nd, rfl⟩⟩))
              go_roundg k1
              case measure => have := HK1.out; omega
              case rel => exact ⟨_, l ++ [some a], rfl, ⟨by rw [List.length_append]; exact H'.out⟩, ⟨by have := HK1.out; omega⟩, ⟨(by (with_reducible repeat (first | apply Kd.R_alloc | apply Kd.R_drewN | apply Kd.R_drew)); exact HR1.out)⟩, ⟨(by (with_reducible repeat (first | refine blk_drewN ?_ _ | refine blk_drew ?_)); exact HS1.out)⟩, ⟨by repeat (first | (with_reducible first | exact HG1.out | refine gr_drewN ?_ _ | refine gr_set ?_) | exact HG1.out)⟩⟩
            rw [if_neg c0] at T
            have hz : 0 < s3.size := nx_size (by exact c0)
            have z1 : decide (1 ≤ s3.size) = true := decide_eq_true hz
            have z2 := eq_true (show 1 ≤ s3.size from hz)
            have z3 : decide ((1 : Int) ≤ (s3.size : Int)) = true := decide_eq_true (by omega)
            have z4 := eq_true (show (1 : Int) ≤ (s3.size : Int) by omega)
            clear hz
            have e3 : (nxB s3 == 0) = false := beq_eq_false_iff_ne.mpr c0
            have e3n : (nxB s3 != 0) = true := by rw [bne, e3]; rfl
            clear c0
            obtain ⟨t, hi, T⟩ := Option.bind_eq_some_iff.mp T
            have AI := Aside0.mk hi
            clear hi
            by_cases ct : t ≥ 0
            · rw [if_pos ct] at T
              have ct1 : decide (0 ≤ t) = true := decide_eq_true ct
              have T' := Aside0.mk T
              clear T ct
              have hca : ∀ (n : Nat) (o1 o2 : Obj), (((wr.drewN n).alloc o1).alloc o2).cell? ⟨g, 0, none⟩ = some (.string s3) := fun n o1 o2 => sc_cell0 (d := d) (blk_alloc (blk_alloc (blk_drewN HSC.out n) o1) o2)
              have hfa : ∀ (n : Nat) (o1 o2 : Obj), (((wr.drewN n).alloc o1).alloc o2).frozen? ⟨g, 0, none⟩ = false := fun n o1 o2 => blk_frozen (blk_alloc (blk_alloc (blk_drewN HSC.out n) o1) o2) 0
              go_wp2_with (first | (go_at_call 25; (with_reducible refine (strings_IndexByte.calls (⟨#[42, 63, 43]⟩ : ByteArray) (nxB s3) t _ AI.out).mono ?_); rintro e w' ⟨rfl, ⟨nd, rfl⟩⟩) | (go_at_call 45; (with_reducible refine (next_d g (tlB s3) d _ (by (with_reducible repeat (first | refine blk_drewN ?_ _ | refine blk_drew ?_)); refine sc_set0 (s := s3) ?_ _; exact (by (with_reducible repeat (first | refine blk_drewN ?_ _ | refine blk_drew ?_ | refine blk_alloc ?_ _)); exact HSC.out))).mono ?_); rintro e w' ⟨rfl, ⟨nd, rfl⟩⟩))
              go_roundg k2
              case measure => omega
              case rel => exact ⟨tlB s3, _, rfl, rfl, T', ⟨by (with_reducible repeat (first | apply Kd.R_drewN | apply Kd.R_drew)); refine Kd.R_far ?_ (fun k_ h_ => h_) _; (with_reducible repeat (first | apply Kd.R_alloc | apply Kd.R_drewN | apply Kd.R_drew)); exact HR.out⟩, ⟨by (with_reducible repeat (first | refine blk_drewN ?_ _ | refine blk_drew ?_)); refine sc_set0 (s := s3) ?_ _; exact (by (with_reducible repeat (first | refine blk_drewN ?_ _ | refine blk_drew ?_ | refine blk_alloc ?_ _)); exact HSC.out)⟩, ⟨by (repeat refine gr_drewN ?_ _); refine gr_set ?_; (with_reducible repeat (first | exact HG.out | refine gr_drewN ?_ _ | refine gr_alloc ?_ _))⟩⟩
            · rw [if_neg ct] at T
              have ct1 : decide (0 ≤ t) = false := decide_eq_false ct
              clear ct
              obtain rfl := Option.some.inj T
              clear T
              go_wp2_with (first | (go_at_call 25; (with_reducible refine (strings_IndexByte.calls (⟨#[42, 63, 43]⟩ : ByteArray) (nxB s3) t _ AI.out).mono ?_); rintro e w' ⟨rfl, ⟨nd, rfl⟩⟩) | (at_builtin; refine Kd.R_append (Kd.scalar (fun a : Option Addr => Value.pointer a) (fun _ => rfl)) (w0 := _) w.heap.size rfl (.tmp 49) (.tmp 51) 73 38 (.pointer none) 8 rfl Try.underlying73 ptr_info ?x1 ?x2 ?x3 (.slice Al l.length cl) l (some a) [.pointer (some a)] (fun k_ => k_ ≠ g) (fun _ => False) ?x4 ?x5 ?aP ?x6 ?aF ?aO (Below.refl _ _) ?aS ?aL ?_; (case x1 => exact rfl); (case x2 => exact Nat.one_pos); (case x3 => exact Nat.succ_pos 7); (case x4 => exact rfl); (case x5 => exact rfl); (case x6 => exact (fun _ hk => hk.elim)); (case aP => exact rfl); (case aF => exact (fun k_ hk e_ => by subst e_; exact absurd (blk_lt (by (with_reducible repeat (first | refine blk_drewN ?_ _ | refine blk_drew ?_)); exact HSC.out)) (Nat.not_lt.2 hk))); (case aO => exact (by (with_reducible repeat (first | apply Kd.R_alloc | apply Kd.R_drewN | apply Kd.R_drew)); exact HR.out)); (case aS => exact gr_size (w := w) (g := some g) (by repeat (first | (with_reducible first | exact HG.out | refine gr_drewN ?_ _ | refine gr_set ?_) | exact HG.out))); (case aL => have := HN.out; omega); intro v1 w1 ho hb hg hat; have HS1 := Aside0.mk (sc_own (v := .slice Al l.length cl) (by (with_reducible repeat (first | refine blk_drewN ?_ _ | refine blk_drew ?_)); exact HSC.out) hg (fun e_ => HR.out.1 _ e_ rfl)); have HG1 := Aside0.mk (gr_own (w := w) (g := some g) (v := .slice Al l.length cl) (by repeat (first | (with_reducible first | exact HG.out | refine gr_drewN ?_ _ | refine gr_set ?_) | exact HG.out)) hg (Kd.R_base HR.out)); have HR1 := Aside0.mk ho; clear hg hat hb ho) | (go_at_call 45; (with_reducible refine (next_d g s3 d _ (by (with_reducible repeat (first | refine blk_drewN ?_ _ | refine blk_drew ?_)); exact HS1.out)).mono ?_); rintro e w' ⟨rfl, ⟨nd, rfl⟩⟩))
              go_roundg k1
              case measure => have := HK1.out; omega
              case rel => exact ⟨_, l ++ [some a], rfl, ⟨by rw [List.length_append]; exact H'.out⟩, ⟨by have := HK1.out; omega⟩, ⟨(by (with_reducible repeat (first | apply Kd.R_alloc | apply Kd.R_drewN | apply Kd.R_drew)); exact HR1.out)⟩, ⟨(by (with_reducible repeat (first | refine blk_drewN ?_ _ | refine blk_drew ?_)); exact HS1.out)⟩, ⟨by repeat (first | (with_reducible first | exact HG1.out | refine gr_drewN ?_ _ | refine gr_set ?_) | exact HG1.out)⟩⟩
set_option maxHeartbeats 4000000 in
set_option maxRecDepth 100000 in
theorem parted_walk (k : Nat) (ih : ∀ j, j < k → RowS j) : PartedS k := by
  intro s d res g w hd0 hd1 hb h
  have HSC := Aside0.mk hb
  have HH := Aside0.mk h
  have HD := Aside0.mk (And.intro hd0 hd1)
  have HIH := Aside0.mk ih
  clear hb h hd0 hd1 ih
  go_enter Try.func30, Try.ntmps30
  go_wp2
  go_loopg [3] k (fun kq v3 w' => ∃ (s1 : ByteArray) (l : List (Option Addr)), Aside0 (iParted kq s1 d l.length = some res) ∧ Aside0 (kq ≤ k) ∧ Aside0 (PtR w' w.heap.size g v3 l) ∧ Aside0 (ScB w' g s1 d) ∧ Aside0 (w.grownBy w' (some g)))
  case atStart => exact ⟨s, [], HH, ⟨Nat.le_refl _⟩, ⟨Kd.R_nil _ _ _ _ _⟩, ⟨(by (with_reducible repeat (first | refine blk_drewN ?_ _ | refine blk_drew ?_)); exact HSC.out)⟩, ⟨by repeat (first | (with_reducible first | exact gr_refl _ _ | refine gr_drewN ?_ _ | refine gr_set ?_) | exact gr_refl _ _)⟩⟩
  case round =>
    clear HSC HH
    obtain ⟨s1, l, HA, HK1, HR, HSC, HG⟩ := hrel
    obtain ⟨Al, cl, el⟩ := Kd.R_slice HR.out
    subst el
    cases gk with
    | zero => exact absurd HA.out (by simp [iParted])
    | succ k1 =>
      have H := HA.out
      clear HA
      rw [iParted] at H
      by_cases hn : 1073741824 < l.length
      · rw [if_pos hn] at H; cases H
      rw [if_neg hn] at H
      have HN := Aside0.mk (show l.length ≤ 1073741824 by omega)
      clear hn
      obtain ⟨r, hp, H⟩ := Option.bind_eq_some_iff.mp H
      have HP := Aside0.mk hp
      have ihk := HIH.out k1 (Nat.lt_of_lt_of_le (Nat.lt_succ_self k1) HK1.out)
      unfold RowS at ihk
      have IH := Aside0.mk ihk
      clear hp ihk
      cases r with
      | none =>
        obtain rfl := Option.some.inj H
        clear H
        go_wp2_with (first | (go_at_call 44; (with_reducible refine (IH.out s1 d none g _ HD.out.1 HD.out.2 (by (with_reducible repeat (first | refine blk_drewN ?_ _ | refine blk_drew ?_)); exact HSC.out) HP.out).mono ?_); rintro e w2 ⟨hr, hg⟩; obtain rfl := hr; have HG2 := Aside0.mk (show w.grownBy w2 (some g) from gr_trans (by repeat (first | (with_reducible first | exact HG.out | refine gr_drewN ?_ _ | refine gr_set ?_) | exact HG.out)) hg); have HR2 := Aside0.mk (Kd.R_grown (ok := fun k_ => k_ ≠ g) (by (with_reducible repeat (first | apply Kd.R_alloc | apply Kd.R_drewN | apply Kd.R_drew)); exact HR.out) hg (fun k_ h_ e_ => h_ (Option.some.inj e_))); clear hg))
        go_ret
        exact ⟨rfl, by repeat (first | (with_reducible first | exact HG2.out | refine gr_drewN ?_ _ | refine gr_set ?_) | exact HG2.out)⟩
      | some s' =>
        dsimp only at H
        by_cases c : nxB s' = 124
        · rw [if_pos c] at H
          have e4 : (nxB s' == 124) = true := beq_iff_eq.mpr c
          have e4n : (nxB s' != 124) = false := by rw [bne, e4]; rfl
          have hz : 0 < s'.size := nx_size (by rw [c]; decide)
          have z1 : decide (1 ≤ s'.size) = true := decide_eq_true hz
          have z2 := eq_true (show 1 ≤ s'.size from hz)
          have z3 : decide ((1 : Int) ≤ (s'.size : Int)) = true := decide_eq_true (by omega)
          have z4 := eq_true (show (1 : Int) ≤ (s'.size : Int) by omega)
          clear hz
          have H' := Aside0.mk H
          clear H c
          go_wp2_with (first | (go_at_call 44; (with_reducible refine (IH.out s1 d (some s') g _ HD.out.1 HD.out.2 (by (with_reducible repeat (first | refine blk_drewN ?_ _ | refine blk_drew ?_)); exact HSC.out) HP.out).mono ?_); rintro e w2 ⟨hr, hg⟩; obtain ⟨ap, rfl, hsc⟩ := hr; have HG2 := Aside0.mk (show w.grownBy w2 (some g) from gr_trans (by repeat (first | (with_reducible first | exact HG.out | refine gr_drewN ?_ _ | refine gr_set ?_) | exact HG.out)) hg); have HR2 := Aside0.mk (Kd.R_grown (ok := fun k_ => k_ ≠ g) (by (with_reducible repeat (first | apply Kd.R_alloc | apply Kd.R_drewN | apply Kd.R_drew)); exact HR.out) hg (fun k_ h_ e_ => h_ (Option.some.inj e_))); clear hg; have HS2 := Aside0.mk hsc; clear hsc) | (at_builtin; refine Kd.R_append (Kd.scalar (fun a : Option Addr => Value.pointer a) (fun _ => rfl)) (w0 := _) w.heap.size rfl (.tmp 9) (.tmp 11) 73 38 (.pointer none) 8 rfl Try.underlying73 ptr_info ?x1 ?x2 ?x3 (.slice Al l.length cl) l (some ap) [.pointer (some ap)] (fun k_ => k_ ≠ g) (fun _ => False) ?x4 ?x5 ?aP ?x6 ?aF ?aO (Below.refl _ _) ?aS ?aL ?_; (case x1 => exact rfl); (case x2 => exact Nat.one_pos); (case x3 => exact Nat.succ_pos 7); (case x4 => exact rfl); (case x5 => exact rfl); (case x6 => exact (fun _ hk => hk.elim)); (case aP => exact rfl); (case aF => exact (fun k_ hk e_ => by subst e_; exact absurd (blk_lt (by (with_reducible repeat (first | refine blk_drewN ?_ _ | refine blk_drew ?_)); exact HS2.out)) (Nat.not_lt.2 hk))); (case aO => exact (by (with_reducible repeat (first | apply Kd.R_alloc | apply Kd.R_drewN | apply Kd.R_drew)); exact HR2.out)); (case aS => exact gr_size (w := w) (g := some g) (by repeat (first | (with_reducible first | exact HG2.out | refine gr_drewN ?_ _ | refine gr_set ?_) | exact HG2.out))); (case aL => have := HN.out; omega); intro v1 w1 ho hb hg hat; have HS1 := Aside0.mk (sc_own (v := .slice Al l.length cl) (by (with_reducible repeat (first | refine blk_drewN ?_ _ | refine blk_drew ?_)); exact HS2.out) hg (fun e_ => HR2.out.1 _ e_ rfl)); have HG1 := Aside0.mk (gr_own (w := w) (g := some g) (v := .slice Al l.length cl) (by repeat (first | (with_reducible first | exact HG2.out | refine gr_drewN ?_ _ | refine gr_set ?_) | exact HG2.out)) hg (Kd.R_base HR2.out)); have HR1 := Aside0.mk ho; clear hg hat hb ho; obtain ⟨A1, c1, e0_⟩ := Kd.R_slice HR1.out; have e1_ : v1 = .slice A1 (l.length + 1) c1 := e0_.trans (by rw [List.length_append]; rfl); clear e0_; subst e1_; have hcn := sc_cell0 HS1.out; have hfn := blk_frozen HS1.out 0) | (go_at_call 45; (with_reducible refine (next_d g s' d _ (by (with_reducible repeat (first | refine blk_drewN ?_ _ | refine blk_drew ?_)); exact HS1.out)).mono ?_); rintro e w' ⟨rfl, ⟨nd, rfl⟩⟩))
          go_roundg k1
          case measure => have := HK1.out; omega
          case rel => exact ⟨tlB s', l ++ [some ap], ⟨by rw [List.length_append]; exact H'.out⟩, ⟨by have := HK1.out; omega⟩, ⟨by refine Kd.R_far (p := ⟨g, 0, none⟩) ?_ (fun k_ h_ => h_) _; (with_reducible repeat (first | apply Kd.R_alloc | apply Kd.R_drewN | apply Kd.R_drew)); exact HR1.out⟩, ⟨by refine sc_set0 (s := s') ?_ _; exact (by (with_reducible repeat (first | refine blk_drewN ?_ _ | refine blk_drew ?_)); exact HS1.out)⟩, ⟨by refine gr_set ?_; (with_reducible repeat (first | exact HG1.out | refine gr_drewN ?_ _ | refine gr_alloc ?_ _))⟩⟩
        · rw [if_neg c] at H
          obtain rfl := Option.some.inj H
          have e4 : (nxB s' == 124) = false := beq_eq_false_iff_ne.mpr c
          have e4n : (nxB s' != 124) = true := by rw [bne, e4]; rfl
          clear H c
          go_wp2_with (first | (go_at_call 44; (with_reducible refine (IH.out s1 d (some s') g _ HD.out.1 HD.out.2 (by (with_reducible repeat (first | refine blk_drewN ?_ _ | refine blk_drew ?_)); exact HSC.out) HP.out).mono ?_); rintro e w2 ⟨hr, hg⟩; obtain ⟨ap, rfl, hsc⟩ := hr; have HG2 := Aside0.mk (show w.grownBy w2 (some g) from gr_trans (by repeat (first | (with_reducible first | exact HG.out | refine gr_drewN ?_ _ | refine gr_set ?_) | exact HG.out)) hg); have HR2 := Aside0.mk (Kd.R_grown (ok := fun k_ => k_ ≠ g) (by (with_reducible repeat (first | apply Kd.R_alloc | apply Kd.R_drewN | apply Kd.R_drew)); exact HR.out) hg (fun k_ h_ e_ => h_ (Option.some.inj e_))); clear hg; have HS2 := Aside0.mk hsc; clear hsc) | (at_builtin; refine Kd.R_append (Kd.scalar (fun a : Option Addr => Value.pointer a) (fun _ => rfl)) (w0 := _) w.heap.size rfl (.tmp 9) (.tmp 11) 73 38 (.pointer none) 8 rfl Try.underlying73 ptr_info ?x1 ?x2 ?x3 (.slice Al l.length cl) l (some ap) [.pointer (some ap)] (fun k_ => k_ ≠ g) (fun _ => False) ?x4 ?x5 ?aP ?x6 ?aF ?aO (Below.refl _ _) ?aS ?aL ?_; (case x1 => exact rfl); (case x2 => exact Nat.one_pos); (case x3 => exact Nat.succ_pos 7); (case x4 => exact rfl); (case x5 => exact rfl); (case x6 => exact (fun _ hk => hk.elim)); (case aP => exact rfl); (case aF => exact (fun k_ hk e_ => by subst e_; exact absurd (blk_lt (by (with_reducible repeat (first | refine blk_drewN ?_ _ | refine blk_drew ?_)); exact HS2.out)) (Nat.not_lt.2 hk))); (case aO => exact (by (with_reducible repeat (first | apply Kd.R_alloc | apply Kd.R_drewN | apply Kd.R_drew)); exact HR2.out)); (case aS => exact gr_size (w := w) (g := some g) (by repeat (first | (with_reducible first | exact HG2.out | refine gr_drewN ?_ _ | refine gr_set ?_) | exact HG2.out))); (case aL => have := HN.out; omega); intro v1 w1 ho hb hg hat; have HS1 := Aside0.mk (sc_own (v := .slice Al l.length cl) (by (with_reducible repeat (first | refine blk_drewN ?_ _ | refine blk_drew ?_)); exact HS2.out) hg (fun e_ => HR2.out.1 _ e_ rfl)); have HG1 := Aside0.mk (gr_own (w := w) (g := some g) (v := .slice Al l.length cl) (by repeat (first | (with_reducible first | exact HG2.out | refine gr_drewN ?_ _ | refine gr_set ?_) | exact HG2.out)) hg (Kd.R_base HR2.out)); have HR1 := Aside0.mk ho; clear hg hat hb ho; obtain ⟨A1, c1, e0_⟩ := Kd.R_slice HR1.out; have e1_ : v1 = .slice A1 (l.length + 1) c1 := e0_.trans (by rw [List.length_append]; rfl); clear e0_; subst e1_; have hcn := sc_cell0 HS1.out; have hfn := blk_frozen HS1.out 0) | (go_at_call 45; (with_reducible refine (next_d g s' d _ (by (with_reducible repeat (first | refine blk_drewN ?_ _ | refine blk_drew ?_)); exact HS1.out)).mono ?_); rintro e w' ⟨rfl, ⟨nd, rfl⟩⟩) | ((with_reducible refine gate_dst (N := 18) rfl ?_); refine box_event ?hg (N := 18) ?hd (cs := #[.int .u8 124, .slice A1 (l.length + 1) c1]) (t := 75) ?hr ?_; (case hd => rfl); (case hg => rfl); (case hr => first | (go_simp; done) | (go_simp; rfl)); intro gx hgx wx hbox hb; have HX := Aside0.mk hb; clear hbox hgx hb))
          go_ret
          exact ⟨⟨_, rfl, sc_below ((by (with_reducible repeat (first | refine blk_drewN ?_ _ | refine blk_drew ?_)); exact HS1.out)) HX.out⟩, gr_below (by repeat (first | (with_reducible first | exact HG1.out | refine gr_drewN ?_ _ | refine gr_set ?_) | exact HG1.out)) HX.out⟩
theorem scan_all (k : Nat) : AtomS k ∧ RowS k ∧ PartedS k := by
  induction k using Nat.strongRecOn with
  | ind k ih => exact ⟨atom_walk k (fun j h => (ih j h).2.2), row_walk k (fun j h => (ih j h).1), parted_walk k (fun j h => (ih j h).2.1)⟩
theorem stars_mono : ∀ k s, LeO (stars k s) (stars (k + 1) s)
  | 0 => fun _ r h => by simp [stars] at h
  | k + 1 => by
    intro s
    unfold stars
    exact LeO.ite (LeO.refl _) (LeO.bind (LeO.refl _) (fun _ => LeO.ite (stars_mono k _) (LeO.refl _)))
theorem scan_mono : ∀ k, (∀ s d, LeO (iAtom k s d) (iAtom (k + 1) s d)) ∧ (∀ s d n, LeO (iRow k s d n) (iRow (k + 1) s d n)) ∧ (∀ s d n, LeO (iParted k s d n) (iParted (k + 1) s d n))
  | 0 => ⟨fun _ _ r h => by simp [iAtom] at h, fun _ _ _ r h => by simp [iRow] at h, fun _ _ _ r h => by simp [iParted] at h⟩
  | k + 1 => by
    obtain ⟨ha, hr, hp⟩ := scan_mono k
    refine ⟨fun s d => ?_, fun s d n => ?_, fun s d n => ?_⟩
    · rw [iAtom, iAtom]
      refine LeO.bind (LeO.refl _) (fun t => LeO.ite (LeO.refl _) (LeO.ite (LeO.refl _) (LeO.ite (LeO.refl _) (LeO.ite (LeO.refl _) (LeO.ite (LeO.ite (LeO.refl _) (LeO.bind (hp _ _ _) (fun r => ?_))) (LeO.refl _))))))
      exact LeO.refl _
    · rw [iRow, iRow]
      refine LeO.ite (LeO.refl _) (LeO.ite (LeO.refl _) (LeO.ite (LeO.refl _) (LeO.ite (LeO.refl _) (LeO.bind (ha _ _) (fun r => ?_)))))
      cases r with
      | none => exact LeO.refl _
      | some s' => exact LeO.bind (stars_mono k _) (fun _ => hr _ _ _)
    · rw [iParted, iParted]
      refine LeO.ite (LeO.refl _) (LeO.bind (hr _ _ _) (fun r => ?_))
      cases r with
      | none => exact LeO.refl _
      | some s' => exact LeO.ite (hp _ _ _) (LeO.refl _)

/-! ### impl_readExpr: function 16 (by hand) -/
-- import Base
-- fn: loop.example/g00253/impl.readExpr
def readB (k : Nat) (s : ByteArray) : Option Bool :=
  if (s.size : Int) < 1 then some false else if (s.size : Int) > 60 then some false else (iParted k s 0 0).bind fun r => match r with | none => some false | some s' => some s'.toList.isEmpty
theorem below_gr {w w1 w2 : World} {g : Nat} (h : Below w.heap.size w w1) (hg : w.heap.size ≤ g) (k : w1.grownBy w2 (some g)) : Below w.heap.size w w2 :=
  ⟨k.os.trans h.os, k.tape.trans h.tape, k.output.trans h.output, Nat.le_trans h.size k.size, fun i hi => (k.block i (Nat.lt_of_lt_of_le hi h.size) (fun e => by have := Option.some.inj e; omega)).trans (h.block i hi)⟩
set_option maxHeartbeats 4000000 in
set_option maxRecDepth 100000 in
theorem read_calls (k : Nat) (s : ByteArray) (r : Bool) (w : World) (h : readB k s = some r) :
    Calls Try.prog 16 #[.string s] w fun e w' => (∃ v, e = .returned (.tuple #[.pointer v, .bool r])) ∧ Below w.heap.size w w' := by
  unfold readB at h
  by_cases c1 : (s.size : Int) < 1
  · rw [if_pos c1] at h
    obtain rfl := Option.some.inj h
    have c1b : decide ((s.size : Int) < 1) = true := decide_eq_true c1
    have c1c : decide (s.size < 1) = true := decide_eq_true (by omega)
    clear c1 h
    go_enter Try.func16, Try.ntmps16
    go_wp2
    go_ret2
    exact ⟨⟨_, rfl⟩, Below.refl _ _⟩
  · rw [if_neg c1] at h
    have c1b : decide ((s.size : Int) < 1) = false := decide_eq_false c1
    have c1c : decide (s.size < 1) = false := decide_eq_false (by omega)
    clear c1
    by_cases c2 : (s.size : Int) > 60
    · rw [if_pos c2] at h
      obtain rfl := Option.some.inj h
      have c2b : decide (60 < (s.size : Int)) = true := decide_eq_true c2
      have c2c : decide (60 < s.size) = true := decide_eq_true (by omega)
      clear c2 h
      go_enter Try.func16, Try.ntmps16
      go_wp2
      go_ret2
      exact ⟨⟨_, rfl⟩, Below.refl _ _⟩
    · rw [if_neg c2] at h
      have c2b : decide (60 < (s.size : Int)) = false := decide_eq_false c2
      have c2c : decide (60 < s.size) = false := decide_eq_false (by omega)
      clear c2
      obtain ⟨t, hp, h⟩ := Option.bind_eq_some_iff.mp h
      have HP := Aside0.mk hp
      have hs := (scan_all k).2.2
      unfold PartedS at hs
      have HS := Aside0.mk hs
      clear hp hs
      cases t with
      | none =>
        obtain rfl := Option.some.inj h
        clear h
        go_enter Try.func16, Try.ntmps16
        go_wp2_with (first | ((with_reducible refine gate_dst (N := 16) rfl ?_); refine box_event ?hg (N := 16) ?hd (cs := #[.string s, .int .i64 0]) (t := 60) ?hr ?_; (case hd => rfl); (case hg => rfl); (case hr => first | (go_simp; done) | (go_simp; rfl)); intro g hgb w1 hbox hb; have HG := Aside0.mk (show w.heap.size ≤ g by rw [hgb]; exact Nat.le_refl _); have HBK := Aside0.mk (show ScB w1 g s 0 from hbox); have HB := Aside0.mk hb; clear hbox hgb hb) | (go_at_call 30; (with_reducible refine (HS.out s 0 none g _ (by decide) (by decide) HBK.out HP.out).mono ?_); rintro e w2 ⟨hr, hg⟩; obtain rfl := hr; have HB2 := Aside0.mk (below_gr HB.out HG.out hg); clear hg))
        repeat (go_quiet (fail); try go_wp2)
        go_ret2
        exact ⟨⟨_, rfl⟩, by repeat (first | (with_reducible first | exact HB2.out | apply below_alloc | apply pw_below_drewN | apply below_drew1) | exact HB2.out)⟩
      | some s' =>
        obtain rfl := Option.some.inj h
        clear h
        go_enter Try.func16, Try.ntmps16
        go_wp2_with (first | ((with_reducible refine gate_dst (N := 16) rfl ?_); refine box_event ?hg (N := 16) ?hd (cs := #[.string s, .int .i64 0]) (t := 60) ?hr ?_; (case hd => rfl); (case hg => rfl); (case hr => first | (go_simp; done) | (go_simp; rfl)); intro g hgb w1 hbox hb; have HG := Aside0.mk (show w.heap.size ≤ g by rw [hgb]; exact Nat.le_refl _); have HBK := Aside0.mk (show ScB w1 g s 0 from hbox); have HB := Aside0.mk hb; clear hbox hgb hb) | (go_at_call 30; (with_reducible refine (HS.out s 0 (some s') g _ (by decide) (by decide) HBK.out HP.out).mono ?_); rintro e w2 ⟨hr, hg⟩; obtain ⟨ap, rfl, hsc⟩ := hr; have HB2 := Aside0.mk (below_gr HB.out HG.out hg); have hc2 := sc_cell0 hsc; have hf2 := blk_frozen hsc 0; clear hg hsc))
        repeat (go_quiet (fail); try go_wp2)
        go_ret2
        exact ⟨⟨_, rfl⟩, by repeat (first | (with_reducible first | exact HB2.out | apply below_alloc | apply pw_below_drewN | apply below_drew1) | exact HB2.out)⟩

/-! ### impl_GoodExpr: function 7 (by hand) -/
-- import Base
def impl_GoodExpr.f (k : Nat) (a0 : ByteArray) : Option (Bool) := readB k a0
theorem impl_GoodExpr.mono : ∀ a0 k, LeO (impl_GoodExpr.f k a0) (impl_GoodExpr.f (k + 1) a0) := by
  intro a0 k
  unfold impl_GoodExpr.f readB
  refine LeO.ite (LeO.refl _) (LeO.ite (LeO.refl _) (LeO.bind ((scan_mono k).2.2 _ _ _) (fun r => ?_)))
  exact LeO.refl _
set_option maxHeartbeats 4000000 in
set_option maxRecDepth 100000 in
theorem impl_GoodExpr.calls (k : Nat) (a0 : ByteArray) (r : Bool) (w : World) (h : impl_GoodExpr.f k a0 = some r) :
    Calls Try.prog 7 #[.string a0] w fun e w' => e = .returned (.bool r) ∧ Below w.heap.size w w' := by
  unfold impl_GoodExpr.f at h
  have HH := Aside0.mk h
  clear h
  go_enter Try.func7, Try.ntmps7
  go_wp2_with (first | (go_at_call 16; (with_reducible refine (read_calls k a0 r _ HH.out).mono ?_); rintro e w1 ⟨⟨v, rfl⟩, hb⟩; have HB := Aside0.mk hb; clear hb))
  go_ret
  exact ⟨rfl, HB.out⟩

/-! ### laws_FnExactGoodExpr: function 3 -/
def laws_FnExactGoodExpr.f (k : Nat) (a0 : ByteArray) : Option (Bool) := if (a0.size : Int) > 1048576 then (some true) else ((spec_GoodExpr.f k a0).bind fun t103 => ((impl_GoodExpr.f k a0).bind fun t104 => (if (t104 != t103) = true then (some false) else (some true))))
theorem laws_FnExactGoodExpr.mono : ∀ a0 k, LeO (laws_FnExactGoodExpr.f k a0) (laws_FnExactGoodExpr.f (k + 1) a0) := by
  intro a0 k
  unfold laws_FnExactGoodExpr.f
  repeat' first
      | (with_reducible exact impl_GoodExpr.mono _ _)
      | (with_reducible exact spec_GoodExpr.mono _ _)
      | (with_reducible exact LeO.refl _)
      | (with_reducible exact LeO.none _)
      | (with_reducible refine LeO.ite ?_ ?_)
      | (with_reducible refine LeO.bind ?_ (fun _ => ?_))
      | exact impl_GoodExpr.mono _ _
      | exact spec_GoodExpr.mono _ _
      | exact LeO.none _
      | refine LeO.ite ?_ ?_
      | refine LeO.bind ?_ (fun _ => ?_)
set_option maxHeartbeats 8000000 in
set_option maxRecDepth 100000 in
theorem laws_FnExactGoodExpr.calls (k : Nat) (a0 : ByteArray) (r : Bool) (w : World) (h : laws_FnExactGoodExpr.f k a0 = some r) :
    Calls Try.prog 3 #[.string a0] w fun e w' => e = .returned (.bool r) ∧ Below w.heap.size w w' := by
  have HB := Aside0.mk (Below.refl w.heap.size w)
  have H : (if (a0.size : Int) > 1048576 then (some true) else ((spec_GoodExpr.f k a0).bind fun t103 => ((impl_GoodExpr.f k a0).bind fun t104 => (if (t104 != t103) = true then (some false) else (some true))))) = some r := h
  clear h
  by_cases c2 : (a0.size : Int) > 1048576
  · rw [if_pos c2] at H
    have c2b0 : decide (1048576 < (a0.size : Int)) = true := decide_eq_true c2
    have c2b1 : decide (1048576 < a0.size) = true := decide_eq_true (by omega)
    clear c2
    obtain rfl := Option.some.inj H
    go_enter Try.func3, Try.ntmps3
    go_wp2
    go_ret
    exact ⟨by first | rfl | (simp [errW_none, errW_some] <;> rfl) | (simp [errW_none, errW_some]; exact (show ∀ l_ : List UInt8, l_.isEmpty = !(l_ != []) from fun l_ => by cases l_ <;> rfl) _) | (simp [*, errW_none, errW_some] <;> rfl), by repeat (first | (with_reducible first | exact HB.out | apply below_alloc | apply pw_below_drewN | apply below_drew1) | exact HB.out)⟩
  · rw [if_neg c2] at H
    have c2b0 : decide (1048576 < (a0.size : Int)) = false := decide_eq_false c2
    have c2b1 : decide (1048576 < a0.size) = false := decide_eq_false (by omega)
    clear c2
    replace H := Option.bind_eq_some_iff.mp H
    obtain ⟨t103, A30, H⟩ := H
    replace H : ((impl_GoodExpr.f k a0).bind fun t104 => (if (t104 != t103) = true then (some false) else (some true))) = some r := H
    have A3 := Aside0.mk A30
    clear A30
    replace H := Option.bind_eq_some_iff.mp H
    obtain ⟨t104, A40, H⟩ := H
    replace H : (if (t104 != t103) = true then (some false) else (some true)) = some r := H
    have A4 := Aside0.mk A40
    clear A40
    by_cases c5 : (t104 != t103) = true
    · rw [if_pos c5] at H
      have c5b0 : (t104 != t103) = true := c5
      (try (have c5b1 : decide (t104 = t103) = false := by simpa using c5))
      (try (have c5b2 : (t104 == t103) = false := by simpa using c5))
      (try (have c5b3 : ¬ (t104 = t103) := by simpa using c5))
      clear c5
      obtain rfl := Option.some.inj H
      go_enter Try.func3, Try.ntmps3
      go_wp2_with (first | ((with_reducible refine gate_callee (f := 6) rfl ?_); refine goesL_ (some 9) rfl rfl Try.func6 (by kernel_rfl) rfl #[.string a0] rfl (by (try simp only [List.map_toArray, List.map_cons, List.map_nil]); first | done | rfl | (simp only [List.length_drop, List.length_take]; rfl)) ?_; (with_reducible refine (spec_GoodExpr.calls k a0 t103 _ A3.out).mono ?_); rintro e w6 ⟨rfl, hb⟩; refine ⟨_, rfl, ?_⟩; have n0_ := Aside0.mk (below_step (by repeat (first | (with_reducible first | exact HB.out | apply below_alloc | apply pw_below_drewN | apply below_drew1) | exact HB.out)) hb); clear HB; have HB := n0_; clear n0_; (try clear hb); (try clear hb2); (try clear hk); (try clear hi)) | ((with_reducible refine gate_callee (f := 7) rfl ?_); refine goesL_ (some 11) rfl rfl Try.func7 (by kernel_rfl) rfl #[.string a0] rfl (by (try simp only [List.map_toArray, List.map_cons, List.map_nil]); first | done | rfl | (simp only [List.length_drop, List.length_take]; rfl)) ?_; (with_reducible refine (impl_GoodExpr.calls k a0 t104 _ A4.out).mono ?_); rintro e w7 ⟨rfl, hb⟩; refine ⟨_, rfl, ?_⟩; have n0_ := Aside0.mk (below_step (by repeat (first | (with_reducible first | exact HB.out | apply below_alloc | apply pw_below_drewN | apply below_drew1) | exact HB.out)) hb); clear HB; have HB := n0_; clear n0_; (try clear hb); (try clear hb2); (try clear hk); (try clear hi)))
      go_ret
      exact ⟨by first | rfl | (simp [errW_none, errW_some] <;> rfl) | (simp [errW_none, errW_some]; exact (show ∀ l_ : List UInt8, l_.isEmpty = !(l_ != []) from fun l_ => by cases l_ <;> rfl) _) | (simp [*, errW_none, errW_some] <;> rfl), by repeat (first | (with_reducible first | exact HB.out | apply below_alloc | apply pw_below_drewN | apply below_drew1) | exact HB.out)⟩
    · rw [if_neg c5] at H
      have c5b0 : (t104 != t103) = false := by simpa using c5
      (try (have c5b1 : decide (t104 = t103) = true := by simpa using c5))
      (try (have c5b2 : (t104 == t103) = true := by simpa using c5))
      clear c5
      obtain rfl := Option.some.inj H
      go_enter Try.func3, Try.ntmps3
      go_wp2_with (first | ((with_reducible refine gate_callee (f := 6) rfl ?_); refine goesL_ (some 9) rfl rfl Try.func6 (by kernel_rfl) rfl #[.string a0] rfl (by (try simp only [List.map_toArray, List.map_cons, List.map_nil]); first | done | rfl | (simp only [List.length_drop, List.length_take]; rfl)) ?_; (with_reducible refine (spec_GoodExpr.calls k a0 t103 _ A3.out).mono ?_); rintro e w8 ⟨rfl, hb⟩; refine ⟨_, rfl, ?_⟩; have n0_ := Aside0.mk (below_step (by repeat (first | (with_reducible first | exact HB.out | apply below_alloc | apply pw_below_drewN | apply below_drew1) | exact HB.out)) hb); clear HB; have HB := n0_; clear n0_; (try clear hb); (try clear hb2); (try clear hk); (try clear hi)) | ((with_reducible refine gate_callee (f := 7) rfl ?_); refine goesL_ (some 11) rfl rfl Try.func7 (by kernel_rfl) rfl #[.string a0] rfl (by (try simp only [List.map_toArray, List.map_cons, List.map_nil]); first | done | rfl | (simp only [List.length_drop, List.length_take]; rfl)) ?_; (with_reducible refine (impl_GoodExpr.calls k a0 t104 _ A4.out).mono ?_); rintro e w9 ⟨rfl, hb⟩; refine ⟨_, rfl, ?_⟩; have n0_ := Aside0.mk (below_step (by repeat (first | (with_reducible first | exact HB.out | apply below_alloc | apply pw_below_drewN | apply below_drew1) | exact HB.out)) hb); clear HB; have HB := n0_; clear n0_; (try clear hb); (try clear hb2); (try clear hk); (try clear hi)))
      go_ret
      exact ⟨by first | rfl | (simp [errW_none, errW_some] <;> rfl) | (simp [errW_none, errW_some]; exact (show ∀ l_ : List UInt8, l_.isEmpty = !(l_ != []) from fun l_ => by cases l_ <;> rfl) _) | (simp [*, errW_none, errW_some] <;> rfl), by repeat (first | (with_reducible first | exact HB.out | apply below_alloc | apply pw_below_drewN | apply below_drew1) | exact HB.out)⟩

/-- THE ONE PURE STATEMENT of laws_FnExactGoodExpr: yours. -/
def laws_FnExactGoodExpr.Pure : Prop := ∀ (a0 : ByteArray), a0.size ≤ 140737488351232 → ∃ k, laws_FnExactGoodExpr.f k a0 = some true
theorem laws_FnExactGoodExpr.walk (P : laws_FnExactGoodExpr.Pure) (a0 : ByteArray) (w : World) (w0 : a0.size ≤ 140737488351232) :
    Calls Try.prog 3 #[.string a0] w fun e w' => e = .returned (.bool true) ∧ Below w.heap.size w w' := by
  obtain ⟨k, h⟩ := P a0 w0
  refine (laws_FnExactGoodExpr.calls k a0 true w h).mono ?_
  rintro e w' ⟨rfl, hd⟩
  exact ⟨rfl, hd⟩

end Go.Proofs.Ytjiidokpmhabgaa.PFnExactGoodExpr
