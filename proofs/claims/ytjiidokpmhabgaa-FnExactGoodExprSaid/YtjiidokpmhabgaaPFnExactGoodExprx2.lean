/- Written by a program of this session (wip/ovl.py) over the kit's print: plain functions with the answers of the Go functions, and the proofs that they are; no condition. -/
import Derived.Test.YtjiidokpmhabgaaBase
import Derived.Test.YtjiidokpmhabgaaPFnExactGoodExprx0
import Derived.Test.YtjiidokpmhabgaaPFnExactGoodExprx1
namespace Go.Proofs.Ytjiidokpmhabgaa.PFnExactGoodExpr
open Go.RowKit Go.Proofs.YtjiidokpmhabgaaW.PrintWords Go.Proofs.YtjiidokpmhabgaaW.PrintLast Go.Proofs.YtjiidokpmhabgaaW.PrintMore
attribute [local go_sem] max2_int min2_int max_two min_two max_three min_three max_four min_four   -- for this text's walks alone
set_option linter.unusedVariables false
set_option linter.unusedSimpArgs false

/-! ### spec_l6R_either: function 29 (by hand) -/
-- import Base
-- fn: (*loop.example/g00253/spec.l6R).either
/-- The byte at a place, 0 behind the end. -/
def nxS (s : ByteArray) (x : Int) : Int := if x < (s.size : Int) then bt s x else 0
/-- The signs behind one expression. -/
def sTail : Nat → ByteArray → Int → Bool → Option (Int × Bool)
  | 0, _, _, _ => none
  | k + 1, s, x, bad => if bad = true then some (x, true) else if x < 0 ∨ 1099511627776 < x then none else if nxS s x = 42 then sTail k s (x + 1) false else if nxS s x = 63 then sTail k s (x + 1) false else if nxS s x = 43 then sTail k s (x + 1) false else some (x, false)
mutual
def sOne : Nat → ByteArray → Int → Int → Option (Int × Bool)
  | 0, _, _, _ => none
  | k + 1, s, x, d => if x < 0 ∨ 1099511627776 < x then none else (spec_l6Symbol.f (nxS s x)).bind fun t => if t = true then sTail k s (x + 1) false else if nxS s x = 46 then sTail k s (x + 1) false else if nxS s x = 45 then sTail k s (x + 1) false else if nxS s x = 33 then sTail k s (x + 1) false else if nxS s x = 40 then (sEither k s (x + 1) d).bind fun r => if r.1 < 0 ∨ 1099511627776 < r.1 then none else if nxS s r.1 = 41 then sTail k s (r.1 + 1) r.2 else sTail k s (r.1 + 1) true else sTail k s (x + 1) true
def sRow : Nat → ByteArray → Int → Bool → Int → Nat → Option (Int × Bool)
  | 0, _, _, _, _, _ => none
  | k + 1, s, x, bad, d, n => if x < 0 ∨ 1099511627776 < x ∨ 1099511627776 < n then none else if bad = true then (if n = 0 then some (x, true) else some (x, bad)) else if x < (s.size : Int) then (if nxS s x = 124 then (if n = 0 then some (x, true) else some (x, bad)) else if nxS s x = 41 then (if n = 0 then some (x, true) else some (x, bad)) else if 20 < d then none else (sOne k s x d).bind fun r => sRow k s r.1 r.2 d (n + 1)) else (if n = 0 then some (x, true) else some (x, bad))
def sEl : Nat → ByteArray → Int → Bool → Int → Nat → Option (Int × Bool)
  | 0, _, _, _, _, _ => none
  | k + 1, s, x, bad, d, n => if x < 0 ∨ 1099511627776 < x ∨ 1099511627776 < n then none else if bad = true then some (x, bad) else if nxS s x = 124 then (sRow k s (x + 1) false d 0).bind fun r => sEl k s r.1 r.2 d (n + 1) else some (x, bad)
def sEither : Nat → ByteArray → Int → Int → Option (Int × Bool)
  | 0, _, _, _ => none
  | k + 1, s, x, d => (sRow k s x (decide (20 < d + 1)) (d + 1) 0).bind fun r => sEl k s r.1 r.2 (d + 1) 1
end
abbrev StB (w : World) (g : Nat) (s : ByteArray) (x : Int) (bad : Bool) (d : Int) : Prop := w.heap[g]? = some (.cells #[.string s, .int .i64 x, .bool bad, .int .i64 d] 56 (0, 0))
abbrev ExB (w : World) (g : Nat) (a b : Int) (A : Option Addr) (n c : Nat) : Prop := w.heap[g]? = some (.cells #[.int .u8 a, .int .u8 b, .slice A n c] 35 (0, 0))
abbrev ex3 (w : World) (g : Nat) (a b : Int) (A : Option Addr) (n c : Nat) : World := ((w.setCell ⟨g, 0, none⟩ (.int .u8 a)).setCell ⟨g, 1, none⟩ (.int .u8 b)).setCell ⟨g, 2, none⟩ (.slice A n c)
def RetS (r : Int × Bool) (s : ByteArray) (d : Int) (g : Nat) (e : Ending) (w' : World) : Prop := (∃ (a b : Int) (A : Option Addr) (n c : Nat), e = .returned (.agg #[.int .u8 a, .int .u8 b, .slice A n c])) ∧ StB w' g s r.1 r.2 d
def OneS (k : Nat) : Prop := ∀ (s : ByteArray) (x d : Int) (r : Int × Bool) (g : Nat) (w : World), 0 ≤ d → d ≤ 20 → StB w g s x false d → sOne k s x d = some r → Calls Try.prog 52 #[.pointer (some ⟨g, 0, none⟩)] w fun e w' => RetS r s d g e w' ∧ w.grownBy w' (some g)
def RowT (k : Nat) : Prop := ∀ (s : ByteArray) (x : Int) (bad : Bool) (d : Int) (r : Int × Bool) (g : Nat) (w : World), 0 ≤ d → d ≤ 21 → StB w g s x bad d → sRow k s x bad d 0 = some r → Calls Try.prog 42 #[.pointer (some ⟨g, 0, none⟩)] w fun e w' => RetS r s d g e w' ∧ w.grownBy w' (some g)
def EithS (k : Nat) : Prop := ∀ (s : ByteArray) (x d : Int) (r : Int × Bool) (g : Nat) (w : World), 0 ≤ d → d ≤ 20 → StB w g s x false d → sEither k s x d = some r → Calls Try.prog 29 #[.pointer (some ⟨g, 0, none⟩)] w fun e w' => RetS r s d g e w' ∧ w.grownBy w' (some g)
theorem ug_refl (w : World) (g : Option Nat) : w.grownBy w g := ⟨rfl, rfl, rfl, Nat.le_refl _, fun _ _ _ => rfl⟩
theorem ug_size {w w' : World} {g : Option Nat} (h : w.grownBy w' g) : w.heap.size ≤ w'.heap.size := h.size
theorem ug_drewN {w w' : World} {g : Option Nat} (h : w.grownBy w' g) (n : Nat) : w.grownBy (w'.drewN n) g := ⟨h.os, h.tape, h.output, h.size, h.block⟩
theorem ug_trans {w w1 w2 : World} {g : Option Nat} (h : w.grownBy w1 g) (k : w1.grownBy w2 g) : w.grownBy w2 g :=
  ⟨k.os.trans h.os, k.tape.trans h.tape, k.output.trans h.output, Nat.le_trans h.size k.size, fun i hi hne => (k.block i (Nat.lt_of_lt_of_le hi h.size) hne).trans (h.block i hi hne)⟩
theorem ug_set {w w' : World} {g j : Nat} {u : Value} (h : w.grownBy w' (some g)) : w.grownBy (w'.setCell ⟨g, j, none⟩ u) (some g) :=
  have b := (Below.refl 0 w').setCell (p := ⟨g, j, none⟩) (Nat.zero_le _) u
  ⟨b.os.trans h.os, b.tape.trans h.tape, b.output.trans h.output, Nat.le_trans h.size b.size, fun i hi hne => (Below.heap_setCell w' ⟨g, j, none⟩ u i (fun e => hne (by rw [e]))).trans (h.block i hi hne)⟩
theorem ug_far {w w' : World} {g b j : Nat} {u : Value} (h : w.grownBy w' (some g)) (hb : w.heap.size ≤ b) : w.grownBy (w'.setCell ⟨b, j, none⟩ u) (some g) :=
  have c := (Below.refl 0 w').setCell (p := ⟨b, j, none⟩) (Nat.zero_le _) u
  ⟨c.os.trans h.os, c.tape.trans h.tape, c.output.trans h.output, Nat.le_trans h.size c.size, fun i hi hne => (Below.heap_setCell w' ⟨b, j, none⟩ u i (fun e => by subst e; exact absurd hi (Nat.not_lt.2 hb))).trans (h.block i hi hne)⟩
theorem ug_below {w w1 w2 : World} {g : Option Nat} (h : w.grownBy w1 g) (k : Below w1.heap.size w1 w2) : w.grownBy w2 g :=
  ⟨k.os.trans h.os, k.tape.trans h.tape, k.output.trans h.output, Nat.le_trans h.size k.size, fun i hi hne => (k.block i (Nat.lt_of_lt_of_le hi h.size)).trans (h.block i hi hne)⟩
theorem ug_own {w w1 w2 : World} {g : Option Nat} {v : Value} (h : w.grownBy w1 g) (k : w1.grownBy w2 v.ownBlock) (hv : ∀ b, v.ownBlock = some b → w.heap.size ≤ b) : w.grownBy w2 g :=
  ⟨k.os.trans h.os, k.tape.trans h.tape, k.output.trans h.output, Nat.le_trans h.size k.size, fun i hi hne => (k.block i (Nat.lt_of_lt_of_le hi h.size) (fun e => Nat.lt_irrefl _ (Nat.lt_of_lt_of_le hi (hv i e.symm)))).trans (h.block i hi hne)⟩
theorem bk_below {w w1 : World} {g : Nat} {u : Obj} (h : w.heap[g]? = some u) (k : Below w.heap.size w w1) : w1.heap[g]? = some u := (k.block g (blk_lt h)).trans h
theorem bk_grown {w w1 : World} {g b : Nat} {u : Obj} (h : w.heap[b]? = some u) (k : w.grownBy w1 (some g)) (hne : g ≠ b) : w1.heap[b]? = some u := (k.block b (blk_lt h) (fun e => hne (Option.some.inj e).symm)).trans h
theorem bk_own {w w1 : World} {b : Nat} {u : Obj} {v : Value} (h : w.heap[b]? = some u) (k : w.grownBy w1 v.ownBlock) (hv : v.ownBlock ≠ some b) : w1.heap[b]? = some u := (k.block b (blk_lt h) (fun e => hv e.symm)).trans h
theorem bk_far {w : World} {g b j : Nat} {u : Obj} {v : Value} (h : w.heap[g]? = some u) (hne : g ≠ b) : (w.setCell ⟨b, j, none⟩ v).heap[g]? = some u := (Below.heap_setCell w ⟨b, j, none⟩ v g hne).trans h
theorem bk_far3 {w : World} {g b : Nat} {u : Obj} {a c : Int} {A : Option Addr} {n m : Nat} (h : w.heap[g]? = some u) (hne : g ≠ b) : (ex3 w b a c A n m).heap[g]? = some u := bk_far (bk_far (bk_far h hne) hne) hne
theorem ug_far3 {w w' : World} {g b : Nat} {a c : Int} {A : Option Addr} {n m : Nat} (h : w.grownBy w' (some g)) (hb : w.heap.size ≤ b) : w.grownBy (ex3 w' b a c A n m) (some g) := ug_far (ug_far (ug_far h hb) hb) hb
theorem ex_put {w : World} {g : Nat} {a b : Int} {A : Option Addr} {n c : Nat} (h : ExB w g a b A n c) (a' b' : Int) (A' : Option Addr) (n' c' : Nat) : ExB (ex3 w g a' b' A' n' c') g a' b' A' n' c' := blk_set (blk_set (blk_set h 0 (.int .u8 a')) 1 (.int .u8 b')) 2 (.slice A' n' c')
theorem st_set1 {w : World} {g : Nat} {s : ByteArray} {x : Int} {bad : Bool} {d : Int} (h : StB w g s x bad d) (y : Int) : StB (w.setCell ⟨g, 1, none⟩ (.int .i64 y)) g s y bad d := blk_set h 1 (.int .i64 y)
theorem st_set2 {w : World} {g : Nat} {s : ByteArray} {x : Int} {bad : Bool} {d : Int} (h : StB w g s x bad d) (y : Bool) : StB (w.setCell ⟨g, 2, none⟩ (.bool y)) g s x y d := blk_set h 2 (.bool y)
theorem st_set3 {w : World} {g : Nat} {s : ByteArray} {x : Int} {bad : Bool} {d : Int} (h : StB w g s x bad d) (y : Int) : StB (w.setCell ⟨g, 3, none⟩ (.int .i64 y)) g s x bad y := blk_set h 3 (.int .i64 y)
theorem st_c0 {w : World} {g : Nat} {s : ByteArray} {x : Int} {bad : Bool} {d : Int} (h : StB w g s x bad d) : w.cell? ⟨g, 0, none⟩ = some (.string s) := (blk_cell h 0).trans rfl
theorem st_c1 {w : World} {g : Nat} {s : ByteArray} {x : Int} {bad : Bool} {d : Int} (h : StB w g s x bad d) : w.cell? ⟨g, 1, none⟩ = some (.int .i64 x) := (blk_cell h 1).trans rfl
theorem st_c2 {w : World} {g : Nat} {s : ByteArray} {x : Int} {bad : Bool} {d : Int} (h : StB w g s x bad d) : w.cell? ⟨g, 2, none⟩ = some (.bool bad) := (blk_cell h 2).trans rfl
theorem st_c3 {w : World} {g : Nat} {s : ByteArray} {x : Int} {bad : Bool} {d : Int} (h : StB w g s x bad d) : w.cell? ⟨g, 3, none⟩ = some (.int .i64 d) := (blk_cell h 3).trans rfl
theorem ex_c0 {w : World} {g : Nat} {a b : Int} {A : Option Addr} {n c : Nat} (h : ExB w g a b A n c) : w.cell? ⟨g, 0, none⟩ = some (.int .u8 a) := (blk_cell h 0).trans rfl
theorem ex_c1 {w : World} {g : Nat} {a b : Int} {A : Option Addr} {n c : Nat} (h : ExB w g a b A n c) : w.cell? ⟨g, 1, none⟩ = some (.int .u8 b) := (blk_cell h 1).trans rfl
theorem ex_c2 {w : World} {g : Nat} {a b : Int} {A : Option Addr} {n c : Nat} (h : ExB w g a b A n c) : w.cell? ⟨g, 2, none⟩ = some (.slice A n c) := (blk_cell h 2).trans rfl
theorem lit_event {P : Program} {ops : Array Oper} {rest : List Oper} {o : Oper} {a : Act} {Q : Exit → Act → World → Prop} {W : World} (hgd : o.guard = none) {N : Tmp} (_hd : o.dst = some N) {n : Nat} {cs : Array Value} {e : TypeId}
    (hrun : (execOp a.eval o).run P W = .ok (.value (.slice (some ⟨W.heap.size, 0, none⟩) n n)) (W.alloc (.cells cs e)))
    (h : ∀ g, W.heap.size ≤ g → ∀ w1, Below W.heap.size W w1 → wpList P ops Q rest (a.put o.dst (.slice (some ⟨g, 0, none⟩) n n)) w1) : wpList P ops Q (o :: rest) a W :=
  Kd.event_run hgd hrun (h _ (Nat.le_refl _) _ (below_alloc (Below.refl _ _) _))
set_option maxHeartbeats 4000000 in
set_option maxRecDepth 100000 in
theorem next_e (g : Nat) (s : ByteArray) (x : Int) (bad : Bool) (d : Int) (w : World) (hb : StB w g s x bad d) (h0 : 0 ≤ x) : Calls Try.prog 43 #[.pointer (some ⟨g, 0, none⟩)] w fun e w' => e = .returned (.int .u8 (nxS s x)) ∧ Drawn0 w w' := by
  have hc0 := st_c0 hb
  have hc1 := st_c1 hb
  clear hb
  unfold nxS
  by_cases c : x < (s.size : Int)
  · rw [if_pos c]
    have c1 : decide (x < (s.size : Int)) = true := decide_eq_true c
    have c2 : decide (0 ≤ x) = true := decide_eq_true h0
    have hx := bt_at s x
    have p1 := eq_true h0
    have q1 := eq_true c
    clear c h0
    go_enter Try.func43, Try.ntmps43
    go_wp2
    repeat (go_quiet (fail); try go_wp2)
    go_ret
    exact ⟨rfl, by repeat (first | exact Drawn0.refl _ | apply Drawn0.step)⟩
  · rw [if_neg c]
    have c1 : decide (x < (s.size : Int)) = false := decide_eq_false c
    clear c h0
    go_enter Try.func43, Try.ntmps43
    go_wp2
    repeat (go_quiet (fail); try go_wp2)
    go_ret
    exact ⟨rfl, by repeat (first | exact Drawn0.refl _ | apply Drawn0.step)⟩
theorem not_big {x : Int} (h : ¬ (x < 0 ∨ 1099511627776 < x)) : 0 ≤ x ∧ x ≤ 1099511627776 := by omega
set_option maxHeartbeats 4000000 in
set_option maxRecDepth 100000 in
theorem one_walk (k : Nat) (ih : ∀ j, j < k → EithS j) : OneS k := by
  intro s x d r g w hd0 hd1 hb h
  have HS0 := Aside0.mk hb
  have HD := Aside0.mk (And.intro hd0 hd1)
  clear hb hd0 hd1
  cases k with
  | zero => exact absurd h (by simp [sOne])
  | succ k =>
    rw [sOne] at h
    by_cases hx : x < 0 ∨ 1099511627776 < x
    · rw [if_pos hx] at h; cases h
    rw [if_neg hx] at h
    have HX0 := Aside0.mk (not_big hx)
    have hw : wrap64 (x + 1) = x + 1 := by have := HX0.out; unfold wrap64; omega
    clear hx
    have HH := Aside0.mk h
    have ihk := ih k (Nat.lt_succ_self k)
    unfold EithS at ihk
    have IH := Aside0.mk ihk
    clear h ih ihk
    go_enter Try.func52, Try.ntmps52
    go_upto_block 0 with (first | ((with_reducible refine gate_dst (N := 2) rfl ?_); refine box_event ?hg (N := 2) ?hd (cs := #[.int .u8 0, .int .u8 0, .slice none 0 0]) (t := 35) ?hr ?_; (case hd => rfl); (case hg => rfl); (case hr => first | (go_simp; done) | (go_simp; rfl)); intro gr hgx wb hbox hb; have NE := (show g ≠ gr by rw [hgx]; exact Nat.ne_of_lt (blk_lt HS0.out)); have GE := Aside0.mk (show w.heap.size ≤ gr by rw [hgx]; exact Nat.le_refl _); have HS1 := Aside0.mk (show StB wb g s x false d from bk_below HS0.out hb); have HR1 := Aside0.mk (show ExB wb gr 0 0 none 0 0 from hbox); have HG1 := Aside0.mk (show w.grownBy wb (some g) from ug_below (ug_refl _ _) hb); have sa0 := st_c0 HS1.out; have sa1 := st_c1 HS1.out; have sa2 := st_c2 HS1.out; have sa3 := st_c3 HS1.out; have ta0 := blk_frozen HS1.out 0; have ta1 := blk_frozen HS1.out 1; have ta2 := blk_frozen HS1.out 2; have ta3 := blk_frozen HS1.out 3; clear hbox hgx hb) | (go_at_call 43; (with_reducible refine (next_e g s x false d _ (by (with_reducible repeat (first | refine blk_drewN ?_ _ | refine blk_drew ?_)); exact HS1.out) HX0.out.1).mono ?_); rintro e w' ⟨rfl, ⟨nd, rfl⟩⟩) | ((with_reducible refine gate_dst (N := 4) rfl ?_); refine box_event ?hg (N := 4) ?hd (cs := #[.int .u8 0, .int .u8 0, .slice none 0 0]) (t := 35) ?hr ?_; (case hd => rfl); (case hg => rfl); (case hr => first | (go_simp; done) | (go_simp; rfl)); intro gx hgx wb hbox hb; have NX := (show g ≠ gx by rw [hgx]; exact Nat.ne_of_lt (blk_lt (st_set1 (by (with_reducible repeat (first | refine blk_drewN ?_ _ | refine blk_drew ?_)); exact HS1.out) (x + 1)))); have NR := (show gr ≠ gx by rw [hgx]; exact Nat.ne_of_lt (blk_lt (bk_far (b := g) (j := 1) (v := .int .i64 (x + 1)) (by (with_reducible repeat (first | refine blk_drewN ?_ _ | refine blk_drew ?_)); exact HR1.out) NE.symm))); have HS2 := Aside0.mk (show StB wb g s (x + 1) false d from bk_below (st_set1 (by (with_reducible repeat (first | refine blk_drewN ?_ _ | refine blk_drew ?_)); exact HS1.out) (x + 1)) hb); have HR2 := Aside0.mk (show ExB wb gr 0 0 none 0 0 from bk_below (bk_far (by (with_reducible repeat (first | refine blk_drewN ?_ _ | refine blk_drew ?_)); exact HR1.out) NE.symm) hb); have HX2 := Aside0.mk (show ExB wb gx 0 0 none 0 0 from hbox); have HG2 := Aside0.mk (show w.grownBy wb (some g) from ug_below (ug_set (by (with_reducible repeat (first | exact HG1.out | refine ug_drewN ?_ _)))) hb); have GX := Aside0.mk (show w.heap.size ≤ gx by rw [hgx]; exact ug_size (ug_set (j := 1) (u := .int .i64 (x + 1)) (by (with_reducible repeat (first | exact HG1.out | refine ug_drewN ?_ _))))); skip; clear hbox hgx hb) | ((with_reducible refine gate_store (t := 35) (p := 4) rfl ?_); have xz0 := ex_c0 HX2.out; have xz1 := ex_c1 HX2.out; have xz2 := ex_c2 HX2.out; have yz0 := blk_frozen HX2.out 0; have yz1 := blk_frozen HX2.out 1; have yz2 := blk_frozen HX2.out 2; refine store_event (t := 35) (p := 4) (v := ?vo1) (w1 := ex3 wb gx (nxS s x) 0 none 0 0) ?hg ?ho ?hn ?hr ?_; (case ho => rfl); (case hg => rfl); (case hn => rfl); (case hr => first | (go_simp; done) | (go_simp; rfl)); intro wc hw_; have HS3 := Aside0.mk (show StB wc g s (x + 1) false d by rw [hw_]; exact bk_far3 HS2.out NX); have HR3 := Aside0.mk (show ExB wc gr 0 0 none 0 0 by rw [hw_]; exact bk_far3 HR2.out NR); have HX3 := Aside0.mk (show ExB wc gx (nxS s x) 0 none 0 0 by rw [hw_]; exact ex_put HX2.out _ _ _ _ _); have HG3 := Aside0.mk (show w.grownBy wc (some g) by rw [hw_]; exact ug_far3 HG2.out GX.out); clear hw_; clear xz0 xz1 xz2 yz0 yz1 yz2))
    try simp only [Act.put, List.setIfInBounds_toArray, List.set_cons_zero, List.set_cons_succ]
    go_cut [19] (fun v19 w2 => ∃ (kq : Nat) (y : Int) (bad : Bool) (a b : Int) (A : Option Addr) (n c : Nat), Aside0 (sTail kq s y bad = some r) ∧ Aside0 (kq ≤ k) ∧ Aside0 (StB w2 g s y bad d) ∧ Aside0 (ExB w2 gr 0 0 none 0 0) ∧ Aside0 (ExB w2 gx a b A n c) ∧ Aside0 (w.grownBy w2 (some g)))
    case first =>
      have h := HH.out
      clear HH HS0 HS1 HR1 HG1 HS2 HR2 HX2 HG2
      have sc0 := st_c0 HS3.out
      have sc1 := st_c1 HS3.out
      have sc2 := st_c2 HS3.out
      have sc3 := st_c3 HS3.out
      have tc0 := blk_frozen HS3.out 0
      have tc1 := blk_frozen HS3.out 1
      have tc2 := blk_frozen HS3.out 2
      have tc3 := blk_frozen HS3.out 3
      obtain ⟨t, hs, h⟩ := Option.bind_eq_some_iff.mp h
      have AS := Aside0.mk hs
      clear hs
      cases t with
      | true =>
        rw [if_pos rfl] at h
        have H' := Aside0.mk h
        clear h
        go_wp2_with (first | (go_at_call 32; (with_reducible refine (spec_l6Symbol.calls (nxS s x) true _ AS.out).mono ?_); rintro e w' ⟨rfl, ⟨nd, rfl⟩⟩) | ((with_reducible refine gate_store (t := 35) (p := 4) rfl ?_); have xz0 := ex_c0 HX3.out; have xz1 := ex_c1 HX3.out; have xz2 := ex_c2 HX3.out; have yz0 := blk_frozen HX3.out 0; have yz1 := blk_frozen HX3.out 1; have yz2 := blk_frozen HX3.out 2; refine store_event (t := 35) (p := 4) (v := ?vo2) (w1 := ex3 (wc.drewN nd) gx 115 (nxS s x) none 0 0) ?hg ?ho ?hn ?hr ?_; (case ho => rfl); (case hg => rfl); (case hn => rfl); (case hr => first | (go_simp; done) | (go_simp; rfl)); intro wd hw_; have HS4 := Aside0.mk (show StB wd g s (x + 1) false d by rw [hw_]; exact bk_far3 (by (with_reducible repeat (first | refine blk_drewN ?_ _ | refine blk_drew ?_)); exact HS3.out) NX); have HR4 := Aside0.mk (show ExB wd gr 0 0 none 0 0 by rw [hw_]; exact bk_far3 (by (with_reducible repeat (first | refine blk_drewN ?_ _ | refine blk_drew ?_)); exact HR3.out) NR); have HX4 := Aside0.mk (show ExB wd gx 115 (nxS s x) none 0 0 by rw [hw_]; exact ex_put (by (with_reducible repeat (first | refine blk_drewN ?_ _ | refine blk_drew ?_)); exact HX3.out) _ _ _ _ _); have HG4 := Aside0.mk (show w.grownBy wd (some g) by rw [hw_]; exact ug_far3 (by (with_reducible repeat (first | exact HG3.out | refine ug_drewN ?_ _))) GX.out); clear hw_; clear xz0 xz1 xz2 yz0 yz1 yz2))
        go_meet
        case rel => exact ⟨k, x + 1, false, _, _, _, _, _, H', ⟨Nat.le_refl _⟩, HS4, HR4, HX4, HG4⟩
      | false =>
        rw [if_neg (by decide)] at h
        by_cases a46 : nxS s x = 46
        · rw [if_pos a46] at h
          have ea46 : (nxS s x == 46) = true := beq_iff_eq.mpr a46
          have ea46n : (nxS s x != 46) = false := by rw [bne, ea46]; rfl
          have H' := Aside0.mk h
          clear h a46
          go_wp2_with (first | (go_at_call 32; (with_reducible refine (spec_l6Symbol.calls (nxS s x) false _ AS.out).mono ?_); rintro e w' ⟨rfl, ⟨nd, rfl⟩⟩))
          go_meet
          case rel => exact ⟨k, x + 1, false, _, _, _, _, _, H', ⟨Nat.le_refl _⟩, ⟨(by (with_reducible repeat (first | refine blk_drewN ?_ _ | refine blk_drew ?_)); exact HS3.out)⟩, ⟨(by (with_reducible repeat (first | refine blk_drewN ?_ _ | refine blk_drew ?_)); exact HR3.out)⟩, ⟨(by (with_reducible repeat (first | refine blk_drewN ?_ _ | refine blk_drew ?_)); exact HX3.out)⟩, ⟨(by (with_reducible repeat (first | exact HG3.out | refine ug_drewN ?_ _)))⟩⟩
        rw [if_neg a46] at h
        by_cases a45 : nxS s x = 45
        · rw [if_pos a45] at h
          have ea45 : (nxS s x == 45) = true := beq_iff_eq.mpr a45
          have ea45n : (nxS s x != 45) = false := by rw [bne, ea45]; rfl
          have ea46 : (nxS s x == 46) = false := beq_eq_false_iff_ne.mpr a46
          have ea46n : (nxS s x != 46) = true := by rw [bne, ea46]; rfl
          have H' := Aside0.mk h
          clear h a45 a46
          go_wp2_with (first | (go_at_call 32; (with_reducible refine (spec_l6Symbol.calls (nxS s x) false _ AS.out).mono ?_); rintro e w' ⟨rfl, ⟨nd, rfl⟩⟩))
          go_meet
          case rel => exact ⟨k, x + 1, false, _, _, _, _, _, H', ⟨Nat.le_refl _⟩, ⟨(by (with_reducible repeat (first | refine blk_drewN ?_ _ | refine blk_drew ?_)); exact HS3.out)⟩, ⟨(by (with_reducible repeat (first | refine blk_drewN ?_ _ | refine blk_drew ?_)); exact HR3.out)⟩, ⟨(by (with_reducible repeat (first | refine blk_drewN ?_ _ | refine blk_drew ?_)); exact HX3.out)⟩, ⟨(by (with_reducible repeat (first | exact HG3.out | refine ug_drewN ?_ _)))⟩⟩
        rw [if_neg a45] at h
        by_cases a33 : nxS s x = 33
        · rw [if_pos a33] at h
          have ea33 : (nxS s x == 33) = true := beq_iff_eq.mpr a33
          have ea33n : (nxS s x != 33) = false := by rw [bne, ea33]; rfl
          have ea46 : (nxS s x == 46) = false := beq_eq_false_iff_ne.mpr a46
          have ea46n : (nxS s x != 46) = true := by rw [bne, ea46]; rfl
          have ea45 : (nxS s x == 45) = false := beq_eq_false_iff_ne.mpr a45
          have ea45n : (nxS s x != 45) = true := by rw [bne, ea45]; rfl
          have H' := Aside0.mk h
          clear h a33 a46 a45
          go_wp2_with (first | (go_at_call 32; (with_reducible refine (spec_l6Symbol.calls (nxS s x) false _ AS.out).mono ?_); rintro e w' ⟨rfl, ⟨nd, rfl⟩⟩))
          go_meet
          case rel => exact ⟨k, x + 1, false, _, _, _, _, _, H', ⟨Nat.le_refl _⟩, ⟨(by (with_reducible repeat (first | refine blk_drewN ?_ _ | refine blk_drew ?_)); exact HS3.out)⟩, ⟨(by (with_reducible repeat (first | refine blk_drewN ?_ _ | refine blk_drew ?_)); exact HR3.out)⟩, ⟨(by (with_reducible repeat (first | refine blk_drewN ?_ _ | refine blk_drew ?_)); exact HX3.out)⟩, ⟨(by (with_reducible repeat (first | exact HG3.out | refine ug_drewN ?_ _)))⟩⟩
        rw [if_neg a33] at h
        have ea46 : (nxS s x == 46) = false := beq_eq_false_iff_ne.mpr a46
        have ea46n : (nxS s x != 46) = true := by rw [bne, ea46]; rfl
        have ea45 : (nxS s x == 45) = false := beq_eq_false_iff_ne.mpr a45
        have ea45n : (nxS s x != 45) = true := by rw [bne, ea45]; rfl
        have ea33 : (nxS s x == 33) = false := beq_eq_false_iff_ne.mpr a33
        have ea33n : (nxS s x != 33) = true := by rw [bne, ea33]; rfl
        clear a46 a45 a33
        by_cases a40 : nxS s x = 40
        · rw [if_pos a40] at h
          have e40 : (nxS s x == 40) = true := beq_iff_eq.mpr a40
          have e40n : (nxS s x != 40) = false := by rw [bne, e40]; rfl
          clear a40
          obtain ⟨⟨y, bad⟩, he, h⟩ := Option.bind_eq_some_iff.mp h
          have HE := Aside0.mk he
          dsimp only at h
          by_cases hy : y < 0 ∨ 1099511627776 < y
          · rw [if_pos hy] at h; cases h
          rw [if_neg hy] at h
          have HY := Aside0.mk (not_big hy)
          have hwy : wrap64 (y + 1) = y + 1 := by have := HY.out; unfold wrap64; omega
          clear he hy
          by_cases a41 : nxS s y = 41
          · rw [if_pos a41] at h
            have e41 : (nxS s y == 41) = true := beq_iff_eq.mpr a41
            have e41n : (nxS s y != 41) = false := by rw [bne, e41]; rfl
            have H' := Aside0.mk h
            clear h a41
            go_wp2_with (first | (go_at_call 32; (with_reducible refine (spec_l6Symbol.calls (nxS s x) false _ AS.out).mono ?_); rintro e w' ⟨rfl, ⟨nd, rfl⟩⟩) | (go_at_call 29; (with_reducible refine (IH.out s (x + 1) d (y, bad) g _ HD.out.1 HD.out.2 (by (with_reducible repeat (first | refine blk_drewN ?_ _ | refine blk_drew ?_)); exact HS3.out) HE.out).mono ?_); rintro e w3 ⟨⟨⟨a, b, A, n, c, rfl⟩, hst⟩, hg⟩; have HS5 := Aside0.mk (show StB w3 g s y bad d from hst); have HR5 := Aside0.mk (show ExB w3 gr 0 0 none 0 0 from bk_grown (by (with_reducible repeat (first | refine blk_drewN ?_ _ | refine blk_drew ?_)); exact HR3.out) hg NE); have HX5 := Aside0.mk (show ExB w3 gx (nxS s x) 0 none 0 0 from bk_grown (by (with_reducible repeat (first | refine blk_drewN ?_ _ | refine blk_drew ?_)); exact HX3.out) hg NX); have HG5 := Aside0.mk (show w.grownBy w3 (some g) from ug_trans (by (with_reducible repeat (first | exact HG3.out | refine ug_drewN ?_ _))) hg); clear hst hg) | ((with_reducible refine gate_store (t := 35) (p := 4) rfl ?_); have xz0 := ex_c0 HX5.out; have xz1 := ex_c1 HX5.out; have xz2 := ex_c2 HX5.out; have yz0 := blk_frozen HX5.out 0; have yz1 := blk_frozen HX5.out 1; have yz2 := blk_frozen HX5.out 2; refine store_event (t := 35) (p := 4) (v := ?vo4) (w1 := ex3 w3 gx a b A n c) ?hg ?ho ?hn ?hr ?_; (case ho => rfl); (case hg => rfl); (case hn => rfl); (case hr => first | (go_simp; done) | (go_simp; rfl)); intro w4 hw_; have HS6 := Aside0.mk (show StB w4 g s y bad d by rw [hw_]; exact bk_far3 HS5.out NX); have HR6 := Aside0.mk (show ExB w4 gr 0 0 none 0 0 by rw [hw_]; exact bk_far3 HR5.out NR); have HX6 := Aside0.mk (show ExB w4 gx a b A n c by rw [hw_]; exact ex_put HX5.out _ _ _ _ _); have HG6 := Aside0.mk (show w.grownBy w4 (some g) by rw [hw_]; exact ug_far3 HG5.out GX.out); have se0 := st_c0 HS6.out; have se1 := st_c1 HS6.out; have se2 := st_c2 HS6.out; have se3 := st_c3 HS6.out; have te0 := blk_frozen HS6.out 0; have te1 := blk_frozen HS6.out 1; have te2 := blk_frozen HS6.out 2; have te3 := blk_frozen HS6.out 3; clear hw_; clear xz0 xz1 xz2 yz0 yz1 yz2) | (go_at_call 43; (with_reducible refine (next_e g s y bad d _ (by (with_reducible repeat (first | refine blk_drewN ?_ _ | refine blk_drew ?_)); exact HS6.out) HY.out.1).mono ?_); rintro e w' ⟨rfl, ⟨nd, rfl⟩⟩))
            go_meet
            case rel => exact ⟨k, y + 1, bad, _, _, _, _, _, H', ⟨Nat.le_refl _⟩, ⟨st_set1 (by (with_reducible repeat (first | refine blk_drewN ?_ _ | refine blk_drew ?_)); exact HS6.out) _⟩, ⟨bk_far (by (with_reducible repeat (first | refine blk_drewN ?_ _ | refine blk_drew ?_)); exact HR6.out) NE.symm⟩, ⟨bk_far (by (with_reducible repeat (first | refine blk_drewN ?_ _ | refine blk_drew ?_)); exact HX6.out) NX.symm⟩, ⟨ug_set (by (with_reducible repeat (first | exact HG6.out | refine ug_drewN ?_ _)))⟩⟩
          · rw [if_neg a41] at h
            have e41 : (nxS s y == 41) = false := beq_eq_false_iff_ne.mpr a41
            have e41n : (nxS s y != 41) = true := by rw [bne, e41]; rfl
            have H' := Aside0.mk h
            clear h a41
            go_wp2_with (first | (go_at_call 32; (with_reducible refine (spec_l6Symbol.calls (nxS s x) false _ AS.out).mono ?_); rintro e w' ⟨rfl, ⟨nd, rfl⟩⟩) | (go_at_call 29; (with_reducible refine (IH.out s (x + 1) d (y, bad) g _ HD.out.1 HD.out.2 (by (with_reducible repeat (first | refine blk_drewN ?_ _ | refine blk_drew ?_)); exact HS3.out) HE.out).mono ?_); rintro e w3 ⟨⟨⟨a, b, A, n, c, rfl⟩, hst⟩, hg⟩; have HS5 := Aside0.mk (show StB w3 g s y bad d from hst); have HR5 := Aside0.mk (show ExB w3 gr 0 0 none 0 0 from bk_grown (by (with_reducible repeat (first | refine blk_drewN ?_ _ | refine blk_drew ?_)); exact HR3.out) hg NE); have HX5 := Aside0.mk (show ExB w3 gx (nxS s x) 0 none 0 0 from bk_grown (by (with_reducible repeat (first | refine blk_drewN ?_ _ | refine blk_drew ?_)); exact HX3.out) hg NX); have HG5 := Aside0.mk (show w.grownBy w3 (some g) from ug_trans (by (with_reducible repeat (first | exact HG3.out | refine ug_drewN ?_ _))) hg); clear hst hg) | ((with_reducible refine gate_store (t := 35) (p := 4) rfl ?_); have xz0 := ex_c0 HX5.out; have xz1 := ex_c1 HX5.out; have xz2 := ex_c2 HX5.out; have yz0 := blk_frozen HX5.out 0; have yz1 := blk_frozen HX5.out 1; have yz2 := blk_frozen HX5.out 2; refine store_event (t := 35) (p := 4) (v := ?vo5) (w1 := ex3 w3 gx a b A n c) ?hg ?ho ?hn ?hr ?_; (case ho => rfl); (case hg => rfl); (case hn => rfl); (case hr => first | (go_simp; done) | (go_simp; rfl)); intro w4 hw_; have HS6 := Aside0.mk (show StB w4 g s y bad d by rw [hw_]; exact bk_far3 HS5.out NX); have HR6 := Aside0.mk (show ExB w4 gr 0 0 none 0 0 by rw [hw_]; exact bk_far3 HR5.out NR); have HX6 := Aside0.mk (show ExB w4 gx a b A n c by rw [hw_]; exact ex_put HX5.out _ _ _ _ _); have HG6 := Aside0.mk (show w.grownBy w4 (some g) by rw [hw_]; exact ug_far3 HG5.out GX.out); have se0 := st_c0 HS6.out; have se1 := st_c1 HS6.out; have se2 := st_c2 HS6.out; have se3 := st_c3 HS6.out; have te0 := blk_frozen HS6.out 0; have te1 := blk_frozen HS6.out 1; have te2 := blk_frozen HS6.out 2; have te3 := blk_frozen HS6.out 3; clear hw_; clear xz0 xz1 xz2 yz0 yz1 yz2) | (go_at_call 43; (with_reducible refine (next_e g s y bad d _ (by (with_reducible repeat (first | refine blk_drewN ?_ _ | refine blk_drew ?_)); exact HS6.out) HY.out.1).mono ?_); rintro e w' ⟨rfl, ⟨nd, rfl⟩⟩))
            go_meet
            case rel => exact ⟨k, y + 1, true, _, _, _, _, _, H', ⟨Nat.le_refl _⟩, ⟨st_set1 (st_set2 (by (with_reducible repeat (first | refine blk_drewN ?_ _ | refine blk_drew ?_)); exact HS6.out) _) _⟩, ⟨bk_far (bk_far (by (with_reducible repeat (first | refine blk_drewN ?_ _ | refine blk_drew ?_)); exact HR6.out) NE.symm) NE.symm⟩, ⟨bk_far (bk_far (by (with_reducible repeat (first | refine blk_drewN ?_ _ | refine blk_drew ?_)); exact HX6.out) NX.symm) NX.symm⟩, ⟨ug_set (ug_set (by (with_reducible repeat (first | exact HG6.out | refine ug_drewN ?_ _))))⟩⟩
        · rw [if_neg a40] at h
          have e40 : (nxS s x == 40) = false := beq_eq_false_iff_ne.mpr a40
          have e40n : (nxS s x != 40) = true := by rw [bne, e40]; rfl
          have H' := Aside0.mk h
          clear h a40
          go_wp2_with (first | (go_at_call 32; (with_reducible refine (spec_l6Symbol.calls (nxS s x) false _ AS.out).mono ?_); rintro e w' ⟨rfl, ⟨nd, rfl⟩⟩))
          go_meet
          case rel => exact ⟨k, x + 1, true, _, _, _, _, _, H', ⟨Nat.le_refl _⟩, ⟨st_set2 (by (with_reducible repeat (first | refine blk_drewN ?_ _ | refine blk_drew ?_)); exact HS3.out) _⟩, ⟨bk_far (by (with_reducible repeat (first | refine blk_drewN ?_ _ | refine blk_drew ?_)); exact HR3.out) NE.symm⟩, ⟨bk_far (by (with_reducible repeat (first | refine blk_drewN ?_ _ | refine blk_drew ?_)); exact HX3.out) NX.symm⟩, ⟨ug_set (by (with_reducible repeat (first | exact HG3.out | refine ug_drewN ?_ _)))⟩⟩
    case rest =>
      clear HH HS0 HS1 HR1 HG1 HS2 HR2 HX2 HG2 HS3 HR3 HX3 HG3 IH
      obtain ⟨kq, y, bad, a, b, A, n, c, HT, HK, HS, HR, HX, HG⟩ := hcut
      go_wp2
      go_loopg [60] kq (fun kk v60 w' => ∃ (y : Int) (bad : Bool) (a b : Int) (A : Option Addr) (n c : Nat), Aside0 (sTail kk s y bad = some r) ∧ Aside0 (StB w' g s y bad d) ∧ Aside0 (ExB w' gr 0 0 none 0 0) ∧ Aside0 (ExB w' gx a b A n c) ∧ Aside0 (w.grownBy w' (some g)))
      case atStart => exact ⟨y, bad, a, b, A, n, c, HT, HS, HR, HX, HG⟩
      case round =>
        clear HT HS HR HX HG
        obtain ⟨y, bad, a, b, A, n, c, HT, HS, HR, HX, HG⟩ := hrel
        have sf0 := st_c0 HS.out
        have sf1 := st_c1 HS.out
        have sf2 := st_c2 HS.out
        have sf3 := st_c3 HS.out
        have tf0 := blk_frozen HS.out 0
        have tf1 := blk_frozen HS.out 1
        have tf2 := blk_frozen HS.out 2
        have tf3 := blk_frozen HS.out 3
        have xf0 := ex_c0 HX.out
        have xf1 := ex_c1 HX.out
        have xf2 := ex_c2 HX.out
        have yf0 := blk_frozen HX.out 0
        have yf1 := blk_frozen HX.out 1
        have yf2 := blk_frozen HX.out 2
        cases gk with
        | zero => exact absurd HT.out (by simp [sTail])
        | succ k2 =>
          have T := HT.out
          clear HT
          rw [sTail] at T
          cases bad with
          | true =>
            rw [if_pos rfl] at T
            obtain rfl := Option.some.inj T
            clear T
            go_wp2_with (first | ((with_reducible refine gate_store (t := 35) (p := 2) rfl ?_); have xz0 := ex_c0 HR.out; have xz1 := ex_c1 HR.out; have xz2 := ex_c2 HR.out; have yz0 := blk_frozen HR.out 0; have yz1 := blk_frozen HR.out 1; have yz2 := blk_frozen HR.out 2; refine store_event (t := 35) (p := 2) (v := ?vo7) (w1 := ex3 wr gr a b A n c) ?hg ?ho ?hn ?hr ?_; (case ho => rfl); (case hg => rfl); (case hn => rfl); (case hr => first | (go_simp; done) | (go_simp; rfl)); intro wz hw_; have HSz := Aside0.mk (show StB wz g s y true d by rw [hw_]; exact bk_far3 (by (with_reducible repeat (first | refine blk_drewN ?_ _ | refine blk_drew ?_)); exact HS.out) NE); have HRz := Aside0.mk (show ExB wz gr a b A n c by rw [hw_]; exact ex_put (by (with_reducible repeat (first | refine blk_drewN ?_ _ | refine blk_drew ?_)); exact HR.out) _ _ _ _ _); have HGz := Aside0.mk (show w.grownBy wz (some g) by rw [hw_]; exact ug_far3 (by (with_reducible repeat (first | exact HG.out | refine ug_drewN ?_ _))) GE.out); clear hw_; clear xz0 xz1 xz2 yz0 yz1 yz2))
            (try simp only [Exit.inBlock, Exit.then])
            refine bodyPost_ret (results_cell_row rfl _ _ gr 35 #[.int .u8 a, .int .u8 b, .slice A n c] (0, 0) _ rfl HRz.out Try.underlying35 rfl (by kernel_rfl)) rfl ?_
            exact ⟨⟨⟨a, b, A, n, c, rfl⟩, HSz.out⟩, HGz.out⟩
          | false =>
            rw [if_neg (by decide)] at T
            by_cases hy : y < 0 ∨ 1099511627776 < y
            · rw [if_pos hy] at T; cases T
            rw [if_neg hy] at T
            have HY := Aside0.mk (not_big hy)
            have hwy : wrap64 (y + 1) = y + 1 := by have := HY.out; unfold wrap64; omega
            clear hy
            by_cases c42 : nxS s y = 42
            · rw [if_pos c42] at T
              have ec42 : (nxS s y == 42) = true := beq_iff_eq.mpr c42
              have ec42n : (nxS s y != 42) = false := by rw [bne, ec42]; rfl
              have T' := Aside0.mk T
              clear T c42
              go_wp2_with (first | (go_at_call 43; (with_reducible refine (next_e g s y false d _ (by (with_reducible repeat (first | refine blk_drewN ?_ _ | refine blk_drew ?_)); exact HS.out) HY.out.1).mono ?_); rintro e w' ⟨rfl, ⟨nd, rfl⟩⟩) | ((with_reducible refine gate_dst (N := 64) rfl ?_); refine lit_event ?hg (N := 64) ?hd (n := 1) (cs := #[.int .u8 a, .int .u8 b, .slice A n c]) (e := 35) ?hr ?_; (case hd => rfl); (case hg => rfl); (case hr => first | (go_simp; done) | (go_simp; rfl)); intro gl hgl wl hb; have HSl := Aside0.mk (show StB wl g s y false d from bk_below (by (with_reducible repeat (first | refine blk_drewN ?_ _ | refine blk_drew ?_)); exact HS.out) hb); have HRl := Aside0.mk (show ExB wl gr 0 0 none 0 0 from bk_below (by (with_reducible repeat (first | refine blk_drewN ?_ _ | refine blk_drew ?_)); exact HR.out) hb); have HXl := Aside0.mk (show ExB wl gx a b A n c from bk_below (by (with_reducible repeat (first | refine blk_drewN ?_ _ | refine blk_drew ?_)); exact HX.out) hb); have HGl := Aside0.mk (show w.grownBy wl (some g) from ug_below (by (with_reducible repeat (first | exact HG.out | refine ug_drewN ?_ _))) hb); clear hb hgl) | ((with_reducible refine gate_store (t := 35) (p := 4) rfl ?_); have xz0 := ex_c0 HXl.out; have xz1 := ex_c1 HXl.out; have xz2 := ex_c2 HXl.out; have yz0 := blk_frozen HXl.out 0; have yz1 := blk_frozen HXl.out 1; have yz2 := blk_frozen HXl.out 2; refine store_event (t := 35) (p := 4) (v := ?vo8) (w1 := ex3 wl gx 42 0 (some ⟨gl, 0, none⟩) 1 1) ?hg ?ho ?hn ?hr ?_; (case ho => rfl); (case hg => rfl); (case hn => rfl); (case hr => first | (go_simp; done) | (go_simp; rfl)); intro wy hw_; have HSy := Aside0.mk (show StB wy g s y false d by rw [hw_]; exact bk_far3 HSl.out NX); have HRy := Aside0.mk (show ExB wy gr 0 0 none 0 0 by rw [hw_]; exact bk_far3 HRl.out NR); have HXy := Aside0.mk (show ExB wy gx 42 0 (some ⟨gl, 0, none⟩) 1 1 by rw [hw_]; exact ex_put HXl.out _ _ _ _ _); have HGy := Aside0.mk (show w.grownBy wy (some g) by rw [hw_]; exact ug_far3 HGl.out GX.out); have sy0 := st_c0 HSy.out; have sy1 := st_c1 HSy.out; have sy2 := st_c2 HSy.out; have sy3 := st_c3 HSy.out; have ty0 := blk_frozen HSy.out 0; have ty1 := blk_frozen HSy.out 1; have ty2 := blk_frozen HSy.out 2; have ty3 := blk_frozen HSy.out 3; clear hw_; clear xz0 xz1 xz2 yz0 yz1 yz2))
              go_roundg k2
              case measure => omega
              case rel => exact ⟨y + 1, false, _, _, _, _, _, T', ⟨st_set1 HSy.out _⟩, ⟨bk_far HRy.out NE.symm⟩, ⟨bk_far HXy.out NX.symm⟩, ⟨ug_set HGy.out⟩⟩
            rw [if_neg c42] at T
            by_cases c63 : nxS s y = 63
            · rw [if_pos c63] at T
              have ec63 : (nxS s y == 63) = true := beq_iff_eq.mpr c63
              have ec63n : (nxS s y != 63) = false := by rw [bne, ec63]; rfl
              have ec42 : (nxS s y == 42) = false := beq_eq_false_iff_ne.mpr c42
              have ec42n : (nxS s y != 42) = true := by rw [bne, ec42]; rfl
              have T' := Aside0.mk T
              clear T c63 c42
              go_wp2_with (first | (go_at_call 43; (with_reducible refine (next_e g s y false d _ (by (with_reducible repeat (first | refine blk_drewN ?_ _ | refine blk_drew ?_)); exact HS.out) HY.out.1).mono ?_); rintro e w' ⟨rfl, ⟨nd, rfl⟩⟩) | ((with_reducible refine gate_dst (N := 70) rfl ?_); refine lit_event ?hg (N := 70) ?hd (n := 2) (cs := #[.int .u8 45, .int .u8 0, .slice none 0 0, .int .u8 a, .int .u8 b, .slice A n c]) (e := 35) ?hr ?_; (case hd => rfl); (case hg => rfl); (case hr => first | (go_simp; done) | (go_simp; rfl)); intro gl hgl wl hb; have HSl := Aside0.mk (show StB wl g s y false d from bk_below (by (with_reducible repeat (first | refine blk_drewN ?_ _ | refine blk_drew ?_)); exact HS.out) hb); have HRl := Aside0.mk (show ExB wl gr 0 0 none 0 0 from bk_below (by (with_reducible repeat (first | refine blk_drewN ?_ _ | refine blk_drew ?_)); exact HR.out) hb); have HXl := Aside0.mk (show ExB wl gx a b A n c from bk_below (by (with_reducible repeat (first | refine blk_drewN ?_ _ | refine blk_drew ?_)); exact HX.out) hb); have HGl := Aside0.mk (show w.grownBy wl (some g) from ug_below (by (with_reducible repeat (first | exact HG.out | refine ug_drewN ?_ _))) hb); clear hb hgl) | ((with_reducible refine gate_store (t := 35) (p := 4) rfl ?_); have xz0 := ex_c0 HXl.out; have xz1 := ex_c1 HXl.out; have xz2 := ex_c2 HXl.out; have yz0 := blk_frozen HXl.out 0; have yz1 := blk_frozen HXl.out 1; have yz2 := blk_frozen HXl.out 2; refine store_event (t := 35) (p := 4) (v := ?vo9) (w1 := ex3 wl gx 124 0 (some ⟨gl, 0, none⟩) 2 2) ?hg ?ho ?hn ?hr ?_; (case ho => rfl); (case hg => rfl); (case hn => rfl); (case hr => first | (go_simp; done) | (go_simp; rfl)); intro wy hw_; have HSy := Aside0.mk (show StB wy g s y false d by rw [hw_]; exact bk_far3 HSl.out NX); have HRy := Aside0.mk (show ExB wy gr 0 0 none 0 0 by rw [hw_]; exact bk_far3 HRl.out NR); have HXy := Aside0.mk (show ExB wy gx 124 0 (some ⟨gl, 0, none⟩) 2 2 by rw [hw_]; exact ex_put HXl.out _ _ _ _ _); have HGy := Aside0.mk (show w.grownBy wy (some g) by rw [hw_]; exact ug_far3 HGl.out GX.out); have sy0 := st_c0 HSy.out; have sy1 := st_c1 HSy.out; have sy2 := st_c2 HSy.out; have sy3 := st_c3 HSy.out; have ty0 := blk_frozen HSy.out 0; have ty1 := blk_frozen HSy.out 1; have ty2 := blk_frozen HSy.out 2; have ty3 := blk_frozen HSy.out 3; clear hw_; clear xz0 xz1 xz2 yz0 yz1 yz2))
              go_roundg k2
              case measure => omega
              case rel => exact ⟨y + 1, false, _, _, _, _, _, T', ⟨st_set1 HSy.out _⟩, ⟨bk_far HRy.out NE.symm⟩, ⟨bk_far HXy.out NX.symm⟩, ⟨ug_set HGy.out⟩⟩
            rw [if_neg c63] at T
            by_cases c43 : nxS s y = 43
            · rw [if_pos c43] at T
              have ec43 : (nxS s y == 43) = true := beq_iff_eq.mpr c43
              have ec43n : (nxS s y != 43) = false := by rw [bne, ec43]; rfl
              have ec42 : (nxS s y == 42) = false := beq_eq_false_iff_ne.mpr c42
              have ec42n : (nxS s y != 42) = true := by rw [bne, ec42]; rfl
              have ec63 : (nxS s y == 63) = false := beq_eq_false_iff_ne.mpr c63
              have ec63n : (nxS s y != 63) = true := by rw [bne, ec63]; rfl
              have T' := Aside0.mk T
              clear T c43 c42 c63
              go_wp2_with (first | (go_at_call 43; (with_reducible refine (next_e g s y false d _ (by (with_reducible repeat (first | refine blk_drewN ?_ _ | refine blk_drew ?_)); exact HS.out) HY.out.1).mono ?_); rintro e w' ⟨rfl, ⟨nd, rfl⟩⟩) | ((with_reducible refine gate_dst (N := 76) rfl ?_); refine lit_event ?hg (N := 76) ?hd (n := 1) (cs := #[.int .u8 a, .int .u8 b, .slice A n c]) (e := 35) ?hr ?_; (case hd => rfl); (case hg => rfl); (case hr => first | (go_simp; done) | (go_simp; rfl)); intro gl hgl wl hb; have HSl := Aside0.mk (show StB wl g s y false d from bk_below (by (with_reducible repeat (first | refine blk_drewN ?_ _ | refine blk_drew ?_)); exact HS.out) hb); have HRl := Aside0.mk (show ExB wl gr 0 0 none 0 0 from bk_below (by (with_reducible repeat (first | refine blk_drewN ?_ _ | refine blk_drew ?_)); exact HR.out) hb); have HXl := Aside0.mk (show ExB wl gx a b A n c from bk_below (by (with_reducible repeat (first | refine blk_drewN ?_ _ | refine blk_drew ?_)); exact HX.out) hb); have HGl := Aside0.mk (show w.grownBy wl (some g) from ug_below (by (with_reducible repeat (first | exact HG.out | refine ug_drewN ?_ _))) hb); clear hb hgl) | ((with_reducible refine gate_dst (N := 78) rfl ?_); refine lit_event ?hg (N := 78) ?hd (n := 2) (cs := #[.int .u8 a, .int .u8 b, .slice A n c, .int .u8 42, .int .u8 0, .slice (some ⟨gl, 0, none⟩) 1 1]) (e := 35) ?hr ?_; (case hd => rfl); (case hg => rfl); (case hr => first | (go_simp; done) | (go_simp; rfl)); intro gm hgl wm hb; have HSm := Aside0.mk (show StB wm g s y false d from bk_below (by (with_reducible repeat (first | refine blk_drewN ?_ _ | refine blk_drew ?_)); exact HSl.out) hb); have HRm := Aside0.mk (show ExB wm gr 0 0 none 0 0 from bk_below (by (with_reducible repeat (first | refine blk_drewN ?_ _ | refine blk_drew ?_)); exact HRl.out) hb); have HXm := Aside0.mk (show ExB wm gx a b A n c from bk_below (by (with_reducible repeat (first | refine blk_drewN ?_ _ | refine blk_drew ?_)); exact HXl.out) hb); have HGm := Aside0.mk (show w.grownBy wm (some g) from ug_below (by (with_reducible repeat (first | exact HGl.out | refine ug_drewN ?_ _))) hb); clear hb hgl) | ((with_reducible refine gate_store (t := 35) (p := 4) rfl ?_); have xz0 := ex_c0 HXm.out; have xz1 := ex_c1 HXm.out; have xz2 := ex_c2 HXm.out; have yz0 := blk_frozen HXm.out 0; have yz1 := blk_frozen HXm.out 1; have yz2 := blk_frozen HXm.out 2; refine store_event (t := 35) (p := 4) (v := ?vo10) (w1 := ex3 wm gx 38 0 (some ⟨gm, 0, none⟩) 2 2) ?hg ?ho ?hn ?hr ?_; (case ho => rfl); (case hg => rfl); (case hn => rfl); (case hr => first | (go_simp; done) | (go_simp; rfl)); intro wy hw_; have HSy := Aside0.mk (show StB wy g s y false d by rw [hw_]; exact bk_far3 HSm.out NX); have HRy := Aside0.mk (show ExB wy gr 0 0 none 0 0 by rw [hw_]; exact bk_far3 HRm.out NR); have HXy := Aside0.mk (show ExB wy gx 38 0 (some ⟨gm, 0, none⟩) 2 2 by rw [hw_]; exact ex_put HXm.out _ _ _ _ _); have HGy := Aside0.mk (show w.grownBy wy (some g) by rw [hw_]; exact ug_far3 HGm.out GX.out); have sy0 := st_c0 HSy.out; have sy1 := st_c1 HSy.out; have sy2 := st_c2 HSy.out; have sy3 := st_c3 HSy.out; have ty0 := blk_frozen HSy.out 0; have ty1 := blk_frozen HSy.out 1; have ty2 := blk_frozen HSy.out 2; have ty3 := blk_frozen HSy.out 3; clear hw_; clear xz0 xz1 xz2 yz0 yz1 yz2))
              go_roundg k2
              case measure => omega
              case rel => exact ⟨y + 1, false, _, _, _, _, _, T', ⟨st_set1 HSy.out _⟩, ⟨bk_far HRy.out NE.symm⟩, ⟨bk_far HXy.out NX.symm⟩, ⟨ug_set HGy.out⟩⟩
            rw [if_neg c43] at T
            have ec42 : (nxS s y == 42) = false := beq_eq_false_iff_ne.mpr c42
            have ec42n : (nxS s y != 42) = true := by rw [bne, ec42]; rfl
            have ec63 : (nxS s y == 63) = false := beq_eq_false_iff_ne.mpr c63
            have ec63n : (nxS s y != 63) = true := by rw [bne, ec63]; rfl
            have ec43 : (nxS s y == 43) = false := beq_eq_false_iff_ne.mpr c43
            have ec43n : (nxS s y != 43) = true := by rw [bne, ec43]; rfl
            clear c42 c63 c43
            obtain rfl := Option.some.inj T
            clear T
            go_wp2_with (first | (go_at_call 43; (with_reducible refine (next_e g s y false d _ (by (with_reducible repeat (first | refine blk_drewN ?_ _ | refine blk_drew ?_)); exact HS.out) HY.out.1).mono ?_); rintro e w' ⟨rfl, ⟨nd, rfl⟩⟩) | ((with_reducible refine gate_store (t := 35) (p := 2) rfl ?_); have xz0 := ex_c0 HR.out; have xz1 := ex_c1 HR.out; have xz2 := ex_c2 HR.out; have yz0 := blk_frozen HR.out 0; have yz1 := blk_frozen HR.out 1; have yz2 := blk_frozen HR.out 2; refine store_event (t := 35) (p := 2) (v := ?vo6) (w1 := ex3 (wr.drewN nd) gr a b A n c) ?hg ?ho ?hn ?hr ?_; (case ho => rfl); (case hg => rfl); (case hn => rfl); (case hr => first | (go_simp; done) | (go_simp; rfl)); intro wz hw_; have HSz := Aside0.mk (show StB wz g s y false d by rw [hw_]; exact bk_far3 (by (with_reducible repeat (first | refine blk_drewN ?_ _ | refine blk_drew ?_)); exact HS.out) NE); have HRz := Aside0.mk (show ExB wz gr a b A n c by rw [hw_]; exact ex_put (by (with_reducible repeat (first | refine blk_drewN ?_ _ | refine blk_drew ?_)); exact HR.out) _ _ _ _ _); have HGz := Aside0.mk (show w.grownBy wz (some g) by rw [hw_]; exact ug_far3 (by (with_reducible repeat (first | exact HG.out | refine ug_drewN ?_ _))) GE.out); clear hw_; clear xz0 xz1 xz2 yz0 yz1 yz2))
            (try simp only [Exit.inBlock, Exit.then])
            refine bodyPost_ret (results_cell_row rfl _ _ gr 35 #[.int .u8 a, .int .u8 b, .slice A n c] (0, 0) _ rfl HRz.out Try.underlying35 rfl (by kernel_rfl)) rfl ?_
            exact ⟨⟨⟨a, b, A, n, c, rfl⟩, HSz.out⟩, HGz.out⟩
def eCs (x : Int × Int × Option Addr × Nat × Nat) : List Value := [.int .u8 x.1, .int .u8 x.2.1, .slice x.2.2.1 x.2.2.2.1 x.2.2.2.2]
def kE : Kd (Int × Int × Option Addr × Nat × Nat) where
  sz := 3
  E := []
  K := fun _ x cs => cs = eCs x
  M := fun _ _ _ x cs => cs = eCs x
  K_len := fun h => by rw [h]; rfl
  K_one := fun h u hu => by
    rw [h] at hu
    simp only [eCs, List.mem_cons, List.not_mem_nil, or_false] at hu
    rcases hu with rfl | rfl | rfl <;> rfl
  K_below := fun _ h => h
  K_of_M := fun h => h
  M_mono := fun _ h => h
  M_bound := fun h => h
  M_move := fun _ h => h
  M_lower := fun _ h => h
theorem exE_info : (Try.prog.info? 35).map (fun i => (i.zero, i.size, i.bytes)) = some (some (.agg #[.int .u8 0, .int .u8 0, .slice none 0 0]), 3, 32) := by kernel_rfl
abbrev RowE (w : World) (base g gr : Nat) (v : Value) (l : List (Int × Int × Option Addr × Nat × Nat)) : Prop := Kd.R kE 35 w base (fun k_ => k_ ≠ g ∧ k_ ≠ gr) v l
/-- The first element of a row. -/
theorem rowE_head {w : World} {base g gr : Nat} {A : Option Addr} {n c : Nat} {l : List (Int × Int × Option Addr × Nat × Nat)} (h : RowE w base g gr (.slice A n c) l) (hl : 0 < l.length) :
    ∃ gl a b B m q, A = some ⟨gl, 0, none⟩ ∧ w.cell? ⟨gl, 0, none⟩ = some (.int .u8 a) ∧ w.cell? ⟨gl, 1, none⟩ = some (.int .u8 b) ∧ w.cell? ⟨gl, 2, none⟩ = some (.slice B m q) := by
  obtain ⟨_, inner, ho, hr⟩ := h
  obtain ⟨gl, hA⟩ : ∃ gl, A = some ⟨gl, 0, none⟩ := by
    rcases ho.2 with ⟨h0, h1⟩ | ⟨gl, cap, cur, h0, _⟩
    · omega
    · injection h0 with e1 e2 e3
      exact ⟨gl, e1⟩
  subst hA
  have hC := (Kd.R_reads' (show RowE w base g gr (.slice (some ⟨gl, 0, none⟩) n c) l from ⟨‹_›, inner, ho, hr⟩)).2.2
  obtain ⟨ad, cs, e, _, hK, hc⟩ := Kd.C_get hC (0, 0, none, 0, 0) 0 (by decide) (by omega)
  obtain rfl := Option.some.inj e
  have hK' : cs = eCs (l.getD (0 : Int).toNat (0, 0, none, 0, 0)) := hK
  subst hK'
  generalize l.getD (0 : Int).toNat (0, 0, none, 0, 0) = x at hc
  exact ⟨gl, x.1, x.2.1, x.2.2.1, x.2.2.2.1, x.2.2.2.2, rfl, hc 0 _ rfl, hc 1 _ rfl, hc 2 _ rfl⟩
set_option maxHeartbeats 4000000 in
set_option maxRecDepth 100000 in
theorem rowt_walk (k : Nat) (ih : ∀ j, j < k → OneS j) : RowT k := by
  intro s x bad d r g w hd0 hd1 hb h
  have HS0 := Aside0.mk hb
  have HD := Aside0.mk (And.intro hd0 hd1)
  have HH := Aside0.mk h
  have HIH := Aside0.mk ih
  clear hb hd0 hd1 h ih
  go_enter Try.func42, Try.ntmps42
  go_wp2_with (first | ((with_reducible refine gate_dst (N := 2) rfl ?_); refine box_event ?hg (N := 2) ?hd (cs := #[.int .u8 0, .int .u8 0, .slice none 0 0]) (t := 35) ?hr ?_; (case hd => rfl); (case hg => rfl); (case hr => first | (go_simp; done) | (go_simp; rfl)); intro gr hgx wb hbox hb; have NE := (show g ≠ gr by rw [hgx]; exact Nat.ne_of_lt (blk_lt HS0.out)); have GE := Aside0.mk (show w.heap.size ≤ gr by rw [hgx]; exact Nat.le_refl _); have HS1 := Aside0.mk (show StB wb g s x bad d from bk_below HS0.out hb); have HR1 := Aside0.mk (show ExB wb gr 0 0 none 0 0 from hbox); have HG1 := Aside0.mk (show w.grownBy wb (some g) from ug_below (ug_refl _ _) hb); clear hbox hgx hb))
  try simp only [Act.put, List.setIfInBounds_toArray, List.set_cons_zero, List.set_cons_succ]
  go_loopg [3] k (fun kq v3 w' => ∃ (y : Int) (bd : Bool) (l : List (Int × Int × Option Addr × Nat × Nat)), Aside0 (sRow kq s y bd d l.length = some r) ∧ Aside0 (kq ≤ k) ∧ Aside0 (RowE w' w.heap.size g gr v3 l) ∧ Aside0 (StB w' g s y bd d) ∧ Aside0 (ExB w' gr 0 0 none 0 0) ∧ Aside0 (w.grownBy w' (some g)))
  case atStart => exact ⟨x, bad, [], HH, ⟨Nat.le_refl _⟩, ⟨Kd.R_nil _ _ _ _ _⟩, ⟨(by (with_reducible repeat (first | refine blk_drewN ?_ _ | refine blk_drew ?_)); exact HS1.out)⟩, ⟨(by (with_reducible repeat (first | refine blk_drewN ?_ _ | refine blk_drew ?_)); exact HR1.out)⟩, ⟨(by (with_reducible repeat (first | exact HG1.out | refine ug_drewN ?_ _)))⟩⟩
  case round =>
    clear HH HS0 HS1 HR1 HG1
    obtain ⟨y, bd, l, HA, HK1, HL, HS, HR, HG⟩ := hrel
    obtain ⟨Al, cl, el⟩ := Kd.R_slice HL.out
    subst el
    have sf0 := st_c0 HS.out
    have sf1 := st_c1 HS.out
    have sf2 := st_c2 HS.out
    have sf3 := st_c3 HS.out
    have tf0 := blk_frozen HS.out 0
    have tf1 := blk_frozen HS.out 1
    have tf2 := blk_frozen HS.out 2
    have tf3 := blk_frozen HS.out 3
    cases gk with
    | zero => exact absurd HA.out (by simp [sRow])
    | succ k1 =>
      have H := HA.out
      clear HA
      rw [sRow] at H
      by_cases hy : y < 0 ∨ 1099511627776 < y ∨ 1099511627776 < l.length
      · rw [if_pos hy] at H; cases H
      rw [if_neg hy] at H
      have HY := Aside0.mk (show 0 ≤ y ∧ y ≤ 1099511627776 by omega)
      have HN := Aside0.mk (show l.length ≤ 1099511627776 by omega)
      clear hy
      cases bd with
      | true =>
        rw [if_pos rfl] at H
        have NE2 := NE.symm
        have xz0 := ex_c0 HR.out
        have xz1 := ex_c1 HR.out
        have xz2 := ex_c2 HR.out
        have yz0 := blk_frozen HR.out 0
        have yz1 := blk_frozen HR.out 1
        have yz2 := blk_frozen HR.out 2
        by_cases hl : l.length = 0
        · rw [if_pos hl] at H
          obtain rfl := Option.some.inj H
          have l1 : ((l.length : Int) == 0) = true := beq_iff_eq.mpr (by omega)
          clear H hl
          go_wp2_with (fail)
          repeat (go_quiet (fail); try go_wp2_with (fail))
          (try simp only [Exit.inBlock, Exit.then])
          refine bodyPost_ret (results_cell_row rfl _ _ gr 35 #[.int .u8 45, .int .u8 0, .slice none 0 0] (0, 0) _ rfl (ex_put (bk_far (b := g) (j := 2) (v := .bool true) (by (with_reducible repeat (first | refine blk_drewN ?_ _ | refine blk_drew ?_)); exact HR.out) NE.symm) 45 0 none 0 0) Try.underlying35 rfl (by kernel_rfl)) rfl ?_
          exact ⟨⟨⟨_, _, _, _, _, rfl⟩, bk_far3 (st_set2 (by (with_reducible repeat (first | refine blk_drewN ?_ _ | refine blk_drew ?_)); exact HS.out) true) NE⟩, ug_far3 (ug_set (by (with_reducible repeat (first | exact HG.out | refine ug_drewN ?_ _)))) GE.out⟩
        · rw [if_neg hl] at H
          obtain rfl := Option.some.inj H
          have l1 : ((l.length : Int) == 0) = false := beq_eq_false_iff_ne.mpr (by omega)
          obtain ⟨gl, a, b, A, n, c, rfl, el0, el1, el2⟩ := rowE_head HL.out (Nat.pos_of_ne_zero hl)
          by_cases h1 : l.length = 1
          · have l2 : ((l.length : Int) == 1) = true := beq_iff_eq.mpr (by omega)
            have l3 : decide ((0 : Int) < (l.length : Int)) = true := decide_eq_true (by omega)
            have l4 : decide (0 < l.length) = true := decide_eq_true (by omega)
            have l5 := eq_true (show 0 < l.length by omega)
            have l6 := eq_true (show (0 : Int) < (l.length : Int) by omega)
            clear H hl h1
            go_wp2_with (fail)
            repeat (go_quiet (fail); try go_wp2_with (fail))
            (try simp only [Exit.inBlock, Exit.then])
            refine bodyPost_ret (results_cell_row rfl _ _ gr 35 #[.int .u8 a, .int .u8 b, .slice A n c] (0, 0) _ rfl (ex_put (by (with_reducible repeat (first | refine blk_drewN ?_ _ | refine blk_drew ?_)); exact HR.out) a b A n c) Try.underlying35 rfl (by kernel_rfl)) rfl ?_
            exact ⟨⟨⟨_, _, _, _, _, rfl⟩, bk_far3 (by (with_reducible repeat (first | refine blk_drewN ?_ _ | refine blk_drew ?_)); exact HS.out) NE⟩, ug_far3 (by (with_reducible repeat (first | exact HG.out | refine ug_drewN ?_ _))) GE.out⟩
          · have l2 : ((l.length : Int) == 1) = false := beq_eq_false_iff_ne.mpr (by omega)
            clear H hl h1
            go_wp2_with (fail)
            repeat (go_quiet (fail); try go_wp2_with (fail))
            (try simp only [Exit.inBlock, Exit.then])
            refine bodyPost_ret (results_cell_row rfl _ _ gr 35 #[.int .u8 38, .int .u8 0, .slice (some ⟨gl, 0, none⟩) l.length cl] (0, 0) _ rfl (ex_put (by (with_reducible repeat (first | refine blk_drewN ?_ _ | refine blk_drew ?_)); exact HR.out) 38 0 (some ⟨gl, 0, none⟩) l.length cl) Try.underlying35 rfl (by kernel_rfl)) rfl ?_
            exact ⟨⟨⟨_, _, _, _, _, rfl⟩, bk_far3 (by (with_reducible repeat (first | refine blk_drewN ?_ _ | refine blk_drew ?_)); exact HS.out) NE⟩, ug_far3 (by (with_reducible repeat (first | exact HG.out | refine ug_drewN ?_ _))) GE.out⟩
      | false =>
        rw [if_neg (by decide)] at H
        by_cases c1 : y < (s.size : Int)
        · rw [if_pos c1] at H
          have c1b : decide (y < (s.size : Int)) = true := decide_eq_true c1
          clear c1
          by_cases c2 : nxS s y = 124
          · rw [if_pos c2] at H
            have e124 : (nxS s y == 124) = true := beq_iff_eq.mpr c2
            have e124n : (nxS s y != 124) = false := by rw [bne, e124]; rfl
            clear c2
            have NE2 := NE.symm
            have xz0 := ex_c0 HR.out
            have xz1 := ex_c1 HR.out
            have xz2 := ex_c2 HR.out
            have yz0 := blk_frozen HR.out 0
            have yz1 := blk_frozen HR.out 1
            have yz2 := blk_frozen HR.out 2
            by_cases hl : l.length = 0
            · rw [if_pos hl] at H
              obtain rfl := Option.some.inj H
              have l1 : ((l.length : Int) == 0) = true := beq_iff_eq.mpr (by omega)
              clear H hl
              go_wp2_with (first | (go_at_call 43; (with_reducible refine (next_e g s y false d _ (by (with_reducible repeat (first | refine blk_drewN ?_ _ | refine blk_drew ?_)); exact HS.out) HY.out.1).mono ?_); rintro e w' ⟨rfl, ⟨nd, rfl⟩⟩; (try first | exact ⟨rfl, _, World.drewN_drewN _ _ _⟩ | exact ⟨rfl, _, Eq.trans (World.drewN_drewN _ _ _) (congrArg (World.drewN _) (Nat.add_assoc _ _ _))⟩)))
              repeat (go_quiet (first | (go_at_call 43; (with_reducible refine (next_e g s y false d _ (by (with_reducible repeat (first | refine blk_drewN ?_ _ | refine blk_drew ?_)); exact HS.out) HY.out.1).mono ?_); rintro e w' ⟨rfl, ⟨nd, rfl⟩⟩; (try first | exact ⟨rfl, _, World.drewN_drewN _ _ _⟩ | exact ⟨rfl, _, Eq.trans (World.drewN_drewN _ _ _) (congrArg (World.drewN _) (Nat.add_assoc _ _ _))⟩))); try go_wp2_with (first | (go_at_call 43; (with_reducible refine (next_e g s y false d _ (by (with_reducible repeat (first | refine blk_drewN ?_ _ | refine blk_drew ?_)); exact HS.out) HY.out.1).mono ?_); rintro e w' ⟨rfl, ⟨nd, rfl⟩⟩; (try first | exact ⟨rfl, _, World.drewN_drewN _ _ _⟩ | exact ⟨rfl, _, Eq.trans (World.drewN_drewN _ _ _) (congrArg (World.drewN _) (Nat.add_assoc _ _ _))⟩))))
              (try simp only [Exit.inBlock, Exit.then])
              refine bodyPost_ret (results_cell_row rfl _ _ gr 35 #[.int .u8 45, .int .u8 0, .slice none 0 0] (0, 0) _ rfl (ex_put (bk_far (b := g) (j := 2) (v := .bool true) (by (with_reducible repeat (first | refine blk_drewN ?_ _ | refine blk_drew ?_)); exact HR.out) NE.symm) 45 0 none 0 0) Try.underlying35 rfl (by kernel_rfl)) rfl ?_
              exact ⟨⟨⟨_, _, _, _, _, rfl⟩, bk_far3 (st_set2 (by (with_reducible repeat (first | refine blk_drewN ?_ _ | refine blk_drew ?_)); exact HS.out) true) NE⟩, ug_far3 (ug_set (by (with_reducible repeat (first | exact HG.out | refine ug_drewN ?_ _)))) GE.out⟩
            · rw [if_neg hl] at H
              obtain rfl := Option.some.inj H
              have l1 : ((l.length : Int) == 0) = false := beq_eq_false_iff_ne.mpr (by omega)
              obtain ⟨gl, a, b, A, n, c, rfl, el0, el1, el2⟩ := rowE_head HL.out (Nat.pos_of_ne_zero hl)
              by_cases h1 : l.length = 1
              · have l2 : ((l.length : Int) == 1) = true := beq_iff_eq.mpr (by omega)
                have l3 : decide ((0 : Int) < (l.length : Int)) = true := decide_eq_true (by omega)
                have l4 : decide (0 < l.length) = true := decide_eq_true (by omega)
                have l5 := eq_true (show 0 < l.length by omega)
                have l6 := eq_true (show (0 : Int) < (l.length : Int) by omega)
                clear H hl h1
                go_wp2_with (first | (go_at_call 43; (with_reducible refine (next_e g s y false d _ (by (with_reducible repeat (first | refine blk_drewN ?_ _ | refine blk_drew ?_)); exact HS.out) HY.out.1).mono ?_); rintro e w' ⟨rfl, ⟨nd, rfl⟩⟩; (try first | exact ⟨rfl, _, World.drewN_drewN _ _ _⟩ | exact ⟨rfl, _, Eq.trans (World.drewN_drewN _ _ _) (congrArg (World.drewN _) (Nat.add_assoc _ _ _))⟩)))
                repeat (go_quiet (first | (go_at_call 43; (with_reducible refine (next_e g s y false d _ (by (with_reducible repeat (first | refine blk_drewN ?_ _ | refine blk_drew ?_)); exact HS.out) HY.out.1).mono ?_); rintro e w' ⟨rfl, ⟨nd, rfl⟩⟩; (try first | exact ⟨rfl, _, World.drewN_drewN _ _ _⟩ | exact ⟨rfl, _, Eq.trans (World.drewN_drewN _ _ _) (congrArg (World.drewN _) (Nat.add_assoc _ _ _))⟩))); try go_wp2_with (first | (go_at_call 43; (with_reducible refine (next_e g s y false d _ (by (with_reducible repeat (first | refine blk_drewN ?_ _ | refine blk_drew ?_)); exact HS.out) HY.out.1).mono ?_); rintro e w' ⟨rfl, ⟨nd, rfl⟩⟩; (try first | exact ⟨rfl, _, World.drewN_drewN _ _ _⟩ | exact ⟨rfl, _, Eq.trans (World.drewN_drewN _ _ _) (congrArg (World.drewN _) (Nat.add_assoc _ _ _))⟩))))
                (try simp only [Exit.inBlock, Exit.then])
                refine bodyPost_ret (results_cell_row rfl _ _ gr 35 #[.int .u8 a, .int .u8 b, .slice A n c] (0, 0) _ rfl (ex_put (by (with_reducible repeat (first | refine blk_drewN ?_ _ | refine blk_drew ?_)); exact HR.out) a b A n c) Try.underlying35 rfl (by kernel_rfl)) rfl ?_
                exact ⟨⟨⟨_, _, _, _, _, rfl⟩, bk_far3 (by (with_reducible repeat (first | refine blk_drewN ?_ _ | refine blk_drew ?_)); exact HS.out) NE⟩, ug_far3 (by (with_reducible repeat (first | exact HG.out | refine ug_drewN ?_ _))) GE.out⟩
              · have l2 : ((l.length : Int) == 1) = false := beq_eq_false_iff_ne.mpr (by omega)
                clear H hl h1
                go_wp2_with (first | (go_at_call 43; (with_reducible refine (next_e g s y false d _ (by (with_reducible repeat (first | refine blk_drewN ?_ _ | refine blk_drew ?_)); exact HS.out) HY.out.1).mono ?_); rintro e w' ⟨rfl, ⟨nd, rfl⟩⟩; (try first | exact ⟨rfl, _, World.drewN_drewN _ _ _⟩ | exact ⟨rfl, _, Eq.trans (World.drewN_drewN _ _ _) (congrArg (World.drewN _) (Nat.add_assoc _ _ _))⟩)))
                repeat (go_quiet (first | (go_at_call 43; (with_reducible refine (next_e g s y false d _ (by (with_reducible repeat (first | refine blk_drewN ?_ _ | refine blk_drew ?_)); exact HS.out) HY.out.1).mono ?_); rintro e w' ⟨rfl, ⟨nd, rfl⟩⟩; (try first | exact ⟨rfl, _, World.drewN_drewN _ _ _⟩ | exact ⟨rfl, _, Eq.trans (World.drewN_drewN _ _ _) (congrArg (World.drewN _) (Nat.add_assoc _ _ _))⟩))); try go_wp2_with (first | (go_at_call 43; (with_reducible refine (next_e g s y false d _ (by (with_reducible repeat (first | refine blk_drewN ?_ _ | refine blk_drew ?_)); exact HS.out) HY.out.1).mono ?_); rintro e w' ⟨rfl, ⟨nd, rfl⟩⟩; (try first | exact ⟨rfl, _, World.drewN_drewN _ _ _⟩ | exact ⟨rfl, _, Eq.trans (World.drewN_drewN _ _ _) (congrArg (World.drewN _) (Nat.add_assoc _ _ _))⟩))))
                (try simp only [Exit.inBlock, Exit.then])
                refine bodyPost_ret (results_cell_row rfl _ _ gr 35 #[.int .u8 38, .int .u8 0, .slice (some ⟨gl, 0, none⟩) l.length cl] (0, 0) _ rfl (ex_put (by (with_reducible repeat (first | refine blk_drewN ?_ _ | refine blk_drew ?_)); exact HR.out) 38 0 (some ⟨gl, 0, none⟩) l.length cl) Try.underlying35 rfl (by kernel_rfl)) rfl ?_
                exact ⟨⟨⟨_, _, _, _, _, rfl⟩, bk_far3 (by (with_reducible repeat (first | refine blk_drewN ?_ _ | refine blk_drew ?_)); exact HS.out) NE⟩, ug_far3 (by (with_reducible repeat (first | exact HG.out | refine ug_drewN ?_ _))) GE.out⟩
          rw [if_neg c2] at H
          have e124 : (nxS s y == 124) = false := beq_eq_false_iff_ne.mpr c2
          have e124n : (nxS s y != 124) = true := by rw [bne, e124]; rfl
          clear c2
          by_cases c3 : nxS s y = 41
          · rw [if_pos c3] at H
            have e41 : (nxS s y == 41) = true := beq_iff_eq.mpr c3
            have e41n : (nxS s y != 41) = false := by rw [bne, e41]; rfl
            clear c3
            have NE2 := NE.symm
            have xz0 := ex_c0 HR.out
            have xz1 := ex_c1 HR.out
            have xz2 := ex_c2 HR.out
            have yz0 := blk_frozen HR.out 0
            have yz1 := blk_frozen HR.out 1
            have yz2 := blk_frozen HR.out 2
            by_cases hl : l.length = 0
            · rw [if_pos hl] at H
              obtain rfl := Option.some.inj H
              have l1 : ((l.length : Int) == 0) = true := beq_iff_eq.mpr (by omega)
              clear H hl
              go_wp2_with (first | (go_at_call 43; (with_reducible refine (next_e g s y false d _ (by (with_reducible repeat (first | refine blk_drewN ?_ _ | refine blk_drew ?_)); exact HS.out) HY.out.1).mono ?_); rintro e w' ⟨rfl, ⟨nd, rfl⟩⟩; (try first | exact ⟨rfl, _, World.drewN_drewN _ _ _⟩ | exact ⟨rfl, _, Eq.trans (World.drewN_drewN _ _ _) (congrArg (World.drewN _) (Nat.add_assoc _ _ _))⟩)))
              repeat (go_quiet (first | (go_at_call 43; (with_reducible refine (next_e g s y false d _ (by (with_reducible repeat (first | refine blk_drewN ?_ _ | refine blk_drew ?_)); exact HS.out) HY.out.1).mono ?_); rintro e w' ⟨rfl, ⟨nd, rfl⟩⟩; (try first | exact ⟨rfl, _, World.drewN_drewN _ _ _⟩ | exact ⟨rfl, _, Eq.trans (World.drewN_drewN _ _ _) (congrArg (World.drewN _) (Nat.add_assoc _ _ _))⟩))); try go_wp2_with (first | (go_at_call 43; (with_reducible refine (next_e g s y false d _ (by (with_reducible repeat (first | refine blk_drewN ?_ _ | refine blk_drew ?_)); exact HS.out) HY.out.1).mono ?_); rintro e w' ⟨rfl, ⟨nd, rfl⟩⟩; (try first | exact ⟨rfl, _, World.drewN_drewN _ _ _⟩ | exact ⟨rfl, _, Eq.trans (World.drewN_drewN _ _ _) (congrArg (World.drewN _) (Nat.add_assoc _ _ _))⟩))))
              (try simp only [Exit.inBlock, Exit.then])
              refine bodyPost_ret (results_cell_row rfl _ _ gr 35 #[.int .u8 45, .int .u8 0, .slice none 0 0] (0, 0) _ rfl (ex_put (bk_far (b := g) (j := 2) (v := .bool true) (by (with_reducible repeat (first | refine blk_drewN ?_ _ | refine blk_drew ?_)); exact HR.out) NE.symm) 45 0 none 0 0) Try.underlying35 rfl (by kernel_rfl)) rfl ?_
              exact ⟨⟨⟨_, _, _, _, _, rfl⟩, bk_far3 (st_set2 (by (with_reducible repeat (first | refine blk_drewN ?_ _ | refine blk_drew ?_)); exact HS.out) true) NE⟩, ug_far3 (ug_set (by (with_reducible repeat (first | exact HG.out | refine ug_drewN ?_ _)))) GE.out⟩
            · rw [if_neg hl] at H
              obtain rfl := Option.some.inj H
              have l1 : ((l.length : Int) == 0) = false := beq_eq_false_iff_ne.mpr (by omega)
              obtain ⟨gl, a, b, A, n, c, rfl, el0, el1, el2⟩ := rowE_head HL.out (Nat.pos_of_ne_zero hl)
              by_cases h1 : l.length = 1
              · have l2 : ((l.length : Int) == 1) = true := beq_iff_eq.mpr (by omega)
                have l3 : decide ((0 : Int) < (l.length : Int)) = true := decide_eq_true (by omega)
                have l4 : decide (0 < l.length) = true := decide_eq_true (by omega)
                have l5 := eq_true (show 0 < l.length by omega)
                have l6 := eq_true (show (0 : Int) < (l.length : Int) by omega)
                clear H hl h1
                go_wp2_with (first | (go_at_call 43; (with_reducible refine (next_e g s y false d _ (by (with_reducible repeat (first | refine blk_drewN ?_ _ | refine blk_drew ?_)); exact HS.out) HY.out.1).mono ?_); rintro e w' ⟨rfl, ⟨nd, rfl⟩⟩; (try first | exact ⟨rfl, _, World.drewN_drewN _ _ _⟩ | exact ⟨rfl, _, Eq.trans (World.drewN_drewN _ _ _) (congrArg (World.drewN _) (Nat.add_assoc _ _ _))⟩)))
                repeat (go_quiet (first | (go_at_call 43; (with_reducible refine (next_e g s y false d _ (by (with_reducible repeat (first | refine blk_drewN ?_ _ | refine blk_drew ?_)); exact HS.out) HY.out.1).mono ?_); rintro e w' ⟨rfl, ⟨nd, rfl⟩⟩; (try first | exact ⟨rfl, _, World.drewN_drewN _ _ _⟩ | exact ⟨rfl, _, Eq.trans (World.drewN_drewN _ _ _) (congrArg (World.drewN _) (Nat.add_assoc _ _ _))⟩))); try go_wp2_with (first | (go_at_call 43; (with_reducible refine (next_e g s y false d _ (by (with_reducible repeat (first | refine blk_drewN ?_ _ | refine blk_drew ?_)); exact HS.out) HY.out.1).mono ?_); rintro e w' ⟨rfl, ⟨nd, rfl⟩⟩; (try first | exact ⟨rfl, _, World.drewN_drewN _ _ _⟩ | exact ⟨rfl, _, Eq.trans (World.drewN_drewN _ _ _) (congrArg (World.drewN _) (Nat.add_assoc _ _ _))⟩))))
                (try simp only [Exit.inBlock, Exit.then])
                refine bodyPost_ret (results_cell_row rfl _ _ gr 35 #[.int .u8 a, .int .u8 b, .slice A n c] (0, 0) _ rfl (ex_put (by (with_reducible repeat (first | refine blk_drewN ?_ _ | refine blk_drew ?_)); exact HR.out) a b A n c) Try.underlying35 rfl (by kernel_rfl)) rfl ?_
                exact ⟨⟨⟨_, _, _, _, _, rfl⟩, bk_far3 (by (with_reducible repeat (first | refine blk_drewN ?_ _ | refine blk_drew ?_)); exact HS.out) NE⟩, ug_far3 (by (with_reducible repeat (first | exact HG.out | refine ug_drewN ?_ _))) GE.out⟩
              · have l2 : ((l.length : Int) == 1) = false := beq_eq_false_iff_ne.mpr (by omega)
                clear H hl h1
                go_wp2_with (first | (go_at_call 43; (with_reducible refine (next_e g s y false d _ (by (with_reducible repeat (first | refine blk_drewN ?_ _ | refine blk_drew ?_)); exact HS.out) HY.out.1).mono ?_); rintro e w' ⟨rfl, ⟨nd, rfl⟩⟩; (try first | exact ⟨rfl, _, World.drewN_drewN _ _ _⟩ | exact ⟨rfl, _, Eq.trans (World.drewN_drewN _ _ _) (congrArg (World.drewN _) (Nat.add_assoc _ _ _))⟩)))
                repeat (go_quiet (first | (go_at_call 43; (with_reducible refine (next_e g s y false d _ (by (with_reducible repeat (first | refine blk_drewN ?_ _ | refine blk_drew ?_)); exact HS.out) HY.out.1).mono ?_); rintro e w' ⟨rfl, ⟨nd, rfl⟩⟩; (try first | exact ⟨rfl, _, World.drewN_drewN _ _ _⟩ | exact ⟨rfl, _, Eq.trans (World.drewN_drewN _ _ _) (congrArg (World.drewN _) (Nat.add_assoc _ _ _))⟩))); try go_wp2_with (first | (go_at_call 43; (with_reducible refine (next_e g s y false d _ (by (with_reducible repeat (first | refine blk_drewN ?_ _ | refine blk_drew ?_)); exact HS.out) HY.out.1).mono ?_); rintro e w' ⟨rfl, ⟨nd, rfl⟩⟩; (try first | exact ⟨rfl, _, World.drewN_drewN _ _ _⟩ | exact ⟨rfl, _, Eq.trans (World.drewN_drewN _ _ _) (congrArg (World.drewN _) (Nat.add_assoc _ _ _))⟩))))
                (try simp only [Exit.inBlock, Exit.then])
                refine bodyPost_ret (results_cell_row rfl _ _ gr 35 #[.int .u8 38, .int .u8 0, .slice (some ⟨gl, 0, none⟩) l.length cl] (0, 0) _ rfl (ex_put (by (with_reducible repeat (first | refine blk_drewN ?_ _ | refine blk_drew ?_)); exact HR.out) 38 0 (some ⟨gl, 0, none⟩) l.length cl) Try.underlying35 rfl (by kernel_rfl)) rfl ?_
                exact ⟨⟨⟨_, _, _, _, _, rfl⟩, bk_far3 (by (with_reducible repeat (first | refine blk_drewN ?_ _ | refine blk_drew ?_)); exact HS.out) NE⟩, ug_far3 (by (with_reducible repeat (first | exact HG.out | refine ug_drewN ?_ _))) GE.out⟩
          rw [if_neg c3] at H
          have e41 : (nxS s y == 41) = false := beq_eq_false_iff_ne.mpr c3
          have e41n : (nxS s y != 41) = true := by rw [bne, e41]; rfl
          clear c3
          by_cases cd : 20 < d
          · rw [if_pos cd] at H; cases H
          rw [if_neg cd] at H
          have HD2 := Aside0.mk (show d ≤ 20 by omega)
          clear cd
          obtain ⟨⟨z, bz⟩, ho, H⟩ := Option.bind_eq_some_iff.mp H
          dsimp only at H
          have HO := Aside0.mk ho
          have H' := Aside0.mk H
          have ihk := HIH.out k1 (Nat.lt_of_lt_of_le (Nat.lt_succ_self k1) HK1.out)
          unfold OneS at ihk
          have IH := Aside0.mk ihk
          clear ho H ihk
          go_wp2_with (first | (go_at_call 43; (with_reducible refine (next_e g s y false d _ (by (with_reducible repeat (first | refine blk_drewN ?_ _ | refine blk_drew ?_)); exact HS.out) HY.out.1).mono ?_); rintro e w' ⟨rfl, ⟨nd, rfl⟩⟩; (try first | exact ⟨rfl, _, World.drewN_drewN _ _ _⟩ | exact ⟨rfl, _, Eq.trans (World.drewN_drewN _ _ _) (congrArg (World.drewN _) (Nat.add_assoc _ _ _))⟩)) | (go_at_call 52; (with_reducible refine (IH.out s y d (z, bz) g _ HD.out.1 HD2.out (by (with_reducible repeat (first | refine blk_drewN ?_ _ | refine blk_drew ?_)); exact HS.out) HO.out).mono ?_); rintro e w3 ⟨⟨⟨a, b, A, n, c, rfl⟩, hst⟩, hg⟩; have HS5 := Aside0.mk (show StB w3 g s z bz d from hst); have HR5 := Aside0.mk (show ExB w3 gr 0 0 none 0 0 from bk_grown (by (with_reducible repeat (first | refine blk_drewN ?_ _ | refine blk_drew ?_)); exact HR.out) hg NE); have HL5 := Aside0.mk (show RowE w3 w.heap.size g gr (.slice Al l.length cl) l from Kd.R_grown (ok := fun k_ => k_ ≠ g ∧ k_ ≠ gr) (by (with_reducible repeat (first | apply Kd.R_alloc | apply Kd.R_drewN | apply Kd.R_drew)); exact HL.out) hg (fun k_ h_ e_ => h_.1 (Option.some.inj e_))); have HG5 := Aside0.mk (show w.grownBy w3 (some g) from ug_trans (by (with_reducible repeat (first | exact HG.out | refine ug_drewN ?_ _))) hg); clear hst hg) | (at_builtin; refine Kd.R_append kE (w0 := _) w.heap.size rfl (.tmp 31) (.tmp 34) 33 35 (.agg #[.int .u8 0, .int .u8 0, .slice none 0 0]) 32 rfl Try.underlying33 exE_info ?x1 ?x2 ?x3 (.slice Al l.length cl) l (a, b, A, n, c) [.int .u8 a, .int .u8 b, .slice A n c] (fun k_ => k_ ≠ g ∧ k_ ≠ gr) (fun _ => False) ?x4 ?x5 ?aP ?x6 ?aF ?aO (Below.refl _ _) ?aS ?aL ?_; (case x1 => exact rfl); (case x2 => exact Nat.succ_pos 2); (case x3 => exact Nat.succ_pos 31); (case x4 => exact rfl); (case x5 => exact rfl); (case x6 => exact (fun _ hk => hk.elim)); (case aP => exact rfl); (case aF => exact (fun k_ hk => ⟨fun e_ => by subst e_; exact absurd (blk_lt HS5.out) (Nat.not_lt.2 hk), fun e_ => by subst e_; exact absurd (blk_lt HR5.out) (Nat.not_lt.2 hk)⟩)); (case aO => exact HL5.out); (case aS => exact ug_size (w := w) (g := some g) HG5.out); (case aL => have := HN.out; omega); intro v1 wp ho hb hg hat; have HSp := Aside0.mk (bk_own (v := .slice Al l.length cl) HS5.out hg (fun e_ => (HL5.out.1 _ e_).1 rfl)); have HRp := Aside0.mk (bk_own (v := .slice Al l.length cl) HR5.out hg (fun e_ => (HL5.out.1 _ e_).2 rfl)); have HGp := Aside0.mk (ug_own (w := w) (g := some g) (v := .slice Al l.length cl) HG5.out hg (Kd.R_base HL5.out)); have HLp := Aside0.mk ho; clear hg hat hb ho))
          repeat (go_quiet (first | (go_at_call 43; (with_reducible refine (next_e g s y false d _ (by (with_reducible repeat (first | refine blk_drewN ?_ _ | refine blk_drew ?_)); exact HS.out) HY.out.1).mono ?_); rintro e w' ⟨rfl, ⟨nd, rfl⟩⟩; (try first | exact ⟨rfl, _, World.drewN_drewN _ _ _⟩ | exact ⟨rfl, _, Eq.trans (World.drewN_drewN _ _ _) (congrArg (World.drewN _) (Nat.add_assoc _ _ _))⟩))); try go_wp2_with (first | (go_at_call 43; (with_reducible refine (next_e g s y false d _ (by (with_reducible repeat (first | refine blk_drewN ?_ _ | refine blk_drew ?_)); exact HS.out) HY.out.1).mono ?_); rintro e w' ⟨rfl, ⟨nd, rfl⟩⟩; (try first | exact ⟨rfl, _, World.drewN_drewN _ _ _⟩ | exact ⟨rfl, _, Eq.trans (World.drewN_drewN _ _ _) (congrArg (World.drewN _) (Nat.add_assoc _ _ _))⟩)) | (go_at_call 52; (with_reducible refine (IH.out s y d (z, bz) g _ HD.out.1 HD2.out (by (with_reducible repeat (first | refine blk_drewN ?_ _ | refine blk_drew ?_)); exact HS.out) HO.out).mono ?_); rintro e w3 ⟨⟨⟨a, b, A, n, c, rfl⟩, hst⟩, hg⟩; have HS5 := Aside0.mk (show StB w3 g s z bz d from hst); have HR5 := Aside0.mk (show ExB w3 gr 0 0 none 0 0 from bk_grown (by (with_reducible repeat (first | refine blk_drewN ?_ _ | refine blk_drew ?_)); exact HR.out) hg NE); have HL5 := Aside0.mk (show RowE w3 w.heap.size g gr (.slice Al l.length cl) l from Kd.R_grown (ok := fun k_ => k_ ≠ g ∧ k_ ≠ gr) (by (with_reducible repeat (first | apply Kd.R_alloc | apply Kd.R_drewN | apply Kd.R_drew)); exact HL.out) hg (fun k_ h_ e_ => h_.1 (Option.some.inj e_))); have HG5 := Aside0.mk (show w.grownBy w3 (some g) from ug_trans (by (with_reducible repeat (first | exact HG.out | refine ug_drewN ?_ _))) hg); clear hst hg) | (at_builtin; refine Kd.R_append kE (w0 := _) w.heap.size rfl (.tmp 31) (.tmp 34) 33 35 (.agg #[.int .u8 0, .int .u8 0, .slice none 0 0]) 32 rfl Try.underlying33 exE_info ?x1 ?x2 ?x3 (.slice Al l.length cl) l (a, b, A, n, c) [.int .u8 a, .int .u8 b, .slice A n c] (fun k_ => k_ ≠ g ∧ k_ ≠ gr) (fun _ => False) ?x4 ?x5 ?aP ?x6 ?aF ?aO (Below.refl _ _) ?aS ?aL ?_; (case x1 => exact rfl); (case x2 => exact Nat.succ_pos 2); (case x3 => exact Nat.succ_pos 31); (case x4 => exact rfl); (case x5 => exact rfl); (case x6 => exact (fun _ hk => hk.elim)); (case aP => exact rfl); (case aF => exact (fun k_ hk => ⟨fun e_ => by subst e_; exact absurd (blk_lt HS5.out) (Nat.not_lt.2 hk), fun e_ => by subst e_; exact absurd (blk_lt HR5.out) (Nat.not_lt.2 hk)⟩)); (case aO => exact HL5.out); (case aS => exact ug_size (w := w) (g := some g) HG5.out); (case aL => have := HN.out; omega); intro v1 wp ho hb hg hat; have HSp := Aside0.mk (bk_own (v := .slice Al l.length cl) HS5.out hg (fun e_ => (HL5.out.1 _ e_).1 rfl)); have HRp := Aside0.mk (bk_own (v := .slice Al l.length cl) HR5.out hg (fun e_ => (HL5.out.1 _ e_).2 rfl)); have HGp := Aside0.mk (ug_own (w := w) (g := some g) (v := .slice Al l.length cl) HG5.out hg (Kd.R_base HL5.out)); have HLp := Aside0.mk ho; clear hg hat hb ho)))
          go_roundg k1
          case measure => have := HK1.out; omega
          case rel => exact ⟨z, bz, l ++ [(a, b, A, n, c)], ⟨by rw [List.length_append]; exact H'.out⟩, ⟨by have := HK1.out; omega⟩, ⟨(by (with_reducible repeat (first | apply Kd.R_alloc | apply Kd.R_drewN | apply Kd.R_drew)); exact HLp.out)⟩, ⟨(by (with_reducible repeat (first | refine blk_drewN ?_ _ | refine blk_drew ?_)); exact HSp.out)⟩, ⟨(by (with_reducible repeat (first | refine blk_drewN ?_ _ | refine blk_drew ?_)); exact HRp.out)⟩, ⟨(by (with_reducible repeat (first | exact HGp.out | refine ug_drewN ?_ _)))⟩⟩
        · rw [if_neg c1] at H
          have c1b : decide (y < (s.size : Int)) = false := decide_eq_false c1
          clear c1
          have NE2 := NE.symm
          have xz0 := ex_c0 HR.out
          have xz1 := ex_c1 HR.out
          have xz2 := ex_c2 HR.out
          have yz0 := blk_frozen HR.out 0
          have yz1 := blk_frozen HR.out 1
          have yz2 := blk_frozen HR.out 2
          by_cases hl : l.length = 0
          · rw [if_pos hl] at H
            obtain rfl := Option.some.inj H
            have l1 : ((l.length : Int) == 0) = true := beq_iff_eq.mpr (by omega)
            clear H hl
            go_wp2_with (fail)
            repeat (go_quiet (fail); try go_wp2_with (fail))
            (try simp only [Exit.inBlock, Exit.then])
            refine bodyPost_ret (results_cell_row rfl _ _ gr 35 #[.int .u8 45, .int .u8 0, .slice none 0 0] (0, 0) _ rfl (ex_put (bk_far (b := g) (j := 2) (v := .bool true) (by (with_reducible repeat (first | refine blk_drewN ?_ _ | refine blk_drew ?_)); exact HR.out) NE.symm) 45 0 none 0 0) Try.underlying35 rfl (by kernel_rfl)) rfl ?_
            exact ⟨⟨⟨_, _, _, _, _, rfl⟩, bk_far3 (st_set2 (by (with_reducible repeat (first | refine blk_drewN ?_ _ | refine blk_drew ?_)); exact HS.out) true) NE⟩, ug_far3 (ug_set (by (with_reducible repeat (first | exact HG.out | refine ug_drewN ?_ _)))) GE.out⟩
          · rw [if_neg hl] at H
            obtain rfl := Option.some.inj H
            have l1 : ((l.length : Int) == 0) = false := beq_eq_false_iff_ne.mpr (by omega)
            obtain ⟨gl, a, b, A, n, c, rfl, el0, el1, el2⟩ := rowE_head HL.out (Nat.pos_of_ne_zero hl)
            by_cases h1 : l.length = 1
            · have l2 : ((l.length : Int) == 1) = true := beq_iff_eq.mpr (by omega)
              have l3 : decide ((0 : Int) < (l.length : Int)) = true := decide_eq_true (by omega)
              have l4 : decide (0 < l.length) = true := decide_eq_true (by omega)
              have l5 := eq_true (show 0 < l.length by omega)
              have l6 := eq_true (show (0 : Int) < (l.length : Int) by omega)
              clear H hl h1
              go_wp2_with (fail)
              repeat (go_quiet (fail); try go_wp2_with (fail))
              (try simp only [Exit.inBlock, Exit.then])
              refine bodyPost_ret (results_cell_row rfl _ _ gr 35 #[.int .u8 a, .int .u8 b, .slice A n c] (0, 0) _ rfl (ex_put (by (with_reducible repeat (first | refine blk_drewN ?_ _ | refine blk_drew ?_)); exact HR.out) a b A n c) Try.underlying35 rfl (by kernel_rfl)) rfl ?_
              exact ⟨⟨⟨_, _, _, _, _, rfl⟩, bk_far3 (by (with_reducible repeat (first | refine blk_drewN ?_ _ | refine blk_drew ?_)); exact HS.out) NE⟩, ug_far3 (by (with_reducible repeat (first | exact HG.out | refine ug_drewN ?_ _))) GE.out⟩
            · have l2 : ((l.length : Int) == 1) = false := beq_eq_false_iff_ne.mpr (by omega)
              clear H hl h1
              go_wp2_with (fail)
              repeat (go_quiet (fail); try go_wp2_with (fail))
              (try simp only [Exit.inBlock, Exit.then])
              refine bodyPost_ret (results_cell_row rfl _ _ gr 35 #[.int .u8 38, .int .u8 0, .slice (some ⟨gl, 0, none⟩) l.length cl] (0, 0) _ rfl (ex_put (by (with_reducible repeat (first | refine blk_drewN ?_ _ | refine blk_drew ?_)); exact HR.out) 38 0 (some ⟨gl, 0, none⟩) l.length cl) Try.underlying35 rfl (by kernel_rfl)) rfl ?_
              exact ⟨⟨⟨_, _, _, _, _, rfl⟩, bk_far3 (by (with_reducible repeat (first | refine blk_drewN ?_ _ | refine blk_drew ?_)); exact HS.out) NE⟩, ug_far3 (by (with_reducible repeat (first | exact HG.out | refine ug_drewN ?_ _))) GE.out⟩
theorem bk_none {w w1 : World} {b : Nat} {u : Obj} (h : w.heap[b]? = some u) (k : w.grownBy w1 none) : w1.heap[b]? = some u := (k.block b (blk_lt h) (fun e => by cases e)).trans h
theorem ug_none {w w1 w2 : World} {g : Option Nat} (h : w.grownBy w1 g) (k : w1.grownBy w2 none) : w.grownBy w2 g :=
  ⟨k.os.trans h.os, k.tape.trans h.tape, k.output.trans h.output, Nat.le_trans h.size k.size, fun i hi hne => (k.block i (Nat.lt_of_lt_of_le hi h.size) (fun e => by cases e)).trans (h.block i hi hne)⟩
set_option maxHeartbeats 4000000 in
set_option maxRecDepth 100000 in
theorem either_walk (k : Nat) (ih : ∀ j, j < k → RowT j) : EithS k := by
  intro s x d r g w hd0 hd1 hb h
  have HS0 := Aside0.mk hb
  have HD := Aside0.mk (And.intro hd0 hd1)
  have HD2 := Aside0.mk (show 0 ≤ d + 1 ∧ d + 1 ≤ 21 by omega)
  have hw : wrap64 (d + 1) = d + 1 := by unfold wrap64; omega
  have hw2 : wrap64 d = d := by unfold wrap64; omega
  cases k with
  | zero => exact absurd h (by simp [sEither])
  | succ k =>
    rw [sEither] at h
    have HIH := Aside0.mk ih
    have ihk := ih k (Nat.lt_succ_self k)
    unfold RowT at ihk
    have IH := Aside0.mk ihk
    obtain ⟨⟨z, bz⟩, he, h⟩ := Option.bind_eq_some_iff.mp h
    dsimp only at h
    have HH := Aside0.mk h
    clear hb hd0 hd1 h ih ihk
    by_cases c20 : 20 < d + 1
    · have HE := Aside0.mk (show sRow k s x true (d + 1) 0 = some (z, bz) by have h_ := he; rw [decide_eq_true c20] at h_; exact h_)
      have c21 : decide (20 < d + 1) = true := decide_eq_true c20
      clear he c20
      go_enter Try.func29, Try.ntmps29
      go_wp2_with (first | ((with_reducible refine gate_dst (N := 2) rfl ?_); refine box_event ?hg (N := 2) ?hd (cs := #[.int .u8 0, .int .u8 0, .slice none 0 0]) (t := 35) ?hr ?_; (case hd => rfl); (case hg => rfl); (case hr => first | (go_simp; done) | (go_simp; rfl)); intro gr hgx wb hbox hb; have NE := (show g ≠ gr by rw [hgx]; exact Nat.ne_of_lt (blk_lt HS0.out)); have GE := Aside0.mk (show w.heap.size ≤ gr by rw [hgx]; exact Nat.le_refl _); have HS1 := Aside0.mk (show StB wb g s x false d from bk_below HS0.out hb); have HR1 := Aside0.mk (show ExB wb gr 0 0 none 0 0 from hbox); have HG1 := Aside0.mk (show w.grownBy wb (some g) from ug_below (ug_refl _ _) hb); have sa0 := st_c0 HS1.out; have sa1 := st_c1 HS1.out; have sa2 := st_c2 HS1.out; have sa3 := st_c3 HS1.out; have ta0 := blk_frozen HS1.out 0; have ta1 := blk_frozen HS1.out 1; have ta2 := blk_frozen HS1.out 2; have ta3 := blk_frozen HS1.out 3; clear hbox hgx hb) | (go_at_call 42; (with_reducible refine (IH.out s x true (d + 1) (z, bz) g _ HD2.out.1 HD2.out.2 (st_set2 (st_set3 (by (with_reducible repeat (first | refine blk_drewN ?_ _ | refine blk_drew ?_)); exact HS1.out) _) _) HE.out).mono ?_); rintro e w3 ⟨⟨⟨a, b, A, n, c, rfl⟩, hst⟩, hg⟩; have HS5 := Aside0.mk (show StB w3 g s z bz (d + 1) from hst); have HR5 := Aside0.mk (show ExB w3 gr 0 0 none 0 0 from bk_grown (bk_far (bk_far (by (with_reducible repeat (first | refine blk_drewN ?_ _ | refine blk_drew ?_)); exact HR1.out) NE.symm) NE.symm) hg NE); have HG5 := Aside0.mk (show w.grownBy w3 (some g) from ug_trans (ug_set (ug_set (by (with_reducible repeat (first | exact HG1.out | refine ug_drewN ?_ _))))) hg); clear hst hg) | ((with_reducible refine gate_dst (N := 21) rfl ?_); refine Kd.R_lit kE (w0 := _) w.heap.size 35 ?hg (N := 21) ?hd (xs := [(a, b, A, n, c)]) (inner := [.int .u8 a, .int .u8 b, .slice A n c]) (ok := fun k_ => k_ ≠ g ∧ k_ ≠ gr) (okp := fun _ => False) ?hr ?hp (fun _ hk => hk.elim) ?hf (Below.refl _ _) ?hbs ?hm ?_; (case hd => rfl); (case hg => rfl); (case hr => first | (go_simp; done) | (go_simp; rfl)); (case hp => exact Reps.snoc (R := kE.M _ _ _) (Reps.none _ _) rfl rfl); (case hf => exact ⟨fun e_ => Nat.lt_irrefl _ (e_ ▸ blk_lt HS5.out), fun e_ => Nat.lt_irrefl _ (e_ ▸ blk_lt HR5.out)⟩); (case hbs => exact ug_size (w := w) (g := some g) HG5.out); (case hm => exact Nat.le_of_ble_eq_true rfl); intro v1 w4 ho hb hg4 hat; have HS6 := Aside0.mk (show StB w4 g s z bz (d + 1) from bk_none HS5.out hg4); have HR6 := Aside0.mk (show ExB w4 gr 0 0 none 0 0 from bk_none HR5.out hg4); have HG6 := Aside0.mk (show w.grownBy w4 (some g) from ug_none HG5.out hg4); have HL6 := Aside0.mk (show RowE w4 w.heap.size g gr v1 [(a, b, A, n, c)] from ho); clear ho hb hg4 hat))
      try simp only [Act.put, List.setIfInBounds_toArray, List.set_cons_zero, List.set_cons_succ]
      go_loopg [3] k (fun kq v3 w' => ∃ (y : Int) (bd : Bool) (l : List (Int × Int × Option Addr × Nat × Nat)), Aside0 (sEl kq s y bd (d + 1) l.length = some r) ∧ Aside0 (kq ≤ k) ∧ Aside0 (0 < l.length) ∧ Aside0 (RowE w' w.heap.size g gr v3 l) ∧ Aside0 (StB w' g s y bd (d + 1)) ∧ Aside0 (ExB w' gr 0 0 none 0 0) ∧ Aside0 (w.grownBy w' (some g)))
      case atStart => exact ⟨z, bz, [(a, b, A, n, c)], HH, ⟨Nat.le_refl _⟩, ⟨Nat.one_pos⟩, HL6, HS6, HR6, HG6⟩
      case round =>
        clear HH HS0 HS1 HR1 HG1 HS5 HR5 HG5 HS6 HR6 HG6 HL6 IH HE c21
        obtain ⟨y, bd, l, HA, HK1, HP, HL, HS, HR, HG⟩ := hrel
        obtain ⟨Al, cl, el⟩ := Kd.R_slice HL.out
        subst el
        have sf0 := st_c0 HS.out
        have sf1 := st_c1 HS.out
        have sf2 := st_c2 HS.out
        have sf3 := st_c3 HS.out
        have tf0 := blk_frozen HS.out 0
        have tf1 := blk_frozen HS.out 1
        have tf2 := blk_frozen HS.out 2
        have tf3 := blk_frozen HS.out 3
        cases gk with
        | zero => exact absurd HA.out (by simp [sEl])
        | succ k1 =>
          have H := HA.out
          clear HA
          rw [sEl] at H
          by_cases hy : y < 0 ∨ 1099511627776 < y ∨ 1099511627776 < l.length
          · rw [if_pos hy] at H; cases H
          rw [if_neg hy] at H
          have HY := Aside0.mk (show 0 ≤ y ∧ y ≤ 1099511627776 by omega)
          have HN := Aside0.mk (show l.length ≤ 1099511627776 by omega)
          have hwy : wrap64 (y + 1) = y + 1 := by have := HY.out; unfold wrap64; omega
          clear hy
          cases bd with
          | true =>
            rw [if_pos rfl] at H
            have NE2 := NE.symm
            have xz0 := ex_c0 HR.out
            have xz1 := ex_c1 HR.out
            have xz2 := ex_c2 HR.out
            have yz0 := blk_frozen HR.out 0
            have yz1 := blk_frozen HR.out 1
            have yz2 := blk_frozen HR.out 2
            obtain rfl := Option.some.inj H
            obtain ⟨gl, a, b, A, n, c, rfl, el0, el1, el2⟩ := rowE_head HL.out HP.out
            have NG : gl ≠ g := (HL.out.1 gl rfl).1
            have NG2 := NG.symm
            by_cases h1 : l.length = 1
            · have l2 : ((l.length : Int) == 1) = true := beq_iff_eq.mpr (by omega)
              have l3 : decide ((0 : Int) < (l.length : Int)) = true := decide_eq_true (by omega)
              have l4 : decide (0 < l.length) = true := decide_eq_true (by omega)
              have l5 := eq_true (show 0 < l.length by omega)
              have l6 := eq_true (show (0 : Int) < (l.length : Int) by omega)
              clear H h1
              go_wp2_with (fail)
              (try simp only [Exit.inBlock, Exit.then])
              refine bodyPost_ret (results_cell_row rfl _ _ gr 35 #[.int .u8 a, .int .u8 b, .slice A n c] (0, 0) _ rfl (ex_put (bk_far (b := g) (j := 3) (v := .int .i64 d) (by (with_reducible repeat (first | refine blk_drewN ?_ _ | refine blk_drew ?_)); exact HR.out) NE.symm) a b A n c) Try.underlying35 rfl (by kernel_rfl)) rfl ?_
              exact ⟨⟨⟨_, _, _, _, _, rfl⟩, bk_far3 (st_set3 (by (with_reducible repeat (first | refine blk_drewN ?_ _ | refine blk_drew ?_)); exact HS.out) d) NE⟩, ug_far3 (ug_set (by (with_reducible repeat (first | exact HG.out | refine ug_drewN ?_ _)))) GE.out⟩
            · have l2 : ((l.length : Int) == 1) = false := beq_eq_false_iff_ne.mpr (by omega)
              clear H h1
              go_wp2_with (fail)
              (try simp only [Exit.inBlock, Exit.then])
              refine bodyPost_ret (results_cell_row rfl _ _ gr 35 #[.int .u8 124, .int .u8 0, .slice (some ⟨gl, 0, none⟩) l.length cl] (0, 0) _ rfl (ex_put (bk_far (b := g) (j := 3) (v := .int .i64 d) (by (with_reducible repeat (first | refine blk_drewN ?_ _ | refine blk_drew ?_)); exact HR.out) NE.symm) 124 0 (some ⟨gl, 0, none⟩) l.length cl) Try.underlying35 rfl (by kernel_rfl)) rfl ?_
              exact ⟨⟨⟨_, _, _, _, _, rfl⟩, bk_far3 (st_set3 (by (with_reducible repeat (first | refine blk_drewN ?_ _ | refine blk_drew ?_)); exact HS.out) d) NE⟩, ug_far3 (ug_set (by (with_reducible repeat (first | exact HG.out | refine ug_drewN ?_ _)))) GE.out⟩
          | false =>
            rw [if_neg (by decide)] at H
            by_cases c2 : nxS s y = 124
            · rw [if_pos c2] at H
              have e124 : (nxS s y == 124) = true := beq_iff_eq.mpr c2
              have e124n : (nxS s y != 124) = false := by rw [bne, e124]; rfl
              clear c2
              obtain ⟨⟨z2, bz2⟩, ho, H⟩ := Option.bind_eq_some_iff.mp H
              dsimp only at H
              have HO := Aside0.mk ho
              have H' := Aside0.mk H
              have ihk := HIH.out k1 (Nat.lt_of_lt_of_le (Nat.lt_succ_self k1) (Nat.le_trans HK1.out (Nat.le_succ k)))
              unfold RowT at ihk
              have IH2 := Aside0.mk ihk
              clear ho H ihk
              go_wp2_with (first | (go_at_call 43; (with_reducible refine (next_e g s y false (d + 1) _ (by (with_reducible repeat (first | refine blk_drewN ?_ _ | refine blk_drew ?_)); exact HS.out) HY.out.1).mono ?_); rintro e w' ⟨rfl, ⟨nd, rfl⟩⟩) | (go_at_call 42; (with_reducible refine (IH2.out s (y + 1) false (d + 1) (z2, bz2) g _ HD2.out.1 HD2.out.2 (st_set1 (by (with_reducible repeat (first | refine blk_drewN ?_ _ | refine blk_drew ?_)); exact HS.out) _) HO.out).mono ?_); rintro e w7 ⟨⟨⟨a, b, A, n, c, rfl⟩, hst⟩, hg⟩; have HS7 := Aside0.mk (show StB w7 g s z2 bz2 (d + 1) from hst); have HR7 := Aside0.mk (show ExB w7 gr 0 0 none 0 0 from bk_grown (bk_far (b := g) (j := 1) (v := .int .i64 (y + 1)) (by (with_reducible repeat (first | refine blk_drewN ?_ _ | refine blk_drew ?_)); exact HR.out) NE.symm) hg NE); have HL7 := Aside0.mk (show RowE w7 w.heap.size g gr (.slice Al l.length cl) l from Kd.R_grown (ok := fun k_ => k_ ≠ g ∧ k_ ≠ gr) (Kd.R_far (p := ⟨g, 1, none⟩) (by (with_reducible repeat (first | apply Kd.R_alloc | apply Kd.R_drewN | apply Kd.R_drew)); exact HL.out) (fun k_ h_ => h_.1) (.int .i64 (y + 1))) hg (fun k_ h_ e_ => h_.1 (Option.some.inj e_))); have HG7 := Aside0.mk (show w.grownBy w7 (some g) from ug_trans (ug_set (by (with_reducible repeat (first | exact HG.out | refine ug_drewN ?_ _)))) hg); clear hst hg) | (at_builtin; refine Kd.R_append kE (w0 := _) w.heap.size rfl (.tmp 39) (.tmp 42) 33 35 (.agg #[.int .u8 0, .int .u8 0, .slice none 0 0]) 32 rfl Try.underlying33 exE_info ?x1 ?x2 ?x3 (.slice Al l.length cl) l (a, b, A, n, c) [.int .u8 a, .int .u8 b, .slice A n c] (fun k_ => k_ ≠ g ∧ k_ ≠ gr) (fun _ => False) ?x4 ?x5 ?aP ?x6 ?aF ?aO (Below.refl _ _) ?aS ?aL ?_; (case x1 => exact rfl); (case x2 => exact Nat.succ_pos 2); (case x3 => exact Nat.succ_pos 31); (case x4 => exact rfl); (case x5 => exact rfl); (case x6 => exact (fun _ hk => hk.elim)); (case aP => exact rfl); (case aF => exact (fun k_ hk => ⟨fun e_ => by subst e_; exact absurd (blk_lt HS7.out) (Nat.not_lt.2 hk), fun e_ => by subst e_; exact absurd (blk_lt HR7.out) (Nat.not_lt.2 hk)⟩)); (case aO => exact HL7.out); (case aS => exact ug_size (w := w) (g := some g) HG7.out); (case aL => have := HN.out; omega); intro v1 wp ho hb hg hat; have HSp := Aside0.mk (bk_own (v := .slice Al l.length cl) HS7.out hg (fun e_ => (HL7.out.1 _ e_).1 rfl)); have HRp := Aside0.mk (bk_own (v := .slice Al l.length cl) HR7.out hg (fun e_ => (HL7.out.1 _ e_).2 rfl)); have HGp := Aside0.mk (ug_own (w := w) (g := some g) (v := .slice Al l.length cl) HG7.out hg (Kd.R_base HL7.out)); have HLp := Aside0.mk ho; clear hg hat hb ho))
              go_roundg k1
              case measure => have := HK1.out; omega
              case rel => exact ⟨z2, bz2, l ++ [(a, b, A, n, c)], ⟨by rw [List.length_append]; exact H'.out⟩, ⟨by have := HK1.out; omega⟩, ⟨by rw [List.length_append]; exact Nat.succ_pos _⟩, ⟨(by (with_reducible repeat (first | apply Kd.R_alloc | apply Kd.R_drewN | apply Kd.R_drew)); exact HLp.out)⟩, ⟨(by (with_reducible repeat (first | refine blk_drewN ?_ _ | refine blk_drew ?_)); exact HSp.out)⟩, ⟨(by (with_reducible repeat (first | refine blk_drewN ?_ _ | refine blk_drew ?_)); exact HRp.out)⟩, ⟨(by (with_reducible repeat (first | exact HGp.out | refine ug_drewN ?_ _)))⟩⟩
            · rw [if_neg c2] at H
              have e124 : (nxS s y == 124) = false := beq_eq_false_iff_ne.mpr c2
              have e124n : (nxS s y != 124) = true := by rw [bne, e124]; rfl
              clear c2
              have NE2 := NE.symm
              have xz0 := ex_c0 HR.out
              have xz1 := ex_c1 HR.out
              have xz2 := ex_c2 HR.out
              have yz0 := blk_frozen HR.out 0
              have yz1 := blk_frozen HR.out 1
              have yz2 := blk_frozen HR.out 2
              obtain rfl := Option.some.inj H
              obtain ⟨gl, a, b, A, n, c, rfl, el0, el1, el2⟩ := rowE_head HL.out HP.out
              have NG : gl ≠ g := (HL.out.1 gl rfl).1
              have NG2 := NG.symm
              by_cases h1 : l.length = 1
              · have l2 : ((l.length : Int) == 1) = true := beq_iff_eq.mpr (by omega)
                have l3 : decide ((0 : Int) < (l.length : Int)) = true := decide_eq_true (by omega)
                have l4 : decide (0 < l.length) = true := decide_eq_true (by omega)
                have l5 := eq_true (show 0 < l.length by omega)
                have l6 := eq_true (show (0 : Int) < (l.length : Int) by omega)
                clear H h1
                go_wp2_with (first | (go_at_call 43; (with_reducible refine (next_e g s y false (d + 1) _ (by (with_reducible repeat (first | refine blk_drewN ?_ _ | refine blk_drew ?_)); exact HS.out) HY.out.1).mono ?_); rintro e w' ⟨rfl, ⟨nd, rfl⟩⟩))
                (try simp only [Exit.inBlock, Exit.then])
                refine bodyPost_ret (results_cell_row rfl _ _ gr 35 #[.int .u8 a, .int .u8 b, .slice A n c] (0, 0) _ rfl (ex_put (bk_far (b := g) (j := 3) (v := .int .i64 d) (by (with_reducible repeat (first | refine blk_drewN ?_ _ | refine blk_drew ?_)); exact HR.out) NE.symm) a b A n c) Try.underlying35 rfl (by kernel_rfl)) rfl ?_
                exact ⟨⟨⟨_, _, _, _, _, rfl⟩, bk_far3 (st_set3 (by (with_reducible repeat (first | refine blk_drewN ?_ _ | refine blk_drew ?_)); exact HS.out) d) NE⟩, ug_far3 (ug_set (by (with_reducible repeat (first | exact HG.out | refine ug_drewN ?_ _)))) GE.out⟩
              · have l2 : ((l.length : Int) == 1) = false := beq_eq_false_iff_ne.mpr (by omega)
                clear H h1
                go_wp2_with (first | (go_at_call 43; (with_reducible refine (next_e g s y false (d + 1) _ (by (with_reducible repeat (first | refine blk_drewN ?_ _ | refine blk_drew ?_)); exact HS.out) HY.out.1).mono ?_); rintro e w' ⟨rfl, ⟨nd, rfl⟩⟩))
                (try simp only [Exit.inBlock, Exit.then])
                refine bodyPost_ret (results_cell_row rfl _ _ gr 35 #[.int .u8 124, .int .u8 0, .slice (some ⟨gl, 0, none⟩) l.length cl] (0, 0) _ rfl (ex_put (bk_far (b := g) (j := 3) (v := .int .i64 d) (by (with_reducible repeat (first | refine blk_drewN ?_ _ | refine blk_drew ?_)); exact HR.out) NE.symm) 124 0 (some ⟨gl, 0, none⟩) l.length cl) Try.underlying35 rfl (by kernel_rfl)) rfl ?_
                exact ⟨⟨⟨_, _, _, _, _, rfl⟩, bk_far3 (st_set3 (by (with_reducible repeat (first | refine blk_drewN ?_ _ | refine blk_drew ?_)); exact HS.out) d) NE⟩, ug_far3 (ug_set (by (with_reducible repeat (first | exact HG.out | refine ug_drewN ?_ _)))) GE.out⟩
    · have HE := Aside0.mk (show sRow k s x false (d + 1) 0 = some (z, bz) by have h_ := he; rw [decide_eq_false c20] at h_; exact h_)
      have c21 : decide (20 < d + 1) = false := decide_eq_false c20
      clear he c20
      go_enter Try.func29, Try.ntmps29
      go_wp2_with (first | ((with_reducible refine gate_dst (N := 2) rfl ?_); refine box_event ?hg (N := 2) ?hd (cs := #[.int .u8 0, .int .u8 0, .slice none 0 0]) (t := 35) ?hr ?_; (case hd => rfl); (case hg => rfl); (case hr => first | (go_simp; done) | (go_simp; rfl)); intro gr hgx wb hbox hb; have NE := (show g ≠ gr by rw [hgx]; exact Nat.ne_of_lt (blk_lt HS0.out)); have GE := Aside0.mk (show w.heap.size ≤ gr by rw [hgx]; exact Nat.le_refl _); have HS1 := Aside0.mk (show StB wb g s x false d from bk_below HS0.out hb); have HR1 := Aside0.mk (show ExB wb gr 0 0 none 0 0 from hbox); have HG1 := Aside0.mk (show w.grownBy wb (some g) from ug_below (ug_refl _ _) hb); have sa0 := st_c0 HS1.out; have sa1 := st_c1 HS1.out; have sa2 := st_c2 HS1.out; have sa3 := st_c3 HS1.out; have ta0 := blk_frozen HS1.out 0; have ta1 := blk_frozen HS1.out 1; have ta2 := blk_frozen HS1.out 2; have ta3 := blk_frozen HS1.out 3; clear hbox hgx hb) | (go_at_call 42; (with_reducible refine (IH.out s x false (d + 1) (z, bz) g _ HD2.out.1 HD2.out.2 (st_set3 (by (with_reducible repeat (first | refine blk_drewN ?_ _ | refine blk_drew ?_)); exact HS1.out) _) HE.out).mono ?_); rintro e w3 ⟨⟨⟨a, b, A, n, c, rfl⟩, hst⟩, hg⟩; have HS5 := Aside0.mk (show StB w3 g s z bz (d + 1) from hst); have HR5 := Aside0.mk (show ExB w3 gr 0 0 none 0 0 from bk_grown (bk_far (by (with_reducible repeat (first | refine blk_drewN ?_ _ | refine blk_drew ?_)); exact HR1.out) NE.symm) hg NE); have HG5 := Aside0.mk (show w.grownBy w3 (some g) from ug_trans (ug_set (by (with_reducible repeat (first | exact HG1.out | refine ug_drewN ?_ _)))) hg); clear hst hg) | ((with_reducible refine gate_dst (N := 21) rfl ?_); refine Kd.R_lit kE (w0 := _) w.heap.size 35 ?hg (N := 21) ?hd (xs := [(a, b, A, n, c)]) (inner := [.int .u8 a, .int .u8 b, .slice A n c]) (ok := fun k_ => k_ ≠ g ∧ k_ ≠ gr) (okp := fun _ => False) ?hr ?hp (fun _ hk => hk.elim) ?hf (Below.refl _ _) ?hbs ?hm ?_; (case hd => rfl); (case hg => rfl); (case hr => first | (go_simp; done) | (go_simp; rfl)); (case hp => exact Reps.snoc (R := kE.M _ _ _) (Reps.none _ _) rfl rfl); (case hf => exact ⟨fun e_ => Nat.lt_irrefl _ (e_ ▸ blk_lt HS5.out), fun e_ => Nat.lt_irrefl _ (e_ ▸ blk_lt HR5.out)⟩); (case hbs => exact ug_size (w := w) (g := some g) HG5.out); (case hm => exact Nat.le_of_ble_eq_true rfl); intro v1 w4 ho hb hg4 hat; have HS6 := Aside0.mk (show StB w4 g s z bz (d + 1) from bk_none HS5.out hg4); have HR6 := Aside0.mk (show ExB w4 gr 0 0 none 0 0 from bk_none HR5.out hg4); have HG6 := Aside0.mk (show w.grownBy w4 (some g) from ug_none HG5.out hg4); have HL6 := Aside0.mk (show RowE w4 w.heap.size g gr v1 [(a, b, A, n, c)] from ho); clear ho hb hg4 hat))
      try simp only [Act.put, List.setIfInBounds_toArray, List.set_cons_zero, List.set_cons_succ]
      go_loopg [3] k (fun kq v3 w' => ∃ (y : Int) (bd : Bool) (l : List (Int × Int × Option Addr × Nat × Nat)), Aside0 (sEl kq s y bd (d + 1) l.length = some r) ∧ Aside0 (kq ≤ k) ∧ Aside0 (0 < l.length) ∧ Aside0 (RowE w' w.heap.size g gr v3 l) ∧ Aside0 (StB w' g s y bd (d + 1)) ∧ Aside0 (ExB w' gr 0 0 none 0 0) ∧ Aside0 (w.grownBy w' (some g)))
      case atStart => exact ⟨z, bz, [(a, b, A, n, c)], HH, ⟨Nat.le_refl _⟩, ⟨Nat.one_pos⟩, HL6, HS6, HR6, HG6⟩
      case round =>
        clear HH HS0 HS1 HR1 HG1 HS5 HR5 HG5 HS6 HR6 HG6 HL6 IH HE c21
        obtain ⟨y, bd, l, HA, HK1, HP, HL, HS, HR, HG⟩ := hrel
        obtain ⟨Al, cl, el⟩ := Kd.R_slice HL.out
        subst el
        have sf0 := st_c0 HS.out
        have sf1 := st_c1 HS.out
        have sf2 := st_c2 HS.out
        have sf3 := st_c3 HS.out
        have tf0 := blk_frozen HS.out 0
        have tf1 := blk_frozen HS.out 1
        have tf2 := blk_frozen HS.out 2
        have tf3 := blk_frozen HS.out 3
        cases gk with
        | zero => exact absurd HA.out (by simp [sEl])
        | succ k1 =>
          have H := HA.out
          clear HA
          rw [sEl] at H
          by_cases hy : y < 0 ∨ 1099511627776 < y ∨ 1099511627776 < l.length
          · rw [if_pos hy] at H; cases H
          rw [if_neg hy] at H
          have HY := Aside0.mk (show 0 ≤ y ∧ y ≤ 1099511627776 by omega)
          have HN := Aside0.mk (show l.length ≤ 1099511627776 by omega)
          have hwy : wrap64 (y + 1) = y + 1 := by have := HY.out; unfold wrap64; omega
          clear hy
          cases bd with
          | true =>
            rw [if_pos rfl] at H
            have NE2 := NE.symm
            have xz0 := ex_c0 HR.out
            have xz1 := ex_c1 HR.out
            have xz2 := ex_c2 HR.out
            have yz0 := blk_frozen HR.out 0
            have yz1 := blk_frozen HR.out 1
            have yz2 := blk_frozen HR.out 2
            obtain rfl := Option.some.inj H
            obtain ⟨gl, a, b, A, n, c, rfl, el0, el1, el2⟩ := rowE_head HL.out HP.out
            have NG : gl ≠ g := (HL.out.1 gl rfl).1
            have NG2 := NG.symm
            by_cases h1 : l.length = 1
            · have l2 : ((l.length : Int) == 1) = true := beq_iff_eq.mpr (by omega)
              have l3 : decide ((0 : Int) < (l.length : Int)) = true := decide_eq_true (by omega)
              have l4 : decide (0 < l.length) = true := decide_eq_true (by omega)
              have l5 := eq_true (show 0 < l.length by omega)
              have l6 := eq_true (show (0 : Int) < (l.length : Int) by omega)
              clear H h1
              go_wp2_with (fail)
              (try simp only [Exit.inBlock, Exit.then])
              refine bodyPost_ret (results_cell_row rfl _ _ gr 35 #[.int .u8 a, .int .u8 b, .slice A n c] (0, 0) _ rfl (ex_put (bk_far (b := g) (j := 3) (v := .int .i64 d) (by (with_reducible repeat (first | refine blk_drewN ?_ _ | refine blk_drew ?_)); exact HR.out) NE.symm) a b A n c) Try.underlying35 rfl (by kernel_rfl)) rfl ?_
              exact ⟨⟨⟨_, _, _, _, _, rfl⟩, bk_far3 (st_set3 (by (with_reducible repeat (first | refine blk_drewN ?_ _ | refine blk_drew ?_)); exact HS.out) d) NE⟩, ug_far3 (ug_set (by (with_reducible repeat (first | exact HG.out | refine ug_drewN ?_ _)))) GE.out⟩
            · have l2 : ((l.length : Int) == 1) = false := beq_eq_false_iff_ne.mpr (by omega)
              clear H h1
              go_wp2_with (fail)
              (try simp only [Exit.inBlock, Exit.then])
              refine bodyPost_ret (results_cell_row rfl _ _ gr 35 #[.int .u8 124, .int .u8 0, .slice (some ⟨gl, 0, none⟩) l.length cl] (0, 0) _ rfl (ex_put (bk_far (b := g) (j := 3) (v := .int .i64 d) (by (with_reducible repeat (first | refine blk_drewN ?_ _ | refine blk_drew ?_)); exact HR.out) NE.symm) 124 0 (some ⟨gl, 0, none⟩) l.length cl) Try.underlying35 rfl (by kernel_rfl)) rfl ?_
              exact ⟨⟨⟨_, _, _, _, _, rfl⟩, bk_far3 (st_set3 (by (with_reducible repeat (first | refine blk_drewN ?_ _ | refine blk_drew ?_)); exact HS.out) d) NE⟩, ug_far3 (ug_set (by (with_reducible repeat (first | exact HG.out | refine ug_drewN ?_ _)))) GE.out⟩
          | false =>
            rw [if_neg (by decide)] at H
            by_cases c2 : nxS s y = 124
            · rw [if_pos c2] at H
              have e124 : (nxS s y == 124) = true := beq_iff_eq.mpr c2
              have e124n : (nxS s y != 124) = false := by rw [bne, e124]; rfl
              clear c2
              obtain ⟨⟨z2, bz2⟩, ho, H⟩ := Option.bind_eq_some_iff.mp H
              dsimp only at H
              have HO := Aside0.mk ho
              have H' := Aside0.mk H
              have ihk := HIH.out k1 (Nat.lt_of_lt_of_le (Nat.lt_succ_self k1) (Nat.le_trans HK1.out (Nat.le_succ k)))
              unfold RowT at ihk
              have IH2 := Aside0.mk ihk
              clear ho H ihk
              go_wp2_with (first | (go_at_call 43; (with_reducible refine (next_e g s y false (d + 1) _ (by (with_reducible repeat (first | refine blk_drewN ?_ _ | refine blk_drew ?_)); exact HS.out) HY.out.1).mono ?_); rintro e w' ⟨rfl, ⟨nd, rfl⟩⟩) | (go_at_call 42; (with_reducible refine (IH2.out s (y + 1) false (d + 1) (z2, bz2) g _ HD2.out.1 HD2.out.2 (st_set1 (by (with_reducible repeat (first | refine blk_drewN ?_ _ | refine blk_drew ?_)); exact HS.out) _) HO.out).mono ?_); rintro e w7 ⟨⟨⟨a, b, A, n, c, rfl⟩, hst⟩, hg⟩; have HS7 := Aside0.mk (show StB w7 g s z2 bz2 (d + 1) from hst); have HR7 := Aside0.mk (show ExB w7 gr 0 0 none 0 0 from bk_grown (bk_far (b := g) (j := 1) (v := .int .i64 (y + 1)) (by (with_reducible repeat (first | refine blk_drewN ?_ _ | refine blk_drew ?_)); exact HR.out) NE.symm) hg NE); have HL7 := Aside0.mk (show RowE w7 w.heap.size g gr (.slice Al l.length cl) l from Kd.R_grown (ok := fun k_ => k_ ≠ g ∧ k_ ≠ gr) (Kd.R_far (p := ⟨g, 1, none⟩) (by (with_reducible repeat (first | apply Kd.R_alloc | apply Kd.R_drewN | apply Kd.R_drew)); exact HL.out) (fun k_ h_ => h_.1) (.int .i64 (y + 1))) hg (fun k_ h_ e_ => h_.1 (Option.some.inj e_))); have HG7 := Aside0.mk (show w.grownBy w7 (some g) from ug_trans (ug_set (by (with_reducible repeat (first | exact HG.out | refine ug_drewN ?_ _)))) hg); clear hst hg) | (at_builtin; refine Kd.R_append kE (w0 := _) w.heap.size rfl (.tmp 39) (.tmp 42) 33 35 (.agg #[.int .u8 0, .int .u8 0, .slice none 0 0]) 32 rfl Try.underlying33 exE_info ?x1 ?x2 ?x3 (.slice Al l.length cl) l (a, b, A, n, c) [.int .u8 a, .int .u8 b, .slice A n c] (fun k_ => k_ ≠ g ∧ k_ ≠ gr) (fun _ => False) ?x4 ?x5 ?aP ?x6 ?aF ?aO (Below.refl _ _) ?aS ?aL ?_; (case x1 => exact rfl); (case x2 => exact Nat.succ_pos 2); (case x3 => exact Nat.succ_pos 31); (case x4 => exact rfl); (case x5 => exact rfl); (case x6 => exact (fun _ hk => hk.elim)); (case aP => exact rfl); (case aF => exact (fun k_ hk => ⟨fun e_ => by subst e_; exact absurd (blk_lt HS7.out) (Nat.not_lt.2 hk), fun e_ => by subst e_; exact absurd (blk_lt HR7.out) (Nat.not_lt.2 hk)⟩)); (case aO => exact HL7.out); (case aS => exact ug_size (w := w) (g := some g) HG7.out); (case aL => have := HN.out; omega); intro v1 wp ho hb hg hat; have HSp := Aside0.mk (bk_own (v := .slice Al l.length cl) HS7.out hg (fun e_ => (HL7.out.1 _ e_).1 rfl)); have HRp := Aside0.mk (bk_own (v := .slice Al l.length cl) HR7.out hg (fun e_ => (HL7.out.1 _ e_).2 rfl)); have HGp := Aside0.mk (ug_own (w := w) (g := some g) (v := .slice Al l.length cl) HG7.out hg (Kd.R_base HL7.out)); have HLp := Aside0.mk ho; clear hg hat hb ho))
              go_roundg k1
              case measure => have := HK1.out; omega
              case rel => exact ⟨z2, bz2, l ++ [(a, b, A, n, c)], ⟨by rw [List.length_append]; exact H'.out⟩, ⟨by have := HK1.out; omega⟩, ⟨by rw [List.length_append]; exact Nat.succ_pos _⟩, ⟨(by (with_reducible repeat (first | apply Kd.R_alloc | apply Kd.R_drewN | apply Kd.R_drew)); exact HLp.out)⟩, ⟨(by (with_reducible repeat (first | refine blk_drewN ?_ _ | refine blk_drew ?_)); exact HSp.out)⟩, ⟨(by (with_reducible repeat (first | refine blk_drewN ?_ _ | refine blk_drew ?_)); exact HRp.out)⟩, ⟨(by (with_reducible repeat (first | exact HGp.out | refine ug_drewN ?_ _)))⟩⟩
            · rw [if_neg c2] at H
              have e124 : (nxS s y == 124) = false := beq_eq_false_iff_ne.mpr c2
              have e124n : (nxS s y != 124) = true := by rw [bne, e124]; rfl
              clear c2
              have NE2 := NE.symm
              have xz0 := ex_c0 HR.out
              have xz1 := ex_c1 HR.out
              have xz2 := ex_c2 HR.out
              have yz0 := blk_frozen HR.out 0
              have yz1 := blk_frozen HR.out 1
              have yz2 := blk_frozen HR.out 2
              obtain rfl := Option.some.inj H
              obtain ⟨gl, a, b, A, n, c, rfl, el0, el1, el2⟩ := rowE_head HL.out HP.out
              have NG : gl ≠ g := (HL.out.1 gl rfl).1
              have NG2 := NG.symm
              by_cases h1 : l.length = 1
              · have l2 : ((l.length : Int) == 1) = true := beq_iff_eq.mpr (by omega)
                have l3 : decide ((0 : Int) < (l.length : Int)) = true := decide_eq_true (by omega)
                have l4 : decide (0 < l.length) = true := decide_eq_true (by omega)
                have l5 := eq_true (show 0 < l.length by omega)
                have l6 := eq_true (show (0 : Int) < (l.length : Int) by omega)
                clear H h1
                go_wp2_with (first | (go_at_call 43; (with_reducible refine (next_e g s y false (d + 1) _ (by (with_reducible repeat (first | refine blk_drewN ?_ _ | refine blk_drew ?_)); exact HS.out) HY.out.1).mono ?_); rintro e w' ⟨rfl, ⟨nd, rfl⟩⟩))
                (try simp only [Exit.inBlock, Exit.then])
                refine bodyPost_ret (results_cell_row rfl _ _ gr 35 #[.int .u8 a, .int .u8 b, .slice A n c] (0, 0) _ rfl (ex_put (bk_far (b := g) (j := 3) (v := .int .i64 d) (by (with_reducible repeat (first | refine blk_drewN ?_ _ | refine blk_drew ?_)); exact HR.out) NE.symm) a b A n c) Try.underlying35 rfl (by kernel_rfl)) rfl ?_
                exact ⟨⟨⟨_, _, _, _, _, rfl⟩, bk_far3 (st_set3 (by (with_reducible repeat (first | refine blk_drewN ?_ _ | refine blk_drew ?_)); exact HS.out) d) NE⟩, ug_far3 (ug_set (by (with_reducible repeat (first | exact HG.out | refine ug_drewN ?_ _)))) GE.out⟩
              · have l2 : ((l.length : Int) == 1) = false := beq_eq_false_iff_ne.mpr (by omega)
                clear H h1
                go_wp2_with (first | (go_at_call 43; (with_reducible refine (next_e g s y false (d + 1) _ (by (with_reducible repeat (first | refine blk_drewN ?_ _ | refine blk_drew ?_)); exact HS.out) HY.out.1).mono ?_); rintro e w' ⟨rfl, ⟨nd, rfl⟩⟩))
                (try simp only [Exit.inBlock, Exit.then])
                refine bodyPost_ret (results_cell_row rfl _ _ gr 35 #[.int .u8 124, .int .u8 0, .slice (some ⟨gl, 0, none⟩) l.length cl] (0, 0) _ rfl (ex_put (bk_far (b := g) (j := 3) (v := .int .i64 d) (by (with_reducible repeat (first | refine blk_drewN ?_ _ | refine blk_drew ?_)); exact HR.out) NE.symm) 124 0 (some ⟨gl, 0, none⟩) l.length cl) Try.underlying35 rfl (by kernel_rfl)) rfl ?_
                exact ⟨⟨⟨_, _, _, _, _, rfl⟩, bk_far3 (st_set3 (by (with_reducible repeat (first | refine blk_drewN ?_ _ | refine blk_drew ?_)); exact HS.out) d) NE⟩, ug_far3 (ug_set (by (with_reducible repeat (first | exact HG.out | refine ug_drewN ?_ _)))) GE.out⟩
theorem reader_all (k : Nat) : OneS k ∧ RowT k ∧ EithS k := by
  induction k using Nat.strongRecOn with
  | ind k ih => exact ⟨one_walk k (fun j h => (ih j h).2.2), rowt_walk k (fun j h => (ih j h).1), either_walk k (fun j h => (ih j h).2.1)⟩
theorem sTail_mono : ∀ k s x b, LeO (sTail k s x b) (sTail (k + 1) s x b)
  | 0 => fun _ _ _ r h => by simp [sTail] at h
  | k + 1 => by
    intro s x b
    unfold sTail
    exact LeO.ite (LeO.refl _) (LeO.ite (LeO.refl _) (LeO.ite (sTail_mono k _ _ _) (LeO.ite (sTail_mono k _ _ _) (LeO.ite (sTail_mono k _ _ _) (LeO.refl _)))))
theorem reader_mono : ∀ k, (∀ s x d, LeO (sOne k s x d) (sOne (k + 1) s x d)) ∧ (∀ s x b d n, LeO (sRow k s x b d n) (sRow (k + 1) s x b d n)) ∧ (∀ s x b d n, LeO (sEl k s x b d n) (sEl (k + 1) s x b d n)) ∧ (∀ s x d, LeO (sEither k s x d) (sEither (k + 1) s x d))
  | 0 => ⟨fun _ _ _ r h => by simp [sOne] at h, fun _ _ _ _ _ r h => by simp [sRow] at h, fun _ _ _ _ _ r h => by simp [sEl] at h, fun _ _ _ r h => by simp [sEither] at h⟩
  | k + 1 => by
    obtain ⟨h1, h2, h3, h4⟩ := reader_mono k
    have tm := sTail_mono k
    refine ⟨fun s x d => ?_, fun s x b d n => ?_, fun s x b d n => ?_, fun s x d => ?_⟩
    · rw [sOne, sOne]
      refine LeO.ite (LeO.refl _) (LeO.bind (LeO.refl _) (fun t => LeO.ite (tm _ _ _) (LeO.ite (tm _ _ _) (LeO.ite (tm _ _ _) (LeO.ite (tm _ _ _) (LeO.ite (LeO.bind (h4 _ _ _) (fun r => LeO.ite (LeO.refl _) (LeO.ite (tm _ _ _) (tm _ _ _)))) (tm _ _ _)))))))
    · rw [sRow, sRow]
      exact LeO.ite (LeO.refl _) (LeO.ite (LeO.refl _) (LeO.ite (LeO.ite (LeO.refl _) (LeO.ite (LeO.refl _) (LeO.ite (LeO.refl _) (LeO.bind (h1 _ _ _) (fun _ => h2 _ _ _ _ _))))) (LeO.refl _)))
    · rw [sEl, sEl]
      exact LeO.ite (LeO.refl _) (LeO.ite (LeO.refl _) (LeO.ite (LeO.bind (h2 _ _ _ _ _) (fun _ => h3 _ _ _ _ _)) (LeO.refl _)))
    · rw [sEither, sEither]
      exact LeO.bind (h2 _ _ _ _ _) (fun _ => h3 _ _ _ _ _)

end Go.Proofs.Ytjiidokpmhabgaa.PFnExactGoodExpr
