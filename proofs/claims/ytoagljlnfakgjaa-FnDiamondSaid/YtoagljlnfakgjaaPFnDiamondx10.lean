/- (thin) Written by a program of this session (wip/ovl.py) over the kit's print. -/
import Derived.Test.YtoagljlnfakgjaaMk
import Derived.Test.YtoagljlnfakgjaaWFootNe
import Derived.Test.YtoagljlnfakgjaaWKept
import Derived.Test.YtoagljlnfakgjaaPFnDiamondx0
import Derived.Test.YtoagljlnfakgjaaPFnDiamondx2
import Derived.Test.YtoagljlnfakgjaaPFnDiamondx3
import Derived.Test.YtoagljlnfakgjaaPFnDiamondx6
import Derived.Test.YtoagljlnfakgjaaPFnDiamondx7
import Derived.Test.YtoagljlnfakgjaaPFnDiamondx9
namespace Go.Proofs.Ytoagljlnfakgjaa.PFnDiamond
open Go.RowKit Go.Proofs.YtoagljlnfakgjaaW.PrintWords Go.Proofs.YtoagljlnfakgjaaW.PrintLast Go.Proofs.YtoagljlnfakgjaaW.PrintMore
attribute [local go_sem] max2_int min2_int max_two min_two max_three min_three max_four min_four
set_option linter.unusedVariables false
set_option linter.unusedSimpArgs false
set_option maxHeartbeats 16000000
set_option maxRecDepth 100000
-- import Mk
def trS (k : Nat) : Nat → List S60 → List S60 → List S60 → List S60 → Option (List S60 × List S60)
 | 0, _, _, _, _ => none
 | m + 1, ax, bx, [], [] => some (ax, bx)
 | m + 1, ax, bx, p :: x, [] => if p.f1.toList = ([] : List UInt8) then none else (jA.f k ax p.f0 p.f1 p.f2).bind fun a => (jA.f k bx (p.f1.size : Int) ⟨#[]⟩ ⟨#[]⟩).bind fun b => trS k m a b x []
 | m + 1, ax, bx, [], q :: y => if q.f1.toList = ([] : List UInt8) then none else (jA.f k bx q.f0 q.f1 q.f2).bind fun b => (jA.f k ax (q.f1.size : Int) ⟨#[]⟩ ⟨#[]⟩).bind fun a => trS k m a b [] y
 | m + 1, ax, bx, p :: x, q :: y =>
  if p.f1.toList = ([] : List UInt8) then
   (if q.f1.toList = ([] : List UInt8) then
    ((takQ (p :: x) (if szQ q < szQ p then szQ q else szQ p)).bind fun s => (takQ (q :: y) (if szQ q < szQ p then szQ q else szQ p)).bind fun t =>
     if 0 < s.1.f0 then
      (if 0 < t.1.f0 then (jA.f k ax s.1.f0 s.1.f1 s.1.f2).bind fun a => (jA.f k bx t.1.f0 t.1.f1 t.1.f2).bind fun b => trS k m a b s.2 t.2
      else (jA.f k bx t.1.f0 t.1.f1 t.1.f2).bind fun b => trS k m ax b s.2 t.2)
     else if 0 < t.1.f0 then (jA.f k ax s.1.f0 s.1.f1 s.1.f2).bind fun a => trS k m a bx s.2 t.2
     else trS k m ax bx s.2 t.2)
   else (jA.f k bx q.f0 q.f1 q.f2).bind fun b => (jA.f k ax (q.f1.size : Int) ⟨#[]⟩ ⟨#[]⟩).bind fun a => trS k m a b (p :: x) y)
  else (jA.f k ax p.f0 p.f1 p.f2).bind fun a => (jA.f k bx (p.f1.size : Int) ⟨#[]⟩ ⟨#[]⟩).bind fun b => trS k m a b x (q :: y)
theorem trS_put {k m : Nat} {ax bx : List S60} {p : S60} {x y : List S60} (h : ¬ p.f1.toList = ([] : List UInt8)) : trS k (m + 1) ax bx (p :: x) y = (jA.f k ax p.f0 p.f1 p.f2).bind fun a => (jA.f k bx (p.f1.size : Int) ⟨#[]⟩ ⟨#[]⟩).bind fun b => trS k m a b x y := by
 cases y <;> rw [trS, if_neg h]
def trB (gx gy : Nat) (va vb : Value) (k : Nat) : Prop := k = gx ∨ k = gy ∨ va.ownBlock = some k ∨ vb.ownBlock = some k
theorem trB_x (gx gy : Nat) (va vb : Value) : trB gx gy va vb gx := .inl rfl
theorem trB_y (gx gy : Nat) (va vb : Value) : trB gx gy va vb gy := .inr (.inl rfl)
theorem l3_init {w w' : World} {g c : Nat} {A : Option Addr} {l : List S60} {S : Nat → Prop} {base : Nat} {ok : Nat → Prop} (hb : w'.heap[g]? = some (.cells #[.slice A l.length c] 99 (0, 0))) (hr : Kd.R k60 60 w base ok (.slice A l.length c) l) (hk : Kept w w' (fun _ => False)) (hS : ∀ k, S k → w.heap.size ≤ k ∨ k < base) : IsL3 w' g l S := by
 obtain ⟨_, hcap, hreads⟩ := Kd.R_reads' hr
 refine ⟨A, c, hb, hcap, Kd.C_foot_neS (S := fun _ => False) (fun h => h) hreads (fun _ _ _ q => q) w' hk, fun ad e hn q => ?_⟩
 have hbs : base ≤ ad.block := own_base (R_cells hr).2 ad.block (by subst e; rfl)
 obtain ⟨ad', e3, hx0, _, _⟩ := at_T60 hreads 0 (Int.le_refl _) (by omega)
 rw [e] at e3
 obtain rfl := Option.some.inj e3
 rw [show ((0 : Int)).toNat = 0 from rfl, show 0 * 3 = 0 from rfl, Addr.add_zero'] at hx0
 have := World.block_lt_of_cell? w _ hx0
 rcases hS _ q with z | z <;> omega
structure Tr4 (w0 w : World) (gx gy : Nat) (x y ax bx : List S60) (va vb : Value) : Prop where
 rx : IsL3 w gx x (trB gx gy va vb)
 ry : IsL3 w gy y (trB gx gy va vb)
 ra : Kd.R k60 60 w w0.heap.size (fun k => va.ownBlock = some k) va ax
 rb : Kd.R k60 60 w w0.heap.size (fun k => vb.ownBlock = some k) vb bx
 nax : va.ownBlock ≠ some gx
 nay : va.ownBlock ≠ some gy
 nbx : vb.ownBlock ≠ some gx
 nby : vb.ownBlock ≠ some gy
 nab : ∀ k, va.ownBlock = some k → vb.ownBlock ≠ some k
 bel : Below w0.heap.size w0 w
 ne : gx ≠ gy
 gx0 : w0.heap.size ≤ gx
 gy0 : w0.heap.size ≤ gy
theorem Tr4.lt {w0 w : World} {gx gy : Nat} {x y ax bx : List S60} {va vb : Value} (h : Tr4 w0 w gx gy x y ax bx va vb) : gx < w.heap.size ∧ gy < w.heap.size ∧ (∀ k, trB gx gy va vb k → k < w.heap.size) := by
 obtain ⟨A, c, a1, _⟩ := h.rx
 obtain ⟨B, d, b1, _⟩ := h.ry
 have e1 := blk_lt a1
 have e2 := blk_lt b1
 refine ⟨e1, e2, fun k q => ?_⟩
 rcases q with q | q | q | q
 ·omega
 ·omega
 ·exact own_lt (R_cells h.ra).2 k q
 exact own_lt (R_cells h.rb).2 k q
theorem Tr4.keptF {w0 w w' : World} {gx gy : Nat} {x y ax bx : List S60} {va vb : Value} (h : Tr4 w0 w gx gy x y ax bx va vb) (hk : KeptB w w' (fun _ => False)) : Tr4 w0 w' gx gy x y ax bx va vb :=
 ⟨h.rx.kept hk.kept (fun q => q) (fun _ q => q.elim), h.ry.kept hk.kept (fun q => q) (fun _ q => q.elim), Kd.R_step h.ra (fun k _ hl => hk.kept.2 k hl (fun q => q)), Kd.R_step h.rb (fun k _ hl => hk.kept.2 k hl (fun q => q)), h.nax, h.nay, h.nbx, h.nby, h.nab, hk.below h.bel h.bel.size (fun _ q => q.elim), h.ne, h.gx0, h.gy0⟩
theorem Tr4.below {w0 w w' : World} {gx gy : Nat} {x y ax bx : List S60} {va vb : Value} (h : Tr4 w0 w gx gy x y ax bx va vb) (hb : Below w.heap.size w w') : Tr4 w0 w' gx gy x y ax bx va vb := h.keptF (KeptB.of_below hb _)
theorem Tr4.box3 {w0 w w1 : World} {g gx gy : Nat} {x y ax bx : List S60} {va vb : Value} (h : Tr4 w0 w gx gy x y ax bx va vb) (hb : Below w.heap.size w w1) (hg : g = w.heap.size) (a b c : Value) : Tr4 w0 (((w1.setCell ⟨g, 0, none⟩ a).setCell ⟨g, 1, none⟩ b).setCell ⟨g, 2, none⟩ c) gx gy x y ax bx va vb :=
 h.keptF ((((KeptB.of_below hb (fun _ => False)).setCell (p := ⟨g, 0, none⟩) (.inr (Nat.le_of_eq hg.symm)) a).setCell (p := ⟨g, 1, none⟩) (.inr (Nat.le_of_eq hg.symm)) b).setCell (p := ⟨g, 2, none⟩) (.inr (Nat.le_of_eq hg.symm)) c)
theorem Tr4.fresh {w0 w : World} {g gx gy : Nat} {x y ax bx : List S60} {va vb : Value} (h : Tr4 w0 w gx gy x y ax bx va vb) (hg : g = w.heap.size) : ¬ g = gx ∧ ¬ g = gy ∧ ¬ va.ownBlock = some g ∧ ¬ vb.ownBlock = some g := by
 obtain ⟨a, b, c⟩ := h.lt
 refine ⟨by omega, by omega, fun q => ?_, fun q => ?_⟩
 ·have := c g (.inr (.inr (.inl q))); omega
 have := c g (.inr (.inr (.inr q))); omega
theorem Tr4.takeX {w0 w w' : World} {gx gy : Nat} {x x' y ax bx : List S60} {va vb : Value} (h : Tr4 w0 w gx gy x y ax bx va vb) (h1 : IsL3 w' gx x' (trB gx gy va vb)) (hk : KeptB w w' (fun k => k = gx)) : Tr4 w0 w' gx gy x' y ax bx va vb :=
 ⟨h1, h.ry.kept hk.kept (fun q => h.ne q.symm) (fun _ q => .inl q), Kd.R_step h.ra (fun k ho hl => hk.kept.2 k hl (fun q => h.nax (q ▸ ho))), Kd.R_step h.rb (fun k ho hl => hk.kept.2 k hl (fun q => h.nbx (q ▸ ho))), h.nax, h.nay, h.nbx, h.nby, h.nab, hk.below h.bel h.bel.size (fun k q => by rw [q]; exact h.gx0), h.ne, h.gx0, h.gy0⟩
theorem Tr4.takeY {w0 w w' : World} {gx gy : Nat} {x y y' ax bx : List S60} {va vb : Value} (h : Tr4 w0 w gx gy x y ax bx va vb) (h1 : IsL3 w' gy y' (trB gx gy va vb)) (hk : KeptB w w' (fun k => k = gy)) : Tr4 w0 w' gx gy x y' ax bx va vb :=
 ⟨h.rx.kept hk.kept (fun q => h.ne q) (fun _ q => .inr (.inl q)), h1, Kd.R_step h.ra (fun k ho hl => hk.kept.2 k hl (fun q => h.nay (q ▸ ho))), Kd.R_step h.rb (fun k ho hl => hk.kept.2 k hl (fun q => h.nby (q ▸ ho))), h.nax, h.nay, h.nbx, h.nby, h.nab, hk.below h.bel h.bel.size (fun k q => by rw [q]; exact h.gy0), h.ne, h.gx0, h.gy0⟩
theorem row_flat {w : World} {base : Nat} {ok : Nat → Prop} {v : Value} {l : List S60} (h : Kd.R k60 60 w base ok v l) : Kd.R k60 60 w base (fun k => v.ownBlock = some k) v l :=
 Kd.R_flat (fun {ok1 ok2 x cs} hm => by obtain rfl := k60_openM hm; exact k60_mkM _ _ _ x) h (fun k e _ => e)
theorem Tr4.addA {w0 w w' : World} {gx gy : Nat} {x y ax bx o : List S60} {va vb v' : Value} (h : Tr4 w0 w gx gy x y ax bx va vb) (hr : Kd.R k60 60 w' w0.heap.size (fun k => va.ownBlock = some k ∨ w.heap.size ≤ k) v' o) (hb : Below w0.heap.size w0 w') (hk : Kept w w' (fun k => va.ownBlock = some k)) : Tr4 w0 w' gx gy x y o bx v' vb := by
 obtain ⟨l1, l2, _⟩ := h.lt
 have hs : ∀ k, trB gx gy v' vb k → trB gx gy va vb k ∨ w.heap.size ≤ k := fun k q => by
  rcases q with q | q | q | q
  ·exact .inl (.inl q)
  ·exact .inl (.inr (.inl q))
  ·exact (hr.1 k q).imp (fun z => .inr (.inr (.inl z))) (fun z => z)
  ·exact .inl (.inr (.inr (.inr q)))
 refine ⟨h.rx.next hk (fun k q => .inr (.inr (.inl q))) h.nax hs, h.ry.next hk (fun k q => .inr (.inr (.inl q))) h.nay hs, row_flat hr, Kd.R_step h.rb (fun k ho hl => hk.2 k hl (fun q => h.nab k q ho)), fun q => ?_, fun q => ?_, h.nbx, h.nby, fun k q z => ?_, hb, h.ne, h.gx0, h.gy0⟩
 ·exact (hr.1 gx q).elim h.nax (fun z => by omega)
 ·exact (hr.1 gy q).elim h.nay (fun z => by omega)
 have hl := own_lt (R_cells h.rb).2 k z
 exact (hr.1 k q).elim (fun e => h.nab k e z) (fun e => by omega)
theorem Tr4.addB {w0 w w' : World} {gx gy : Nat} {x y ax bx o : List S60} {va vb v' : Value} (h : Tr4 w0 w gx gy x y ax bx va vb) (hr : Kd.R k60 60 w' w0.heap.size (fun k => vb.ownBlock = some k ∨ w.heap.size ≤ k) v' o) (hb : Below w0.heap.size w0 w') (hk : Kept w w' (fun k => vb.ownBlock = some k)) : Tr4 w0 w' gx gy x y ax o va v' := by
 obtain ⟨l1, l2, _⟩ := h.lt
 have hs : ∀ k, trB gx gy va v' k → trB gx gy va vb k ∨ w.heap.size ≤ k := fun k q => by
  rcases q with q | q | q | q
  ·exact .inl (.inl q)
  ·exact .inl (.inr (.inl q))
  ·exact .inl (.inr (.inr (.inl q)))
  ·exact (hr.1 k q).imp (fun z => .inr (.inr (.inr z))) (fun z => z)
 refine ⟨h.rx.next hk (fun k q => .inr (.inr (.inr q))) h.nbx hs, h.ry.next hk (fun k q => .inr (.inr (.inr q))) h.nby hs, Kd.R_step h.ra (fun k ho hl => hk.2 k hl (fun q => h.nab k ho q)), row_flat hr, h.nax, h.nay, fun q => ?_, fun q => ?_, fun k q z => ?_, hb, h.ne, h.gx0, h.gy0⟩
 ·exact (hr.1 gx q).elim h.nbx (fun z => by omega)
 ·exact (hr.1 gy q).elim h.nby (fun z => by omega)
 have hl := own_lt (R_cells h.ra).2 k q
 exact (hr.1 k z).elim (fun e => h.nab k q e) (fun e => by omega)
theorem tr_init2 {w0 w2 w3 w4 w5 : World} {gx gy cx cy : Nat} {Ax Ay : Option Addr} {l0 l1 : List S60} {w1s : Nat} {okx oky : Nat → Prop} (h1 : Kd.R k60 60 w2 w1s okx (.slice Ax l0.length cx) l0) (h2 : Kd.R k60 60 w4 w3.heap.size oky (.slice Ay l1.length cy) l1) (b2 : Below w0.heap.size w0 w2) (b3 : Below w2.heap.size w2 w3) (b4 : Below w3.heap.size w3 w4) (b5 : Below w4.heap.size w4 w5)
  (hx3 : w3.heap[gx]? = some (.cells #[.slice Ax l0.length cx] 99 (0, 0))) (hy : w5.heap[gy]? = some (.cells #[.slice Ay l1.length cy] 99 (0, 0))) (gx0 : gx = w2.heap.size) (gy0 : gy = w4.heap.size) : Tr4 w0 w5 gx gy l0 l1 [] [] (.slice none 0 0) (.slice none 0 0) := by
 have e2 := b2.size
 have e3 := b3.size
 have e4 := b4.size
 have e5 := b5.size
 have e6 := blk_lt hx3
 have k35 : KeptB w2 w5 (fun _ => False) := ((KeptB.of_below b3 (fun _ => False)).then_ (KeptB.of_below b4 (fun _ => False)) (fun _ q => q.elim)).then_ (KeptB.of_below b5 (fun _ => False)) (fun _ q => q.elim)
 refine ⟨l3_init (blk_below (blk_below hx3 b4) b5) h1 k35.kept (fun k q => ?_), l3_init hy h2 (Kept.of_below b5 _) (fun k q => ?_), Kd.R_nil _ _ _ _ _, Kd.R_nil _ _ _ _ _, (by intro q; cases q), (by intro q; cases q), (by intro q; cases q), (by intro q; cases q), (by intro k q; cases q), k35.below b2 e2 (fun _ q => q.elim), by omega, by omega, by omega⟩
 ·rcases q with q | q | q | q
  ·omega
  ·omega
  ·cases q
  cases q
 rcases q with q | q | q | q
 ·omega
 ·omega
 ·cases q
 cases q
theorem l4_loop (k : Nat) (A0 A1 : Option Addr) (c0 c1 : Nat) (a b na nb r1 r2 : List S60) (w : World) (hr0 : Kd.C k60 w A0 a.length a) (hc0 : a.length ≤ c0) (hr1 : Kd.C k60 w A1 b.length b) (hc1 : b.length ≤ c1) (hs : jV.f k a b = some (true, true)) (hna : jM.f k a = some na) (hnb : jM.f k b = some nb) (ha : na.length ≤ 1000) (hb : nb.length ≤ 1000) (h : trS k k [] [] na nb = some (r1, r2)) :
  Calls Try.prog 44 #[.slice A0 a.length c0, .slice A1 b.length c1] w fun e w' => ∃ v0_ v1_ : Value, e = .returned (.tuple #[v0_, v1_, .bool true]) ∧ Kd.R k60 60 w' w.heap.size (fun k_ => some k_ ≠ (v1_ : Value).ownBlock) v0_ r1 ∧ Kd.R k60 60 w' w.heap.size (fun k_ => some k_ ≠ (v0_ : Value).ownBlock) v1_ r2 ∧ Below w.heap.size w w' := by
 have hu53 := Try.underlying60
 have hu92 := Try.underlying99
 have HR0 := aM hr0
 have HR1 := aM hr1
 have HN := aM (And.intro ha hb)
 have HC := aM (And.intro hc0 hc1)
 have H' := aM h
 have HSM := aM hs
 have HNA := aM hna
 have HNB := aM hnb
 clear hr0 hr1 ha hb hc0 hc1 h hs hna hnb
 go_enter Try.func44, Try.ntmps44
 go_wp2_with (first | (go_at_call 35; (with_reducible refine (jV.calls k A0 c0 a A1 c1 b true true _ HR0.out HC.out.1 HR1.out HC.out.2 HSM.out).mono ?_); rintro e w1 ⟨rfl, hb⟩; have B1 := aM hb; clear hb) | (go_at_call 70; (with_reducible refine (jM.calls k A0 c0 a na _ (Kd.C_below HR0.out B1.out) HC.out.1 HNA.out).mono ?_); rintro e w2 ⟨vx, rfl, hx, hb⟩; obtain ⟨Ax, cx, ex⟩ := Kd.R_slice hx; subst ex; have RX := aM hx; have B2 := aM (below_step B1.out hb); clear hx hb) | ((with_reducible refine gate_dst (N := 33) rfl ?_); refine box_event rfl (N := 33) rfl (cs := #[.slice Ax na.length cx]) (t := 99) aP38 ?_; intro gx hg_ w3 hbox hb; have BX := aM hbox; have GX := aM hg_; have B3 := aM hb; have RX3 := aM (Kd.R_below RX.out hb); clear hbox hb hg_) | (go_at_call 70; (with_reducible refine (jM.calls k A1 c1 b nb _ (Kd.C_below HR1.out (below_step B2.out B3.out)) HC.out.2 HNB.out).mono ?_); rintro e w4 ⟨vy, rfl, hy, hb⟩; obtain ⟨Ay, cy, ey⟩ := Kd.R_slice hy; subst ey; have RY := aM hy; have BX4 := aM (blk_below BX.out hb); have B4 := aM hb; have RX4 := aM (Kd.R_below RX3.out hb); clear hy hb) | ((with_reducible refine gate_dst (N := 37) rfl ?_); refine box_event rfl (N := 37) rfl (cs := #[.slice Ay nb.length cy]) (t := 99) aP38 ?_; intro gy hg_ w5 hbox hb; have BX5 := aM (blk_below BX4.out hb); have BY5 := aM hbox; have GY := aM hg_; have B5 := aM hb; clear hbox hb hg_))
 have C0 := aM (tr_init2 RX.out RY.out B2.out B3.out B4.out B5.out BX.out BY5.out GX.out GY.out)
 clear RX RX3 RX4 RY B1 B2 B3 B4 B5 BX BX4 BX5 BY5 GX GY HR0 HR1 HC HSM HNA HNB
 go_loopg [9, 10] k (fun kq v9 v10 w' => ∃ (ax bx x y : List S60), Aside0 (trS k kq ax bx x y = some (r1, r2)) ∧ Aside0 (x.length ≤ 1000 ∧ y.length ≤ 1000) ∧ Aside0 (Tr4 w w' gx gy x y ax bx v9 v10))
 case atStart => exact ⟨[], [], na, nb, H', HN, C0⟩
 case round =>
  clear H' C0 HN
  obtain ⟨ax, bx, x, y, HA, HN, C0⟩ := hrel
  cases gk with
  | zero => exact absurd HA.out (by simp [trS])
  | succ m1 => ?_
  have H := HA.out
  clear HA
  cases x with
  | nil =>
   cases y with
   | nil =>
    have H1 : some (ax, bx) = some (r1, r2) := H
    clear H
    simp only [Option.some.injEq, Prod.mk.injEq] at H1
    obtain ⟨rfl, rfl⟩ := H1
    go_wp2_with (first | (go_at_call 71; (with_reducible refine (l3_done_nil _ gx _ C0.out.rx).mono ?_); rintro e w_ ⟨rfl, rfl⟩; skip) | (go_at_call 71; (with_reducible refine (l3_done_nil _ gy _ C0.out.ry).mono ?_); rintro e w_ ⟨rfl, rfl⟩; skip))
    go_ret3
    exact ⟨_, _, rfl, Kd.R_mono C0.out.ra (fun k_ e q => C0.out.nab k_ e q.symm), Kd.R_mono C0.out.rb (fun k_ e q => C0.out.nab k_ q.symm e), C0.out.bel⟩
   | cons q y =>
    obtain ⟨Ay, cy, hk_, hc_, hr_, _⟩ := C0.out.ry
    have c1 := (blk_cell hk_ 0).trans (show _ = some (Value.slice Ay (y.length + 1) cy) from rfl)
    obtain ⟨ady, e3, hy0, hy1, hy2⟩ := at_T60 hr_ 0 (Int.le_refl _) (by rw [List.length_cons]; omega)
    cases e3
    rw [show ((0 : Int)).toNat = 0 from rfl, show 0 * 3 = 0 from rfl, Addr.add_zero', show rd_T60 (q :: y) 0 = q from rfl] at hy0 hy1 hy2
    have y0 : ((0 : Int) < (y.length : Int) + 1) = True := eq_true (by omega)
    have y1 : (0 < y.length + 1) = True := eq_true (by omega)
    clear hk_ hc_ hr_
    by_cases hq : q.f1.toList = ([] : List UInt8)
    ·rw [trS, if_pos hq] at H; cases H
    rw [trS, if_neg hq] at H
    have eB0 : (q.f1.toList == ([] : List UInt8)) = false := beq_eq_false_iff_ne.mpr hq
    have eB1 : (q.f1.toList != ([] : List UInt8)) = true := bne_iff_ne.mpr hq
    have eB2 : q.f1.toList.isEmpty = false := List.isEmpty_eq_false_iff.mpr hq
    clear hq
    obtain ⟨vbo, hvb, H⟩ := Option.bind_eq_some_iff.mp H
    have Hvb := aM hvb
    clear hvb
    obtain ⟨vao, hva, H⟩ := Option.bind_eq_some_iff.mp H
    have Hva := aM hva
    clear hva
    have H' := aM H
    clear H
    go_upto_region 14 with (first | (go_at_call 71; (with_reducible refine (l3_done_nil _ gx _ C0.out.rx).mono ?_); rintro e w_ ⟨rfl, rfl⟩; skip) | (go_at_call 71; (with_reducible refine (l3_done_cons _ gy q y _ C0.out.ry).mono ?_); rintro e w_ ⟨rfl, rfl⟩; skip) | (go_at_call 73; (with_reducible refine (l3_size _ gy q y _ C0.out.ry).mono ?_); rintro e wd ⟨rfl, ⟨nd, hnd⟩⟩; have C1 := aM (C0.out.below (hnd ▸ pw_below_drewN (Below.refl _ _) nd)); clear hnd) | (go_at_call 72; (with_reducible refine (l3_take _ gy q y _ (szQ q) q y C1.out.ry (trB_y _ _ _ _) C1.out.lt.2.2 (by have := HN.out.2; simp only [List.length_cons] at this; omega) (takQ_all q y)).mono ?_); rintro e w3 ⟨rfl, hx3, hk3⟩; have C2 := aM (C1.out.takeY hx3 hk3); have KT := aM hk3; clear hx3 hk3) | ((with_reducible refine gate_dst (N := 14) rfl ?_); refine box_event rfl (N := 14) rfl (cs := #[.int .i64 0, .string ⟨#[]⟩, .string ⟨#[]⟩]) (t := 60) aP38 ?_; intro gq hg_ w4 hbox hb; have BX := aM hbox; have GB := aM hg_; have BB := aM hb; obtain ⟨z0, z1, z2, f0, f1, f2⟩ := bx3 hbox; clear hbox hb hg_))
    have C3 := aM (C2.out.box3 (g := gq) BB.out GB.out (.int .i64 q.f0) (.string q.f1) (.string q.f2))
    have B3 := aM (blk3 BX.out q.f0 q.f1 q.f2)
    have NB3 := aM (C2.out.fresh GB.out)
    clear C1 C2 KT BX GB BB z0 z1 z2 f0 f1 f2 hy0 hy1 hy2 c1 y0 y1 eB0 eB1 eB2
    generalize (((w4).setCell ⟨gq, 0, none⟩ (.int .i64 q.f0)).setCell ⟨gq, 1, none⟩ (.string q.f1)).setCell ⟨gq, 2, none⟩ (.string q.f2) = v4 at C3 B3 ⊢
    obtain ⟨a0, a1, a2, -⟩ := bx3 B3.out
    go_wp2_with (first | (go_at_call 74; (with_reducible refine (jA.calls k (fun k_ => u10.ownBlock = some k_) u10 bx q.f0 q.f1 q.f2 vbo w _ C3.out.bel C3.out.rb Hvb.out).mono ?_); rintro e w5 ⟨vb, rfl, hr4, hb4, hk4⟩; have C4 := aM (C3.out.addB hr4 hb4 hk4); have B4 := aM (blk_kept B3.out hk4 NB3.out.2.2.2); have a3 := (blk_cell B4.out 1).trans (show _ = some (Value.string q.f1) from rfl); clear hr4 hb4 hk4) | (go_at_call 74; (with_reducible refine (jA.calls k (fun k_ => u9.ownBlock = some k_) u9 ax (q.f1.size : Int) (⟨#[]⟩ : ByteArray) (⟨#[]⟩ : ByteArray) vao w _ C4.out.bel C4.out.ra Hva.out).mono ?_); rintro e w6 ⟨va, rfl, hr4, hb4, hk4⟩; have C5 := aM (C4.out.addA hr4 hb4 hk4); clear hr4 hb4 hk4))
    go_roundg m1
    case measure => omega
    case rel => exact ⟨vao, vbo, [], y, H', ⟨HN.out.1, by have := HN.out.2; simp only [List.length_cons] at this; omega⟩, C5⟩
  | cons p x =>
   obtain ⟨Ax, cx, hk_, hc_, hr_, _⟩ := C0.out.rx
   have c0 := (blk_cell hk_ 0).trans (show _ = some (Value.slice Ax (x.length + 1) cx) from rfl)
   obtain ⟨adx, e3, hx0, hx1, hx2⟩ := at_T60 hr_ 0 (Int.le_refl _) (by rw [List.length_cons]; omega)
   cases e3
   rw [show ((0 : Int)).toNat = 0 from rfl, show 0 * 3 = 0 from rfl, Addr.add_zero', show rd_T60 (p :: x) 0 = p from rfl] at hx0 hx1 hx2
   have x0 : ((0 : Int) < (x.length : Int) + 1) = True := eq_true (by omega)
   have x1 : (0 < x.length + 1) = True := eq_true (by omega)
   clear hk_ hc_ hr_
   by_cases hd : p.f1.toList = ([] : List UInt8)
   rotate_left
   ·rw [trS_put hd] at H
    have dB0 : (p.f1.toList == ([] : List UInt8)) = false := beq_eq_false_iff_ne.mpr hd
    have dB1 : (p.f1.toList != ([] : List UInt8)) = true := bne_iff_ne.mpr hd
    have dB2 : p.f1.toList.isEmpty = false := List.isEmpty_eq_false_iff.mpr hd
    clear hd
    obtain ⟨vao, hva, H⟩ := Option.bind_eq_some_iff.mp H
    have Hva := aM hva
    clear hva
    obtain ⟨vbo, hvb, H⟩ := Option.bind_eq_some_iff.mp H
    have Hvb := aM hvb
    clear hvb
    have H' := aM H
    clear H
    go_upto_region 10 with (first | (go_at_call 71; (with_reducible refine (l3_done_cons _ gx p x _ C0.out.rx).mono ?_); rintro e w_ ⟨rfl, rfl⟩; skip) | (go_at_call 73; (with_reducible refine (l3_size _ gx p x _ C0.out.rx).mono ?_); rintro e wd ⟨rfl, ⟨nd, hnd⟩⟩; have C1 := aM (C0.out.below (hnd ▸ pw_below_drewN (Below.refl _ _) nd)); clear hnd) | (go_at_call 72; (with_reducible refine (l3_take _ gx p x _ (szQ p) p x C1.out.rx (trB_x _ _ _ _) C1.out.lt.2.2 (by have := HN.out.1; simp only [List.length_cons] at this; omega) (takQ_all p x)).mono ?_); rintro e w3 ⟨rfl, hx3, hk3⟩; have C2 := aM (C1.out.takeX hx3 hk3); have KT := aM hk3; clear hx3 hk3) | ((with_reducible refine gate_dst (N := 13) rfl ?_); refine box_event rfl (N := 13) rfl (cs := #[.int .i64 0, .string ⟨#[]⟩, .string ⟨#[]⟩]) (t := 60) aP38 ?_; intro gp hg_ w4 hbox hb; have BX := aM hbox; have GB := aM hg_; have BB := aM hb; obtain ⟨z0, z1, z2, f0, f1, f2⟩ := bx3 hbox; clear hbox hb hg_))
    have C3 := aM (C2.out.box3 (g := gp) BB.out GB.out (.int .i64 p.f0) (.string p.f1) (.string p.f2))
    have B3 := aM (blk3 BX.out p.f0 p.f1 p.f2)
    have NB3 := aM (C2.out.fresh GB.out)
    clear C1 C2 KT BX GB BB z0 z1 z2 f0 f1 f2 hx0 hx1 hx2 c0 x0 x1 dB0 dB1 dB2
    generalize (((w4).setCell ⟨gp, 0, none⟩ (.int .i64 p.f0)).setCell ⟨gp, 1, none⟩ (.string p.f1)).setCell ⟨gp, 2, none⟩ (.string p.f2) = v4 at C3 B3 ⊢
    obtain ⟨a0, a1, a2, -⟩ := bx3 B3.out
    go_wp2_with (first | (go_at_call 74; (with_reducible refine (jA.calls k (fun k_ => u9.ownBlock = some k_) u9 ax p.f0 p.f1 p.f2 vao w _ C3.out.bel C3.out.ra Hva.out).mono ?_); rintro e w5 ⟨va, rfl, hr4, hb4, hk4⟩; have C4 := aM (C3.out.addA hr4 hb4 hk4); have B4 := aM (blk_kept B3.out hk4 NB3.out.2.2.1); have a3 := (blk_cell B4.out 1).trans (show _ = some (Value.string p.f1) from rfl); clear hr4 hb4 hk4) | (go_at_call 74; (with_reducible refine (jA.calls k (fun k_ => u10.ownBlock = some k_) u10 bx (p.f1.size : Int) (⟨#[]⟩ : ByteArray) (⟨#[]⟩ : ByteArray) vbo w _ C4.out.bel C4.out.rb Hvb.out).mono ?_); rintro e w6 ⟨vb, rfl, hr4, hb4, hk4⟩; have C5 := aM (C4.out.addB hr4 hb4 hk4); clear hr4 hb4 hk4))
    go_roundg m1
    case measure => omega
    case rel => exact ⟨vao, vbo, x, y, H', ⟨by have := HN.out.1; simp only [List.length_cons] at this; omega, HN.out.2⟩, C5⟩
   cases y with
   | nil => rw [trS, if_pos hd] at H; cases H
   | cons q y =>
    obtain ⟨Ay, cy, hk_, hc_, hr_, _⟩ := C0.out.ry
    have c1 := (blk_cell hk_ 0).trans (show _ = some (Value.slice Ay (y.length + 1) cy) from rfl)
    obtain ⟨ady, e3, hy0, hy1, hy2⟩ := at_T60 hr_ 0 (Int.le_refl _) (by rw [List.length_cons]; omega)
    cases e3
    rw [show ((0 : Int)).toNat = 0 from rfl, show 0 * 3 = 0 from rfl, Addr.add_zero', show rd_T60 (q :: y) 0 = q from rfl] at hy0 hy1 hy2
    have y0 : ((0 : Int) < (y.length : Int) + 1) = True := eq_true (by omega)
    have y1 : (0 < y.length + 1) = True := eq_true (by omega)
    clear hk_ hc_ hr_
    rw [trS, if_pos hd] at H
    have dB0 : (p.f1.toList == ([] : List UInt8)) = true := beq_iff_eq.mpr hd
    have dB1 : (p.f1.toList != ([] : List UInt8)) = false := bne_eq_false_iff_eq.mpr hd
    have dB2 : p.f1.toList.isEmpty = true := List.isEmpty_iff.mpr hd
    clear hd
    by_cases hq : q.f1.toList = ([] : List UInt8)
    rotate_left
    ·rw [if_neg hq] at H
     have eB0 : (q.f1.toList == ([] : List UInt8)) = false := beq_eq_false_iff_ne.mpr hq
     have eB1 : (q.f1.toList != ([] : List UInt8)) = true := bne_iff_ne.mpr hq
     have eB2 : q.f1.toList.isEmpty = false := List.isEmpty_eq_false_iff.mpr hq
     clear hq
     obtain ⟨vbo, hvb, H⟩ := Option.bind_eq_some_iff.mp H
     have Hvb := aM hvb
     clear hvb
     obtain ⟨vao, hva, H⟩ := Option.bind_eq_some_iff.mp H
     have Hva := aM hva
     clear hva
     have H' := aM H
     clear H
     go_upto_region 14 with (first | (go_at_call 71; (with_reducible refine (l3_done_cons _ gx p x _ C0.out.rx).mono ?_); rintro e w_ ⟨rfl, rfl⟩; skip) | (go_at_call 71; (with_reducible refine (l3_done_cons _ gy q y _ C0.out.ry).mono ?_); rintro e w_ ⟨rfl, rfl⟩; skip) | (go_at_call 73; (with_reducible refine (l3_size _ gy q y _ C0.out.ry).mono ?_); rintro e wd ⟨rfl, ⟨nd, hnd⟩⟩; have C1 := aM (C0.out.below (hnd ▸ pw_below_drewN (Below.refl _ _) nd)); clear hnd) | (go_at_call 72; (with_reducible refine (l3_take _ gy q y _ (szQ q) q y C1.out.ry (trB_y _ _ _ _) C1.out.lt.2.2 (by have := HN.out.2; simp only [List.length_cons] at this; omega) (takQ_all q y)).mono ?_); rintro e w3 ⟨rfl, hx3, hk3⟩; have C2 := aM (C1.out.takeY hx3 hk3); have KT := aM hk3; clear hx3 hk3) | ((with_reducible refine gate_dst (N := 14) rfl ?_); refine box_event rfl (N := 14) rfl (cs := #[.int .i64 0, .string ⟨#[]⟩, .string ⟨#[]⟩]) (t := 60) aP38 ?_; intro gq hg_ w4 hbox hb; have BX := aM hbox; have GB := aM hg_; have BB := aM hb; obtain ⟨z0, z1, z2, f0, f1, f2⟩ := bx3 hbox; clear hbox hb hg_))
     have C3 := aM (C2.out.box3 (g := gq) BB.out GB.out (.int .i64 q.f0) (.string q.f1) (.string q.f2))
     have B3 := aM (blk3 BX.out q.f0 q.f1 q.f2)
     have NB3 := aM (C2.out.fresh GB.out)
     clear C1 C2 KT BX GB BB z0 z1 z2 f0 f1 f2 hy0 hy1 hy2 c1 y0 y1 eB0 eB1 eB2 hx0 hx1 hx2 c0 x0 x1 dB0 dB1 dB2
     generalize (((w4).setCell ⟨gq, 0, none⟩ (.int .i64 q.f0)).setCell ⟨gq, 1, none⟩ (.string q.f1)).setCell ⟨gq, 2, none⟩ (.string q.f2) = v4 at C3 B3 ⊢
     obtain ⟨a0, a1, a2, -⟩ := bx3 B3.out
     go_wp2_with (first | (go_at_call 74; (with_reducible refine (jA.calls k (fun k_ => u10.ownBlock = some k_) u10 bx q.f0 q.f1 q.f2 vbo w _ C3.out.bel C3.out.rb Hvb.out).mono ?_); rintro e w5 ⟨vb, rfl, hr4, hb4, hk4⟩; have C4 := aM (C3.out.addB hr4 hb4 hk4); have B4 := aM (blk_kept B3.out hk4 NB3.out.2.2.2); have a3 := (blk_cell B4.out 1).trans (show _ = some (Value.string q.f1) from rfl); clear hr4 hb4 hk4) | (go_at_call 74; (with_reducible refine (jA.calls k (fun k_ => u9.ownBlock = some k_) u9 ax (q.f1.size : Int) (⟨#[]⟩ : ByteArray) (⟨#[]⟩ : ByteArray) vao w _ C4.out.bel C4.out.ra Hva.out).mono ?_); rintro e w6 ⟨va, rfl, hr4, hb4, hk4⟩; have C5 := aM (C4.out.addA hr4 hb4 hk4); clear hr4 hb4 hk4))
     go_roundg m1
     case measure => omega
     case rel => exact ⟨vao, vbo, (p :: x), y, H', ⟨HN.out.1, by have := HN.out.2; simp only [List.length_cons] at this; omega⟩, C5⟩
    rw [if_pos hq] at H
    have eB0 : (q.f1.toList == ([] : List UInt8)) = true := beq_iff_eq.mpr hq
    have eB1 : (q.f1.toList != ([] : List UInt8)) = false := bne_eq_false_iff_eq.mpr hq
    have eB2 : q.f1.toList.isEmpty = true := List.isEmpty_iff.mpr hq
    clear hq
    go_upto_region 16 with (first | (go_at_call 71; (with_reducible refine (l3_done_cons _ gx p x _ C0.out.rx).mono ?_); rintro e w_ ⟨rfl, rfl⟩; skip) | (go_at_call 71; (with_reducible refine (l3_done_cons _ gy q y _ C0.out.ry).mono ?_); rintro e w_ ⟨rfl, rfl⟩; skip))
    clear hx0 hx1 hx2 hy0 hy1 hy2 c0 c1 x0 x1 y0 y1 dB0 dB1 dB2 eB0 eB1 eB2
    by_cases hn : szQ q < szQ p
    rotate_left
    ·skip
     rw [if_neg hn] at H
     have n0 : decide (szQ q < szQ p) = false := decide_eq_false hn
     clear hn
     obtain ⟨⟨s1, s2⟩, hs, H2⟩ := Option.bind_eq_some_iff.mp H
     clear H
     dsimp only at H2
     obtain ⟨⟨t1, t2⟩, ht, H⟩ := Option.bind_eq_some_iff.mp H2
     dsimp only at H
     have HS := aM hs
     have HT := aM ht
     clear hs ht H2
     go_upto_region 19 with (first | (go_at_call 73; (with_reducible refine (l3_size _ gx p x _ C0.out.rx).mono ?_); rintro e wd ⟨rfl, ⟨nd, hnd⟩⟩; have C1 := aM (C0.out.below (hnd ▸ pw_below_drewN (Below.refl _ _) nd)); clear hnd) | (go_at_call 73; (with_reducible refine (l3_size _ gy q y _ C1.out.ry).mono ?_); rintro e wd ⟨rfl, ⟨nd, hnd⟩⟩; have C2 := aM (C1.out.below (hnd ▸ pw_below_drewN (Below.refl _ _) nd)); clear hnd))
     clear n0
     go_upto_region 20 with (first | (go_at_call 72; (with_reducible refine (l3_take _ gx p x _ (szQ p) s1 s2 C2.out.rx (trB_x _ _ _ _) C2.out.lt.2.2 (by have := HN.out.1; simp only [List.length_cons] at this; omega) (HS.out)).mono ?_); rintro e w3 ⟨rfl, hx3, hk3⟩; have C4 := aM (C2.out.takeX hx3 hk3); have KT := aM hk3; clear hx3 hk3) | ((with_reducible refine gate_dst (N := 16) rfl ?_); refine box_event rfl (N := 16) rfl (cs := #[.int .i64 0, .string ⟨#[]⟩, .string ⟨#[]⟩]) (t := 60) aP38 ?_; intro gp hg_ w4 hbox hb; have BX := aM hbox; have GB := aM hg_; have BB := aM hb; obtain ⟨z0, z1, z2, f0, f1, f2⟩ := bx3 hbox; clear hbox hb hg_))
     have C6 := aM (C4.out.box3 (g := gp) BB.out GB.out (.int .i64 s1.f0) (.string s1.f1) (.string s1.f2))
     have B6 := aM (blk3 BX.out s1.f0 s1.f1 s1.f2)
     have NB6 := aM (C4.out.fresh GB.out)
     clear C4 KT BX GB BB z0 z1 z2 f0 f1 f2
     generalize (((w4).setCell ⟨gp, 0, none⟩ (.int .i64 s1.f0)).setCell ⟨gp, 1, none⟩ (.string s1.f1)).setCell ⟨gp, 2, none⟩ (.string s1.f2) = v4 at C6 B6 ⊢
     go_upto_region 21 with (first | (go_at_call 72; (with_reducible refine (l3_take _ gy q y _ (szQ p) t1 t2 C6.out.ry (trB_y _ _ _ _) C6.out.lt.2.2 (by have := HN.out.2; simp only [List.length_cons] at this; omega) (HT.out)).mono ?_); rintro e w5 ⟨rfl, hx3, hk3⟩; have C7 := aM (C6.out.takeY hx3 hk3); have KT := aM hk3; clear hx3 hk3) | ((with_reducible refine gate_dst (N := 17) rfl ?_); refine box_event rfl (N := 17) rfl (cs := #[.int .i64 0, .string ⟨#[]⟩, .string ⟨#[]⟩]) (t := 60) aP38 ?_; intro gq hg_ w6 hbox hb; have BX := aM hbox; have GB := aM hg_; have BB := aM hb; obtain ⟨z0, z1, z2, f0, f1, f2⟩ := bx3 hbox; clear hbox hb hg_))
     have C9 := aM (C7.out.box3 (g := gq) BB.out GB.out (.int .i64 t1.f0) (.string t1.f1) (.string t1.f2))
     have B9 := aM (blk3 BX.out t1.f0 t1.f1 t1.f2)
     have NB9 := aM (C7.out.fresh GB.out)
     have B7 := aM (blk_kept B6.out KT.out.kept NB6.out.2.1)
     have B8 := aM (blk_below B7.out BB.out)
     have NQ := aM (show gp ≠ gq from by rw [GB.out]; exact Nat.ne_of_lt (blk_lt B7.out))
     have D9 := aM (blk_far (blk_far (blk_far (B8.out) (p := ⟨gq, 0, none⟩) NQ.out (.int .i64 t1.f0)) (p := ⟨gq, 1, none⟩) NQ.out (.string t1.f1)) (p := ⟨gq, 2, none⟩) NQ.out (.string t1.f2))
     clear C7 KT BX GB BB z0 z1 z2 f0 f1 f2 B7 B8 B6 C6
     generalize (((w6).setCell ⟨gq, 0, none⟩ (.int .i64 t1.f0)).setCell ⟨gq, 1, none⟩ (.string t1.f1)).setCell ⟨gq, 2, none⟩ (.string t1.f2) = v6 at C9 B9 D9 ⊢
     obtain ⟨a0, a1, a2, -⟩ := bx3 D9.out
     obtain ⟨b0, b1, b2, -⟩ := bx3 B9.out
     by_cases hk : 0 < s1.f0
     rotate_left
     ·rw [if_neg hk] at H
      have k0 : decide (s1.f0 > 0) = false := decide_eq_false hk
      have k1 : (s1.f0 > 0) = False := eq_false hk
      clear hk
      by_cases hq : 0 < t1.f0
      rotate_left
      ·rw [if_neg hq] at H
       have q0 : decide (t1.f0 > 0) = false := decide_eq_false hq
       have q1 : (t1.f0 > 0) = False := eq_false hq
       clear hq
       have H' := aM H
       clear H
       go_wp2_with fail
       go_roundg m1
       case measure => omega
       case rel => exact ⟨ax, bx, s2, t2, H', ⟨Nat.le_trans (takQ_len HS.out) HN.out.1, Nat.le_trans (takQ_len HT.out) HN.out.2⟩, C9⟩
      rw [if_pos hq] at H
      have q0 : decide (t1.f0 > 0) = true := decide_eq_true hq
      have q1 : (t1.f0 > 0) = True := eq_true hq
      clear hq
      obtain ⟨vao, hva, H⟩ := Option.bind_eq_some_iff.mp H
      have Hva := aM hva
      clear hva
      have H' := aM H
      clear H
      go_wp2_with (go_at_call 74; (with_reducible refine (jA.calls k (fun k_ => u9.ownBlock = some k_) u9 ax s1.f0 s1.f1 s1.f2 vao w _ C9.out.bel C9.out.ra Hva.out).mono ?_); rintro e w7 ⟨va, rfl, hr4, hb4, hk4⟩; have CA := aM (C9.out.addA hr4 hb4 hk4); clear hr4 hb4 hk4)
      go_roundg m1
      case measure => omega
      case rel => exact ⟨vao, bx, s2, t2, H', ⟨Nat.le_trans (takQ_len HS.out) HN.out.1, Nat.le_trans (takQ_len HT.out) HN.out.2⟩, CA⟩
     rw [if_pos hk] at H
     have k0 : decide (s1.f0 > 0) = true := decide_eq_true hk
     have k1 : (s1.f0 > 0) = True := eq_true hk
     clear hk
     by_cases hq : 0 < t1.f0
     rotate_left
     ·rw [if_neg hq] at H
      have q0 : decide (t1.f0 > 0) = false := decide_eq_false hq
      have q1 : (t1.f0 > 0) = False := eq_false hq
      clear hq
      obtain ⟨vbo, hvb, H⟩ := Option.bind_eq_some_iff.mp H
      have Hvb := aM hvb
      clear hvb
      have H' := aM H
      clear H
      go_wp2_with (go_at_call 74; (with_reducible refine (jA.calls k (fun k_ => u10.ownBlock = some k_) u10 bx t1.f0 t1.f1 t1.f2 vbo w _ C9.out.bel C9.out.rb Hvb.out).mono ?_); rintro e w7 ⟨vb, rfl, hr4, hb4, hk4⟩; have CA := aM (C9.out.addB hr4 hb4 hk4); clear hr4 hb4 hk4)
      go_roundg m1
      case measure => omega
      case rel => exact ⟨ax, vbo, s2, t2, H', ⟨Nat.le_trans (takQ_len HS.out) HN.out.1, Nat.le_trans (takQ_len HT.out) HN.out.2⟩, CA⟩
     rw [if_pos hq] at H
     have q0 : decide (t1.f0 > 0) = true := decide_eq_true hq
     have q1 : (t1.f0 > 0) = True := eq_true hq
     clear hq
     obtain ⟨vao, hva, H⟩ := Option.bind_eq_some_iff.mp H
     have Hva := aM hva
     clear hva
     obtain ⟨vbo, hvb, H⟩ := Option.bind_eq_some_iff.mp H
     have Hvb := aM hvb
     clear hvb
     have H' := aM H
     clear H
     go_wp2_with (first | (go_at_call 74; (with_reducible refine (jA.calls k (fun k_ => u9.ownBlock = some k_) u9 ax s1.f0 s1.f1 s1.f2 vao w _ C9.out.bel C9.out.ra Hva.out).mono ?_); rintro e w7 ⟨va, rfl, hr4, hb4, hk4⟩; have CA := aM (C9.out.addA hr4 hb4 hk4); have B4 := aM (blk_kept B9.out hk4 NB9.out.2.2.1); obtain ⟨c0, c1, c2, -⟩ := bx3 B4.out; clear hr4 hb4 hk4) | (go_at_call 74; (with_reducible refine (jA.calls k (fun k_ => u10.ownBlock = some k_) u10 bx t1.f0 t1.f1 t1.f2 vbo w _ CA.out.bel CA.out.rb Hvb.out).mono ?_); rintro e w8 ⟨vb, rfl, hr4, hb4, hk4⟩; have CB := aM (CA.out.addB hr4 hb4 hk4); clear hr4 hb4 hk4))
     go_roundg m1
     case measure => omega
     case rel => exact ⟨vao, vbo, s2, t2, H', ⟨Nat.le_trans (takQ_len HS.out) HN.out.1, Nat.le_trans (takQ_len HT.out) HN.out.2⟩, CB⟩
    skip
    rw [if_pos hn] at H
    have n0 : decide (szQ q < szQ p) = true := decide_eq_true hn
    clear hn
    obtain ⟨⟨s1, s2⟩, hs, H2⟩ := Option.bind_eq_some_iff.mp H
    clear H
    dsimp only at H2
    obtain ⟨⟨t1, t2⟩, ht, H⟩ := Option.bind_eq_some_iff.mp H2
    dsimp only at H
    have HS := aM hs
    have HT := aM ht
    clear hs ht H2
    go_upto_region 19 with (first | (go_at_call 73; (with_reducible refine (l3_size _ gx p x _ C0.out.rx).mono ?_); rintro e wd ⟨rfl, ⟨nd, hnd⟩⟩; have C1 := aM (C0.out.below (hnd ▸ pw_below_drewN (Below.refl _ _) nd)); clear hnd) | (go_at_call 73; (with_reducible refine (l3_size _ gy q y _ C1.out.ry).mono ?_); rintro e wd ⟨rfl, ⟨nd, hnd⟩⟩; have C2 := aM (C1.out.below (hnd ▸ pw_below_drewN (Below.refl _ _) nd)); clear hnd) | (go_at_call 73; (with_reducible refine (l3_size _ gy q y _ C2.out.ry).mono ?_); rintro e wd ⟨rfl, ⟨nd, hnd⟩⟩; have C3 := aM (C2.out.below (hnd ▸ pw_below_drewN (Below.refl _ _) nd)); clear hnd))
    clear n0
    go_upto_region 20 with (first | (go_at_call 72; (with_reducible refine (l3_take _ gx p x _ (szQ q) s1 s2 C3.out.rx (trB_x _ _ _ _) C3.out.lt.2.2 (by have := HN.out.1; simp only [List.length_cons] at this; omega) (HS.out)).mono ?_); rintro e w3 ⟨rfl, hx3, hk3⟩; have C4 := aM (C3.out.takeX hx3 hk3); have KT := aM hk3; clear hx3 hk3) | ((with_reducible refine gate_dst (N := 16) rfl ?_); refine box_event rfl (N := 16) rfl (cs := #[.int .i64 0, .string ⟨#[]⟩, .string ⟨#[]⟩]) (t := 60) aP38 ?_; intro gp hg_ w4 hbox hb; have BX := aM hbox; have GB := aM hg_; have BB := aM hb; obtain ⟨z0, z1, z2, f0, f1, f2⟩ := bx3 hbox; clear hbox hb hg_))
    have C6 := aM (C4.out.box3 (g := gp) BB.out GB.out (.int .i64 s1.f0) (.string s1.f1) (.string s1.f2))
    have B6 := aM (blk3 BX.out s1.f0 s1.f1 s1.f2)
    have NB6 := aM (C4.out.fresh GB.out)
    clear C4 KT BX GB BB z0 z1 z2 f0 f1 f2
    generalize (((w4).setCell ⟨gp, 0, none⟩ (.int .i64 s1.f0)).setCell ⟨gp, 1, none⟩ (.string s1.f1)).setCell ⟨gp, 2, none⟩ (.string s1.f2) = v4 at C6 B6 ⊢
    go_upto_region 21 with (first | (go_at_call 72; (with_reducible refine (l3_take _ gy q y _ (szQ q) t1 t2 C6.out.ry (trB_y _ _ _ _) C6.out.lt.2.2 (by have := HN.out.2; simp only [List.length_cons] at this; omega) (HT.out)).mono ?_); rintro e w5 ⟨rfl, hx3, hk3⟩; have C7 := aM (C6.out.takeY hx3 hk3); have KT := aM hk3; clear hx3 hk3) | ((with_reducible refine gate_dst (N := 17) rfl ?_); refine box_event rfl (N := 17) rfl (cs := #[.int .i64 0, .string ⟨#[]⟩, .string ⟨#[]⟩]) (t := 60) aP38 ?_; intro gq hg_ w6 hbox hb; have BX := aM hbox; have GB := aM hg_; have BB := aM hb; obtain ⟨z0, z1, z2, f0, f1, f2⟩ := bx3 hbox; clear hbox hb hg_))
    have C9 := aM (C7.out.box3 (g := gq) BB.out GB.out (.int .i64 t1.f0) (.string t1.f1) (.string t1.f2))
    have B9 := aM (blk3 BX.out t1.f0 t1.f1 t1.f2)
    have NB9 := aM (C7.out.fresh GB.out)
    have B7 := aM (blk_kept B6.out KT.out.kept NB6.out.2.1)
    have B8 := aM (blk_below B7.out BB.out)
    have NQ := aM (show gp ≠ gq from by rw [GB.out]; exact Nat.ne_of_lt (blk_lt B7.out))
    have D9 := aM (blk_far (blk_far (blk_far (B8.out) (p := ⟨gq, 0, none⟩) NQ.out (.int .i64 t1.f0)) (p := ⟨gq, 1, none⟩) NQ.out (.string t1.f1)) (p := ⟨gq, 2, none⟩) NQ.out (.string t1.f2))
    clear C7 KT BX GB BB z0 z1 z2 f0 f1 f2 B7 B8 B6 C6
    generalize (((w6).setCell ⟨gq, 0, none⟩ (.int .i64 t1.f0)).setCell ⟨gq, 1, none⟩ (.string t1.f1)).setCell ⟨gq, 2, none⟩ (.string t1.f2) = v6 at C9 B9 D9 ⊢
    obtain ⟨a0, a1, a2, -⟩ := bx3 D9.out
    obtain ⟨b0, b1, b2, -⟩ := bx3 B9.out
    by_cases hk : 0 < s1.f0
    rotate_left
    ·rw [if_neg hk] at H
     have k0 : decide (s1.f0 > 0) = false := decide_eq_false hk
     have k1 : (s1.f0 > 0) = False := eq_false hk
     clear hk
     by_cases hq : 0 < t1.f0
     rotate_left
     ·rw [if_neg hq] at H
      have q0 : decide (t1.f0 > 0) = false := decide_eq_false hq
      have q1 : (t1.f0 > 0) = False := eq_false hq
      clear hq
      have H' := aM H
      clear H
      go_wp2_with fail
      go_roundg m1
      case measure => omega
      case rel => exact ⟨ax, bx, s2, t2, H', ⟨Nat.le_trans (takQ_len HS.out) HN.out.1, Nat.le_trans (takQ_len HT.out) HN.out.2⟩, C9⟩
     rw [if_pos hq] at H
     have q0 : decide (t1.f0 > 0) = true := decide_eq_true hq
     have q1 : (t1.f0 > 0) = True := eq_true hq
     clear hq
     obtain ⟨vao, hva, H⟩ := Option.bind_eq_some_iff.mp H
     have Hva := aM hva
     clear hva
     have H' := aM H
     clear H
     go_wp2_with (go_at_call 74; (with_reducible refine (jA.calls k (fun k_ => u9.ownBlock = some k_) u9 ax s1.f0 s1.f1 s1.f2 vao w _ C9.out.bel C9.out.ra Hva.out).mono ?_); rintro e w7 ⟨va, rfl, hr4, hb4, hk4⟩; have CA := aM (C9.out.addA hr4 hb4 hk4); clear hr4 hb4 hk4)
     go_roundg m1
     case measure => omega
     case rel => exact ⟨vao, bx, s2, t2, H', ⟨Nat.le_trans (takQ_len HS.out) HN.out.1, Nat.le_trans (takQ_len HT.out) HN.out.2⟩, CA⟩
    rw [if_pos hk] at H
    have k0 : decide (s1.f0 > 0) = true := decide_eq_true hk
    have k1 : (s1.f0 > 0) = True := eq_true hk
    clear hk
    by_cases hq : 0 < t1.f0
    rotate_left
    ·rw [if_neg hq] at H
     have q0 : decide (t1.f0 > 0) = false := decide_eq_false hq
     have q1 : (t1.f0 > 0) = False := eq_false hq
     clear hq
     obtain ⟨vbo, hvb, H⟩ := Option.bind_eq_some_iff.mp H
     have Hvb := aM hvb
     clear hvb
     have H' := aM H
     clear H
     go_wp2_with (go_at_call 74; (with_reducible refine (jA.calls k (fun k_ => u10.ownBlock = some k_) u10 bx t1.f0 t1.f1 t1.f2 vbo w _ C9.out.bel C9.out.rb Hvb.out).mono ?_); rintro e w7 ⟨vb, rfl, hr4, hb4, hk4⟩; have CA := aM (C9.out.addB hr4 hb4 hk4); clear hr4 hb4 hk4)
     go_roundg m1
     case measure => omega
     case rel => exact ⟨ax, vbo, s2, t2, H', ⟨Nat.le_trans (takQ_len HS.out) HN.out.1, Nat.le_trans (takQ_len HT.out) HN.out.2⟩, CA⟩
    rw [if_pos hq] at H
    have q0 : decide (t1.f0 > 0) = true := decide_eq_true hq
    have q1 : (t1.f0 > 0) = True := eq_true hq
    clear hq
    obtain ⟨vao, hva, H⟩ := Option.bind_eq_some_iff.mp H
    have Hva := aM hva
    clear hva
    obtain ⟨vbo, hvb, H⟩ := Option.bind_eq_some_iff.mp H
    have Hvb := aM hvb
    clear hvb
    have H' := aM H
    clear H
    go_wp2_with (first | (go_at_call 74; (with_reducible refine (jA.calls k (fun k_ => u9.ownBlock = some k_) u9 ax s1.f0 s1.f1 s1.f2 vao w _ C9.out.bel C9.out.ra Hva.out).mono ?_); rintro e w7 ⟨va, rfl, hr4, hb4, hk4⟩; have CA := aM (C9.out.addA hr4 hb4 hk4); have B4 := aM (blk_kept B9.out hk4 NB9.out.2.2.1); obtain ⟨c0, c1, c2, -⟩ := bx3 B4.out; clear hr4 hb4 hk4) | (go_at_call 74; (with_reducible refine (jA.calls k (fun k_ => u10.ownBlock = some k_) u10 bx t1.f0 t1.f1 t1.f2 vbo w _ CA.out.bel CA.out.rb Hvb.out).mono ?_); rintro e w8 ⟨vb, rfl, hr4, hb4, hk4⟩; have CB := aM (CA.out.addB hr4 hb4 hk4); clear hr4 hb4 hk4))
    go_roundg m1
    case measure => omega
    case rel => exact ⟨vao, vbo, s2, t2, H', ⟨Nat.le_trans (takQ_len HS.out) HN.out.1, Nat.le_trans (takQ_len HT.out) HN.out.2⟩, CB⟩
theorem trS_mono (k : Nat) : ∀ (m : Nat) (ax bx x y : List S60), LeO (trS k m ax bx x y) (trS (k + 1) (m + 1) ax bx x y)
 | 0, ax, bx, x, y => by rw [trS]; exact LeO.none _
 | m + 1, ax, bx, [], [] => by rw [trS, trS]; exact LeO.refl _
 | m + 1, ax, bx, p :: x, [] => by
  rw [trS, trS]
  exact LeO.ite (LeO.refl _) (LeO.bind (jA.mono _ _ _ _ _) (fun _ => LeO.bind (jA.mono _ _ _ _ _) (fun _ => trS_mono k m _ _ _ _)))
 | m + 1, ax, bx, [], q :: y => by
  rw [trS, trS]
  exact LeO.ite (LeO.refl _) (LeO.bind (jA.mono _ _ _ _ _) (fun _ => LeO.bind (jA.mono _ _ _ _ _) (fun _ => trS_mono k m _ _ _ _)))
 | m + 1, ax, bx, p :: x, q :: y => by
  rw [trS, trS]
  exact LeO.ite (LeO.ite (LeO.bind (LeO.refl _) (fun _ => LeO.bind (LeO.refl _) (fun _ => LeO.ite (LeO.ite (LeO.bind (jA.mono _ _ _ _ _) (fun _ => LeO.bind (jA.mono _ _ _ _ _) (fun _ => trS_mono k m _ _ _ _))) (LeO.bind (jA.mono _ _ _ _ _) (fun _ => trS_mono k m _ _ _ _))) (LeO.ite (LeO.bind (jA.mono _ _ _ _ _) (fun _ => trS_mono k m _ _ _ _)) (trS_mono k m _ _ _ _)))))
   (LeO.bind (jA.mono _ _ _ _ _) (fun _ => LeO.bind (jA.mono _ _ _ _ _) (fun _ => trS_mono k m _ _ _ _)))) (LeO.bind (jA.mono _ _ _ _ _) (fun _ => LeO.bind (jA.mono _ _ _ _ _) (fun _ => trS_mono k m _ _ _ _)))
def yH.f (k : Nat) (a b : List S60) : Option (List S60 × List S60 × Bool) :=
 (jV.f k a b).bind fun s => if s.1 = true then (if s.2 = true then (jM.f k a).bind fun na => (jM.f k b).bind fun nb => (if na.length ≤ 1000 ∧ nb.length ≤ 1000 then (trS k k [] [] na nb).bind fun r => some (r.1, r.2, true) else none) else some ([], [], false)) else some ([], [], false)
theorem yH.mono : ∀ a0 a1 k, LeO (yH.f k a0 a1) (yH.f (k + 1) a0 a1) := by
 intro a0 a1 k
 unfold yH.f
 exact LeO.bind (jV.mono _ _ _) (fun _ => LeO.ite (LeO.ite (LeO.bind (jM.mono _ _) (fun _ => LeO.bind (jM.mono _ _) (fun _ => LeO.ite (LeO.bind (trS_mono k k _ _ _ _) (fun _ => LeO.refl _)) (LeO.refl _)))) (LeO.refl _)) (LeO.refl _))
theorem yH.calls (k : Nat) (A0 : Option Addr) (c0 : Nat) (l0 : List S60) (A1 : Option Addr) (c1 : Nat) (l1 : List S60) (r1 r2 : List S60) (r3 : Bool) (w : World) (hr0 : Kd.C k60 w A0 l0.length l0) (hc0 : l0.length ≤ c0) (hr1 : Kd.C k60 w A1 l1.length l1) (hc1 : l1.length ≤ c1) (h : yH.f k l0 l1 = some (r1, r2, r3)) :
  Calls Try.prog 44 #[.slice A0 l0.length c0, .slice A1 l1.length c1] w fun e w' => ∃ v0_ v1_ : Value, e = .returned (.tuple #[v0_, v1_, .bool r3]) ∧ Kd.R k60 60 w' w.heap.size (fun k_ => some k_ ≠ (v1_ : Value).ownBlock) v0_ r1 ∧ Kd.R k60 60 w' w.heap.size (fun k_ => some k_ ≠ (v0_ : Value).ownBlock) v1_ r2 ∧ Below w.heap.size w w' := by
 unfold yH.f at h
 obtain ⟨⟨s1, s2⟩, hs, h⟩ := Option.bind_eq_some_iff.mp h
 dsimp only at h
 have HS := aM hs
 have HR0 := aM hr0
 have HR1 := aM hr1
 have HC := aM (And.intro hc0 hc1)
 cases s1 with
 | false =>
  rw [if_neg (by simp)] at h
  obtain ⟨rfl, h2⟩ := Prod.mk.inj (Option.some.inj h)
  obtain ⟨rfl, rfl⟩ := Prod.mk.inj h2
  clear h h2 hs hr0 hr1 hc0 hc1
  go_enter Try.func44, Try.ntmps44
  go_wp2_with (go_at_call 35; (with_reducible refine (jV.calls k A0 c0 l0 A1 c1 l1 false s2 _ HR0.out HC.out.1 HR1.out HC.out.2 HS.out).mono ?_); rintro e w1 ⟨rfl, hb⟩; have B1 := aM hb; clear hb)
  go_ret3
  exact ⟨_, _, rfl, Kd.R_nil _ _ _ _ _, Kd.R_nil _ _ _ _ _, B1.out⟩
 | true =>
  rw [if_pos rfl] at h
  cases s2 with
  | false =>
   rw [if_neg (by simp)] at h
   obtain ⟨rfl, h2⟩ := Prod.mk.inj (Option.some.inj h)
   obtain ⟨rfl, rfl⟩ := Prod.mk.inj h2
   clear h h2 hs hr0 hr1 hc0 hc1
   go_enter Try.func44, Try.ntmps44
   go_wp2_with (go_at_call 35; (with_reducible refine (jV.calls k A0 c0 l0 A1 c1 l1 true false _ HR0.out HC.out.1 HR1.out HC.out.2 HS.out).mono ?_); rintro e w1 ⟨rfl, hb⟩; have B1 := aM hb; clear hb)
   go_ret3
   exact ⟨_, _, rfl, Kd.R_nil _ _ _ _ _, Kd.R_nil _ _ _ _ _, B1.out⟩
  | true =>
   rw [if_pos rfl] at h
   obtain ⟨na, hna, h⟩ := Option.bind_eq_some_iff.mp h
   obtain ⟨nb, hnb, h⟩ := Option.bind_eq_some_iff.mp h
   by_cases hl : na.length ≤ 1000 ∧ nb.length ≤ 1000
   rotate_left
   ·rw [if_neg hl] at h; cases h
   rw [if_pos hl] at h
   obtain ⟨⟨u1, u2⟩, hu, h⟩ := Option.bind_eq_some_iff.mp h
   obtain ⟨rfl, h2⟩ := Prod.mk.inj (Option.some.inj h)
   obtain ⟨rfl, rfl⟩ := Prod.mk.inj h2
   exact l4_loop k A0 A1 c0 c1 l0 l1 na nb u1 u2 w hr0 hc0 hr1 hc1 hs hna hnb hl.1 hl.2 hu
def jP.j0 : Nat → List S60 → List S60 → Bool → Option ((List S60) × (List S60) × Bool)
 | 0, _, _, _ => none
 | k + 1, x0, x1, x17 => if x17 = true then (some (([] : List S60), ([] : List S60), false)) else ((yH.f k x0 x1).bind fun bt259 => (if bt259.2.2 = true then ((jI.f k bt259.1).bind fun t266 => (if t266 = true then ((jI.f k bt259.2.1).bind fun t267 => (if t267 = true then (some (bt259.1, bt259.2.1, true)) else (some (([] : List S60), ([] : List S60), false)))) else (some (([] : List S60), ([] : List S60), false)))) else (some (([] : List S60), ([] : List S60), false))))
def jP.f (k : Nat) (l0 : List S60) (l1 : List S60) : Option ((List S60) × (List S60) × Bool) := (jI.f k l0).bind fun t257 => (if t257 = true then ((jI.f k l1).bind fun t258 => (jP.j0 k l0 l1 (!t258))) else (jP.j0 k l0 l1 true))
theorem jP.mono_l : ∀ k, (∀ y0 y1 y2, LeO (jP.j0 k y0 y1 y2) (jP.j0 (k + 1) y0 y1 y2))
 | 0 => fun _ _ _ r h => by simp [jP.j0] at h
 | k + 1 => by
  have ih0 := jP.mono_l k
  ·intro y0 y1 y2
   unfold jP.j0
   repeat' (with_reducible first | apply ih0 | apply jI.mono | apply yH.mono | apply LeO.refl | apply LeO.none | apply LeO.ite | refine LeO.bind ?_ fun _ => ?_)
theorem jP.mono : ∀ a0 a1 k, LeO (jP.f k a0 a1) (jP.f (k + 1) a0 a1) := by
 intro a0 a1 k
 have ih0 := jP.mono_l k
 unfold jP.f
 repeat' (with_reducible first | apply ih0 | apply jI.mono | apply yH.mono | apply LeO.refl | apply LeO.none | apply LeO.ite | refine LeO.bind ?_ fun _ => ?_)
theorem jP.calls (k : Nat) (A0 : Option Addr) (c0 : Nat) (l0 : List S60) (A1 : Option Addr) (c1 : Nat) (l1 : List S60) (r1 : List S60) (r2 : List S60) (r3 : Bool) (w : World) (hr0 : Kd.C k60 w A0 l0.length l0) (hc0 : l0.length ≤ c0) (hr1 : Kd.C k60 w A1 l1.length l1) (hc1 : l1.length ≤ c1) (h : jP.f k l0 l1 = some (r1, r2, r3)) :
  Calls Try.prog 16 #[.slice A0 l0.length c0, .slice A1 l1.length c1] w fun e w' => ∃ v0_ v1_ : Value, e = .returned (.tuple #[v0_, v1_, .bool r3]) ∧ Kd.R k60 60 w' w.heap.size (fun k_ => some k_ ≠ (v1_ : Value).ownBlock) v0_ r1 ∧ Kd.R k60 60 w' w.heap.size (fun k_ => some k_ ≠ (v0_ : Value).ownBlock) v1_ r2 ∧ Below w.heap.size w w' := by
 have HR0 := aM hr0
 have HC0 := aM hc0
 clear hr0 hc0
 have HR1 := aM hr1
 have HC1 := aM hc1
 clear hr1 hc1
 have HB := aM (Below.refl w.heap.size w)
 have H : ((jI.f k l0).bind fun t257 => (if t257 = true then ((jI.f k l1).bind fun t258 => (jP.j0 k l0 l1 (!t258))) else (jP.j0 k l0 l1 true))) = some (r1, r2, r3) := h
 clear h
 have HC3 := aM H
 clear H
 go_enter Try.func16, Try.ntmps16
 go_upto_region 1 with (fail)
 go_cut [17] (fun v17 wc => ∃ (kq : Nat) (x17_2 : Bool), v17 = .bool x17_2 ∧ Aside0 (jP.j0 kq l0 l1 x17_2 = some (r1, r2, r3)) ∧ Aside0 (kq ≤ k) ∧ Aside0 (Below w.heap.size w wc))
 case first =>
  have H := HC3.out
  clear HC3
  obtain ⟨t257, A4, H⟩ := bM H
  by_cases c5 : t257 = true
  rotate_left
  ·replace c5 := Bool.eq_false_iff.mpr c5
   subst c5
   replace H := fF H
   have H' := aM H
   clear H
   go_wp2_with ((with_reducible refine gate_callee (f := 34) rfl ?_); refine gL 11 Try.func34 #[.slice A0 l0.length c0] ?_; (with_reducible refine (jI.calls k _ _ l0 false _ ?s1 ?s2 A4.out).mono ?_); (case s1 => exact cC (Kd.C_below HR0.out HB.out)); (case s2 => exact HC0.out); rintro e w9 ⟨rfl, hb⟩; refine ⟨_, rfl, ?_⟩; replace HB := aM (below_step bB hb); clear hb)
   go_meet
   case rel => exact ⟨_, (true), aP19, H', ⟨lH⟩, ⟨bB⟩⟩
  subst c5
  rw [if_pos rfl] at H
  obtain ⟨t258, A6, H⟩ := bM H
  have H' := aM H
  clear H
  go_wp2_with (first | ((with_reducible refine gate_callee (f := 34) rfl ?_); refine gL 11 Try.func34 #[.slice A0 l0.length c0] ?_; (with_reducible refine (jI.calls k _ _ l0 true _ ?s1 ?s2 A4.out).mono ?_); (case s1 => exact cC (Kd.C_below HR0.out HB.out)); (case s2 => exact HC0.out); rintro e w7 ⟨rfl, hb⟩; refine ⟨_, rfl, ?_⟩; replace HB := aM (below_step bB hb); clear hb) | (go_at_call 34; (with_reducible refine (jI.calls k _ _ l1 t258 _ ?s1 ?s2 A6.out).mono ?_); (case s1 => exact cC (Kd.C_below HR1.out HB.out)); (case s2 => exact HC1.out); rintro e w8 ⟨rfl, hb⟩; replace HB := aM (below_step bB hb); clear hb))
  go_meet
  case rel => exact ⟨_, (!t258), aP19, H', ⟨lH⟩, ⟨bB⟩⟩
 clear HC3
 try clear c1
 obtain ⟨kq, x17_2, rfl, HA, HJ2, HB⟩ := hcut
 cases kq with
 | zero => exact absurd HA.out (by simp [jP.j0])
 | succ kj2 => ?_
 have H := HA.out
 clear HA
 simp only [jP.j0] at H
 by_cases c10 : x17_2 = true
 ·subst c10
  rw [if_pos rfl] at H
  simp only [Option.some.injEq, Prod.mk.injEq] at H
  obtain ⟨rfl, rfl, rfl⟩ := H
  go_wp2
  go_ret3
  exact ⟨_, _, by first | rfl | (simp [errW_none, errW_some] <;> rfl) | (simp [*, errW_none, errW_some] <;> rfl), by first | exact Kd.R_nil _ _ _ _ _ | exact Kd.N_nil _ _ _ _ _ | exact Kd.V_nil _ _ _ _ _ | exact Kd.Q_nil _ _ _ _ _ | exact Kd.S_nil _ _ _ _ _, by first | exact Kd.R_nil _ _ _ _ _ | exact Kd.N_nil _ _ _ _ _ | exact Kd.V_nil _ _ _ _ _ | exact Kd.Q_nil _ _ _ _ _ | exact Kd.S_nil _ _ _ _ _, bB⟩
 replace c10 := Bool.eq_false_iff.mpr c10
 subst c10
 replace H := fF H
 obtain ⟨⟨t259, t260, t261⟩, A11, H⟩ := bM H
 by_cases c12 : t261 = true
 rotate_left
 ·replace c12 := Bool.eq_false_iff.mpr c12
  subst c12
  replace H := fF H
  simp only [Option.some.injEq, Prod.mk.injEq] at H
  obtain ⟨rfl, rfl, rfl⟩ := H
  go_wp2_with ((with_reducible refine gate_callee (f := 44) rfl ?_); refine gL 21 Try.func44 #[.slice A0 l0.length c0, .slice A1 l1.length c1] ?_; (with_reducible refine (yH.calls kj2 _ _ l0 _ _ l1 t259 t260 false _ ?s1 ?s2 ?s3 ?s4 A11.out).mono ?_); (case s1 => exact cC (Kd.C_below HR0.out HB.out)); (case s2 => exact HC0.out); (case s3 => exact cC (Kd.C_below HR1.out HB.out)); (case s4 => exact HC1.out); rintro e w30 ⟨v262, v264, rfl, ho0, ho1, hb⟩; refine ⟨_, rfl, ?_⟩; have HO263 := aM (Kd.R_lower ho0 (below_size bB)); have HO265 := aM (Kd.R_lower ho1 (below_size bB)); replace HB := aM (below_step bB hb); clear hb ho0 ho1)
  go_ret3
  exact ⟨_, _, by first | rfl | (simp [errW_none, errW_some] <;> rfl) | (simp [*, errW_none, errW_some] <;> rfl), by first | exact Kd.R_nil _ _ _ _ _ | exact Kd.N_nil _ _ _ _ _ | exact Kd.V_nil _ _ _ _ _ | exact Kd.Q_nil _ _ _ _ _ | exact Kd.S_nil _ _ _ _ _, by first | exact Kd.R_nil _ _ _ _ _ | exact Kd.N_nil _ _ _ _ _ | exact Kd.V_nil _ _ _ _ _ | exact Kd.Q_nil _ _ _ _ _ | exact Kd.S_nil _ _ _ _ _, bB⟩
 subst c12
 rw [if_pos rfl] at H
 obtain ⟨t266, A13, H⟩ := bM H
 by_cases c14 : t266 = true
 rotate_left
 ·replace c14 := Bool.eq_false_iff.mpr c14
  subst c14
  replace H := fF H
  simp only [Option.some.injEq, Prod.mk.injEq] at H
  obtain ⟨rfl, rfl, rfl⟩ := H
  go_wp2_with (first | ((with_reducible refine gate_callee (f := 44) rfl ?_); refine gL 21 Try.func44 #[.slice A0 l0.length c0, .slice A1 l1.length c1] ?_; (with_reducible refine (yH.calls kj2 _ _ l0 _ _ l1 t259 t260 true _ ?s1 ?s2 ?s3 ?s4 A11.out).mono ?_); (case s1 => exact cC (Kd.C_below HR0.out HB.out)); (case s2 => exact HC0.out); (case s3 => exact cC (Kd.C_below HR1.out HB.out)); (case s4 => exact HC1.out); rintro e w27 ⟨v262, v264, rfl, ho0, ho1, hb⟩; refine ⟨_, rfl, ?_⟩; have HO263 := aM (Kd.R_lower ho0 (below_size bB)); have HO265 := aM (Kd.R_lower ho1 (below_size bB)); replace HB := aM (below_step bB hb); clear hb ho0 ho1; obtain ⟨Ao28, co28, eo28⟩ := Kd.R_slice HO263.out; subst eo28) | (go_at_call 34; (with_reducible refine (jI.calls kj2 _ _ t259 false _ ?s1 ?s2 A13.out).mono ?_); (case s1 => exact cC ((Kd.R_reads' HO263.out).2.2)); (case s2 => exact (Kd.R_reads' HO263.out).2.1); rintro e w29 ⟨rfl, hb⟩; replace HO263 := aM (Kd.R_below (rR HO263.out) hb); replace HO265 := aM (Kd.R_below (rR HO265.out) hb); replace HB := aM (below_step bB hb); clear hb))
  go_ret3
  exact ⟨_, _, by first | rfl | (simp [errW_none, errW_some] <;> rfl) | (simp [*, errW_none, errW_some] <;> rfl), by first | exact Kd.R_nil _ _ _ _ _ | exact Kd.N_nil _ _ _ _ _ | exact Kd.V_nil _ _ _ _ _ | exact Kd.Q_nil _ _ _ _ _ | exact Kd.S_nil _ _ _ _ _, by first | exact Kd.R_nil _ _ _ _ _ | exact Kd.N_nil _ _ _ _ _ | exact Kd.V_nil _ _ _ _ _ | exact Kd.Q_nil _ _ _ _ _ | exact Kd.S_nil _ _ _ _ _, bB⟩
 subst c14
 rw [if_pos rfl] at H
 obtain ⟨t267, A15, H⟩ := bM H
 by_cases c16 : t267 = true
 ·subst c16
  rw [if_pos rfl] at H
  simp only [Option.some.injEq, Prod.mk.injEq] at H
  obtain ⟨rfl, rfl, rfl⟩ := H
  go_wp2_with (first | ((with_reducible refine gate_callee (f := 44) rfl ?_); refine gL 21 Try.func44 #[.slice A0 l0.length c0, .slice A1 l1.length c1] ?_; (with_reducible refine (yH.calls kj2 _ _ l0 _ _ l1 t259 t260 true _ ?s1 ?s2 ?s3 ?s4 A11.out).mono ?_); (case s1 => exact cC (Kd.C_below HR0.out HB.out)); (case s2 => exact HC0.out); (case s3 => exact cC (Kd.C_below HR1.out HB.out)); (case s4 => exact HC1.out); rintro e w17 ⟨v262, v264, rfl, ho0, ho1, hb⟩; refine ⟨_, rfl, ?_⟩; have HO263 := aM (Kd.R_lower ho0 (below_size bB)); have HO265 := aM (Kd.R_lower ho1 (below_size bB)); replace HB := aM (below_step bB hb); clear hb ho0 ho1; obtain ⟨Ao18, co18, eo18⟩ := Kd.R_slice HO263.out; subst eo18) | (go_at_call 34; (with_reducible refine (jI.calls kj2 _ _ t259 true _ ?s1 ?s2 A13.out).mono ?_); (case s1 => exact cC ((Kd.R_reads' HO263.out).2.2)); (case s2 => exact (Kd.R_reads' HO263.out).2.1); rintro e w19 ⟨rfl, hb⟩; replace HO263 := aM (Kd.R_below (rR HO263.out) hb); replace HO265 := aM (Kd.R_below (rR HO265.out) hb); replace HB := aM (below_step bB hb); clear hb; obtain ⟨Ao20, co20, eo20⟩ := Kd.R_slice HO265.out; subst eo20) | (go_at_call 34; (with_reducible refine (jI.calls kj2 _ _ t260 true _ ?s1 ?s2 A15.out).mono ?_); (case s1 => exact cC ((Kd.R_reads' HO265.out).2.2)); (case s2 => exact (Kd.R_reads' HO265.out).2.1); rintro e w21 ⟨rfl, hb⟩; replace HO263 := aM (Kd.R_below (rR HO263.out) hb); replace HO265 := aM (Kd.R_below (rR HO265.out) hb); replace HB := aM (below_step bB hb); clear hb))
  go_ret3
  exact ⟨_, _, by first | rfl | (simp [errW_none, errW_some] <;> rfl) | (simp [*, errW_none, errW_some] <;> rfl), rR HO263.out, rR HO265.out, bB⟩
 replace c16 := Bool.eq_false_iff.mpr c16
 subst c16
 replace H := fF H
 simp only [Option.some.injEq, Prod.mk.injEq] at H
 obtain ⟨rfl, rfl, rfl⟩ := H
 go_wp2_with (first | ((with_reducible refine gate_callee (f := 44) rfl ?_); refine gL 21 Try.func44 #[.slice A0 l0.length c0, .slice A1 l1.length c1] ?_; (with_reducible refine (yH.calls kj2 _ _ l0 _ _ l1 t259 t260 true _ ?s1 ?s2 ?s3 ?s4 A11.out).mono ?_); (case s1 => exact cC (Kd.C_below HR0.out HB.out)); (case s2 => exact HC0.out); (case s3 => exact cC (Kd.C_below HR1.out HB.out)); (case s4 => exact HC1.out); rintro e w22 ⟨v262, v264, rfl, ho0, ho1, hb⟩; refine ⟨_, rfl, ?_⟩; have HO263 := aM (Kd.R_lower ho0 (below_size bB)); have HO265 := aM (Kd.R_lower ho1 (below_size bB)); replace HB := aM (below_step bB hb); clear hb ho0 ho1; obtain ⟨Ao23, co23, eo23⟩ := Kd.R_slice HO263.out; subst eo23) | (go_at_call 34; (with_reducible refine (jI.calls kj2 _ _ t259 true _ ?s1 ?s2 A13.out).mono ?_); (case s1 => exact cC ((Kd.R_reads' HO263.out).2.2)); (case s2 => exact (Kd.R_reads' HO263.out).2.1); rintro e w24 ⟨rfl, hb⟩; replace HO263 := aM (Kd.R_below (rR HO263.out) hb); replace HO265 := aM (Kd.R_below (rR HO265.out) hb); replace HB := aM (below_step bB hb); clear hb; obtain ⟨Ao25, co25, eo25⟩ := Kd.R_slice HO265.out; subst eo25) | (go_at_call 34; (with_reducible refine (jI.calls kj2 _ _ t260 false _ ?s1 ?s2 A15.out).mono ?_); (case s1 => exact cC ((Kd.R_reads' HO265.out).2.2)); (case s2 => exact (Kd.R_reads' HO265.out).2.1); rintro e w26 ⟨rfl, hb⟩; replace HO263 := aM (Kd.R_below (rR HO263.out) hb); replace HO265 := aM (Kd.R_below (rR HO265.out) hb); replace HB := aM (below_step bB hb); clear hb))
 go_ret3
 exact ⟨_, _, by first | rfl | (simp [errW_none, errW_some] <;> rfl) | (simp [*, errW_none, errW_some] <;> rfl), by first | exact Kd.R_nil _ _ _ _ _ | exact Kd.N_nil _ _ _ _ _ | exact Kd.V_nil _ _ _ _ _ | exact Kd.Q_nil _ _ _ _ _ | exact Kd.S_nil _ _ _ _ _, by first | exact Kd.R_nil _ _ _ _ _ | exact Kd.N_nil _ _ _ _ _ | exact Kd.V_nil _ _ _ _ _ | exact Kd.Q_nil _ _ _ _ _ | exact Kd.S_nil _ _ _ _ _, bB⟩
-- import Mk
-- import WFootNe
-- import WKept
def IsRd (w : World) (g : Nat) (l : List S60) (S : Nat → Prop) : Prop :=
 ∃ (A : Option Addr) (c : Nat), w.heap[g]? = some (.cells #[.slice A l.length c] 68 (0, 0)) ∧ l.length ≤ c ∧ Kd.C k60 w A l.length l ∧ (∀ ad, A = some ad → 0 < l.length → ¬ S ad.block)
def hdP (l : List S60) : S60 := l.headD ⟨0, ⟨#[]⟩, ⟨#[]⟩⟩
theorem IsRd.kept {w w' : World} {g : Nat} {l : List S60} {S S' : Nat → Prop} (h : IsRd w g l S) (hk : Kept w w' S') (hg : ¬ S' g) (hs : ∀ k, S' k → S k) : IsRd w' g l S := by
 obtain ⟨A, c, h1, h2, h3, h4⟩ := h
 refine ⟨A, c, blk_kept h1 hk hg, h2, ?_, h4⟩
 exact Kd.C_foot_neS (S := S') (fun h => h) h3 (fun ad e hn hq => h4 ad e hn (hs _ hq)) w' hk
theorem IsRd.below {w w' : World} {g : Nat} {l : List S60} {S : Nat → Prop} (h : IsRd w g l S) (hb : Below w.heap.size w w') : IsRd w' g l S :=
 h.kept (Kept.of_below hb (fun _ => False)) (fun q => q) (fun _ q => q.elim)
theorem rd_head (w : World) (g : Nat) (l : List S60) (S : Nat → Prop) (h : IsRd w g l S) :
  Calls Try.prog 45 #[.pointer (some ⟨g, 0, none⟩)] w fun e w' => e = .returned (.agg #[.int .i64 (hdP l).f0, .string (hdP l).f1, .string (hdP l).f2]) ∧ Below w.heap.size w w' := by
 have hu53 := Try.underlying60
 have hu72 := Try.underlying68
 obtain ⟨A, c, hk, hc, hr, _⟩ := h
 have gw := blk_lt hk
 have KB := aM hk
 have HR := aM hr
 have c0 : w.cell? ⟨g, 0, none⟩ = some (.slice A l.length c) := (blk_cell hk 0).trans rfl
 clear hk hr
 cases l with
 | nil =>
  go_enter Try.func45, Try.ntmps45
  go_wp2_with ((with_reducible refine gate_dst (N := 2) rfl ?_); refine box_event rfl (N := 2) rfl (cs := #[.int .i64 0, .string ⟨#[]⟩, .string ⟨#[]⟩]) (t := 60) aP38 ?_; intro gb hgb w1 hbox hb; have y := (blk_cell (blk_below KB.out hb) 0).trans (show _ = some (Value.slice A ([] : List S60).length c) from rfl); have HB := aM hb; have BX := aM hbox; have GB := aM hgb; obtain ⟨y0, y1, y2, f0, f1, f2⟩ := bx3 hbox; clear hb hbox hgb c0)
  refine bodyPost_ret (results_cell_row rfl _ _ gb 60 #[.int .i64 0, .string ⟨#[]⟩, .string ⟨#[]⟩] (0, 0) _ rfl (by refine blk_put (cs := #[.int .i64 0, .string ⟨#[]⟩, .string ⟨#[]⟩]) ?_ 2 _ rfl; refine blk_put (cs := #[.int .i64 0, .string ⟨#[]⟩, .string ⟨#[]⟩]) ?_ 1 _ rfl; refine blk_put (cs := #[.int .i64 0, .string ⟨#[]⟩, .string ⟨#[]⟩]) ?_ 0 _ rfl; exact BX.out) Try.underlying60 rfl (by kernel_rfl)) rfl ?_
  have hge : w.heap.size ≤ gb := Nat.le_of_eq GB.out.symm
  exact ⟨rfl, ((HB.out.setCell (p := ⟨gb, 0, none⟩) hge _).setCell (p := ⟨gb, 1, none⟩) hge _).setCell (p := ⟨gb, 2, none⟩) hge _⟩
 | cons p r =>
  have p0 : (0 : Int) < ((p :: r).length : Int) := by rw [List.length_cons]; omega
  have p1 : (0 : Nat) < (p :: r).length := by rw [List.length_cons]; omega
  obtain ⟨ad, e3, hx0, hx1, hx2⟩ := at_T60 HR.out 0 (Int.le_refl _) p0
  cases e3
  rw [show ((0 : Int)).toNat = 0 from rfl, show 0 * 3 = 0 from rfl, Addr.add_zero'] at hx0 hx1 hx2
  have X1 := aM hx1
  have X2 := aM hx2
  have b0 : (((p :: r).length : Int) == 0) = false := beq_eq_false_iff_ne.mpr (by omega)
  have b1 : (((p :: r).length : Int) != 0) = true := bne_iff_ne.mpr (by omega)
  have b2 : decide (0 < ((p :: r).length : Int)) = true := decide_eq_true p0
  have b3 : decide (0 < (p :: r).length) = true := decide_eq_true p1
  have X0 := aM hx0
  clear hx0 hx1 hx2
  generalize hL : p :: r = L at *
  have HL := aM hL
  clear hL
  go_enter Try.func45, Try.ntmps45
  go_wp2_with ((with_reducible refine gate_dst (N := 2) rfl ?_); refine box_event rfl (N := 2) rfl (cs := #[.int .i64 0, .string ⟨#[]⟩, .string ⟨#[]⟩]) (t := 60) aP38 ?_; intro gb hgb w1 hbox hb; have y := (blk_cell (blk_below KB.out hb) 0).trans (show _ = some (Value.slice (some ad) L.length c) from rfl); have HB := aM hb; have BX := aM hbox; have GB := aM hgb; have z0 := pw_cell_below hb X0.out; have z1 := pw_cell_below hb X1.out; have z2 := pw_cell_below hb X2.out; have n1 : gb ≠ g := (by rw [hgb]; exact Nat.ne_of_gt gw); have n2 : g ≠ gb := (by rw [hgb]; exact Nat.ne_of_lt gw); obtain ⟨y0, y1, y2, f0, f1, f2⟩ := bx3 hbox; clear hb hbox hgb c0)
  refine bodyPost_ret (results_cell_row rfl _ _ gb 60 #[.int .i64 (rd_T60 L 0).f0, .string (rd_T60 L 0).f1, .string (rd_T60 L 0).f2] (0, 0) _ rfl (by refine blk_put (cs := #[.int .i64 (rd_T60 L 0).f0, .string (rd_T60 L 0).f1, .string ⟨#[]⟩]) ?_ 2 _ rfl; refine blk_put (cs := #[.int .i64 (rd_T60 L 0).f0, .string ⟨#[]⟩, .string ⟨#[]⟩]) ?_ 1 _ rfl; refine blk_put (cs := #[.int .i64 0, .string ⟨#[]⟩, .string ⟨#[]⟩]) ?_ 0 _ rfl; exact BX.out) Try.underlying60 rfl (by kernel_rfl)) rfl ?_
  have hge : w.heap.size ≤ gb := Nat.le_of_eq GB.out.symm
  obtain rfl := HL.out
  exact ⟨rfl, ((HB.out.setCell (p := ⟨gb, 0, none⟩) hge _).setCell (p := ⟨gb, 1, none⟩) hge _).setCell (p := ⟨gb, 2, none⟩) hge _⟩
-- NOT PRINTED: function 75 (impl_maker_end)
-- NOT PRINTED: function 48 (impl_maker_keep)
-- NOT PRINTED: function 46 (impl_maker_take)
-- import Mk
-- import WKept
theorem rd_next (w : World) (g : Nat) (p : S60) (r : List S60) (S : Nat → Prop) (h : IsRd w g (p :: r) S) (hS : S g) :
  Calls Try.prog 47 #[.pointer (some ⟨g, 0, none⟩)] w fun e w' => e = .returned (.agg #[.int .i64 p.f0, .string p.f1, .string p.f2]) ∧ IsRd w' g r S ∧ KeptB w w' (fun k => k = g) := by
 have hu53 := Try.underlying60
 have hu72 := Try.underlying68
 have RD := aM h
 obtain ⟨A, c, hk, hc, hr, hf⟩ := h
 have gw := blk_lt hk
 have KB := aM hk
 have HR := aM hr
 have HC := aM hc
 have HF := aM hf
 have hln : (p :: r).length = r.length + 1 := rfl
 rw [hln] at KB
 have HN := aM (show r.length + 1 ≤ c from hc)
 clear hk hr hc hf hln
 have hHd : hdP (p :: r) = p := rfl
 by_cases hc1 : c = 1
 ·have d1 : (c == 1) = true := beq_iff_eq.mpr hc1
  have d2 : (c = 1) = True := eq_true hc1
  have HC1 := aM hc1
  clear hc1
  go_enter Try.func47, Try.ntmps47
  go_wp2_with (first | ((with_reducible refine gate_dst (N := 2) rfl ?_); refine box_event rfl (N := 2) rfl (cs := #[.int .i64 0, .string ⟨#[]⟩, .string ⟨#[]⟩]) (t := 60) aP38 ?_; intro gb hgb w1 hbox hb; have RD1 := aM (RD.out.below hb); have KB1 := aM (blk_below KB.out hb); have HB1 := aM hb; have BX := aM hbox; have GB := aM hgb; clear hb hbox hgb) | (go_at_call 45; with_reducible refine (rd_head _ g (p :: r) S RD1.out).mono ?_; rw [hHd]; rintro e w2 ⟨rfl, hb2⟩; have KB2 := aM (blk_below KB1.out hb2); have HB2 := aM hb2; have BX2 := aM (blk_below BX.out hb2); clear hb2) | ((with_reducible refine gate_dst (N := 3) rfl ?_); refine box_event rfl (N := 3) rfl (cs := #[.int .i64 0, .string ⟨#[]⟩, .string ⟨#[]⟩]) (t := 60) aP38 ?_; intro gc hgc w3 hbox hb; have y := (blk_cell (blk_below KB2.out hb) 0).trans (show _ = some (Value.slice A (r.length + 1) c) from rfl); have yf := blk_frozen (blk_below KB2.out hb) 0; have KB3 := aM (blk_below KB2.out hb); have BX3 := aM (blk_below BX2.out hb); have HB3 := aM hb; have BC := aM hbox; have GC := aM hgc; obtain ⟨a0, a1, a2, e0, e1, e2⟩ := bx3 BX3.out; obtain ⟨y0, y1, y2, f0, f1, f2⟩ := bx3 hbox; have n1 : gb ≠ g := (by rw [GB.out]; exact Nat.ne_of_gt gw); have n2 : g ≠ gb := (by rw [GB.out]; exact Nat.ne_of_lt gw); have n3 : gc ≠ g := (by rw [hgc]; exact Nat.ne_of_gt (blk_lt KB2.out)); have n4 : g ≠ gc := (by rw [hgc]; exact Nat.ne_of_lt (blk_lt KB2.out)); have n5 : gc ≠ gb := (by rw [hgc]; exact Nat.ne_of_gt (blk_lt BX2.out)); have n6 : gb ≠ gc := (by rw [hgc]; exact Nat.ne_of_lt (blk_lt BX2.out)); clear hb hbox hgc))
  have hgb : w.heap.size ≤ gb := Nat.le_of_eq GB.out.symm
  have z1 := HB1.out.size
  have z2 := HB2.out.size
  have hgc : w.heap.size ≤ gc := by rw [GC.out]; omega
  have k3 : KeptB w w3 (fun k => k = g) := ((KeptB.of_below HB1.out (fun k => k = g)).then_ (KeptB.of_below HB2.out (fun _ => False)) (fun _ q => q.elim)).then_ (KeptB.of_below HB3.out (fun _ => False)) (fun _ q => q.elim)
  have KW := ((((((k3.setCell (p := ⟨gc, 0, none⟩) (.inr hgc) (.int .i64 p.f0)).setCell (p := ⟨gc, 1, none⟩) (.inr hgc) (.string p.f1)).setCell (p := ⟨gc, 2, none⟩) (.inr hgc) (.string p.f2)).setCell (p := ⟨g, 0, none⟩) (.inl rfl) (.slice A r.length (c - 1))).setCell (p := ⟨gb, 0, none⟩) (.inr hgb) (.int .i64 p.f0)).setCell (p := ⟨gb, 1, none⟩) (.inr hgb) (.string p.f1)).setCell (p := ⟨gb, 2, none⟩) (.inr hgb) (.string p.f2)
  have BG := blk_far (blk_far (blk_far (blk_put (cs' := #[.slice A r.length (c - 1)]) (blk_far (blk_far (blk_far KB3.out (p := ⟨gc, 0, none⟩) n4 (.int .i64 p.f0)) (p := ⟨gc, 1, none⟩) n4 (.string p.f1)) (p := ⟨gc, 2, none⟩) n4 (.string p.f2)) 0 (.slice A r.length (c - 1)) rfl) (p := ⟨gb, 0, none⟩) n2 (.int .i64 p.f0)) (p := ⟨gb, 1, none⟩) n2 (.string p.f1)) (p := ⟨gb, 2, none⟩) n2 (.string p.f2)
  have BB := blk_put (cs' := #[.int .i64 p.f0, .string p.f1, .string p.f2]) (blk_put (cs' := #[.int .i64 p.f0, .string p.f1, .string ⟨#[]⟩]) (blk_put (cs' := #[.int .i64 p.f0, .string ⟨#[]⟩, .string ⟨#[]⟩]) (blk_far (blk_far (blk_far (blk_far BX3.out (p := ⟨gc, 0, none⟩) n6 (.int .i64 p.f0)) (p := ⟨gc, 1, none⟩) n6 (.string p.f1)) (p := ⟨gc, 2, none⟩) n6 (.string p.f2)) (p := ⟨g, 0, none⟩) n1 (.slice A r.length (c - 1))) 0 (.int .i64 p.f0) rfl) 1 (.string p.f1) rfl) 2 (.string p.f2) rfl
  refine bodyPost_ret (results_cell_row rfl _ _ gb 60 #[.int .i64 p.f0, .string p.f1, .string p.f2] (0, 0) _ rfl BB Try.underlying60 rfl (by kernel_rfl)) rfl ?_
  refine ⟨rfl, ⟨_, _, BG, ?_, ?_, ?_⟩, KW⟩
  ·have := HN.out; omega
  ·have hd := Kd.C_drop (m := 1) (c := c) HR.out (by rw [List.length_cons]; omega) HC.out
   rw [if_pos HC1.out] at hd
   exact Kd.C_foot_neS (S := fun k => k = g) (fun h => h) hd (fun ad e hn hq => HF.out ad e (by rw [List.length_cons]; omega) (hq ▸ hS)) _ KW.kept
  exact fun ad e hn => HF.out ad e (by rw [List.length_cons]; omega)
 have d1 : (c == 1) = false := beq_eq_false_iff_ne.mpr hc1
 have d2 : (c = 1) = False := eq_false hc1
 have HC1 := aM hc1
 clear hc1
 go_enter Try.func47, Try.ntmps47
 go_wp2_with (first | ((with_reducible refine gate_dst (N := 2) rfl ?_); refine box_event rfl (N := 2) rfl (cs := #[.int .i64 0, .string ⟨#[]⟩, .string ⟨#[]⟩]) (t := 60) aP38 ?_; intro gb hgb w1 hbox hb; have RD1 := aM (RD.out.below hb); have KB1 := aM (blk_below KB.out hb); have HB1 := aM hb; have BX := aM hbox; have GB := aM hgb; clear hb hbox hgb) | (go_at_call 45; with_reducible refine (rd_head _ g (p :: r) S RD1.out).mono ?_; rw [hHd]; rintro e w2 ⟨rfl, hb2⟩; have KB2 := aM (blk_below KB1.out hb2); have HB2 := aM hb2; have BX2 := aM (blk_below BX.out hb2); clear hb2) | ((with_reducible refine gate_dst (N := 3) rfl ?_); refine box_event rfl (N := 3) rfl (cs := #[.int .i64 0, .string ⟨#[]⟩, .string ⟨#[]⟩]) (t := 60) aP38 ?_; intro gc hgc w3 hbox hb; have y := (blk_cell (blk_below KB2.out hb) 0).trans (show _ = some (Value.slice A (r.length + 1) c) from rfl); have yf := blk_frozen (blk_below KB2.out hb) 0; have KB3 := aM (blk_below KB2.out hb); have BX3 := aM (blk_below BX2.out hb); have HB3 := aM hb; have BC := aM hbox; have GC := aM hgc; obtain ⟨a0, a1, a2, e0, e1, e2⟩ := bx3 BX3.out; obtain ⟨y0, y1, y2, f0, f1, f2⟩ := bx3 hbox; have n1 : gb ≠ g := (by rw [GB.out]; exact Nat.ne_of_gt gw); have n2 : g ≠ gb := (by rw [GB.out]; exact Nat.ne_of_lt gw); have n3 : gc ≠ g := (by rw [hgc]; exact Nat.ne_of_gt (blk_lt KB2.out)); have n4 : g ≠ gc := (by rw [hgc]; exact Nat.ne_of_lt (blk_lt KB2.out)); have n5 : gc ≠ gb := (by rw [hgc]; exact Nat.ne_of_gt (blk_lt BX2.out)); have n6 : gb ≠ gc := (by rw [hgc]; exact Nat.ne_of_lt (blk_lt BX2.out)); clear hb hbox hgc))
 have hgb : w.heap.size ≤ gb := Nat.le_of_eq GB.out.symm
 have z1 := HB1.out.size
 have z2 := HB2.out.size
 have hgc : w.heap.size ≤ gc := by rw [GC.out]; omega
 have k3 : KeptB w w3 (fun k => k = g) := ((KeptB.of_below HB1.out (fun k => k = g)).then_ (KeptB.of_below HB2.out (fun _ => False)) (fun _ q => q.elim)).then_ (KeptB.of_below HB3.out (fun _ => False)) (fun _ q => q.elim)
 have KW := ((((((k3.setCell (p := ⟨gc, 0, none⟩) (.inr hgc) (.int .i64 p.f0)).setCell (p := ⟨gc, 1, none⟩) (.inr hgc) (.string p.f1)).setCell (p := ⟨gc, 2, none⟩) (.inr hgc) (.string p.f2)).setCell (p := ⟨g, 0, none⟩) (.inl rfl) (.slice (Option.map (fun x => ⟨x.block, x.off + 3, none⟩) A) r.length (c - 1))).setCell (p := ⟨gb, 0, none⟩) (.inr hgb) (.int .i64 p.f0)).setCell (p := ⟨gb, 1, none⟩) (.inr hgb) (.string p.f1)).setCell (p := ⟨gb, 2, none⟩) (.inr hgb) (.string p.f2)
 have BG := blk_far (blk_far (blk_far (blk_put (cs' := #[.slice (Option.map (fun x => ⟨x.block, x.off + 3, none⟩) A) r.length (c - 1)]) (blk_far (blk_far (blk_far KB3.out (p := ⟨gc, 0, none⟩) n4 (.int .i64 p.f0)) (p := ⟨gc, 1, none⟩) n4 (.string p.f1)) (p := ⟨gc, 2, none⟩) n4 (.string p.f2)) 0 (.slice (Option.map (fun x => ⟨x.block, x.off + 3, none⟩) A) r.length (c - 1)) rfl) (p := ⟨gb, 0, none⟩) n2 (.int .i64 p.f0)) (p := ⟨gb, 1, none⟩) n2 (.string p.f1)) (p := ⟨gb, 2, none⟩) n2 (.string p.f2)
 have BB := blk_put (cs' := #[.int .i64 p.f0, .string p.f1, .string p.f2]) (blk_put (cs' := #[.int .i64 p.f0, .string p.f1, .string ⟨#[]⟩]) (blk_put (cs' := #[.int .i64 p.f0, .string ⟨#[]⟩, .string ⟨#[]⟩]) (blk_far (blk_far (blk_far (blk_far BX3.out (p := ⟨gc, 0, none⟩) n6 (.int .i64 p.f0)) (p := ⟨gc, 1, none⟩) n6 (.string p.f1)) (p := ⟨gc, 2, none⟩) n6 (.string p.f2)) (p := ⟨g, 0, none⟩) n1 (.slice (Option.map (fun x => ⟨x.block, x.off + 3, none⟩) A) r.length (c - 1))) 0 (.int .i64 p.f0) rfl) 1 (.string p.f1) rfl) 2 (.string p.f2) rfl
 refine bodyPost_ret (results_cell_row rfl _ _ gb 60 #[.int .i64 p.f0, .string p.f1, .string p.f2] (0, 0) _ rfl BB Try.underlying60 rfl (by kernel_rfl)) rfl ?_
 refine ⟨rfl, ⟨_, _, BG, ?_, ?_, ?_⟩, KW⟩
 ·have := HN.out; omega
 ·have hd := Kd.C_drop (m := 1) (c := c) HR.out (by rw [List.length_cons]; omega) HC.out
  rw [if_neg HC1.out] at hd
  exact Kd.C_foot_neS (S := fun k => k = g) (fun h => h) hd (fun ad e hn hq => by
   obtain ⟨a0, ea, eb⟩ := Option.map_eq_some_iff.1 e
   have hb0 : a0.block = ad.block := by subst eb; rfl
   exact HF.out a0 ea (by rw [List.length_cons]; omega) (by rw [hb0, hq]; exact hS)) _ KW.kept
 intro ad e hn
 obtain ⟨a0, ea, eb⟩ := Option.map_eq_some_iff.1 e
 have hb0 : a0.block = ad.block := by subst eb; rfl
 rw [← hb0]
 exact HF.out a0 ea (by rw [List.length_cons]; omega)
def yP.f (a0_0 : Int) (a0_1 : ByteArray) (a0_2 : ByteArray) : Option (Int) := some (wrap64 ((wrap64 (a0_0 + (a0_1.size : Int))) + (a0_2.size : Int)))
theorem yP.calls (a0_0 : Int) (a0_1 : ByteArray) (a0_2 : ByteArray) (r : Int) (w : World) (h : yP.f a0_0 a0_1 a0_2 = some r) :
  Calls Try.prog 49 #[.agg #[.int .i64 a0_0, .string a0_1, .string a0_2]] w fun e w' => e = .returned (.int .i64 r) ∧ Below w.heap.size w w' := by
 have hu60 := Try.underlying60
 have HB := aM (Below.refl w.heap.size w)
 have H : (some (wrap64 ((wrap64 (a0_0 + (a0_1.size : Int))) + (a0_2.size : Int)))) = some r := h
 clear h
 obtain rfl := Option.some.inj H
 go_enter Try.func49, Try.ntmps49
 go_wp2_with ((with_reducible refine gate_dst (N := 1) rfl ?_); refine box_event rfl (N := 1) rfl (cs := #[.int .i64 a0_0, .string a0_1, .string a0_2]) (t := 60) aP38 ?_; intro gb269 hg w2 hbox hb; have BK269 := aM (hbox); have GW269 := aM (bG (w := w) hg); have GE269 := aM (bG (w := w) hg); replace HB := aM (below_step bB hb); clear hb hbox hg; obtain ⟨hcz3_0, hcz3_1, hcz3_2, hfz3_0, hfz3_1, hfz3_2⟩ := bx3 BK269.out)
 go_ret
 exact ⟨eR, by repeat (first | (with_reducible first | exact HB.out | apply below_alloc | apply pw_below_drewN | apply below_drew1 | refine below_set ?_ GE269.out) | exact HB.out)⟩
end Go.Proofs.Ytoagljlnfakgjaa.PFnDiamond
