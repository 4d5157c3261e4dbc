/- (thin) Written by a program of this session (wip/ovl.py) over the kit's print: plain functions with the answers of the Go functions, and the proofs that they are; no condition. -/
import Derived.Test.YtlelpomnblaciaaMk
import Derived.Test.YtlelpomnblaciaaPFnComposedx0
import Derived.Test.YtlelpomnblaciaaPFnComposedx2
import Derived.Test.YtlelpomnblaciaaPFnComposedx3
import Derived.Test.YtlelpomnblaciaaPFnComposedx5
import Derived.Test.YtlelpomnblaciaaPFnComposedx6
namespace Go.Proofs.Ytlelpomnblaciaa.PFnComposed
open Go.RowKit Go.Proofs.YtlelpomnblaciaaW.PrintWords Go.Proofs.YtlelpomnblaciaaW.PrintLast Go.Proofs.YtlelpomnblaciaaW.PrintMore
attribute [local go_sem] max2_int min2_int max_two min_two max_three min_three max_four min_four   -- for this text's walks alone
set_option linter.unusedVariables false
set_option linter.unusedSimpArgs false
-- import Mk
def cmpS (k : Nat) : Nat → List S53 → List S53 → List S53 → Option (List S53 × Bool)
 | 0, _, _, _ => none
 | m + 1, out, [], [] => some (out, true)
 | m + 1, out, p :: x, [] => if p.f2.toList = ([] : List UInt8) then some ([], false) else (jA.f k out p.f0 p.f1 p.f2).bind fun o => cmpS k m o x []
 | m + 1, out, [], q :: y => if q.f1.toList = ([] : List UInt8) then some ([], false) else (jA.f k out q.f0 q.f1 q.f2).bind fun o => cmpS k m o [] y
 | m + 1, out, p :: x, q :: y =>
  if p.f2.toList = ([] : List UInt8) then
   (if q.f1.toList = ([] : List UInt8) then
    ((takQ (p :: x) (if szQ q < szQ p then szQ q else szQ p)).bind fun s => (takQ (q :: y) (if szQ q < szQ p then szQ q else szQ p)).bind fun t =>
     if 0 < s.1.f0 then (jA.f k out t.1.f0 t.1.f1 t.1.f2).bind fun o => cmpS k m o s.2 t.2
     else if 0 < t.1.f0 then (jA.f k out s.1.f0 s.1.f1 s.1.f2).bind fun o => cmpS k m o s.2 t.2
     else if s.1.f1 = t.1.f2 then cmpS k m out s.2 t.2 else some ([], false))
   else (jA.f k out q.f0 q.f1 q.f2).bind fun o => cmpS k m o (p :: x) y)
  else (jA.f k out p.f0 p.f1 p.f2).bind fun o => cmpS k m o x (q :: y)
def cmpB (gx gy : Nat) (v : Value) (k : Nat) : Prop := k = gx ∨ k = gy ∨ v.ownBlock = some k
theorem cmpB_x (gx gy : Nat) (v : Value) : cmpB gx gy v gx := .inl rfl
theorem cmpB_y (gx gy : Nat) (v : Value) : cmpB gx gy v gy := .inr (.inl rfl)
theorem cmp_init {w w' : World} {g gx gy c : Nat} {A : Option Addr} {l : List S53} (hb : w'.heap[g]? = some (.cells #[.slice A l.length c] 92 (0, 0))) (hc : l.length ≤ c) (hr : Kd.C k53 w A l.length l) (hB : Below w.heap.size w w') (h1 : w.heap.size ≤ gx) (h2 : w.heap.size ≤ gy) : IsL3 w' g l (cmpB gx gy (.slice none 0 0)) := by
 refine ⟨A, c, hb, hc, Kd.C_foot_neS (S := fun _ => False) (fun h => h) hr (fun _ _ _ q => q) w' (Kept.of_below hB (fun _ => False)), fun ad e hn q => ?_⟩
 obtain ⟨ad', e3, hx0, _, _⟩ := at_T53 hr 0 (Int.le_refl _) (by omega)
 rw [e] at e3
 obtain rfl := Option.some.inj e3
 rw [show ((0 : Int)).toNat = 0 from rfl, show 0 * 3 = 0 from rfl, Addr.add_zero'] at hx0
 have := World.block_lt_of_cell? w _ hx0
 rcases q with q | q | q
 ·omega
 ·omega
 cases q
structure Cmp3 (w0 w : World) (gx gy : Nat) (x y out : List S53) (v : Value) : Prop where
 rx : IsL3 w gx x (cmpB gx gy v)
 ry : IsL3 w gy y (cmpB gx gy v)
 row : Kd.R k53 53 w w0.heap.size (fun k => v.ownBlock = some k) v out
 nx : v.ownBlock ≠ some gx
 ny : v.ownBlock ≠ some gy
 bel : Below w0.heap.size w0 w
 ne : gx ≠ gy
 gx0 : w0.heap.size ≤ gx
 gy0 : w0.heap.size ≤ gy
theorem Cmp3.lt {w0 w : World} {gx gy : Nat} {x y out : List S53} {v : Value} (h : Cmp3 w0 w gx gy x y out v) : gx < w.heap.size ∧ gy < w.heap.size ∧ (∀ k, cmpB gx gy v k → k < w.heap.size) := by
 obtain ⟨A, c, a1, _⟩ := h.rx
 obtain ⟨B, d, b1, _⟩ := h.ry
 have e1 := blk_lt a1
 have e2 := blk_lt b1
 refine ⟨e1, e2, fun k q => ?_⟩
 rcases q with q | q | q
 ·omega
 ·omega
 exact own_lt (R_cells h.row).2 k q
theorem Cmp3.below {w0 w w' : World} {gx gy : Nat} {x y out : List S53} {v : Value} (h : Cmp3 w0 w gx gy x y out v) (hb : Below w.heap.size w w') : Cmp3 w0 w' gx gy x y out v :=
 ⟨h.rx.below hb, h.ry.below hb, Kd.R_below h.row hb, h.nx, h.ny, below_then h.bel h.bel.size hb, h.ne, h.gx0, h.gy0⟩
theorem Cmp3.takeX {w0 w w' : World} {gx gy : Nat} {x x' y out : List S53} {v : Value} (h : Cmp3 w0 w gx gy x y out v) (h1 : IsL3 w' gx x' (cmpB gx gy v)) (hk : KeptB w w' (fun k => k = gx)) : Cmp3 w0 w' gx gy x' y out v :=
 ⟨h1, h.ry.kept hk.kept (fun q => h.ne q.symm) (fun _ q => .inl q), Kd.R_step h.row (fun k ho hl => hk.kept.2 k hl (fun q => h.nx (q ▸ ho))), h.nx, h.ny, hk.below h.bel h.bel.size (fun k q => by rw [q]; exact h.gx0), h.ne, h.gx0, h.gy0⟩
theorem Cmp3.takeY {w0 w w' : World} {gx gy : Nat} {x y y' out : List S53} {v : Value} (h : Cmp3 w0 w gx gy x y out v) (h1 : IsL3 w' gy y' (cmpB gx gy v)) (hk : KeptB w w' (fun k => k = gy)) : Cmp3 w0 w' gx gy x y' out v :=
 ⟨h.rx.kept hk.kept (fun q => h.ne q) (fun _ q => .inr (.inl q)), h1, Kd.R_step h.row (fun k ho hl => hk.kept.2 k hl (fun q => h.ny (q ▸ ho))), h.nx, h.ny, hk.below h.bel h.bel.size (fun k q => by rw [q]; exact h.gy0), h.ne, h.gx0, h.gy0⟩
theorem Cmp3.add {w0 w w' : World} {gx gy : Nat} {x y out o : List S53} {v v' : Value} (h : Cmp3 w0 w gx gy x y out v) (hr : Kd.R k53 53 w' w0.heap.size (fun k => v.ownBlock = some k ∨ w.heap.size ≤ k) v' o) (hb : Below w0.heap.size w0 w') (hk : Kept w w' (fun k => v.ownBlock = some k)) : Cmp3 w0 w' gx gy x y o v' := by
 obtain ⟨l1, l2, _⟩ := h.lt
 have hs : ∀ k, cmpB gx gy v' k → cmpB gx gy v k ∨ w.heap.size ≤ k := fun k q => by
  rcases q with q | q | q
  ·exact .inl (.inl q)
  ·exact .inl (.inr (.inl q))
  ·exact (hr.1 k q).imp (fun z => .inr (.inr z)) (fun z => z)
 refine ⟨h.rx.next hk (fun k q => .inr (.inr q)) h.nx hs, h.ry.next hk (fun k q => .inr (.inr q)) h.ny hs, Kd.R_flat (fun {ok1 ok2 x cs} hm => by obtain rfl := k53_openM hm; exact k53_mkM _ _ _ x) hr (fun k e _ => e), fun q => ?_, fun q => ?_, hb, h.ne, h.gx0, h.gy0⟩
 ·exact (hr.1 gx q).elim h.nx (fun z => by omega)
 exact (hr.1 gy q).elim h.ny (fun z => by omega)
theorem cmpS_drop {k m : Nat} {out : List S53} {p : S53} {x y : List S53} (h : ¬ p.f2.toList = ([] : List UInt8)) : cmpS k (m + 1) out (p :: x) y = (jA.f k out p.f0 p.f1 p.f2).bind fun o => cmpS k m o x y := by
 cases y <;> rw [cmpS, if_neg h]
theorem Cmp3.keptF {w0 w w' : World} {gx gy : Nat} {x y out : List S53} {v : Value} (h : Cmp3 w0 w gx gy x y out v) (hk : KeptB w w' (fun _ => False)) : Cmp3 w0 w' gx gy x y out v :=
 ⟨h.rx.kept hk.kept (fun q => q) (fun _ q => q.elim), h.ry.kept hk.kept (fun q => q) (fun _ q => q.elim), Kd.R_step h.row (fun k _ hl => hk.kept.2 k hl (fun q => q)), h.nx, h.ny, hk.below h.bel h.bel.size (fun _ q => q.elim), h.ne, h.gx0, h.gy0⟩
theorem Cmp3.box3 {w0 w w1 : World} {g gx gy : Nat} {x y out : List S53} {v : Value} (h : Cmp3 w0 w gx gy x y out v) (hb : Below w.heap.size w w1) (hg : g = w.heap.size) (a b c : Value) : Cmp3 w0 (((w1.setCell ⟨g, 0, none⟩ a).setCell ⟨g, 1, none⟩ b).setCell ⟨g, 2, none⟩ c) gx gy x y out v :=
 h.keptF ((((KeptB.of_below hb (fun _ => False)).setCell (p := ⟨g, 0, none⟩) (.inr (Nat.le_of_eq hg.symm)) a).setCell (p := ⟨g, 1, none⟩) (.inr (Nat.le_of_eq hg.symm)) b).setCell (p := ⟨g, 2, none⟩) (.inr (Nat.le_of_eq hg.symm)) c)
theorem Cmp3.fresh {w0 w : World} {g gx gy : Nat} {x y out : List S53} {v : Value} (h : Cmp3 w0 w gx gy x y out v) (hg : g = w.heap.size) : ¬ g = gx ∧ ¬ g = gy := by
 obtain ⟨a, b, _⟩ := h.lt
 omega
set_option maxHeartbeats 8000000 in
set_option maxRecDepth 100000 in
theorem l3_compose (k m : Nat) (A0 A1 : Option Addr) (c0 c1 : Nat) (a b : List S53) (r : List S53) (ok : Bool) (w : World) (hr0 : Kd.C k53 w A0 a.length a) (hc0 : a.length ≤ c0) (hr1 : Kd.C k53 w A1 b.length b) (hc1 : b.length ≤ c1) (ha : a.length ≤ 1000) (hb : b.length ≤ 1000) (h : cmpS k m [] a b = some (r, ok)) :
  Calls Try.prog 62 #[.slice A0 a.length c0, .slice A1 b.length c1] w fun e w' => ∃ v0_ : Value, e = .returned (.tuple #[v0_, .bool ok]) ∧ Kd.R k53 53 w' w.heap.size (fun _ => True) v0_ r ∧ Below w.heap.size w w' := by
 have hu53 := Try.underlying53
 have hu92 := Try.underlying92
 have HR0 := aM hr0
 have HR1 := aM hr1
 have HN := aM (And.intro ha hb)
 have HC := aM (And.intro hc0 hc1)
 have H' := aM h
 clear hr0 hr1 ha hb hc0 hc1 h
 go_enter Try.func62, Try.ntmps62
 go_wp2_with (first | ((with_reducible refine gate_dst (N := 14) rfl ?_); refine box_event ?hg (N := 14) ?hd (cs := #[.slice A0 a.length c0]) (t := 92) ?hr ?_; (case hd => rfl); (case hg => rfl); (case hr => exact aP21); intro gx hggx_ wgx hbox hb; have HX := aM hbox; have BX := aM hb; have GX := aM hggx_; clear hbox hb hggx_) | ((with_reducible refine gate_dst (N := 17) rfl ?_); refine box_event ?hg (N := 17) ?hd (cs := #[.slice A1 b.length c1]) (t := 92) ?hr ?_; (case hd => rfl); (case hg => rfl); (case hr => exact aP21); intro gy hggy_ wgy hbox hb; have HY := aM hbox; have HX2 := aM (blk_below HX.out hb); have BY := aM hb; have GY := aM hggy_; clear hbox hb hggy_))
 have l1 := BX.out.size
 have l2 : wgx.heap.size ≤ wgy.heap.size := BY.out.size
 have l3 : gx < wgx.heap.size := blk_lt HX.out
 have e1 : gx = w.heap.size := GX.out
 have e2 : gy = wgx.heap.size := GY.out
 have HB := aM (below_step BX.out BY.out)
 have IX := aM (cmp_init (gx := gx) (gy := gy) HX2.out HC.out.1 HR0.out HB.out (Nat.le_of_eq e1.symm) (by omega))
 have IY := aM (cmp_init (gx := gx) (gy := gy) HY.out HC.out.2 HR1.out HB.out (Nat.le_of_eq e1.symm) (by omega))
 have NE := aM (show gx ≠ gy ∧ w.heap.size ≤ gx ∧ w.heap.size ≤ gy by omega)
 clear HX HX2 HY BX BY HC l1 l2 l3 e1 e2 GX GY HR0 HR1
 have C0 := aM (⟨IX.out, IY.out, Kd.R_nil _ _ _ _ _, (by intro q; cases q), (by intro q; cases q), HB.out, NE.out.1, NE.out.2.1, NE.out.2.2⟩ : Cmp3 w wgy gx gy a b [] (.slice none 0 0))
 clear IX IY NE HB
 go_loopg [6] m (fun kq v6 w' => ∃ (out x y : List S53), Aside0 (cmpS k kq out x y = some (r, ok)) ∧ Aside0 (x.length ≤ 1000 ∧ y.length ≤ 1000) ∧ Aside0 (Cmp3 w w' gx gy x y out v6))
 case atStart => exact ⟨[], a, b, H', HN, C0⟩
 case round =>
  clear H' C0 HN
  obtain ⟨out, x, y, HA, HN, C0⟩ := hrel
  cases gk with
  | zero => exact absurd HA.out (by simp [cmpS])
  | succ m1 =>
   have H := HA.out
   clear HA
   cases x with
   | nil =>
    cases y with
    | nil =>
     have H1 : some (out, true) = some (r, ok) := H
     clear H
     simp only [Option.some.injEq, Prod.mk.injEq] at H1
     obtain ⟨rfl, rfl⟩ := H1
     go_wp2_with (first | (go_at_call 79; with_reducible refine (l3_done_nil _ gx _ C0.out.rx).mono ?_; rintro e w_ ⟨rfl, rfl⟩) | (go_at_call 79; with_reducible refine (l3_done_nil _ gy _ C0.out.ry).mono ?_; rintro e w_ ⟨rfl, rfl⟩))
     go_ret2
     exact ⟨_, rfl, Kd.R_mono C0.out.row (fun _ _ => trivial), C0.out.bel⟩
    | cons q y =>
     obtain ⟨Ay, cy, hk_, hc_, hr_, _⟩ := C0.out.ry
     have c1 := (blk_cell hk_ 0).trans (show _ = some (Value.slice Ay (y.length + 1) cy) from rfl)
     obtain ⟨ady, e3, hy0, hy1, hy2⟩ := at_T53 hr_ 0 (Int.le_refl _) (by rw [List.length_cons]; omega)
     cases e3
     rw [show ((0 : Int)).toNat = 0 from rfl, show 0 * 3 = 0 from rfl, Addr.add_zero', show rd_T53 (q :: y) 0 = q from rfl] at hy0 hy1 hy2
     have y0 : ((0 : Int) < (y.length : Int) + 1) = True := eq_true (by omega)
     have y1 : (0 < y.length + 1) = True := eq_true (by omega)
     clear hk_ hc_ hr_
     by_cases hq : q.f1.toList = ([] : List UInt8)
     ·rw [cmpS, if_pos hq] at H
      have eB0 : (q.f1.toList == ([] : List UInt8)) = true := beq_iff_eq.mpr hq
      have eB1 : (q.f1.toList != ([] : List UInt8)) = false := bne_eq_false_iff_eq.mpr hq
      have eB2 : q.f1.toList.isEmpty = true := List.isEmpty_iff.mpr hq
      clear hq
      simp only [Option.some.injEq, Prod.mk.injEq] at H
      obtain ⟨rfl, rfl⟩ := H
      go_wp2_with (first | (go_at_call 79; with_reducible refine (l3_done_nil _ gx _ C0.out.rx).mono ?_; rintro e w_ ⟨rfl, rfl⟩) | (go_at_call 79; with_reducible refine (l3_done_cons _ gy q y _ C0.out.ry).mono ?_; rintro e w_ ⟨rfl, rfl⟩))
      go_ret2
      exact ⟨_, rfl, Kd.R_nil _ _ _ _ _, C0.out.bel⟩
     rw [cmpS, if_neg hq] at H
     have eB0 : (q.f1.toList == ([] : List UInt8)) = false := beq_eq_false_iff_ne.mpr hq
     have eB1 : (q.f1.toList != ([] : List UInt8)) = true := bne_iff_ne.mpr hq
     have eB2 : q.f1.toList.isEmpty = false := List.isEmpty_eq_false_iff.mpr hq
     clear hq
     obtain ⟨o, hadd, H⟩ := Option.bind_eq_some_iff.mp H
     have HADD := aM hadd
     have H' := aM H
     clear hadd H
     go_wp2_with (first | (go_at_call 79; with_reducible refine (l3_done_nil _ gx _ C0.out.rx).mono ?_; rintro e w_ ⟨rfl, rfl⟩) | (go_at_call 79; with_reducible refine (l3_done_cons _ gy q y _ C0.out.ry).mono ?_; rintro e w_ ⟨rfl, rfl⟩) | (go_at_call 81; with_reducible refine (l3_size _ gy q y _ C0.out.ry).mono ?_; rintro e wd ⟨rfl, ⟨nd, hnd⟩⟩; have C1 := aM (C0.out.below (hnd ▸ pw_below_drewN (Below.refl _ _) nd)); clear hnd) | (go_at_call 80; with_reducible refine (l3_take _ gy q y _ (szQ q) q y C1.out.ry (cmpB_y _ _ _) C1.out.lt.2.2 (by have := HN.out.2; simp only [List.length_cons] at this; omega) (takQ_all q y)).mono ?_; rintro e w3 ⟨rfl, hx3, hk3⟩; have C2 := aM (C1.out.takeY hx3 hk3); clear hx3 hk3) | (go_at_call 41; with_reducible refine (jA.calls k (fun k_ => u6.ownBlock = some k_) u6 out q.f0 q.f1 q.f2 o w _ C2.out.bel C2.out.row HADD.out).mono ?_; rintro e w4 ⟨v7, rfl, hr4, hb4, hk4⟩; have C3 := aM (C2.out.add hr4 hb4 hk4); clear hr4 hb4 hk4))
     go_roundg m1
     case measure => omega
     case rel => exact ⟨o, [], y, H', ⟨by have := HN.out; simp only [List.length_cons] at this ⊢; omega⟩, C3⟩
   | cons p x =>
    obtain ⟨Ax, cx, hk_, hc_, hr_, _⟩ := C0.out.rx
    have c0 := (blk_cell hk_ 0).trans (show _ = some (Value.slice Ax (x.length + 1) cx) from rfl)
    obtain ⟨adx, e3, hx0, hx1, hx2⟩ := at_T53 hr_ 0 (Int.le_refl _) (by rw [List.length_cons]; omega)
    cases e3
    rw [show ((0 : Int)).toNat = 0 from rfl, show 0 * 3 = 0 from rfl, Addr.add_zero', show rd_T53 (p :: x) 0 = p from rfl] at hx0 hx1 hx2
    have x0 : ((0 : Int) < (x.length : Int) + 1) = True := eq_true (by omega)
    have x1 : (0 < x.length + 1) = True := eq_true (by omega)
    clear hk_ hc_ hr_
    by_cases hd : p.f2.toList = ([] : List UInt8)
    rotate_left
    ·rw [cmpS_drop hd] at H
     have dB0 : (p.f2.toList == ([] : List UInt8)) = false := beq_eq_false_iff_ne.mpr hd
     have dB1 : (p.f2.toList != ([] : List UInt8)) = true := bne_iff_ne.mpr hd
     have dB2 : p.f2.toList.isEmpty = false := List.isEmpty_eq_false_iff.mpr hd
     clear hd
     obtain ⟨o, hadd, H⟩ := Option.bind_eq_some_iff.mp H
     have HADD := aM hadd
     have H' := aM H
     clear hadd H
     go_wp2_with (first | (go_at_call 79; with_reducible refine (l3_done_cons _ gx p x _ C0.out.rx).mono ?_; rintro e w_ ⟨rfl, rfl⟩) | (go_at_call 81; with_reducible refine (l3_size _ gx p x _ C0.out.rx).mono ?_; rintro e wd ⟨rfl, ⟨nd, hnd⟩⟩; have C1 := aM (C0.out.below (hnd ▸ pw_below_drewN (Below.refl _ _) nd)); clear hnd) | (go_at_call 80; with_reducible refine (l3_take _ gx p x _ (szQ p) p x C1.out.rx (cmpB_x _ _ _) C1.out.lt.2.2 (by have := HN.out.1; simp only [List.length_cons] at this; omega) (takQ_all p x)).mono ?_; rintro e w3 ⟨rfl, hx3, hk3⟩; have C2 := aM (C1.out.takeX hx3 hk3); clear hx3 hk3) | (go_at_call 41; with_reducible refine (jA.calls k (fun k_ => u6.ownBlock = some k_) u6 out p.f0 p.f1 p.f2 o w _ C2.out.bel C2.out.row HADD.out).mono ?_; rintro e w4 ⟨v7, rfl, hr4, hb4, hk4⟩; have C3 := aM (C2.out.add hr4 hb4 hk4); clear hr4 hb4 hk4))
     go_roundg m1
     case measure => omega
     case rel => exact ⟨o, x, y, H', ⟨by have := HN.out; simp only [List.length_cons] at this ⊢; omega⟩, C3⟩
    cases y with
    | nil =>
     rw [cmpS, if_pos hd] at H
     have dB0 : (p.f2.toList == ([] : List UInt8)) = true := beq_iff_eq.mpr hd
     have dB1 : (p.f2.toList != ([] : List UInt8)) = false := bne_eq_false_iff_eq.mpr hd
     have dB2 : p.f2.toList.isEmpty = true := List.isEmpty_iff.mpr hd
     clear hd
     simp only [Option.some.injEq, Prod.mk.injEq] at H
     obtain ⟨rfl, rfl⟩ := H
     go_wp2_with (first | (go_at_call 79; with_reducible refine (l3_done_cons _ gx p x _ C0.out.rx).mono ?_; rintro e w_ ⟨rfl, rfl⟩) | (go_at_call 79; with_reducible refine (l3_done_nil _ gy _ C0.out.ry).mono ?_; rintro e w_ ⟨rfl, rfl⟩))
     go_ret2
     exact ⟨_, rfl, Kd.R_nil _ _ _ _ _, C0.out.bel⟩
    | cons q y =>
     obtain ⟨Ay, cy, hk_, hc_, hr_, _⟩ := C0.out.ry
     have c1 := (blk_cell hk_ 0).trans (show _ = some (Value.slice Ay (y.length + 1) cy) from rfl)
     obtain ⟨ady, e3, hy0, hy1, hy2⟩ := at_T53 hr_ 0 (Int.le_refl _) (by rw [List.length_cons]; omega)
     cases e3
     rw [show ((0 : Int)).toNat = 0 from rfl, show 0 * 3 = 0 from rfl, Addr.add_zero', show rd_T53 (q :: y) 0 = q from rfl] at hy0 hy1 hy2
     have y0 : ((0 : Int) < (y.length : Int) + 1) = True := eq_true (by omega)
     have y1 : (0 < y.length + 1) = True := eq_true (by omega)
     clear hk_ hc_ hr_
     rw [cmpS, if_pos hd] at H
     have dB0 : (p.f2.toList == ([] : List UInt8)) = true := beq_iff_eq.mpr hd
     have dB1 : (p.f2.toList != ([] : List UInt8)) = false := bne_eq_false_iff_eq.mpr hd
     have dB2 : p.f2.toList.isEmpty = true := List.isEmpty_iff.mpr hd
     clear hd
     by_cases hq : q.f1.toList = ([] : List UInt8)
     rotate_left
     ·rw [if_neg hq] at H
      have eB0 : (q.f1.toList == ([] : List UInt8)) = false := beq_eq_false_iff_ne.mpr hq
      have eB1 : (q.f1.toList != ([] : List UInt8)) = true := bne_iff_ne.mpr hq
      have eB2 : q.f1.toList.isEmpty = false := List.isEmpty_eq_false_iff.mpr hq
      clear hq
      obtain ⟨o, hadd, H⟩ := Option.bind_eq_some_iff.mp H
      have HADD := aM hadd
      have H' := aM H
      clear hadd H
      go_wp2_with (first | (go_at_call 79; with_reducible refine (l3_done_cons _ gx p x _ C0.out.rx).mono ?_; rintro e w_ ⟨rfl, rfl⟩) | (go_at_call 79; with_reducible refine (l3_done_cons _ gy q y _ C0.out.ry).mono ?_; rintro e w_ ⟨rfl, rfl⟩) | (go_at_call 81; with_reducible refine (l3_size _ gy q y _ C0.out.ry).mono ?_; rintro e wd ⟨rfl, ⟨nd, hnd⟩⟩; have C1 := aM (C0.out.below (hnd ▸ pw_below_drewN (Below.refl _ _) nd)); clear hnd) | (go_at_call 80; with_reducible refine (l3_take _ gy q y _ (szQ q) q y C1.out.ry (cmpB_y _ _ _) C1.out.lt.2.2 (by have := HN.out.2; simp only [List.length_cons] at this; omega) (takQ_all q y)).mono ?_; rintro e w3 ⟨rfl, hx3, hk3⟩; have C2 := aM (C1.out.takeY hx3 hk3); clear hx3 hk3) | (go_at_call 41; with_reducible refine (jA.calls k (fun k_ => u6.ownBlock = some k_) u6 out q.f0 q.f1 q.f2 o w _ C2.out.bel C2.out.row HADD.out).mono ?_; rintro e w4 ⟨v7, rfl, hr4, hb4, hk4⟩; have C3 := aM (C2.out.add hr4 hb4 hk4); clear hr4 hb4 hk4))
      go_roundg m1
      case measure => omega
      case rel => exact ⟨o, (p :: x), y, H', ⟨by have := HN.out; simp only [List.length_cons] at this ⊢; omega⟩, C3⟩
     rw [if_pos hq] at H
     have eB0 : (q.f1.toList == ([] : List UInt8)) = true := beq_iff_eq.mpr hq
     have eB1 : (q.f1.toList != ([] : List UInt8)) = false := bne_eq_false_iff_eq.mpr hq
     have eB2 : q.f1.toList.isEmpty = true := List.isEmpty_iff.mpr hq
     clear hq
     go_upto_region 11 with (first | (go_at_call 79; with_reducible refine (l3_done_cons _ gx p x _ C0.out.rx).mono ?_; rintro e w_ ⟨rfl, rfl⟩) | (go_at_call 79; with_reducible refine (l3_done_cons _ gy q y _ C0.out.ry).mono ?_; rintro e w_ ⟨rfl, rfl⟩))
     clear hx0 hx1 hx2 hy0 hy1 hy2 c0 c1 x0 x1 y0 y1 dB0 dB1 dB2 eB0 eB1 eB2
     by_cases hn : szQ q < szQ p
     rotate_left
     ·rw [if_neg hn] at H
      have n0 : decide (szQ q < szQ p) = false := decide_eq_false hn
      clear hn
      obtain ⟨⟨s1, s2⟩, hs, H2⟩ := Option.bind_eq_some_iff.mp H
      clear H
      dsimp only at H2
      obtain ⟨⟨t1, t2⟩, ht, H⟩ := Option.bind_eq_some_iff.mp H2
      dsimp only at H
      have HS := aM hs
      have HT := aM ht
      clear hs ht H2
      go_upto_region 14 with (first | (go_at_call 81; with_reducible refine (l3_size _ gx p x _ C0.out.rx).mono ?_; rintro e wd ⟨rfl, ⟨nd, hnd⟩⟩; have C1 := aM (C0.out.below (hnd ▸ pw_below_drewN (Below.refl _ _) nd)); clear hnd) | (go_at_call 81; with_reducible refine (l3_size _ gy q y _ C1.out.ry).mono ?_; rintro e wd ⟨rfl, ⟨nd, hnd⟩⟩; have C2 := aM (C1.out.below (hnd ▸ pw_below_drewN (Below.refl _ _) nd)); clear hnd))
      clear n0
      go_upto_region 15 with (first | (go_at_call 80; with_reducible refine (l3_take _ gx p x _ (szQ p) s1 s2 C2.out.rx (cmpB_x _ _ _) C2.out.lt.2.2 (by have := HN.out.1; simp only [List.length_cons] at this; omega) HS.out).mono ?_; rintro e w3 ⟨rfl, hx3, hk3⟩; have C4 := aM (C2.out.takeX hx3 hk3); clear hx3 hk3) | ((with_reducible refine gate_dst (N := 10) rfl ?_); refine box_event ?hg (N := 10) ?hd (cs := #[.int .i64 0, .string (⟨#[]⟩ : ByteArray), .string (⟨#[]⟩ : ByteArray)]) (t := 53) ?hr ?_; (case hd => rfl); (case hg => rfl); (case hr => exact aP21); intro gp hg_ w4 hbox hb; have BX := aM hbox; have GB := aM hg_; have BB := aM hb; have z0 := (blk_cell hbox 0).trans (show _ = some (Value.int .i64 0) from rfl); have z1 := (blk_cell hbox 1).trans (show _ = some (Value.string ⟨#[]⟩) from rfl); have z2 := (blk_cell hbox 2).trans (show _ = some (Value.string ⟨#[]⟩) from rfl); have f0 := blk_frozen hbox 0; have f1 := blk_frozen hbox 1; have f2 := blk_frozen hbox 2; clear hbox hb hg_))
      have C6 := aM (C4.out.box3 (g := gp) BB.out GB.out (.int .i64 s1.f0) (.string s1.f1) (.string s1.f2))
      have B6 := aM (blk3 BX.out s1.f0 s1.f1 s1.f2)
      have L6 := aM (show gp < w4.heap.size ∧ w.heap.size ≤ gp from ⟨blk_lt BX.out, by rw [GB.out]; exact C4.out.bel.size⟩)
      have NX := aM (C4.out.fresh GB.out)
      clear C4 BX GB BB z0 z1 z2 f0 f1 f2
      generalize ((w4.setCell ⟨gp, 0, none⟩ (.int .i64 s1.f0)).setCell ⟨gp, 1, none⟩ (.string s1.f1)).setCell ⟨gp, 2, none⟩ (.string s1.f2) = v4 at C6 B6 ⊢
      go_upto_region 16 with (first | (go_at_call 80; with_reducible refine (l3_take _ gy q y _ (szQ p) t1 t2 C6.out.ry (cmpB_y _ _ _) C6.out.lt.2.2 (by have := HN.out.2; simp only [List.length_cons] at this; omega) HT.out).mono ?_; rintro e w5 ⟨rfl, hx5, hk5⟩; have C7 := aM (C6.out.takeY hx5 hk5); have K5 := aM hk5; clear hx5 hk5) | ((with_reducible refine gate_dst (N := 11) rfl ?_); refine box_event ?hg (N := 11) ?hd (cs := #[.int .i64 0, .string (⟨#[]⟩ : ByteArray), .string (⟨#[]⟩ : ByteArray)]) (t := 53) ?hr ?_; (case hd => rfl); (case hg => rfl); (case hr => exact aP21); intro gq hg_ w6 hbox hb; have BX := aM hbox; have GB := aM hg_; have BB := aM hb; have z0 := (blk_cell hbox 0).trans (show _ = some (Value.int .i64 0) from rfl); have z1 := (blk_cell hbox 1).trans (show _ = some (Value.string ⟨#[]⟩) from rfl); have z2 := (blk_cell hbox 2).trans (show _ = some (Value.string ⟨#[]⟩) from rfl); have f0 := blk_frozen hbox 0; have f1 := blk_frozen hbox 1; have f2 := blk_frozen hbox 2; clear hbox hb hg_))
      have B8 := aM (blk_below (blk_kept B6.out K5.out.kept NX.out.2) BB.out)
      have C9 := aM (C7.out.box3 (g := gq) BB.out GB.out (.int .i64 t1.f0) (.string t1.f1) (.string t1.f2))
      have NQ := aM (show gp ≠ gq from by rw [GB.out]; exact Nat.ne_of_lt (blk_lt (blk_kept B6.out K5.out.kept NX.out.2)))
      have B9 := aM (blk3 BX.out t1.f0 t1.f1 t1.f2)
      have D9 := aM (blk_far (blk_far (blk_far B8.out (p := ⟨gq, 0, none⟩) NQ.out (.int .i64 t1.f0)) (p := ⟨gq, 1, none⟩) NQ.out (.string t1.f1)) (p := ⟨gq, 2, none⟩) NQ.out (.string t1.f2))
      clear C7 BX GB BB z0 z1 z2 f0 f1 f2 B8 B6 C6 K5
      generalize ((w6.setCell ⟨gq, 0, none⟩ (.int .i64 t1.f0)).setCell ⟨gq, 1, none⟩ (.string t1.f1)).setCell ⟨gq, 2, none⟩ (.string t1.f2) = v6 at C9 B9 D9 ⊢
      have a0 := (blk_cell D9.out 0).trans (show _ = some (Value.int .i64 s1.f0) from rfl)
      have a1 := (blk_cell D9.out 1).trans (show _ = some (Value.string s1.f1) from rfl)
      have a2 := (blk_cell D9.out 2).trans (show _ = some (Value.string s1.f2) from rfl)
      have b0 := (blk_cell B9.out 0).trans (show _ = some (Value.int .i64 t1.f0) from rfl)
      have b1 := (blk_cell B9.out 1).trans (show _ = some (Value.string t1.f1) from rfl)
      have b2 := (blk_cell B9.out 2).trans (show _ = some (Value.string t1.f2) from rfl)
      by_cases hk : 0 < s1.f0
      ·rw [if_pos hk] at H
       have k0 : decide (s1.f0 > 0) = true := decide_eq_true hk
       have k1 : (s1.f0 > 0) = True := eq_true hk
       clear hk
       obtain ⟨o, hadd, H⟩ := Option.bind_eq_some_iff.mp H
       have HADD := aM hadd
       have H' := aM H
       clear hadd H
       go_wp2_with (first | (go_at_call 41; with_reducible refine (jA.calls k (fun k_ => u6.ownBlock = some k_) u6 out t1.f0 t1.f1 t1.f2 o w _ C9.out.bel C9.out.row HADD.out).mono ?_; rintro e w4 ⟨v7, rfl, hr4, hb4, hk4⟩; have CA := aM (C9.out.add hr4 hb4 hk4); clear hr4 hb4 hk4))
       go_roundg m1
       case measure => omega
       case rel => exact ⟨o, s2, t2, H', ⟨Nat.le_trans (takQ_len HS.out) HN.out.1, Nat.le_trans (takQ_len HT.out) HN.out.2⟩, CA⟩
      rw [if_neg hk] at H
      have k0 : decide (s1.f0 > 0) = false := decide_eq_false hk
      have k1 : (s1.f0 > 0) = False := eq_false hk
      clear hk
      by_cases hq : 0 < t1.f0
      ·rw [if_pos hq] at H
       have q0 : decide (t1.f0 > 0) = true := decide_eq_true hq
       have q1 : (t1.f0 > 0) = True := eq_true hq
       clear hq
       obtain ⟨o, hadd, H⟩ := Option.bind_eq_some_iff.mp H
       have HADD := aM hadd
       have H' := aM H
       clear hadd H
       go_wp2_with (first | (go_at_call 41; with_reducible refine (jA.calls k (fun k_ => u6.ownBlock = some k_) u6 out s1.f0 s1.f1 s1.f2 o w _ C9.out.bel C9.out.row HADD.out).mono ?_; rintro e w4 ⟨v7, rfl, hr4, hb4, hk4⟩; have CA := aM (C9.out.add hr4 hb4 hk4); clear hr4 hb4 hk4))
       go_roundg m1
       case measure => omega
       case rel => exact ⟨o, s2, t2, H', ⟨Nat.le_trans (takQ_len HS.out) HN.out.1, Nat.le_trans (takQ_len HT.out) HN.out.2⟩, CA⟩
      rw [if_neg hq] at H
      have q0 : decide (t1.f0 > 0) = false := decide_eq_false hq
      have q1 : (t1.f0 > 0) = False := eq_false hq
      clear hq
      by_cases he : s1.f1 = t1.f2
      rotate_left
      ·rw [if_neg he] at H
       simp only [Option.some.injEq, Prod.mk.injEq] at H
       obtain ⟨rfl, rfl⟩ := H
       have e2 : (s1.f1.toList == t1.f2.toList) = false := beq_eq_false_iff_ne.mpr (fun z => he (ba_inj z))
       have e3 : (s1.f1.toList != t1.f2.toList) = true := bne_iff_ne.mpr (fun z => he (ba_inj z))
       clear he
       go_wp2_with fail
       go_ret2
       exact ⟨_, rfl, Kd.R_nil _ _ _ _ _, C9.out.bel⟩
      rw [if_pos he] at H
      have H' := aM H
      have e2 : (s1.f1.toList == t1.f2.toList) = true := by rw [he]; exact beq_iff_eq.mpr rfl
      have e3 : (s1.f1.toList != t1.f2.toList) = false := by rw [he]; exact bne_eq_false_iff_eq.mpr rfl
      clear he H
      go_wp2_with fail
      go_roundg m1
      case measure => omega
      case rel => exact ⟨out, s2, t2, H', ⟨Nat.le_trans (takQ_len HS.out) HN.out.1, Nat.le_trans (takQ_len HT.out) HN.out.2⟩, C9⟩
     rw [if_pos hn] at H
     have n0 : decide (szQ q < szQ p) = true := decide_eq_true hn
     clear hn
     obtain ⟨⟨s1, s2⟩, hs, H2⟩ := Option.bind_eq_some_iff.mp H
     clear H
     dsimp only at H2
     obtain ⟨⟨t1, t2⟩, ht, H⟩ := Option.bind_eq_some_iff.mp H2
     dsimp only at H
     have HS := aM hs
     have HT := aM ht
     clear hs ht H2
     go_upto_region 14 with (first | (go_at_call 81; with_reducible refine (l3_size _ gx p x _ C0.out.rx).mono ?_; rintro e wd ⟨rfl, ⟨nd, hnd⟩⟩; have C1 := aM (C0.out.below (hnd ▸ pw_below_drewN (Below.refl _ _) nd)); clear hnd) | (go_at_call 81; with_reducible refine (l3_size _ gy q y _ C1.out.ry).mono ?_; rintro e wd ⟨rfl, ⟨nd, hnd⟩⟩; have C2 := aM (C1.out.below (hnd ▸ pw_below_drewN (Below.refl _ _) nd)); clear hnd) | (go_at_call 81; with_reducible refine (l3_size _ gy q y _ C2.out.ry).mono ?_; rintro e wd ⟨rfl, ⟨nd, hnd⟩⟩; have C3 := aM (C2.out.below (hnd ▸ pw_below_drewN (Below.refl _ _) nd)); clear hnd))
     clear n0
     go_upto_region 15 with (first | (go_at_call 80; with_reducible refine (l3_take _ gx p x _ (szQ q) s1 s2 C3.out.rx (cmpB_x _ _ _) C3.out.lt.2.2 (by have := HN.out.1; simp only [List.length_cons] at this; omega) HS.out).mono ?_; rintro e w3 ⟨rfl, hx3, hk3⟩; have C4 := aM (C3.out.takeX hx3 hk3); clear hx3 hk3) | ((with_reducible refine gate_dst (N := 10) rfl ?_); refine box_event ?hg (N := 10) ?hd (cs := #[.int .i64 0, .string (⟨#[]⟩ : ByteArray), .string (⟨#[]⟩ : ByteArray)]) (t := 53) ?hr ?_; (case hd => rfl); (case hg => rfl); (case hr => exact aP21); intro gp hg_ w4 hbox hb; have BX := aM hbox; have GB := aM hg_; have BB := aM hb; have z0 := (blk_cell hbox 0).trans (show _ = some (Value.int .i64 0) from rfl); have z1 := (blk_cell hbox 1).trans (show _ = some (Value.string ⟨#[]⟩) from rfl); have z2 := (blk_cell hbox 2).trans (show _ = some (Value.string ⟨#[]⟩) from rfl); have f0 := blk_frozen hbox 0; have f1 := blk_frozen hbox 1; have f2 := blk_frozen hbox 2; clear hbox hb hg_))
     have C6 := aM (C4.out.box3 (g := gp) BB.out GB.out (.int .i64 s1.f0) (.string s1.f1) (.string s1.f2))
     have B6 := aM (blk3 BX.out s1.f0 s1.f1 s1.f2)
     have L6 := aM (show gp < w4.heap.size ∧ w.heap.size ≤ gp from ⟨blk_lt BX.out, by rw [GB.out]; exact C4.out.bel.size⟩)
     have NX := aM (C4.out.fresh GB.out)
     clear C4 BX GB BB z0 z1 z2 f0 f1 f2
     generalize ((w4.setCell ⟨gp, 0, none⟩ (.int .i64 s1.f0)).setCell ⟨gp, 1, none⟩ (.string s1.f1)).setCell ⟨gp, 2, none⟩ (.string s1.f2) = v4 at C6 B6 ⊢
     go_upto_region 16 with (first | (go_at_call 80; with_reducible refine (l3_take _ gy q y _ (szQ q) t1 t2 C6.out.ry (cmpB_y _ _ _) C6.out.lt.2.2 (by have := HN.out.2; simp only [List.length_cons] at this; omega) HT.out).mono ?_; rintro e w5 ⟨rfl, hx5, hk5⟩; have C7 := aM (C6.out.takeY hx5 hk5); have K5 := aM hk5; clear hx5 hk5) | ((with_reducible refine gate_dst (N := 11) rfl ?_); refine box_event ?hg (N := 11) ?hd (cs := #[.int .i64 0, .string (⟨#[]⟩ : ByteArray), .string (⟨#[]⟩ : ByteArray)]) (t := 53) ?hr ?_; (case hd => rfl); (case hg => rfl); (case hr => exact aP21); intro gq hg_ w6 hbox hb; have BX := aM hbox; have GB := aM hg_; have BB := aM hb; have z0 := (blk_cell hbox 0).trans (show _ = some (Value.int .i64 0) from rfl); have z1 := (blk_cell hbox 1).trans (show _ = some (Value.string ⟨#[]⟩) from rfl); have z2 := (blk_cell hbox 2).trans (show _ = some (Value.string ⟨#[]⟩) from rfl); have f0 := blk_frozen hbox 0; have f1 := blk_frozen hbox 1; have f2 := blk_frozen hbox 2; clear hbox hb hg_))
     have B8 := aM (blk_below (blk_kept B6.out K5.out.kept NX.out.2) BB.out)
     have C9 := aM (C7.out.box3 (g := gq) BB.out GB.out (.int .i64 t1.f0) (.string t1.f1) (.string t1.f2))
     have NQ := aM (show gp ≠ gq from by rw [GB.out]; exact Nat.ne_of_lt (blk_lt (blk_kept B6.out K5.out.kept NX.out.2)))
     have B9 := aM (blk3 BX.out t1.f0 t1.f1 t1.f2)
     have D9 := aM (blk_far (blk_far (blk_far B8.out (p := ⟨gq, 0, none⟩) NQ.out (.int .i64 t1.f0)) (p := ⟨gq, 1, none⟩) NQ.out (.string t1.f1)) (p := ⟨gq, 2, none⟩) NQ.out (.string t1.f2))
     clear C7 BX GB BB z0 z1 z2 f0 f1 f2 B8 B6 C6 K5
     generalize ((w6.setCell ⟨gq, 0, none⟩ (.int .i64 t1.f0)).setCell ⟨gq, 1, none⟩ (.string t1.f1)).setCell ⟨gq, 2, none⟩ (.string t1.f2) = v6 at C9 B9 D9 ⊢
     have a0 := (blk_cell D9.out 0).trans (show _ = some (Value.int .i64 s1.f0) from rfl)
     have a1 := (blk_cell D9.out 1).trans (show _ = some (Value.string s1.f1) from rfl)
     have a2 := (blk_cell D9.out 2).trans (show _ = some (Value.string s1.f2) from rfl)
     have b0 := (blk_cell B9.out 0).trans (show _ = some (Value.int .i64 t1.f0) from rfl)
     have b1 := (blk_cell B9.out 1).trans (show _ = some (Value.string t1.f1) from rfl)
     have b2 := (blk_cell B9.out 2).trans (show _ = some (Value.string t1.f2) from rfl)
     by_cases hk : 0 < s1.f0
     ·rw [if_pos hk] at H
      have k0 : decide (s1.f0 > 0) = true := decide_eq_true hk
      have k1 : (s1.f0 > 0) = True := eq_true hk
      clear hk
      obtain ⟨o, hadd, H⟩ := Option.bind_eq_some_iff.mp H
      have HADD := aM hadd
      have H' := aM H
      clear hadd H
      go_wp2_with (first | (go_at_call 41; with_reducible refine (jA.calls k (fun k_ => u6.ownBlock = some k_) u6 out t1.f0 t1.f1 t1.f2 o w _ C9.out.bel C9.out.row HADD.out).mono ?_; rintro e w4 ⟨v7, rfl, hr4, hb4, hk4⟩; have CA := aM (C9.out.add hr4 hb4 hk4); clear hr4 hb4 hk4))
      go_roundg m1
      case measure => omega
      case rel => exact ⟨o, s2, t2, H', ⟨Nat.le_trans (takQ_len HS.out) HN.out.1, Nat.le_trans (takQ_len HT.out) HN.out.2⟩, CA⟩
     rw [if_neg hk] at H
     have k0 : decide (s1.f0 > 0) = false := decide_eq_false hk
     have k1 : (s1.f0 > 0) = False := eq_false hk
     clear hk
     by_cases hq : 0 < t1.f0
     ·rw [if_pos hq] at H
      have q0 : decide (t1.f0 > 0) = true := decide_eq_true hq
      have q1 : (t1.f0 > 0) = True := eq_true hq
      clear hq
      obtain ⟨o, hadd, H⟩ := Option.bind_eq_some_iff.mp H
      have HADD := aM hadd
      have H' := aM H
      clear hadd H
      go_wp2_with (first | (go_at_call 41; with_reducible refine (jA.calls k (fun k_ => u6.ownBlock = some k_) u6 out s1.f0 s1.f1 s1.f2 o w _ C9.out.bel C9.out.row HADD.out).mono ?_; rintro e w4 ⟨v7, rfl, hr4, hb4, hk4⟩; have CA := aM (C9.out.add hr4 hb4 hk4); clear hr4 hb4 hk4))
      go_roundg m1
      case measure => omega
      case rel => exact ⟨o, s2, t2, H', ⟨Nat.le_trans (takQ_len HS.out) HN.out.1, Nat.le_trans (takQ_len HT.out) HN.out.2⟩, CA⟩
     rw [if_neg hq] at H
     have q0 : decide (t1.f0 > 0) = false := decide_eq_false hq
     have q1 : (t1.f0 > 0) = False := eq_false hq
     clear hq
     by_cases he : s1.f1 = t1.f2
     rotate_left
     ·rw [if_neg he] at H
      simp only [Option.some.injEq, Prod.mk.injEq] at H
      obtain ⟨rfl, rfl⟩ := H
      have e2 : (s1.f1.toList == t1.f2.toList) = false := beq_eq_false_iff_ne.mpr (fun z => he (ba_inj z))
      have e3 : (s1.f1.toList != t1.f2.toList) = true := bne_iff_ne.mpr (fun z => he (ba_inj z))
      clear he
      go_wp2_with fail
      go_ret2
      exact ⟨_, rfl, Kd.R_nil _ _ _ _ _, C9.out.bel⟩
     rw [if_pos he] at H
     have H' := aM H
     have e2 : (s1.f1.toList == t1.f2.toList) = true := by rw [he]; exact beq_iff_eq.mpr rfl
     have e3 : (s1.f1.toList != t1.f2.toList) = false := by rw [he]; exact bne_eq_false_iff_eq.mpr rfl
     clear he H
     go_wp2_with fail
     go_roundg m1
     case measure => omega
     case rel => exact ⟨out, s2, t2, H', ⟨Nat.le_trans (takQ_len HS.out) HN.out.1, Nat.le_trans (takQ_len HT.out) HN.out.2⟩, C9⟩
theorem cmpS_mono (k : Nat) : ∀ (m : Nat) (out x y : List S53), LeO (cmpS k m out x y) (cmpS (k + 1) (m + 1) out x y)
 | 0, out, x, y => by rw [cmpS]; exact LeO.none _
 | m + 1, out, [], [] => by rw [cmpS, cmpS]; exact LeO.refl _
 | m + 1, out, p :: x, [] => by
  rw [cmpS, cmpS]
  exact LeO.ite (LeO.refl _) (LeO.bind (jA.mono _ _ _ _ _) (fun _ => cmpS_mono k m _ _ _))
 | m + 1, out, [], q :: y => by
  rw [cmpS, cmpS]
  exact LeO.ite (LeO.refl _) (LeO.bind (jA.mono _ _ _ _ _) (fun _ => cmpS_mono k m _ _ _))
 | m + 1, out, p :: x, q :: y => by
  rw [cmpS, cmpS]
  exact LeO.ite (LeO.ite (LeO.bind (LeO.refl _) (fun _ => LeO.bind (LeO.refl _) (fun _ => LeO.ite (LeO.bind (jA.mono _ _ _ _ _) (fun _ => cmpS_mono k m _ _ _)) (LeO.ite (LeO.bind (jA.mono _ _ _ _ _) (fun _ => cmpS_mono k m _ _ _)) (LeO.ite (cmpS_mono k m _ _ _) (LeO.refl _))))))
   (LeO.bind (jA.mono _ _ _ _ _) (fun _ => cmpS_mono k m _ _ _))) (LeO.bind (jA.mono _ _ _ _ _) (fun _ => cmpS_mono k m _ _ _))
def jY.f (k : Nat) (a b : List S53) : Option (List S53 × Bool) := if a.length ≤ 1000 ∧ b.length ≤ 1000 then cmpS k k [] a b else none
theorem jY.mono : ∀ a0 a1 k, LeO (jY.f k a0 a1) (jY.f (k + 1) a0 a1) := by
 intro a0 a1 k
 unfold jY.f
 exact LeO.ite (cmpS_mono k k _ _ _) (LeO.refl _)
theorem jY.calls (k : Nat) (A0 : Option Addr) (c0 : Nat) (l0 : List S53) (A1 : Option Addr) (c1 : Nat) (l1 : List S53) (r1 : List S53) (r2 : Bool) (w : World) (hr0 : Kd.C k53 w A0 l0.length l0) (hc0 : l0.length ≤ c0) (hr1 : Kd.C k53 w A1 l1.length l1) (hc1 : l1.length ≤ c1) (h : jY.f k l0 l1 = some (r1, r2)) :
  Calls Try.prog 62 #[.slice A0 l0.length c0, .slice A1 l1.length c1] w fun e w' => ∃ v0_ : Value, e = .returned (.tuple #[v0_, .bool r2]) ∧ Kd.R k53 53 w' w.heap.size (fun _ => True) v0_ r1 ∧ Below w.heap.size w w' := by
 unfold jY.f at h
 by_cases hl : l0.length ≤ 1000 ∧ l1.length ≤ 1000
 rotate_left
 ·rw [if_neg hl] at h; cases h
 rw [if_pos hl] at h
 exact l3_compose k k A0 A1 c0 c1 l0 l1 r1 r2 w hr0 hc0 hr1 hc1 hl.1 hl.2 h
def jG.j0 : Nat → List (S53) → List (S53) → Bool → Option ((List (S53)) × Bool)
 | 0, _, _, _ => none
 | k + 1, x0, x1, x15 => if x15 = true then (some (([] : List (S53)), false)) else ((jQ.f k x0).bind fun t166 => ((jQ.f k x1).bind fun t169 => ((jY.f k t166 t169).bind fun bt172 => (if bt172.2 = true then ((jM.f k bt172.1).bind fun t176 => (if t176 = true then (some (bt172.1, true)) else (some (([] : List (S53)), false)))) else (some (([] : List (S53)), false))))))
def jG.f (k : Nat) (l0 : List (S53)) (l1 : List (S53)) : Option ((List (S53)) × Bool) := (jM.f k l0).bind fun t164 => (if t164 = true then ((jM.f k l1).bind fun t165 => (jG.j0 k l0 l1 (!t165))) else (jG.j0 k l0 l1 true))
theorem jG.mono_l : ∀ k, (∀ y0 y1 y2, LeO (jG.j0 k y0 y1 y2) (jG.j0 (k + 1) y0 y1 y2))
 | 0 => fun _ _ _ r h => by simp [jG.j0] at h
 | k + 1 => by
  have ih0 := jG.mono_l k
  ·intro y0 y1 y2
   unfold jG.j0
   repeat' first
   | (with_reducible exact ih0 _ _ _)
   | (with_reducible exact jM.mono _ _)
   | (with_reducible exact jY.mono _ _ _)
   | (with_reducible exact jQ.mono _ _)
   | (with_reducible exact LeO.refl _)
   | (with_reducible exact LeO.none _)
   | (with_reducible refine LeO.ite ?_ ?_)
   | (with_reducible refine LeO.bind ?_ (fun _ => ?_))
   | exact ih0 _ _ _
   | exact jM.mono _ _
   | exact jY.mono _ _ _
   | exact jQ.mono _ _
   | exact LeO.none _
   | refine LeO.ite ?_ ?_
   | refine LeO.bind ?_ (fun _ => ?_)
theorem jG.mono : ∀ a0 a1 k, LeO (jG.f k a0 a1) (jG.f (k + 1) a0 a1) := by
 intro a0 a1 k
 have ih0 := jG.mono_l k
 unfold jG.f
 repeat' first
   | (with_reducible exact ih0 _ _ _)
   | (with_reducible exact jM.mono _ _)
   | (with_reducible exact jY.mono _ _ _)
   | (with_reducible exact jQ.mono _ _)
   | (with_reducible exact LeO.refl _)
   | (with_reducible exact LeO.none _)
   | (with_reducible refine LeO.ite ?_ ?_)
   | (with_reducible refine LeO.bind ?_ (fun _ => ?_))
   | exact ih0 _ _ _
   | exact jM.mono _ _
   | exact jY.mono _ _ _
   | exact jQ.mono _ _
   | exact LeO.none _
   | refine LeO.ite ?_ ?_
   | refine LeO.bind ?_ (fun _ => ?_)
set_option maxHeartbeats 8000000 in
set_option maxRecDepth 100000 in
theorem jG.calls (k : Nat) (A0 : Option Addr) (c0 : Nat) (l0 : List (S53)) (A1 : Option Addr) (c1 : Nat) (l1 : List (S53)) (r1 : List (S53)) (r2 : Bool) (w : World) (hr0 : Kd.C k53 w A0 l0.length l0) (hc0 : l0.length ≤ c0) (hr1 : Kd.C k53 w A1 l1.length l1) (hc1 : l1.length ≤ c1) (h : jG.f k l0 l1 = some (r1, r2)) :
  Calls Try.prog 33 #[.slice A0 l0.length c0, .slice A1 l1.length c1] w fun e w' => ∃ v0_ : Value, e = .returned (.tuple #[v0_, .bool r2]) ∧ Kd.R k53 53 w' w.heap.size (fun _ => True) v0_ r1 ∧ Below w.heap.size w w' := by
 have HR0 := aM hr0
 have HC0 := aM hc0
 clear hr0 hc0
 have HR1 := aM hr1
 have HC1 := aM hc1
 clear hr1 hc1
 have HB := aM (Below.refl w.heap.size w)
 have H : ((jM.f k l0).bind fun t164 => (if t164 = true then ((jM.f k l1).bind fun t165 => (jG.j0 k l0 l1 (!t165))) else (jG.j0 k l0 l1 true))) = some (r1, r2) := h
 clear h
 have HC3 := aM H
 clear H
 go_enter Try.func33, Try.ntmps33
 go_upto_region 1 with (fail)
 go_cut [15] (fun v15 wc => ∃ (kq : Nat) (x15_2 : Bool), v15 = .bool x15_2 ∧ Aside0 (jG.j0 kq l0 l1 x15_2 = some (r1, r2)) ∧ Aside0 (kq ≤ k) ∧ Aside0 (Below w.heap.size w wc))
 case first =>
  have H := HC3.out
  clear HC3
  replace H := Option.bind_eq_some_iff.mp H
  obtain ⟨t164, A40, H⟩ := H
  replace H : (if t164 = true then ((jM.f k l1).bind fun t165 => (jG.j0 k l0 l1 (!t165))) else (jG.j0 k l0 l1 true)) = some (r1, r2) := H
  have A4 := aM A40
  clear A40
  by_cases c5 : t164 = true
  rotate_left
  ·replace c5 := Bool.eq_false_iff.mpr c5
   subst c5
   have H1 : (jG.j0 k l0 l1 true) = some (r1, r2) := by rw [if_neg (show ¬ (false = true) by decide)] at H; exact H
   clear H
   have H := H1
   clear H1
   have H' := aM H
   clear H
   go_wp2_with (first | ((with_reducible refine gate_callee (f := 20) rfl ?_); refine goesL_ (some 9) rfl rfl Try.func20 (by kernel_rfl) rfl #[.slice A0 l0.length c0] rfl mM ?_; (with_reducible refine (jM.calls k _ _ l0 false _ ?side1 ?side2 A4.out).mono ?_); (case side1 => exact cC (Kd.C_below HR0.out HB.out)); (case side2 => exact HC0.out); rintro e w9 ⟨rfl, hb⟩; refine ⟨_, rfl, ?_⟩; have n0_ := aM (below_step bB hb); clear HB; have HB := n0_; clear n0_; (try clear hb); (try clear hb2); (try clear hk); (try clear hi)))
   go_meet
   case rel => exact ⟨_, (true), aP16, H', ⟨by first | omega | exact Nat.le_refl _⟩, ⟨bB⟩⟩
  subst c5
  have H1 : ((jM.f k l1).bind fun t165 => (jG.j0 k l0 l1 (!t165))) = some (r1, r2) := by rw [if_pos rfl] at H; exact H
  clear H
  have H := H1
  clear H1
  replace H := Option.bind_eq_some_iff.mp H
  obtain ⟨t165, A60, H⟩ := H
  replace H : (jG.j0 k l0 l1 (!t165)) = some (r1, r2) := H
  have A6 := aM A60
  clear A60
  have H' := aM H
  clear H
  go_wp2_with (first | ((with_reducible refine gate_callee (f := 20) rfl ?_); refine goesL_ (some 9) rfl rfl Try.func20 (by kernel_rfl) rfl #[.slice A0 l0.length c0] rfl mM ?_; (with_reducible refine (jM.calls k _ _ l0 true _ ?side1 ?side2 A4.out).mono ?_); (case side1 => exact cC (Kd.C_below HR0.out HB.out)); (case side2 => exact HC0.out); rintro e w7 ⟨rfl, hb⟩; refine ⟨_, rfl, ?_⟩; have n0_ := aM (below_step bB hb); clear HB; have HB := n0_; clear n0_; (try clear hb); (try clear hb2); (try clear hk); (try clear hi)) | (go_at_call 20; (with_reducible refine (jM.calls k _ _ l1 t165 _ ?side1 ?side2 A6.out).mono ?_); (case side1 => exact cC (Kd.C_below HR1.out HB.out)); (case side2 => exact HC1.out); rintro e w8 ⟨rfl, hb⟩; have n0_ := aM (below_step bB hb); clear HB; have HB := n0_; clear n0_; (try clear hb); (try clear hb2); (try clear hk); (try clear hi)))
  go_meet
  case rel => exact ⟨_, (!t165), aP16, H', ⟨by first | omega | exact Nat.le_refl _⟩, ⟨bB⟩⟩
 case rest =>
  clear HC3
  try clear c1
  try clear c2
  try clear p2
  try clear c3
  try clear c5
  obtain ⟨kq, x15_2, rfl, HA, HJ2, HB⟩ := hcut
  cases kq with
  | zero => exact absurd HA.out (by simp [jG.j0])
  | succ kj2 =>
   have H := HA.out
   clear HA
   simp only [jG.j0] at H
   by_cases c10 : x15_2 = true
   ·subst c10
    have H1 : (some (([] : List (S53)), false)) = some (r1, r2) := by rw [if_pos rfl] at H; exact H
    clear H
    have H := H1
    clear H1
    simp only [Option.some.injEq, Prod.mk.injEq] at H
    obtain ⟨rfl, rfl⟩ := H
    go_wp2
    go_ret2
    exact ⟨_, by first | rfl | (simp [errW_none, errW_some] <;> rfl) | (simp [*, errW_none, errW_some] <;> rfl), by first | exact Kd.R_nil _ _ _ _ _ | exact Kd.N_nil _ _ _ _ _ | exact Kd.V_nil _ _ _ _ _ | exact Kd.Q_nil _ _ _ _ _ | exact Kd.S_nil _ _ _ _ _, bB⟩
   replace c10 := Bool.eq_false_iff.mpr c10
   subst c10
   have H1 : ((jQ.f kj2 l0).bind fun t166 => ((jQ.f kj2 l1).bind fun t169 => ((jY.f kj2 t166 t169).bind fun bt172 => (if bt172.2 = true then ((jM.f kj2 bt172.1).bind fun t176 => (if t176 = true then (some (bt172.1, true)) else (some (([] : List (S53)), false)))) else (some (([] : List (S53)), false)))))) = some (r1, r2) := by rw [if_neg (show ¬ (false = true) by decide)] at H; exact H
   clear H
   have H := H1
   clear H1
   replace H := Option.bind_eq_some_iff.mp H
   obtain ⟨t166, A110, H⟩ := H
   replace H : ((jQ.f kj2 l1).bind fun t169 => ((jY.f kj2 t166 t169).bind fun bt172 => (if bt172.2 = true then ((jM.f kj2 bt172.1).bind fun t176 => (if t176 = true then (some (bt172.1, true)) else (some (([] : List (S53)), false)))) else (some (([] : List (S53)), false))))) = some (r1, r2) := H
   have A11 := aM A110
   clear A110
   replace H := Option.bind_eq_some_iff.mp H
   obtain ⟨t169, A120, H⟩ := H
   replace H : ((jY.f kj2 t166 t169).bind fun bt172 => (if bt172.2 = true then ((jM.f kj2 bt172.1).bind fun t176 => (if t176 = true then (some (bt172.1, true)) else (some (([] : List (S53)), false)))) else (some (([] : List (S53)), false)))) = some (r1, r2) := H
   have A12 := aM A120
   clear A120
   replace H := Option.bind_eq_some_iff.mp H
   obtain ⟨⟨t172, t173⟩, A130, H⟩ := H
   replace H : (if t173 = true then ((jM.f kj2 t172).bind fun t176 => (if t176 = true then (some (t172, true)) else (some (([] : List (S53)), false)))) else (some (([] : List (S53)), false))) = some (r1, r2) := H
   have A13 := aM A130
   clear A130
   by_cases c14 : t173 = true
   rotate_left
   ·replace c14 := Bool.eq_false_iff.mpr c14
    subst c14
    have H1 : (some (([] : List (S53)), false)) = some (r1, r2) := by rw [if_neg (show ¬ (false = true) by decide)] at H; exact H
    clear H
    have H := H1
    clear H1
    simp only [Option.some.injEq, Prod.mk.injEq] at H
    obtain ⟨rfl, rfl⟩ := H
    go_wp2_with (first | ((with_reducible refine gate_callee (f := 61) rfl ?_); refine goesL_ (some 18) rfl rfl Try.func61 (by kernel_rfl) rfl #[.slice A0 l0.length c0] rfl mM ?_; (with_reducible refine (jQ.calls kj2 _ _ l0 t166 _ ?side1 ?side2 A11.out).mono ?_); (case side1 => exact cC (Kd.C_below HR0.out HB.out)); (case side2 => exact HC0.out); rintro e w31 ⟨v167, rfl, ho0, hb⟩; refine ⟨_, rfl, ?_⟩; have n0_ := aM (Kd.R_lower ho0 (below_size bB)); have n1_ := aM (below_step bB hb); clear HB; have HO168 := n0_; have HB := n1_; clear n0_ n1_; (try clear hb); (try clear hb2); (try clear hk); (try clear hi); (try clear ho0)) | ((with_reducible refine gate_callee (f := 61) rfl ?_); refine goesL_ (some 20) rfl rfl Try.func61 (by kernel_rfl) rfl #[.slice A1 l1.length c1] rfl mM ?_; (with_reducible refine (jQ.calls kj2 _ _ l1 t169 _ ?side1 ?side2 A12.out).mono ?_); (case side1 => exact cC (Kd.C_below HR1.out HB.out)); (case side2 => exact HC1.out); rintro e w32 ⟨v170, rfl, ho0, hb⟩; refine ⟨_, rfl, ?_⟩; have n0_ := aM (Kd.R_elder' (rR HO168.out) (Kd.R_base ho0) hb); have n1_ := aM (Kd.R_lower (Kd.R_new' ho0 (Kd.R_lt (rR HO168.out))) (below_size bB)); have n2_ := aM (below_step bB hb); clear HO168; clear HB; have HO168 := n0_; have HO171 := n1_; have HB := n2_; clear n0_ n1_ n2_; (try clear hb); (try clear hb2); (try clear hk); (try clear hi); (try clear ho0); obtain ⟨Ao33, co33, eo33⟩ := Kd.R_slice HO168.out; subst eo33; obtain ⟨Ao34, co34, eo34⟩ := Kd.R_slice HO171.out; subst eo34) | ((with_reducible refine gate_callee (f := 62) rfl ?_); refine goesL_ (some 21) rfl rfl Try.func62 (by kernel_rfl) rfl #[.slice Ao33 t166.length co33, .slice Ao34 t169.length co34] rfl mM ?_; (with_reducible refine (jY.calls kj2 _ _ t166 _ _ t169 t172 false _ ?side1 ?side2 ?side3 ?side4 A13.out).mono ?_); (case side1 => exact cC ((Kd.R_reads' HO168.out).2.2)); (case side2 => exact (Kd.R_reads' HO168.out).2.1); (case side3 => exact cC ((Kd.R_reads' HO171.out).2.2)); (case side4 => exact (Kd.R_reads' HO171.out).2.1); rintro e w35 ⟨v174, rfl, ho0, hb⟩; refine ⟨_, rfl, ?_⟩; have n0_ := aM (Kd.R_elder' (rR HO168.out) (Kd.R_base ho0) hb); have n1_ := aM (Kd.R_elder' (rR HO171.out) (Kd.R_base ho0) hb); have n2_ := aM (Kd.R_lower (Kd.R_new' (Kd.R_new' ho0 (Kd.R_lt (rR HO168.out))) (Kd.R_lt (rR HO171.out))) (below_size bB)); have n3_ := aM (below_step bB hb); clear HO168; clear HO171; clear HB; have HO168 := n0_; have HO171 := n1_; have HO175 := n2_; have HB := n3_; clear n0_ n1_ n2_ n3_; (try clear hb); (try clear hb2); (try clear hk); (try clear hi); (try clear ho0)))
    go_ret2
    exact ⟨_, by first | rfl | (simp [errW_none, errW_some] <;> rfl) | (simp [*, errW_none, errW_some] <;> rfl), by first | exact Kd.R_nil _ _ _ _ _ | exact Kd.N_nil _ _ _ _ _ | exact Kd.V_nil _ _ _ _ _ | exact Kd.Q_nil _ _ _ _ _ | exact Kd.S_nil _ _ _ _ _, bB⟩
   subst c14
   have H1 : ((jM.f kj2 t172).bind fun t176 => (if t176 = true then (some (t172, true)) else (some (([] : List (S53)), false)))) = some (r1, r2) := by rw [if_pos rfl] at H; exact H
   clear H
   have H := H1
   clear H1
   replace H := Option.bind_eq_some_iff.mp H
   obtain ⟨t176, A150, H⟩ := H
   replace H : (if t176 = true then (some (t172, true)) else (some (([] : List (S53)), false))) = some (r1, r2) := H
   have A15 := aM A150
   clear A150
   by_cases c16 : t176 = true
   ·subst c16
    have H1 : (some (t172, true)) = some (r1, r2) := by rw [if_pos rfl] at H; exact H
    clear H
    have H := H1
    clear H1
    simp only [Option.some.injEq, Prod.mk.injEq] at H
    obtain ⟨rfl, rfl⟩ := H
    go_wp2_with (first | ((with_reducible refine gate_callee (f := 61) rfl ?_); refine goesL_ (some 18) rfl rfl Try.func61 (by kernel_rfl) rfl #[.slice A0 l0.length c0] rfl mM ?_; (with_reducible refine (jQ.calls kj2 _ _ l0 t166 _ ?side1 ?side2 A11.out).mono ?_); (case side1 => exact cC (Kd.C_below HR0.out HB.out)); (case side2 => exact HC0.out); rintro e w17 ⟨v167, rfl, ho0, hb⟩; refine ⟨_, rfl, ?_⟩; have n0_ := aM (Kd.R_lower ho0 (below_size bB)); have n1_ := aM (below_step bB hb); clear HB; have HO168 := n0_; have HB := n1_; clear n0_ n1_; (try clear hb); (try clear hb2); (try clear hk); (try clear hi); (try clear ho0)) | ((with_reducible refine gate_callee (f := 61) rfl ?_); refine goesL_ (some 20) rfl rfl Try.func61 (by kernel_rfl) rfl #[.slice A1 l1.length c1] rfl mM ?_; (with_reducible refine (jQ.calls kj2 _ _ l1 t169 _ ?side1 ?side2 A12.out).mono ?_); (case side1 => exact cC (Kd.C_below HR1.out HB.out)); (case side2 => exact HC1.out); rintro e w18 ⟨v170, rfl, ho0, hb⟩; refine ⟨_, rfl, ?_⟩; have n0_ := aM (Kd.R_elder' (rR HO168.out) (Kd.R_base ho0) hb); have n1_ := aM (Kd.R_lower (Kd.R_new' ho0 (Kd.R_lt (rR HO168.out))) (below_size bB)); have n2_ := aM (below_step bB hb); clear HO168; clear HB; have HO168 := n0_; have HO171 := n1_; have HB := n2_; clear n0_ n1_ n2_; (try clear hb); (try clear hb2); (try clear hk); (try clear hi); (try clear ho0); obtain ⟨Ao19, co19, eo19⟩ := Kd.R_slice HO168.out; subst eo19; obtain ⟨Ao20, co20, eo20⟩ := Kd.R_slice HO171.out; subst eo20) | ((with_reducible refine gate_callee (f := 62) rfl ?_); refine goesL_ (some 21) rfl rfl Try.func62 (by kernel_rfl) rfl #[.slice Ao19 t166.length co19, .slice Ao20 t169.length co20] rfl mM ?_; (with_reducible refine (jY.calls kj2 _ _ t166 _ _ t169 t172 true _ ?side1 ?side2 ?side3 ?side4 A13.out).mono ?_); (case side1 => exact cC ((Kd.R_reads' HO168.out).2.2)); (case side2 => exact (Kd.R_reads' HO168.out).2.1); (case side3 => exact cC ((Kd.R_reads' HO171.out).2.2)); (case side4 => exact (Kd.R_reads' HO171.out).2.1); rintro e w21 ⟨v174, rfl, ho0, hb⟩; refine ⟨_, rfl, ?_⟩; have n0_ := aM (Kd.R_elder' (rR HO168.out) (Kd.R_base ho0) hb); have n1_ := aM (Kd.R_elder' (rR HO171.out) (Kd.R_base ho0) hb); have n2_ := aM (Kd.R_lower (Kd.R_new' (Kd.R_new' ho0 (Kd.R_lt (rR HO168.out))) (Kd.R_lt (rR HO171.out))) (below_size bB)); have n3_ := aM (below_step bB hb); clear HO168; clear HO171; clear HB; have HO168 := n0_; have HO171 := n1_; have HO175 := n2_; have HB := n3_; clear n0_ n1_ n2_ n3_; (try clear hb); (try clear hb2); (try clear hk); (try clear hi); (try clear ho0); obtain ⟨Ao22, co22, eo22⟩ := Kd.R_slice HO175.out; subst eo22) | (go_at_call 20; (with_reducible refine (jM.calls kj2 _ _ t172 true _ ?side1 ?side2 A15.out).mono ?_); (case side1 => exact cC ((Kd.R_reads' HO175.out).2.2)); (case side2 => exact (Kd.R_reads' HO175.out).2.1); rintro e w23 ⟨rfl, hb⟩; have n0_ := aM (Kd.R_below (rR HO168.out) hb); have n1_ := aM (Kd.R_below (rR HO171.out) hb); have n2_ := aM (Kd.R_below (rR HO175.out) hb); have n3_ := aM (below_step bB hb); clear HO168; clear HO171; clear HO175; clear HB; have HO168 := n0_; have HO171 := n1_; have HO175 := n2_; have HB := n3_; clear n0_ n1_ n2_ n3_; (try clear hb); (try clear hb2); (try clear hk); (try clear hi)))
    go_ret2
    exact ⟨_, by first | rfl | (simp [errW_none, errW_some] <;> rfl) | (simp [*, errW_none, errW_some] <;> rfl), by (with_reducible repeat (first | apply Kd.R_alloc | apply Kd.R_drewN | apply Kd.R_drew)); exact Kd.R_mono HO175.out (fun _ hk => trivial), bB⟩
   replace c16 := Bool.eq_false_iff.mpr c16
   subst c16
   have H1 : (some (([] : List (S53)), false)) = some (r1, r2) := by rw [if_neg (show ¬ (false = true) by decide)] at H; exact H
   clear H
   have H := H1
   clear H1
   simp only [Option.some.injEq, Prod.mk.injEq] at H
   obtain ⟨rfl, rfl⟩ := H
   go_wp2_with (first | ((with_reducible refine gate_callee (f := 61) rfl ?_); refine goesL_ (some 18) rfl rfl Try.func61 (by kernel_rfl) rfl #[.slice A0 l0.length c0] rfl mM ?_; (with_reducible refine (jQ.calls kj2 _ _ l0 t166 _ ?side1 ?side2 A11.out).mono ?_); (case side1 => exact cC (Kd.C_below HR0.out HB.out)); (case side2 => exact HC0.out); rintro e w24 ⟨v167, rfl, ho0, hb⟩; refine ⟨_, rfl, ?_⟩; have n0_ := aM (Kd.R_lower ho0 (below_size bB)); have n1_ := aM (below_step bB hb); clear HB; have HO168 := n0_; have HB := n1_; clear n0_ n1_; (try clear hb); (try clear hb2); (try clear hk); (try clear hi); (try clear ho0)) | ((with_reducible refine gate_callee (f := 61) rfl ?_); refine goesL_ (some 20) rfl rfl Try.func61 (by kernel_rfl) rfl #[.slice A1 l1.length c1] rfl mM ?_; (with_reducible refine (jQ.calls kj2 _ _ l1 t169 _ ?side1 ?side2 A12.out).mono ?_); (case side1 => exact cC (Kd.C_below HR1.out HB.out)); (case side2 => exact HC1.out); rintro e w25 ⟨v170, rfl, ho0, hb⟩; refine ⟨_, rfl, ?_⟩; have n0_ := aM (Kd.R_elder' (rR HO168.out) (Kd.R_base ho0) hb); have n1_ := aM (Kd.R_lower (Kd.R_new' ho0 (Kd.R_lt (rR HO168.out))) (below_size bB)); have n2_ := aM (below_step bB hb); clear HO168; clear HB; have HO168 := n0_; have HO171 := n1_; have HB := n2_; clear n0_ n1_ n2_; (try clear hb); (try clear hb2); (try clear hk); (try clear hi); (try clear ho0); obtain ⟨Ao26, co26, eo26⟩ := Kd.R_slice HO168.out; subst eo26; obtain ⟨Ao27, co27, eo27⟩ := Kd.R_slice HO171.out; subst eo27) | ((with_reducible refine gate_callee (f := 62) rfl ?_); refine goesL_ (some 21) rfl rfl Try.func62 (by kernel_rfl) rfl #[.slice Ao26 t166.length co26, .slice Ao27 t169.length co27] rfl mM ?_; (with_reducible refine (jY.calls kj2 _ _ t166 _ _ t169 t172 true _ ?side1 ?side2 ?side3 ?side4 A13.out).mono ?_); (case side1 => exact cC ((Kd.R_reads' HO168.out).2.2)); (case side2 => exact (Kd.R_reads' HO168.out).2.1); (case side3 => exact cC ((Kd.R_reads' HO171.out).2.2)); (case side4 => exact (Kd.R_reads' HO171.out).2.1); rintro e w28 ⟨v174, rfl, ho0, hb⟩; refine ⟨_, rfl, ?_⟩; have n0_ := aM (Kd.R_elder' (rR HO168.out) (Kd.R_base ho0) hb); have n1_ := aM (Kd.R_elder' (rR HO171.out) (Kd.R_base ho0) hb); have n2_ := aM (Kd.R_lower (Kd.R_new' (Kd.R_new' ho0 (Kd.R_lt (rR HO168.out))) (Kd.R_lt (rR HO171.out))) (below_size bB)); have n3_ := aM (below_step bB hb); clear HO168; clear HO171; clear HB; have HO168 := n0_; have HO171 := n1_; have HO175 := n2_; have HB := n3_; clear n0_ n1_ n2_ n3_; (try clear hb); (try clear hb2); (try clear hk); (try clear hi); (try clear ho0); obtain ⟨Ao29, co29, eo29⟩ := Kd.R_slice HO175.out; subst eo29) | (go_at_call 20; (with_reducible refine (jM.calls kj2 _ _ t172 false _ ?side1 ?side2 A15.out).mono ?_); (case side1 => exact cC ((Kd.R_reads' HO175.out).2.2)); (case side2 => exact (Kd.R_reads' HO175.out).2.1); rintro e w30 ⟨rfl, hb⟩; have n0_ := aM (Kd.R_below (rR HO168.out) hb); have n1_ := aM (Kd.R_below (rR HO171.out) hb); have n2_ := aM (Kd.R_below (rR HO175.out) hb); have n3_ := aM (below_step bB hb); clear HO168; clear HO171; clear HO175; clear HB; have HO168 := n0_; have HO171 := n1_; have HO175 := n2_; have HB := n3_; clear n0_ n1_ n2_ n3_; (try clear hb); (try clear hb2); (try clear hk); (try clear hi)))
   go_ret2
   exact ⟨_, by first | rfl | (simp [errW_none, errW_some] <;> rfl) | (simp [*, errW_none, errW_some] <;> rfl), by first | exact Kd.R_nil _ _ _ _ _ | exact Kd.N_nil _ _ _ _ _ | exact Kd.V_nil _ _ _ _ _ | exact Kd.Q_nil _ _ _ _ _ | exact Kd.S_nil _ _ _ _ _, bB⟩
-- import Mk
section
open Go.Proofs.Ytlelpomnblaciaa.Mk
def toP (x : S53) : Pt := (x.f0, x.f1, x.f2)
def ofP (p : Pt) : S53 := ⟨p.1, p.2.1, p.2.2⟩
def takeP (s : List Pt × ByteArray × ByteArray) (p : Pt) : List Pt × ByteArray × ByteArray := ((keepS s.1 s.2.1 s.2.2 p.1).1, (keepS s.1 s.2.1 s.2.2 p.1).2.1 ++ p.2.1, (keepS s.1 s.2.1 s.2.2 p.1).2.2 ++ p.2.2)
def normP (l : List Pt) : List Pt := (l.foldl takeP ([], ⟨#[]⟩, ⟨#[]⟩)).1 ++ endL (l.foldl takeP ([], ⟨#[]⟩, ⟨#[]⟩)).2.1 (l.foldl takeP ([], ⟨#[]⟩, ⟨#[]⟩)).2.2
theorem R_of_cells {w : World} {base : Nat} {v : Value} {l : List Pt} (h : w.ownsRow base 53 3 v l.length (cellsP l)) :
  Kd.R k53 53 w base (fun _ => True) v (l.map ofP) := by
 refine ⟨fun _ _ => trivial, cellsP l, by rw [List.length_map]; exact h, ?_⟩
 clear h
 induction l with
 | nil => exact Reps.none _ _
 | cons p r ih =>
  have h1 := Reps.snoc (R := k53.M w base fun k => (fun x => True) k ∧ some k ≠ v.ownBlock) (Reps.none _ 3) (k53_mkM w base _ (ofP p)) rfl
  exact Kd.reps_append h1 ih
def yL.f (l0 : List S53) : Option (List S53) :=
 if l0.length ≤ 60 ∧ (l0.all fun x => decide (x.f1.size ≤ 300 ∧ x.f2.size ≤ 300)) = true then some ((normP (l0.map toP)).map ofP) else none
def stN (l : List S53) (i : Nat) : List Pt × ByteArray × ByteArray := ((l.take i).map toP).foldl takeP ([], ⟨#[]⟩, ⟨#[]⟩)
theorem stN_succ (l : List S53) (i : Nat) (h : i < l.length) : stN l (i + 1) = takeP (stN l i) (toP l[i]) := by
 unfold stN; rw [List.take_succ_eq_append_getElem h, List.map_append, List.foldl_append]; rfl
theorem keepS_len (l : List Pt) (a b : ByteArray) (x : Int) : (keepS l a b x).1.length ≤ l.length + 3 := by
 have he : (endL a b).length ≤ 2 := by unfold endL; rw [List.length_append]; split <;> split <;> simp
 unfold keepS; split
 ·show l.length ≤ _; omega
 show (keepA (l ++ endL a b) x).length ≤ _
 unfold keepA
 split
 rotate_left
 ·simp
 split
 rotate_left
 ·rw [List.length_append, List.length_append]; simp; omega
 rw [List.length_append, List.length_dropLast, List.length_append]; simp; omega
theorem keepS_put (l : List Pt) (a b : ByteArray) (x : Int) : (keepS l a b x).2.1.size ≤ a.size ∧ (keepS l a b x).2.2.size ≤ b.size := by
 unfold keepS; split
 ·exact ⟨Nat.le_refl _, Nat.le_refl _⟩
 exact ⟨Nat.zero_le _, Nat.zero_le _⟩
theorem stN_bound (l : List S53) (hs : ∀ x ∈ l, x.f1.size ≤ 300 ∧ x.f2.size ≤ 300) : ∀ i, i ≤ l.length → (stN l i).1.length ≤ 3 * i ∧ (stN l i).2.1.size ≤ 300 * i ∧ (stN l i).2.2.size ≤ 300 * i
 | 0, _ => ⟨Nat.le_refl _, Nat.le_refl _, Nat.le_refl _⟩
 | i + 1, h => by
  obtain ⟨h1, h2, h3⟩ := stN_bound l hs i (by omega)
  have hx := hs _ (List.getElem_mem (show i < l.length by omega))
  rw [stN_succ l i (by omega)]
  have k1 := keepS_len (stN l i).1 (stN l i).2.1 (stN l i).2.2 (l[i]'(by omega)).f0
  have k2 := keepS_put (stN l i).1 (stN l i).2.1 (stN l i).2.2 (l[i]'(by omega)).f0
  refine ⟨Nat.le_trans k1 (by omega), ?_, ?_⟩
  ·show ((keepS (stN l i).1 (stN l i).2.1 (stN l i).2.2 (l[i]'(by omega)).f0).2.1 ++ (l[i]'(by omega)).f1).size ≤ _
   rw [ByteArray.size_append]; have := k2.1; have := hx.1; omega
  ·show ((keepS (stN l i).1 (stN l i).2.1 (stN l i).2.2 (l[i]'(by omega)).f0).2.2 ++ (l[i]'(by omega)).f2).size ≤ _
   rw [ByteArray.size_append]; have := k2.2; have := hx.2; omega
theorem far_set {w0 w : World} {base g b i : Nat} {l : List Pt} {put drop : ByteArray} {v : Value} (h : IsMk w0 w base g l put drop v) (hb : base ≤ b) (hne : g ≠ b) (hv : v.ownBlock ≠ some b) (u : Value) : IsMk w0 (w.setCell ⟨b, i, none⟩ u) base g l put drop v :=
 ⟨blk_far h.blk hne u, own_set h.own hv i u, h.far, h.bel.setCell (p := ⟨b, i, none⟩) hb u, Nat.le_trans h.siz (size_set w b i u)⟩
theorem mk_init {w w1 : World} {g : Nat} (hg : g = w.heap.size) (hb : Below w.heap.size w w1) (h : w1.heap[g]? = some (.cells #[.slice none 0 0, .string ⟨#[]⟩, .string ⟨#[]⟩] 74 (0, 0))) : IsMk w w1 w.heap.size g [] ⟨#[]⟩ ⟨#[]⟩ (.slice none 0 0) :=
 ⟨h, own_nil _ _ _ _, by simp [Value.ownBlock], hb, hb.size⟩
set_option maxHeartbeats 4000000 in
set_option maxRecDepth 100000 in
theorem yL.calls (A0 : Option Addr) (c0 : Nat) (l0 : List S53) (r : List S53) (w : World) (hr0 : Kd.C k53 w A0 l0.length l0) (hc0 : l0.length ≤ c0) (h : yL.f l0 = some r) :
  Calls Try.prog 42 #[.slice A0 l0.length c0] w fun e w' => ∃ v0_ : Value, e = .returned v0_ ∧ Kd.R k53 53 w' w.heap.size (fun _ => True) v0_ r ∧ Below w.heap.size w w' := by
 have hu53 := Try.underlying53
 have hu74 := Try.underlying74
 unfold yL.f at h
 split at h
 rotate_left
 ·cases h
 rename_i hgd
 obtain rfl := Option.some.inj h
 have HR0 := aM hr0
 have HC0 := aM hc0
 have HG := aM hgd
 clear hr0 hc0 h hgd
 go_enter Try.func42, Try.ntmps42
 go_wp2_with (first | ((with_reducible refine gate_dst (N := 3) rfl ?_); refine box_event ?hg (N := 3) ?hd (cs := #[.slice none 0 0, .string ⟨#[]⟩, .string ⟨#[]⟩]) (t := 74) ?hr ?_; (case hd => rfl); (case hg => rfl); (case hr => exact aP21); intro gb hgb w4 hbox hb; have HI := aM (mk_init hgb hb hbox); have GB := aM hgb; clear hbox hb hgb))
 go_loopw [8] (fun v8 wr => ∃ i : Nat, v8 = .int .i64 (i : Int) ∧ Aside0 (i ≤ l0.length) ∧ ∃ v, Aside0 (IsMk w wr w.heap.size gb (stN l0 i).1 (stN l0 i).2.1 (stN l0 i).2.2 v)) (fun i _ => l0.length - (match i with | .int _ n => n.toNat | _ => 0))
 case atStart => exact ⟨0, rfl, ⟨Nat.zero_le _⟩, _, HI⟩
 case round =>
  obtain ⟨i, rfl, Hi, v, HM⟩ := hrel
  clear HI
  by_cases hlt : i < l0.length
  rotate_left
  ·have c3b0 : decide ((i : Int) < (l0.length : Int)) = false := decide_eq_false (by omega)
   have c3b1 : decide (i < l0.length) = false := decide_eq_false hlt
   have hi : i = l0.length := by have := Hi.out; omega
   have hss : ∀ x ∈ l0, x.f1.size ≤ 300 ∧ x.f2.size ≤ 300 := fun x hx => of_decide_eq_true (List.all_eq_true.1 HG.out.2 x hx)
   have hb1 : (stN l0 i).1.length ≤ 1000 := by have := (stN_bound l0 hss i Hi.out).1; have := HG.out.1; omega
   clear hss
   have HH := aM hi
   clear hi hlt
   have hmd := maker_made w.heap.size gb v (stN l0 i).1 (stN l0 i).2.1 (stN l0 i).2.2 _ _ HM.out (Nat.le_of_eq GB.out.symm) hb1
   go_wp2_with fail
   refine hmd.mono ?_
   rintro e w6 ⟨v6, rfl, h6⟩
   have HM6 := aM h6
   clear h6
   go_wp2_with fail
   go_ret
   refine ⟨_, rfl, ?_, HM6.out.bel⟩
   have hR := R_of_cells HM6.out.own
   have e : stN l0 i = (l0.map toP).foldl takeP ([], ⟨#[]⟩, ⟨#[]⟩) := by unfold stN; rw [HH.out, List.take_of_length_le (Nat.le_refl _)]
   rw [e] at hR
   exact hR
  have c3b0 : decide ((i : Int) < (l0.length : Int)) = true := decide_eq_true (by omega)
  have p3 : (0 : Int) ≤ (i : Int) := by omega
  have q3 : (i : Int) < (l0.length : Int) := by omega
  obtain ⟨ad, e3, hx0, hx1, hx2⟩ := at_T53 HR0.out (i : Int) p3 q3
  cases e3
  have HX0 := (HM.out.bel.cell (World.block_lt_of_cell? w _ hx0)).trans hx0
  have HX1 := (HM.out.bel.cell (World.block_lt_of_cell? w _ hx1)).trans hx1
  have HX2 := (HM.out.bel.cell (World.block_lt_of_cell? w _ hx2)).trans hx2
  clear hx0 hx1 hx2
  simp only [Int.toNat_natCast] at HX0 HX1 HX2
  have HLT := aM hlt
  have hss : ∀ x ∈ l0, x.f1.size ≤ 300 ∧ x.f2.size ≤ 300 := fun x hx => of_decide_eq_true (List.all_eq_true.1 HG.out.2 x hx)
  have hl60 := HG.out.1
  obtain ⟨u1, u2, u3⟩ := stN_bound l0 hss i (by omega)
  have hgt : rd_T53 l0 (i : Int) = l0[i] := by
   show l0.getD _ _ = _
   simp [List.getD_eq_getElem?_getD, hlt]
  have hsi := hss _ (List.getElem_mem hlt)
  have hb1 : (stN l0 i).1.length ≤ 900 := by omega
  have hb2 : (stN l0 i).2.1.size + (l0[i]).f1.size ≤ 4611686018427387904 := by omega
  have hb3 : (stN l0 i).2.2.size + (l0[i]).f2.size ≤ 4611686018427387904 := by omega
  clear hss u1 u2 u3 hsi
  go_wp2_with (first | ((with_reducible refine gate_dst (N := 5) rfl ?_); refine box_event ?hg (N := 5) ?hd (cs := #[.int .i64 0, .string ⟨#[]⟩, .string ⟨#[]⟩]) (t := 53) ?hr ?_; (case hd => rfl); (case hg => rfl); (case hr => exact aP21); intro gp hgp w5 hbox hb; have HM5 := aM (HM.out.below hb); have GP := aM hgp; have BX := aM hbox; have y0 := (blk_cell hbox 0).trans (show _ = some (Value.int .i64 0) from rfl); have y1 := (blk_cell hbox 1).trans (show _ = some (Value.string ⟨#[]⟩) from rfl); have y2 := (blk_cell hbox 2).trans (show _ = some (Value.string ⟨#[]⟩) from rfl); have f0 := blk_frozen hbox 0; have f1 := blk_frozen hbox 1; have f2 := blk_frozen hbox 2; have g1 := aM (show w.heap.size ≤ gp by rw [hgp]; exact HM.out.siz); have g2 := aM (show gb ≠ gp by rw [hgp]; exact Nat.ne_of_lt (blk_lt HM.out.blk)); have g3 := aM (show v.ownBlock ≠ some gp from fun e => absurd (own_lt HM.out.own gp e) (by rw [hgp]; exact Nat.lt_irrefl _)); clear hb hgp hbox))
  have htk := far_set (far_set (far_set HM5.out g1.out g2.out g3.out (i := 0) (.int .i64 (l0[i]).f0)) g1.out g2.out g3.out (i := 1) (.string (l0[i]).f1)) g1.out g2.out g3.out (i := 2) (.string (l0[i]).f2)
  refine (maker_take w.heap.size gb v (stN l0 i).1 (stN l0 i).2.1 (stN l0 i).2.2 (l0[i]).f0 (l0[i]).f1 (l0[i]).f2 w _ htk (Nat.le_of_eq GB.out.symm) hb1 hb2 hb3).mono ?_
  rintro e w6 ⟨rfl, v6, h6⟩
  have HM6 := aM h6
  clear h6
  go_wp2_with fail
  have hl' := HLT.out
  have hl6 := HG.out.1
  go_roundw
  case rel =>
   refine ⟨i + 1, ?_, ⟨by omega⟩, v6, ⟨?_⟩⟩
   rotate_left
   ·rw [stN_succ l0 i hl']; exact HM6.out
   first | rfl | (simp; done) | (congr 1; unfold wrap64; omega)
  case measure => simp; omega
end
def yE.f (k : Nat) (l0 : List (S53)) : Option ((List (S53)) × Bool) := (jT.f k l0).bind fun t177 => (if t177 = true then (some (l0, true)) else (some (([] : List (S53)), false)))
theorem yE.mono : ∀ a0 k, LeO (yE.f k a0) (yE.f (k + 1) a0) := by
 intro a0 k
 unfold yE.f
 repeat' first
   | (with_reducible exact jT.mono _ _)
   | (with_reducible exact LeO.refl _)
   | (with_reducible exact LeO.none _)
   | (with_reducible refine LeO.ite ?_ ?_)
   | (with_reducible refine LeO.bind ?_ (fun _ => ?_))
   | exact jT.mono _ _
   | exact LeO.none _
   | refine LeO.ite ?_ ?_
   | refine LeO.bind ?_ (fun _ => ?_)
set_option maxHeartbeats 8000000 in
set_option maxRecDepth 100000 in
theorem yE.calls (k : Nat) (P0_ : Nat → Prop) (u9000_ : Value) (l0 : List (S53)) (r1 : List (S53)) (r2 : Bool) (w0 w : World) (hB : Below w0.heap.size w0 w) (ho0 : Kd.R k53 53 w w0.heap.size P0_ u9000_ l0) (h : yE.f k l0 = some (r1, r2)) :
  Calls Try.prog 58 #[u9000_] w fun e w' => ∃ v0_ : Value, e = .returned (.tuple #[v0_, .bool r2]) ∧ Kd.R k53 53 w' w0.heap.size (fun k_ => (P0_ k_ ∨ w.heap.size ≤ k_)) v0_ r1 ∧ Below w0.heap.size w0 w' ∧ Kept w w' (fun k_ => P0_ k_) := by
 have HO0 := aM (show Kd.R k53 53 w w0.heap.size (fun k_ => (P0_ k_ ∨ w.heap.size ≤ k_)) u9000_ l0 from Kd.R_mono ho0 (fun k_ hk => (.inl hk)))
 have HK := aM (Kept.refl w (fun k_ => P0_ k_))
 have HW0 := aM hB.size
 have HB := aM hB
 clear hB
 have H : ((jT.f k l0).bind fun t177 => (if t177 = true then (some (l0, true)) else (some (([] : List (S53)), false)))) = some (r1, r2) := h
 clear h
 replace H := Option.bind_eq_some_iff.mp H
 obtain ⟨t177, A20, H⟩ := H
 replace H : (if t177 = true then (some (l0, true)) else (some (([] : List (S53)), false))) = some (r1, r2) := H
 have A2 := aM A20
 clear A20
 by_cases c3 : t177 = true
 ·subst c3
  have H1 : (some (l0, true)) = some (r1, r2) := by rw [if_pos rfl] at H; exact H
  clear H
  have H := H1
  clear H1
  simp only [Option.some.injEq, Prod.mk.injEq] at H
  obtain ⟨rfl, rfl⟩ := H
  obtain ⟨Ao4, co4, eo4⟩ := Kd.R_slice HO0.out
  subst eo4
  go_enter Try.func58, Try.ntmps58
  go_wp2_with (first | ((with_reducible refine gate_callee (f := 22) rfl ?_); refine goesL_ (some 5) rfl rfl Try.func22 (by kernel_rfl) rfl #[.slice Ao4 l0.length co4] rfl mM ?_; (with_reducible refine (jT.calls k _ _ l0 true _ ?side1 ?side2 A2.out).mono ?_); (case side1 => exact cC ((Kd.R_reads' HO0.out).2.2)); (case side2 => exact (Kd.R_reads' HO0.out).2.1); rintro e w5 ⟨rfl, hb⟩; refine ⟨_, rfl, ?_⟩; have n0_ := aM (Kd.R_below (rR HO0.out) hb); have n1_ := aM (Kept.below (S := (fun k_ => P0_ k_)) aP9 hb); have n2_ := aM (below_step bB hb); clear HO0; clear HK; clear HB; have HO0 := n0_; have HK := n1_; have HB := n2_; clear n0_ n1_ n2_; (try clear hb); (try clear hb2); (try clear hk); (try clear hi)))
  go_ret2
  exact ⟨_, by first | rfl | (simp [errW_none, errW_some] <;> rfl) | (simp [*, errW_none, errW_some] <;> rfl), by (with_reducible repeat (first | apply Kd.R_alloc | apply Kd.R_drewN | apply Kd.R_drew)); exact HO0.out, by exact bB, aP9⟩
 replace c3 := Bool.eq_false_iff.mpr c3
 subst c3
 have H1 : (some (([] : List (S53)), false)) = some (r1, r2) := by rw [if_neg (show ¬ (false = true) by decide)] at H; exact H
 clear H
 have H := H1
 clear H1
 simp only [Option.some.injEq, Prod.mk.injEq] at H
 obtain ⟨rfl, rfl⟩ := H
 obtain ⟨Ao6, co6, eo6⟩ := Kd.R_slice HO0.out
 subst eo6
 go_enter Try.func58, Try.ntmps58
 go_wp2_with (first | ((with_reducible refine gate_callee (f := 22) rfl ?_); refine goesL_ (some 5) rfl rfl Try.func22 (by kernel_rfl) rfl #[.slice Ao6 l0.length co6] rfl mM ?_; (with_reducible refine (jT.calls k _ _ l0 false _ ?side1 ?side2 A2.out).mono ?_); (case side1 => exact cC ((Kd.R_reads' HO0.out).2.2)); (case side2 => exact (Kd.R_reads' HO0.out).2.1); rintro e w7 ⟨rfl, hb⟩; refine ⟨_, rfl, ?_⟩; have n0_ := aM (Kd.R_below (rR HO0.out) hb); have n1_ := aM (Kept.below (S := (fun k_ => P0_ k_)) aP9 hb); have n2_ := aM (below_step bB hb); clear HO0; clear HK; clear HB; have HO0 := n0_; have HK := n1_; have HB := n2_; clear n0_ n1_ n2_; (try clear hb); (try clear hb2); (try clear hk); (try clear hi)))
 go_ret2
 exact ⟨_, by first | rfl | (simp [errW_none, errW_some] <;> rfl) | (simp [*, errW_none, errW_some] <;> rfl), by first | exact Kd.R_nil _ _ _ _ _ | exact Kd.N_nil _ _ _ _ _ | exact Kd.V_nil _ _ _ _ _ | exact Kd.Q_nil _ _ _ _ _ | exact Kd.S_nil _ _ _ _ _, by exact bB, aP9⟩
-- import Mk
-- fn: slices.Clone[[]loop.example/g00253/impl.Part,loop.example/g00253/impl.Part]
set_option maxHeartbeats 4000000 in
set_option maxRecDepth 100000 in
theorem clone_part (w : World) (A : Addr) (c : Nat) (l : List S53) (hr : Kd.C k53 w (some A) l.length l) (hlen : l.length ≤ 1000000) :
  Calls Try.prog 63 #[.slice (some A) l.length c] w fun e w' => ∃ v : Value, e = .returned v ∧ Kd.R k53 53 w' w.heap.size (fun k => w.heap.size ≤ k) v l ∧ Below w.heap.size w w' := by
 have hu53 := Try.underlying53
 have hu22 := Try.underlying22
 have HR := aM hr
 have HLN := aM hlen
 clear hr hlen
 have eqn : (Go.binOp .eql 22 (.slice (some A) l.length c) (.slice none 0 0)).run Try.prog w = .ok (.bool false) w := Go.Lib.run_eql_slice_nil w 22 53 (some A) l.length c 0 0 hu22
 go_enter Try.func63, Try.ntmps63
 go_wp2_with (first | ((with_reducible refine gate_dst (N := 5) rfl ?_); refine Kd.R_lit k53 (w0 := w) w.heap.size 53 ?hg (N := 5) ?hd (xs := ([] : List S53)) (inner := []) (ok := fun k => w.heap.size ≤ k) (okp := fun _ => False) ?hr ?hp (fun _ q => q.elim) (Nat.le_refl _) (Below.refl _ _) (Nat.le_refl _) (by simp) ?_; (case hd => rfl); (case hg => rfl); (case hr => exact aP21); (case hp => exact Reps.none _ _); intro vl u4 ho4 hb4 hg4_ hnew4_; clear hg4_ hnew4_; have HO4 := aM ho4; have HB4 := aM hb4; clear ho4 hb4) | ((with_reducible refine gate_dst (N := 7) rfl ?_); refine Kd.R_append_rows k53 (Rr := k53.K u4) (w0 := w) w.heap.size ?hg (.tmp 5) (.tmp 6) 22 53 (.agg #[.int .i64 0, .string ⟨#[]⟩, .string ⟨#[]⟩]) 40 ?ho Try.underlying22 Go.Proofs.Ytlelpomnblaciaa.Mk.info53 rfl (show 0 < 3 by decide) (by decide) vl ([] : List S53) l (some A) l.length c (fun k => w.heap.size ≤ k) (fun _ => False) ?e1 ?e2 HO4.out ?hrow (fun x cs hx => by obtain rfl := k53_open hx; exact k53_mkM _ _ _ x) (fun _ q => q.elim) (fun k hk => Nat.le_trans HB4.out.size hk) HB4.out HB4.out.size ?hl ?_; (case hg => rfl); (case ho => rfl); (case e1 => rfl); (case e2 => rfl); (case hrow => exact Kd.C_foot_neS (S := fun _ => False) (fun h => h) HR.out (fun _ _ _ q => q) u4 (Kept.of_below HB4.out (fun _ => False))); (case hl => have := HLN.out; simp only [List.length_nil]; omega); intro v5 u5 ho5 hb5 hg5_ hat5_; clear hg5_ hat5_; have HO5 := aM ho5; have HB5 := aM hb5; clear ho5 hb5))
 go_ret
 exact ⟨v5, rfl, HO5.out, HB5.out⟩
theorem clone_partA (w : World) (A : Option Addr) (c : Nat) (l : List S53) (hr : Kd.C k53 w A l.length l) (hlen : l.length ≤ 1000000) :
  Calls Try.prog 63 #[.slice A l.length c] w fun e w' => ∃ v : Value, e = .returned v ∧ Kd.R k53 53 w' w.heap.size (fun k => w.heap.size ≤ k) v l ∧ Below w.heap.size w w' := by
 cases A with
 | some A => exact clone_part w A c l hr hlen
 | none =>
  have hl : l = [] := by
   cases l with
   | nil => rfl
   | cons p r =>
    obtain ⟨ad, e3, _, _, _⟩ := at_T53 hr 0 (Int.le_refl _) (by rw [List.length_cons]; omega)
    cases e3
  subst hl
  clear hr hlen
  have hu22 := Try.underlying22
  have eqn : (Go.binOp .eql 22 (.slice none 0 c) (.slice none 0 0)).run Try.prog w = .ok (.bool true) w := Go.Lib.run_eql_slice_nil w 22 53 none 0 c 0 0 hu22
  go_enter Try.func63, Try.ntmps63
  go_wp2_with fail
  go_ret
  exact ⟨_, rfl, Kd.R_nil _ _ _ _ _, Below.refl _ _⟩
end Go.Proofs.Ytlelpomnblaciaa.PFnComposed
