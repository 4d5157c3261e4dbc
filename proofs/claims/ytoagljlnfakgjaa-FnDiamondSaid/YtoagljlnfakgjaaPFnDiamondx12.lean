/- (thin) Written by a program of this session (wip/ovl.py) over the kit's print. -/
import Derived.Test.YtoagljlnfakgjaaMk
import Derived.Test.YtoagljlnfakgjaaWKept
import Derived.Test.YtoagljlnfakgjaaPFnDiamondx0
import Derived.Test.YtoagljlnfakgjaaPFnDiamondx4
import Derived.Test.YtoagljlnfakgjaaPFnDiamondx5
import Derived.Test.YtoagljlnfakgjaaPFnDiamondx8
import Derived.Test.YtoagljlnfakgjaaPFnDiamondx10
import Derived.Test.YtoagljlnfakgjaaPFnDiamondx11
namespace Go.Proofs.Ytoagljlnfakgjaa.PFnDiamond
open Go.RowKit Go.Proofs.YtoagljlnfakgjaaW.PrintWords Go.Proofs.YtoagljlnfakgjaaW.PrintLast Go.Proofs.YtoagljlnfakgjaaW.PrintMore
attribute [local go_sem] max2_int min2_int max_two min_two max_three min_three max_four min_four
set_option linter.unusedVariables false
set_option linter.unusedSimpArgs false
set_option maxHeartbeats 16000000
set_option maxRecDepth 100000
def yG.f (k : Nat) (l0 : List S60) : Option ((List S60) × Bool) := (jU.f k l0).bind fun t270 => (if t270 = true then (some (l0, true)) else (some (([] : List S60), false)))
theorem yG.mono : ∀ a0 k, LeO (yG.f k a0) (yG.f (k + 1) a0) := by
 intro a0 k
 unfold yG.f
 repeat' (with_reducible first | apply jU.mono | apply LeO.refl | apply LeO.none | apply LeO.ite | refine LeO.bind ?_ fun _ => ?_)
theorem yG.calls (k : Nat) (P0_ : Nat → Prop) (u9000_ : Value) (l0 : List S60) (r1 : List S60) (r2 : Bool) (w0 w : World) (hB : Below w0.heap.size w0 w) (ho0 : Kd.R k60 60 w w0.heap.size P0_ u9000_ l0) (h : yG.f k l0 = some (r1, r2)) :
  Calls Try.prog 51 #[u9000_] w fun e w' => ∃ v0_ : Value, e = .returned (.tuple #[v0_, .bool r2]) ∧ Kd.R k60 60 w' w0.heap.size (fun k_ => (P0_ k_ ∨ w.heap.size ≤ k_)) v0_ r1 ∧ Below w0.heap.size w0 w' ∧ Kept w w' (fun k_ => P0_ k_) := by
 have HO0 := aM (show Kd.R k60 60 w w0.heap.size (fun k_ => (P0_ k_ ∨ w.heap.size ≤ k_)) u9000_ l0 from Kd.R_mono ho0 (fun k_ hk => (.inl hk)))
 have HK := aM (Kept.refl w (fun k_ => P0_ k_))
 have HW0 := aM hB.size
 have HB := aM hB
 clear hB
 have H : ((jU.f k l0).bind fun t270 => (if t270 = true then (some (l0, true)) else (some (([] : List S60), false)))) = some (r1, r2) := h
 clear h
 obtain ⟨t270, A2, H⟩ := bM H
 by_cases c3 : t270 = true
 ·subst c3
  rw [if_pos rfl] at H
  simp only [Option.some.injEq, Prod.mk.injEq] at H
  obtain ⟨rfl, rfl⟩ := H
  obtain ⟨Ao4, co4, eo4⟩ := Kd.R_slice HO0.out
  subst eo4
  go_enter Try.func51, Try.ntmps51
  go_wp2_with ((with_reducible refine gate_callee (f := 37) rfl ?_); refine gL 5 Try.func37 #[.slice Ao4 l0.length co4] ?_; (with_reducible refine (jU.calls k _ _ l0 true _ ?s1 ?s2 A2.out).mono ?_); (case s1 => exact cC ((Kd.R_reads' HO0.out).2.2)); (case s2 => exact (Kd.R_reads' HO0.out).2.1); rintro e w5 ⟨rfl, hb⟩; refine ⟨_, rfl, ?_⟩; replace HO0 := aM (Kd.R_below (rR HO0.out) hb); replace HK := aM (Kept.below (S := (fun k_ => P0_ k_)) aP12 hb); replace HB := aM (below_step bB hb); clear hb)
  go_ret2
  exact ⟨_, by first | rfl | (simp [errW_none, errW_some] <;> rfl) | (simp [*, errW_none, errW_some] <;> rfl), rR HO0.out, by exact bB, aP12⟩
 replace c3 := Bool.eq_false_iff.mpr c3
 subst c3
 replace H := fF H
 simp only [Option.some.injEq, Prod.mk.injEq] at H
 obtain ⟨rfl, rfl⟩ := H
 obtain ⟨Ao6, co6, eo6⟩ := Kd.R_slice HO0.out
 subst eo6
 go_enter Try.func51, Try.ntmps51
 go_wp2_with ((with_reducible refine gate_callee (f := 37) rfl ?_); refine gL 5 Try.func37 #[.slice Ao6 l0.length co6] ?_; (with_reducible refine (jU.calls k _ _ l0 false _ ?s1 ?s2 A2.out).mono ?_); (case s1 => exact cC ((Kd.R_reads' HO0.out).2.2)); (case s2 => exact (Kd.R_reads' HO0.out).2.1); rintro e w7 ⟨rfl, hb⟩; refine ⟨_, rfl, ?_⟩; replace HO0 := aM (Kd.R_below (rR HO0.out) hb); replace HK := aM (Kept.below (S := (fun k_ => P0_ k_)) aP12 hb); replace HB := aM (below_step bB hb); clear hb)
 go_ret2
 exact ⟨_, by first | rfl | (simp [errW_none, errW_some] <;> rfl) | (simp [*, errW_none, errW_some] <;> rfl), by first | exact Kd.R_nil _ _ _ _ _ | exact Kd.N_nil _ _ _ _ _ | exact Kd.V_nil _ _ _ _ _ | exact Kd.Q_nil _ _ _ _ _ | exact Kd.S_nil _ _ _ _ _, by exact bB, aP12⟩
-- NOT PRINTED: function 52 (impl_maker_made)
-- import Mk
-- import WKept
def kpG (s : (List Mk.Pt × ByteArray × ByteArray)) (n : Int) : Option ((List Mk.Pt × ByteArray × ByteArray)) := if s.1.length ≤ 900 then some (Mk.keepS s.1 s.2.1 s.2.2 n) else none
theorem kpG_is {s z : (List Mk.Pt × ByteArray × ByteArray)} {n : Int} (h : kpG s n = some z) : s.1.length ≤ 900 ∧ z = Mk.keepS s.1 s.2.1 s.2.2 n := by
 unfold kpG at h
 by_cases c : s.1.length ≤ 900
 rotate_left
 ·rw [if_neg c] at h; cases h
 rw [if_pos c] at h; exact ⟨c, (Option.some.inj h).symm⟩
def trI : Nat → (List Mk.Pt × ByteArray × ByteArray) → (List Mk.Pt × ByteArray × ByteArray) → List S60 → List S60 → Option ((List Mk.Pt × ByteArray × ByteArray) × (List Mk.Pt × ByteArray × ByteArray))
 | 0, _, _, _, _ => none
 | m + 1, s, u, [], [] => some (s, u)
 | m + 1, s, u, p :: x, [] => if p.f1.toList = ([] : List UInt8) then none else (tkG s p).bind fun z => (kpG u (p.f1.size : Int)).bind fun t => trI m z t x []
 | m + 1, s, u, [], q :: y => if q.f1.toList = ([] : List UInt8) then none else (tkG u q).bind fun t => (kpG s (q.f1.size : Int)).bind fun z => trI m z t [] y
 | m + 1, s, u, p :: x, q :: y =>
  if p.f1.toList = ([] : List UInt8) then
   (if q.f1.toList = ([] : List UInt8) then
    ((cutP p (if szI q < szI p then szI q else szI p)).bind fun a => (cutP q (if szI q < szI p then szI q else szI p)).bind fun b =>
     if 0 < b.1.f0 then
      (if 0 < a.1.f0 then (tkG s a.1).bind fun z => (tkG u b.1).bind fun t => trI m z t (restP a.2 x) (restP b.2 y)
      else (tkG s a.1).bind fun z => trI m z u (restP a.2 x) (restP b.2 y))
     else if 0 < a.1.f0 then (tkG u b.1).bind fun t => trI m s t (restP a.2 x) (restP b.2 y)
     else trI m s u (restP a.2 x) (restP b.2 y))
   else (tkG u q).bind fun t => (kpG s (q.f1.size : Int)).bind fun z => trI m z t (p :: x) y)
  else (tkG s p).bind fun z => (kpG u (p.f1.size : Int)).bind fun t => trI m z t x (q :: y)
theorem trI_put {m : Nat} {s u : (List Mk.Pt × ByteArray × ByteArray)} {p : S60} {x y : List S60} (h : ¬ p.f1.toList = ([] : List UInt8)) : trI (m + 1) s u (p :: x) y = (tkG s p).bind fun z => (kpG u (p.f1.size : Int)).bind fun t => trI m z t x y := by
 cases y <;> rw [trI, if_neg h]
theorem trI_mono : ∀ (m : Nat) (s u : (List Mk.Pt × ByteArray × ByteArray)) (x y : List S60), LeO (trI m s u x y) (trI (m + 1) s u x y)
 | 0, s, u, x, y => by rw [trI]; exact LeO.none _
 | m + 1, s, u, [], [] => by rw [trI, trI]; exact LeO.refl _
 | m + 1, s, u, p :: x, [] => by
  rw [trI, trI]
  exact LeO.ite (LeO.refl _) (LeO.bind (LeO.refl _) (fun _ => LeO.bind (LeO.refl _) (fun _ => trI_mono m _ _ _ _)))
 | m + 1, s, u, [], q :: y => by
  rw [trI, trI]
  exact LeO.ite (LeO.refl _) (LeO.bind (LeO.refl _) (fun _ => LeO.bind (LeO.refl _) (fun _ => trI_mono m _ _ _ _)))
 | m + 1, s, u, p :: x, q :: y => by
  rw [trI, trI]
  exact LeO.ite (LeO.ite (LeO.bind (LeO.refl _) (fun _ => LeO.bind (LeO.refl _) (fun _ => LeO.ite (LeO.ite (LeO.bind (LeO.refl _) (fun _ => LeO.bind (LeO.refl _) (fun _ => trI_mono m _ _ _ _))) (LeO.bind (LeO.refl _) (fun _ => trI_mono m _ _ _ _))) (LeO.ite (LeO.bind (LeO.refl _) (fun _ => trI_mono m _ _ _ _)) (trI_mono m _ _ _ _)))))
   (LeO.bind (LeO.refl _) (fun _ => LeO.bind (LeO.refl _) (fun _ => trI_mono m _ _ _ _)))) (LeO.bind (LeO.refl _) (fun _ => LeO.bind (LeO.refl _) (fun _ => trI_mono m _ _ _ _)))
theorem maker_madeK (base g : Nat) (v : Value) (l : List Mk.Pt) (put drop : ByteArray) (w0 w : World) (h : Mk.IsMk w0 w base g l put drop v) (hg : base ≤ g) (hn : l.length ≤ 1000) :
  Calls Try.prog 52 #[.pointer (some ⟨g, 0, none⟩)] w fun e w' => ∃ v', e = .returned v' ∧ Mk.IsMk w0 w' base g (l ++ Mk.endL put drop) ⟨#[]⟩ ⟨#[]⟩ v' ∧ Kept w w' (fun k => k = g ∨ some k = v.ownBlock) ∧ (∀ k, v'.ownBlock = some k → v.ownBlock = some k ∨ w.heap.size ≤ k) := by
 have hu74 := Try.underlying70
 have H := aM h
 clear h
 go_enter Try.func52, Try.ntmps52
 go_wp2_with (go_at_call 75; (with_reducible refine (Mk.maker_endP base g v l put drop w0 _ H.out hg hn).mono ?_); rintro e w1 ⟨rfl, v1, h1, hk1, hv1⟩; have H1 := aM h1; have K1 := aM hk1; have V1 := aM hv1; have c0 := (Mk.keep_block h1.blk).1; clear h1 hk1 hv1)
 go_ret
 exact ⟨_, rfl, H1.out, K1.out, V1.out⟩
def tmB (gx gy gm go_ : Nat) (v t : Value) (k : Nat) : Prop := k = gx ∨ k = gy ∨ k = gm ∨ k = go_ ∨ v.ownBlock = some k ∨ t.ownBlock = some k
def tmE (gx gy gm go_ gp gq : Nat) (v t : Value) (k : Nat) : Prop := tmB gx gy gm go_ v t k ∨ k = gp ∨ k = gq
theorem tmE_x (gx gy gm go_ gp gq : Nat) (v t : Value) : tmE gx gy gm go_ gp gq v t gx := .inl (.inl rfl)
theorem tmE_y (gx gy gm go_ gp gq : Nat) (v t : Value) : tmE gx gy gm go_ gp gq v t gy := .inl (.inr (.inl rfl))
structure T2 (w0 w : World) (gm go_ : Nat) (s u : (List Mk.Pt × ByteArray × ByteArray)) (v t : Value) : Prop where
 hm : Mk.IsMk w0 w w0.heap.size gm s.1 s.2.1 s.2.2 v
 ho : Mk.IsMk w0 w w0.heap.size go_ u.1 u.2.1 u.2.2 t
 vo : v.ownBlock ≠ some go_
 tm : t.ownBlock ≠ some gm
 vt : ∀ k, v.ownBlock = some k → t.ownBlock ≠ some k
 nmo : gm ≠ go_
 gm0 : w0.heap.size ≤ gm
 go0 : w0.heap.size ≤ go_
structure Tm (w0 w : World) (gx gy gm go_ : Nat) (x y : List S60) (s u : (List Mk.Pt × ByteArray × ByteArray)) (v t : Value) : Prop where
 t2 : T2 w0 w gm go_ s u v t
 rx : IsRd w gx x (tmB gx gy gm go_ v t)
 ry : IsRd w gy y (tmB gx gy gm go_ v t)
 nxy : gx ≠ gy
 fx : gx ≠ gm ∧ gx ≠ go_ ∧ v.ownBlock ≠ some gx ∧ t.ownBlock ≠ some gx ∧ w0.heap.size ≤ gx
 fy : gy ≠ gm ∧ gy ≠ go_ ∧ v.ownBlock ≠ some gy ∧ t.ownBlock ≠ some gy ∧ w0.heap.size ≤ gy
structure TmE (w0 w : World) (gx gy gm go_ gp gq : Nat) (x y : List S60) (s u : (List Mk.Pt × ByteArray × ByteArray)) (v t : Value) (p q : S60) : Prop where
 t2 : T2 w0 w gm go_ s u v t
 rx : IsRd w gx x (tmE gx gy gm go_ gp gq v t)
 ry : IsRd w gy y (tmE gx gy gm go_ gp gq v t)
 nxy : gx ≠ gy
 fx : gx ≠ gm ∧ gx ≠ go_ ∧ v.ownBlock ≠ some gx ∧ t.ownBlock ≠ some gx ∧ w0.heap.size ≤ gx
 fy : gy ≠ gm ∧ gy ≠ go_ ∧ v.ownBlock ≠ some gy ∧ t.ownBlock ≠ some gy ∧ w0.heap.size ≤ gy
 bp : Cells3 w gp p
 bq : Cells3 w gq q
 npq : gp ≠ gq
 fp : (gp ≠ gx ∧ gp ≠ gy) ∧ gp ≠ gm ∧ gp ≠ go_ ∧ v.ownBlock ≠ some gp ∧ t.ownBlock ≠ some gp ∧ w0.heap.size ≤ gp
 fq : (gq ≠ gx ∧ gq ≠ gy) ∧ gq ≠ gm ∧ gq ≠ go_ ∧ v.ownBlock ≠ some gq ∧ t.ownBlock ≠ some gq ∧ w0.heap.size ≤ gq
theorem TmE.tm {w0 w : World} {gx gy gm go_ gp gq : Nat} {x y : List S60} {s u : (List Mk.Pt × ByteArray × ByteArray)} {v t : Value} {p q : S60} (h : TmE w0 w gx gy gm go_ gp gq x y s u v t p q) : Tm w0 w gx gy gm go_ x y s u v t :=
 ⟨h.t2, h.rx.mono (fun _ z => .inl z), h.ry.mono (fun _ z => .inl z), h.nxy, h.fx, h.fy⟩
theorem mk_keptT {w0 w w' : World} {base g : Nat} {l : List Mk.Pt} {put drop : ByteArray} {v : Value} {S : Nat → Prop} (h : Mk.IsMk w0 w base g l put drop v) (hk : Kept w w' S) (hb : Below base w0 w') (hg : ¬ S g) (hv : ∀ k, v.ownBlock = some k → ¬ S k) : Mk.IsMk w0 w' base g l put drop v :=
 ⟨blk_kept h.blk hk hg, own_move h.own (fun k e => hk.2 k (own_lt h.own k e) (hv k e)), h.far, hb, Nat.le_trans h.siz hk.1⟩
theorem T2.kept {w0 w w' : World} {gm go_ : Nat} {s u : (List Mk.Pt × ByteArray × ByteArray)} {v t : Value} {S : Nat → Prop} (h : T2 w0 w gm go_ s u v t) (hk : KeptB w w' S) (hm : ¬ S gm) (ho : ¬ S go_) (hv : ∀ k, v.ownBlock = some k → ¬ S k) (ht : ∀ k, t.ownBlock = some k → ¬ S k) (hS : ∀ k, S k → w0.heap.size ≤ k) : T2 w0 w' gm go_ s u v t :=
 ⟨mk_keptT h.hm hk.kept (hk.below h.hm.bel h.hm.siz hS) hm hv, mk_keptT h.ho hk.kept (hk.below h.ho.bel h.ho.siz hS) ho ht, h.vo, h.tm, h.vt, h.nmo, h.gm0, h.go0⟩
theorem T2.takeM {w0 w w' : World} {gm go_ : Nat} {s u z : (List Mk.Pt × ByteArray × ByteArray)} {v t v' : Value} (h : T2 w0 w gm go_ s u v t) (hm : Mk.IsMk w0 w' w0.heap.size gm z.1 z.2.1 z.2.2 v') (hk : Kept w w' (fun k => k = gm ∨ some k = v.ownBlock)) (hv : ∀ k, v'.ownBlock = some k → v.ownBlock = some k ∨ w.heap.size ≤ k) : T2 w0 w' gm go_ z u v' t := by
 have e1 := blk_lt h.ho.blk
 refine ⟨hm, mk_keptT h.ho hk hm.bel (fun e => e.elim (fun e => h.nmo e.symm) (fun e => h.vo e.symm)) (fun k e z => z.elim (fun z => h.tm (z ▸ e)) (fun z => h.vt k z.symm e)), fun e => ?_, h.tm, fun k e z => ?_, h.nmo, h.gm0, h.go0⟩
 ·exact (hv go_ e).elim h.vo (fun z => by omega)
 have := own_lt h.ho.own k z
 exact (hv k e).elim (fun e => h.vt k e z) (fun e => by omega)
theorem T2.takeO {w0 w w' : World} {gm go_ : Nat} {s u z : (List Mk.Pt × ByteArray × ByteArray)} {v t t' : Value} (h : T2 w0 w gm go_ s u v t) (ho : Mk.IsMk w0 w' w0.heap.size go_ z.1 z.2.1 z.2.2 t') (hk : Kept w w' (fun k => k = go_ ∨ some k = t.ownBlock)) (ht : ∀ k, t'.ownBlock = some k → t.ownBlock = some k ∨ w.heap.size ≤ k) : T2 w0 w' gm go_ s z v t' := by
 have e1 := blk_lt h.hm.blk
 refine ⟨mk_keptT h.hm hk ho.bel (fun e => e.elim h.nmo (fun e => h.tm e.symm)) (fun k e z => z.elim (fun z => h.vo (z ▸ e)) (fun z => h.vt k e z.symm)), ho, h.vo, fun e => ?_, fun k e z => ?_, h.nmo, h.gm0, h.go0⟩
 ·exact (ht gm e).elim h.tm (fun z => by omega)
 have := own_lt h.hm.own k e
 exact (ht k z).elim (fun z => h.vt k e z) (fun z => by omega)
theorem Tm.lt {w0 w : World} {gx gy gm go_ : Nat} {x y : List S60} {s u : (List Mk.Pt × ByteArray × ByteArray)} {v t : Value} (h : Tm w0 w gx gy gm go_ x y s u v t) : ∀ k, tmB gx gy gm go_ v t k → k < w.heap.size := fun k q => by
 rcases q with q | q | q | q | q | q
 ·rw [q]; exact rd_lt h.rx
 ·rw [q]; exact rd_lt h.ry
 ·rw [q]; exact blk_lt h.t2.hm.blk
 ·rw [q]; exact blk_lt h.t2.ho.blk
 ·exact own_lt h.t2.hm.own k q
 ·exact own_lt h.t2.ho.own k q
theorem Tm.keptF {w0 w w' : World} {gx gy gm go_ : Nat} {x y : List S60} {s u : (List Mk.Pt × ByteArray × ByteArray)} {v t : Value} (h : Tm w0 w gx gy gm go_ x y s u v t) (hk : KeptB w w' (fun _ => False)) : Tm w0 w' gx gy gm go_ x y s u v t :=
 ⟨h.t2.kept hk (fun q => q) (fun q => q) (fun _ _ q => q) (fun _ _ q => q) (fun _ q => q.elim), h.rx.kept hk.kept (fun q => q) (fun _ q => q.elim), h.ry.kept hk.kept (fun q => q) (fun _ q => q.elim), h.nxy, h.fx, h.fy⟩
theorem Tm.below {w0 w w' : World} {gx gy gm go_ : Nat} {x y : List S60} {s u : (List Mk.Pt × ByteArray × ByteArray)} {v t : Value} (h : Tm w0 w gx gy gm go_ x y s u v t) (hb : Below w.heap.size w w') : Tm w0 w' gx gy gm go_ x y s u v t := h.keptF (KeptB.of_below hb _)
theorem TmE.lt {w0 w : World} {gx gy gm go_ gp gq : Nat} {x y : List S60} {s u : (List Mk.Pt × ByteArray × ByteArray)} {v t : Value} {p q : S60} (h : TmE w0 w gx gy gm go_ gp gq x y s u v t p q) : ∀ k, tmE gx gy gm go_ gp gq v t k → k < w.heap.size := fun k e => by
 rcases e with e | e | e
 ·exact h.tm.lt k e
 ·rw [e]; exact blk_lt h.bp
 ·rw [e]; exact blk_lt h.bq
theorem TmE.of {w0 w w' : World} {gx gy gm go_ gp gq : Nat} {x y : List S60} {s u : (List Mk.Pt × ByteArray × ByteArray)} {v t : Value} {p q : S60} (h : Tm w0 w gx gy gm go_ x y s u v t) (hk : KeptB w w' (fun _ => False)) (hp : gp = w.heap.size) (hq : w.heap.size ≤ gq) (bp : Cells3 w' gp p) (bq : Cells3 w' gq q) (npq : gp ≠ gq) : TmE w0 w' gx gy gm go_ gp gq x y s u v t p q := by
 have hs : ∀ k, tmE gx gy gm go_ gp gq v t k → tmB gx gy gm go_ v t k ∨ w.heap.size ≤ k := fun k e => by
  rcases e with e | e | e
  ·exact .inl e
  ·exact .inr (by omega)
  ·exact .inr (by omega)
 have hl := h.lt
 have hz := h.t2.hm.siz
 have fr : ∀ g, w.heap.size ≤ g → (g ≠ gx ∧ g ≠ gy) ∧ g ≠ gm ∧ g ≠ go_ ∧ v.ownBlock ≠ some g ∧ t.ownBlock ≠ some g ∧ w0.heap.size ≤ g := fun g hg => by
  have h1 := hl gx (.inl rfl)
  have h2 := hl gy (.inr (.inl rfl))
  have h3 := hl gm (.inr (.inr (.inl rfl)))
  have h4 := hl go_ (.inr (.inr (.inr (.inl rfl))))
  refine ⟨⟨by omega, by omega⟩, by omega, by omega, fun e => ?_, fun e => ?_, by omega⟩
  ·have := hl g (.inr (.inr (.inr (.inr (.inl e))))); omega
  ·have := hl g (.inr (.inr (.inr (.inr (.inr e))))); omega
 have k := h.keptF hk
 exact ⟨k.t2, h.rx.next hk.kept (fun _ q => q.elim) (fun q => q) hs, h.ry.next hk.kept (fun _ q => q.elim) (fun q => q) hs, h.nxy, h.fx, h.fy, bp, bq, npq, fr gp (by omega), fr gq hq⟩
theorem TmE.keptF {w0 w w' : World} {gx gy gm go_ gp gq : Nat} {x y : List S60} {s u : (List Mk.Pt × ByteArray × ByteArray)} {v t : Value} {p q : S60} (h : TmE w0 w gx gy gm go_ gp gq x y s u v t p q) (hk : KeptB w w' (fun _ => False)) : TmE w0 w' gx gy gm go_ gp gq x y s u v t p q :=
 ⟨h.t2.kept hk (fun q => q) (fun q => q) (fun _ _ q => q) (fun _ _ q => q) (fun _ q => q.elim), h.rx.kept hk.kept (fun q => q) (fun _ q => q.elim), h.ry.kept hk.kept (fun q => q) (fun _ q => q.elim), h.nxy, h.fx, h.fy, blk_kept h.bp hk.kept (fun q => q), blk_kept h.bq hk.kept (fun q => q), h.npq, h.fp, h.fq⟩
theorem TmE.below {w0 w w' : World} {gx gy gm go_ gp gq : Nat} {x y : List S60} {s u : (List Mk.Pt × ByteArray × ByteArray)} {v t : Value} {p q : S60} (h : TmE w0 w gx gy gm go_ gp gq x y s u v t p q) (hb : Below w.heap.size w w') : TmE w0 w' gx gy gm go_ gp gq x y s u v t p q := h.keptF (KeptB.of_below hb _)
theorem TmE.stepX {w0 w w' : World} {gx gy gm go_ gp gq : Nat} {x x' y : List S60} {s u : (List Mk.Pt × ByteArray × ByteArray)} {v t : Value} {p q : S60} (h : TmE w0 w gx gy gm go_ gp gq x y s u v t p q) (h1 : IsRd w' gx x' (tmE gx gy gm go_ gp gq v t)) (hk : KeptB w w' (fun k => k = gx)) : TmE w0 w' gx gy gm go_ gp gq x' y s u v t p q :=
 ⟨h.t2.kept hk (fun q => h.fx.1 q.symm) (fun q => h.fx.2.1 q.symm) (fun k e q => h.fx.2.2.1 (q ▸ e)) (fun k e q => h.fx.2.2.2.1 (q ▸ e)) (fun k q => by rw [q]; exact h.fx.2.2.2.2), h1, h.ry.kept hk.kept (fun q => h.nxy q.symm) (fun _ q => .inl (.inl q)), h.nxy, h.fx, h.fy, blk_kept h.bp hk.kept h.fp.1.1, blk_kept h.bq hk.kept h.fq.1.1, h.npq, h.fp, h.fq⟩
theorem TmE.stepY {w0 w w' : World} {gx gy gm go_ gp gq : Nat} {x y y' : List S60} {s u : (List Mk.Pt × ByteArray × ByteArray)} {v t : Value} {p q : S60} (h : TmE w0 w gx gy gm go_ gp gq x y s u v t p q) (h1 : IsRd w' gy y' (tmE gx gy gm go_ gp gq v t)) (hk : KeptB w w' (fun k => k = gy)) : TmE w0 w' gx gy gm go_ gp gq x y' s u v t p q :=
 ⟨h.t2.kept hk (fun q => h.fy.1 q.symm) (fun q => h.fy.2.1 q.symm) (fun k e q => h.fy.2.2.1 (q ▸ e)) (fun k e q => h.fy.2.2.2.1 (q ▸ e)) (fun k q => by rw [q]; exact h.fy.2.2.2.2), h.rx.kept hk.kept (fun q => h.nxy q) (fun _ q => .inl (.inr (.inl q))), h1, h.nxy, h.fx, h.fy, blk_kept h.bp hk.kept h.fp.1.2, blk_kept h.bq hk.kept h.fq.1.2, h.npq, h.fp, h.fq⟩
theorem TmE.put {w0 w : World} {gx gy gm go_ gp gq : Nat} {x y : List S60} {s u : (List Mk.Pt × ByteArray × ByteArray)} {v t : Value} {p q : S60} (h : TmE w0 w gx gy gm go_ gp gq x y s u v t p q) (a b : S60) : TmE w0 (put3 (put3 w gp a) gq b) gx gy gm go_ gp gq x y s u v t a b := by
 have hk : KeptB w (put3 (put3 w gp a) gq b) (fun k => k = gp ∨ k = gq) := kept_put3 (kept_put3 ⟨Kept.refl w _, rfl, rfl, rfl⟩ (.inl (.inl rfl)) a) (.inl (.inr rfl)) b
 refine ⟨h.t2.kept hk (fun e => e.elim (fun e => h.fp.2.1 e.symm) (fun e => h.fq.2.1 e.symm)) (fun e => e.elim (fun e => h.fp.2.2.1 e.symm) (fun e => h.fq.2.2.1 e.symm)) (fun k e z => z.elim (fun z => h.fp.2.2.2.1 (z ▸ e)) (fun z => h.fq.2.2.2.1 (z ▸ e))) (fun k e z => z.elim (fun z => h.fp.2.2.2.2.1 (z ▸ e)) (fun z => h.fq.2.2.2.2.1 (z ▸ e))) (fun k z => z.elim (fun z => by rw [z]; exact h.fp.2.2.2.2.2) (fun z => by rw [z]; exact h.fq.2.2.2.2.2)),
  h.rx.kept hk.kept (fun e => e.elim (fun e => h.fp.1.1 e.symm) (fun e => h.fq.1.1 e.symm)) (fun _ z => .inr z), h.ry.kept hk.kept (fun e => e.elim (fun e => h.fp.1.2 e.symm) (fun e => h.fq.1.2 e.symm)) (fun _ z => .inr z), h.nxy, h.fx, h.fy, put3_far (put3_is h.bp a) h.npq b, put3_is (put3_far h.bq h.npq.symm a) b, h.npq, h.fp, h.fq⟩
theorem TmE.takeM {w0 w w' : World} {gx gy gm go_ gp gq : Nat} {x y : List S60} {s u z : (List Mk.Pt × ByteArray × ByteArray)} {v t v' : Value} {p q : S60} (h : TmE w0 w gx gy gm go_ gp gq x y s u v t p q) (hm : Mk.IsMk w0 w' w0.heap.size gm z.1 z.2.1 z.2.2 v') (hk : Kept w w' (fun k => k = gm ∨ some k = v.ownBlock)) (hv : ∀ k, v'.ownBlock = some k → v.ownBlock = some k ∨ w.heap.size ≤ k) : TmE w0 w' gx gy gm go_ gp gq x y z u v' t p q := by
 have hP : ∀ k, (k = gm ∨ some k = v.ownBlock) → tmE gx gy gm go_ gp gq v t k := fun k q => q.elim (fun q => .inl (.inr (.inr (.inl q)))) (fun q => .inl (.inr (.inr (.inr (.inr (.inl q.symm))))))
 have hs : ∀ k, tmE gx gy gm go_ gp gq v' t k → tmE gx gy gm go_ gp gq v t k ∨ w.heap.size ≤ k := fun k q => by
  rcases q with (q | q | q | q | q | q) | q
  ·exact .inl (.inl (.inl q))
  ·exact .inl (.inl (.inr (.inl q)))
  ·exact .inl (.inl (.inr (.inr (.inl q))))
  ·exact .inl (.inl (.inr (.inr (.inr (.inl q)))))
  ·exact (hv k q).imp (fun z => .inl (.inr (.inr (.inr (.inr (.inl z)))))) (fun z => z)
  ·exact .inl (.inl (.inr (.inr (.inr (.inr (.inr q))))))
  ·exact .inl (.inr q)
 have hn : ∀ g, g < w.heap.size → v.ownBlock ≠ some g → v'.ownBlock ≠ some g := fun g hg he e => (hv g e).elim he (fun z => by omega)
 have l1 := rd_lt h.rx
 have l2 := rd_lt h.ry
 exact ⟨h.t2.takeM hm hk hv, h.rx.next hk hP (fun q => q.elim h.fx.1 (fun q => h.fx.2.2.1 q.symm)) hs, h.ry.next hk hP (fun q => q.elim h.fy.1 (fun q => h.fy.2.2.1 q.symm)) hs, h.nxy, ⟨h.fx.1, h.fx.2.1, hn _ l1 h.fx.2.2.1, h.fx.2.2.2⟩, ⟨h.fy.1, h.fy.2.1, hn _ l2 h.fy.2.2.1, h.fy.2.2.2⟩,
  blk_kept h.bp hk (fun q => q.elim h.fp.2.1 (fun q => h.fp.2.2.2.1 q.symm)), blk_kept h.bq hk (fun q => q.elim h.fq.2.1 (fun q => h.fq.2.2.2.1 q.symm)), h.npq, ⟨h.fp.1, h.fp.2.1, h.fp.2.2.1, hn _ (blk_lt h.bp) h.fp.2.2.2.1, h.fp.2.2.2.2⟩, ⟨h.fq.1, h.fq.2.1, h.fq.2.2.1, hn _ (blk_lt h.bq) h.fq.2.2.2.1, h.fq.2.2.2.2⟩⟩
theorem TmE.takeO {w0 w w' : World} {gx gy gm go_ gp gq : Nat} {x y : List S60} {s u z : (List Mk.Pt × ByteArray × ByteArray)} {v t t' : Value} {p q : S60} (h : TmE w0 w gx gy gm go_ gp gq x y s u v t p q) (ho : Mk.IsMk w0 w' w0.heap.size go_ z.1 z.2.1 z.2.2 t') (hk : Kept w w' (fun k => k = go_ ∨ some k = t.ownBlock)) (hv : ∀ k, t'.ownBlock = some k → t.ownBlock = some k ∨ w.heap.size ≤ k) : TmE w0 w' gx gy gm go_ gp gq x y s z v t' p q := by
 have hP : ∀ k, (k = go_ ∨ some k = t.ownBlock) → tmE gx gy gm go_ gp gq v t k := fun k q => q.elim (fun q => .inl (.inr (.inr (.inr (.inl q))))) (fun q => .inl (.inr (.inr (.inr (.inr (.inr q.symm))))))
 have hs : ∀ k, tmE gx gy gm go_ gp gq v t' k → tmE gx gy gm go_ gp gq v t k ∨ w.heap.size ≤ k := fun k q => by
  rcases q with (q | q | q | q | q | q) | q
  ·exact .inl (.inl (.inl q))
  ·exact .inl (.inl (.inr (.inl q)))
  ·exact .inl (.inl (.inr (.inr (.inl q))))
  ·exact .inl (.inl (.inr (.inr (.inr (.inl q)))))
  ·exact .inl (.inl (.inr (.inr (.inr (.inr (.inl q))))))
  ·exact (hv k q).imp (fun z => .inl (.inr (.inr (.inr (.inr (.inr z)))))) (fun z => z)
  ·exact .inl (.inr q)
 have hn : ∀ g, g < w.heap.size → t.ownBlock ≠ some g → t'.ownBlock ≠ some g := fun g hg he e => (hv g e).elim he (fun z => by omega)
 have l1 := rd_lt h.rx
 have l2 := rd_lt h.ry
 exact ⟨h.t2.takeO ho hk hv, h.rx.next hk hP (fun q => q.elim h.fx.2.1 (fun q => h.fx.2.2.2.1 q.symm)) hs, h.ry.next hk hP (fun q => q.elim h.fy.2.1 (fun q => h.fy.2.2.2.1 q.symm)) hs, h.nxy, ⟨h.fx.1, h.fx.2.1, h.fx.2.2.1, hn _ l1 h.fx.2.2.2.1, h.fx.2.2.2.2⟩, ⟨h.fy.1, h.fy.2.1, h.fy.2.2.1, hn _ l2 h.fy.2.2.2.1, h.fy.2.2.2.2⟩,
  blk_kept h.bp hk (fun q => q.elim h.fp.2.2.1 (fun q => h.fp.2.2.2.2.1 q.symm)), blk_kept h.bq hk (fun q => q.elim h.fq.2.2.1 (fun q => h.fq.2.2.2.2.1 q.symm)), h.npq, ⟨h.fp.1, h.fp.2.1, h.fp.2.2.1, h.fp.2.2.2.1, hn _ (blk_lt h.bp) h.fp.2.2.2.2.1, h.fp.2.2.2.2.2⟩, ⟨h.fq.1, h.fq.2.1, h.fq.2.2.1, h.fq.2.2.2.1, hn _ (blk_lt h.bq) h.fq.2.2.2.2.1, h.fq.2.2.2.2.2⟩⟩
theorem rd_initT {w w' : World} {g c : Nat} {A : Option Addr} {l : List S60} {S : Nat → Prop} {base : Nat} {ok : Nat → Prop} (hb : w'.heap[g]? = some (.cells #[.slice A l.length c] 68 (0, 0))) (hr : Kd.R k60 60 w base ok (.slice A l.length c) l) (hk : KeptB w w' (fun _ => False)) (hS : ∀ k, S k → w.heap.size ≤ k) : IsRd w' g l S := by
 obtain ⟨_, hcap, hreads⟩ := Kd.R_reads' hr
 refine ⟨A, c, hb, hcap, Kd.C_foot_neS (S := fun _ => False) (fun h => h) hreads (fun _ _ _ q => q) w' hk.kept, fun ad e hn q => ?_⟩
 obtain ⟨ad', e3, hx0, _, _⟩ := at_T60 hreads 0 (Int.le_refl _) (by omega)
 rw [e] at e3
 obtain rfl := Option.some.inj e3
 rw [show ((0 : Int)).toNat = 0 from rfl, show 0 * 3 = 0 from rfl, Addr.add_zero'] at hx0
 have := World.block_lt_of_cell? w _ hx0
 have := hS _ q
 omega
theorem blk_putT {w : World} {g : Nat} {u : Value} {t : Nat} (h : w.heap[g]? = some (.cells #[u] t (0, 0))) (v : Value) : (w.setCell ⟨g, 0, none⟩ v).heap[g]? = some (.cells #[v] t (0, 0)) := blk_put (cs' := #[v]) h 0 v rfl
theorem tm_init {w0 w6 w9 w10 w11 : World} {gx gy gm go_ cx cy bx by_ : Nat} {Ax Ay : Option Addr} {l0 l1 : List S60} {okx oky : Nat → Prop} (h1 : Kd.R k60 60 w6 bx okx (.slice Ax l0.length cx) l0) (h2 : Kd.R k60 60 w6 by_ oky (.slice Ay l1.length cy) l1) (hb6 : Below w0.heap.size w0 w6) (hk : KeptB w6 w9 (fun _ => False))
  (hx : w9.heap[gx]? = some (.cells #[.slice Ax l0.length cx] 68 (0, 0))) (hy : w9.heap[gy]? = some (.cells #[.slice Ay l1.length cy] 68 (0, 0))) (gx0 : w6.heap.size ≤ gx) (gy0 : w6.heap.size ≤ gy) (hne : gx ≠ gy) (hb : Below w9.heap.size w9 w10) (hm : w10.heap[gm]? = some (.cells #[.slice none 0 0, .string ⟨#[]⟩, .string ⟨#[]⟩] 70 (0, 0))) (hg : gm = w9.heap.size)
  (hb2 : Below w10.heap.size w10 w11) (ho : w11.heap[go_]? = some (.cells #[.slice none 0 0, .string ⟨#[]⟩, .string ⟨#[]⟩] 70 (0, 0))) (hg2 : go_ = w10.heap.size) : Tm w0 w11 gx gy gm go_ l0 l1 ([], ⟨#[]⟩, ⟨#[]⟩) ([], ⟨#[]⟩, ⟨#[]⟩) (.slice none 0 0) (.slice none 0 0) := by
 have e1 := blk_lt hx
 have e2 := blk_lt hy
 have e3 := hk.kept.1
 have e4 := hb6.size
 have e5 := hb.size
 have e6 := blk_lt hm
 have e7 := hb2.size
 have hb9 : Below w0.heap.size w0 w9 := hk.below hb6 hb6.size (fun _ q => q.elim)
 have hb11 := below_step (below_step hb9 hb) hb2
 have hS : ∀ k, tmB gx gy gm go_ (.slice none 0 0) (.slice none 0 0) k → w6.heap.size ≤ k := fun k q => by
  rcases q with q | q | q | q | q | q
  ·omega
  ·omega
  ·omega
  ·omega
  ·cases q
  ·cases q
 have k11 : KeptB w6 w11 (fun _ => False) := (hk.then_ (KeptB.of_below hb (fun _ => False)) (fun _ q => q.elim)).then_ (KeptB.of_below hb2 (fun _ => False)) (fun _ q => q.elim)
 have nn : ∀ g, (Value.slice none 0 0).ownBlock ≠ some g := fun g q => by cases q
 exact ⟨⟨⟨blk_below hm hb2, own_nil _ _ _ _, nn _, hb11, by omega⟩, ⟨ho, own_nil _ _ _ _, nn _, hb11, by omega⟩, nn _, nn _, (fun k q => by cases q), by omega, by omega, by omega⟩, rd_initT (blk_below (blk_below hx hb) hb2) h1 k11 hS, rd_initT (blk_below (blk_below hy hb) hb2) h2 k11 hS, hne, ⟨by omega, by omega, nn _, nn _, by omega⟩, ⟨by omega, by omega, nn _, nn _, by omega⟩⟩
theorem row_own {w : World} {base : Nat} {ok : Nat → Prop} {v : Value} {l : List S60} (h : Kd.R k60 60 w base ok v l) : Kd.R k60 60 w base (fun k => v.ownBlock = some k) v l :=
 Kd.R_flat (fun {ok1 ok2 x cs} hm => by obtain rfl := k60_openM hm; exact k60_mkM _ _ _ x) h (fun k e _ => e)
structure Ot (w0 w : World) (go_ : Nat) (u : (List Mk.Pt × ByteArray × ByteArray)) (t v : Value) (g : List S60) : Prop where
 ho : Mk.IsMk w0 w w0.heap.size go_ u.1 u.2.1 u.2.2 t
 row : Kd.R k60 60 w w0.heap.size (fun k => v.ownBlock = some k) v g
 vo : v.ownBlock ≠ some go_
 vt : ∀ k, v.ownBlock = some k → t.ownBlock ≠ some k
 go0 : w0.heap.size ≤ go_
theorem R_lt {w : World} {base : Nat} {ok : Nat → Prop} {v : Value} {l : List S60} (h : Kd.R k60 60 w base ok v l) (k : Nat) (e : v.ownBlock = some k) : k < w.heap.size := by
 obtain ⟨_, inner, h2, _⟩ := h
 exact own_lt h2 k e
theorem Ot.of {w0 w w' : World} {gm go_ : Nat} {s u : (List Mk.Pt × ByteArray × ByteArray)} {v t v' : Value} {g : List S60} (h : T2 w0 w gm go_ s u v t) (hr : Kd.R k60 60 w' w0.heap.size (fun k => v.ownBlock = some k ∨ w.heap.size ≤ k) v' g) (hb : Below w0.heap.size w0 w') (hk : Kept w w' (fun k => v.ownBlock = some k)) : Ot w0 w' go_ u t v' g := by
 have e1 := blk_lt h.ho.blk
 refine ⟨mk_keptT h.ho hk hb h.vo (fun k e z => h.vt k z e), row_own hr, fun e => ?_, fun k e z => ?_, h.go0⟩
 ·exact (hr.1 go_ e).elim h.vo (fun z => by omega)
 have := own_lt h.ho.own k z
 exact (hr.1 k e).elim (fun e => h.vt k e z) (fun e => by omega)
theorem Ot.made {w0 w w' : World} {go_ : Nat} {u z : (List Mk.Pt × ByteArray × ByteArray)} {t v t' : Value} {g : List S60} (h : Ot w0 w go_ u t v g) (ho : Mk.IsMk w0 w' w0.heap.size go_ z.1 z.2.1 z.2.2 t') (hk : Kept w w' (fun k => k = go_ ∨ some k = t.ownBlock)) (ht : ∀ k, t'.ownBlock = some k → t.ownBlock = some k ∨ w.heap.size ≤ k) : Ot w0 w' go_ z t' v g := by
 refine ⟨ho, Kd.R_step h.row (fun k e hl => hk.2 k hl (fun q => q.elim (fun q => h.vo (q ▸ e)) (fun q => h.vt k e q.symm))), h.vo, fun k e z => ?_, h.go0⟩
 have := R_lt h.row k e
 exact (ht k z).elim (fun z => h.vt k e z) (fun z => by omega)
theorem Ot.fin {w0 w w' : World} {go_ : Nat} {u : (List Mk.Pt × ByteArray × ByteArray)} {t v t' : Value} {g g2 : List S60} (h : Ot w0 w go_ u t v g) (hr : Kd.R k60 60 w' w0.heap.size (fun k => t.ownBlock = some k ∨ w.heap.size ≤ k) t' g2) (hk : Kept w w' (fun k => t.ownBlock = some k)) : Kd.R k60 60 w' w0.heap.size (fun k_ => some k_ ≠ t'.ownBlock) v g ∧ Kd.R k60 60 w' w0.heap.size (fun k_ => some k_ ≠ v.ownBlock) t' g2 := by
 have ap : ∀ k, v.ownBlock = some k → t'.ownBlock ≠ some k := fun k e z => by
  have := R_lt h.row k e
  exact (hr.1 k z).elim (fun z => h.vt k e z) (fun z => by omega)
 exact ⟨Kd.R_mono (Kd.R_step h.row (fun k e hl => hk.2 k hl (fun q => h.vt k e q))) (fun k e z => ap k e z.symm), Kd.R_mono (row_own hr) (fun k e z => ap k z.symm e)⟩
theorem itr_loop (k : Nat) (A0 A1 : Option Addr) (c0 c1 : Nat) (l0 l1 na nb g1 g2 : List S60) (b1 b2 : Bool) (w : World) (hr0 : Kd.C k60 w A0 l0.length l0) (hc0 : l0.length ≤ c0) (hr1 : Kd.C k60 w A1 l1.length l1) (hc1 : l1.length ≤ c1) (z1 z2 : (List Mk.Pt × ByteArray × ByteArray))
  (hs : jF.f k l0 l1 = some (true, true)) (hna : yN.f l0 = some na) (hnb : yN.f l1 = some nb) (ha : na.length ≤ 1000) (hb : nb.length ≤ 1000) (h : trI k ([], ⟨#[]⟩, ⟨#[]⟩) ([], ⟨#[]⟩, ⟨#[]⟩) na nb = some (z1, z2)) (hl1 : z1.1.length ≤ 1000) (hl2 : z2.1.length ≤ 1000) (hg1 : yG.f k ((z1.1 ++ Mk.endL z1.2.1 z1.2.2).map ofP) = some (g1, b1)) (hg2 : yG.f k ((z2.1 ++ Mk.endL z2.2.1 z2.2.2).map ofP) = some (g2, b2)) (r1 r2 : List S60) (r3 : Bool) (h1 : r1 = if b1 = true ∧ b2 = true then g1 else []) (h2 : r2 = if b1 = true ∧ b2 = true then g2 else []) (h3 : r3 = (b1 && b2)) :
  Calls Try.prog 17 #[.slice A0 l0.length c0, .slice A1 l1.length c1] w fun e w' => ∃ v0_ v1_ : Value, e = .returned (.tuple #[v0_, v1_, .bool r3]) ∧ Kd.R k60 60 w' w.heap.size (fun k_ => some k_ ≠ (v1_ : Value).ownBlock) v0_ r1 ∧ Kd.R k60 60 w' w.heap.size (fun k_ => some k_ ≠ (v0_ : Value).ownBlock) v1_ r2 ∧ Below w.heap.size w w' := by
 have hu53 := Try.underlying60
 have hu72 := Try.underlying68
 have hu74 := Try.underlying70
 have HR0 := aM (hr0)
 have HR1 := aM (hr1)
 have HC := aM (And.intro hc0 hc1)
 have HN := aM (And.intro ha hb)
 have H' := aM (h)
 have HS0 := aM (hs)
 have HNA := aM (hna)
 have HNB := aM (hnb)
 have HL := aM (And.intro hl1 hl2)
 have HG1 := aM (hg1)
 have HG2 := aM (hg2)
 have HRES := aM (And.intro h1 (And.intro h2 h3))
 clear hr0 hr1 hc0 hc1 ha hb h hs hna hnb hl1 hl2 hg1 hg2 h1 h2 h3
 go_enter Try.func17, Try.ntmps17
 go_upto_region 5 with (first | (go_at_call 12; (with_reducible refine (jF.calls k A0 c0 l0 A1 c1 l1 true true _ HR0.out HC.out.1 HR1.out HC.out.2 HS0.out).mono ?_); rintro e w1 ⟨rfl, hb⟩; have B1 := aM hb; clear hb) | (go_at_call 43; (with_reducible refine (yN.calls A0 c0 l0 na _ (Kd.C_below HR0.out B1.out) HC.out.1 HNA.out).mono ?_); rintro e w2 ⟨vx, rfl, hx, hb⟩; obtain ⟨Ax, cx, ex⟩ := Kd.R_slice hx; subst ex; have RX := aM hx; have B2 := aM (below_step B1.out hb); clear hx hb) | (go_at_call 43; (with_reducible refine (yN.calls A1 c1 l1 nb _ (Kd.C_below HR1.out B2.out) HC.out.2 HNB.out).mono ?_); rintro e w6 ⟨vy, rfl, hy, hb⟩; obtain ⟨Ay, cy, ey⟩ := Kd.R_slice hy; subst ey; have RY := aM hy; have RX6 := aM (Kd.R_below RX.out hb); have B6 := aM (below_step B2.out hb); clear hy hb) | ((with_reducible refine gate_dst (N := 9) rfl ?_); refine box_event rfl (N := 9) rfl (cs := #[.slice none 0 0]) (t := 68) aP38 ?_; intro gx hg_ w7 hbox hb; have BX7 := aM hbox; have GX := aM hg_; have B7 := aM hb; have d0 := (blk_cell hbox 0).trans (show _ = some (Value.slice none 0 0) from rfl); have f0 := blk_frozen hbox 0; clear hbox hb hg_) | ((with_reducible refine gate_dst (N := 10) rfl ?_); refine box_event rfl (N := 10) rfl (cs := #[.slice none 0 0]) (t := 68) aP38 ?_; intro gy hg_ w8 hbox hb; have BX8 := aM (blk_below BX7.out hb); have BY8 := aM hbox; have GY := aM hg_; have B8 := aM hb; clear d0 f0; have d0 := (blk_cell BX8.out 0).trans (show _ = some (Value.slice none 0 0) from rfl); have f0 := blk_frozen BX8.out 0; have d1 := (blk_cell hbox 0).trans (show _ = some (Value.slice none 0 0) from rfl); have f1 := blk_frozen hbox 0; have n1 : gx ≠ gy := (by rw [hg_]; exact Nat.ne_of_lt (blk_lt BX7.out)); have n2 : gy ≠ gx := n1.symm; clear hbox hb hg_))
 have l6 : w6.heap.size ≤ gx ∧ w6.heap.size ≤ gy := ⟨Nat.le_of_eq GX.out.symm, by rw [GY.out]; exact B7.out.size⟩
 have KK := aM (((KeptB.of_below B7.out (fun _ => False)).then_ (KeptB.of_below B8.out (fun _ => False)) (fun _ q => q.elim)).setCell (p := ⟨gx, 0, none⟩) (.inr l6.1) (.slice Ax na.length cx) |>.setCell (p := ⟨gy, 0, none⟩) (.inr l6.2) (.slice Ay nb.length cy))
 have CX := aM (blk_far (blk_putT BX8.out (.slice Ax na.length cx)) (p := ⟨gy, 0, none⟩) n1 (.slice Ay nb.length cy))
 have CY := aM (blk_putT (blk_far BY8.out (p := ⟨gx, 0, none⟩) n2 (.slice Ax na.length cx)) (.slice Ay nb.length cy))
 have NE := aM n1
 have L6 := aM l6
 clear d0 f0 d1 f1 n1 n2 l6 BX7 BX8 BY8 GX GY B7 B8 B1 B2 RX HS0 HNA HNB HR0 HR1 HC
 generalize (w8.setCell ⟨gx, 0, none⟩ (.slice Ax na.length cx)).setCell ⟨gy, 0, none⟩ (.slice Ay nb.length cy) = w9 at KK CX CY ⊢
 go_wp2_with (first | ((with_reducible refine gate_dst (N := 11) rfl ?_); refine box_event rfl (N := 11) rfl (cs := #[.slice none 0 0, .string ⟨#[]⟩, .string ⟨#[]⟩]) (t := 70) aP38 ?_; intro gm hg_ w10 hbox hb; have BM := aM hbox; have GM := aM hg_; have B10 := aM hb; clear hbox hb hg_) | ((with_reducible refine gate_dst (N := 12) rfl ?_); refine box_event rfl (N := 12) rfl (cs := #[.slice none 0 0, .string ⟨#[]⟩, .string ⟨#[]⟩]) (t := 70) aP38 ?_; intro go_ hg_ w11 hbox hb; have C0 := aM (tm_init RX6.out RY.out B6.out KK.out CX.out CY.out L6.out.1 L6.out.2 NE.out B10.out BM.out GM.out hb hbox hg_); clear hbox hb hg_))
 clear KK CX CY NE L6 RX6 RY B6 BM GM B10
 simp only [Act.put, List.setIfInBounds_toArray, List.set_cons_zero, List.set_cons_succ]
 go_loopg [] k (fun kq w' => ∃ (x y : List S60) (s u : (List Mk.Pt × ByteArray × ByteArray)) (v t : Value), Aside0 (trI kq s u x y = some (z1, z2)) ∧ Aside0 (x.length ≤ 1000 ∧ y.length ≤ 1000) ∧ Aside0 (Tm w w' gx gy gm go_ x y s u v t))
 case atStart => exact ⟨na, nb, _, _, _, _, H', HN, C0⟩
 case round =>
  clear H' C0 HN
  obtain ⟨x, y, s, u, v, t, HA, HN, C0⟩ := hrel
  cases gk with
  | zero => exact absurd HA.out (by simp [trI])
  | succ m1 => ?_
  have H := HA.out
  clear HA
  cases x with
  | nil =>
   cases y with
   | nil =>
    have H1 : some (s, u) = some (z1, z2) := H
    clear H
    obtain ⟨rfl, rfl⟩ := Prod.mk.inj (Option.some.inj H1)
    clear H1
    obtain ⟨Ax, cx, c0⟩ := C0.out.rx.cell
    obtain ⟨Ay, cy, c1⟩ := C0.out.ry.cell
    rw [List.length_nil] at c0 c1
    have T0 := aM C0.out.t2
    clear C0
    go_upto_region 22 with (first | (go_at_call 52; (with_reducible refine (maker_madeK w.heap.size gm v s.1 s.2.1 s.2.2 w _ T0.out.hm T0.out.gm0 HL.out.1).mono ?_); rintro e w6 ⟨v6, rfl, h6, hk6, hv6⟩; have T6 := aM (T2.takeM (z := (s.1 ++ Mk.endL s.2.1 s.2.2, ⟨#[]⟩, ⟨#[]⟩)) T0.out h6 hk6 hv6); clear h6 hk6 hv6) | (go_at_call 51; (with_reducible refine (yG.calls k (fun k_ => v6.ownBlock = some k_) v6 _ g1 b1 w _ T6.out.hm.bel (row_own (R_of_cells T6.out.hm.own)) HG1.out).mono ?_); rintro e w7 ⟨v7, rfl, h7, hb7, hk7⟩; have T7 := aM (Ot.of T6.out h7 hb7 hk7); clear h7 hb7 hk7) | (go_at_call 52; (with_reducible refine (maker_madeK w.heap.size go_ t u.1 u.2.1 u.2.2 w _ T7.out.ho T7.out.go0 HL.out.2).mono ?_); rintro e w8 ⟨t8, rfl, h8, hk8, hv8⟩; have T8 := aM (Ot.made (z := (u.1 ++ Mk.endL u.2.1 u.2.2, ⟨#[]⟩, ⟨#[]⟩)) T7.out h8 hk8 hv8); clear h8 hk8 hv8) | (go_at_call 51; (with_reducible refine (yG.calls k (fun k_ => t8.ownBlock = some k_) t8 _ g2 b2 w _ T8.out.ho.bel (row_own (R_of_cells T8.out.ho.own)) HG2.out).mono ?_); rintro e w9 ⟨t9, rfl, h9, hb9, hk9⟩; have P9 := aM (T8.out.fin h9 hk9); have B9 := aM hb9; clear h9 hb9 hk9))
    clear T0 T6 T7 T8 c0 c1
    obtain ⟨e1, e2, e3⟩ := HRES.out
    clear HRES
    cases b1 with
    | false => rw [if_neg (by simp)] at e1 e2; have e4 : r3 = false := e3; subst e1 e2 e4; clear e3; go_wp2_with fail; go_ret3; exact ⟨.slice none 0 0, .slice none 0 0, rfl, Kd.R_nil _ _ _ _ _, Kd.R_nil _ _ _ _ _, B9.out⟩
    | true =>
     cases b2 with
     | false => rw [if_neg (by simp)] at e1 e2; have e4 : r3 = false := e3; subst e1 e2 e4; clear e3; go_wp2_with fail; go_ret3; exact ⟨.slice none 0 0, .slice none 0 0, rfl, Kd.R_nil _ _ _ _ _, Kd.R_nil _ _ _ _ _, B9.out⟩
     | true => rw [if_pos ⟨rfl, rfl⟩] at e1 e2; have e4 : r3 = true := e3; subst e1 e2 e4; clear e3; go_wp2_with fail; go_ret3; exact ⟨_, _, rfl, P9.out.1, P9.out.2, B9.out⟩
   | cons q y =>
    by_cases hq : q.f1.toList = ([] : List UInt8)
    ·rw [trI, if_pos hq] at H; cases H
    rw [trI, if_neg hq] at H
    have eB0 : (q.f1.toList == ([] : List UInt8)) = false := beq_eq_false_iff_ne.mpr hq
    have eB1 : (q.f1.toList != ([] : List UInt8)) = true := bne_iff_ne.mpr hq
    have eB2 : q.f1.toList.isEmpty = false := List.isEmpty_eq_false_iff.mpr hq
    clear hq
    have dB0 : ((⟨#[]⟩ : ByteArray).toList == ([] : List UInt8)) = true := beq_iff_eq.mpr nilT
    have dB1 : ((⟨#[]⟩ : ByteArray).toList != ([] : List UInt8)) = false := bne_eq_false_iff_eq.mpr nilT
    have dB2 : (⟨#[]⟩ : ByteArray).toList.isEmpty = true := List.isEmpty_iff.mpr nilT
    obtain ⟨Ax, cx, c0⟩ := C0.out.rx.cell
    rw [List.length_nil] at c0
    obtain ⟨Ay, cy, c1⟩ := C0.out.ry.cell
    rw [List.length_cons] at c1
    have c1d : decide (((y.length + 1 : Nat) : Int) > 0) = true := decide_eq_true (by omega)
    have c1e : ((0 : Int) < (y.length : Int) + 1) = True := eq_true (by omega)
    have c1f : (0 < y.length + 1) = True := eq_true (by omega)
    go_upto_region 8 with (first | (go_at_call 45; (with_reducible refine (rd_head _ gx [] _ C0.out.rx).mono ?_); rintro e w1 ⟨rfl, hb⟩; have C1 := aM (C0.out.below hb); clear hb) | (go_at_call 45; (with_reducible refine (rd_head _ gy (q :: y) _ C1.out.ry).mono ?_); rintro e w1 ⟨rfl, hb⟩; have C2 := aM (C1.out.below hb); clear hb) | ((with_reducible refine gate_dst (N := 13) rfl ?_); refine box_event rfl (N := 13) rfl (cs := #[.int .i64 0, .string ⟨#[]⟩, .string ⟨#[]⟩]) (t := 60) aP38 ?_; intro gp hg_ w3 hbox hb; have BP := aM hbox; have GP := aM hg_; have B3 := aM hb; clear hbox hb hg_) | ((with_reducible refine gate_dst (N := 14) rfl ?_); refine box_event rfl (N := 14) rfl (cs := #[.int .i64 0, .string ⟨#[]⟩, .string ⟨#[]⟩]) (t := 60) aP38 ?_; intro gq hg_ w4 hbox hb; have BP4 := aM (blk_below BP.out hb); have BQ := aM hbox; have GQ := aM hg_; have B4 := aM hb; have n1 : gp ≠ gq := (by rw [hg_]; exact Nat.ne_of_lt (blk_lt BP.out)); have n2 : gq ≠ gp := n1.symm; obtain ⟨y0, y1, y2, f0, f1, f2⟩ := bx3 BP4.out; obtain ⟨z0, z1, z2, e0, e1, e2⟩ := bx3 hbox; clear hbox hb hg_))
    have K4 := aM (kept_put3 (kept_put3 ((KeptB.of_below B3.out (fun _ => False)).then_ (KeptB.of_below B4.out (fun _ => False)) (fun _ q => q.elim)) (g := gp) (.inr (Nat.le_of_eq GP.out.symm)) (hdP [])) (g := gq) (.inr (by rw [GQ.out]; exact B3.out.size)) (hdP (q :: y)))
    have E5 := aM (TmE.of C2.out K4.out GP.out (show _ ≤ gq by rw [GQ.out]; exact B3.out.size) (put3_far (put3_is (q := zP) BP4.out (hdP [])) n1 (hdP (q :: y))) (put3_is (q := zP) (put3_far BQ.out n2 (hdP [])) (hdP (q :: y))) n1)
    clear y0 y1 y2 f0 f1 f2 e0 e1 e2 n1 n2 BP BP4 BQ GP GQ B3 B4 C1 C2 K4 c0 c1 c1d c1e c1f
    simp only [put3] at E5
    generalize ((((((w4).setCell ⟨gp, 0, none⟩ (.int .i64 (hdP []).f0)).setCell ⟨gp, 1, none⟩ (.string (hdP []).f1)).setCell ⟨gp, 2, none⟩ (.string (hdP []).f2)).setCell ⟨gq, 0, none⟩ (.int .i64 (hdP (q :: y)).f0)).setCell ⟨gq, 1, none⟩ (.string (hdP (q :: y)).f1)).setCell ⟨gq, 2, none⟩ (.string (hdP (q :: y)).f2) = v5 at E5 ⊢
    replace E5 := aM (show TmE w v5 gx gy gm go_ gp gq [] (q :: y) s u v t zP q from E5.out)
    obtain ⟨aa0, aa1, aa2, -⟩ := bx3 E5.out.bp
    obtain ⟨bb0, bb1, bb2, -⟩ := bx3 E5.out.bq
    obtain ⟨zt, ht, H⟩ := Option.bind_eq_some_iff.mp H
    obtain ⟨htb, rfl⟩ := tkG_is ht
    have HT1 := aM htb
    clear ht htb
    obtain ⟨zk, ht, H⟩ := Option.bind_eq_some_iff.mp H
    obtain ⟨htb, rfl⟩ := kpG_is ht
    have HT2 := aM htb
    clear ht htb
    have H' := aM H
    clear H
    go_wp2_with (first | (go_at_call 47; (with_reducible refine (rd_next _ gy q y _ E5.out.ry (tmE_y _ _ _ _ _ _ _ _)).mono ?_); rintro e w6 ⟨rfl, h6, hk6⟩; have E6 := aM (E5.out.stepY h6 hk6); clear h6 hk6) | (go_at_call 46; (with_reducible refine (Mk.maker_takeK w.heap.size go_ t u.1 u.2.1 u.2.2 q.f0 q.f1 q.f2 w _ E6.out.t2.ho E6.out.t2.go0 HT1.out.1 HT1.out.2.1 HT1.out.2.2).mono ?_); rintro e w8 ⟨rfl, t8, h8, hk8, hv8⟩; have E7 := aM (TmE.takeO (z := takeP u (toP q)) E6.out h8 hk8 hv8); clear h8 hk8 hv8; have cc1 := (blk_cell E7.out.bq 1).trans (show _ = some (Value.string q.f1) from rfl)) | (go_at_call 48; (with_reducible refine (Mk.maker_keepS w.heap.size gm v s.1 s.2.1 s.2.2 (q.f1.size : Int) w _ E7.out.t2.hm E7.out.t2.gm0 HT2.out).mono ?_); rintro e w9 ⟨rfl, v9, h8, hk8, hv8⟩; have E8 := aM (TmE.takeM (z := Mk.keepS s.1 s.2.1 s.2.2 (q.f1.size : Int)) E7.out h8 hk8 hv8); clear h8 hk8 hv8))
    go_roundg m1
    case measure => omega
    case rel => exact ⟨[], y, Mk.keepS s.1 s.2.1 s.2.2 (q.f1.size : Int), takeP u (toP q), v9, t8, H', ⟨HN.out.1, by have := HN.out.2; simp only [List.length_cons] at this; omega⟩, ⟨E8.out.tm⟩⟩
  | cons p x =>
   by_cases hd : p.f1.toList = ([] : List UInt8)
   rotate_left
   ·rw [trI_put hd] at H
    have dB0 : (p.f1.toList == ([] : List UInt8)) = false := beq_eq_false_iff_ne.mpr hd
    have dB1 : (p.f1.toList != ([] : List UInt8)) = true := bne_iff_ne.mpr hd
    have dB2 : p.f1.toList.isEmpty = false := List.isEmpty_eq_false_iff.mpr hd
    clear hd
    obtain ⟨Ax, cx, c0⟩ := C0.out.rx.cell
    rw [List.length_cons] at c0
    have c0d : decide (((x.length + 1 : Nat) : Int) > 0) = true := decide_eq_true (by omega)
    have c0e : ((0 : Int) < (x.length : Int) + 1) = True := eq_true (by omega)
    have c0f : (0 < x.length + 1) = True := eq_true (by omega)
    go_upto_region 8 with (first | (go_at_call 45; (with_reducible refine (rd_head _ gx (p :: x) _ C0.out.rx).mono ?_); rintro e w1 ⟨rfl, hb⟩; have C1 := aM (C0.out.below hb); clear hb) | (go_at_call 45; (with_reducible refine (rd_head _ gy y _ C1.out.ry).mono ?_); rintro e w1 ⟨rfl, hb⟩; have C2 := aM (C1.out.below hb); clear hb) | ((with_reducible refine gate_dst (N := 13) rfl ?_); refine box_event rfl (N := 13) rfl (cs := #[.int .i64 0, .string ⟨#[]⟩, .string ⟨#[]⟩]) (t := 60) aP38 ?_; intro gp hg_ w3 hbox hb; have BP := aM hbox; have GP := aM hg_; have B3 := aM hb; clear hbox hb hg_) | ((with_reducible refine gate_dst (N := 14) rfl ?_); refine box_event rfl (N := 14) rfl (cs := #[.int .i64 0, .string ⟨#[]⟩, .string ⟨#[]⟩]) (t := 60) aP38 ?_; intro gq hg_ w4 hbox hb; have BP4 := aM (blk_below BP.out hb); have BQ := aM hbox; have GQ := aM hg_; have B4 := aM hb; have n1 : gp ≠ gq := (by rw [hg_]; exact Nat.ne_of_lt (blk_lt BP.out)); have n2 : gq ≠ gp := n1.symm; obtain ⟨y0, y1, y2, f0, f1, f2⟩ := bx3 BP4.out; obtain ⟨z0, z1, z2, e0, e1, e2⟩ := bx3 hbox; clear hbox hb hg_))
    have K4 := aM (kept_put3 (kept_put3 ((KeptB.of_below B3.out (fun _ => False)).then_ (KeptB.of_below B4.out (fun _ => False)) (fun _ q => q.elim)) (g := gp) (.inr (Nat.le_of_eq GP.out.symm)) (hdP (p :: x))) (g := gq) (.inr (by rw [GQ.out]; exact B3.out.size)) (hdP y))
    have E5 := aM (TmE.of C2.out K4.out GP.out (show _ ≤ gq by rw [GQ.out]; exact B3.out.size) (put3_far (put3_is (q := zP) BP4.out (hdP (p :: x))) n1 (hdP y)) (put3_is (q := zP) (put3_far BQ.out n2 (hdP (p :: x))) (hdP y)) n1)
    clear y0 y1 y2 f0 f1 f2 e0 e1 e2 n1 n2 BP BP4 BQ GP GQ B3 B4 C1 C2 K4 c0 c0d c0e c0f
    simp only [put3] at E5
    generalize ((((((w4).setCell ⟨gp, 0, none⟩ (.int .i64 (hdP (p :: x)).f0)).setCell ⟨gp, 1, none⟩ (.string (hdP (p :: x)).f1)).setCell ⟨gp, 2, none⟩ (.string (hdP (p :: x)).f2)).setCell ⟨gq, 0, none⟩ (.int .i64 (hdP y).f0)).setCell ⟨gq, 1, none⟩ (.string (hdP y).f1)).setCell ⟨gq, 2, none⟩ (.string (hdP y).f2) = v5 at E5 ⊢
    replace E5 := aM (show TmE w v5 gx gy gm go_ gp gq (p :: x) y s u v t p (hdP y) from E5.out)
    obtain ⟨aa0, aa1, aa2, -⟩ := bx3 E5.out.bp
    obtain ⟨zt, ht, H⟩ := Option.bind_eq_some_iff.mp H
    obtain ⟨htb, rfl⟩ := tkG_is ht
    have HT1 := aM htb
    clear ht htb
    obtain ⟨zk, ht, H⟩ := Option.bind_eq_some_iff.mp H
    obtain ⟨htb, rfl⟩ := kpG_is ht
    have HT2 := aM htb
    clear ht htb
    have H' := aM H
    clear H
    go_wp2_with (first | (go_at_call 47; (with_reducible refine (rd_next _ gx p x _ E5.out.rx (tmE_x _ _ _ _ _ _ _ _)).mono ?_); rintro e w6 ⟨rfl, h6, hk6⟩; have E6 := aM (E5.out.stepX h6 hk6); clear h6 hk6) | (go_at_call 46; (with_reducible refine (Mk.maker_takeK w.heap.size gm v s.1 s.2.1 s.2.2 p.f0 p.f1 p.f2 w _ E6.out.t2.hm E6.out.t2.gm0 HT1.out.1 HT1.out.2.1 HT1.out.2.2).mono ?_); rintro e w8 ⟨rfl, v8, h8, hk8, hv8⟩; have E7 := aM (TmE.takeM (z := takeP s (toP p)) E6.out h8 hk8 hv8); clear h8 hk8 hv8; have cc1 := (blk_cell E7.out.bp 1).trans (show _ = some (Value.string p.f1) from rfl)) | (go_at_call 48; (with_reducible refine (Mk.maker_keepS w.heap.size go_ t u.1 u.2.1 u.2.2 (p.f1.size : Int) w _ E7.out.t2.ho E7.out.t2.go0 HT2.out).mono ?_); rintro e w9 ⟨rfl, t9, h8, hk8, hv8⟩; have E8 := aM (TmE.takeO (z := Mk.keepS u.1 u.2.1 u.2.2 (p.f1.size : Int)) E7.out h8 hk8 hv8); clear h8 hk8 hv8))
    go_roundg m1
    case measure => omega
    case rel => exact ⟨x, y, takeP s (toP p), Mk.keepS u.1 u.2.1 u.2.2 (p.f1.size : Int), v8, t9, H', ⟨by have := HN.out.1; simp only [List.length_cons] at this; omega, HN.out.2⟩, ⟨E8.out.tm⟩⟩
   cases y with
   | nil => rw [trI, if_pos hd] at H; cases H
   | cons q y =>
    rw [trI, if_pos hd] at H
    have dB0 : (p.f1.toList == ([] : List UInt8)) = true := beq_iff_eq.mpr hd
    have dB1 : (p.f1.toList != ([] : List UInt8)) = false := bne_eq_false_iff_eq.mpr hd
    have dB2 : p.f1.toList.isEmpty = true := List.isEmpty_iff.mpr hd
    clear hd
    by_cases hq : q.f1.toList = ([] : List UInt8)
    rotate_left
    ·rw [if_neg hq] at H
     have eB0 : (q.f1.toList == ([] : List UInt8)) = false := beq_eq_false_iff_ne.mpr hq
     have eB1 : (q.f1.toList != ([] : List UInt8)) = true := bne_iff_ne.mpr hq
     have eB2 : q.f1.toList.isEmpty = false := List.isEmpty_eq_false_iff.mpr hq
     clear hq
     obtain ⟨Ax, cx, c0⟩ := C0.out.rx.cell
     rw [List.length_cons] at c0
     have c0d : decide (((x.length + 1 : Nat) : Int) > 0) = true := decide_eq_true (by omega)
     have c0e : ((0 : Int) < (x.length : Int) + 1) = True := eq_true (by omega)
     have c0f : (0 < x.length + 1) = True := eq_true (by omega)
     go_upto_region 8 with (first | (go_at_call 45; (with_reducible refine (rd_head _ gx (p :: x) _ C0.out.rx).mono ?_); rintro e w1 ⟨rfl, hb⟩; have C1 := aM (C0.out.below hb); clear hb) | (go_at_call 45; (with_reducible refine (rd_head _ gy (q :: y) _ C1.out.ry).mono ?_); rintro e w1 ⟨rfl, hb⟩; have C2 := aM (C1.out.below hb); clear hb) | ((with_reducible refine gate_dst (N := 13) rfl ?_); refine box_event rfl (N := 13) rfl (cs := #[.int .i64 0, .string ⟨#[]⟩, .string ⟨#[]⟩]) (t := 60) aP38 ?_; intro gp hg_ w3 hbox hb; have BP := aM hbox; have GP := aM hg_; have B3 := aM hb; clear hbox hb hg_) | ((with_reducible refine gate_dst (N := 14) rfl ?_); refine box_event rfl (N := 14) rfl (cs := #[.int .i64 0, .string ⟨#[]⟩, .string ⟨#[]⟩]) (t := 60) aP38 ?_; intro gq hg_ w4 hbox hb; have BP4 := aM (blk_below BP.out hb); have BQ := aM hbox; have GQ := aM hg_; have B4 := aM hb; have n1 : gp ≠ gq := (by rw [hg_]; exact Nat.ne_of_lt (blk_lt BP.out)); have n2 : gq ≠ gp := n1.symm; obtain ⟨y0, y1, y2, f0, f1, f2⟩ := bx3 BP4.out; obtain ⟨z0, z1, z2, e0, e1, e2⟩ := bx3 hbox; clear hbox hb hg_))
     have K4 := aM (kept_put3 (kept_put3 ((KeptB.of_below B3.out (fun _ => False)).then_ (KeptB.of_below B4.out (fun _ => False)) (fun _ q => q.elim)) (g := gp) (.inr (Nat.le_of_eq GP.out.symm)) (hdP (p :: x))) (g := gq) (.inr (by rw [GQ.out]; exact B3.out.size)) (hdP (q :: y)))
     have E5 := aM (TmE.of C2.out K4.out GP.out (show _ ≤ gq by rw [GQ.out]; exact B3.out.size) (put3_far (put3_is (q := zP) BP4.out (hdP (p :: x))) n1 (hdP (q :: y))) (put3_is (q := zP) (put3_far BQ.out n2 (hdP (p :: x))) (hdP (q :: y))) n1)
     clear y0 y1 y2 f0 f1 f2 e0 e1 e2 n1 n2 BP BP4 BQ GP GQ B3 B4 C1 C2 K4 c0 c0d c0e c0f
     simp only [put3] at E5
     generalize ((((((w4).setCell ⟨gp, 0, none⟩ (.int .i64 (hdP (p :: x)).f0)).setCell ⟨gp, 1, none⟩ (.string (hdP (p :: x)).f1)).setCell ⟨gp, 2, none⟩ (.string (hdP (p :: x)).f2)).setCell ⟨gq, 0, none⟩ (.int .i64 (hdP (q :: y)).f0)).setCell ⟨gq, 1, none⟩ (.string (hdP (q :: y)).f1)).setCell ⟨gq, 2, none⟩ (.string (hdP (q :: y)).f2) = v5 at E5 ⊢
     replace E5 := aM (show TmE w v5 gx gy gm go_ gp gq (p :: x) (q :: y) s u v t p q from E5.out)
     obtain ⟨aa0, aa1, aa2, -⟩ := bx3 E5.out.bp
     obtain ⟨bb0, bb1, bb2, -⟩ := bx3 E5.out.bq
     obtain ⟨zt, ht, H⟩ := Option.bind_eq_some_iff.mp H
     obtain ⟨htb, rfl⟩ := tkG_is ht
     have HT1 := aM htb
     clear ht htb
     obtain ⟨zk, ht, H⟩ := Option.bind_eq_some_iff.mp H
     obtain ⟨htb, rfl⟩ := kpG_is ht
     have HT2 := aM htb
     clear ht htb
     have H' := aM H
     clear H
     go_wp2_with (first | (go_at_call 47; (with_reducible refine (rd_next _ gy q y _ E5.out.ry (tmE_y _ _ _ _ _ _ _ _)).mono ?_); rintro e w6 ⟨rfl, h6, hk6⟩; have E6 := aM (E5.out.stepY h6 hk6); clear h6 hk6) | (go_at_call 46; (with_reducible refine (Mk.maker_takeK w.heap.size go_ t u.1 u.2.1 u.2.2 q.f0 q.f1 q.f2 w _ E6.out.t2.ho E6.out.t2.go0 HT1.out.1 HT1.out.2.1 HT1.out.2.2).mono ?_); rintro e w8 ⟨rfl, t8, h8, hk8, hv8⟩; have E7 := aM (TmE.takeO (z := takeP u (toP q)) E6.out h8 hk8 hv8); clear h8 hk8 hv8; have cc1 := (blk_cell E7.out.bq 1).trans (show _ = some (Value.string q.f1) from rfl)) | (go_at_call 48; (with_reducible refine (Mk.maker_keepS w.heap.size gm v s.1 s.2.1 s.2.2 (q.f1.size : Int) w _ E7.out.t2.hm E7.out.t2.gm0 HT2.out).mono ?_); rintro e w9 ⟨rfl, v9, h8, hk8, hv8⟩; have E8 := aM (TmE.takeM (z := Mk.keepS s.1 s.2.1 s.2.2 (q.f1.size : Int)) E7.out h8 hk8 hv8); clear h8 hk8 hv8))
     go_roundg m1
     case measure => omega
     case rel => exact ⟨(p :: x), y, Mk.keepS s.1 s.2.1 s.2.2 (q.f1.size : Int), takeP u (toP q), v9, t8, H', ⟨HN.out.1, by have := HN.out.2; simp only [List.length_cons] at this; omega⟩, ⟨E8.out.tm⟩⟩
    rw [if_pos hq] at H
    have eB0 : (q.f1.toList == ([] : List UInt8)) = true := beq_iff_eq.mpr hq
    have eB1 : (q.f1.toList != ([] : List UInt8)) = false := bne_eq_false_iff_eq.mpr hq
    have eB2 : q.f1.toList.isEmpty = true := List.isEmpty_iff.mpr hq
    clear hq
    obtain ⟨Ax, cx, c0⟩ := C0.out.rx.cell
    rw [List.length_cons] at c0
    have c0d : decide (((x.length + 1 : Nat) : Int) > 0) = true := decide_eq_true (by omega)
    have c0e : ((0 : Int) < (x.length : Int) + 1) = True := eq_true (by omega)
    have c0f : (0 < x.length + 1) = True := eq_true (by omega)
    go_upto_region 8 with (first | (go_at_call 45; (with_reducible refine (rd_head _ gx (p :: x) _ C0.out.rx).mono ?_); rintro e w1 ⟨rfl, hb⟩; have C1 := aM (C0.out.below hb); clear hb) | (go_at_call 45; (with_reducible refine (rd_head _ gy (q :: y) _ C1.out.ry).mono ?_); rintro e w1 ⟨rfl, hb⟩; have C2 := aM (C1.out.below hb); clear hb) | ((with_reducible refine gate_dst (N := 13) rfl ?_); refine box_event rfl (N := 13) rfl (cs := #[.int .i64 0, .string ⟨#[]⟩, .string ⟨#[]⟩]) (t := 60) aP38 ?_; intro gp hg_ w3 hbox hb; have BP := aM hbox; have GP := aM hg_; have B3 := aM hb; clear hbox hb hg_) | ((with_reducible refine gate_dst (N := 14) rfl ?_); refine box_event rfl (N := 14) rfl (cs := #[.int .i64 0, .string ⟨#[]⟩, .string ⟨#[]⟩]) (t := 60) aP38 ?_; intro gq hg_ w4 hbox hb; have BP4 := aM (blk_below BP.out hb); have BQ := aM hbox; have GQ := aM hg_; have B4 := aM hb; have n1 : gp ≠ gq := (by rw [hg_]; exact Nat.ne_of_lt (blk_lt BP.out)); have n2 : gq ≠ gp := n1.symm; obtain ⟨y0, y1, y2, f0, f1, f2⟩ := bx3 BP4.out; obtain ⟨z0, z1, z2, e0, e1, e2⟩ := bx3 hbox; clear hbox hb hg_))
    have K4 := aM (kept_put3 (kept_put3 ((KeptB.of_below B3.out (fun _ => False)).then_ (KeptB.of_below B4.out (fun _ => False)) (fun _ q => q.elim)) (g := gp) (.inr (Nat.le_of_eq GP.out.symm)) (hdP (p :: x))) (g := gq) (.inr (by rw [GQ.out]; exact B3.out.size)) (hdP (q :: y)))
    have E5 := aM (TmE.of C2.out K4.out GP.out (show _ ≤ gq by rw [GQ.out]; exact B3.out.size) (put3_far (put3_is (q := zP) BP4.out (hdP (p :: x))) n1 (hdP (q :: y))) (put3_is (q := zP) (put3_far BQ.out n2 (hdP (p :: x))) (hdP (q :: y))) n1)
    clear y0 y1 y2 f0 f1 f2 e0 e1 e2 n1 n2 BP BP4 BQ GP GQ B3 B4 C1 C2 K4 c0 c0d c0e c0f
    simp only [put3] at E5
    generalize ((((((w4).setCell ⟨gp, 0, none⟩ (.int .i64 (hdP (p :: x)).f0)).setCell ⟨gp, 1, none⟩ (.string (hdP (p :: x)).f1)).setCell ⟨gp, 2, none⟩ (.string (hdP (p :: x)).f2)).setCell ⟨gq, 0, none⟩ (.int .i64 (hdP (q :: y)).f0)).setCell ⟨gq, 1, none⟩ (.string (hdP (q :: y)).f1)).setCell ⟨gq, 2, none⟩ (.string (hdP (q :: y)).f2) = v5 at E5 ⊢
    replace E5 := aM (show TmE w v5 gx gy gm go_ gp gq (p :: x) (q :: y) s u v t p q from E5.out)
    obtain ⟨aa0, aa1, aa2, -⟩ := bx3 E5.out.bp
    obtain ⟨bb0, bb1, bb2, -⟩ := bx3 E5.out.bq
    go_upto_region 14 with fail
    clear aa0 aa1 aa2 bb0 bb1 bb2 dB0 dB1 dB2 eB0 eB1 eB2
    by_cases hn : szI q < szI p
    ·skip
     rw [if_pos hn] at H
     have n0 : decide (szI q < szI p) = true := decide_eq_true hn
     have n1 : (szI q < szI p) = True := eq_true hn
     clear hn
     obtain ⟨⟨a1, a2⟩, hs, H2⟩ := Option.bind_eq_some_iff.mp H
     clear H
     dsimp only at H2
     obtain ⟨⟨b1_, b2_⟩, ht, H⟩ := Option.bind_eq_some_iff.mp H2
     dsimp only at H
     have HS := aM hs
     have HQ := aM ht
     clear hs ht H2
     refine start_ (n := 6) (S := fun w' => w'.cell? ⟨gp, 0, none⟩ = some (.int .i64 p.f0) ∧ w'.cell? ⟨gp, 1, none⟩ = some (.string p.f1) ∧ w'.cell? ⟨gp, 2, none⟩ = some (.string p.f2) ∧ w'.cell? ⟨gq, 0, none⟩ = some (.int .i64 q.f0) ∧ w'.cell? ⟨gq, 1, none⟩ = some (.string q.f1) ∧ w'.cell? ⟨gq, 2, none⟩ = some (.string q.f2)) (ds := []) (Array.replicate 6 false) (by kernel_rfl) rfl rfl ⟨(blk_cell (blk_drew E5.out.bp) 0).trans rfl, (blk_cell (blk_drew E5.out.bp) 1).trans rfl, (blk_cell (blk_drew E5.out.bp) 2).trans rfl, (blk_cell (blk_drew E5.out.bq) 0).trans rfl, (blk_cell (blk_drew E5.out.bq) 1).trans rfl, (blk_cell (blk_drew E5.out.bq) 2).trans rfl⟩ (fun hHeld => ?_)
     refine tW6 0 70 (bN 6 1) ?_
     refine tW6 2 72 (bN 6 5) ?_
     refine one_ (i := 1) (N := some 71) (bN 6 7) rfl rfl (by kernel_rfl) (by decide) (fun K hK => ?_)
     refine goes_ Try.func49 (by kernel_rfl) rfl #[.agg #[.int .i64 p.f0, .string p.f1, .string p.f2]] (by rfl) rfl rfl (by simp only [List.map_toArray, List.map_cons, List.map_nil]; rfl) ?_
     with_reducible refine (yP.calls p.f0 p.f1 p.f2 (szI p) _ rfl).mono ?_
     rintro e w6 ⟨rfl, hb6⟩
     refine ⟨_, rfl, ?_⟩
     have E6 := aM ((E5.out.below (below_drew (Below.refl _ _))).below hb6)
     clear hb6
     refine hK.out _ _ ⟨(blk_cell E6.out.bp 0).trans rfl, (blk_cell E6.out.bp 1).trans rfl, (blk_cell E6.out.bp 2).trans rfl, (blk_cell E6.out.bq 0).trans rfl, (blk_cell E6.out.bq 1).trans rfl, (blk_cell E6.out.bq 2).trans rfl⟩ (fun hHeld => ?_)
     clear hK K
     refine norm_ (a' := ?_) ?_ ?_
     rotate_left
     ·show Act.put _ (some 71) _ = _
      simp only [Act.put, List.setIfInBounds_toArray, List.set_cons_zero, List.set_cons_succ, i64_w, i32_w]
      rfl
     refine one_ (i := 3) (N := some 73) (bN 6 15) rfl rfl (by kernel_rfl) (by decide) (fun K hK => ?_)
     refine goes_ Try.func49 (by kernel_rfl) rfl #[.agg #[.int .i64 q.f0, .string q.f1, .string q.f2]] (by rfl) rfl rfl (by simp only [List.map_toArray, List.map_cons, List.map_nil]; rfl) ?_
     with_reducible refine (yP.calls q.f0 q.f1 q.f2 (szI q) _ rfl).mono ?_
     rintro e w7 ⟨rfl, hb7⟩
     refine ⟨_, rfl, ?_⟩
     have E7 := aM (E6.out.below hb7)
     clear hb7
     refine hK.out _ _ ⟨(blk_cell E7.out.bp 0).trans rfl, (blk_cell E7.out.bp 1).trans rfl, (blk_cell E7.out.bp 2).trans rfl, (blk_cell E7.out.bq 0).trans rfl, (blk_cell E7.out.bq 1).trans rfl, (blk_cell E7.out.bq 2).trans rfl⟩ (fun hHeld => ?_)
     clear hK K
     refine norm_ (a' := ?_) ?_ ?_
     rotate_left
     ·show Act.put _ (some 73) _ = _
      simp only [Act.put, List.setIfInBounds_toArray, List.set_cons_zero, List.set_cons_succ, i64_w, i32_w]
      rfl
     refine pW 4 74 (bN 6 31) ?_
     refine pW 5 15 (bN 6 63) ?_
     refine done_ (by kernel_rfl) ?_
     clear n0 n1 E5 E6
     go_upto_region 16 with (first | (go_at_call 50; (with_reducible refine (rd_cut _ gx p x _ (szI q) a1 a2 E7.out.rx (tmE_x _ _ _ _ _ _ _ _) E7.out.lt (by have := HN.out.1; simp only [List.length_cons] at this; omega) HS.out).mono ?_); rintro e w8 ⟨rfl, h8, hk8⟩; have E8 := aM (E7.out.stepX h8 hk8); clear h8 hk8) | (go_at_call 50; (with_reducible refine (rd_cut _ gy q y _ (szI q) b1_ b2_ E8.out.ry (tmE_y _ _ _ _ _ _ _ _) E8.out.lt (by have := HN.out.2; simp only [List.length_cons] at this; omega) HQ.out).mono ?_); rintro e w9 ⟨rfl, h8, hk8⟩; have E9 := aM (E8.out.stepY h8 hk8); clear h8 hk8; obtain ⟨aa0, aa1, aa2, -⟩ := bx3 E9.out.bp; have bb0 := (blk_cell E9.out.bq 0).trans (show _ = some (Value.int .i64 q.f0) from rfl); have bb1 := (blk_cell E9.out.bq 1).trans (show _ = some (Value.string q.f1) from rfl); have bb2 := (blk_cell E9.out.bq 2).trans (show _ = some (Value.string q.f2) from rfl); have f0 := blk_frozen E9.out.bp 0; have f1 := blk_frozen E9.out.bp 1; have f2 := blk_frozen E9.out.bp 2; have g0 := blk_frozen E9.out.bq 0; have g1 := blk_frozen E9.out.bq 1; have g2 := blk_frozen E9.out.bq 2; have m1_ := E9.out.npq; have m2_ := m1_.symm))
     clear aa0 aa1 aa2 bb0 bb1 bb2 f0 f1 f2 m1_ m2_
     have EA := aM (E9.out.put a1 b1_)
     clear E7 E8 E9
     simp only [put3] at EA
     generalize ((((((w9).setCell ⟨gp, 0, none⟩ (.int .i64 a1.f0)).setCell ⟨gp, 1, none⟩ (.string a1.f1)).setCell ⟨gp, 2, none⟩ (.string a1.f2)).setCell ⟨gq, 0, none⟩ (.int .i64 b1_.f0)).setCell ⟨gq, 1, none⟩ (.string b1_.f1)).setCell ⟨gq, 2, none⟩ (.string b1_.f2) = vA at EA ⊢
     obtain ⟨aa0, aa1, aa2, -⟩ := bx3 EA.out.bp
     obtain ⟨bb0, bb1, bb2, -⟩ := bx3 EA.out.bq
     by_cases hk : 0 < b1_.f0
     rotate_left
     ·rw [if_neg hk] at H
      have k0 : decide (b1_.f0 > 0) = false := decide_eq_false hk
      have k1 : (b1_.f0 > 0) = False := eq_false hk
      clear hk
      by_cases hq : 0 < a1.f0
      rotate_left
      ·rw [if_neg hq] at H
       have q0 : decide (a1.f0 > 0) = false := decide_eq_false hq
       have q1 : (a1.f0 > 0) = False := eq_false hq
       clear hq
       have H' := aM H
       clear H
       go_wp2_with fail
       go_roundg m1
       case measure => omega
       case rel => exact ⟨(restP a2 x), (restP b2_ y), s, u, v, t, H', ⟨Nat.le_trans (restP_len a2 x) (by have := HN.out.1; simpa using this), Nat.le_trans (restP_len b2_ y) (by have := HN.out.2; simpa using this)⟩, ⟨EA.out.tm⟩⟩
      rw [if_pos hq] at H
      have q0 : decide (a1.f0 > 0) = true := decide_eq_true hq
      have q1 : (a1.f0 > 0) = True := eq_true hq
      clear hq
      obtain ⟨zt, ht, H⟩ := Option.bind_eq_some_iff.mp H
      obtain ⟨htb, rfl⟩ := tkG_is ht
      have HT1 := aM htb
      clear ht htb
      have H' := aM H
      clear H
      go_wp2_with (go_at_call 46; (with_reducible refine (Mk.maker_takeK w.heap.size go_ t u.1 u.2.1 u.2.2 b1_.f0 b1_.f1 b1_.f2 w _ EA.out.t2.ho EA.out.t2.go0 HT1.out.1 HT1.out.2.1 HT1.out.2.2).mono ?_); rintro e wB ⟨rfl, t8, h8, hk8, hv8⟩; have EB := aM (TmE.takeO (z := takeP u (toP b1_)) EA.out h8 hk8 hv8); clear h8 hk8 hv8)
      go_roundg m1
      case measure => omega
      case rel => exact ⟨(restP a2 x), (restP b2_ y), s, takeP u (toP b1_), v, t8, H', ⟨Nat.le_trans (restP_len a2 x) (by have := HN.out.1; simpa using this), Nat.le_trans (restP_len b2_ y) (by have := HN.out.2; simpa using this)⟩, ⟨EB.out.tm⟩⟩
     rw [if_pos hk] at H
     have k0 : decide (b1_.f0 > 0) = true := decide_eq_true hk
     have k1 : (b1_.f0 > 0) = True := eq_true hk
     clear hk
     by_cases hq : 0 < a1.f0
     rotate_left
     ·rw [if_neg hq] at H
      have q0 : decide (a1.f0 > 0) = false := decide_eq_false hq
      have q1 : (a1.f0 > 0) = False := eq_false hq
      clear hq
      obtain ⟨zt, ht, H⟩ := Option.bind_eq_some_iff.mp H
      obtain ⟨htb, rfl⟩ := tkG_is ht
      have HT1 := aM htb
      clear ht htb
      have H' := aM H
      clear H
      go_wp2_with (go_at_call 46; (with_reducible refine (Mk.maker_takeK w.heap.size gm v s.1 s.2.1 s.2.2 a1.f0 a1.f1 a1.f2 w _ EA.out.t2.hm EA.out.t2.gm0 HT1.out.1 HT1.out.2.1 HT1.out.2.2).mono ?_); rintro e wB ⟨rfl, v8, h8, hk8, hv8⟩; have EB := aM (TmE.takeM (z := takeP s (toP a1)) EA.out h8 hk8 hv8); clear h8 hk8 hv8; obtain ⟨cc0, cc1, cc2, -⟩ := bx3 EB.out.bp)
      go_roundg m1
      case measure => omega
      case rel => exact ⟨(restP a2 x), (restP b2_ y), takeP s (toP a1), u, v8, t, H', ⟨Nat.le_trans (restP_len a2 x) (by have := HN.out.1; simpa using this), Nat.le_trans (restP_len b2_ y) (by have := HN.out.2; simpa using this)⟩, ⟨EB.out.tm⟩⟩
     rw [if_pos hq] at H
     have q0 : decide (a1.f0 > 0) = true := decide_eq_true hq
     have q1 : (a1.f0 > 0) = True := eq_true hq
     clear hq
     obtain ⟨zt, ht, H⟩ := Option.bind_eq_some_iff.mp H
     obtain ⟨htb, rfl⟩ := tkG_is ht
     have HT1 := aM htb
     clear ht htb
     obtain ⟨zk, ht, H⟩ := Option.bind_eq_some_iff.mp H
     obtain ⟨htb, rfl⟩ := tkG_is ht
     have HT2 := aM htb
     clear ht htb
     have H' := aM H
     clear H
     go_wp2_with (first | (go_at_call 46; (with_reducible refine (Mk.maker_takeK w.heap.size gm v s.1 s.2.1 s.2.2 a1.f0 a1.f1 a1.f2 w _ EA.out.t2.hm EA.out.t2.gm0 HT1.out.1 HT1.out.2.1 HT1.out.2.2).mono ?_); rintro e wB ⟨rfl, v8, h8, hk8, hv8⟩; have EB := aM (TmE.takeM (z := takeP s (toP a1)) EA.out h8 hk8 hv8); clear h8 hk8 hv8; obtain ⟨cc0, cc1, cc2, -⟩ := bx3 EB.out.bp; obtain ⟨dd0, dd1, dd2, -⟩ := bx3 EB.out.bq) | (go_at_call 46; (with_reducible refine (Mk.maker_takeK w.heap.size go_ t u.1 u.2.1 u.2.2 b1_.f0 b1_.f1 b1_.f2 w _ EB.out.t2.ho EB.out.t2.go0 HT2.out.1 HT2.out.2.1 HT2.out.2.2).mono ?_); rintro e wC ⟨rfl, t8, h8, hk8, hv8⟩; have EC := aM (TmE.takeO (z := takeP u (toP b1_)) EB.out h8 hk8 hv8); clear h8 hk8 hv8))
     go_roundg m1
     case measure => omega
     case rel => exact ⟨(restP a2 x), (restP b2_ y), takeP s (toP a1), takeP u (toP b1_), v8, t8, H', ⟨Nat.le_trans (restP_len a2 x) (by have := HN.out.1; simpa using this), Nat.le_trans (restP_len b2_ y) (by have := HN.out.2; simpa using this)⟩, ⟨EC.out.tm⟩⟩
    skip
    rw [if_neg hn] at H
    have n0 : decide (szI q < szI p) = false := decide_eq_false hn
    have n1 : (szI q < szI p) = False := eq_false hn
    clear hn
    obtain ⟨⟨a1, a2⟩, hs, H2⟩ := Option.bind_eq_some_iff.mp H
    clear H
    dsimp only at H2
    obtain ⟨⟨b1_, b2_⟩, ht, H⟩ := Option.bind_eq_some_iff.mp H2
    dsimp only at H
    have HS := aM hs
    have HQ := aM ht
    clear hs ht H2
    refine start_ (n := 6) (S := fun w' => w'.cell? ⟨gp, 0, none⟩ = some (.int .i64 p.f0) ∧ w'.cell? ⟨gp, 1, none⟩ = some (.string p.f1) ∧ w'.cell? ⟨gp, 2, none⟩ = some (.string p.f2) ∧ w'.cell? ⟨gq, 0, none⟩ = some (.int .i64 q.f0) ∧ w'.cell? ⟨gq, 1, none⟩ = some (.string q.f1) ∧ w'.cell? ⟨gq, 2, none⟩ = some (.string q.f2)) (ds := []) (Array.replicate 6 false) (by kernel_rfl) rfl rfl ⟨(blk_cell (blk_drew E5.out.bp) 0).trans rfl, (blk_cell (blk_drew E5.out.bp) 1).trans rfl, (blk_cell (blk_drew E5.out.bp) 2).trans rfl, (blk_cell (blk_drew E5.out.bq) 0).trans rfl, (blk_cell (blk_drew E5.out.bq) 1).trans rfl, (blk_cell (blk_drew E5.out.bq) 2).trans rfl⟩ (fun hHeld => ?_)
    refine tW6 0 70 (bN 6 1) ?_
    refine tW6 2 72 (bN 6 5) ?_
    refine one_ (i := 1) (N := some 71) (bN 6 7) rfl rfl (by kernel_rfl) (by decide) (fun K hK => ?_)
    refine goes_ Try.func49 (by kernel_rfl) rfl #[.agg #[.int .i64 p.f0, .string p.f1, .string p.f2]] (by rfl) rfl rfl (by simp only [List.map_toArray, List.map_cons, List.map_nil]; rfl) ?_
    with_reducible refine (yP.calls p.f0 p.f1 p.f2 (szI p) _ rfl).mono ?_
    rintro e w6 ⟨rfl, hb6⟩
    refine ⟨_, rfl, ?_⟩
    have E6 := aM ((E5.out.below (below_drew (Below.refl _ _))).below hb6)
    clear hb6
    refine hK.out _ _ ⟨(blk_cell E6.out.bp 0).trans rfl, (blk_cell E6.out.bp 1).trans rfl, (blk_cell E6.out.bp 2).trans rfl, (blk_cell E6.out.bq 0).trans rfl, (blk_cell E6.out.bq 1).trans rfl, (blk_cell E6.out.bq 2).trans rfl⟩ (fun hHeld => ?_)
    clear hK K
    refine norm_ (a' := ?_) ?_ ?_
    rotate_left
    ·show Act.put _ (some 71) _ = _
     simp only [Act.put, List.setIfInBounds_toArray, List.set_cons_zero, List.set_cons_succ, i64_w, i32_w]
     rfl
    refine one_ (i := 3) (N := some 73) (bN 6 15) rfl rfl (by kernel_rfl) (by decide) (fun K hK => ?_)
    refine goes_ Try.func49 (by kernel_rfl) rfl #[.agg #[.int .i64 q.f0, .string q.f1, .string q.f2]] (by rfl) rfl rfl (by simp only [List.map_toArray, List.map_cons, List.map_nil]; rfl) ?_
    with_reducible refine (yP.calls q.f0 q.f1 q.f2 (szI q) _ rfl).mono ?_
    rintro e w7 ⟨rfl, hb7⟩
    refine ⟨_, rfl, ?_⟩
    have E7 := aM (E6.out.below hb7)
    clear hb7
    refine hK.out _ _ ⟨(blk_cell E7.out.bp 0).trans rfl, (blk_cell E7.out.bp 1).trans rfl, (blk_cell E7.out.bp 2).trans rfl, (blk_cell E7.out.bq 0).trans rfl, (blk_cell E7.out.bq 1).trans rfl, (blk_cell E7.out.bq 2).trans rfl⟩ (fun hHeld => ?_)
    clear hK K
    refine norm_ (a' := ?_) ?_ ?_
    rotate_left
    ·show Act.put _ (some 73) _ = _
     simp only [Act.put, List.setIfInBounds_toArray, List.set_cons_zero, List.set_cons_succ, i64_w, i32_w]
     rfl
    refine pW 4 74 (bN 6 31) ?_
    refine pW 5 15 (bN 6 63) ?_
    refine done_ (by kernel_rfl) ?_
    clear n0 n1 E5 E6
    go_upto_region 16 with (first | (go_at_call 50; (with_reducible refine (rd_cut _ gx p x _ (szI p) a1 a2 E7.out.rx (tmE_x _ _ _ _ _ _ _ _) E7.out.lt (by have := HN.out.1; simp only [List.length_cons] at this; omega) HS.out).mono ?_); rintro e w8 ⟨rfl, h8, hk8⟩; have E8 := aM (E7.out.stepX h8 hk8); clear h8 hk8) | (go_at_call 50; (with_reducible refine (rd_cut _ gy q y _ (szI p) b1_ b2_ E8.out.ry (tmE_y _ _ _ _ _ _ _ _) E8.out.lt (by have := HN.out.2; simp only [List.length_cons] at this; omega) HQ.out).mono ?_); rintro e w9 ⟨rfl, h8, hk8⟩; have E9 := aM (E8.out.stepY h8 hk8); clear h8 hk8; obtain ⟨aa0, aa1, aa2, -⟩ := bx3 E9.out.bp; have bb0 := (blk_cell E9.out.bq 0).trans (show _ = some (Value.int .i64 q.f0) from rfl); have bb1 := (blk_cell E9.out.bq 1).trans (show _ = some (Value.string q.f1) from rfl); have bb2 := (blk_cell E9.out.bq 2).trans (show _ = some (Value.string q.f2) from rfl); have f0 := blk_frozen E9.out.bp 0; have f1 := blk_frozen E9.out.bp 1; have f2 := blk_frozen E9.out.bp 2; have g0 := blk_frozen E9.out.bq 0; have g1 := blk_frozen E9.out.bq 1; have g2 := blk_frozen E9.out.bq 2; have m1_ := E9.out.npq; have m2_ := m1_.symm))
    clear aa0 aa1 aa2 bb0 bb1 bb2 f0 f1 f2 m1_ m2_
    have EA := aM (E9.out.put a1 b1_)
    clear E7 E8 E9
    simp only [put3] at EA
    generalize ((((((w9).setCell ⟨gp, 0, none⟩ (.int .i64 a1.f0)).setCell ⟨gp, 1, none⟩ (.string a1.f1)).setCell ⟨gp, 2, none⟩ (.string a1.f2)).setCell ⟨gq, 0, none⟩ (.int .i64 b1_.f0)).setCell ⟨gq, 1, none⟩ (.string b1_.f1)).setCell ⟨gq, 2, none⟩ (.string b1_.f2) = vA at EA ⊢
    obtain ⟨aa0, aa1, aa2, -⟩ := bx3 EA.out.bp
    obtain ⟨bb0, bb1, bb2, -⟩ := bx3 EA.out.bq
    by_cases hk : 0 < b1_.f0
    rotate_left
    ·rw [if_neg hk] at H
     have k0 : decide (b1_.f0 > 0) = false := decide_eq_false hk
     have k1 : (b1_.f0 > 0) = False := eq_false hk
     clear hk
     by_cases hq : 0 < a1.f0
     rotate_left
     ·rw [if_neg hq] at H
      have q0 : decide (a1.f0 > 0) = false := decide_eq_false hq
      have q1 : (a1.f0 > 0) = False := eq_false hq
      clear hq
      have H' := aM H
      clear H
      go_wp2_with fail
      go_roundg m1
      case measure => omega
      case rel => exact ⟨(restP a2 x), (restP b2_ y), s, u, v, t, H', ⟨Nat.le_trans (restP_len a2 x) (by have := HN.out.1; simpa using this), Nat.le_trans (restP_len b2_ y) (by have := HN.out.2; simpa using this)⟩, ⟨EA.out.tm⟩⟩
     rw [if_pos hq] at H
     have q0 : decide (a1.f0 > 0) = true := decide_eq_true hq
     have q1 : (a1.f0 > 0) = True := eq_true hq
     clear hq
     obtain ⟨zt, ht, H⟩ := Option.bind_eq_some_iff.mp H
     obtain ⟨htb, rfl⟩ := tkG_is ht
     have HT1 := aM htb
     clear ht htb
     have H' := aM H
     clear H
     go_wp2_with (go_at_call 46; (with_reducible refine (Mk.maker_takeK w.heap.size go_ t u.1 u.2.1 u.2.2 b1_.f0 b1_.f1 b1_.f2 w _ EA.out.t2.ho EA.out.t2.go0 HT1.out.1 HT1.out.2.1 HT1.out.2.2).mono ?_); rintro e wB ⟨rfl, t8, h8, hk8, hv8⟩; have EB := aM (TmE.takeO (z := takeP u (toP b1_)) EA.out h8 hk8 hv8); clear h8 hk8 hv8)
     go_roundg m1
     case measure => omega
     case rel => exact ⟨(restP a2 x), (restP b2_ y), s, takeP u (toP b1_), v, t8, H', ⟨Nat.le_trans (restP_len a2 x) (by have := HN.out.1; simpa using this), Nat.le_trans (restP_len b2_ y) (by have := HN.out.2; simpa using this)⟩, ⟨EB.out.tm⟩⟩
    rw [if_pos hk] at H
    have k0 : decide (b1_.f0 > 0) = true := decide_eq_true hk
    have k1 : (b1_.f0 > 0) = True := eq_true hk
    clear hk
    by_cases hq : 0 < a1.f0
    rotate_left
    ·rw [if_neg hq] at H
     have q0 : decide (a1.f0 > 0) = false := decide_eq_false hq
     have q1 : (a1.f0 > 0) = False := eq_false hq
     clear hq
     obtain ⟨zt, ht, H⟩ := Option.bind_eq_some_iff.mp H
     obtain ⟨htb, rfl⟩ := tkG_is ht
     have HT1 := aM htb
     clear ht htb
     have H' := aM H
     clear H
     go_wp2_with (go_at_call 46; (with_reducible refine (Mk.maker_takeK w.heap.size gm v s.1 s.2.1 s.2.2 a1.f0 a1.f1 a1.f2 w _ EA.out.t2.hm EA.out.t2.gm0 HT1.out.1 HT1.out.2.1 HT1.out.2.2).mono ?_); rintro e wB ⟨rfl, v8, h8, hk8, hv8⟩; have EB := aM (TmE.takeM (z := takeP s (toP a1)) EA.out h8 hk8 hv8); clear h8 hk8 hv8; obtain ⟨cc0, cc1, cc2, -⟩ := bx3 EB.out.bp)
     go_roundg m1
     case measure => omega
     case rel => exact ⟨(restP a2 x), (restP b2_ y), takeP s (toP a1), u, v8, t, H', ⟨Nat.le_trans (restP_len a2 x) (by have := HN.out.1; simpa using this), Nat.le_trans (restP_len b2_ y) (by have := HN.out.2; simpa using this)⟩, ⟨EB.out.tm⟩⟩
    rw [if_pos hq] at H
    have q0 : decide (a1.f0 > 0) = true := decide_eq_true hq
    have q1 : (a1.f0 > 0) = True := eq_true hq
    clear hq
    obtain ⟨zt, ht, H⟩ := Option.bind_eq_some_iff.mp H
    obtain ⟨htb, rfl⟩ := tkG_is ht
    have HT1 := aM htb
    clear ht htb
    obtain ⟨zk, ht, H⟩ := Option.bind_eq_some_iff.mp H
    obtain ⟨htb, rfl⟩ := tkG_is ht
    have HT2 := aM htb
    clear ht htb
    have H' := aM H
    clear H
    go_wp2_with (first | (go_at_call 46; (with_reducible refine (Mk.maker_takeK w.heap.size gm v s.1 s.2.1 s.2.2 a1.f0 a1.f1 a1.f2 w _ EA.out.t2.hm EA.out.t2.gm0 HT1.out.1 HT1.out.2.1 HT1.out.2.2).mono ?_); rintro e wB ⟨rfl, v8, h8, hk8, hv8⟩; have EB := aM (TmE.takeM (z := takeP s (toP a1)) EA.out h8 hk8 hv8); clear h8 hk8 hv8; obtain ⟨cc0, cc1, cc2, -⟩ := bx3 EB.out.bp; obtain ⟨dd0, dd1, dd2, -⟩ := bx3 EB.out.bq) | (go_at_call 46; (with_reducible refine (Mk.maker_takeK w.heap.size go_ t u.1 u.2.1 u.2.2 b1_.f0 b1_.f1 b1_.f2 w _ EB.out.t2.ho EB.out.t2.go0 HT2.out.1 HT2.out.2.1 HT2.out.2.2).mono ?_); rintro e wC ⟨rfl, t8, h8, hk8, hv8⟩; have EC := aM (TmE.takeO (z := takeP u (toP b1_)) EB.out h8 hk8 hv8); clear h8 hk8 hv8))
    go_roundg m1
    case measure => omega
    case rel => exact ⟨(restP a2 x), (restP b2_ y), takeP s (toP a1), takeP u (toP b1_), v8, t8, H', ⟨Nat.le_trans (restP_len a2 x) (by have := HN.out.1; simpa using this), Nat.le_trans (restP_len b2_ y) (by have := HN.out.2; simpa using this)⟩, ⟨EC.out.tm⟩⟩
def itEnd (k : Nat) (r : (List Mk.Pt × ByteArray × ByteArray) × (List Mk.Pt × ByteArray × ByteArray)) : Option (List S60 × List S60 × Bool) :=
 if r.1.1.length ≤ 1000 ∧ r.2.1.length ≤ 1000 then (yG.f k ((r.1.1 ++ Mk.endL r.1.2.1 r.1.2.2).map ofP)).bind fun g1 => (yG.f k ((r.2.1 ++ Mk.endL r.2.2.1 r.2.2.2).map ofP)).bind fun g2 => some (if g1.2 = true ∧ g2.2 = true then g1.1 else [], if g1.2 = true ∧ g2.2 = true then g2.1 else [], g1.2 && g2.2) else none
def yD.f (k : Nat) (l0 l1 : List S60) : Option (List S60 × List S60 × Bool) :=
 (jF.f k l0 l1).bind fun st => if st.2 = true then (if st.1 = true then (yN.f l0).bind fun na => (yN.f l1).bind fun nb => (if na.length ≤ 1000 ∧ nb.length ≤ 1000 then (trI k ([], ⟨#[]⟩, ⟨#[]⟩) ([], ⟨#[]⟩, ⟨#[]⟩) na nb).bind fun r => itEnd k r else none) else some ([], [], false)) else some ([], [], false)
theorem itEnd_mono (k : Nat) (r : (List Mk.Pt × ByteArray × ByteArray) × (List Mk.Pt × ByteArray × ByteArray)) : LeO (itEnd k r) (itEnd (k + 1) r) :=
 LeO.ite (LeO.bind (yG.mono _ _) (fun _ => LeO.bind (yG.mono _ _) (fun _ => LeO.refl _))) (LeO.refl _)
theorem yD.mono : ∀ a0 a1 k, LeO (yD.f k a0 a1) (yD.f (k + 1) a0 a1) := by
 intro a0 a1 k
 unfold yD.f
 exact LeO.bind (jF.mono _ _ _) (fun _ => LeO.ite (LeO.ite (LeO.bind (LeO.refl _) (fun _ => LeO.bind (LeO.refl _) (fun _ => LeO.ite (LeO.bind (trI_mono k _ _ _ _) (fun _ => itEnd_mono _ _)) (LeO.refl _)))) (LeO.refl _)) (LeO.refl _))
theorem yD.calls (k : Nat) (A0 : Option Addr) (c0 : Nat) (l0 : List S60) (A1 : Option Addr) (c1 : Nat) (l1 : List S60) (r1 r2 : List S60) (r3 : Bool) (w : World) (hr0 : Kd.C k60 w A0 l0.length l0) (hc0 : l0.length ≤ c0) (hr1 : Kd.C k60 w A1 l1.length l1) (hc1 : l1.length ≤ c1) (h : yD.f k l0 l1 = some (r1, r2, r3)) :
  Calls Try.prog 17 #[.slice A0 l0.length c0, .slice A1 l1.length c1] w fun e w' => ∃ v0_ v1_ : Value, e = .returned (.tuple #[v0_, v1_, .bool r3]) ∧ Kd.R k60 60 w' w.heap.size (fun k_ => some k_ ≠ (v1_ : Value).ownBlock) v0_ r1 ∧ Kd.R k60 60 w' w.heap.size (fun k_ => some k_ ≠ (v0_ : Value).ownBlock) v1_ r2 ∧ Below w.heap.size w w' := by
 unfold yD.f at h
 obtain ⟨⟨s1, s2⟩, hs, h⟩ := Option.bind_eq_some_iff.mp h
 dsimp only at h
 have HS := aM hs
 have HR0 := aM hr0
 have HR1 := aM hr1
 have HC := aM (And.intro hc0 hc1)
 cases s2 with
 | false =>
  rw [if_neg (by simp)] at h
  obtain ⟨rfl, h2⟩ := Prod.mk.inj (Option.some.inj h)
  obtain ⟨rfl, rfl⟩ := Prod.mk.inj h2
  clear h h2 hs hr0 hr1 hc0 hc1
  go_enter Try.func17, Try.ntmps17
  go_wp2_with (go_at_call 12; (with_reducible refine (jF.calls k A0 c0 l0 A1 c1 l1 s1 false _ HR0.out HC.out.1 HR1.out HC.out.2 HS.out).mono ?_); rintro e w1 ⟨rfl, hb⟩; have B1 := aM hb; clear hb)
  go_ret3
  exact ⟨.slice none 0 0, .slice none 0 0, rfl, Kd.R_nil _ _ _ _ _, Kd.R_nil _ _ _ _ _, B1.out⟩
 | true =>
  rw [if_pos rfl] at h
  cases s1 with
  | false =>
   rw [if_neg (by simp)] at h
   obtain ⟨rfl, h2⟩ := Prod.mk.inj (Option.some.inj h)
   obtain ⟨rfl, rfl⟩ := Prod.mk.inj h2
   clear h h2 hs hr0 hr1 hc0 hc1
   go_enter Try.func17, Try.ntmps17
   go_wp2_with (go_at_call 12; (with_reducible refine (jF.calls k A0 c0 l0 A1 c1 l1 false true _ HR0.out HC.out.1 HR1.out HC.out.2 HS.out).mono ?_); rintro e w1 ⟨rfl, hb⟩; have B1 := aM hb; clear hb)
   go_ret3
   exact ⟨.slice none 0 0, .slice none 0 0, rfl, Kd.R_nil _ _ _ _ _, Kd.R_nil _ _ _ _ _, B1.out⟩
  | true =>
   rw [if_pos rfl] at h
   obtain ⟨na, hna, h⟩ := Option.bind_eq_some_iff.mp h
   obtain ⟨nb, hnb, h⟩ := Option.bind_eq_some_iff.mp h
   by_cases hl : na.length ≤ 1000 ∧ nb.length ≤ 1000
   rotate_left
   ·rw [if_neg hl] at h; cases h
   rw [if_pos hl] at h
   obtain ⟨⟨z1, z2⟩, hz, h⟩ := Option.bind_eq_some_iff.mp h
   unfold itEnd at h
   by_cases hz2 : z1.1.length ≤ 1000 ∧ z2.1.length ≤ 1000
   rotate_left
   ·rw [if_neg hz2] at h; cases h
   rw [if_pos hz2] at h
   obtain ⟨⟨g1, b1⟩, hg1, h⟩ := Option.bind_eq_some_iff.mp h
   obtain ⟨⟨g2, b2⟩, hg2, h⟩ := Option.bind_eq_some_iff.mp h
   obtain ⟨rfl, h2⟩ := Prod.mk.inj (Option.some.inj h)
   obtain ⟨rfl, rfl⟩ := Prod.mk.inj h2
   exact itr_loop k A0 A1 c0 c1 l0 l1 na nb g1 g2 b1 b2 w hr0 hc0 hr1 hc1 z1 z2 hs hna hnb hl.1 hl.2 hz hz2.1 hz2.2 hg1 hg2 _ _ _ rfl rfl rfl
end Go.Proofs.Ytoagljlnfakgjaa.PFnDiamond
