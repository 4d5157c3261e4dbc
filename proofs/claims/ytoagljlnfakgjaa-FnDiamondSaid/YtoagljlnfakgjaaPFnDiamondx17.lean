/- (thin) Written by a program of this session (wip/ovl.py) over the kit's print. -/
import Derived.Test.YtoagljlnfakgjaaMk
import Derived.Test.YtoagljlnfakgjaaWKept
import Derived.Test.YtoagljlnfakgjaaPFnDiamondx0
import Derived.Test.YtoagljlnfakgjaaPFnDiamondx3
import Derived.Test.YtoagljlnfakgjaaPFnDiamondx4
import Derived.Test.YtoagljlnfakgjaaPFnDiamondx8
import Derived.Test.YtoagljlnfakgjaaPFnDiamondx10
import Derived.Test.YtoagljlnfakgjaaPFnDiamondx11
import Derived.Test.YtoagljlnfakgjaaPFnDiamondx12
namespace Go.Proofs.Ytoagljlnfakgjaa.PFnDiamond
open Go.RowKit Go.Proofs.YtoagljlnfakgjaaW.PrintWords Go.Proofs.YtoagljlnfakgjaaW.PrintLast Go.Proofs.YtoagljlnfakgjaaW.PrintMore
attribute [local go_sem] max2_int min2_int max_two min_two max_three min_three max_four min_four
set_option linter.unusedVariables false
set_option linter.unusedSimpArgs false
set_option maxHeartbeats 16000000
set_option maxRecDepth 100000
-- import Mk
-- fn: slices.Clone[[]loop.example/g00253/impl.Part,loop.example/g00253/impl.Part]
theorem clone_part (w : World) (A : Addr) (c : Nat) (l : List S60) (hr : Kd.C k60 w (some A) l.length l) (hlen : l.length ≤ 1000000) :
  Calls Try.prog 54 #[.slice (some A) l.length c] w fun e w' => ∃ v : Value, e = .returned v ∧ Kd.R k60 60 w' w.heap.size (fun k => w.heap.size ≤ k) v l ∧ Below w.heap.size w w' := by
 have hu53 := Try.underlying60
 have hu22 := Try.underlying26
 have HR := aM hr
 have HLN := aM hlen
 clear hr hlen
 have eqn : (Go.binOp .eql 26 (.slice (some A) l.length c) (.slice none 0 0)).run Try.prog w = .ok (.bool false) w := Go.Lib.run_eql_slice_nil w 26 60 (some A) l.length c 0 0 hu22
 go_enter Try.func54, Try.ntmps54
 go_wp2_with (first | ((with_reducible refine gate_dst (N := 5) rfl ?_); refine Kd.R_lit k60 (w0 := w) w.heap.size 60 ?hg (N := 5) ?hd (xs := ([] : List S60)) (inner := []) (ok := fun k => w.heap.size ≤ k) (okp := fun _ => False) ?hr ?hp (fun _ q => q.elim) (Nat.le_refl _) (Below.refl _ _) (Nat.le_refl _) (by simp) ?_; (case hd => rfl); (case hg => rfl); (case hr => exact aP38); (case hp => exact Reps.none _ _); intro vl u4 ho4 hb4 hg4_ hnew4_; clear hg4_ hnew4_; have HO4 := aM ho4; have HB4 := aM hb4; clear ho4 hb4) | ((with_reducible refine gate_dst (N := 7) rfl ?_); refine Kd.R_append_rows k60 (Rr := k60.K u4) (w0 := w) w.heap.size ?hg (.tmp 5) (.tmp 6) 26 60 (.agg #[.int .i64 0, .string ⟨#[]⟩, .string ⟨#[]⟩]) 40 ?ho Try.underlying26 Mk.info53 rfl (show 0 < 3 by decide) (by decide) vl ([] : List S60) l (some A) l.length c (fun k => w.heap.size ≤ k) (fun _ => False) ?e1 ?e2 HO4.out ?hrow (fun x cs hx => by obtain rfl := k60_open hx; exact k60_mkM _ _ _ x) (fun _ q => q.elim) (fun k hk => Nat.le_trans HB4.out.size hk) HB4.out HB4.out.size ?hl ?_; (case hg => rfl); (case ho => rfl); (case e1 => rfl); (case e2 => rfl); (case hrow => exact Kd.C_foot_neS (S := fun _ => False) (fun h => h) HR.out (fun _ _ _ q => q) u4 (Kept.of_below HB4.out (fun _ => False))); (case hl => have := HLN.out; simp only [List.length_nil]; omega); intro v5 u5 ho5 hb5 hg5_ hat5_; clear hg5_ hat5_; have HO5 := aM ho5; have HB5 := aM hb5; clear ho5 hb5))
 go_ret
 exact ⟨v5, rfl, HO5.out, HB5.out⟩
theorem clone_partA (w : World) (A : Option Addr) (c : Nat) (l : List S60) (hr : Kd.C k60 w A l.length l) (hlen : l.length ≤ 1000000) :
  Calls Try.prog 54 #[.slice A l.length c] w fun e w' => ∃ v : Value, e = .returned v ∧ Kd.R k60 60 w' w.heap.size (fun k => w.heap.size ≤ k) v l ∧ Below w.heap.size w w' := by
 cases A with
 | some A => exact clone_part w A c l hr hlen
 | none =>
  have hl : l = [] := by
   cases l with
   | nil => rfl
   | cons p r =>
    obtain ⟨ad, e3, _, _, _⟩ := at_T60 hr 0 (Int.le_refl _) (by rw [List.length_cons]; omega)
    cases e3
  subst hl
  clear hr hlen
  have hu22 := Try.underlying26
  have eqn : (Go.binOp .eql 26 (.slice none 0 c) (.slice none 0 0)).run Try.prog w = .ok (.bool true) w := Go.Lib.run_eql_slice_nil w 26 60 none 0 c 0 0 hu22
  go_enter Try.func54, Try.ntmps54
  go_wp2_with fail
  go_ret
  exact ⟨_, rfl, Kd.R_nil _ _ _ _ _, Below.refl _ _⟩
def yY.f (l0 : List S60) : Option (List S60) := if 1000000 < l0.length then none else some l0
theorem yY.calls (A0 : Option Addr) (c0 : Nat) (l0 : List S60) (r : List S60) (w : World) (hr0 : Kd.C k60 w A0 l0.length l0) (hc0 : l0.length ≤ c0) (h : yY.f l0 = some r) :
  Calls Try.prog 54 #[.slice A0 l0.length c0] w fun e w' => ∃ v0_ : Value, e = .returned (v0_) ∧ Kd.R k60 60 w' w.heap.size (fun _ => True) v0_ r ∧ Below w.heap.size w w' := by
 unfold yY.f at h
 by_cases c : 1000000 < l0.length
 ·rw [if_pos c] at h; cases h
 rw [if_neg c] at h
 obtain rfl := Option.some.inj h
 refine (clone_partA w A0 c0 l0 hr0 (by omega)).mono ?_
 rintro e w' ⟨v, he, ho, hb⟩
 exact ⟨v, he, Kd.R_mono ho (fun _ _ => trivial), hb⟩
-- import Mk
-- import WKept
def cmpI : Nat → List Mk.Pt × ByteArray × ByteArray → List S60 → List S60 → Option (Option (List Mk.Pt × ByteArray × ByteArray))
 | 0, _, _, _ => none
 | m + 1, s, [], [] => some (some s)
 | m + 1, s, p :: x, [] => if p.f2.toList = ([] : List UInt8) then none else (tkG s p).bind fun z => cmpI m z x []
 | m + 1, s, [], q :: y => if q.f1.toList = ([] : List UInt8) then none else (tkG s q).bind fun z => cmpI m z [] y
 | m + 1, s, p :: x, q :: y =>
  if p.f2.toList = ([] : List UInt8) then
   (if q.f1.toList = ([] : List UInt8) then
    ((cutP p (if szI q < szI p then szI q else szI p)).bind fun a => (cutP q (if szI q < szI p then szI q else szI p)).bind fun b =>
     if 0 < b.1.f0 then (tkG s a.1).bind fun z => cmpI m z (restP a.2 x) (restP b.2 y)
     else if 0 < a.1.f0 then (tkG s b.1).bind fun z => cmpI m z (restP a.2 x) (restP b.2 y)
     else if a.1.f1 = b.1.f2 then cmpI m s (restP a.2 x) (restP b.2 y) else some none)
   else (tkG s q).bind fun z => cmpI m z (p :: x) y)
  else (tkG s p).bind fun z => cmpI m z x (q :: y)
theorem cmpI_drop {m : Nat} {s : List Mk.Pt × ByteArray × ByteArray} {p : S60} {x y : List S60} (h : ¬ p.f2.toList = ([] : List UInt8)) : cmpI (m + 1) s (p :: x) y = (tkG s p).bind fun z => cmpI m z x y := by
 cases y <;> rw [cmpI, if_neg h]
theorem cmpI_mono : ∀ (m : Nat) (s : List Mk.Pt × ByteArray × ByteArray) (x y : List S60), LeO (cmpI m s x y) (cmpI (m + 1) s x y)
 | 0, s, x, y => by rw [cmpI]; exact LeO.none _
 | m + 1, s, [], [] => by rw [cmpI, cmpI]; exact LeO.refl _
 | m + 1, s, p :: x, [] => by
  rw [cmpI, cmpI]
  exact LeO.ite (LeO.refl _) (LeO.bind (LeO.refl _) (fun _ => cmpI_mono m _ _ _))
 | m + 1, s, [], q :: y => by
  rw [cmpI, cmpI]
  exact LeO.ite (LeO.refl _) (LeO.bind (LeO.refl _) (fun _ => cmpI_mono m _ _ _))
 | m + 1, s, p :: x, q :: y => by
  rw [cmpI, cmpI]
  exact LeO.ite (LeO.ite (LeO.bind (LeO.refl _) (fun _ => LeO.bind (LeO.refl _) (fun _ => LeO.ite (LeO.bind (LeO.refl _) (fun _ => cmpI_mono m _ _ _)) (LeO.ite (LeO.bind (LeO.refl _) (fun _ => cmpI_mono m _ _ _)) (LeO.ite (cmpI_mono m _ _ _) (LeO.refl _))))))
   (LeO.bind (LeO.refl _) (fun _ => cmpI_mono m _ _ _))) (LeO.bind (LeO.refl _) (fun _ => cmpI_mono m _ _ _))
def cmB (gx gy gm : Nat) (v : Value) (k : Nat) : Prop := k = gx ∨ k = gy ∨ k = gm ∨ v.ownBlock = some k
theorem cmB_x (gx gy gm : Nat) (v : Value) : cmB gx gy gm v gx := .inl rfl
theorem cmB_y (gx gy gm : Nat) (v : Value) : cmB gx gy gm v gy := .inr (.inl rfl)
structure Cm (w0 w : World) (gx gy gm : Nat) (x y : List S60) (s : List Mk.Pt × ByteArray × ByteArray) (v : Value) : Prop where
 rx : IsRd w gx x (cmB gx gy gm v)
 ry : IsRd w gy y (cmB gx gy gm v)
 hmk : Mk.IsMk w0 w w0.heap.size gm s.1 s.2.1 s.2.2 v
 nx : v.ownBlock ≠ some gx
 ny : v.ownBlock ≠ some gy
 nxy : gx ≠ gy
 nxm : gx ≠ gm
 nym : gy ≠ gm
 gx0 : w0.heap.size ≤ gx
 gy0 : w0.heap.size ≤ gy
 gm0 : w0.heap.size ≤ gm
theorem Cm.lt {w0 w : World} {gx gy gm : Nat} {x y : List S60} {s : List Mk.Pt × ByteArray × ByteArray} {v : Value} (h : Cm w0 w gx gy gm x y s v) : gx < w.heap.size ∧ gy < w.heap.size ∧ gm < w.heap.size ∧ (∀ k, cmB gx gy gm v k → k < w.heap.size) := by
 have e1 := rd_lt h.rx
 have e2 := rd_lt h.ry
 have e3 := blk_lt h.hmk.blk
 refine ⟨e1, e2, e3, fun k q => ?_⟩
 rcases q with q | q | q | q
 ·omega
 ·omega
 ·omega
 exact own_lt h.hmk.own k q
theorem mk_keptB {w0 w w' : World} {base g : Nat} {l : List Mk.Pt} {put drop : ByteArray} {v : Value} {S : Nat → Prop} (h : Mk.IsMk w0 w base g l put drop v) (hk : KeptB w w' S) (hg : ¬ S g) (hv : ∀ k, v.ownBlock = some k → ¬ S k) (hS : ∀ k, S k → base ≤ k) : Mk.IsMk w0 w' base g l put drop v :=
 ⟨blk_kept h.blk hk.kept hg, own_move h.own (fun k e => hk.kept.2 k (own_lt h.own k e) (hv k e)), h.far, hk.below h.bel h.siz hS, Nat.le_trans h.siz hk.kept.1⟩
theorem Cm.keptF {w0 w w' : World} {gx gy gm : Nat} {x y : List S60} {s : List Mk.Pt × ByteArray × ByteArray} {v : Value} (h : Cm w0 w gx gy gm x y s v) (hk : KeptB w w' (fun _ => False)) : Cm w0 w' gx gy gm x y s v :=
 ⟨h.rx.kept hk.kept (fun q => q) (fun _ q => q.elim), h.ry.kept hk.kept (fun q => q) (fun _ q => q.elim), mk_keptB h.hmk hk (fun q => q) (fun _ _ q => q) (fun _ q => q.elim), h.nx, h.ny, h.nxy, h.nxm, h.nym, h.gx0, h.gy0, h.gm0⟩
theorem Cm.below {w0 w w' : World} {gx gy gm : Nat} {x y : List S60} {s : List Mk.Pt × ByteArray × ByteArray} {v : Value} (h : Cm w0 w gx gy gm x y s v) (hb : Below w.heap.size w w') : Cm w0 w' gx gy gm x y s v := h.keptF (KeptB.of_below hb _)
theorem Cm.stepX {w0 w w' : World} {gx gy gm : Nat} {x x' y : List S60} {s : List Mk.Pt × ByteArray × ByteArray} {v : Value} (h : Cm w0 w gx gy gm x y s v) (h1 : IsRd w' gx x' (cmB gx gy gm v)) (hk : KeptB w w' (fun k => k = gx)) : Cm w0 w' gx gy gm x' y s v :=
 ⟨h1, h.ry.kept hk.kept (fun q => h.nxy q.symm) (fun _ q => .inl q), mk_keptB h.hmk hk (fun q => h.nxm q.symm) (fun k e q => h.nx (q ▸ e)) (fun k q => by rw [q]; exact h.gx0), h.nx, h.ny, h.nxy, h.nxm, h.nym, h.gx0, h.gy0, h.gm0⟩
theorem Cm.stepY {w0 w w' : World} {gx gy gm : Nat} {x y y' : List S60} {s : List Mk.Pt × ByteArray × ByteArray} {v : Value} (h : Cm w0 w gx gy gm x y s v) (h1 : IsRd w' gy y' (cmB gx gy gm v)) (hk : KeptB w w' (fun k => k = gy)) : Cm w0 w' gx gy gm x y' s v :=
 ⟨h.rx.kept hk.kept (fun q => h.nxy q) (fun _ q => .inr (.inl q)), h1, mk_keptB h.hmk hk (fun q => h.nym q.symm) (fun k e q => h.ny (q ▸ e)) (fun k q => by rw [q]; exact h.gy0), h.nx, h.ny, h.nxy, h.nxm, h.nym, h.gx0, h.gy0, h.gm0⟩
theorem Cm.take {w0 w w' : World} {gx gy gm : Nat} {x y : List S60} {s z : List Mk.Pt × ByteArray × ByteArray} {v v' : Value} (h : Cm w0 w gx gy gm x y s v) (hm : Mk.IsMk w0 w' w0.heap.size gm z.1 z.2.1 z.2.2 v') (hk : Kept w w' (fun k => k = gm ∨ some k = v.ownBlock)) (hv : ∀ k, v'.ownBlock = some k → v.ownBlock = some k ∨ w.heap.size ≤ k) : Cm w0 w' gx gy gm x y z v' := by
 obtain ⟨l1, l2, l3, _⟩ := h.lt
 have hs : ∀ k, cmB gx gy gm v' k → cmB gx gy gm v k ∨ w.heap.size ≤ k := fun k q => by
  rcases q with q | q | q | q
  ·exact .inl (.inl q)
  ·exact .inl (.inr (.inl q))
  ·exact .inl (.inr (.inr (.inl q)))
  ·exact (hv k q).imp (fun z => .inr (.inr (.inr z))) (fun z => z)
 have hP : ∀ k, (k = gm ∨ some k = v.ownBlock) → cmB gx gy gm v k := fun k q => q.elim (fun q => .inr (.inr (.inl q))) (fun q => .inr (.inr (.inr q.symm)))
 refine ⟨h.rx.next hk hP (fun q => q.elim h.nxm (fun q => h.nx q.symm)) hs, h.ry.next hk hP (fun q => q.elim h.nym (fun q => h.ny q.symm)) hs, hm, fun q => ?_, fun q => ?_, h.nxy, h.nxm, h.nym, h.gx0, h.gy0, h.gm0⟩
 ·exact (hv gx q).elim h.nx (fun z => by omega)
 exact (hv gy q).elim h.ny (fun z => by omega)
theorem rd_init {w w' : World} {g c : Nat} {A : Option Addr} {l : List S60} {S : Nat → Prop} {base : Nat} {ok : Nat → Prop} (hb : w'.heap[g]? = some (.cells #[.slice A l.length c] 68 (0, 0))) (hr : Kd.R k60 60 w base ok (.slice A l.length c) l) (hk : KeptB w w' (fun _ => False)) (hS : ∀ k, S k → w.heap.size ≤ k) : IsRd w' g l S := by
 obtain ⟨_, hcap, hreads⟩ := Kd.R_reads' hr
 refine ⟨A, c, hb, hcap, Kd.C_foot_neS (S := fun _ => False) (fun h => h) hreads (fun _ _ _ q => q) w' hk.kept, fun ad e hn q => ?_⟩
 obtain ⟨ad', e3, hx0, _, _⟩ := at_T60 hreads 0 (Int.le_refl _) (by omega)
 rw [e] at e3
 obtain rfl := Option.some.inj e3
 rw [show ((0 : Int)).toNat = 0 from rfl, show 0 * 3 = 0 from rfl, Addr.add_zero'] at hx0
 have := World.block_lt_of_cell? w _ hx0
 have := hS _ q
 omega
theorem blk_put1 {w : World} {g : Nat} {u : Value} {t : Nat} (h : w.heap[g]? = some (.cells #[u] t (0, 0))) (v : Value) : (w.setCell ⟨g, 0, none⟩ v).heap[g]? = some (.cells #[v] t (0, 0)) := blk_put (cs' := #[v]) h 0 v rfl
theorem cm_init {w0 w6 w9 w10 : World} {gx gy gm cx cy bx by_ : Nat} {Ax Ay : Option Addr} {l0 l1 : List S60} {okx oky : Nat → Prop} (h1 : Kd.R k60 60 w6 bx okx (.slice Ax l0.length cx) l0) (h2 : Kd.R k60 60 w6 by_ oky (.slice Ay l1.length cy) l1) (hb6 : Below w0.heap.size w0 w6) (hk : KeptB w6 w9 (fun _ => False))
  (hx : w9.heap[gx]? = some (.cells #[.slice Ax l0.length cx] 68 (0, 0))) (hy : w9.heap[gy]? = some (.cells #[.slice Ay l1.length cy] 68 (0, 0))) (gx0 : w6.heap.size ≤ gx) (gy0 : w6.heap.size ≤ gy) (hne : gx ≠ gy) (hb : Below w9.heap.size w9 w10) (hm : w10.heap[gm]? = some (.cells #[.slice none 0 0, .string ⟨#[]⟩, .string ⟨#[]⟩] 70 (0, 0))) (hg : gm = w9.heap.size) : Cm w0 w10 gx gy gm l0 l1 ([], ⟨#[]⟩, ⟨#[]⟩) (.slice none 0 0) := by
 have e1 := blk_lt hx
 have e2 := blk_lt hy
 have e3 := hk.kept.1
 have e4 := hb6.size
 have hb9 : Below w0.heap.size w0 w9 := hk.below hb6 hb6.size (fun _ q => q.elim)
 have hS : ∀ k, cmB gx gy gm (.slice none 0 0) k → w6.heap.size ≤ k := fun k q => by
  rcases q with q | q | q | q
  ·omega
  ·omega
  ·omega
  ·cases q
 have k10 : KeptB w6 w10 (fun _ => False) := hk.then_ (KeptB.of_below hb (fun _ => False)) (fun _ q => q.elim)
 refine ⟨rd_init (blk_below hx hb) h1 k10 hS, rd_init (blk_below hy hb) h2 k10 hS, ⟨hm, own_nil _ _ _ _, by simp [Value.ownBlock], below_step hb9 hb, ?_⟩, by simp [Value.ownBlock], by simp [Value.ownBlock], hne, by omega, by omega, by omega, by omega, by omega⟩
 have := hb.size
 omega
theorem Cm.fresh2 {w0 w : World} {gx gy gm gp gq : Nat} {x y : List S60} {s : List Mk.Pt × ByteArray × ByteArray} {v : Value} (h : Cm w0 w gx gy gm x y s v) (hp : gp = w.heap.size) (hq : w.heap.size ≤ gq) : (gp ≠ gx ∧ gp ≠ gy ∧ gp ≠ gm ∧ some gp ≠ v.ownBlock ∧ w0.heap.size ≤ gp) ∧ (gq ≠ gx ∧ gq ≠ gy ∧ gq ≠ gm ∧ some gq ≠ v.ownBlock ∧ w0.heap.size ≤ gq) := by
 obtain ⟨a, b, c, d⟩ := h.lt
 have e := h.hmk.siz
 refine ⟨⟨by omega, by omega, by omega, fun q => ?_, by omega⟩, by omega, by omega, by omega, fun q => ?_, by omega⟩
 ·have := d gp (.inr (.inr (.inr q.symm))); omega
 have := d gq (.inr (.inr (.inr q.symm))); omega
def bxE (gp gq k : Nat) : Prop := k = gp ∨ k = gq
def cmE (gx gy gm gp gq : Nat) (v : Value) (k : Nat) : Prop := cmB gx gy gm v k ∨ bxE gp gq k
theorem cmE_x (gx gy gm gp gq : Nat) (v : Value) : cmE gx gy gm gp gq v gx := .inl (cmB_x _ _ _ _)
theorem cmE_y (gx gy gm gp gq : Nat) (v : Value) : cmE gx gy gm gp gq v gy := .inl (cmB_y _ _ _ _)
structure CmE (w0 w : World) (gx gy gm gp gq : Nat) (x y : List S60) (s : List Mk.Pt × ByteArray × ByteArray) (v : Value) (p q : S60) : Prop where
 cm : Cm w0 w gx gy gm x y s v
 rx : IsRd w gx x (cmE gx gy gm gp gq v)
 ry : IsRd w gy y (cmE gx gy gm gp gq v)
 bp : Cells3 w gp p
 bq : Cells3 w gq q
 npq : gp ≠ gq
 fp : gp ≠ gx ∧ gp ≠ gy ∧ gp ≠ gm ∧ some gp ≠ v.ownBlock ∧ w0.heap.size ≤ gp
 fq : gq ≠ gx ∧ gq ≠ gy ∧ gq ≠ gm ∧ some gq ≠ v.ownBlock ∧ w0.heap.size ≤ gq
theorem CmE.lt {w0 w : World} {gx gy gm gp gq : Nat} {x y : List S60} {s : List Mk.Pt × ByteArray × ByteArray} {v : Value} {p q : S60} (h : CmE w0 w gx gy gm gp gq x y s v p q) : ∀ k, cmE gx gy gm gp gq v k → k < w.heap.size := fun k e => by
 have e1 := blk_lt h.bp
 have e2 := blk_lt h.bq
 rcases e with e | e | e
 ·exact h.cm.lt.2.2.2 k e
 ·rw [e]; exact e1
 ·rw [e]; exact e2
theorem CmE.of {w0 w w' : World} {gx gy gm gp gq : Nat} {x y : List S60} {s : List Mk.Pt × ByteArray × ByteArray} {v : Value} {p q : S60} (h : Cm w0 w gx gy gm x y s v) (hk : KeptB w w' (fun _ => False)) (hp : gp = w.heap.size) (hq : w.heap.size ≤ gq) (bp : Cells3 w' gp p) (bq : Cells3 w' gq q) (npq : gp ≠ gq) : CmE w0 w' gx gy gm gp gq x y s v p q := by
 obtain ⟨f1, f2⟩ := h.fresh2 hp hq
 have hs : ∀ k, cmE gx gy gm gp gq v k → cmB gx gy gm v k ∨ w.heap.size ≤ k := fun k e => by
  rcases e with e | e | e
  ·exact .inl e
  ·exact .inr (by omega)
  ·exact .inr (by omega)
 exact ⟨h.keptF hk, h.rx.next hk.kept (fun _ q => q.elim) (fun q => q) hs, h.ry.next hk.kept (fun _ q => q.elim) (fun q => q) hs, bp, bq, npq, f1, f2⟩
theorem CmE.keptF {w0 w w' : World} {gx gy gm gp gq : Nat} {x y : List S60} {s : List Mk.Pt × ByteArray × ByteArray} {v : Value} {p q : S60} (h : CmE w0 w gx gy gm gp gq x y s v p q) (hk : KeptB w w' (fun _ => False)) : CmE w0 w' gx gy gm gp gq x y s v p q :=
 ⟨h.cm.keptF hk, h.rx.kept hk.kept (fun q => q) (fun _ q => q.elim), h.ry.kept hk.kept (fun q => q) (fun _ q => q.elim), blk_kept h.bp hk.kept (fun q => q), blk_kept h.bq hk.kept (fun q => q), h.npq, h.fp, h.fq⟩
theorem CmE.below {w0 w w' : World} {gx gy gm gp gq : Nat} {x y : List S60} {s : List Mk.Pt × ByteArray × ByteArray} {v : Value} {p q : S60} (h : CmE w0 w gx gy gm gp gq x y s v p q) (hb : Below w.heap.size w w') : CmE w0 w' gx gy gm gp gq x y s v p q := h.keptF (KeptB.of_below hb _)
theorem CmE.stepX {w0 w w' : World} {gx gy gm gp gq : Nat} {x x' y : List S60} {s : List Mk.Pt × ByteArray × ByteArray} {v : Value} {p q : S60} (h : CmE w0 w gx gy gm gp gq x y s v p q) (h1 : IsRd w' gx x' (cmE gx gy gm gp gq v)) (hk : KeptB w w' (fun k => k = gx)) : CmE w0 w' gx gy gm gp gq x' y s v p q :=
 ⟨h.cm.stepX (h1.mono (fun _ q => .inl q)) hk, h1, h.ry.kept hk.kept (fun q => h.cm.nxy q.symm) (fun _ q => .inl (.inl q)), blk_kept h.bp hk.kept h.fp.1, blk_kept h.bq hk.kept h.fq.1, h.npq, h.fp, h.fq⟩
theorem CmE.stepY {w0 w w' : World} {gx gy gm gp gq : Nat} {x y y' : List S60} {s : List Mk.Pt × ByteArray × ByteArray} {v : Value} {p q : S60} (h : CmE w0 w gx gy gm gp gq x y s v p q) (h1 : IsRd w' gy y' (cmE gx gy gm gp gq v)) (hk : KeptB w w' (fun k => k = gy)) : CmE w0 w' gx gy gm gp gq x y' s v p q :=
 ⟨h.cm.stepY (h1.mono (fun _ q => .inl q)) hk, h.rx.kept hk.kept (fun q => h.cm.nxy q) (fun _ q => .inl (.inr (.inl q))), h1, blk_kept h.bp hk.kept h.fp.2.1, blk_kept h.bq hk.kept h.fq.2.1, h.npq, h.fp, h.fq⟩
theorem CmE.put {w0 w : World} {gx gy gm gp gq : Nat} {x y : List S60} {s : List Mk.Pt × ByteArray × ByteArray} {v : Value} {p q : S60} (h : CmE w0 w gx gy gm gp gq x y s v p q) (a b : S60) : CmE w0 (put3 (put3 w gp a) gq b) gx gy gm gp gq x y s v a b := by
 have hk : KeptB w (put3 (put3 w gp a) gq b) (bxE gp gq) := kept_put3 (kept_put3 ⟨Kept.refl w _, rfl, rfl, rfl⟩ (.inl (.inl rfl)) a) (.inl (.inr rfl)) b
 have nX : ¬ bxE gp gq gx := fun e => e.elim (fun e => h.fp.1 e.symm) (fun e => h.fq.1 e.symm)
 have nY : ¬ bxE gp gq gy := fun e => e.elim (fun e => h.fp.2.1 e.symm) (fun e => h.fq.2.1 e.symm)
 have nM : ¬ bxE gp gq gm := fun e => e.elim (fun e => h.fp.2.2.1 e.symm) (fun e => h.fq.2.2.1 e.symm)
 have nV : ∀ k, v.ownBlock = some k → ¬ bxE gp gq k := fun k e z => z.elim (fun z => h.fp.2.2.2.1 (by rw [e, z])) (fun z => h.fq.2.2.2.1 (by rw [e, z]))
 have hB : ∀ k, bxE gp gq k → w0.heap.size ≤ k := fun k z => z.elim (fun z => by rw [z]; exact h.fp.2.2.2.2) (fun z => by rw [z]; exact h.fq.2.2.2.2)
 have r1 : IsRd (put3 (put3 w gp a) gq b) gx x (cmE gx gy gm gp gq v) := h.rx.kept hk.kept nX (fun _ z => .inr z)
 have r2 : IsRd (put3 (put3 w gp a) gq b) gy y (cmE gx gy gm gp gq v) := h.ry.kept hk.kept nY (fun _ z => .inr z)
 exact ⟨⟨r1.mono (fun _ z => .inl z), r2.mono (fun _ z => .inl z), mk_keptB h.cm.hmk hk nM nV hB, h.cm.nx, h.cm.ny, h.cm.nxy, h.cm.nxm, h.cm.nym, h.cm.gx0, h.cm.gy0, h.cm.gm0⟩, r1, r2, put3_far (put3_is h.bp a) h.npq b, put3_is (put3_far h.bq h.npq.symm a) b, h.npq, h.fp, h.fq⟩
theorem icmp_loop (k : Nat) (A0 A1 : Option Addr) (c0 c1 : Nat) (l0 l1 r1 : List S60) (r2 : Bool) (w : World) (i0 i1 : Int) (hr0 : Kd.C k60 w A0 l0.length l0) (hc0 : l0.length ≤ c0) (hr1 : Kd.C k60 w A1 l1.length l1) (hc1 : l1.length ≤ c1) (ha : l0.length ≤ 1000) (hb : l1.length ≤ 1000) (z : Option (List Mk.Pt × ByteArray × ByteArray)) (n0 n1 : Int × Int)
  (g0 : jU.f k l0 = some true) (g1 : jU.f k l1 = some true) (s0 : jW.f k l0 = some n0) (s1 : jW.f k l1 = some n1) (he : n1.1 = n0.2) (h : cmpI k ([], ⟨#[]⟩, ⟨#[]⟩) l0 l1 = some z) (hz : ∀ s, z = some s → s.1.length ≤ 1000 ∧ yG.f k ((s.1 ++ Mk.endL s.2.1 s.2.2).map ofP) = some (r1, r2)) (hn : z = none → r1 = [] ∧ r2 = false) :
  Calls Try.prog 28 #[.slice A0 l0.length c0, .slice A1 l1.length c1] w fun e w' => ∃ v0_ : Value, e = .returned (.tuple #[v0_, .bool r2]) ∧ Kd.R k60 60 w' w.heap.size (fun _ => True) v0_ r1 ∧ Below w.heap.size w w' := by
 have hu53 := Try.underlying60
 have hu72 := Try.underlying68
 have hu74 := Try.underlying70
 have HR0 := aM hr0
 have HR1 := aM hr1
 have HC := aM (And.intro hc0 hc1)
 have HN := aM (And.intro ha hb)
 have H' := aM h
 have HZ := aM hz
 have HZ0 := aM hn
 have S0 := aM s0
 have S1 := aM s1
 have G0 := aM g0
 have G1 := aM g1
 obtain ⟨n00, n01⟩ := n0
 obtain ⟨n10, n11⟩ := n1
 dsimp only at he
 subst he
 clear hr0 hr1 hc0 hc1 ha hb h hz hn s0 s1 g0 g1
 go_enter Try.func28, Try.ntmps28
 have b0 : decide (n10 = n10) = true := decide_eq_true rfl
 go_upto_region 8 with (first | (go_at_call 37; (with_reducible refine (jU.calls k A0 c0 l0 true _ (HR0.out) HC.out.1 G0.out).mono ?_); rintro e w1 ⟨rfl, hb⟩; have B1 := aM (hb); clear hb) | (go_at_call 37; (with_reducible refine (jU.calls k A1 c1 l1 true _ (Kd.C_below HR1.out B1.out) HC.out.2 G1.out).mono ?_); rintro e w2 ⟨rfl, hb⟩; have B2 := aM (below_step B1.out hb); clear hb) | (go_at_call 56; (with_reducible refine (jW.calls k A0 c0 l0 n00 n10 _ (Kd.C_below HR0.out B2.out) HC.out.1 S0.out).mono ?_); rintro e w3 ⟨rfl, hb⟩; have B3 := aM (below_step B2.out hb); clear hb) | (go_at_call 56; (with_reducible refine (jW.calls k A1 c1 l1 n10 n11 _ (Kd.C_below HR1.out B3.out) HC.out.2 S1.out).mono ?_); rintro e w4 ⟨rfl, hb⟩; have B4 := aM (below_step B3.out hb); clear hb) | (go_at_call 54; (with_reducible refine (clone_partA _ A0 c0 l0 (Kd.C_below HR0.out B4.out) (Nat.le_trans HN.out.1 (by decide))).mono ?_); rintro e w5 ⟨vx, rfl, hx, hb⟩; obtain ⟨Ax, cx, ex⟩ := Kd.R_slice hx; subst ex; have RX := aM hx; have B5 := aM (below_step B4.out hb); clear hx hb) | (go_at_call 54; (with_reducible refine (clone_partA _ A1 c1 l1 (Kd.C_below HR1.out B5.out) (Nat.le_trans HN.out.2 (by decide))).mono ?_); rintro e w6 ⟨vy, rfl, hy, hb⟩; obtain ⟨Ay, cy, ey⟩ := Kd.R_slice hy; subst ey; have RY := aM hy; have RX6 := aM (Kd.R_below RX.out hb); have B6 := aM (below_step B5.out hb); have z5 := aM hb.size; clear hy hb) | ((with_reducible refine gate_dst (N := 10) rfl ?_); refine box_event rfl (N := 10) rfl (cs := #[.slice none 0 0]) (t := 68) aP38 ?_; intro gx hg_ w7 hbox hb; have BX7 := aM hbox; have GX := aM hg_; have B7 := aM hb; have d0 := (blk_cell hbox 0).trans (show _ = some (Value.slice none 0 0) from rfl); have f0 := blk_frozen hbox 0; clear hbox hb hg_) | ((with_reducible refine gate_dst (N := 11) rfl ?_); refine box_event rfl (N := 11) rfl (cs := #[.slice none 0 0]) (t := 68) aP38 ?_; intro gy hg_ w8 hbox hb; have BX8 := aM (blk_below BX7.out hb); have BY8 := aM hbox; have GY := aM hg_; have B8 := aM hb; clear d0 f0; have d0 := (blk_cell BX8.out 0).trans (show _ = some (Value.slice none 0 0) from rfl); have f0 := blk_frozen BX8.out 0; have d1 := (blk_cell hbox 0).trans (show _ = some (Value.slice none 0 0) from rfl); have f1 := blk_frozen hbox 0; have n1 : gx ≠ gy := (by rw [hg_]; exact Nat.ne_of_lt (blk_lt BX7.out)); have n2 : gy ≠ gx := n1.symm; clear hbox hb hg_))
 have l6 : w6.heap.size ≤ gx ∧ w6.heap.size ≤ gy := ⟨Nat.le_of_eq GX.out.symm, by rw [GY.out]; exact B7.out.size⟩
 have KK := aM (((KeptB.of_below B7.out (fun _ => False)).then_ (KeptB.of_below B8.out (fun _ => False)) (fun _ q => q.elim)).setCell (p := ⟨gx, 0, none⟩) (.inr l6.1) (.slice Ax l0.length cx) |>.setCell (p := ⟨gy, 0, none⟩) (.inr l6.2) (.slice Ay l1.length cy))
 have CX := aM (blk_far (blk_put1 BX8.out (.slice Ax l0.length cx)) (p := ⟨gy, 0, none⟩) n1 (.slice Ay l1.length cy))
 have CY := aM (blk_put1 (blk_far BY8.out (p := ⟨gx, 0, none⟩) n2 (.slice Ax l0.length cx)) (.slice Ay l1.length cy))
 have NE := aM n1
 have L6 := aM l6
 clear d0 f0 d1 f1 n1 n2 l6 BX7 BX8 BY8 GX GY B7 B8 B1 B2 B3 B4 B5 z5 RX S0 S1 G0 G1 HR0 HR1 HC b0
 generalize (w8.setCell ⟨gx, 0, none⟩ (.slice Ax l0.length cx)).setCell ⟨gy, 0, none⟩ (.slice Ay l1.length cy) = w9 at KK CX CY ⊢
 go_wp2_with ((with_reducible refine gate_dst (N := 12) rfl ?_); refine box_event rfl (N := 12) rfl (cs := #[.slice none 0 0, .string ⟨#[]⟩, .string ⟨#[]⟩]) (t := 70) aP38 ?_; intro gm hg_ w10 hbox hb; have C0 := aM (cm_init RX6.out RY.out B6.out KK.out CX.out CY.out L6.out.1 L6.out.2 NE.out hb hbox hg_); clear hbox hb hg_)
 clear KK CX CY NE L6 RX6 RY B6
 simp only [Act.put, List.setIfInBounds_toArray, List.set_cons_zero, List.set_cons_succ]
 go_loopg [] k (fun kq w' => ∃ (x y : List S60) (s : List Mk.Pt × ByteArray × ByteArray) (v : Value), Aside0 (cmpI kq s x y = some z) ∧ Aside0 (x.length ≤ 1000 ∧ y.length ≤ 1000) ∧ Aside0 (Cm w w' gx gy gm x y s v))
 case atStart => exact ⟨l0, l1, _, _, H', HN, C0⟩
 case round =>
  clear H' C0 HN
  obtain ⟨x, y, s, v, HA, HN, C0⟩ := hrel
  cases gk with
  | zero => exact absurd HA.out (by simp [cmpI])
  | succ m1 => ?_
  have H := HA.out
  clear HA
  cases x with
  | nil =>
   cases y with
   | nil =>
    have H1 : some (some s) = some z := H
    clear H
    obtain rfl := Option.some.inj H1
    clear H1
    have HG := aM (HZ.out s rfl)
    obtain ⟨Ax, cx, c0⟩ := C0.out.rx.cell
    obtain ⟨Ay, cy, c1⟩ := C0.out.ry.cell
    rw [List.length_nil] at c0 c1
    go_wp2_with (first | (go_at_call 52; (with_reducible refine (Mk.maker_made w.heap.size gm v s.1 s.2.1 s.2.2 w _ C0.out.hmk C0.out.gm0 HG.out.1).mono ?_); rintro e w6 ⟨v6, rfl, h6⟩; have M6 := aM h6; clear h6) | (go_at_call 51; (with_reducible refine (yG.calls k (fun _ => True) v6 _ r1 r2 w _ M6.out.bel (R_of_cells M6.out.own) HG.out.2).mono ?_); rintro e w7 ⟨v7, rfl, h7, hb7, _⟩; have O7 := aM h7; have B7 := aM hb7; clear h7 hb7))
    go_ret2
    exact ⟨_, rfl, Kd.R_mono O7.out (fun _ _ => trivial), B7.out⟩
   | cons q y =>
    by_cases hq : q.f1.toList = ([] : List UInt8)
    ·rw [cmpI, if_pos hq] at H; cases H
    rw [cmpI, if_neg hq] at H
    have eB0 : (q.f1.toList == ([] : List UInt8)) = false := beq_eq_false_iff_ne.mpr hq
    have eB1 : (q.f1.toList != ([] : List UInt8)) = true := bne_iff_ne.mpr hq
    have eB2 : q.f1.toList.isEmpty = false := List.isEmpty_eq_false_iff.mpr hq
    clear hq
    have dB0 : ((⟨#[]⟩ : ByteArray).toList == ([] : List UInt8)) = true := beq_iff_eq.mpr nilT
    have dB1 : ((⟨#[]⟩ : ByteArray).toList != ([] : List UInt8)) = false := bne_eq_false_iff_eq.mpr nilT
    have dB2 : (⟨#[]⟩ : ByteArray).toList.isEmpty = true := List.isEmpty_iff.mpr nilT
    obtain ⟨Ax, cx, c0⟩ := C0.out.rx.cell
    rw [List.length_nil] at c0
    obtain ⟨Ay, cy, c1⟩ := C0.out.ry.cell
    rw [List.length_cons] at c1
    have c1d : decide (((y.length + 1 : Nat) : Int) > 0) = true := decide_eq_true (by omega)
    have c1e : ((0 : Int) < (y.length : Int) + 1) = True := eq_true (by omega)
    have c1f : (0 < y.length + 1) = True := eq_true (by omega)
    go_upto_region 11 with (first | (go_at_call 45; (with_reducible refine (rd_head _ gx [] _ C0.out.rx).mono ?_); rintro e w1 ⟨rfl, hb⟩; have C1 := aM (C0.out.below hb); clear hb) | (go_at_call 45; (with_reducible refine (rd_head _ gy (q :: y) _ C1.out.ry).mono ?_); rintro e w1 ⟨rfl, hb⟩; have C2 := aM (C1.out.below hb); clear hb) | ((with_reducible refine gate_dst (N := 13) rfl ?_); refine box_event rfl (N := 13) rfl (cs := #[.int .i64 0, .string ⟨#[]⟩, .string ⟨#[]⟩]) (t := 60) aP38 ?_; intro gp hg_ w3 hbox hb; have C3 := aM (C2.out.below hb); have BP := aM hbox; have GP := aM hg_; have B3 := aM hb; clear hbox hb hg_) | ((with_reducible refine gate_dst (N := 14) rfl ?_); refine box_event rfl (N := 14) rfl (cs := #[.int .i64 0, .string ⟨#[]⟩, .string ⟨#[]⟩]) (t := 60) aP38 ?_; intro gq hg_ w4 hbox hb; have BP4 := aM (blk_below BP.out hb); have BQ := aM hbox; have GQ := aM hg_; have B4 := aM hb; have n1 : gp ≠ gq := (by rw [hg_]; exact Nat.ne_of_lt (blk_lt BP.out)); have n2 : gq ≠ gp := n1.symm; obtain ⟨y0, y1, y2, f0, f1, f2⟩ := bx3 BP4.out; obtain ⟨z0, z1, z2, e0, e1, e2⟩ := bx3 hbox; clear hbox hb hg_))
    have K4 := aM (kept_put3 (kept_put3 ((KeptB.of_below B3.out (fun _ => False)).then_ (KeptB.of_below B4.out (fun _ => False)) (fun _ q => q.elim)) (g := gp) (.inr (Nat.le_of_eq GP.out.symm)) (hdP [])) (g := gq) (.inr (by rw [GQ.out]; exact B3.out.size)) (hdP (q :: y)))
    have E5 := aM (CmE.of C2.out K4.out GP.out (show _ ≤ gq by rw [GQ.out]; exact B3.out.size) (put3_far (put3_is (q := zP) BP4.out (hdP [])) n1 (hdP (q :: y))) (put3_is (q := zP) (put3_far BQ.out n2 (hdP [])) (hdP (q :: y))) n1)
    clear y0 y1 y2 f0 f1 f2 z0 z1 z2 e0 e1 e2 n1 n2 BP BP4 BQ GP GQ B3 B4 C1 C2 C3 K4 c0 c1 c1d c1e c1f
    simp only [put3] at E5
    generalize ((((((w4).setCell ⟨gp, 0, none⟩ (.int .i64 (hdP []).f0)).setCell ⟨gp, 1, none⟩ (.string (hdP []).f1)).setCell ⟨gp, 2, none⟩ (.string (hdP []).f2)).setCell ⟨gq, 0, none⟩ (.int .i64 (hdP (q :: y)).f0)).setCell ⟨gq, 1, none⟩ (.string (hdP (q :: y)).f1)).setCell ⟨gq, 2, none⟩ (.string (hdP (q :: y)).f2) = v5 at E5 ⊢
    replace E5 := aM (show CmE w v5 gx gy gm gp gq [] (q :: y) s v zP q from E5.out)
    obtain ⟨a0, a1, a2, -⟩ := bx3 E5.out.bp
    obtain ⟨b0, b1, b2, -⟩ := bx3 E5.out.bq
    obtain ⟨z1, ht, H⟩ := Option.bind_eq_some_iff.mp H
    obtain ⟨htb, rfl⟩ := tkG_is ht
    have HT := aM htb
    have H' := aM H
    clear ht htb H
    go_wp2_with (first | (go_at_call 47; (with_reducible refine (rd_next _ gy q y _ E5.out.cm.ry (cmB_y _ _ _ _)).mono ?_); rintro e w6 ⟨rfl, h6, hk6⟩; have C6 := aM (E5.out.cm.stepY h6 hk6); clear h6 hk6) | (go_at_call 46; (with_reducible refine (Mk.maker_takeK w.heap.size gm v s.1 s.2.1 s.2.2 q.f0 q.f1 q.f2 w _ C6.out.hmk C6.out.gm0 HT.out.1 HT.out.2.1 HT.out.2.2).mono ?_); rintro e w8 ⟨rfl, v8, h8, hk8, hv8⟩; have C7 := aM (Cm.take (z := takeP s (toP q)) C6.out h8 hk8 hv8); clear h8 hk8 hv8))
    go_roundg m1
    case measure => omega
    case rel => exact ⟨[], y, takeP s (toP q), v8, H', ⟨HN.out.1, by have := HN.out.2; simp only [List.length_cons] at this; omega⟩, C7⟩
  | cons p x =>
   by_cases hd : p.f2.toList = ([] : List UInt8)
   rotate_left
   ·rw [cmpI_drop hd] at H
    have dB0 : (p.f2.toList == ([] : List UInt8)) = false := beq_eq_false_iff_ne.mpr hd
    have dB1 : (p.f2.toList != ([] : List UInt8)) = true := bne_iff_ne.mpr hd
    have dB2 : p.f2.toList.isEmpty = false := List.isEmpty_eq_false_iff.mpr hd
    clear hd
    obtain ⟨Ax, cx, c0⟩ := C0.out.rx.cell
    rw [List.length_cons] at c0
    have c0d : decide (((x.length + 1 : Nat) : Int) > 0) = true := decide_eq_true (by omega)
    have c0e : ((0 : Int) < (x.length : Int) + 1) = True := eq_true (by omega)
    have c0f : (0 < x.length + 1) = True := eq_true (by omega)
    go_upto_region 11 with (first | (go_at_call 45; (with_reducible refine (rd_head _ gx (p :: x) _ C0.out.rx).mono ?_); rintro e w1 ⟨rfl, hb⟩; have C1 := aM (C0.out.below hb); clear hb) | (go_at_call 45; (with_reducible refine (rd_head _ gy y _ C1.out.ry).mono ?_); rintro e w1 ⟨rfl, hb⟩; have C2 := aM (C1.out.below hb); clear hb) | ((with_reducible refine gate_dst (N := 13) rfl ?_); refine box_event rfl (N := 13) rfl (cs := #[.int .i64 0, .string ⟨#[]⟩, .string ⟨#[]⟩]) (t := 60) aP38 ?_; intro gp hg_ w3 hbox hb; have C3 := aM (C2.out.below hb); have BP := aM hbox; have GP := aM hg_; have B3 := aM hb; clear hbox hb hg_) | ((with_reducible refine gate_dst (N := 14) rfl ?_); refine box_event rfl (N := 14) rfl (cs := #[.int .i64 0, .string ⟨#[]⟩, .string ⟨#[]⟩]) (t := 60) aP38 ?_; intro gq hg_ w4 hbox hb; have BP4 := aM (blk_below BP.out hb); have BQ := aM hbox; have GQ := aM hg_; have B4 := aM hb; have n1 : gp ≠ gq := (by rw [hg_]; exact Nat.ne_of_lt (blk_lt BP.out)); have n2 : gq ≠ gp := n1.symm; obtain ⟨y0, y1, y2, f0, f1, f2⟩ := bx3 BP4.out; obtain ⟨z0, z1, z2, e0, e1, e2⟩ := bx3 hbox; clear hbox hb hg_))
    have K4 := aM (kept_put3 (kept_put3 ((KeptB.of_below B3.out (fun _ => False)).then_ (KeptB.of_below B4.out (fun _ => False)) (fun _ q => q.elim)) (g := gp) (.inr (Nat.le_of_eq GP.out.symm)) (hdP (p :: x))) (g := gq) (.inr (by rw [GQ.out]; exact B3.out.size)) (hdP y))
    have E5 := aM (CmE.of C2.out K4.out GP.out (show _ ≤ gq by rw [GQ.out]; exact B3.out.size) (put3_far (put3_is (q := zP) BP4.out (hdP (p :: x))) n1 (hdP y)) (put3_is (q := zP) (put3_far BQ.out n2 (hdP (p :: x))) (hdP y)) n1)
    clear y0 y1 y2 f0 f1 f2 z0 z1 z2 e0 e1 e2 n1 n2 BP BP4 BQ GP GQ B3 B4 C1 C2 C3 K4 c0 c0d c0e c0f
    simp only [put3] at E5
    generalize ((((((w4).setCell ⟨gp, 0, none⟩ (.int .i64 (hdP (p :: x)).f0)).setCell ⟨gp, 1, none⟩ (.string (hdP (p :: x)).f1)).setCell ⟨gp, 2, none⟩ (.string (hdP (p :: x)).f2)).setCell ⟨gq, 0, none⟩ (.int .i64 (hdP y).f0)).setCell ⟨gq, 1, none⟩ (.string (hdP y).f1)).setCell ⟨gq, 2, none⟩ (.string (hdP y).f2) = v5 at E5 ⊢
    replace E5 := aM (show CmE w v5 gx gy gm gp gq (p :: x) y s v p (hdP y) from E5.out)
    obtain ⟨a0, a1, a2, -⟩ := bx3 E5.out.bp
    obtain ⟨z1, ht, H⟩ := Option.bind_eq_some_iff.mp H
    obtain ⟨htb, rfl⟩ := tkG_is ht
    have HT := aM htb
    have H' := aM H
    clear ht htb H
    go_wp2_with (first | (go_at_call 47; (with_reducible refine (rd_next _ gx p x _ E5.out.cm.rx (cmB_x _ _ _ _)).mono ?_); rintro e w6 ⟨rfl, h6, hk6⟩; have C6 := aM (E5.out.cm.stepX h6 hk6); clear h6 hk6) | (go_at_call 46; (with_reducible refine (Mk.maker_takeK w.heap.size gm v s.1 s.2.1 s.2.2 p.f0 p.f1 p.f2 w _ C6.out.hmk C6.out.gm0 HT.out.1 HT.out.2.1 HT.out.2.2).mono ?_); rintro e w8 ⟨rfl, v8, h8, hk8, hv8⟩; have C7 := aM (Cm.take (z := takeP s (toP p)) C6.out h8 hk8 hv8); clear h8 hk8 hv8))
    go_roundg m1
    case measure => omega
    case rel => exact ⟨x, y, takeP s (toP p), v8, H', ⟨by have := HN.out.1; simp only [List.length_cons] at this; omega, HN.out.2⟩, C7⟩
   cases y with
   | nil => rw [cmpI, if_pos hd] at H; cases H
   | cons q y =>
    rw [cmpI, if_pos hd] at H
    have dB0 : (p.f2.toList == ([] : List UInt8)) = true := beq_iff_eq.mpr hd
    have dB1 : (p.f2.toList != ([] : List UInt8)) = false := bne_eq_false_iff_eq.mpr hd
    have dB2 : p.f2.toList.isEmpty = true := List.isEmpty_iff.mpr hd
    clear hd
    by_cases hq : q.f1.toList = ([] : List UInt8)
    rotate_left
    ·rw [if_neg hq] at H
     have eB0 : (q.f1.toList == ([] : List UInt8)) = false := beq_eq_false_iff_ne.mpr hq
     have eB1 : (q.f1.toList != ([] : List UInt8)) = true := bne_iff_ne.mpr hq
     have eB2 : q.f1.toList.isEmpty = false := List.isEmpty_eq_false_iff.mpr hq
     clear hq
     obtain ⟨Ax, cx, c0⟩ := C0.out.rx.cell
     rw [List.length_cons] at c0
     have c0d : decide (((x.length + 1 : Nat) : Int) > 0) = true := decide_eq_true (by omega)
     have c0e : ((0 : Int) < (x.length : Int) + 1) = True := eq_true (by omega)
     have c0f : (0 < x.length + 1) = True := eq_true (by omega)
     go_upto_region 11 with (first | (go_at_call 45; (with_reducible refine (rd_head _ gx (p :: x) _ C0.out.rx).mono ?_); rintro e w1 ⟨rfl, hb⟩; have C1 := aM (C0.out.below hb); clear hb) | (go_at_call 45; (with_reducible refine (rd_head _ gy (q :: y) _ C1.out.ry).mono ?_); rintro e w1 ⟨rfl, hb⟩; have C2 := aM (C1.out.below hb); clear hb) | ((with_reducible refine gate_dst (N := 13) rfl ?_); refine box_event rfl (N := 13) rfl (cs := #[.int .i64 0, .string ⟨#[]⟩, .string ⟨#[]⟩]) (t := 60) aP38 ?_; intro gp hg_ w3 hbox hb; have C3 := aM (C2.out.below hb); have BP := aM hbox; have GP := aM hg_; have B3 := aM hb; clear hbox hb hg_) | ((with_reducible refine gate_dst (N := 14) rfl ?_); refine box_event rfl (N := 14) rfl (cs := #[.int .i64 0, .string ⟨#[]⟩, .string ⟨#[]⟩]) (t := 60) aP38 ?_; intro gq hg_ w4 hbox hb; have BP4 := aM (blk_below BP.out hb); have BQ := aM hbox; have GQ := aM hg_; have B4 := aM hb; have n1 : gp ≠ gq := (by rw [hg_]; exact Nat.ne_of_lt (blk_lt BP.out)); have n2 : gq ≠ gp := n1.symm; obtain ⟨y0, y1, y2, f0, f1, f2⟩ := bx3 BP4.out; obtain ⟨z0, z1, z2, e0, e1, e2⟩ := bx3 hbox; clear hbox hb hg_))
     have K4 := aM (kept_put3 (kept_put3 ((KeptB.of_below B3.out (fun _ => False)).then_ (KeptB.of_below B4.out (fun _ => False)) (fun _ q => q.elim)) (g := gp) (.inr (Nat.le_of_eq GP.out.symm)) (hdP (p :: x))) (g := gq) (.inr (by rw [GQ.out]; exact B3.out.size)) (hdP (q :: y)))
     have E5 := aM (CmE.of C2.out K4.out GP.out (show _ ≤ gq by rw [GQ.out]; exact B3.out.size) (put3_far (put3_is (q := zP) BP4.out (hdP (p :: x))) n1 (hdP (q :: y))) (put3_is (q := zP) (put3_far BQ.out n2 (hdP (p :: x))) (hdP (q :: y))) n1)
     clear y0 y1 y2 f0 f1 f2 z0 z1 z2 e0 e1 e2 n1 n2 BP BP4 BQ GP GQ B3 B4 C1 C2 C3 K4 c0 c0d c0e c0f
     simp only [put3] at E5
     generalize ((((((w4).setCell ⟨gp, 0, none⟩ (.int .i64 (hdP (p :: x)).f0)).setCell ⟨gp, 1, none⟩ (.string (hdP (p :: x)).f1)).setCell ⟨gp, 2, none⟩ (.string (hdP (p :: x)).f2)).setCell ⟨gq, 0, none⟩ (.int .i64 (hdP (q :: y)).f0)).setCell ⟨gq, 1, none⟩ (.string (hdP (q :: y)).f1)).setCell ⟨gq, 2, none⟩ (.string (hdP (q :: y)).f2) = v5 at E5 ⊢
     replace E5 := aM (show CmE w v5 gx gy gm gp gq (p :: x) (q :: y) s v p q from E5.out)
     obtain ⟨a0, a1, a2, -⟩ := bx3 E5.out.bp
     obtain ⟨b0, b1, b2, -⟩ := bx3 E5.out.bq
     obtain ⟨z1, ht, H⟩ := Option.bind_eq_some_iff.mp H
     obtain ⟨htb, rfl⟩ := tkG_is ht
     have HT := aM htb
     have H' := aM H
     clear ht htb H
     go_wp2_with (first | (go_at_call 47; (with_reducible refine (rd_next _ gy q y _ E5.out.cm.ry (cmB_y _ _ _ _)).mono ?_); rintro e w6 ⟨rfl, h6, hk6⟩; have C6 := aM (E5.out.cm.stepY h6 hk6); clear h6 hk6) | (go_at_call 46; (with_reducible refine (Mk.maker_takeK w.heap.size gm v s.1 s.2.1 s.2.2 q.f0 q.f1 q.f2 w _ C6.out.hmk C6.out.gm0 HT.out.1 HT.out.2.1 HT.out.2.2).mono ?_); rintro e w8 ⟨rfl, v8, h8, hk8, hv8⟩; have C7 := aM (Cm.take (z := takeP s (toP q)) C6.out h8 hk8 hv8); clear h8 hk8 hv8))
     go_roundg m1
     case measure => omega
     case rel => exact ⟨(p :: x), y, takeP s (toP q), v8, H', ⟨HN.out.1, by have := HN.out.2; simp only [List.length_cons] at this; omega⟩, C7⟩
    rw [if_pos hq] at H
    have eB0 : (q.f1.toList == ([] : List UInt8)) = true := beq_iff_eq.mpr hq
    have eB1 : (q.f1.toList != ([] : List UInt8)) = false := bne_eq_false_iff_eq.mpr hq
    have eB2 : q.f1.toList.isEmpty = true := List.isEmpty_iff.mpr hq
    clear hq
    obtain ⟨Ax, cx, c0⟩ := C0.out.rx.cell
    rw [List.length_cons] at c0
    have c0d : decide (((x.length + 1 : Nat) : Int) > 0) = true := decide_eq_true (by omega)
    have c0e : ((0 : Int) < (x.length : Int) + 1) = True := eq_true (by omega)
    have c0f : (0 < x.length + 1) = True := eq_true (by omega)
    go_upto_region 11 with (first | (go_at_call 45; (with_reducible refine (rd_head _ gx (p :: x) _ C0.out.rx).mono ?_); rintro e w1 ⟨rfl, hb⟩; have C1 := aM (C0.out.below hb); clear hb) | (go_at_call 45; (with_reducible refine (rd_head _ gy (q :: y) _ C1.out.ry).mono ?_); rintro e w1 ⟨rfl, hb⟩; have C2 := aM (C1.out.below hb); clear hb) | ((with_reducible refine gate_dst (N := 13) rfl ?_); refine box_event rfl (N := 13) rfl (cs := #[.int .i64 0, .string ⟨#[]⟩, .string ⟨#[]⟩]) (t := 60) aP38 ?_; intro gp hg_ w3 hbox hb; have C3 := aM (C2.out.below hb); have BP := aM hbox; have GP := aM hg_; have B3 := aM hb; clear hbox hb hg_) | ((with_reducible refine gate_dst (N := 14) rfl ?_); refine box_event rfl (N := 14) rfl (cs := #[.int .i64 0, .string ⟨#[]⟩, .string ⟨#[]⟩]) (t := 60) aP38 ?_; intro gq hg_ w4 hbox hb; have BP4 := aM (blk_below BP.out hb); have BQ := aM hbox; have GQ := aM hg_; have B4 := aM hb; have n1 : gp ≠ gq := (by rw [hg_]; exact Nat.ne_of_lt (blk_lt BP.out)); have n2 : gq ≠ gp := n1.symm; obtain ⟨y0, y1, y2, f0, f1, f2⟩ := bx3 BP4.out; obtain ⟨z0, z1, z2, e0, e1, e2⟩ := bx3 hbox; clear hbox hb hg_))
    have K4 := aM (kept_put3 (kept_put3 ((KeptB.of_below B3.out (fun _ => False)).then_ (KeptB.of_below B4.out (fun _ => False)) (fun _ q => q.elim)) (g := gp) (.inr (Nat.le_of_eq GP.out.symm)) (hdP (p :: x))) (g := gq) (.inr (by rw [GQ.out]; exact B3.out.size)) (hdP (q :: y)))
    have E5 := aM (CmE.of C2.out K4.out GP.out (show _ ≤ gq by rw [GQ.out]; exact B3.out.size) (put3_far (put3_is (q := zP) BP4.out (hdP (p :: x))) n1 (hdP (q :: y))) (put3_is (q := zP) (put3_far BQ.out n2 (hdP (p :: x))) (hdP (q :: y))) n1)
    clear y0 y1 y2 f0 f1 f2 z0 z1 z2 e0 e1 e2 n1 n2 BP BP4 BQ GP GQ B3 B4 C1 C2 C3 K4 c0 c0d c0e c0f
    simp only [put3] at E5
    generalize ((((((w4).setCell ⟨gp, 0, none⟩ (.int .i64 (hdP (p :: x)).f0)).setCell ⟨gp, 1, none⟩ (.string (hdP (p :: x)).f1)).setCell ⟨gp, 2, none⟩ (.string (hdP (p :: x)).f2)).setCell ⟨gq, 0, none⟩ (.int .i64 (hdP (q :: y)).f0)).setCell ⟨gq, 1, none⟩ (.string (hdP (q :: y)).f1)).setCell ⟨gq, 2, none⟩ (.string (hdP (q :: y)).f2) = v5 at E5 ⊢
    replace E5 := aM (show CmE w v5 gx gy gm gp gq (p :: x) (q :: y) s v p q from E5.out)
    obtain ⟨aa0, aa1, aa2, -⟩ := bx3 E5.out.bp
    obtain ⟨bb0, bb1, bb2, -⟩ := bx3 E5.out.bq
    go_upto_region 15 with fail
    clear aa0 aa1 aa2 bb0 bb1 bb2 dB0 dB1 dB2 eB0 eB1 eB2
    by_cases hn : szI q < szI p
    ·skip
     rw [if_pos hn] at H
     have n0 : decide (szI q < szI p) = true := decide_eq_true hn
     have n1 : (szI q < szI p) = True := eq_true hn
     clear hn
     obtain ⟨⟨a1, a2⟩, hs, H2⟩ := Option.bind_eq_some_iff.mp H
     clear H
     dsimp only at H2
     obtain ⟨⟨b1, b2⟩, ht, H⟩ := Option.bind_eq_some_iff.mp H2
     dsimp only at H
     have HS := aM hs
     have HQ := aM ht
     clear hs ht H2
     refine start_ (n := 6) (S := fun w' => w'.cell? ⟨gp, 0, none⟩ = some (.int .i64 p.f0) ∧ w'.cell? ⟨gp, 1, none⟩ = some (.string p.f1) ∧ w'.cell? ⟨gp, 2, none⟩ = some (.string p.f2) ∧ w'.cell? ⟨gq, 0, none⟩ = some (.int .i64 q.f0) ∧ w'.cell? ⟨gq, 1, none⟩ = some (.string q.f1) ∧ w'.cell? ⟨gq, 2, none⟩ = some (.string q.f2)) (ds := []) (Array.replicate 6 false) (by kernel_rfl) rfl rfl ⟨(blk_cell (blk_drew E5.out.bp) 0).trans rfl, (blk_cell (blk_drew E5.out.bp) 1).trans rfl, (blk_cell (blk_drew E5.out.bp) 2).trans rfl, (blk_cell (blk_drew E5.out.bq) 0).trans rfl, (blk_cell (blk_drew E5.out.bq) 1).trans rfl, (blk_cell (blk_drew E5.out.bq) 2).trans rfl⟩ (fun hHeld => ?_)
     refine tW6 0 67 (bN 6 1) ?_
     refine tW6 2 69 (bN 6 5) ?_
     refine one_ (i := 1) (N := some 68) (bN 6 7) rfl rfl (by kernel_rfl) (by decide) (fun K hK => ?_)
     refine goes_ Try.func49 (by kernel_rfl) rfl #[.agg #[.int .i64 p.f0, .string p.f1, .string p.f2]] (by rfl) rfl rfl (by simp only [List.map_toArray, List.map_cons, List.map_nil]; rfl) ?_
     with_reducible refine (yP.calls p.f0 p.f1 p.f2 (szI p) _ rfl).mono ?_
     rintro e w6 ⟨rfl, hb6⟩
     refine ⟨_, rfl, ?_⟩
     have E6 := aM ((E5.out.below (below_drew (Below.refl _ _))).below hb6)
     clear hb6
     refine hK.out _ _ ⟨(blk_cell E6.out.bp 0).trans rfl, (blk_cell E6.out.bp 1).trans rfl, (blk_cell E6.out.bp 2).trans rfl, (blk_cell E6.out.bq 0).trans rfl, (blk_cell E6.out.bq 1).trans rfl, (blk_cell E6.out.bq 2).trans rfl⟩ (fun hHeld => ?_)
     clear hK K
     refine norm_ (a' := ?_) ?_ ?_
     rotate_left
     ·show Act.put _ (some 68) _ = _
      simp only [Act.put, List.setIfInBounds_toArray, List.set_cons_zero, List.set_cons_succ, i64_w, i32_w]
      rfl
     refine one_ (i := 3) (N := some 70) (bN 6 15) rfl rfl (by kernel_rfl) (by decide) (fun K hK => ?_)
     refine goes_ Try.func49 (by kernel_rfl) rfl #[.agg #[.int .i64 q.f0, .string q.f1, .string q.f2]] (by rfl) rfl rfl (by simp only [List.map_toArray, List.map_cons, List.map_nil]; rfl) ?_
     with_reducible refine (yP.calls q.f0 q.f1 q.f2 (szI q) _ rfl).mono ?_
     rintro e w7 ⟨rfl, hb7⟩
     refine ⟨_, rfl, ?_⟩
     have E7 := aM (E6.out.below hb7)
     clear hb7
     refine hK.out _ _ ⟨(blk_cell E7.out.bp 0).trans rfl, (blk_cell E7.out.bp 1).trans rfl, (blk_cell E7.out.bp 2).trans rfl, (blk_cell E7.out.bq 0).trans rfl, (blk_cell E7.out.bq 1).trans rfl, (blk_cell E7.out.bq 2).trans rfl⟩ (fun hHeld => ?_)
     clear hK K
     refine norm_ (a' := ?_) ?_ ?_
     rotate_left
     ·show Act.put _ (some 70) _ = _
      simp only [Act.put, List.setIfInBounds_toArray, List.set_cons_zero, List.set_cons_succ, i64_w, i32_w]
      rfl
     refine pW 4 71 (bN 6 31) ?_
     refine pW 5 15 (bN 6 63) ?_
     refine done_ (by kernel_rfl) ?_
     clear n0 n1 E5 E6
     go_upto_region 17 with (first | (go_at_call 50; (with_reducible refine (rd_cut _ gx p x _ (szI q) a1 a2 E7.out.rx (cmE_x _ _ _ _ _ _) E7.out.lt (by have := HN.out.1; simp only [List.length_cons] at this; omega) HS.out).mono ?_); rintro e w8 ⟨rfl, h8, hk8⟩; have E8 := aM (E7.out.stepX h8 hk8); clear h8 hk8) | (go_at_call 50; (with_reducible refine (rd_cut _ gy q y _ (szI q) b1 b2 E8.out.ry (cmE_y _ _ _ _ _ _) E8.out.lt (by have := HN.out.2; simp only [List.length_cons] at this; omega) HQ.out).mono ?_); rintro e w9 ⟨rfl, h8, hk8⟩; have E9 := aM (E8.out.stepY h8 hk8); clear h8 hk8; obtain ⟨aa0, aa1, aa2, -⟩ := bx3 E9.out.bp; have bb0 := (blk_cell E9.out.bq 0).trans (show _ = some (Value.int .i64 q.f0) from rfl); have bb1 := (blk_cell E9.out.bq 1).trans (show _ = some (Value.string q.f1) from rfl); have bb2 := (blk_cell E9.out.bq 2).trans (show _ = some (Value.string q.f2) from rfl); have f0 := blk_frozen E9.out.bp 0; have f1 := blk_frozen E9.out.bp 1; have f2 := blk_frozen E9.out.bp 2; have g0 := blk_frozen E9.out.bq 0; have g1 := blk_frozen E9.out.bq 1; have g2 := blk_frozen E9.out.bq 2; have m1 := E9.out.npq; have m2 := m1.symm))
     clear aa0 aa1 aa2 bb0 bb1 bb2 f0 f1 f2 g0 g1 g2 m1 m2
     have EA := aM (E9.out.put a1 b1)
     clear E7 E8 E9
     simp only [put3] at EA
     generalize ((((((w9).setCell ⟨gp, 0, none⟩ (.int .i64 a1.f0)).setCell ⟨gp, 1, none⟩ (.string a1.f1)).setCell ⟨gp, 2, none⟩ (.string a1.f2)).setCell ⟨gq, 0, none⟩ (.int .i64 b1.f0)).setCell ⟨gq, 1, none⟩ (.string b1.f1)).setCell ⟨gq, 2, none⟩ (.string b1.f2) = vA at EA ⊢
     obtain ⟨aa0, aa1, aa2, -⟩ := bx3 EA.out.bp
     obtain ⟨bb0, bb1, bb2, -⟩ := bx3 EA.out.bq
     have CA := aM EA.out.cm
     clear EA
     by_cases hk : 0 < b1.f0
     ·rw [if_pos hk] at H
      have k0 : decide (b1.f0 > 0) = true := decide_eq_true hk
      have k1 : (b1.f0 > 0) = True := eq_true hk
      clear hk
      obtain ⟨z1, ht, H⟩ := Option.bind_eq_some_iff.mp H
      obtain ⟨htb, rfl⟩ := tkG_is ht
      have HT := aM htb
      have H' := aM H
      clear ht htb H
      go_wp2_with (go_at_call 46; (with_reducible refine (Mk.maker_takeK w.heap.size gm v s.1 s.2.1 s.2.2 a1.f0 a1.f1 a1.f2 w _ CA.out.hmk CA.out.gm0 HT.out.1 HT.out.2.1 HT.out.2.2).mono ?_); rintro e w8 ⟨rfl, v8, h8, hk8, hv8⟩; have CB := aM (Cm.take (z := takeP s (toP a1)) CA.out h8 hk8 hv8); clear h8 hk8 hv8)
      go_roundg m1
      case measure => omega
      case rel => exact ⟨(restP a2 x), (restP b2 y), takeP s (toP a1), v8, H', ⟨Nat.le_trans (restP_len a2 x) (by have := HN.out.1; simpa using this), Nat.le_trans (restP_len b2 y) (by have := HN.out.2; simpa using this)⟩, CB⟩
     rw [if_neg hk] at H
     have k0 : decide (b1.f0 > 0) = false := decide_eq_false hk
     have k1 : (b1.f0 > 0) = False := eq_false hk
     clear hk
     by_cases hq : 0 < a1.f0
     ·rw [if_pos hq] at H
      have q0 : decide (a1.f0 > 0) = true := decide_eq_true hq
      have q1 : (a1.f0 > 0) = True := eq_true hq
      clear hq
      obtain ⟨z1, ht, H⟩ := Option.bind_eq_some_iff.mp H
      obtain ⟨htb, rfl⟩ := tkG_is ht
      have HT := aM htb
      have H' := aM H
      clear ht htb H
      go_wp2_with (go_at_call 46; (with_reducible refine (Mk.maker_takeK w.heap.size gm v s.1 s.2.1 s.2.2 b1.f0 b1.f1 b1.f2 w _ CA.out.hmk CA.out.gm0 HT.out.1 HT.out.2.1 HT.out.2.2).mono ?_); rintro e w8 ⟨rfl, v8, h8, hk8, hv8⟩; have CB := aM (Cm.take (z := takeP s (toP b1)) CA.out h8 hk8 hv8); clear h8 hk8 hv8)
      go_roundg m1
      case measure => omega
      case rel => exact ⟨(restP a2 x), (restP b2 y), takeP s (toP b1), v8, H', ⟨Nat.le_trans (restP_len a2 x) (by have := HN.out.1; simpa using this), Nat.le_trans (restP_len b2 y) (by have := HN.out.2; simpa using this)⟩, CB⟩
     rw [if_neg hq] at H
     have q0 : decide (a1.f0 > 0) = false := decide_eq_false hq
     have q1 : (a1.f0 > 0) = False := eq_false hq
     clear hq
     by_cases he : a1.f1 = b1.f2
     rotate_left
     ·rw [if_neg he] at H
      obtain rfl := Option.some.inj H
      obtain ⟨rfl, rfl⟩ := HZ0.out rfl
      have e2 : (a1.f1.toList == b1.f2.toList) = false := beq_eq_false_iff_ne.mpr (fun z => he (ba_injI z))
      have e3 : (a1.f1.toList != b1.f2.toList) = true := bne_iff_ne.mpr (fun z => he (ba_injI z))
      clear he H
      go_wp2_with fail
      go_ret2
      exact ⟨_, rfl, Kd.R_nil _ _ _ _ _, CA.out.hmk.bel⟩
     rw [if_pos he] at H
     have H' := aM H
     have e2 : (a1.f1.toList == b1.f2.toList) = true := by rw [he]; exact beq_iff_eq.mpr rfl
     have e3 : (a1.f1.toList != b1.f2.toList) = false := by rw [he]; exact bne_eq_false_iff_eq.mpr rfl
     clear he H
     go_wp2_with fail
     go_roundg m1
     case measure => omega
     case rel => exact ⟨(restP a2 x), (restP b2 y), s, v, H', ⟨Nat.le_trans (restP_len a2 x) (by have := HN.out.1; simpa using this), Nat.le_trans (restP_len b2 y) (by have := HN.out.2; simpa using this)⟩, CA⟩
    skip
    rw [if_neg hn] at H
    have n0 : decide (szI q < szI p) = false := decide_eq_false hn
    have n1 : (szI q < szI p) = False := eq_false hn
    clear hn
    obtain ⟨⟨a1, a2⟩, hs, H2⟩ := Option.bind_eq_some_iff.mp H
    clear H
    dsimp only at H2
    obtain ⟨⟨b1, b2⟩, ht, H⟩ := Option.bind_eq_some_iff.mp H2
    dsimp only at H
    have HS := aM hs
    have HQ := aM ht
    clear hs ht H2
    refine start_ (n := 6) (S := fun w' => w'.cell? ⟨gp, 0, none⟩ = some (.int .i64 p.f0) ∧ w'.cell? ⟨gp, 1, none⟩ = some (.string p.f1) ∧ w'.cell? ⟨gp, 2, none⟩ = some (.string p.f2) ∧ w'.cell? ⟨gq, 0, none⟩ = some (.int .i64 q.f0) ∧ w'.cell? ⟨gq, 1, none⟩ = some (.string q.f1) ∧ w'.cell? ⟨gq, 2, none⟩ = some (.string q.f2)) (ds := []) (Array.replicate 6 false) (by kernel_rfl) rfl rfl ⟨(blk_cell (blk_drew E5.out.bp) 0).trans rfl, (blk_cell (blk_drew E5.out.bp) 1).trans rfl, (blk_cell (blk_drew E5.out.bp) 2).trans rfl, (blk_cell (blk_drew E5.out.bq) 0).trans rfl, (blk_cell (blk_drew E5.out.bq) 1).trans rfl, (blk_cell (blk_drew E5.out.bq) 2).trans rfl⟩ (fun hHeld => ?_)
    refine tW6 0 67 (bN 6 1) ?_
    refine tW6 2 69 (bN 6 5) ?_
    refine one_ (i := 1) (N := some 68) (bN 6 7) rfl rfl (by kernel_rfl) (by decide) (fun K hK => ?_)
    refine goes_ Try.func49 (by kernel_rfl) rfl #[.agg #[.int .i64 p.f0, .string p.f1, .string p.f2]] (by rfl) rfl rfl (by simp only [List.map_toArray, List.map_cons, List.map_nil]; rfl) ?_
    with_reducible refine (yP.calls p.f0 p.f1 p.f2 (szI p) _ rfl).mono ?_
    rintro e w6 ⟨rfl, hb6⟩
    refine ⟨_, rfl, ?_⟩
    have E6 := aM ((E5.out.below (below_drew (Below.refl _ _))).below hb6)
    clear hb6
    refine hK.out _ _ ⟨(blk_cell E6.out.bp 0).trans rfl, (blk_cell E6.out.bp 1).trans rfl, (blk_cell E6.out.bp 2).trans rfl, (blk_cell E6.out.bq 0).trans rfl, (blk_cell E6.out.bq 1).trans rfl, (blk_cell E6.out.bq 2).trans rfl⟩ (fun hHeld => ?_)
    clear hK K
    refine norm_ (a' := ?_) ?_ ?_
    rotate_left
    ·show Act.put _ (some 68) _ = _
     simp only [Act.put, List.setIfInBounds_toArray, List.set_cons_zero, List.set_cons_succ, i64_w, i32_w]
     rfl
    refine one_ (i := 3) (N := some 70) (bN 6 15) rfl rfl (by kernel_rfl) (by decide) (fun K hK => ?_)
    refine goes_ Try.func49 (by kernel_rfl) rfl #[.agg #[.int .i64 q.f0, .string q.f1, .string q.f2]] (by rfl) rfl rfl (by simp only [List.map_toArray, List.map_cons, List.map_nil]; rfl) ?_
    with_reducible refine (yP.calls q.f0 q.f1 q.f2 (szI q) _ rfl).mono ?_
    rintro e w7 ⟨rfl, hb7⟩
    refine ⟨_, rfl, ?_⟩
    have E7 := aM (E6.out.below hb7)
    clear hb7
    refine hK.out _ _ ⟨(blk_cell E7.out.bp 0).trans rfl, (blk_cell E7.out.bp 1).trans rfl, (blk_cell E7.out.bp 2).trans rfl, (blk_cell E7.out.bq 0).trans rfl, (blk_cell E7.out.bq 1).trans rfl, (blk_cell E7.out.bq 2).trans rfl⟩ (fun hHeld => ?_)
    clear hK K
    refine norm_ (a' := ?_) ?_ ?_
    rotate_left
    ·show Act.put _ (some 70) _ = _
     simp only [Act.put, List.setIfInBounds_toArray, List.set_cons_zero, List.set_cons_succ, i64_w, i32_w]
     rfl
    refine pW 4 71 (bN 6 31) ?_
    refine pW 5 15 (bN 6 63) ?_
    refine done_ (by kernel_rfl) ?_
    clear n0 n1 E5 E6
    go_upto_region 17 with (first | (go_at_call 50; (with_reducible refine (rd_cut _ gx p x _ (szI p) a1 a2 E7.out.rx (cmE_x _ _ _ _ _ _) E7.out.lt (by have := HN.out.1; simp only [List.length_cons] at this; omega) HS.out).mono ?_); rintro e w8 ⟨rfl, h8, hk8⟩; have E8 := aM (E7.out.stepX h8 hk8); clear h8 hk8) | (go_at_call 50; (with_reducible refine (rd_cut _ gy q y _ (szI p) b1 b2 E8.out.ry (cmE_y _ _ _ _ _ _) E8.out.lt (by have := HN.out.2; simp only [List.length_cons] at this; omega) HQ.out).mono ?_); rintro e w9 ⟨rfl, h8, hk8⟩; have E9 := aM (E8.out.stepY h8 hk8); clear h8 hk8; obtain ⟨aa0, aa1, aa2, -⟩ := bx3 E9.out.bp; have bb0 := (blk_cell E9.out.bq 0).trans (show _ = some (Value.int .i64 q.f0) from rfl); have bb1 := (blk_cell E9.out.bq 1).trans (show _ = some (Value.string q.f1) from rfl); have bb2 := (blk_cell E9.out.bq 2).trans (show _ = some (Value.string q.f2) from rfl); have f0 := blk_frozen E9.out.bp 0; have f1 := blk_frozen E9.out.bp 1; have f2 := blk_frozen E9.out.bp 2; have g0 := blk_frozen E9.out.bq 0; have g1 := blk_frozen E9.out.bq 1; have g2 := blk_frozen E9.out.bq 2; have m1 := E9.out.npq; have m2 := m1.symm))
    clear aa0 aa1 aa2 bb0 bb1 bb2 f0 f1 f2 g0 g1 g2 m1 m2
    have EA := aM (E9.out.put a1 b1)
    clear E7 E8 E9
    simp only [put3] at EA
    generalize ((((((w9).setCell ⟨gp, 0, none⟩ (.int .i64 a1.f0)).setCell ⟨gp, 1, none⟩ (.string a1.f1)).setCell ⟨gp, 2, none⟩ (.string a1.f2)).setCell ⟨gq, 0, none⟩ (.int .i64 b1.f0)).setCell ⟨gq, 1, none⟩ (.string b1.f1)).setCell ⟨gq, 2, none⟩ (.string b1.f2) = vA at EA ⊢
    obtain ⟨aa0, aa1, aa2, -⟩ := bx3 EA.out.bp
    obtain ⟨bb0, bb1, bb2, -⟩ := bx3 EA.out.bq
    have CA := aM EA.out.cm
    clear EA
    by_cases hk : 0 < b1.f0
    ·rw [if_pos hk] at H
     have k0 : decide (b1.f0 > 0) = true := decide_eq_true hk
     have k1 : (b1.f0 > 0) = True := eq_true hk
     clear hk
     obtain ⟨z1, ht, H⟩ := Option.bind_eq_some_iff.mp H
     obtain ⟨htb, rfl⟩ := tkG_is ht
     have HT := aM htb
     have H' := aM H
     clear ht htb H
     go_wp2_with (go_at_call 46; (with_reducible refine (Mk.maker_takeK w.heap.size gm v s.1 s.2.1 s.2.2 a1.f0 a1.f1 a1.f2 w _ CA.out.hmk CA.out.gm0 HT.out.1 HT.out.2.1 HT.out.2.2).mono ?_); rintro e w8 ⟨rfl, v8, h8, hk8, hv8⟩; have CB := aM (Cm.take (z := takeP s (toP a1)) CA.out h8 hk8 hv8); clear h8 hk8 hv8)
     go_roundg m1
     case measure => omega
     case rel => exact ⟨(restP a2 x), (restP b2 y), takeP s (toP a1), v8, H', ⟨Nat.le_trans (restP_len a2 x) (by have := HN.out.1; simpa using this), Nat.le_trans (restP_len b2 y) (by have := HN.out.2; simpa using this)⟩, CB⟩
    rw [if_neg hk] at H
    have k0 : decide (b1.f0 > 0) = false := decide_eq_false hk
    have k1 : (b1.f0 > 0) = False := eq_false hk
    clear hk
    by_cases hq : 0 < a1.f0
    ·rw [if_pos hq] at H
     have q0 : decide (a1.f0 > 0) = true := decide_eq_true hq
     have q1 : (a1.f0 > 0) = True := eq_true hq
     clear hq
     obtain ⟨z1, ht, H⟩ := Option.bind_eq_some_iff.mp H
     obtain ⟨htb, rfl⟩ := tkG_is ht
     have HT := aM htb
     have H' := aM H
     clear ht htb H
     go_wp2_with (go_at_call 46; (with_reducible refine (Mk.maker_takeK w.heap.size gm v s.1 s.2.1 s.2.2 b1.f0 b1.f1 b1.f2 w _ CA.out.hmk CA.out.gm0 HT.out.1 HT.out.2.1 HT.out.2.2).mono ?_); rintro e w8 ⟨rfl, v8, h8, hk8, hv8⟩; have CB := aM (Cm.take (z := takeP s (toP b1)) CA.out h8 hk8 hv8); clear h8 hk8 hv8)
     go_roundg m1
     case measure => omega
     case rel => exact ⟨(restP a2 x), (restP b2 y), takeP s (toP b1), v8, H', ⟨Nat.le_trans (restP_len a2 x) (by have := HN.out.1; simpa using this), Nat.le_trans (restP_len b2 y) (by have := HN.out.2; simpa using this)⟩, CB⟩
    rw [if_neg hq] at H
    have q0 : decide (a1.f0 > 0) = false := decide_eq_false hq
    have q1 : (a1.f0 > 0) = False := eq_false hq
    clear hq
    by_cases he : a1.f1 = b1.f2
    rotate_left
    ·rw [if_neg he] at H
     obtain rfl := Option.some.inj H
     obtain ⟨rfl, rfl⟩ := HZ0.out rfl
     have e2 : (a1.f1.toList == b1.f2.toList) = false := beq_eq_false_iff_ne.mpr (fun z => he (ba_injI z))
     have e3 : (a1.f1.toList != b1.f2.toList) = true := bne_iff_ne.mpr (fun z => he (ba_injI z))
     clear he H
     go_wp2_with fail
     go_ret2
     exact ⟨_, rfl, Kd.R_nil _ _ _ _ _, CA.out.hmk.bel⟩
    rw [if_pos he] at H
    have H' := aM H
    have e2 : (a1.f1.toList == b1.f2.toList) = true := by rw [he]; exact beq_iff_eq.mpr rfl
    have e3 : (a1.f1.toList != b1.f2.toList) = false := by rw [he]; exact bne_eq_false_iff_eq.mpr rfl
    clear he H
    go_wp2_with fail
    go_roundg m1
    case measure => omega
    case rel => exact ⟨(restP a2 x), (restP b2 y), s, v, H', ⟨Nat.le_trans (restP_len a2 x) (by have := HN.out.1; simpa using this), Nat.le_trans (restP_len b2 y) (by have := HN.out.2; simpa using this)⟩, CA⟩
def icEnd (k : Nat) : Option (List Mk.Pt × ByteArray × ByteArray) → Option (List S60 × Bool)
 | none => some ([], false)
 | some s => if s.1.length ≤ 1000 then yG.f k ((s.1 ++ Mk.endL s.2.1 s.2.2).map ofP) else none
def yF.f (k : Nat) (l0 l1 : List S60) : Option (List S60 × Bool) :=
 (jU.f k l0).bind fun g0 => if g0 = true then (jU.f k l1).bind fun g1 => if g1 = true then (jW.f k l0).bind fun n0 => (jW.f k l1).bind fun n1 => if n1.1 = n0.2 then (if l0.length ≤ 1000 ∧ l1.length ≤ 1000 then (cmpI k ([], ⟨#[]⟩, ⟨#[]⟩) l0 l1).bind fun o => icEnd k o else none) else some ([], false) else some ([], false) else some ([], false)
theorem icEnd_mono (k : Nat) (o : Option (List Mk.Pt × ByteArray × ByteArray)) : LeO (icEnd k o) (icEnd (k + 1) o) := by
 cases o with
 | none => exact LeO.refl _
 | some s => exact LeO.ite (yG.mono _ _) (LeO.refl _)
theorem yF.mono : ∀ a0 a1 k, LeO (yF.f k a0 a1) (yF.f (k + 1) a0 a1) := by
 intro a0 a1 k
 unfold yF.f
 exact LeO.bind (jU.mono _ _) (fun _ => LeO.ite (LeO.bind (jU.mono _ _) (fun _ => LeO.ite (LeO.bind (jW.mono _ _) (fun _ => LeO.bind (jW.mono _ _) (fun _ => LeO.ite (LeO.ite (LeO.bind (cmpI_mono _ _ _ _) (fun _ => icEnd_mono _ _)) (LeO.refl _)) (LeO.refl _)))) (LeO.refl _))) (LeO.refl _))
theorem yF.calls (k : Nat) (A0 : Option Addr) (c0 : Nat) (l0 : List S60) (A1 : Option Addr) (c1 : Nat) (l1 : List S60) (r1 : List S60) (r2 : Bool) (w : World) (hr0 : Kd.C k60 w A0 l0.length l0) (hc0 : l0.length ≤ c0) (hr1 : Kd.C k60 w A1 l1.length l1) (hc1 : l1.length ≤ c1) (h : yF.f k l0 l1 = some (r1, r2)) :
  Calls Try.prog 28 #[.slice A0 l0.length c0, .slice A1 l1.length c1] w fun e w' => ∃ v0_ : Value, e = .returned (.tuple #[v0_, .bool r2]) ∧ Kd.R k60 60 w' w.heap.size (fun _ => True) v0_ r1 ∧ Below w.heap.size w w' := by
 unfold yF.f at h
 obtain ⟨g0, hg0, h⟩ := Option.bind_eq_some_iff.mp h
 have HR0 := aM hr0
 have HR1 := aM hr1
 have HC := aM (And.intro hc0 hc1)
 have G0 := aM hg0
 cases g0 with
 | false =>
  rw [if_neg (by simp)] at h
  obtain ⟨rfl, rfl⟩ := Prod.mk.inj (Option.some.inj h)
  clear h hr0 hr1 hc0 hc1 hg0
  go_enter Try.func28, Try.ntmps28
  go_wp2_with (go_at_call 37; (with_reducible refine (jU.calls k A0 c0 l0 false _ (HR0.out) HC.out.1 G0.out).mono ?_); rintro e w1 ⟨rfl, hb⟩; have B1 := aM (hb); clear hb)
  go_ret2
  exact ⟨_, rfl, Kd.R_nil _ _ _ _ _, B1.out⟩
 | true =>
  rw [if_pos rfl] at h
  obtain ⟨g1, hg1, h⟩ := Option.bind_eq_some_iff.mp h
  have G1 := aM hg1
  cases g1 with
  | false =>
   rw [if_neg (by simp)] at h
   obtain ⟨rfl, rfl⟩ := Prod.mk.inj (Option.some.inj h)
   clear h hr0 hr1 hc0 hc1 hg0 hg1
   go_enter Try.func28, Try.ntmps28
   go_wp2_with (first | (go_at_call 37; (with_reducible refine (jU.calls k A0 c0 l0 true _ (HR0.out) HC.out.1 G0.out).mono ?_); rintro e w1 ⟨rfl, hb⟩; have B1 := aM (hb); clear hb) | (go_at_call 37; (with_reducible refine (jU.calls k A1 c1 l1 false _ (Kd.C_below HR1.out B1.out) HC.out.2 G1.out).mono ?_); rintro e w2 ⟨rfl, hb⟩; have B2 := aM (below_step B1.out hb); clear hb))
   go_ret2
   exact ⟨_, rfl, Kd.R_nil _ _ _ _ _, B2.out⟩
  | true =>
   rw [if_pos rfl] at h
   obtain ⟨n0, hs0, h⟩ := Option.bind_eq_some_iff.mp h
   obtain ⟨n1, hs1, h⟩ := Option.bind_eq_some_iff.mp h
   by_cases he : n1.1 = n0.2
   ·rw [if_pos he] at h
    by_cases hl : l0.length ≤ 1000 ∧ l1.length ≤ 1000
    rotate_left
    ·rw [if_neg hl] at h; cases h
    rw [if_pos hl] at h
    obtain ⟨z, hz, h⟩ := Option.bind_eq_some_iff.mp h
    refine icmp_loop k A0 A1 c0 c1 l0 l1 r1 r2 w 0 0 hr0 hc0 hr1 hc1 hl.1 hl.2 z n0 n1 hg0 hg1 hs0 hs1 he hz (fun s e => ?_) (fun e => ?_)
    rotate_left
    ·subst e
     obtain ⟨rfl, rfl⟩ := Prod.mk.inj (Option.some.inj h)
     exact ⟨rfl, rfl⟩
    subst e
    unfold icEnd at h
    dsimp only at h
    by_cases hs : s.1.length ≤ 1000
    rotate_left
    ·rw [if_neg hs] at h; cases h
    rw [if_pos hs] at h; exact ⟨hs, h⟩
   rw [if_neg he] at h
   obtain ⟨rfl, rfl⟩ := Prod.mk.inj (Option.some.inj h)
   obtain ⟨n00, n01⟩ := n0
   obtain ⟨n10, n11⟩ := n1
   have S0 := aM hs0
   have S1 := aM hs1
   dsimp only at he
   have b0 : (n10 == n01) = false := beq_eq_false_iff_ne.mpr he
   have b1 : (n10 != n01) = true := bne_iff_ne.mpr he
   clear h hr0 hr1 hc0 hc1 hg0 hg1 hs0 hs1
   go_enter Try.func28, Try.ntmps28
   go_wp2_with (first | (go_at_call 37; (with_reducible refine (jU.calls k A0 c0 l0 true _ (HR0.out) HC.out.1 G0.out).mono ?_); rintro e w1 ⟨rfl, hb⟩; have B1 := aM (hb); clear hb) | (go_at_call 37; (with_reducible refine (jU.calls k A1 c1 l1 true _ (Kd.C_below HR1.out B1.out) HC.out.2 G1.out).mono ?_); rintro e w2 ⟨rfl, hb⟩; have B2 := aM (below_step B1.out hb); clear hb) | (go_at_call 56; (with_reducible refine (jW.calls k A0 c0 l0 n00 n01 _ (Kd.C_below HR0.out B2.out) HC.out.1 S0.out).mono ?_); rintro e w3 ⟨rfl, hb⟩; have B3 := aM (below_step B2.out hb); clear hb) | (go_at_call 56; (with_reducible refine (jW.calls k A1 c1 l1 n10 n11 _ (Kd.C_below HR1.out B3.out) HC.out.2 S1.out).mono ?_); rintro e w4 ⟨rfl, hb⟩; have B4 := aM (below_step B3.out hb); clear hb))
   go_ret2
   exact ⟨_, rfl, Kd.R_nil _ _ _ _ _, B4.out⟩
end Go.Proofs.Ytoagljlnfakgjaa.PFnDiamond
