/- (thin) Written by a program of this session (wip/ovl.py) over the kit's print: plain functions with the answers of the Go functions, and the proofs that they are; no condition. -/
import Derived.Test.YtlelpomnblaciaaMk
import Derived.Test.YtlelpomnblaciaaWKept
import Derived.Test.YtlelpomnblaciaaPFnComposedx0
import Derived.Test.YtlelpomnblaciaaPFnComposedx1
import Derived.Test.YtlelpomnblaciaaPFnComposedx3
import Derived.Test.YtlelpomnblaciaaPFnComposedx7
import Derived.Test.YtlelpomnblaciaaPFnComposedx8
import Derived.Test.YtlelpomnblaciaaPFnComposedx9
namespace Go.Proofs.Ytlelpomnblaciaa.PFnComposed
open Go.RowKit Go.Proofs.YtlelpomnblaciaaW.PrintWords Go.Proofs.YtlelpomnblaciaaW.PrintLast Go.Proofs.YtlelpomnblaciaaW.PrintMore
attribute [local go_sem] max2_int min2_int max_two min_two max_three min_three max_four min_four   -- for this text's walks alone
set_option linter.unusedVariables false
set_option linter.unusedSimpArgs false
attribute [local go_sem high] eqA53
-- NOT PRINTED: function 69 (impl_maker_made)
-- import Mk
-- import WKept
def cmpI : Nat → List Go.Proofs.Ytlelpomnblaciaa.Mk.Pt × ByteArray × ByteArray → List S53 → List S53 → Option (Option (List Go.Proofs.Ytlelpomnblaciaa.Mk.Pt × ByteArray × ByteArray))
 | 0, _, _, _ => none
 | m + 1, s, [], [] => some (some s)
 | m + 1, s, p :: x, [] => if p.f2.toList = ([] : List UInt8) then none else (tkG s p).bind fun z => cmpI m z x []
 | m + 1, s, [], q :: y => if q.f1.toList = ([] : List UInt8) then none else (tkG s q).bind fun z => cmpI m z [] y
 | m + 1, s, p :: x, q :: y =>
  if p.f2.toList = ([] : List UInt8) then
   (if q.f1.toList = ([] : List UInt8) then
    ((cutP p (if szI q < szI p then szI q else szI p)).bind fun a => (cutP q (if szI q < szI p then szI q else szI p)).bind fun b =>
     if 0 < b.1.f0 then (tkG s a.1).bind fun z => cmpI m z (restP a.2 x) (restP b.2 y)
     else if 0 < a.1.f0 then (tkG s b.1).bind fun z => cmpI m z (restP a.2 x) (restP b.2 y)
     else if a.1.f1 = b.1.f2 then cmpI m s (restP a.2 x) (restP b.2 y) else some none)
   else (tkG s q).bind fun z => cmpI m z (p :: x) y)
  else (tkG s p).bind fun z => cmpI m z x (q :: y)
theorem cmpI_drop {m : Nat} {s : List Go.Proofs.Ytlelpomnblaciaa.Mk.Pt × ByteArray × ByteArray} {p : S53} {x y : List S53} (h : ¬ p.f2.toList = ([] : List UInt8)) : cmpI (m + 1) s (p :: x) y = (tkG s p).bind fun z => cmpI m z x y := by
 cases y <;> rw [cmpI, if_neg h]
theorem cmpI_mono : ∀ (m : Nat) (s : List Go.Proofs.Ytlelpomnblaciaa.Mk.Pt × ByteArray × ByteArray) (x y : List S53), LeO (cmpI m s x y) (cmpI (m + 1) s x y)
 | 0, s, x, y => by rw [cmpI]; exact LeO.none _
 | m + 1, s, [], [] => by rw [cmpI, cmpI]; exact LeO.refl _
 | m + 1, s, p :: x, [] => by
  rw [cmpI, cmpI]
  exact LeO.ite (LeO.refl _) (LeO.bind (LeO.refl _) (fun _ => cmpI_mono m _ _ _))
 | m + 1, s, [], q :: y => by
  rw [cmpI, cmpI]
  exact LeO.ite (LeO.refl _) (LeO.bind (LeO.refl _) (fun _ => cmpI_mono m _ _ _))
 | m + 1, s, p :: x, q :: y => by
  rw [cmpI, cmpI]
  exact LeO.ite (LeO.ite (LeO.bind (LeO.refl _) (fun _ => LeO.bind (LeO.refl _) (fun _ => LeO.ite (LeO.bind (LeO.refl _) (fun _ => cmpI_mono m _ _ _)) (LeO.ite (LeO.bind (LeO.refl _) (fun _ => cmpI_mono m _ _ _)) (LeO.ite (cmpI_mono m _ _ _) (LeO.refl _))))))
   (LeO.bind (LeO.refl _) (fun _ => cmpI_mono m _ _ _))) (LeO.bind (LeO.refl _) (fun _ => cmpI_mono m _ _ _))
def cmB (gx gy gm : Nat) (v : Value) (k : Nat) : Prop := k = gx ∨ k = gy ∨ k = gm ∨ v.ownBlock = some k
theorem cmB_x (gx gy gm : Nat) (v : Value) : cmB gx gy gm v gx := .inl rfl
theorem cmB_y (gx gy gm : Nat) (v : Value) : cmB gx gy gm v gy := .inr (.inl rfl)
structure Cm (w0 w : World) (gx gy gm : Nat) (x y : List S53) (s : List Go.Proofs.Ytlelpomnblaciaa.Mk.Pt × ByteArray × ByteArray) (v : Value) : Prop where
 rx : IsRd w gx x (cmB gx gy gm v)
 ry : IsRd w gy y (cmB gx gy gm v)
 hmk : Go.Proofs.Ytlelpomnblaciaa.Mk.IsMk w0 w w0.heap.size gm s.1 s.2.1 s.2.2 v
 nx : v.ownBlock ≠ some gx
 ny : v.ownBlock ≠ some gy
 nxy : gx ≠ gy
 nxm : gx ≠ gm
 nym : gy ≠ gm
 gx0 : w0.heap.size ≤ gx
 gy0 : w0.heap.size ≤ gy
 gm0 : w0.heap.size ≤ gm
theorem Cm.lt {w0 w : World} {gx gy gm : Nat} {x y : List S53} {s : List Go.Proofs.Ytlelpomnblaciaa.Mk.Pt × ByteArray × ByteArray} {v : Value} (h : Cm w0 w gx gy gm x y s v) : gx < w.heap.size ∧ gy < w.heap.size ∧ gm < w.heap.size ∧ (∀ k, cmB gx gy gm v k → k < w.heap.size) := by
 have e1 := rd_lt h.rx
 have e2 := rd_lt h.ry
 have e3 := blk_lt h.hmk.blk
 refine ⟨e1, e2, e3, fun k q => ?_⟩
 rcases q with q | q | q | q
 ·omega
 ·omega
 ·omega
 exact own_lt h.hmk.own k q
theorem mk_keptB {w0 w w' : World} {base g : Nat} {l : List Go.Proofs.Ytlelpomnblaciaa.Mk.Pt} {put drop : ByteArray} {v : Value} {S : Nat → Prop} (h : Go.Proofs.Ytlelpomnblaciaa.Mk.IsMk w0 w base g l put drop v) (hk : KeptB w w' S) (hg : ¬ S g) (hv : ∀ k, v.ownBlock = some k → ¬ S k) (hS : ∀ k, S k → base ≤ k) : Go.Proofs.Ytlelpomnblaciaa.Mk.IsMk w0 w' base g l put drop v :=
 ⟨blk_kept h.blk hk.kept hg, own_move h.own (fun k e => hk.kept.2 k (own_lt h.own k e) (hv k e)), h.far, hk.below h.bel h.siz hS, Nat.le_trans h.siz hk.kept.1⟩
theorem Cm.keptF {w0 w w' : World} {gx gy gm : Nat} {x y : List S53} {s : List Go.Proofs.Ytlelpomnblaciaa.Mk.Pt × ByteArray × ByteArray} {v : Value} (h : Cm w0 w gx gy gm x y s v) (hk : KeptB w w' (fun _ => False)) : Cm w0 w' gx gy gm x y s v :=
 ⟨h.rx.kept hk.kept (fun q => q) (fun _ q => q.elim), h.ry.kept hk.kept (fun q => q) (fun _ q => q.elim), mk_keptB h.hmk hk (fun q => q) (fun _ _ q => q) (fun _ q => q.elim), h.nx, h.ny, h.nxy, h.nxm, h.nym, h.gx0, h.gy0, h.gm0⟩
theorem Cm.below {w0 w w' : World} {gx gy gm : Nat} {x y : List S53} {s : List Go.Proofs.Ytlelpomnblaciaa.Mk.Pt × ByteArray × ByteArray} {v : Value} (h : Cm w0 w gx gy gm x y s v) (hb : Below w.heap.size w w') : Cm w0 w' gx gy gm x y s v := h.keptF (KeptB.of_below hb _)
theorem Cm.stepX {w0 w w' : World} {gx gy gm : Nat} {x x' y : List S53} {s : List Go.Proofs.Ytlelpomnblaciaa.Mk.Pt × ByteArray × ByteArray} {v : Value} (h : Cm w0 w gx gy gm x y s v) (h1 : IsRd w' gx x' (cmB gx gy gm v)) (hk : KeptB w w' (fun k => k = gx)) : Cm w0 w' gx gy gm x' y s v :=
 ⟨h1, h.ry.kept hk.kept (fun q => h.nxy q.symm) (fun _ q => .inl q), mk_keptB h.hmk hk (fun q => h.nxm q.symm) (fun k e q => h.nx (q ▸ e)) (fun k q => by rw [q]; exact h.gx0), h.nx, h.ny, h.nxy, h.nxm, h.nym, h.gx0, h.gy0, h.gm0⟩
theorem Cm.stepY {w0 w w' : World} {gx gy gm : Nat} {x y y' : List S53} {s : List Go.Proofs.Ytlelpomnblaciaa.Mk.Pt × ByteArray × ByteArray} {v : Value} (h : Cm w0 w gx gy gm x y s v) (h1 : IsRd w' gy y' (cmB gx gy gm v)) (hk : KeptB w w' (fun k => k = gy)) : Cm w0 w' gx gy gm x y' s v :=
 ⟨h.rx.kept hk.kept (fun q => h.nxy q) (fun _ q => .inr (.inl q)), h1, mk_keptB h.hmk hk (fun q => h.nym q.symm) (fun k e q => h.ny (q ▸ e)) (fun k q => by rw [q]; exact h.gy0), h.nx, h.ny, h.nxy, h.nxm, h.nym, h.gx0, h.gy0, h.gm0⟩
theorem Cm.take {w0 w w' : World} {gx gy gm : Nat} {x y : List S53} {s z : List Go.Proofs.Ytlelpomnblaciaa.Mk.Pt × ByteArray × ByteArray} {v v' : Value} (h : Cm w0 w gx gy gm x y s v) (hm : Go.Proofs.Ytlelpomnblaciaa.Mk.IsMk w0 w' w0.heap.size gm z.1 z.2.1 z.2.2 v') (hk : Kept w w' (fun k => k = gm ∨ some k = v.ownBlock)) (hv : ∀ k, v'.ownBlock = some k → v.ownBlock = some k ∨ w.heap.size ≤ k) : Cm w0 w' gx gy gm x y z v' := by
 obtain ⟨l1, l2, l3, _⟩ := h.lt
 have hs : ∀ k, cmB gx gy gm v' k → cmB gx gy gm v k ∨ w.heap.size ≤ k := fun k q => by
  rcases q with q | q | q | q
  ·exact .inl (.inl q)
  ·exact .inl (.inr (.inl q))
  ·exact .inl (.inr (.inr (.inl q)))
  ·exact (hv k q).imp (fun z => .inr (.inr (.inr z))) (fun z => z)
 have hP : ∀ k, (k = gm ∨ some k = v.ownBlock) → cmB gx gy gm v k := fun k q => q.elim (fun q => .inr (.inr (.inl q))) (fun q => .inr (.inr (.inr q.symm)))
 refine ⟨h.rx.next hk hP (fun q => q.elim h.nxm (fun q => h.nx q.symm)) hs, h.ry.next hk hP (fun q => q.elim h.nym (fun q => h.ny q.symm)) hs, hm, fun q => ?_, fun q => ?_, h.nxy, h.nxm, h.nym, h.gx0, h.gy0, h.gm0⟩
 ·exact (hv gx q).elim h.nx (fun z => by omega)
 exact (hv gy q).elim h.ny (fun z => by omega)
theorem rd_init {w w' : World} {g c : Nat} {A : Option Addr} {l : List S53} {S : Nat → Prop} {base : Nat} {ok : Nat → Prop} (hb : w'.heap[g]? = some (.cells #[.slice A l.length c] 72 (0, 0))) (hr : Kd.R k53 53 w base ok (.slice A l.length c) l) (hk : KeptB w w' (fun _ => False)) (hS : ∀ k, S k → w.heap.size ≤ k) : IsRd w' g l S := by
 obtain ⟨_, hcap, hreads⟩ := Kd.R_reads' hr
 refine ⟨A, c, hb, hcap, Kd.C_foot_neS (S := fun _ => False) (fun h => h) hreads (fun _ _ _ q => q) w' hk.kept, fun ad e hn q => ?_⟩
 obtain ⟨ad', e3, hx0, _, _⟩ := at_T53 hreads 0 (Int.le_refl _) (by omega)
 rw [e] at e3
 obtain rfl := Option.some.inj e3
 rw [show ((0 : Int)).toNat = 0 from rfl, show 0 * 3 = 0 from rfl, Addr.add_zero'] at hx0
 have := World.block_lt_of_cell? w _ hx0
 have := hS _ q
 omega
theorem blk_put1 {w : World} {g : Nat} {u : Value} {t : Nat} (h : w.heap[g]? = some (.cells #[u] t (0, 0))) (v : Value) : (w.setCell ⟨g, 0, none⟩ v).heap[g]? = some (.cells #[v] t (0, 0)) := blk_put (cs' := #[v]) h 0 v rfl
theorem cm_init {w0 w6 w9 w10 : World} {gx gy gm cx cy bx by_ : Nat} {Ax Ay : Option Addr} {l0 l1 : List S53} {okx oky : Nat → Prop} (h1 : Kd.R k53 53 w6 bx okx (.slice Ax l0.length cx) l0) (h2 : Kd.R k53 53 w6 by_ oky (.slice Ay l1.length cy) l1) (hb6 : Below w0.heap.size w0 w6) (hk : KeptB w6 w9 (fun _ => False))
  (hx : w9.heap[gx]? = some (.cells #[.slice Ax l0.length cx] 72 (0, 0))) (hy : w9.heap[gy]? = some (.cells #[.slice Ay l1.length cy] 72 (0, 0))) (gx0 : w6.heap.size ≤ gx) (gy0 : w6.heap.size ≤ gy) (hne : gx ≠ gy) (hb : Below w9.heap.size w9 w10) (hm : w10.heap[gm]? = some (.cells #[.slice none 0 0, .string ⟨#[]⟩, .string ⟨#[]⟩] 74 (0, 0))) (hg : gm = w9.heap.size) : Cm w0 w10 gx gy gm l0 l1 ([], ⟨#[]⟩, ⟨#[]⟩) (.slice none 0 0) := by
 have e1 := blk_lt hx
 have e2 := blk_lt hy
 have e3 := hk.kept.1
 have e4 := hb6.size
 have hb9 : Below w0.heap.size w0 w9 := hk.below hb6 hb6.size (fun _ q => q.elim)
 have hS : ∀ k, cmB gx gy gm (.slice none 0 0) k → w6.heap.size ≤ k := fun k q => by
  rcases q with q | q | q | q
  ·omega
  ·omega
  ·omega
  ·cases q
 have k10 : KeptB w6 w10 (fun _ => False) := hk.then_ (KeptB.of_below hb (fun _ => False)) (fun _ q => q.elim)
 refine ⟨rd_init (blk_below hx hb) h1 k10 hS, rd_init (blk_below hy hb) h2 k10 hS, ⟨hm, own_nil _ _ _ _, by simp [Value.ownBlock], below_step hb9 hb, ?_⟩, by simp [Value.ownBlock], by simp [Value.ownBlock], hne, by omega, by omega, by omega, by omega, by omega⟩
 have := hb.size
 omega
theorem Cm.fresh2 {w0 w : World} {gx gy gm gp gq : Nat} {x y : List S53} {s : List Go.Proofs.Ytlelpomnblaciaa.Mk.Pt × ByteArray × ByteArray} {v : Value} (h : Cm w0 w gx gy gm x y s v) (hp : gp = w.heap.size) (hq : w.heap.size ≤ gq) : (gp ≠ gx ∧ gp ≠ gy ∧ gp ≠ gm ∧ some gp ≠ v.ownBlock ∧ w0.heap.size ≤ gp) ∧ (gq ≠ gx ∧ gq ≠ gy ∧ gq ≠ gm ∧ some gq ≠ v.ownBlock ∧ w0.heap.size ≤ gq) := by
 obtain ⟨a, b, c, d⟩ := h.lt
 have e := h.hmk.siz
 refine ⟨⟨by omega, by omega, by omega, fun q => ?_, by omega⟩, by omega, by omega, by omega, fun q => ?_, by omega⟩
 ·have := d gp (.inr (.inr (.inr q.symm))); omega
 have := d gq (.inr (.inr (.inr q.symm))); omega
def bxE (gp gq k : Nat) : Prop := k = gp ∨ k = gq
def cmE (gx gy gm gp gq : Nat) (v : Value) (k : Nat) : Prop := cmB gx gy gm v k ∨ bxE gp gq k
theorem cmE_x (gx gy gm gp gq : Nat) (v : Value) : cmE gx gy gm gp gq v gx := .inl (cmB_x _ _ _ _)
theorem cmE_y (gx gy gm gp gq : Nat) (v : Value) : cmE gx gy gm gp gq v gy := .inl (cmB_y _ _ _ _)
structure CmE (w0 w : World) (gx gy gm gp gq : Nat) (x y : List S53) (s : List Go.Proofs.Ytlelpomnblaciaa.Mk.Pt × ByteArray × ByteArray) (v : Value) (p q : S53) : Prop where
 cm : Cm w0 w gx gy gm x y s v
 rx : IsRd w gx x (cmE gx gy gm gp gq v)
 ry : IsRd w gy y (cmE gx gy gm gp gq v)
 bp : Cells3 w gp p
 bq : Cells3 w gq q
 npq : gp ≠ gq
 fp : gp ≠ gx ∧ gp ≠ gy ∧ gp ≠ gm ∧ some gp ≠ v.ownBlock ∧ w0.heap.size ≤ gp
 fq : gq ≠ gx ∧ gq ≠ gy ∧ gq ≠ gm ∧ some gq ≠ v.ownBlock ∧ w0.heap.size ≤ gq
theorem CmE.lt {w0 w : World} {gx gy gm gp gq : Nat} {x y : List S53} {s : List Go.Proofs.Ytlelpomnblaciaa.Mk.Pt × ByteArray × ByteArray} {v : Value} {p q : S53} (h : CmE w0 w gx gy gm gp gq x y s v p q) : ∀ k, cmE gx gy gm gp gq v k → k < w.heap.size := fun k e => by
 have e1 := blk_lt h.bp
 have e2 := blk_lt h.bq
 rcases e with e | e | e
 ·exact h.cm.lt.2.2.2 k e
 ·rw [e]; exact e1
 ·rw [e]; exact e2
theorem CmE.of {w0 w w' : World} {gx gy gm gp gq : Nat} {x y : List S53} {s : List Go.Proofs.Ytlelpomnblaciaa.Mk.Pt × ByteArray × ByteArray} {v : Value} {p q : S53} (h : Cm w0 w gx gy gm x y s v) (hk : KeptB w w' (fun _ => False)) (hp : gp = w.heap.size) (hq : w.heap.size ≤ gq) (bp : Cells3 w' gp p) (bq : Cells3 w' gq q) (npq : gp ≠ gq) : CmE w0 w' gx gy gm gp gq x y s v p q := by
 obtain ⟨f1, f2⟩ := h.fresh2 hp hq
 have hs : ∀ k, cmE gx gy gm gp gq v k → cmB gx gy gm v k ∨ w.heap.size ≤ k := fun k e => by
  rcases e with e | e | e
  ·exact .inl e
  ·exact .inr (by omega)
  ·exact .inr (by omega)
 exact ⟨h.keptF hk, h.rx.next hk.kept (fun _ q => q.elim) (fun q => q) hs, h.ry.next hk.kept (fun _ q => q.elim) (fun q => q) hs, bp, bq, npq, f1, f2⟩
theorem CmE.keptF {w0 w w' : World} {gx gy gm gp gq : Nat} {x y : List S53} {s : List Go.Proofs.Ytlelpomnblaciaa.Mk.Pt × ByteArray × ByteArray} {v : Value} {p q : S53} (h : CmE w0 w gx gy gm gp gq x y s v p q) (hk : KeptB w w' (fun _ => False)) : CmE w0 w' gx gy gm gp gq x y s v p q :=
 ⟨h.cm.keptF hk, h.rx.kept hk.kept (fun q => q) (fun _ q => q.elim), h.ry.kept hk.kept (fun q => q) (fun _ q => q.elim), blk_kept h.bp hk.kept (fun q => q), blk_kept h.bq hk.kept (fun q => q), h.npq, h.fp, h.fq⟩
theorem CmE.below {w0 w w' : World} {gx gy gm gp gq : Nat} {x y : List S53} {s : List Go.Proofs.Ytlelpomnblaciaa.Mk.Pt × ByteArray × ByteArray} {v : Value} {p q : S53} (h : CmE w0 w gx gy gm gp gq x y s v p q) (hb : Below w.heap.size w w') : CmE w0 w' gx gy gm gp gq x y s v p q := h.keptF (KeptB.of_below hb _)
theorem CmE.stepX {w0 w w' : World} {gx gy gm gp gq : Nat} {x x' y : List S53} {s : List Go.Proofs.Ytlelpomnblaciaa.Mk.Pt × ByteArray × ByteArray} {v : Value} {p q : S53} (h : CmE w0 w gx gy gm gp gq x y s v p q) (h1 : IsRd w' gx x' (cmE gx gy gm gp gq v)) (hk : KeptB w w' (fun k => k = gx)) : CmE w0 w' gx gy gm gp gq x' y s v p q :=
 ⟨h.cm.stepX (h1.mono (fun _ q => .inl q)) hk, h1, h.ry.kept hk.kept (fun q => h.cm.nxy q.symm) (fun _ q => .inl (.inl q)), blk_kept h.bp hk.kept h.fp.1, blk_kept h.bq hk.kept h.fq.1, h.npq, h.fp, h.fq⟩
theorem CmE.stepY {w0 w w' : World} {gx gy gm gp gq : Nat} {x y y' : List S53} {s : List Go.Proofs.Ytlelpomnblaciaa.Mk.Pt × ByteArray × ByteArray} {v : Value} {p q : S53} (h : CmE w0 w gx gy gm gp gq x y s v p q) (h1 : IsRd w' gy y' (cmE gx gy gm gp gq v)) (hk : KeptB w w' (fun k => k = gy)) : CmE w0 w' gx gy gm gp gq x y' s v p q :=
 ⟨h.cm.stepY (h1.mono (fun _ q => .inl q)) hk, h.rx.kept hk.kept (fun q => h.cm.nxy q) (fun _ q => .inl (.inr (.inl q))), h1, blk_kept h.bp hk.kept h.fp.2.1, blk_kept h.bq hk.kept h.fq.2.1, h.npq, h.fp, h.fq⟩
theorem CmE.put {w0 w : World} {gx gy gm gp gq : Nat} {x y : List S53} {s : List Go.Proofs.Ytlelpomnblaciaa.Mk.Pt × ByteArray × ByteArray} {v : Value} {p q : S53} (h : CmE w0 w gx gy gm gp gq x y s v p q) (a b : S53) : CmE w0 (put3 (put3 w gp a) gq b) gx gy gm gp gq x y s v a b := by
 have hk : KeptB w (put3 (put3 w gp a) gq b) (bxE gp gq) := kept_put3 (kept_put3 ⟨Kept.refl w _, rfl, rfl, rfl⟩ (.inl (.inl rfl)) a) (.inl (.inr rfl)) b
 have nX : ¬ bxE gp gq gx := fun e => e.elim (fun e => h.fp.1 e.symm) (fun e => h.fq.1 e.symm)
 have nY : ¬ bxE gp gq gy := fun e => e.elim (fun e => h.fp.2.1 e.symm) (fun e => h.fq.2.1 e.symm)
 have nM : ¬ bxE gp gq gm := fun e => e.elim (fun e => h.fp.2.2.1 e.symm) (fun e => h.fq.2.2.1 e.symm)
 have nV : ∀ k, v.ownBlock = some k → ¬ bxE gp gq k := fun k e z => z.elim (fun z => h.fp.2.2.2.1 (by rw [e, z])) (fun z => h.fq.2.2.2.1 (by rw [e, z]))
 have hB : ∀ k, bxE gp gq k → w0.heap.size ≤ k := fun k z => z.elim (fun z => by rw [z]; exact h.fp.2.2.2.2) (fun z => by rw [z]; exact h.fq.2.2.2.2)
 have r1 : IsRd (put3 (put3 w gp a) gq b) gx x (cmE gx gy gm gp gq v) := h.rx.kept hk.kept nX (fun _ z => .inr z)
 have r2 : IsRd (put3 (put3 w gp a) gq b) gy y (cmE gx gy gm gp gq v) := h.ry.kept hk.kept nY (fun _ z => .inr z)
 exact ⟨⟨r1.mono (fun _ z => .inl z), r2.mono (fun _ z => .inl z), mk_keptB h.cm.hmk hk nM nV hB, h.cm.nx, h.cm.ny, h.cm.nxy, h.cm.nxm, h.cm.nym, h.cm.gx0, h.cm.gy0, h.cm.gm0⟩, r1, r2, put3_far (put3_is h.bp a) h.npq b, put3_is (put3_far h.bq h.npq.symm a) b, h.npq, h.fp, h.fq⟩
set_option maxHeartbeats 16000000 in
set_option maxRecDepth 100000 in
theorem icmp_loop (k : Nat) (A0 A1 : Option Addr) (c0 c1 : Nat) (l0 l1 r1 : List S53) (r2 : Bool) (w : World) (i0 i1 : Int) (hr0 : Kd.C k53 w A0 l0.length l0) (hc0 : l0.length ≤ c0) (hr1 : Kd.C k53 w A1 l1.length l1) (hc1 : l1.length ≤ c1) (ha : l0.length ≤ 1000) (hb : l1.length ≤ 1000) (z : Option (List Go.Proofs.Ytlelpomnblaciaa.Mk.Pt × ByteArray × ByteArray)) (n0 n1 : Int × Int)
  (g0 : jT.f k l0 = some true) (g1 : jT.f k l1 = some true) (s0 : jR.f k l0 = some n0) (s1 : jR.f k l1 = some n1) (he : n1.1 = n0.2) (h : cmpI k ([], ⟨#[]⟩, ⟨#[]⟩) l0 l1 = some z) (hz : ∀ s, z = some s → s.1.length ≤ 1000 ∧ yE.f k ((s.1 ++ Go.Proofs.Ytlelpomnblaciaa.Mk.endL s.2.1 s.2.2).map ofP) = some (r1, r2)) (hn : z = none → r1 = [] ∧ r2 = false) :
  Calls Try.prog 34 #[.slice A0 l0.length c0, .slice A1 l1.length c1] w fun e w' => ∃ v0_ : Value, e = .returned (.tuple #[v0_, .bool r2]) ∧ Kd.R k53 53 w' w.heap.size (fun _ => True) v0_ r1 ∧ Below w.heap.size w w' := by
 have hu53 := Try.underlying53
 have hu72 := Try.underlying72
 have hu74 := Try.underlying74
 have HR0 := aM hr0
 have HR1 := aM hr1
 have HC := aM (And.intro hc0 hc1)
 have HN := aM (And.intro ha hb)
 have H' := aM h
 have HZ := aM hz
 have HZ0 := aM hn
 have S0 := aM s0
 have S1 := aM s1
 have G0 := aM g0
 have G1 := aM g1
 obtain ⟨n00, n01⟩ := n0
 obtain ⟨n10, n11⟩ := n1
 dsimp only at he
 subst he
 clear hr0 hr1 hc0 hc1 ha hb h hz hn s0 s1 g0 g1
 go_enter Try.func34, Try.ntmps34
 have b0 : decide (n10 = n10) = true := decide_eq_true rfl
 go_upto_region 8 with (first | (go_at_call 22; (with_reducible refine (jT.calls k A0 c0 l0 true _ (HR0.out) HC.out.1 G0.out).mono ?_); rintro e w1 ⟨rfl, hb⟩; have B1 := aM (hb); clear hb) | (go_at_call 22; (with_reducible refine (jT.calls k A1 c1 l1 true _ (Kd.C_below HR1.out B1.out) HC.out.2 G1.out).mono ?_); rintro e w2 ⟨rfl, hb⟩; have B2 := aM (below_step B1.out hb); clear hb) | (go_at_call 52; (with_reducible refine (jR.calls k A0 c0 l0 n00 n10 _ (Kd.C_below HR0.out B2.out) HC.out.1 S0.out).mono ?_); rintro e w3 ⟨rfl, hb⟩; have B3 := aM (below_step B2.out hb); clear hb) | (go_at_call 52; (with_reducible refine (jR.calls k A1 c1 l1 n10 n11 _ (Kd.C_below HR1.out B3.out) HC.out.2 S1.out).mono ?_); rintro e w4 ⟨rfl, hb⟩; have B4 := aM (below_step B3.out hb); clear hb) | (go_at_call 63; (with_reducible refine (clone_partA _ A0 c0 l0 (Kd.C_below HR0.out B4.out) (Nat.le_trans HN.out.1 (by decide))).mono ?_); rintro e w5 ⟨vx, rfl, hx, hb⟩; obtain ⟨Ax, cx, ex⟩ := Kd.R_slice hx; subst ex; have RX := aM hx; have B5 := aM (below_step B4.out hb); clear hx hb) | (go_at_call 63; (with_reducible refine (clone_partA _ A1 c1 l1 (Kd.C_below HR1.out B5.out) (Nat.le_trans HN.out.2 (by decide))).mono ?_); rintro e w6 ⟨vy, rfl, hy, hb⟩; obtain ⟨Ay, cy, ey⟩ := Kd.R_slice hy; subst ey; have RY := aM hy; have RX6 := aM (Kd.R_below RX.out hb); have B6 := aM (below_step B5.out hb); have z5 := aM hb.size; clear hy hb) | ((with_reducible refine gate_dst (N := 10) rfl ?_); refine box_event ?hg (N := 10) ?hd (cs := #[.slice none 0 0]) (t := 72) ?hr ?_; (case hd => rfl); (case hg => rfl); (case hr => exact aP21); intro gx hg_ w7 hbox hb; have BX7 := aM hbox; have GX := aM hg_; have B7 := aM hb; have d0 := (blk_cell hbox 0).trans (show _ = some (Value.slice none 0 0) from rfl); have f0 := blk_frozen hbox 0; clear hbox hb hg_) | ((with_reducible refine gate_dst (N := 11) rfl ?_); refine box_event ?hg (N := 11) ?hd (cs := #[.slice none 0 0]) (t := 72) ?hr ?_; (case hd => rfl); (case hg => rfl); (case hr => exact aP21); intro gy hg_ w8 hbox hb; have BX8 := aM (blk_below BX7.out hb); have BY8 := aM hbox; have GY := aM hg_; have B8 := aM hb; clear d0 f0; have d0 := (blk_cell BX8.out 0).trans (show _ = some (Value.slice none 0 0) from rfl); have f0 := blk_frozen BX8.out 0; have d1 := (blk_cell hbox 0).trans (show _ = some (Value.slice none 0 0) from rfl); have f1 := blk_frozen hbox 0; have n1 : gx ≠ gy := (by rw [hg_]; exact Nat.ne_of_lt (blk_lt BX7.out)); have n2 : gy ≠ gx := n1.symm; clear hbox hb hg_))
 have l6 : w6.heap.size ≤ gx ∧ w6.heap.size ≤ gy := ⟨Nat.le_of_eq GX.out.symm, by rw [GY.out]; exact B7.out.size⟩
 have KK := aM (((KeptB.of_below B7.out (fun _ => False)).then_ (KeptB.of_below B8.out (fun _ => False)) (fun _ q => q.elim)).setCell (p := ⟨gx, 0, none⟩) (.inr l6.1) (.slice Ax l0.length cx) |>.setCell (p := ⟨gy, 0, none⟩) (.inr l6.2) (.slice Ay l1.length cy))
 have CX := aM (blk_far (blk_put1 BX8.out (.slice Ax l0.length cx)) (p := ⟨gy, 0, none⟩) n1 (.slice Ay l1.length cy))
 have CY := aM (blk_put1 (blk_far BY8.out (p := ⟨gx, 0, none⟩) n2 (.slice Ax l0.length cx)) (.slice Ay l1.length cy))
 have NE := aM n1
 have L6 := aM l6
 clear d0 f0 d1 f1 n1 n2 l6 BX7 BX8 BY8 GX GY B7 B8 B1 B2 B3 B4 B5 z5 RX S0 S1 G0 G1 HR0 HR1 HC b0
 generalize (w8.setCell ⟨gx, 0, none⟩ (.slice Ax l0.length cx)).setCell ⟨gy, 0, none⟩ (.slice Ay l1.length cy) = w9 at KK CX CY ⊢
 go_wp2_with (first | ((with_reducible refine gate_dst (N := 12) rfl ?_); refine box_event ?hg (N := 12) ?hd (cs := #[.slice none 0 0, .string (⟨#[]⟩ : ByteArray), .string (⟨#[]⟩ : ByteArray)]) (t := 74) ?hr ?_; (case hd => rfl); (case hg => rfl); (case hr => exact aP21); intro gm hg_ w10 hbox hb; have C0 := aM (cm_init RX6.out RY.out B6.out KK.out CX.out CY.out L6.out.1 L6.out.2 NE.out hb hbox hg_); clear hbox hb hg_))
 clear KK CX CY NE L6 RX6 RY B6
 simp only [Act.put, List.setIfInBounds_toArray, List.set_cons_zero, List.set_cons_succ]
 go_loopg [] k (fun kq w' => ∃ (x y : List S53) (s : List Go.Proofs.Ytlelpomnblaciaa.Mk.Pt × ByteArray × ByteArray) (v : Value), Aside0 (cmpI kq s x y = some z) ∧ Aside0 (x.length ≤ 1000 ∧ y.length ≤ 1000) ∧ Aside0 (Cm w w' gx gy gm x y s v))
 case atStart => exact ⟨l0, l1, _, _, H', HN, C0⟩
 case round =>
  clear H' C0 HN
  obtain ⟨x, y, s, v, HA, HN, C0⟩ := hrel
  cases gk with
  | zero => exact absurd HA.out (by simp [cmpI])
  | succ m1 =>
   have H := HA.out
   clear HA
   cases x with
   | nil =>
    cases y with
    | nil =>
     have H1 : some (some s) = some z := H
     clear H
     obtain rfl := Option.some.inj H1
     clear H1
     have HG := aM (HZ.out s rfl)
     obtain ⟨Ax, cx, c0⟩ := C0.out.rx.cell
     obtain ⟨Ay, cy, c1⟩ := C0.out.ry.cell
     rw [List.length_nil] at c0 c1
     go_wp2_with (first | (go_at_call 69; (with_reducible refine (Go.Proofs.Ytlelpomnblaciaa.Mk.maker_made w.heap.size gm v s.1 s.2.1 s.2.2 w _ C0.out.hmk C0.out.gm0 HG.out.1).mono ?_); rintro e w6 ⟨v6, rfl, h6⟩; have M6 := aM h6; clear h6) | (go_at_call 58; (with_reducible refine (yE.calls k (fun _ => True) v6 _ r1 r2 w _ M6.out.bel (R_of_cells M6.out.own) HG.out.2).mono ?_); rintro e w7 ⟨v7, rfl, h7, hb7, _⟩; have O7 := aM h7; have B7 := aM hb7; clear h7 hb7))
     go_ret2
     exact ⟨_, rfl, Kd.R_mono O7.out (fun _ _ => trivial), B7.out⟩
    | cons q y =>
     by_cases hq : q.f1.toList = ([] : List UInt8)
     ·rw [cmpI, if_pos hq] at H; cases H
     rw [cmpI, if_neg hq] at H
     have eB0 : (q.f1.toList == ([] : List UInt8)) = false := beq_eq_false_iff_ne.mpr hq
     have eB1 : (q.f1.toList != ([] : List UInt8)) = true := bne_iff_ne.mpr hq
     have eB2 : q.f1.toList.isEmpty = false := List.isEmpty_eq_false_iff.mpr hq
     clear hq
     have dB0 : ((⟨#[]⟩ : ByteArray).toList == ([] : List UInt8)) = true := beq_iff_eq.mpr nilT
     have dB1 : ((⟨#[]⟩ : ByteArray).toList != ([] : List UInt8)) = false := bne_eq_false_iff_eq.mpr nilT
     have dB2 : (⟨#[]⟩ : ByteArray).toList.isEmpty = true := List.isEmpty_iff.mpr nilT
     obtain ⟨Ax, cx, c0⟩ := C0.out.rx.cell
     rw [List.length_nil] at c0
     obtain ⟨Ay, cy, c1⟩ := C0.out.ry.cell
     rw [List.length_cons] at c1
     have c1d : decide (((y.length + 1 : Nat) : Int) > 0) = true := decide_eq_true (by omega)
     have c1e : ((0 : Int) < (y.length : Int) + 1) = True := eq_true (by omega)
     have c1f : (0 < y.length + 1) = True := eq_true (by omega)
     go_upto_region 11 with (first | (go_at_call 64; (with_reducible refine (rd_head _ gx [] _ C0.out.rx).mono ?_); rintro e w1 ⟨rfl, hb⟩; have C1 := aM (C0.out.below hb); clear hb) | (go_at_call 64; (with_reducible refine (rd_head _ gy (q :: y) _ C1.out.ry).mono ?_); rintro e w1 ⟨rfl, hb⟩; have C2 := aM (C1.out.below hb); clear hb) | ((with_reducible refine gate_dst (N := 13) rfl ?_); refine box_event ?hg (N := 13) ?hd (cs := #[.int .i64 0, .string (⟨#[]⟩ : ByteArray), .string (⟨#[]⟩ : ByteArray)]) (t := 53) ?hr ?_; (case hd => rfl); (case hg => rfl); (case hr => exact aP21); intro gp hg_ w3 hbox hb; have C3 := aM (C2.out.below hb); have BP := aM hbox; have GP := aM hg_; have B3 := aM hb; clear hbox hb hg_) | ((with_reducible refine gate_dst (N := 14) rfl ?_); refine box_event ?hg (N := 14) ?hd (cs := #[.int .i64 0, .string (⟨#[]⟩ : ByteArray), .string (⟨#[]⟩ : ByteArray)]) (t := 53) ?hr ?_; (case hd => rfl); (case hg => rfl); (case hr => exact aP21); intro gq hg_ w4 hbox hb; have BP4 := aM (blk_below BP.out hb); have BQ := aM hbox; have GQ := aM hg_; have B4 := aM hb; have n1 : gp ≠ gq := (by rw [hg_]; exact Nat.ne_of_lt (blk_lt BP.out)); have n2 : gq ≠ gp := n1.symm; have y0 := (blk_cell BP4.out 0).trans (show _ = some (Value.int .i64 0) from rfl); have y1 := (blk_cell BP4.out 1).trans (show _ = some (Value.string ⟨#[]⟩) from rfl); have y2 := (blk_cell BP4.out 2).trans (show _ = some (Value.string ⟨#[]⟩) from rfl); have f0 := blk_frozen BP4.out 0; have f1 := blk_frozen BP4.out 1; have f2 := blk_frozen BP4.out 2; have z0 := (blk_cell hbox 0).trans (show _ = some (Value.int .i64 0) from rfl); have z1 := (blk_cell hbox 1).trans (show _ = some (Value.string ⟨#[]⟩) from rfl); have z2 := (blk_cell hbox 2).trans (show _ = some (Value.string ⟨#[]⟩) from rfl); have e0 := blk_frozen hbox 0; have e1 := blk_frozen hbox 1; have e2 := blk_frozen hbox 2; clear hbox hb hg_))
     have K4 := aM (kept_put3 (kept_put3 ((KeptB.of_below B3.out (fun _ => False)).then_ (KeptB.of_below B4.out (fun _ => False)) (fun _ q => q.elim)) (g := gp) (.inr (Nat.le_of_eq GP.out.symm)) (hdP [])) (g := gq) (.inr (by rw [GQ.out]; exact B3.out.size)) (hdP (q :: y)))
     have E5 := aM (CmE.of C2.out K4.out GP.out (show _ ≤ gq by rw [GQ.out]; exact B3.out.size) (put3_far (put3_is (q := zP) BP4.out (hdP [])) n1 (hdP (q :: y))) (put3_is (q := zP) (put3_far BQ.out n2 (hdP [])) (hdP (q :: y))) n1)
     clear y0 y1 y2 f0 f1 f2 z0 z1 z2 e0 e1 e2 n1 n2 BP BP4 BQ GP GQ B3 B4 C1 C2 C3 K4 c0 c1 c1d c1e c1f
     simp only [put3] at E5
     generalize ((((((w4).setCell ⟨gp, 0, none⟩ (.int .i64 (hdP []).f0)).setCell ⟨gp, 1, none⟩ (.string (hdP []).f1)).setCell ⟨gp, 2, none⟩ (.string (hdP []).f2)).setCell ⟨gq, 0, none⟩ (.int .i64 (hdP (q :: y)).f0)).setCell ⟨gq, 1, none⟩ (.string (hdP (q :: y)).f1)).setCell ⟨gq, 2, none⟩ (.string (hdP (q :: y)).f2) = v5 at E5 ⊢
     replace E5 := aM (show CmE w v5 gx gy gm gp gq [] (q :: y) s v zP q from E5.out)
     have a0 := (blk_cell E5.out.bp 0).trans (show _ = some (Value.int .i64 zP.f0) from rfl)
     have a1 := (blk_cell E5.out.bp 1).trans (show _ = some (Value.string zP.f1) from rfl)
     have a2 := (blk_cell E5.out.bp 2).trans (show _ = some (Value.string zP.f2) from rfl)
     have b0 := (blk_cell E5.out.bq 0).trans (show _ = some (Value.int .i64 q.f0) from rfl)
     have b1 := (blk_cell E5.out.bq 1).trans (show _ = some (Value.string q.f1) from rfl)
     have b2 := (blk_cell E5.out.bq 2).trans (show _ = some (Value.string q.f2) from rfl)
     obtain ⟨z1, ht, H⟩ := Option.bind_eq_some_iff.mp H
     obtain ⟨htb, rfl⟩ := tkG_is ht
     have HT := aM htb
     have H' := aM H
     clear ht htb H
     go_wp2_with (first | (go_at_call 66; (with_reducible refine (rd_next _ gy q y _ E5.out.cm.ry (cmB_y _ _ _ _)).mono ?_); rintro e w6 ⟨rfl, h6, hk6⟩; have C6 := aM (E5.out.cm.stepY h6 hk6); clear h6 hk6) | (go_at_call 65; (with_reducible refine (Go.Proofs.Ytlelpomnblaciaa.Mk.maker_takeK w.heap.size gm v s.1 s.2.1 s.2.2 q.f0 q.f1 q.f2 w _ C6.out.hmk C6.out.gm0 HT.out.1 HT.out.2.1 HT.out.2.2).mono ?_); rintro e w8 ⟨rfl, v8, h8, hk8, hv8⟩; have C7 := aM (Cm.take (z := takeP s (toP q)) C6.out h8 hk8 hv8); clear h8 hk8 hv8))
     go_roundg m1
     case measure => omega
     case rel => exact ⟨[], y, takeP s (toP q), v8, H', ⟨HN.out.1, by have := HN.out.2; simp only [List.length_cons] at this; omega⟩, C7⟩
   | cons p x =>
    by_cases hd : p.f2.toList = ([] : List UInt8)
    rotate_left
    ·rw [cmpI_drop hd] at H
     have dB0 : (p.f2.toList == ([] : List UInt8)) = false := beq_eq_false_iff_ne.mpr hd
     have dB1 : (p.f2.toList != ([] : List UInt8)) = true := bne_iff_ne.mpr hd
     have dB2 : p.f2.toList.isEmpty = false := List.isEmpty_eq_false_iff.mpr hd
     clear hd
     obtain ⟨Ax, cx, c0⟩ := C0.out.rx.cell
     rw [List.length_cons] at c0
     have c0d : decide (((x.length + 1 : Nat) : Int) > 0) = true := decide_eq_true (by omega)
     have c0e : ((0 : Int) < (x.length : Int) + 1) = True := eq_true (by omega)
     have c0f : (0 < x.length + 1) = True := eq_true (by omega)
     go_upto_region 11 with (first | (go_at_call 64; (with_reducible refine (rd_head _ gx (p :: x) _ C0.out.rx).mono ?_); rintro e w1 ⟨rfl, hb⟩; have C1 := aM (C0.out.below hb); clear hb) | (go_at_call 64; (with_reducible refine (rd_head _ gy y _ C1.out.ry).mono ?_); rintro e w1 ⟨rfl, hb⟩; have C2 := aM (C1.out.below hb); clear hb) | ((with_reducible refine gate_dst (N := 13) rfl ?_); refine box_event ?hg (N := 13) ?hd (cs := #[.int .i64 0, .string (⟨#[]⟩ : ByteArray), .string (⟨#[]⟩ : ByteArray)]) (t := 53) ?hr ?_; (case hd => rfl); (case hg => rfl); (case hr => exact aP21); intro gp hg_ w3 hbox hb; have C3 := aM (C2.out.below hb); have BP := aM hbox; have GP := aM hg_; have B3 := aM hb; clear hbox hb hg_) | ((with_reducible refine gate_dst (N := 14) rfl ?_); refine box_event ?hg (N := 14) ?hd (cs := #[.int .i64 0, .string (⟨#[]⟩ : ByteArray), .string (⟨#[]⟩ : ByteArray)]) (t := 53) ?hr ?_; (case hd => rfl); (case hg => rfl); (case hr => exact aP21); intro gq hg_ w4 hbox hb; have BP4 := aM (blk_below BP.out hb); have BQ := aM hbox; have GQ := aM hg_; have B4 := aM hb; have n1 : gp ≠ gq := (by rw [hg_]; exact Nat.ne_of_lt (blk_lt BP.out)); have n2 : gq ≠ gp := n1.symm; have y0 := (blk_cell BP4.out 0).trans (show _ = some (Value.int .i64 0) from rfl); have y1 := (blk_cell BP4.out 1).trans (show _ = some (Value.string ⟨#[]⟩) from rfl); have y2 := (blk_cell BP4.out 2).trans (show _ = some (Value.string ⟨#[]⟩) from rfl); have f0 := blk_frozen BP4.out 0; have f1 := blk_frozen BP4.out 1; have f2 := blk_frozen BP4.out 2; have z0 := (blk_cell hbox 0).trans (show _ = some (Value.int .i64 0) from rfl); have z1 := (blk_cell hbox 1).trans (show _ = some (Value.string ⟨#[]⟩) from rfl); have z2 := (blk_cell hbox 2).trans (show _ = some (Value.string ⟨#[]⟩) from rfl); have e0 := blk_frozen hbox 0; have e1 := blk_frozen hbox 1; have e2 := blk_frozen hbox 2; clear hbox hb hg_))
     have K4 := aM (kept_put3 (kept_put3 ((KeptB.of_below B3.out (fun _ => False)).then_ (KeptB.of_below B4.out (fun _ => False)) (fun _ q => q.elim)) (g := gp) (.inr (Nat.le_of_eq GP.out.symm)) (hdP (p :: x))) (g := gq) (.inr (by rw [GQ.out]; exact B3.out.size)) (hdP y))
     have E5 := aM (CmE.of C2.out K4.out GP.out (show _ ≤ gq by rw [GQ.out]; exact B3.out.size) (put3_far (put3_is (q := zP) BP4.out (hdP (p :: x))) n1 (hdP y)) (put3_is (q := zP) (put3_far BQ.out n2 (hdP (p :: x))) (hdP y)) n1)
     clear y0 y1 y2 f0 f1 f2 z0 z1 z2 e0 e1 e2 n1 n2 BP BP4 BQ GP GQ B3 B4 C1 C2 C3 K4 c0 c0d c0e c0f
     simp only [put3] at E5
     generalize ((((((w4).setCell ⟨gp, 0, none⟩ (.int .i64 (hdP (p :: x)).f0)).setCell ⟨gp, 1, none⟩ (.string (hdP (p :: x)).f1)).setCell ⟨gp, 2, none⟩ (.string (hdP (p :: x)).f2)).setCell ⟨gq, 0, none⟩ (.int .i64 (hdP y).f0)).setCell ⟨gq, 1, none⟩ (.string (hdP y).f1)).setCell ⟨gq, 2, none⟩ (.string (hdP y).f2) = v5 at E5 ⊢
     replace E5 := aM (show CmE w v5 gx gy gm gp gq (p :: x) y s v p (hdP y) from E5.out)
     have a0 := (blk_cell E5.out.bp 0).trans (show _ = some (Value.int .i64 p.f0) from rfl)
     have a1 := (blk_cell E5.out.bp 1).trans (show _ = some (Value.string p.f1) from rfl)
     have a2 := (blk_cell E5.out.bp 2).trans (show _ = some (Value.string p.f2) from rfl)
     obtain ⟨z1, ht, H⟩ := Option.bind_eq_some_iff.mp H
     obtain ⟨htb, rfl⟩ := tkG_is ht
     have HT := aM htb
     have H' := aM H
     clear ht htb H
     go_wp2_with (first | (go_at_call 66; (with_reducible refine (rd_next _ gx p x _ E5.out.cm.rx (cmB_x _ _ _ _)).mono ?_); rintro e w6 ⟨rfl, h6, hk6⟩; have C6 := aM (E5.out.cm.stepX h6 hk6); clear h6 hk6) | (go_at_call 65; (with_reducible refine (Go.Proofs.Ytlelpomnblaciaa.Mk.maker_takeK w.heap.size gm v s.1 s.2.1 s.2.2 p.f0 p.f1 p.f2 w _ C6.out.hmk C6.out.gm0 HT.out.1 HT.out.2.1 HT.out.2.2).mono ?_); rintro e w8 ⟨rfl, v8, h8, hk8, hv8⟩; have C7 := aM (Cm.take (z := takeP s (toP p)) C6.out h8 hk8 hv8); clear h8 hk8 hv8))
     go_roundg m1
     case measure => omega
     case rel => exact ⟨x, y, takeP s (toP p), v8, H', ⟨by have := HN.out.1; simp only [List.length_cons] at this; omega, HN.out.2⟩, C7⟩
    cases y with
    | nil => rw [cmpI, if_pos hd] at H; cases H
    | cons q y =>
     rw [cmpI, if_pos hd] at H
     have dB0 : (p.f2.toList == ([] : List UInt8)) = true := beq_iff_eq.mpr hd
     have dB1 : (p.f2.toList != ([] : List UInt8)) = false := bne_eq_false_iff_eq.mpr hd
     have dB2 : p.f2.toList.isEmpty = true := List.isEmpty_iff.mpr hd
     clear hd
     by_cases hq : q.f1.toList = ([] : List UInt8)
     rotate_left
     ·rw [if_neg hq] at H
      have eB0 : (q.f1.toList == ([] : List UInt8)) = false := beq_eq_false_iff_ne.mpr hq
      have eB1 : (q.f1.toList != ([] : List UInt8)) = true := bne_iff_ne.mpr hq
      have eB2 : q.f1.toList.isEmpty = false := List.isEmpty_eq_false_iff.mpr hq
      clear hq
      obtain ⟨Ax, cx, c0⟩ := C0.out.rx.cell
      rw [List.length_cons] at c0
      have c0d : decide (((x.length + 1 : Nat) : Int) > 0) = true := decide_eq_true (by omega)
      have c0e : ((0 : Int) < (x.length : Int) + 1) = True := eq_true (by omega)
      have c0f : (0 < x.length + 1) = True := eq_true (by omega)
      go_upto_region 11 with (first | (go_at_call 64; (with_reducible refine (rd_head _ gx (p :: x) _ C0.out.rx).mono ?_); rintro e w1 ⟨rfl, hb⟩; have C1 := aM (C0.out.below hb); clear hb) | (go_at_call 64; (with_reducible refine (rd_head _ gy (q :: y) _ C1.out.ry).mono ?_); rintro e w1 ⟨rfl, hb⟩; have C2 := aM (C1.out.below hb); clear hb) | ((with_reducible refine gate_dst (N := 13) rfl ?_); refine box_event ?hg (N := 13) ?hd (cs := #[.int .i64 0, .string (⟨#[]⟩ : ByteArray), .string (⟨#[]⟩ : ByteArray)]) (t := 53) ?hr ?_; (case hd => rfl); (case hg => rfl); (case hr => exact aP21); intro gp hg_ w3 hbox hb; have C3 := aM (C2.out.below hb); have BP := aM hbox; have GP := aM hg_; have B3 := aM hb; clear hbox hb hg_) | ((with_reducible refine gate_dst (N := 14) rfl ?_); refine box_event ?hg (N := 14) ?hd (cs := #[.int .i64 0, .string (⟨#[]⟩ : ByteArray), .string (⟨#[]⟩ : ByteArray)]) (t := 53) ?hr ?_; (case hd => rfl); (case hg => rfl); (case hr => exact aP21); intro gq hg_ w4 hbox hb; have BP4 := aM (blk_below BP.out hb); have BQ := aM hbox; have GQ := aM hg_; have B4 := aM hb; have n1 : gp ≠ gq := (by rw [hg_]; exact Nat.ne_of_lt (blk_lt BP.out)); have n2 : gq ≠ gp := n1.symm; have y0 := (blk_cell BP4.out 0).trans (show _ = some (Value.int .i64 0) from rfl); have y1 := (blk_cell BP4.out 1).trans (show _ = some (Value.string ⟨#[]⟩) from rfl); have y2 := (blk_cell BP4.out 2).trans (show _ = some (Value.string ⟨#[]⟩) from rfl); have f0 := blk_frozen BP4.out 0; have f1 := blk_frozen BP4.out 1; have f2 := blk_frozen BP4.out 2; have z0 := (blk_cell hbox 0).trans (show _ = some (Value.int .i64 0) from rfl); have z1 := (blk_cell hbox 1).trans (show _ = some (Value.string ⟨#[]⟩) from rfl); have z2 := (blk_cell hbox 2).trans (show _ = some (Value.string ⟨#[]⟩) from rfl); have e0 := blk_frozen hbox 0; have e1 := blk_frozen hbox 1; have e2 := blk_frozen hbox 2; clear hbox hb hg_))
      have K4 := aM (kept_put3 (kept_put3 ((KeptB.of_below B3.out (fun _ => False)).then_ (KeptB.of_below B4.out (fun _ => False)) (fun _ q => q.elim)) (g := gp) (.inr (Nat.le_of_eq GP.out.symm)) (hdP (p :: x))) (g := gq) (.inr (by rw [GQ.out]; exact B3.out.size)) (hdP (q :: y)))
      have E5 := aM (CmE.of C2.out K4.out GP.out (show _ ≤ gq by rw [GQ.out]; exact B3.out.size) (put3_far (put3_is (q := zP) BP4.out (hdP (p :: x))) n1 (hdP (q :: y))) (put3_is (q := zP) (put3_far BQ.out n2 (hdP (p :: x))) (hdP (q :: y))) n1)
      clear y0 y1 y2 f0 f1 f2 z0 z1 z2 e0 e1 e2 n1 n2 BP BP4 BQ GP GQ B3 B4 C1 C2 C3 K4 c0 c0d c0e c0f
      simp only [put3] at E5
      generalize ((((((w4).setCell ⟨gp, 0, none⟩ (.int .i64 (hdP (p :: x)).f0)).setCell ⟨gp, 1, none⟩ (.string (hdP (p :: x)).f1)).setCell ⟨gp, 2, none⟩ (.string (hdP (p :: x)).f2)).setCell ⟨gq, 0, none⟩ (.int .i64 (hdP (q :: y)).f0)).setCell ⟨gq, 1, none⟩ (.string (hdP (q :: y)).f1)).setCell ⟨gq, 2, none⟩ (.string (hdP (q :: y)).f2) = v5 at E5 ⊢
      replace E5 := aM (show CmE w v5 gx gy gm gp gq (p :: x) (q :: y) s v p q from E5.out)
      have a0 := (blk_cell E5.out.bp 0).trans (show _ = some (Value.int .i64 p.f0) from rfl)
      have a1 := (blk_cell E5.out.bp 1).trans (show _ = some (Value.string p.f1) from rfl)
      have a2 := (blk_cell E5.out.bp 2).trans (show _ = some (Value.string p.f2) from rfl)
      have b0 := (blk_cell E5.out.bq 0).trans (show _ = some (Value.int .i64 q.f0) from rfl)
      have b1 := (blk_cell E5.out.bq 1).trans (show _ = some (Value.string q.f1) from rfl)
      have b2 := (blk_cell E5.out.bq 2).trans (show _ = some (Value.string q.f2) from rfl)
      obtain ⟨z1, ht, H⟩ := Option.bind_eq_some_iff.mp H
      obtain ⟨htb, rfl⟩ := tkG_is ht
      have HT := aM htb
      have H' := aM H
      clear ht htb H
      go_wp2_with (first | (go_at_call 66; (with_reducible refine (rd_next _ gy q y _ E5.out.cm.ry (cmB_y _ _ _ _)).mono ?_); rintro e w6 ⟨rfl, h6, hk6⟩; have C6 := aM (E5.out.cm.stepY h6 hk6); clear h6 hk6) | (go_at_call 65; (with_reducible refine (Go.Proofs.Ytlelpomnblaciaa.Mk.maker_takeK w.heap.size gm v s.1 s.2.1 s.2.2 q.f0 q.f1 q.f2 w _ C6.out.hmk C6.out.gm0 HT.out.1 HT.out.2.1 HT.out.2.2).mono ?_); rintro e w8 ⟨rfl, v8, h8, hk8, hv8⟩; have C7 := aM (Cm.take (z := takeP s (toP q)) C6.out h8 hk8 hv8); clear h8 hk8 hv8))
      go_roundg m1
      case measure => omega
      case rel => exact ⟨(p :: x), y, takeP s (toP q), v8, H', ⟨HN.out.1, by have := HN.out.2; simp only [List.length_cons] at this; omega⟩, C7⟩
     rw [if_pos hq] at H
     have eB0 : (q.f1.toList == ([] : List UInt8)) = true := beq_iff_eq.mpr hq
     have eB1 : (q.f1.toList != ([] : List UInt8)) = false := bne_eq_false_iff_eq.mpr hq
     have eB2 : q.f1.toList.isEmpty = true := List.isEmpty_iff.mpr hq
     clear hq
     obtain ⟨Ax, cx, c0⟩ := C0.out.rx.cell
     rw [List.length_cons] at c0
     have c0d : decide (((x.length + 1 : Nat) : Int) > 0) = true := decide_eq_true (by omega)
     have c0e : ((0 : Int) < (x.length : Int) + 1) = True := eq_true (by omega)
     have c0f : (0 < x.length + 1) = True := eq_true (by omega)
     go_upto_region 11 with (first | (go_at_call 64; (with_reducible refine (rd_head _ gx (p :: x) _ C0.out.rx).mono ?_); rintro e w1 ⟨rfl, hb⟩; have C1 := aM (C0.out.below hb); clear hb) | (go_at_call 64; (with_reducible refine (rd_head _ gy (q :: y) _ C1.out.ry).mono ?_); rintro e w1 ⟨rfl, hb⟩; have C2 := aM (C1.out.below hb); clear hb) | ((with_reducible refine gate_dst (N := 13) rfl ?_); refine box_event ?hg (N := 13) ?hd (cs := #[.int .i64 0, .string (⟨#[]⟩ : ByteArray), .string (⟨#[]⟩ : ByteArray)]) (t := 53) ?hr ?_; (case hd => rfl); (case hg => rfl); (case hr => exact aP21); intro gp hg_ w3 hbox hb; have C3 := aM (C2.out.below hb); have BP := aM hbox; have GP := aM hg_; have B3 := aM hb; clear hbox hb hg_) | ((with_reducible refine gate_dst (N := 14) rfl ?_); refine box_event ?hg (N := 14) ?hd (cs := #[.int .i64 0, .string (⟨#[]⟩ : ByteArray), .string (⟨#[]⟩ : ByteArray)]) (t := 53) ?hr ?_; (case hd => rfl); (case hg => rfl); (case hr => exact aP21); intro gq hg_ w4 hbox hb; have BP4 := aM (blk_below BP.out hb); have BQ := aM hbox; have GQ := aM hg_; have B4 := aM hb; have n1 : gp ≠ gq := (by rw [hg_]; exact Nat.ne_of_lt (blk_lt BP.out)); have n2 : gq ≠ gp := n1.symm; have y0 := (blk_cell BP4.out 0).trans (show _ = some (Value.int .i64 0) from rfl); have y1 := (blk_cell BP4.out 1).trans (show _ = some (Value.string ⟨#[]⟩) from rfl); have y2 := (blk_cell BP4.out 2).trans (show _ = some (Value.string ⟨#[]⟩) from rfl); have f0 := blk_frozen BP4.out 0; have f1 := blk_frozen BP4.out 1; have f2 := blk_frozen BP4.out 2; have z0 := (blk_cell hbox 0).trans (show _ = some (Value.int .i64 0) from rfl); have z1 := (blk_cell hbox 1).trans (show _ = some (Value.string ⟨#[]⟩) from rfl); have z2 := (blk_cell hbox 2).trans (show _ = some (Value.string ⟨#[]⟩) from rfl); have e0 := blk_frozen hbox 0; have e1 := blk_frozen hbox 1; have e2 := blk_frozen hbox 2; clear hbox hb hg_))
     have K4 := aM (kept_put3 (kept_put3 ((KeptB.of_below B3.out (fun _ => False)).then_ (KeptB.of_below B4.out (fun _ => False)) (fun _ q => q.elim)) (g := gp) (.inr (Nat.le_of_eq GP.out.symm)) (hdP (p :: x))) (g := gq) (.inr (by rw [GQ.out]; exact B3.out.size)) (hdP (q :: y)))
     have E5 := aM (CmE.of C2.out K4.out GP.out (show _ ≤ gq by rw [GQ.out]; exact B3.out.size) (put3_far (put3_is (q := zP) BP4.out (hdP (p :: x))) n1 (hdP (q :: y))) (put3_is (q := zP) (put3_far BQ.out n2 (hdP (p :: x))) (hdP (q :: y))) n1)
     clear y0 y1 y2 f0 f1 f2 z0 z1 z2 e0 e1 e2 n1 n2 BP BP4 BQ GP GQ B3 B4 C1 C2 C3 K4 c0 c0d c0e c0f
     simp only [put3] at E5
     generalize ((((((w4).setCell ⟨gp, 0, none⟩ (.int .i64 (hdP (p :: x)).f0)).setCell ⟨gp, 1, none⟩ (.string (hdP (p :: x)).f1)).setCell ⟨gp, 2, none⟩ (.string (hdP (p :: x)).f2)).setCell ⟨gq, 0, none⟩ (.int .i64 (hdP (q :: y)).f0)).setCell ⟨gq, 1, none⟩ (.string (hdP (q :: y)).f1)).setCell ⟨gq, 2, none⟩ (.string (hdP (q :: y)).f2) = v5 at E5 ⊢
     replace E5 := aM (show CmE w v5 gx gy gm gp gq (p :: x) (q :: y) s v p q from E5.out)
     have aa0 := (blk_cell E5.out.bp 0).trans (show _ = some (Value.int .i64 p.f0) from rfl)
     have aa1 := (blk_cell E5.out.bp 1).trans (show _ = some (Value.string p.f1) from rfl)
     have aa2 := (blk_cell E5.out.bp 2).trans (show _ = some (Value.string p.f2) from rfl)
     have bb0 := (blk_cell E5.out.bq 0).trans (show _ = some (Value.int .i64 q.f0) from rfl)
     have bb1 := (blk_cell E5.out.bq 1).trans (show _ = some (Value.string q.f1) from rfl)
     have bb2 := (blk_cell E5.out.bq 2).trans (show _ = some (Value.string q.f2) from rfl)
     go_upto_region 15 with fail
     clear aa0 aa1 aa2 bb0 bb1 bb2 dB0 dB1 dB2 eB0 eB1 eB2
     by_cases hn : szI q < szI p
     ·skip
      rw [if_pos hn] at H
      have n0 : decide (szI q < szI p) = true := decide_eq_true hn
      have n1 : (szI q < szI p) = True := eq_true hn
      clear hn
      obtain ⟨⟨a1, a2⟩, hs, H2⟩ := Option.bind_eq_some_iff.mp H
      clear H
      dsimp only at H2
      obtain ⟨⟨b1, b2⟩, ht, H⟩ := Option.bind_eq_some_iff.mp H2
      dsimp only at H
      have HS := aM hs
      have HQ := aM ht
      clear hs ht H2
      refine start_ (n := 6) (S := fun w' => w'.cell? ⟨gp, 0, none⟩ = some (.int .i64 p.f0) ∧ w'.cell? ⟨gp, 1, none⟩ = some (.string p.f1) ∧ w'.cell? ⟨gp, 2, none⟩ = some (.string p.f2) ∧ w'.cell? ⟨gq, 0, none⟩ = some (.int .i64 q.f0) ∧ w'.cell? ⟨gq, 1, none⟩ = some (.string q.f1) ∧ w'.cell? ⟨gq, 2, none⟩ = some (.string q.f2)) (ds := []) #[false, false, false, false, false, false] (by kernel_rfl) rfl rfl ⟨(blk_cell (blk_drew E5.out.bp) 0).trans rfl, (blk_cell (blk_drew E5.out.bp) 1).trans rfl, (blk_cell (blk_drew E5.out.bp) 2).trans rfl, (blk_cell (blk_drew E5.out.bq) 0).trans rfl, (blk_cell (blk_drew E5.out.bq) 1).trans rfl, (blk_cell (blk_drew E5.out.bq) 2).trans rfl⟩ (fun hHeld => ?_)
      refine take_ (i := 0) (N := some 67) (v := ?_) (a' := ?_) #[true, false, false, false, false, false] rfl rfl (by kernel_rfl) (fun _ _ _ h => h) (Or.inl ⟨by rfl, ?_⟩) hHeld ?_ ?_
      rotate_left
      ·rintro w' ⟨s0, s1, s2, s3, s4, s5⟩
       go_simp
       with_reducible rfl
      rotate_left
      ·simp only [Act.put, List.setIfInBounds_toArray, List.set_cons_zero, List.set_cons_succ, i64_w, i32_w]
       rfl
      refine take_ (i := 2) (N := some 69) (v := ?_) (a' := ?_) #[true, false, true, false, false, false] rfl rfl (by kernel_rfl) (fun _ _ _ h => h) (Or.inl ⟨by rfl, ?_⟩) hHeld ?_ ?_
      rotate_left
      ·rintro w' ⟨s0, s1, s2, s3, s4, s5⟩
       go_simp
       with_reducible rfl
      rotate_left
      ·simp only [Act.put, List.setIfInBounds_toArray, List.set_cons_zero, List.set_cons_succ, i64_w, i32_w]
       rfl
      refine one_ (i := 1) (N := some 68) #[true, true, true, false, false, false] rfl rfl (by kernel_rfl) (by decide) (fun K hK => ?_)
      refine goes_ Try.func67 (by kernel_rfl) rfl #[.agg #[.int .i64 p.f0, .string p.f1, .string p.f2]] (by rfl) rfl rfl (by simp only [List.map_toArray, List.map_cons, List.map_nil]; rfl) ?_
      with_reducible refine (yJ.calls p.f0 p.f1 p.f2 (szI p) _ rfl).mono ?_
      rintro e w6 ⟨rfl, hb6⟩
      refine ⟨_, rfl, ?_⟩
      have E6 := aM ((E5.out.below (below_drew (Below.refl _ _))).below hb6)
      clear hb6
      refine hK.out _ _ ⟨(blk_cell E6.out.bp 0).trans rfl, (blk_cell E6.out.bp 1).trans rfl, (blk_cell E6.out.bp 2).trans rfl, (blk_cell E6.out.bq 0).trans rfl, (blk_cell E6.out.bq 1).trans rfl, (blk_cell E6.out.bq 2).trans rfl⟩ (fun hHeld => ?_)
      clear hK K
      refine norm_ (a' := ?_) ?_ ?_
      rotate_left
      ·show Act.put _ (some 68) _ = _
       simp only [Act.put, List.setIfInBounds_toArray, List.set_cons_zero, List.set_cons_succ, i64_w, i32_w]
       rfl
      refine one_ (i := 3) (N := some 70) #[true, true, true, true, false, false] rfl rfl (by kernel_rfl) (by decide) (fun K hK => ?_)
      refine goes_ Try.func67 (by kernel_rfl) rfl #[.agg #[.int .i64 q.f0, .string q.f1, .string q.f2]] (by rfl) rfl rfl (by simp only [List.map_toArray, List.map_cons, List.map_nil]; rfl) ?_
      with_reducible refine (yJ.calls q.f0 q.f1 q.f2 (szI q) _ rfl).mono ?_
      rintro e w7 ⟨rfl, hb7⟩
      refine ⟨_, rfl, ?_⟩
      have E7 := aM (E6.out.below hb7)
      clear hb7
      refine hK.out _ _ ⟨(blk_cell E7.out.bp 0).trans rfl, (blk_cell E7.out.bp 1).trans rfl, (blk_cell E7.out.bp 2).trans rfl, (blk_cell E7.out.bq 0).trans rfl, (blk_cell E7.out.bq 1).trans rfl, (blk_cell E7.out.bq 2).trans rfl⟩ (fun hHeld => ?_)
      clear hK K
      refine norm_ (a' := ?_) ?_ ?_
      rotate_left
      ·show Act.put _ (some 70) _ = _
       simp only [Act.put, List.setIfInBounds_toArray, List.set_cons_zero, List.set_cons_succ, i64_w, i32_w]
       rfl
      refine pure_ (i := 4) (N := some 71) (v := ?_) (a' := ?_) #[true, true, true, true, true, false] rfl rfl (by kernel_rfl) (fun _ _ _ h => h) (Or.inl ⟨by rfl, ?_⟩) ?_ ?_
      rotate_left
      ·intro w'
       go_simp
       with_reducible rfl
      rotate_left
      ·simp only [Act.put, List.setIfInBounds_toArray, List.set_cons_zero, List.set_cons_succ, i64_w, i32_w]
       rfl
      refine pure_ (i := 5) (N := some 15) (v := ?_) (a' := ?_) #[true, true, true, true, true, true] rfl rfl (by kernel_rfl) (fun _ _ _ h => h) (Or.inl ⟨by rfl, ?_⟩) ?_ ?_
      rotate_left
      ·intro w'
       go_simp
       with_reducible rfl
      rotate_left
      ·simp only [Act.put, List.setIfInBounds_toArray, List.set_cons_zero, List.set_cons_succ, i64_w, i32_w]
       rfl
      refine done_ (by kernel_rfl) ?_
      clear n0 n1 E5 E6
      go_upto_region 17 with (first | (go_at_call 68; (with_reducible refine (rd_cut _ gx p x _ (szI q) a1 a2 E7.out.rx (cmE_x _ _ _ _ _ _) E7.out.lt (by have := HN.out.1; simp only [List.length_cons] at this; omega) HS.out).mono ?_); rintro e w8 ⟨rfl, h8, hk8⟩; have E8 := aM (E7.out.stepX h8 hk8); clear h8 hk8) | (go_at_call 68; (with_reducible refine (rd_cut _ gy q y _ (szI q) b1 b2 E8.out.ry (cmE_y _ _ _ _ _ _) E8.out.lt (by have := HN.out.2; simp only [List.length_cons] at this; omega) HQ.out).mono ?_); rintro e w9 ⟨rfl, h8, hk8⟩; have E9 := aM (E8.out.stepY h8 hk8); clear h8 hk8; have aa0 := (blk_cell E9.out.bp 0).trans (show _ = some (Value.int .i64 p.f0) from rfl); have aa1 := (blk_cell E9.out.bp 1).trans (show _ = some (Value.string p.f1) from rfl); have aa2 := (blk_cell E9.out.bp 2).trans (show _ = some (Value.string p.f2) from rfl); have bb0 := (blk_cell E9.out.bq 0).trans (show _ = some (Value.int .i64 q.f0) from rfl); have bb1 := (blk_cell E9.out.bq 1).trans (show _ = some (Value.string q.f1) from rfl); have bb2 := (blk_cell E9.out.bq 2).trans (show _ = some (Value.string q.f2) from rfl); have f0 := blk_frozen E9.out.bp 0; have f1 := blk_frozen E9.out.bp 1; have f2 := blk_frozen E9.out.bp 2; have g0 := blk_frozen E9.out.bq 0; have g1 := blk_frozen E9.out.bq 1; have g2 := blk_frozen E9.out.bq 2; have m1 := E9.out.npq; have m2 := m1.symm))
      clear aa0 aa1 aa2 bb0 bb1 bb2 f0 f1 f2 g0 g1 g2 m1 m2
      have EA := aM (E9.out.put a1 b1)
      clear E7 E8 E9
      simp only [put3] at EA
      generalize ((((((w9).setCell ⟨gp, 0, none⟩ (.int .i64 a1.f0)).setCell ⟨gp, 1, none⟩ (.string a1.f1)).setCell ⟨gp, 2, none⟩ (.string a1.f2)).setCell ⟨gq, 0, none⟩ (.int .i64 b1.f0)).setCell ⟨gq, 1, none⟩ (.string b1.f1)).setCell ⟨gq, 2, none⟩ (.string b1.f2) = vA at EA ⊢
      have aa0 := (blk_cell EA.out.bp 0).trans (show _ = some (Value.int .i64 a1.f0) from rfl)
      have aa1 := (blk_cell EA.out.bp 1).trans (show _ = some (Value.string a1.f1) from rfl)
      have aa2 := (blk_cell EA.out.bp 2).trans (show _ = some (Value.string a1.f2) from rfl)
      have bb0 := (blk_cell EA.out.bq 0).trans (show _ = some (Value.int .i64 b1.f0) from rfl)
      have bb1 := (blk_cell EA.out.bq 1).trans (show _ = some (Value.string b1.f1) from rfl)
      have bb2 := (blk_cell EA.out.bq 2).trans (show _ = some (Value.string b1.f2) from rfl)
      have CA := aM EA.out.cm
      clear EA
      by_cases hk : 0 < b1.f0
      ·rw [if_pos hk] at H
       have k0 : decide (b1.f0 > 0) = true := decide_eq_true hk
       have k1 : (b1.f0 > 0) = True := eq_true hk
       clear hk
       obtain ⟨z1, ht, H⟩ := Option.bind_eq_some_iff.mp H
       obtain ⟨htb, rfl⟩ := tkG_is ht
       have HT := aM htb
       have H' := aM H
       clear ht htb H
       go_wp2_with (first | (go_at_call 65; (with_reducible refine (Go.Proofs.Ytlelpomnblaciaa.Mk.maker_takeK w.heap.size gm v s.1 s.2.1 s.2.2 a1.f0 a1.f1 a1.f2 w _ CA.out.hmk CA.out.gm0 HT.out.1 HT.out.2.1 HT.out.2.2).mono ?_); rintro e w8 ⟨rfl, v8, h8, hk8, hv8⟩; have CB := aM (Cm.take (z := takeP s (toP a1)) CA.out h8 hk8 hv8); clear h8 hk8 hv8))
       go_roundg m1
       case measure => omega
       case rel => exact ⟨(restP a2 x), (restP b2 y), takeP s (toP a1), v8, H', ⟨Nat.le_trans (restP_len a2 x) (by have := HN.out.1; simpa using this), Nat.le_trans (restP_len b2 y) (by have := HN.out.2; simpa using this)⟩, CB⟩
      rw [if_neg hk] at H
      have k0 : decide (b1.f0 > 0) = false := decide_eq_false hk
      have k1 : (b1.f0 > 0) = False := eq_false hk
      clear hk
      by_cases hq : 0 < a1.f0
      ·rw [if_pos hq] at H
       have q0 : decide (a1.f0 > 0) = true := decide_eq_true hq
       have q1 : (a1.f0 > 0) = True := eq_true hq
       clear hq
       obtain ⟨z1, ht, H⟩ := Option.bind_eq_some_iff.mp H
       obtain ⟨htb, rfl⟩ := tkG_is ht
       have HT := aM htb
       have H' := aM H
       clear ht htb H
       go_wp2_with (first | (go_at_call 65; (with_reducible refine (Go.Proofs.Ytlelpomnblaciaa.Mk.maker_takeK w.heap.size gm v s.1 s.2.1 s.2.2 b1.f0 b1.f1 b1.f2 w _ CA.out.hmk CA.out.gm0 HT.out.1 HT.out.2.1 HT.out.2.2).mono ?_); rintro e w8 ⟨rfl, v8, h8, hk8, hv8⟩; have CB := aM (Cm.take (z := takeP s (toP b1)) CA.out h8 hk8 hv8); clear h8 hk8 hv8))
       go_roundg m1
       case measure => omega
       case rel => exact ⟨(restP a2 x), (restP b2 y), takeP s (toP b1), v8, H', ⟨Nat.le_trans (restP_len a2 x) (by have := HN.out.1; simpa using this), Nat.le_trans (restP_len b2 y) (by have := HN.out.2; simpa using this)⟩, CB⟩
      rw [if_neg hq] at H
      have q0 : decide (a1.f0 > 0) = false := decide_eq_false hq
      have q1 : (a1.f0 > 0) = False := eq_false hq
      clear hq
      by_cases he : a1.f1 = b1.f2
      rotate_left
      ·rw [if_neg he] at H
       obtain rfl := Option.some.inj H
       obtain ⟨rfl, rfl⟩ := HZ0.out rfl
       have e2 : (a1.f1.toList == b1.f2.toList) = false := beq_eq_false_iff_ne.mpr (fun z => he (ba_injI z))
       have e3 : (a1.f1.toList != b1.f2.toList) = true := bne_iff_ne.mpr (fun z => he (ba_injI z))
       clear he H
       go_wp2_with fail
       go_ret2
       exact ⟨_, rfl, Kd.R_nil _ _ _ _ _, CA.out.hmk.bel⟩
      rw [if_pos he] at H
      have H' := aM H
      have e2 : (a1.f1.toList == b1.f2.toList) = true := by rw [he]; exact beq_iff_eq.mpr rfl
      have e3 : (a1.f1.toList != b1.f2.toList) = false := by rw [he]; exact bne_eq_false_iff_eq.mpr rfl
      clear he H
      go_wp2_with fail
      go_roundg m1
      case measure => omega
      case rel => exact ⟨(restP a2 x), (restP b2 y), s, v, H', ⟨Nat.le_trans (restP_len a2 x) (by have := HN.out.1; simpa using this), Nat.le_trans (restP_len b2 y) (by have := HN.out.2; simpa using this)⟩, CA⟩
     skip
     rw [if_neg hn] at H
     have n0 : decide (szI q < szI p) = false := decide_eq_false hn
     have n1 : (szI q < szI p) = False := eq_false hn
     clear hn
     obtain ⟨⟨a1, a2⟩, hs, H2⟩ := Option.bind_eq_some_iff.mp H
     clear H
     dsimp only at H2
     obtain ⟨⟨b1, b2⟩, ht, H⟩ := Option.bind_eq_some_iff.mp H2
     dsimp only at H
     have HS := aM hs
     have HQ := aM ht
     clear hs ht H2
     refine start_ (n := 6) (S := fun w' => w'.cell? ⟨gp, 0, none⟩ = some (.int .i64 p.f0) ∧ w'.cell? ⟨gp, 1, none⟩ = some (.string p.f1) ∧ w'.cell? ⟨gp, 2, none⟩ = some (.string p.f2) ∧ w'.cell? ⟨gq, 0, none⟩ = some (.int .i64 q.f0) ∧ w'.cell? ⟨gq, 1, none⟩ = some (.string q.f1) ∧ w'.cell? ⟨gq, 2, none⟩ = some (.string q.f2)) (ds := []) #[false, false, false, false, false, false] (by kernel_rfl) rfl rfl ⟨(blk_cell (blk_drew E5.out.bp) 0).trans rfl, (blk_cell (blk_drew E5.out.bp) 1).trans rfl, (blk_cell (blk_drew E5.out.bp) 2).trans rfl, (blk_cell (blk_drew E5.out.bq) 0).trans rfl, (blk_cell (blk_drew E5.out.bq) 1).trans rfl, (blk_cell (blk_drew E5.out.bq) 2).trans rfl⟩ (fun hHeld => ?_)
     refine take_ (i := 0) (N := some 67) (v := ?_) (a' := ?_) #[true, false, false, false, false, false] rfl rfl (by kernel_rfl) (fun _ _ _ h => h) (Or.inl ⟨by rfl, ?_⟩) hHeld ?_ ?_
     rotate_left
     ·rintro w' ⟨s0, s1, s2, s3, s4, s5⟩
      go_simp
      with_reducible rfl
     rotate_left
     ·simp only [Act.put, List.setIfInBounds_toArray, List.set_cons_zero, List.set_cons_succ, i64_w, i32_w]
      rfl
     refine take_ (i := 2) (N := some 69) (v := ?_) (a' := ?_) #[true, false, true, false, false, false] rfl rfl (by kernel_rfl) (fun _ _ _ h => h) (Or.inl ⟨by rfl, ?_⟩) hHeld ?_ ?_
     rotate_left
     ·rintro w' ⟨s0, s1, s2, s3, s4, s5⟩
      go_simp
      with_reducible rfl
     rotate_left
     ·simp only [Act.put, List.setIfInBounds_toArray, List.set_cons_zero, List.set_cons_succ, i64_w, i32_w]
      rfl
     refine one_ (i := 1) (N := some 68) #[true, true, true, false, false, false] rfl rfl (by kernel_rfl) (by decide) (fun K hK => ?_)
     refine goes_ Try.func67 (by kernel_rfl) rfl #[.agg #[.int .i64 p.f0, .string p.f1, .string p.f2]] (by rfl) rfl rfl (by simp only [List.map_toArray, List.map_cons, List.map_nil]; rfl) ?_
     with_reducible refine (yJ.calls p.f0 p.f1 p.f2 (szI p) _ rfl).mono ?_
     rintro e w6 ⟨rfl, hb6⟩
     refine ⟨_, rfl, ?_⟩
     have E6 := aM ((E5.out.below (below_drew (Below.refl _ _))).below hb6)
     clear hb6
     refine hK.out _ _ ⟨(blk_cell E6.out.bp 0).trans rfl, (blk_cell E6.out.bp 1).trans rfl, (blk_cell E6.out.bp 2).trans rfl, (blk_cell E6.out.bq 0).trans rfl, (blk_cell E6.out.bq 1).trans rfl, (blk_cell E6.out.bq 2).trans rfl⟩ (fun hHeld => ?_)
     clear hK K
     refine norm_ (a' := ?_) ?_ ?_
     rotate_left
     ·show Act.put _ (some 68) _ = _
      simp only [Act.put, List.setIfInBounds_toArray, List.set_cons_zero, List.set_cons_succ, i64_w, i32_w]
      rfl
     refine one_ (i := 3) (N := some 70) #[true, true, true, true, false, false] rfl rfl (by kernel_rfl) (by decide) (fun K hK => ?_)
     refine goes_ Try.func67 (by kernel_rfl) rfl #[.agg #[.int .i64 q.f0, .string q.f1, .string q.f2]] (by rfl) rfl rfl (by simp only [List.map_toArray, List.map_cons, List.map_nil]; rfl) ?_
     with_reducible refine (yJ.calls q.f0 q.f1 q.f2 (szI q) _ rfl).mono ?_
     rintro e w7 ⟨rfl, hb7⟩
     refine ⟨_, rfl, ?_⟩
     have E7 := aM (E6.out.below hb7)
     clear hb7
     refine hK.out _ _ ⟨(blk_cell E7.out.bp 0).trans rfl, (blk_cell E7.out.bp 1).trans rfl, (blk_cell E7.out.bp 2).trans rfl, (blk_cell E7.out.bq 0).trans rfl, (blk_cell E7.out.bq 1).trans rfl, (blk_cell E7.out.bq 2).trans rfl⟩ (fun hHeld => ?_)
     clear hK K
     refine norm_ (a' := ?_) ?_ ?_
     rotate_left
     ·show Act.put _ (some 70) _ = _
      simp only [Act.put, List.setIfInBounds_toArray, List.set_cons_zero, List.set_cons_succ, i64_w, i32_w]
      rfl
     refine pure_ (i := 4) (N := some 71) (v := ?_) (a' := ?_) #[true, true, true, true, true, false] rfl rfl (by kernel_rfl) (fun _ _ _ h => h) (Or.inl ⟨by rfl, ?_⟩) ?_ ?_
     rotate_left
     ·intro w'
      go_simp
      with_reducible rfl
     rotate_left
     ·simp only [Act.put, List.setIfInBounds_toArray, List.set_cons_zero, List.set_cons_succ, i64_w, i32_w]
      rfl
     refine pure_ (i := 5) (N := some 15) (v := ?_) (a' := ?_) #[true, true, true, true, true, true] rfl rfl (by kernel_rfl) (fun _ _ _ h => h) (Or.inl ⟨by rfl, ?_⟩) ?_ ?_
     rotate_left
     ·intro w'
      go_simp
      with_reducible rfl
     rotate_left
     ·simp only [Act.put, List.setIfInBounds_toArray, List.set_cons_zero, List.set_cons_succ, i64_w, i32_w]
      rfl
     refine done_ (by kernel_rfl) ?_
     clear n0 n1 E5 E6
     go_upto_region 17 with (first | (go_at_call 68; (with_reducible refine (rd_cut _ gx p x _ (szI p) a1 a2 E7.out.rx (cmE_x _ _ _ _ _ _) E7.out.lt (by have := HN.out.1; simp only [List.length_cons] at this; omega) HS.out).mono ?_); rintro e w8 ⟨rfl, h8, hk8⟩; have E8 := aM (E7.out.stepX h8 hk8); clear h8 hk8) | (go_at_call 68; (with_reducible refine (rd_cut _ gy q y _ (szI p) b1 b2 E8.out.ry (cmE_y _ _ _ _ _ _) E8.out.lt (by have := HN.out.2; simp only [List.length_cons] at this; omega) HQ.out).mono ?_); rintro e w9 ⟨rfl, h8, hk8⟩; have E9 := aM (E8.out.stepY h8 hk8); clear h8 hk8; have aa0 := (blk_cell E9.out.bp 0).trans (show _ = some (Value.int .i64 p.f0) from rfl); have aa1 := (blk_cell E9.out.bp 1).trans (show _ = some (Value.string p.f1) from rfl); have aa2 := (blk_cell E9.out.bp 2).trans (show _ = some (Value.string p.f2) from rfl); have bb0 := (blk_cell E9.out.bq 0).trans (show _ = some (Value.int .i64 q.f0) from rfl); have bb1 := (blk_cell E9.out.bq 1).trans (show _ = some (Value.string q.f1) from rfl); have bb2 := (blk_cell E9.out.bq 2).trans (show _ = some (Value.string q.f2) from rfl); have f0 := blk_frozen E9.out.bp 0; have f1 := blk_frozen E9.out.bp 1; have f2 := blk_frozen E9.out.bp 2; have g0 := blk_frozen E9.out.bq 0; have g1 := blk_frozen E9.out.bq 1; have g2 := blk_frozen E9.out.bq 2; have m1 := E9.out.npq; have m2 := m1.symm))
     clear aa0 aa1 aa2 bb0 bb1 bb2 f0 f1 f2 g0 g1 g2 m1 m2
     have EA := aM (E9.out.put a1 b1)
     clear E7 E8 E9
     simp only [put3] at EA
     generalize ((((((w9).setCell ⟨gp, 0, none⟩ (.int .i64 a1.f0)).setCell ⟨gp, 1, none⟩ (.string a1.f1)).setCell ⟨gp, 2, none⟩ (.string a1.f2)).setCell ⟨gq, 0, none⟩ (.int .i64 b1.f0)).setCell ⟨gq, 1, none⟩ (.string b1.f1)).setCell ⟨gq, 2, none⟩ (.string b1.f2) = vA at EA ⊢
     have aa0 := (blk_cell EA.out.bp 0).trans (show _ = some (Value.int .i64 a1.f0) from rfl)
     have aa1 := (blk_cell EA.out.bp 1).trans (show _ = some (Value.string a1.f1) from rfl)
     have aa2 := (blk_cell EA.out.bp 2).trans (show _ = some (Value.string a1.f2) from rfl)
     have bb0 := (blk_cell EA.out.bq 0).trans (show _ = some (Value.int .i64 b1.f0) from rfl)
     have bb1 := (blk_cell EA.out.bq 1).trans (show _ = some (Value.string b1.f1) from rfl)
     have bb2 := (blk_cell EA.out.bq 2).trans (show _ = some (Value.string b1.f2) from rfl)
     have CA := aM EA.out.cm
     clear EA
     by_cases hk : 0 < b1.f0
     ·rw [if_pos hk] at H
      have k0 : decide (b1.f0 > 0) = true := decide_eq_true hk
      have k1 : (b1.f0 > 0) = True := eq_true hk
      clear hk
      obtain ⟨z1, ht, H⟩ := Option.bind_eq_some_iff.mp H
      obtain ⟨htb, rfl⟩ := tkG_is ht
      have HT := aM htb
      have H' := aM H
      clear ht htb H
      go_wp2_with (first | (go_at_call 65; (with_reducible refine (Go.Proofs.Ytlelpomnblaciaa.Mk.maker_takeK w.heap.size gm v s.1 s.2.1 s.2.2 a1.f0 a1.f1 a1.f2 w _ CA.out.hmk CA.out.gm0 HT.out.1 HT.out.2.1 HT.out.2.2).mono ?_); rintro e w8 ⟨rfl, v8, h8, hk8, hv8⟩; have CB := aM (Cm.take (z := takeP s (toP a1)) CA.out h8 hk8 hv8); clear h8 hk8 hv8))
      go_roundg m1
      case measure => omega
      case rel => exact ⟨(restP a2 x), (restP b2 y), takeP s (toP a1), v8, H', ⟨Nat.le_trans (restP_len a2 x) (by have := HN.out.1; simpa using this), Nat.le_trans (restP_len b2 y) (by have := HN.out.2; simpa using this)⟩, CB⟩
     rw [if_neg hk] at H
     have k0 : decide (b1.f0 > 0) = false := decide_eq_false hk
     have k1 : (b1.f0 > 0) = False := eq_false hk
     clear hk
     by_cases hq : 0 < a1.f0
     ·rw [if_pos hq] at H
      have q0 : decide (a1.f0 > 0) = true := decide_eq_true hq
      have q1 : (a1.f0 > 0) = True := eq_true hq
      clear hq
      obtain ⟨z1, ht, H⟩ := Option.bind_eq_some_iff.mp H
      obtain ⟨htb, rfl⟩ := tkG_is ht
      have HT := aM htb
      have H' := aM H
      clear ht htb H
      go_wp2_with (first | (go_at_call 65; (with_reducible refine (Go.Proofs.Ytlelpomnblaciaa.Mk.maker_takeK w.heap.size gm v s.1 s.2.1 s.2.2 b1.f0 b1.f1 b1.f2 w _ CA.out.hmk CA.out.gm0 HT.out.1 HT.out.2.1 HT.out.2.2).mono ?_); rintro e w8 ⟨rfl, v8, h8, hk8, hv8⟩; have CB := aM (Cm.take (z := takeP s (toP b1)) CA.out h8 hk8 hv8); clear h8 hk8 hv8))
      go_roundg m1
      case measure => omega
      case rel => exact ⟨(restP a2 x), (restP b2 y), takeP s (toP b1), v8, H', ⟨Nat.le_trans (restP_len a2 x) (by have := HN.out.1; simpa using this), Nat.le_trans (restP_len b2 y) (by have := HN.out.2; simpa using this)⟩, CB⟩
     rw [if_neg hq] at H
     have q0 : decide (a1.f0 > 0) = false := decide_eq_false hq
     have q1 : (a1.f0 > 0) = False := eq_false hq
     clear hq
     by_cases he : a1.f1 = b1.f2
     rotate_left
     ·rw [if_neg he] at H
      obtain rfl := Option.some.inj H
      obtain ⟨rfl, rfl⟩ := HZ0.out rfl
      have e2 : (a1.f1.toList == b1.f2.toList) = false := beq_eq_false_iff_ne.mpr (fun z => he (ba_injI z))
      have e3 : (a1.f1.toList != b1.f2.toList) = true := bne_iff_ne.mpr (fun z => he (ba_injI z))
      clear he H
      go_wp2_with fail
      go_ret2
      exact ⟨_, rfl, Kd.R_nil _ _ _ _ _, CA.out.hmk.bel⟩
     rw [if_pos he] at H
     have H' := aM H
     have e2 : (a1.f1.toList == b1.f2.toList) = true := by rw [he]; exact beq_iff_eq.mpr rfl
     have e3 : (a1.f1.toList != b1.f2.toList) = false := by rw [he]; exact bne_eq_false_iff_eq.mpr rfl
     clear he H
     go_wp2_with fail
     go_roundg m1
     case measure => omega
     case rel => exact ⟨(restP a2 x), (restP b2 y), s, v, H', ⟨Nat.le_trans (restP_len a2 x) (by have := HN.out.1; simpa using this), Nat.le_trans (restP_len b2 y) (by have := HN.out.2; simpa using this)⟩, CA⟩
def icEnd (k : Nat) : Option (List Go.Proofs.Ytlelpomnblaciaa.Mk.Pt × ByteArray × ByteArray) → Option (List S53 × Bool)
 | none => some ([], false)
 | some s => if s.1.length ≤ 1000 then yE.f k ((s.1 ++ Go.Proofs.Ytlelpomnblaciaa.Mk.endL s.2.1 s.2.2).map ofP) else none
def jN.f (k : Nat) (l0 l1 : List S53) : Option (List S53 × Bool) :=
 (jT.f k l0).bind fun g0 => if g0 = true then (jT.f k l1).bind fun g1 => if g1 = true then (jR.f k l0).bind fun n0 => (jR.f k l1).bind fun n1 => if n1.1 = n0.2 then (if l0.length ≤ 1000 ∧ l1.length ≤ 1000 then (cmpI k ([], ⟨#[]⟩, ⟨#[]⟩) l0 l1).bind fun o => icEnd k o else none) else some ([], false) else some ([], false) else some ([], false)
theorem icEnd_mono (k : Nat) (o : Option (List Go.Proofs.Ytlelpomnblaciaa.Mk.Pt × ByteArray × ByteArray)) : LeO (icEnd k o) (icEnd (k + 1) o) := by
 cases o with
 | none => exact LeO.refl _
 | some s => exact LeO.ite (yE.mono _ _) (LeO.refl _)
theorem jN.mono : ∀ a0 a1 k, LeO (jN.f k a0 a1) (jN.f (k + 1) a0 a1) := by
 intro a0 a1 k
 unfold jN.f
 exact LeO.bind (jT.mono _ _) (fun _ => LeO.ite (LeO.bind (jT.mono _ _) (fun _ => LeO.ite (LeO.bind (jR.mono _ _) (fun _ => LeO.bind (jR.mono _ _) (fun _ => LeO.ite (LeO.ite (LeO.bind (cmpI_mono _ _ _ _) (fun _ => icEnd_mono _ _)) (LeO.refl _)) (LeO.refl _)))) (LeO.refl _))) (LeO.refl _))
set_option maxHeartbeats 4000000 in
set_option maxRecDepth 100000 in
theorem jN.calls (k : Nat) (A0 : Option Addr) (c0 : Nat) (l0 : List S53) (A1 : Option Addr) (c1 : Nat) (l1 : List S53) (r1 : List S53) (r2 : Bool) (w : World) (hr0 : Kd.C k53 w A0 l0.length l0) (hc0 : l0.length ≤ c0) (hr1 : Kd.C k53 w A1 l1.length l1) (hc1 : l1.length ≤ c1) (h : jN.f k l0 l1 = some (r1, r2)) :
  Calls Try.prog 34 #[.slice A0 l0.length c0, .slice A1 l1.length c1] w fun e w' => ∃ v0_ : Value, e = .returned (.tuple #[v0_, .bool r2]) ∧ Kd.R k53 53 w' w.heap.size (fun _ => True) v0_ r1 ∧ Below w.heap.size w w' := by
 unfold jN.f at h
 obtain ⟨g0, hg0, h⟩ := Option.bind_eq_some_iff.mp h
 have HR0 := aM hr0
 have HR1 := aM hr1
 have HC := aM (And.intro hc0 hc1)
 have G0 := aM hg0
 cases g0 with
 | false =>
  rw [if_neg (by simp)] at h
  obtain ⟨rfl, rfl⟩ := Prod.mk.inj (Option.some.inj h)
  clear h hr0 hr1 hc0 hc1 hg0
  go_enter Try.func34, Try.ntmps34
  go_wp2_with (first | (go_at_call 22; (with_reducible refine (jT.calls k A0 c0 l0 false _ (HR0.out) HC.out.1 G0.out).mono ?_); rintro e w1 ⟨rfl, hb⟩; have B1 := aM (hb); clear hb))
  go_ret2
  exact ⟨_, rfl, Kd.R_nil _ _ _ _ _, B1.out⟩
 | true =>
  rw [if_pos rfl] at h
  obtain ⟨g1, hg1, h⟩ := Option.bind_eq_some_iff.mp h
  have G1 := aM hg1
  cases g1 with
  | false =>
   rw [if_neg (by simp)] at h
   obtain ⟨rfl, rfl⟩ := Prod.mk.inj (Option.some.inj h)
   clear h hr0 hr1 hc0 hc1 hg0 hg1
   go_enter Try.func34, Try.ntmps34
   go_wp2_with (first | (go_at_call 22; (with_reducible refine (jT.calls k A0 c0 l0 true _ (HR0.out) HC.out.1 G0.out).mono ?_); rintro e w1 ⟨rfl, hb⟩; have B1 := aM (hb); clear hb) | (go_at_call 22; (with_reducible refine (jT.calls k A1 c1 l1 false _ (Kd.C_below HR1.out B1.out) HC.out.2 G1.out).mono ?_); rintro e w2 ⟨rfl, hb⟩; have B2 := aM (below_step B1.out hb); clear hb))
   go_ret2
   exact ⟨_, rfl, Kd.R_nil _ _ _ _ _, B2.out⟩
  | true =>
   rw [if_pos rfl] at h
   obtain ⟨n0, hs0, h⟩ := Option.bind_eq_some_iff.mp h
   obtain ⟨n1, hs1, h⟩ := Option.bind_eq_some_iff.mp h
   by_cases he : n1.1 = n0.2
   ·rw [if_pos he] at h
    by_cases hl : l0.length ≤ 1000 ∧ l1.length ≤ 1000
    rotate_left
    ·rw [if_neg hl] at h; cases h
    rw [if_pos hl] at h
    obtain ⟨z, hz, h⟩ := Option.bind_eq_some_iff.mp h
    refine icmp_loop k A0 A1 c0 c1 l0 l1 r1 r2 w 0 0 hr0 hc0 hr1 hc1 hl.1 hl.2 z n0 n1 hg0 hg1 hs0 hs1 he hz (fun s e => ?_) (fun e => ?_)
    rotate_left
    ·subst e
     obtain ⟨rfl, rfl⟩ := Prod.mk.inj (Option.some.inj h)
     exact ⟨rfl, rfl⟩
    subst e
    unfold icEnd at h
    dsimp only at h
    by_cases hs : s.1.length ≤ 1000
    rotate_left
    ·rw [if_neg hs] at h; cases h
    rw [if_pos hs] at h; exact ⟨hs, h⟩
   rw [if_neg he] at h
   obtain ⟨rfl, rfl⟩ := Prod.mk.inj (Option.some.inj h)
   obtain ⟨n00, n01⟩ := n0
   obtain ⟨n10, n11⟩ := n1
   have S0 := aM hs0
   have S1 := aM hs1
   dsimp only at he
   have b0 : (n10 == n01) = false := beq_eq_false_iff_ne.mpr he
   have b1 : (n10 != n01) = true := bne_iff_ne.mpr he
   clear h hr0 hr1 hc0 hc1 hg0 hg1 hs0 hs1
   go_enter Try.func34, Try.ntmps34
   go_wp2_with (first | (go_at_call 22; (with_reducible refine (jT.calls k A0 c0 l0 true _ (HR0.out) HC.out.1 G0.out).mono ?_); rintro e w1 ⟨rfl, hb⟩; have B1 := aM (hb); clear hb) | (go_at_call 22; (with_reducible refine (jT.calls k A1 c1 l1 true _ (Kd.C_below HR1.out B1.out) HC.out.2 G1.out).mono ?_); rintro e w2 ⟨rfl, hb⟩; have B2 := aM (below_step B1.out hb); clear hb) | (go_at_call 52; (with_reducible refine (jR.calls k A0 c0 l0 n00 n01 _ (Kd.C_below HR0.out B2.out) HC.out.1 S0.out).mono ?_); rintro e w3 ⟨rfl, hb⟩; have B3 := aM (below_step B2.out hb); clear hb) | (go_at_call 52; (with_reducible refine (jR.calls k A1 c1 l1 n10 n11 _ (Kd.C_below HR1.out B3.out) HC.out.2 S1.out).mono ?_); rintro e w4 ⟨rfl, hb⟩; have B4 := aM (below_step B3.out hb); clear hb))
   go_ret2
   exact ⟨_, rfl, Kd.R_nil _ _ _ _ _, B4.out⟩
def jL.l0 : Nat → List (S53) → List (S53) → Int → Int → Option (Bool)
 | 0, _, _, _, _ => none
 | k + 1, x0, x1, x12, x13 => if x13 < x12 then (if 0 ≤ x13 then (if x13 < (x0.length : Int) then (if x13 < (x1.length : Int) then (if (!(((rd_T53 x0 x13).f0) == ((rd_T53 x1 x13).f0)) || (!((((rd_T53 x0 x13).f1).toList) == (((rd_T53 x1 x13).f1).toList)) || (!((((rd_T53 x0 x13).f2).toList) == (((rd_T53 x1 x13).f2).toList))))) = true then (some false) else (jL.l0 k x0 x1 x12 (wrap64 (x13 + 1)))) else (none)) else (none)) else (none)) else (some true)
def jL.f (k : Nat) (l0 : List (S53)) (l1 : List (S53)) : Option (Bool) := if (l0.length : Int) = (l1.length : Int) then (jL.l0 k l0 l1 (l0.length : Int) 0) else (some false)
theorem jL.mono_l : ∀ k, (∀ y0 y1 y2 y3, LeO (jL.l0 k y0 y1 y2 y3) (jL.l0 (k + 1) y0 y1 y2 y3))
 | 0 => fun _ _ _ _ r h => by simp [jL.l0] at h
 | k + 1 => by
  have ih0 := jL.mono_l k
  ·intro y0 y1 y2 y3
   unfold jL.l0
   repeat' first
   | (with_reducible exact ih0 _ _ _ _)
   | (with_reducible exact LeO.refl _)
   | (with_reducible exact LeO.none _)
   | (with_reducible refine LeO.ite ?_ ?_)
   | (with_reducible refine LeO.bind ?_ (fun _ => ?_))
   | exact ih0 _ _ _ _
   | exact LeO.none _
   | refine LeO.ite ?_ ?_
   | refine LeO.bind ?_ (fun _ => ?_)
theorem jL.mono : ∀ a0 a1 k, LeO (jL.f k a0 a1) (jL.f (k + 1) a0 a1) := by
 intro a0 a1 k
 have ih0 := jL.mono_l k
 unfold jL.f
 repeat' first
   | (with_reducible exact ih0 _ _ _ _)
   | (with_reducible exact LeO.refl _)
   | (with_reducible exact LeO.none _)
   | (with_reducible refine LeO.ite ?_ ?_)
   | (with_reducible refine LeO.bind ?_ (fun _ => ?_))
   | exact ih0 _ _ _ _
   | exact LeO.none _
   | refine LeO.ite ?_ ?_
   | refine LeO.bind ?_ (fun _ => ?_)
set_option maxHeartbeats 8000000 in
set_option maxRecDepth 100000 in
theorem jL.calls (k : Nat) (A0 : Option Addr) (c0 : Nat) (l0 : List (S53)) (A1 : Option Addr) (c1 : Nat) (l1 : List (S53)) (r : Bool) (w : World) (hr0 : Kd.C k53 w A0 l0.length l0) (hc0 : l0.length ≤ c0) (hr1 : Kd.C k53 w A1 l1.length l1) (hc1 : l1.length ≤ c1) (h : jL.f k l0 l1 = some r) :
  Calls Try.prog 36 #[.slice A0 l0.length c0, .slice A1 l1.length c1] w fun e w' => e = .returned (.bool r) ∧ Drawn0 w w' := by
 have hu53 := Try.underlying53
 have HR0 := aM hr0
 have HC0 := aM hc0
 clear hr0 hc0
 have HR1 := aM hr1
 have HC1 := aM hc1
 clear hr1 hc1
 have H : (if (l0.length : Int) = (l1.length : Int) then (jL.l0 k l0 l1 (l0.length : Int) 0) else (some false)) = some r := h
 clear h
 by_cases c3 : (l0.length : Int) = (l1.length : Int)
 rotate_left
 ·rw [if_neg c3] at H
  have c3b0 : ((l0.length : Int) == (l1.length : Int)) = false := beq_eq_false_iff_ne.mpr c3
  have c3b1 : ((l0.length : Int) != (l1.length : Int)) = true := bne_iff_ne.mpr c3
  have c3b2 : (l0.length == l1.length) = false := by first | simpa using c3 | (simp at c3 ⊢; omega)
  obtain rfl := Option.some.inj H
  go_enter Try.func36, Try.ntmps36
  go_wp2
  repeat (go_quiet (fail); try go_wp2)
  go_ret
  exact ⟨by first | rfl | (simp; done) | (simp [*]; done), by repeat (first | exact Drawn0.refl _ | apply Drawn0.step)⟩
 rw [if_pos c3] at H
 have c3b0 : ((l0.length : Int) == (l1.length : Int)) = true := beq_iff_eq.mpr c3
 have c3b1 : ((l0.length : Int) != (l1.length : Int)) = false := bne_eq_false_iff_eq.mpr c3
 have c3b2 : (l0.length == l1.length) = true := by first | simpa using c3 | (simp at c3 ⊢; omega)
 clear c3
 have H' := aM H
 clear H
 go_enter Try.func36, Try.ntmps36
 go_wp2
 repeat (go_quiet (fail); try go_wp2)
 go_loopg [13] k (fun kq v13 w' => ∃ (x13_1 : Int), v13 = .int .i64 x13_1 ∧ Aside0 (jL.l0 kq l0 l1 (l0.length : Int) x13_1 = some r) ∧ Aside0 (kq ≤ k) ∧ Drawn0 w w')
 case atStart => exact ⟨(0), aP16, H', ⟨Nat.le_refl _⟩, by repeat (first | exact Drawn0.refl _ | apply Drawn0.step)⟩
 case round =>
  clear H'
  try clear c1
  try clear p2
  try clear c3
  try clear c3b0
  try clear c3b1
  try clear c3b2
  obtain ⟨x13_1, rfl, HA, HK1, ⟨m1, rfl⟩⟩ := hrel
  cases gk with
  | zero => exact absurd HA.out (by simp [jL.l0])
  | succ k1 =>
   have H := HA.out
   clear HA
   simp only [jL.l0] at H
   by_cases c4 : x13_1 < (l0.length : Int)
   rotate_left
   ·rw [if_neg c4] at H
    have c4b0 : decide (x13_1 < (l0.length : Int)) = false := decide_eq_false c4
    clear c4
    obtain rfl := Option.some.inj H
    go_wp2
    repeat (go_quiet (fail); try go_wp2)
    go_ret
    exact ⟨by first | rfl | (simp; done) | (simp [*]; done), by repeat (first | exact Drawn0.refl _ | apply Drawn0.step)⟩
   rw [if_pos c4] at H
   have c4b0 : decide (x13_1 < (l0.length : Int)) = true := decide_eq_true c4
   clear c4
   by_cases c5 : 0 ≤ x13_1
   rotate_left
   ·rw [if_neg c5] at H
    exact absurd H (by simp)
   rw [if_pos c5] at H
   have c5b0 : decide (0 ≤ x13_1) = true := decide_eq_true c5
   clear c5
   by_cases c6 : x13_1 < (l0.length : Int)
   rotate_left
   ·rw [if_neg c6] at H
    exact absurd H (by simp)
   rw [if_pos c6] at H
   have c6b0 : decide (x13_1 < (l0.length : Int)) = true := decide_eq_true c6
   clear c6
   by_cases c7 : x13_1 < (l1.length : Int)
   rotate_left
   ·rw [if_neg c7] at H
    exact absurd H (by simp)
   rw [if_pos c7] at H
   have c7b0 : decide (x13_1 < (l1.length : Int)) = true := decide_eq_true c7
   clear c7
   by_cases c8 : (!(((rd_T53 l0 x13_1).f0) == ((rd_T53 l1 x13_1).f0)) || (!((((rd_T53 l0 x13_1).f1).toList) == (((rd_T53 l1 x13_1).f1).toList)) || (!((((rd_T53 l0 x13_1).f2).toList) == (((rd_T53 l1 x13_1).f2).toList))))) = true
   ·rw [if_pos c8] at H
    have c8b0 : (!(((rd_T53 l0 x13_1).f0) == ((rd_T53 l1 x13_1).f0)) || (!((((rd_T53 l0 x13_1).f1).toList) == (((rd_T53 l1 x13_1).f1).toList)) || (!((((rd_T53 l0 x13_1).f2).toList) == (((rd_T53 l1 x13_1).f2).toList))))) = true := c8
    clear c8
    obtain rfl := Option.some.inj H
    have p180 : 0 ≤ (x13_1 : Int) := of_decide_eq_true (by assumption)
    have q180 : x13_1 < (l0.length : Int) := of_decide_eq_true (by assumption)
    obtain ⟨ad180, e180, hx180_0, hx180_1, hx180_2⟩ := at_T53 HR0.out x13_1 p180 q180
    cases e180
    replace p180 := eq_true p180
    replace q180 := eq_true q180
    have p181 : 0 ≤ (x13_1 : Int) := of_decide_eq_true (by assumption)
    have q181 : x13_1 < (l1.length : Int) := of_decide_eq_true (by assumption)
    obtain ⟨ad181, e181, hx181_0, hx181_1, hx181_2⟩ := at_T53 HR1.out x13_1 p181 q181
    cases e181
    replace p181 := eq_true p181
    replace q181 := eq_true q181
    go_wp2
    repeat (go_quiet (fail); try go_wp2)
    go_ret
    exact ⟨by first | rfl | (simp; done) | (simp [*]; done), by repeat (first | exact Drawn0.refl _ | apply Drawn0.step)⟩
   rw [if_neg c8] at H
   have c8b0 : (!(((rd_T53 l0 x13_1).f0) == ((rd_T53 l1 x13_1).f0)) || (!((((rd_T53 l0 x13_1).f1).toList) == (((rd_T53 l1 x13_1).f1).toList)) || (!((((rd_T53 l0 x13_1).f2).toList) == (((rd_T53 l1 x13_1).f2).toList))))) = false := by simpa using c8
   clear c8
   have H' := aM H
   clear H
   have p180 : 0 ≤ (x13_1 : Int) := of_decide_eq_true (by assumption)
   have q180 : x13_1 < (l0.length : Int) := of_decide_eq_true (by assumption)
   obtain ⟨ad180, e180, hx180_0, hx180_1, hx180_2⟩ := at_T53 HR0.out x13_1 p180 q180
   cases e180
   replace p180 := eq_true p180
   replace q180 := eq_true q180
   have p181 : 0 ≤ (x13_1 : Int) := of_decide_eq_true (by assumption)
   have q181 : x13_1 < (l1.length : Int) := of_decide_eq_true (by assumption)
   obtain ⟨ad181, e181, hx181_0, hx181_1, hx181_2⟩ := at_T53 HR1.out x13_1 p181 q181
   cases e181
   replace p181 := eq_true p181
   replace q181 := eq_true q181
   go_wp2
   repeat (go_quiet (fail); try go_wp2)
   go_roundg k1
   case measure => have := HK1.out; omega
   case rel => exact ⟨(wrap64 (x13_1 + 1)), aP16, H', ⟨by have := HK1.out; omega⟩, by repeat (first | exact Drawn0.refl _ | apply Drawn0.step)⟩
end Go.Proofs.Ytlelpomnblaciaa.PFnComposed
