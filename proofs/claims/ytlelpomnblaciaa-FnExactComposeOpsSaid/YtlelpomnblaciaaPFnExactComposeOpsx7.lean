/- Written by a program of this session (wip/ovl.py) over the kit's print: plain functions with the answers of the Go functions, and the proofs that they are; no condition. -/
import Derived.Test.YtlelpomnblaciaaMk
import Derived.Test.YtlelpomnblaciaaPFnExactComposeOpsx0
import Derived.Test.YtlelpomnblaciaaPFnExactComposeOpsx4
import Derived.Test.YtlelpomnblaciaaPFnExactComposeOpsx5
import Derived.Test.YtlelpomnblaciaaPFnExactComposeOpsx6
namespace Go.Proofs.Ytlelpomnblaciaa.PFnExactComposeOps
open Go.RowKit Go.Proofs.YtlelpomnblaciaaW.PrintWords Go.Proofs.YtlelpomnblaciaaW.PrintLast Go.Proofs.YtlelpomnblaciaaW.PrintMore
attribute [local go_sem] max2_int min2_int max_two min_two max_three min_three max_four min_four   -- for this text's walks alone
set_option linter.unusedVariables false
set_option linter.unusedSimpArgs false

/-! ### spec_l3Compose: function 62 (by hand) -/
-- import Mk
/-- The putting together of the reference, round by round; k is the fuel of what it calls. -/
def cmpS (k : Nat) : Nat → List S53 → List S53 → List S53 → Option (List S53 × Bool)
  | 0, _, _, _ => none
  | m + 1, out, [], [] => some (out, true)
  | m + 1, out, p :: x, [] => if p.f2.toList = ([] : List UInt8) then some ([], false) else (spec_l3Add.f k out p.f0 p.f1 p.f2).bind fun o => cmpS k m o x []
  | m + 1, out, [], q :: y => if q.f1.toList = ([] : List UInt8) then some ([], false) else (spec_l3Add.f k out q.f0 q.f1 q.f2).bind fun o => cmpS k m o [] y
  | m + 1, out, p :: x, q :: y =>
    if p.f2.toList = ([] : List UInt8) then
      (if q.f1.toList = ([] : List UInt8) then
        ((takQ (p :: x) (if szQ q < szQ p then szQ q else szQ p)).bind fun s => (takQ (q :: y) (if szQ q < szQ p then szQ q else szQ p)).bind fun t =>
          if 0 < s.1.f0 then (spec_l3Add.f k out t.1.f0 t.1.f1 t.1.f2).bind fun o => cmpS k m o s.2 t.2
          else if 0 < t.1.f0 then (spec_l3Add.f k out s.1.f0 s.1.f1 s.1.f2).bind fun o => cmpS k m o s.2 t.2
          else if s.1.f1 = t.1.f2 then cmpS k m out s.2 t.2 else some ([], false))
      else (spec_l3Add.f k out q.f0 q.f1 q.f2).bind fun o => cmpS k m o (p :: x) y)
    else (spec_l3Add.f k out p.f0 p.f1 p.f2).bind fun o => cmpS k m o x (q :: y)
theorem takQ_all (p : S53) (r : List S53) : takQ (p :: r) (szQ p) = some (p, r) := by
  unfold takQ
  dsimp only
  rw [if_pos rfl]
/-- A reader's row lies below the heap's end. -/
theorem IsL3.low {w : World} {g : Nat} {l : List S53} {S : Nat → Prop} (h : IsL3 w g l S) : ∃ (A : Option Addr) (c : Nat), w.heap[g]? = some (.cells #[.slice A l.length c] 92 (0, 0)) ∧ l.length ≤ c ∧ Kd.C k53 w A l.length l ∧ (∀ ad, A = some ad → 0 < l.length → ¬ S ad.block ∧ ad.block < w.heap.size) := by
  obtain ⟨A, c, h1, h2, h3, h4⟩ := h
  refine ⟨A, c, h1, h2, h3, fun ad e hn => ⟨h4 ad e hn, ?_⟩⟩
  obtain ⟨ad', e3, hx0, _, _⟩ := at_T53 h3 0 (Int.le_refl _) (by omega)
  rw [e] at e3
  obtain rfl := Option.some.inj e3
  rw [show ((0 : Int)).toNat = 0 from rfl, show 0 * 3 = 0 from rfl, Addr.add_zero'] at hx0
  exact World.block_lt_of_cell? w _ hx0
/-- The reader stands behind a call that turns none of its blocks; what it must stay clear of may have grown by new blocks. -/
theorem IsL3.next {w w' : World} {g : Nat} {l : List S53} {S P S' : Nat → Prop} (h : IsL3 w g l S) (hk : Kept w w' P) (hP : ∀ k, P k → S k) (hg : ¬ P g) (hs : ∀ k, S' k → S k ∨ w.heap.size ≤ k) : IsL3 w' g l S' := by
  obtain ⟨A, c, h1, h2, h3, h4⟩ := h.low
  refine ⟨A, c, blk_kept h1 hk hg, h2, ?_, fun ad e hn q => ?_⟩
  · exact Kd.C_foot_neS (S := P) (fun h => h) h3 (fun ad e hn hq => (h4 ad e hn).1 (hP _ hq)) w' hk
  · obtain ⟨a1, a2⟩ := h4 ad e hn
    rcases hs _ q with q | q
    · exact a1 q
    · omega
/-- What a reader's row must stay clear of. -/
def cmpB (gx gy : Nat) (v : Value) (k : Nat) : Prop := k = gx ∨ k = gy ∨ v.ownBlock = some k
theorem cmpB_x (gx gy : Nat) (v : Value) : cmpB gx gy v gx := .inl rfl
theorem cmpB_y (gx gy : Nat) (v : Value) : cmpB gx gy v gy := .inr (.inl rfl)
theorem cmp_init {w w' : World} {g gx gy c : Nat} {A : Option Addr} {l : List S53} (hb : w'.heap[g]? = some (.cells #[.slice A l.length c] 92 (0, 0))) (hc : l.length ≤ c) (hr : Kd.C k53 w A l.length l) (hB : Below w.heap.size w w') (h1 : w.heap.size ≤ gx) (h2 : w.heap.size ≤ gy) : IsL3 w' g l (cmpB gx gy (.slice none 0 0)) := by
  refine ⟨A, c, hb, hc, Kd.C_foot_neS (S := fun _ => False) (fun h => h) hr (fun _ _ _ q => q) w' (Kept.of_below hB (fun _ => False)), fun ad e hn q => ?_⟩
  obtain ⟨ad', e3, hx0, _, _⟩ := at_T53 hr 0 (Int.le_refl _) (by omega)
  rw [e] at e3
  obtain rfl := Option.some.inj e3
  rw [show ((0 : Int)).toNat = 0 from rfl, show 0 * 3 = 0 from rfl, Addr.add_zero'] at hx0
  have := World.block_lt_of_cell? w _ hx0
  rcases q with q | q | q
  · omega
  · omega
  · cases q
theorem l3_done_nil (w : World) (g : Nat) (S : Nat → Prop) (h : IsL3 w g [] S) : Calls Try.prog 79 #[.pointer (some ⟨g, 0, none⟩)] w fun e w' => e = .returned (.bool true) ∧ w = w' := l3_done w g [] S h
theorem l3_done_cons (w : World) (g : Nat) (p : S53) (l : List S53) (S : Nat → Prop) (h : IsL3 w g (p :: l) S) : Calls Try.prog 79 #[.pointer (some ⟨g, 0, none⟩)] w fun e w' => e = .returned (.bool false) ∧ w = w' := by
  refine (l3_done w g (p :: l) S h).mono ?_
  rintro e w' ⟨rfl, rfl⟩
  refine ⟨?_, rfl⟩
  rw [show (((p :: l).length : Int) == 0) = false from beq_eq_false_iff_ne.mpr (by rw [List.length_cons]; omega)]
/-- The three that stand together in a round: the two readers, and what is made. -/
structure Cmp3 (w0 w : World) (gx gy : Nat) (x y out : List S53) (v : Value) : Prop where
  rx : IsL3 w gx x (cmpB gx gy v)
  ry : IsL3 w gy y (cmpB gx gy v)
  row : Kd.R k53 53 w w0.heap.size (fun k => v.ownBlock = some k) v out
  nx : v.ownBlock ≠ some gx
  ny : v.ownBlock ≠ some gy
  bel : Below w0.heap.size w0 w
  ne : gx ≠ gy
  gx0 : w0.heap.size ≤ gx
  gy0 : w0.heap.size ≤ gy
theorem Cmp3.lt {w0 w : World} {gx gy : Nat} {x y out : List S53} {v : Value} (h : Cmp3 w0 w gx gy x y out v) : gx < w.heap.size ∧ gy < w.heap.size ∧ (∀ k, cmpB gx gy v k → k < w.heap.size) := by
  obtain ⟨A, c, a1, _⟩ := h.rx
  obtain ⟨B, d, b1, _⟩ := h.ry
  have e1 := blk_lt a1
  have e2 := blk_lt b1
  refine ⟨e1, e2, fun k q => ?_⟩
  rcases q with q | q | q
  · omega
  · omega
  · exact own_lt (R_cells h.row).2 k q
theorem Cmp3.below {w0 w w' : World} {gx gy : Nat} {x y out : List S53} {v : Value} (h : Cmp3 w0 w gx gy x y out v) (hb : Below w.heap.size w w') : Cmp3 w0 w' gx gy x y out v :=
  ⟨h.rx.below hb, h.ry.below hb, Kd.R_below h.row hb, h.nx, h.ny, below_then h.bel h.bel.size hb, h.ne, h.gx0, h.gy0⟩
theorem Cmp3.takeX {w0 w w' : World} {gx gy : Nat} {x x' y out : List S53} {v : Value} (h : Cmp3 w0 w gx gy x y out v) (h1 : IsL3 w' gx x' (cmpB gx gy v)) (hk : KeptB w w' (fun k => k = gx)) : Cmp3 w0 w' gx gy x' y out v :=
  ⟨h1, h.ry.kept hk.kept (fun q => h.ne q.symm) (fun _ q => .inl q), Kd.R_step h.row (fun k ho hl => hk.kept.2 k hl (fun q => h.nx (q ▸ ho))), h.nx, h.ny, hk.below h.bel h.bel.size (fun k q => by rw [q]; exact h.gx0), h.ne, h.gx0, h.gy0⟩
theorem Cmp3.takeY {w0 w w' : World} {gx gy : Nat} {x y y' out : List S53} {v : Value} (h : Cmp3 w0 w gx gy x y out v) (h1 : IsL3 w' gy y' (cmpB gx gy v)) (hk : KeptB w w' (fun k => k = gy)) : Cmp3 w0 w' gx gy x y' out v :=
  ⟨h.rx.kept hk.kept (fun q => h.ne q) (fun _ q => .inr (.inl q)), h1, Kd.R_step h.row (fun k ho hl => hk.kept.2 k hl (fun q => h.ny (q ▸ ho))), h.nx, h.ny, hk.below h.bel h.bel.size (fun k q => by rw [q]; exact h.gy0), h.ne, h.gx0, h.gy0⟩
theorem Cmp3.add {w0 w w' : World} {gx gy : Nat} {x y out o : List S53} {v v' : Value} (h : Cmp3 w0 w gx gy x y out v) (hr : Kd.R k53 53 w' w0.heap.size (fun k => v.ownBlock = some k ∨ w.heap.size ≤ k) v' o) (hb : Below w0.heap.size w0 w') (hk : Kept w w' (fun k => v.ownBlock = some k)) : Cmp3 w0 w' gx gy x y o v' := by
  obtain ⟨l1, l2, _⟩ := h.lt
  have hs : ∀ k, cmpB gx gy v' k → cmpB gx gy v k ∨ w.heap.size ≤ k := fun k q => by
    rcases q with q | q | q
    · exact .inl (.inl q)
    · exact .inl (.inr (.inl q))
    · exact (hr.1 k q).imp (fun z => .inr (.inr z)) (fun z => z)
  refine ⟨h.rx.next hk (fun k q => .inr (.inr q)) h.nx hs, h.ry.next hk (fun k q => .inr (.inr q)) h.ny hs, Kd.R_flat (fun {ok1 ok2 x cs} hm => by obtain rfl := k53_openM hm; exact k53_mkM _ _ _ x) hr (fun k e _ => e), fun q => ?_, fun q => ?_, hb, h.ne, h.gx0, h.gy0⟩
  · exact (hr.1 gx q).elim h.nx (fun z => by omega)
  · exact (hr.1 gy q).elim h.ny (fun z => by omega)
theorem cmpS_drop {k m : Nat} {out : List S53} {p : S53} {x y : List S53} (h : ¬ p.f2.toList = ([] : List UInt8)) : cmpS k (m + 1) out (p :: x) y = (spec_l3Add.f k out p.f0 p.f1 p.f2).bind fun o => cmpS k m o x y := by
  cases y <;> rw [cmpS, if_neg h]
theorem Cmp3.keptF {w0 w w' : World} {gx gy : Nat} {x y out : List S53} {v : Value} (h : Cmp3 w0 w gx gy x y out v) (hk : KeptB w w' (fun _ => False)) : Cmp3 w0 w' gx gy x y out v :=
  ⟨h.rx.kept hk.kept (fun q => q) (fun _ q => q.elim), h.ry.kept hk.kept (fun q => q) (fun _ q => q.elim), Kd.R_step h.row (fun k _ hl => hk.kept.2 k hl (fun q => q)), h.nx, h.ny, hk.below h.bel h.bel.size (fun _ q => q.elim), h.ne, h.gx0, h.gy0⟩
/-- A box of a part, made and filled. -/
theorem Cmp3.box3 {w0 w w1 : World} {g gx gy : Nat} {x y out : List S53} {v : Value} (h : Cmp3 w0 w gx gy x y out v) (hb : Below w.heap.size w w1) (hg : g = w.heap.size) (a b c : Value) : Cmp3 w0 (((w1.setCell ⟨g, 0, none⟩ a).setCell ⟨g, 1, none⟩ b).setCell ⟨g, 2, none⟩ c) gx gy x y out v :=
  h.keptF ((((KeptB.of_below hb (fun _ => False)).setCell (p := ⟨g, 0, none⟩) (.inr (Nat.le_of_eq hg.symm)) a).setCell (p := ⟨g, 1, none⟩) (.inr (Nat.le_of_eq hg.symm)) b).setCell (p := ⟨g, 2, none⟩) (.inr (Nat.le_of_eq hg.symm)) c)
theorem Cmp3.fresh {w0 w : World} {g gx gy : Nat} {x y out : List S53} {v : Value} (h : Cmp3 w0 w gx gy x y out v) (hg : g = w.heap.size) : ¬ g = gx ∧ ¬ g = gy := by
  obtain ⟨a, b, _⟩ := h.lt
  omega
theorem blk3 {w : World} {g : Nat} (h : w.heap[g]? = some (.cells #[.int .i64 0, .string (⟨#[]⟩ : ByteArray), .string (⟨#[]⟩ : ByteArray)] 53 (0, 0))) (a : Int) (b c : ByteArray) : (((w.setCell ⟨g, 0, none⟩ (.int .i64 a)).setCell ⟨g, 1, none⟩ (.string b)).setCell ⟨g, 2, none⟩ (.string c)).heap[g]? = some (.cells #[.int .i64 a, .string b, .string c] 53 (0, 0)) :=
  blk_put (cs' := #[.int .i64 a, .string b, .string c]) (blk_put (cs' := #[.int .i64 a, .string b, .string (⟨#[]⟩ : ByteArray)]) (blk_put (cs' := #[.int .i64 a, .string (⟨#[]⟩ : ByteArray), .string (⟨#[]⟩ : ByteArray)]) h 0 (.int .i64 a) rfl) 1 (.string b) rfl) 2 (.string c) rfl
theorem takQ_len {p x : S53} {r l' : List S53} {n : Int} (h : takQ (p :: r) n = some (x, l')) : l'.length ≤ (p :: r).length := by
  by_cases hn : n = szQ p
  · unfold takQ at h
    dsimp only at h
    rw [if_pos hn] at h
    simp only [Option.some.injEq, Prod.mk.injEq] at h
    rw [← h.2, List.length_cons]; omega
  · rcases takQ_cases hn h with h | h | h
    · rw [h.2.2]; simp
    · rw [h.2.2.2.2]; simp
    · rw [h.2.2.2.2]; simp
theorem ba_inj {a b : ByteArray} (h : a.toList = b.toList) : a = b := by
  rw [ByteArray.toList_eq, ByteArray.toList_eq] at h
  exact ByteArray.ext (Array.toList_inj.1 h)
set_option maxHeartbeats 8000000 in
set_option maxRecDepth 100000 in
theorem l3_compose (k m : Nat) (A0 A1 : Option Addr) (c0 c1 : Nat) (a b : List S53) (r : List S53) (ok : Bool) (w : World) (hr0 : Kd.C k53 w A0 a.length a) (hc0 : a.length ≤ c0) (hr1 : Kd.C k53 w A1 b.length b) (hc1 : b.length ≤ c1) (ha : a.length ≤ 1000) (hb : b.length ≤ 1000) (h : cmpS k m [] a b = some (r, ok)) :
    Calls Try.prog 62 #[.slice A0 a.length c0, .slice A1 b.length c1] w fun e w' => ∃ v0_ : Value, e = .returned (.tuple #[v0_, .bool ok]) ∧ Kd.R k53 53 w' w.heap.size (fun _ => True) v0_ r ∧ Below w.heap.size w w' := by
  have hu53 := Try.underlying53
  have hu92 := Try.underlying92
  have HR0 := Aside0.mk hr0
  have HR1 := Aside0.mk hr1
  have HN := Aside0.mk (And.intro ha hb)
  have HC := Aside0.mk (And.intro hc0 hc1)
  have H' := Aside0.mk h
  clear hr0 hr1 ha hb hc0 hc1 h
  go_enter Try.func62, Try.ntmps62
  go_wp2_with (first | ((with_reducible refine gate_dst (N := 14) rfl ?_); refine box_event ?hg (N := 14) ?hd (cs := #[.slice A0 a.length c0]) (t := 92) ?hr ?_; (case hd => rfl); (case hg => rfl); (case hr => first | (go_simp; done) | (go_simp; rfl)); intro gx hggx_ wgx hbox hb; have HX := Aside0.mk hbox; have BX := Aside0.mk hb; have GX := Aside0.mk hggx_; clear hbox hb hggx_) | ((with_reducible refine gate_dst (N := 17) rfl ?_); refine box_event ?hg (N := 17) ?hd (cs := #[.slice A1 b.length c1]) (t := 92) ?hr ?_; (case hd => rfl); (case hg => rfl); (case hr => first | (go_simp; done) | (go_simp; rfl)); intro gy hggy_ wgy hbox hb; have HY := Aside0.mk hbox; have HX2 := Aside0.mk (blk_below HX.out hb); have BY := Aside0.mk hb; have GY := Aside0.mk hggy_; clear hbox hb hggy_))
  have l1 := BX.out.size
  have l2 : wgx.heap.size ≤ wgy.heap.size := BY.out.size
  have l3 : gx < wgx.heap.size := blk_lt HX.out
  have e1 : gx = w.heap.size := GX.out
  have e2 : gy = wgx.heap.size := GY.out
  have HB := Aside0.mk (below_step BX.out BY.out)
  have IX := Aside0.mk (cmp_init (gx := gx) (gy := gy) HX2.out HC.out.1 HR0.out HB.out (Nat.le_of_eq e1.symm) (by omega))
  have IY := Aside0.mk (cmp_init (gx := gx) (gy := gy) HY.out HC.out.2 HR1.out HB.out (Nat.le_of_eq e1.symm) (by omega))
  have NE := Aside0.mk (show gx ≠ gy ∧ w.heap.size ≤ gx ∧ w.heap.size ≤ gy by omega)
  clear HX HX2 HY BX BY HC l1 l2 l3 e1 e2 GX GY HR0 HR1
  have C0 := Aside0.mk (⟨IX.out, IY.out, Kd.R_nil _ _ _ _ _, (by intro q; cases q), (by intro q; cases q), HB.out, NE.out.1, NE.out.2.1, NE.out.2.2⟩ : Cmp3 w wgy gx gy a b [] (.slice none 0 0))
  clear IX IY NE HB
  go_loopg [6] m (fun kq v6 w' => ∃ (out x y : List S53), Aside0 (cmpS k kq out x y = some (r, ok)) ∧ Aside0 (x.length ≤ 1000 ∧ y.length ≤ 1000) ∧ Aside0 (Cmp3 w w' gx gy x y out v6))
  case atStart => exact ⟨[], a, b, H', HN, C0⟩
  case round =>
    clear H' C0 HN
    obtain ⟨out, x, y, HA, HN, C0⟩ := hrel
    cases gk with
    | zero => exact absurd HA.out (by simp [cmpS])
    | succ m1 =>
      have H := HA.out
      clear HA
      cases x with
      | nil =>
        cases y with
        | nil =>
          have H1 : some (out, true) = some (r, ok) := H
          clear H
          simp only [Option.some.injEq, Prod.mk.injEq] at H1
          obtain ⟨rfl, rfl⟩ := H1
          go_wp2_with (first | (go_at_call 79; with_reducible refine (l3_done_nil _ gx _ C0.out.rx).mono ?_; rintro e w_ ⟨rfl, rfl⟩) | (go_at_call 79; with_reducible refine (l3_done_nil _ gy _ C0.out.ry).mono ?_; rintro e w_ ⟨rfl, rfl⟩))
          go_ret2
          exact ⟨_, rfl, Kd.R_mono C0.out.row (fun _ _ => trivial), C0.out.bel⟩
        | cons q y =>
          obtain ⟨Ay, cy, hk_, hc_, hr_, _⟩ := C0.out.ry
          have c1 := (blk_cell hk_ 0).trans (show _ = some (Value.slice Ay (y.length + 1) cy) from rfl)
          obtain ⟨ady, e3, hy0, hy1, hy2⟩ := at_T53 hr_ 0 (Int.le_refl _) (by rw [List.length_cons]; omega)
          cases e3
          rw [show ((0 : Int)).toNat = 0 from rfl, show 0 * 3 = 0 from rfl, Addr.add_zero', show rd_T53 (q :: y) 0 = q from rfl] at hy0 hy1 hy2
          have y0 : ((0 : Int) < (y.length : Int) + 1) = True := eq_true (by omega)
          have y1 : (0 < y.length + 1) = True := eq_true (by omega)
          clear hk_ hc_ hr_
          by_cases hq : q.f1.toList = ([] : List UInt8)
          · rw [cmpS, if_pos hq] at H
            have eB0 : (q.f1.toList == ([] : List UInt8)) = true := beq_iff_eq.mpr hq
            have eB1 : (q.f1.toList != ([] : List UInt8)) = false := bne_eq_false_iff_eq.mpr hq
            have eB2 : q.f1.toList.isEmpty = true := List.isEmpty_iff.mpr hq
            clear hq
            simp only [Option.some.injEq, Prod.mk.injEq] at H
            obtain ⟨rfl, rfl⟩ := H
            go_wp2_with (first | (go_at_call 79; with_reducible refine (l3_done_nil _ gx _ C0.out.rx).mono ?_; rintro e w_ ⟨rfl, rfl⟩) | (go_at_call 79; with_reducible refine (l3_done_cons _ gy q y _ C0.out.ry).mono ?_; rintro e w_ ⟨rfl, rfl⟩))
            go_ret2
            exact ⟨_, rfl, Kd.R_nil _ _ _ _ _, C0.out.bel⟩
          · rw [cmpS, if_neg hq] at H
            have eB0 : (q.f1.toList == ([] : List UInt8)) = false := beq_eq_false_iff_ne.mpr hq
            have eB1 : (q.f1.toList != ([] : List UInt8)) = true := bne_iff_ne.mpr hq
            have eB2 : q.f1.toList.isEmpty = false := List.isEmpty_eq_false_iff.mpr hq
            clear hq
            obtain ⟨o, hadd, H⟩ := Option.bind_eq_some_iff.mp H
            have HADD := Aside0.mk hadd
            have H' := Aside0.mk H
            clear hadd H
            go_wp2_with (first | (go_at_call 79; with_reducible refine (l3_done_nil _ gx _ C0.out.rx).mono ?_; rintro e w_ ⟨rfl, rfl⟩) | (go_at_call 79; with_reducible refine (l3_done_cons _ gy q y _ C0.out.ry).mono ?_; rintro e w_ ⟨rfl, rfl⟩) | (go_at_call 81; with_reducible refine (l3_size _ gy q y _ C0.out.ry).mono ?_; rintro e wd ⟨rfl, ⟨nd, hnd⟩⟩; have C1 := Aside0.mk (C0.out.below (hnd ▸ pw_below_drewN (Below.refl _ _) nd)); clear hnd) | (go_at_call 80; with_reducible refine (l3_take _ gy q y _ (szQ q) q y C1.out.ry (cmpB_y _ _ _) C1.out.lt.2.2 (by have := HN.out.2; simp only [List.length_cons] at this; omega) (takQ_all q y)).mono ?_; rintro e w3 ⟨rfl, hx3, hk3⟩; have C2 := Aside0.mk (C1.out.takeY hx3 hk3); clear hx3 hk3) | (go_at_call 41; with_reducible refine (spec_l3Add.calls k (fun k_ => u6.ownBlock = some k_) u6 out q.f0 q.f1 q.f2 o w _ C2.out.bel C2.out.row HADD.out).mono ?_; rintro e w4 ⟨v7, rfl, hr4, hb4, hk4⟩; have C3 := Aside0.mk (C2.out.add hr4 hb4 hk4); clear hr4 hb4 hk4))
            go_roundg m1
            case measure => omega
            case rel => exact ⟨o, [], y, H', ⟨by have := HN.out; simp only [List.length_cons] at this ⊢; omega⟩, C3⟩
      | cons p x =>
        obtain ⟨Ax, cx, hk_, hc_, hr_, _⟩ := C0.out.rx
        have c0 := (blk_cell hk_ 0).trans (show _ = some (Value.slice Ax (x.length + 1) cx) from rfl)
        obtain ⟨adx, e3, hx0, hx1, hx2⟩ := at_T53 hr_ 0 (Int.le_refl _) (by rw [List.length_cons]; omega)
        cases e3
        rw [show ((0 : Int)).toNat = 0 from rfl, show 0 * 3 = 0 from rfl, Addr.add_zero', show rd_T53 (p :: x) 0 = p from rfl] at hx0 hx1 hx2
        have x0 : ((0 : Int) < (x.length : Int) + 1) = True := eq_true (by omega)
        have x1 : (0 < x.length + 1) = True := eq_true (by omega)
        clear hk_ hc_ hr_
        by_cases hd : p.f2.toList = ([] : List UInt8)
        · cases y with
          | nil =>
            rw [cmpS, if_pos hd] at H
            have dB0 : (p.f2.toList == ([] : List UInt8)) = true := beq_iff_eq.mpr hd
            have dB1 : (p.f2.toList != ([] : List UInt8)) = false := bne_eq_false_iff_eq.mpr hd
            have dB2 : p.f2.toList.isEmpty = true := List.isEmpty_iff.mpr hd
            clear hd
            simp only [Option.some.injEq, Prod.mk.injEq] at H
            obtain ⟨rfl, rfl⟩ := H
            go_wp2_with (first | (go_at_call 79; with_reducible refine (l3_done_cons _ gx p x _ C0.out.rx).mono ?_; rintro e w_ ⟨rfl, rfl⟩) | (go_at_call 79; with_reducible refine (l3_done_nil _ gy _ C0.out.ry).mono ?_; rintro e w_ ⟨rfl, rfl⟩))
            go_ret2
            exact ⟨_, rfl, Kd.R_nil _ _ _ _ _, C0.out.bel⟩
          | cons q y =>
            obtain ⟨Ay, cy, hk_, hc_, hr_, _⟩ := C0.out.ry
            have c1 := (blk_cell hk_ 0).trans (show _ = some (Value.slice Ay (y.length + 1) cy) from rfl)
            obtain ⟨ady, e3, hy0, hy1, hy2⟩ := at_T53 hr_ 0 (Int.le_refl _) (by rw [List.length_cons]; omega)
            cases e3
            rw [show ((0 : Int)).toNat = 0 from rfl, show 0 * 3 = 0 from rfl, Addr.add_zero', show rd_T53 (q :: y) 0 = q from rfl] at hy0 hy1 hy2
            have y0 : ((0 : Int) < (y.length : Int) + 1) = True := eq_true (by omega)
            have y1 : (0 < y.length + 1) = True := eq_true (by omega)
            clear hk_ hc_ hr_
            rw [cmpS, if_pos hd] at H
            have dB0 : (p.f2.toList == ([] : List UInt8)) = true := beq_iff_eq.mpr hd
            have dB1 : (p.f2.toList != ([] : List UInt8)) = false := bne_eq_false_iff_eq.mpr hd
            have dB2 : p.f2.toList.isEmpty = true := List.isEmpty_iff.mpr hd
            clear hd
            by_cases hq : q.f1.toList = ([] : List UInt8)
            · rw [if_pos hq] at H
              have eB0 : (q.f1.toList == ([] : List UInt8)) = true := beq_iff_eq.mpr hq
              have eB1 : (q.f1.toList != ([] : List UInt8)) = false := bne_eq_false_iff_eq.mpr hq
              have eB2 : q.f1.toList.isEmpty = true := List.isEmpty_iff.mpr hq
              clear hq
              go_upto_region 11 with (first | (go_at_call 79; with_reducible refine (l3_done_cons _ gx p x _ C0.out.rx).mono ?_; rintro e w_ ⟨rfl, rfl⟩) | (go_at_call 79; with_reducible refine (l3_done_cons _ gy q y _ C0.out.ry).mono ?_; rintro e w_ ⟨rfl, rfl⟩))
              clear hx0 hx1 hx2 hy0 hy1 hy2 c0 c1 x0 x1 y0 y1 dB0 dB1 dB2 eB0 eB1 eB2
              by_cases hn : szQ q < szQ p
              · rw [if_pos hn] at H
                have n0 : decide (szQ q < szQ p) = true := decide_eq_true hn
                clear hn
                obtain ⟨⟨s1, s2⟩, hs, H2⟩ := Option.bind_eq_some_iff.mp H
                clear H
                dsimp only at H2
                obtain ⟨⟨t1, t2⟩, ht, H⟩ := Option.bind_eq_some_iff.mp H2
                dsimp only at H
                have HS := Aside0.mk hs
                have HT := Aside0.mk ht
                clear hs ht H2
                go_upto_region 14 with (first | (go_at_call 81; with_reducible refine (l3_size _ gx p x _ C0.out.rx).mono ?_; rintro e wd ⟨rfl, ⟨nd, hnd⟩⟩; have C1 := Aside0.mk (C0.out.below (hnd ▸ pw_below_drewN (Below.refl _ _) nd)); clear hnd) | (go_at_call 81; with_reducible refine (l3_size _ gy q y _ C1.out.ry).mono ?_; rintro e wd ⟨rfl, ⟨nd, hnd⟩⟩; have C2 := Aside0.mk (C1.out.below (hnd ▸ pw_below_drewN (Below.refl _ _) nd)); clear hnd) | (go_at_call 81; with_reducible refine (l3_size _ gy q y _ C2.out.ry).mono ?_; rintro e wd ⟨rfl, ⟨nd, hnd⟩⟩; have C3 := Aside0.mk (C2.out.below (hnd ▸ pw_below_drewN (Below.refl _ _) nd)); clear hnd))
                clear n0
                go_upto_region 15 with (first | (go_at_call 80; with_reducible refine (l3_take _ gx p x _ (szQ q) s1 s2 C3.out.rx (cmpB_x _ _ _) C3.out.lt.2.2 (by have := HN.out.1; simp only [List.length_cons] at this; omega) HS.out).mono ?_; rintro e w3 ⟨rfl, hx3, hk3⟩; have C4 := Aside0.mk (C3.out.takeX hx3 hk3); clear hx3 hk3) | ((with_reducible refine gate_dst (N := 10) rfl ?_); refine box_event ?hg (N := 10) ?hd (cs := #[.int .i64 0, .string (⟨#[]⟩ : ByteArray), .string (⟨#[]⟩ : ByteArray)]) (t := 53) ?hr ?_; (case hd => rfl); (case hg => rfl); (case hr => first | (go_simp; done) | (go_simp; rfl)); intro gp hg_ w4 hbox hb; have BX := Aside0.mk hbox; have GB := Aside0.mk hg_; have BB := Aside0.mk hb; have z0 := (blk_cell hbox 0).trans (show _ = some (Value.int .i64 0) from rfl); have z1 := (blk_cell hbox 1).trans (show _ = some (Value.string ⟨#[]⟩) from rfl); have z2 := (blk_cell hbox 2).trans (show _ = some (Value.string ⟨#[]⟩) from rfl); have f0 := blk_frozen hbox 0; have f1 := blk_frozen hbox 1; have f2 := blk_frozen hbox 2; clear hbox hb hg_))
                have C6 := Aside0.mk (C4.out.box3 (g := gp) BB.out GB.out (.int .i64 s1.f0) (.string s1.f1) (.string s1.f2))
                have B6 := Aside0.mk (blk3 BX.out s1.f0 s1.f1 s1.f2)
                have L6 := Aside0.mk (show gp < w4.heap.size ∧ w.heap.size ≤ gp from ⟨blk_lt BX.out, by rw [GB.out]; exact C4.out.bel.size⟩)
                have NX := Aside0.mk (C4.out.fresh GB.out)
                clear C4 BX GB BB z0 z1 z2 f0 f1 f2
                generalize ((w4.setCell ⟨gp, 0, none⟩ (.int .i64 s1.f0)).setCell ⟨gp, 1, none⟩ (.string s1.f1)).setCell ⟨gp, 2, none⟩ (.string s1.f2) = v4 at C6 B6 ⊢
                go_upto_region 16 with (first | (go_at_call 80; with_reducible refine (l3_take _ gy q y _ (szQ q) t1 t2 C6.out.ry (cmpB_y _ _ _) C6.out.lt.2.2 (by have := HN.out.2; simp only [List.length_cons] at this; omega) HT.out).mono ?_; rintro e w5 ⟨rfl, hx5, hk5⟩; have C7 := Aside0.mk (C6.out.takeY hx5 hk5); have K5 := Aside0.mk hk5; clear hx5 hk5) | ((with_reducible refine gate_dst (N := 11) rfl ?_); refine box_event ?hg (N := 11) ?hd (cs := #[.int .i64 0, .string (⟨#[]⟩ : ByteArray), .string (⟨#[]⟩ : ByteArray)]) (t := 53) ?hr ?_; (case hd => rfl); (case hg => rfl); (case hr => first | (go_simp; done) | (go_simp; rfl)); intro gq hg_ w6 hbox hb; have BX := Aside0.mk hbox; have GB := Aside0.mk hg_; have BB := Aside0.mk hb; have z0 := (blk_cell hbox 0).trans (show _ = some (Value.int .i64 0) from rfl); have z1 := (blk_cell hbox 1).trans (show _ = some (Value.string ⟨#[]⟩) from rfl); have z2 := (blk_cell hbox 2).trans (show _ = some (Value.string ⟨#[]⟩) from rfl); have f0 := blk_frozen hbox 0; have f1 := blk_frozen hbox 1; have f2 := blk_frozen hbox 2; clear hbox hb hg_))
                have B8 := Aside0.mk (blk_below (blk_kept B6.out K5.out.kept NX.out.2) BB.out)
                have C9 := Aside0.mk (C7.out.box3 (g := gq) BB.out GB.out (.int .i64 t1.f0) (.string t1.f1) (.string t1.f2))
                have NQ := Aside0.mk (show gp ≠ gq from by rw [GB.out]; exact Nat.ne_of_lt (blk_lt (blk_kept B6.out K5.out.kept NX.out.2)))
                have B9 := Aside0.mk (blk3 BX.out t1.f0 t1.f1 t1.f2)
                have D9 := Aside0.mk (blk_far (blk_far (blk_far B8.out (p := ⟨gq, 0, none⟩) NQ.out (.int .i64 t1.f0)) (p := ⟨gq, 1, none⟩) NQ.out (.string t1.f1)) (p := ⟨gq, 2, none⟩) NQ.out (.string t1.f2))
                clear C7 BX GB BB z0 z1 z2 f0 f1 f2 B8 B6 C6 K5
                generalize ((w6.setCell ⟨gq, 0, none⟩ (.int .i64 t1.f0)).setCell ⟨gq, 1, none⟩ (.string t1.f1)).setCell ⟨gq, 2, none⟩ (.string t1.f2) = v6 at C9 B9 D9 ⊢
                have a0 := (blk_cell D9.out 0).trans (show _ = some (Value.int .i64 s1.f0) from rfl)
                have a1 := (blk_cell D9.out 1).trans (show _ = some (Value.string s1.f1) from rfl)
                have a2 := (blk_cell D9.out 2).trans (show _ = some (Value.string s1.f2) from rfl)
                have b0 := (blk_cell B9.out 0).trans (show _ = some (Value.int .i64 t1.f0) from rfl)
                have b1 := (blk_cell B9.out 1).trans (show _ = some (Value.string t1.f1) from rfl)
                have b2 := (blk_cell B9.out 2).trans (show _ = some (Value.string t1.f2) from rfl)
                by_cases hk : 0 < s1.f0
                · rw [if_pos hk] at H
                  have k0 : decide (s1.f0 > 0) = true := decide_eq_true hk
                  have k1 : (s1.f0 > 0) = True := eq_true hk
                  clear hk
                  obtain ⟨o, hadd, H⟩ := Option.bind_eq_some_iff.mp H
                  have HADD := Aside0.mk hadd
                  have H' := Aside0.mk H
                  clear hadd H
                  go_wp2_with (first | (go_at_call 41; with_reducible refine (spec_l3Add.calls k (fun k_ => u6.ownBlock = some k_) u6 out t1.f0 t1.f1 t1.f2 o w _ C9.out.bel C9.out.row HADD.out).mono ?_; rintro e w4 ⟨v7, rfl, hr4, hb4, hk4⟩; have CA := Aside0.mk (C9.out.add hr4 hb4 hk4); clear hr4 hb4 hk4))
                  go_roundg m1
                  case measure => omega
                  case rel => exact ⟨o, s2, t2, H', ⟨Nat.le_trans (takQ_len HS.out) HN.out.1, Nat.le_trans (takQ_len HT.out) HN.out.2⟩, CA⟩
                · rw [if_neg hk] at H
                  have k0 : decide (s1.f0 > 0) = false := decide_eq_false hk
                  have k1 : (s1.f0 > 0) = False := eq_false hk
                  clear hk
                  by_cases hq : 0 < t1.f0
                  · rw [if_pos hq] at H
                    have q0 : decide (t1.f0 > 0) = true := decide_eq_true hq
                    have q1 : (t1.f0 > 0) = True := eq_true hq
                    clear hq
                    obtain ⟨o, hadd, H⟩ := Option.bind_eq_some_iff.mp H
                    have HADD := Aside0.mk hadd
                    have H' := Aside0.mk H
                    clear hadd H
                    go_wp2_with (first | (go_at_call 41; with_reducible refine (spec_l3Add.calls k (fun k_ => u6.ownBlock = some k_) u6 out s1.f0 s1.f1 s1.f2 o w _ C9.out.bel C9.out.row HADD.out).mono ?_; rintro e w4 ⟨v7, rfl, hr4, hb4, hk4⟩; have CA := Aside0.mk (C9.out.add hr4 hb4 hk4); clear hr4 hb4 hk4))
                    go_roundg m1
                    case measure => omega
                    case rel => exact ⟨o, s2, t2, H', ⟨Nat.le_trans (takQ_len HS.out) HN.out.1, Nat.le_trans (takQ_len HT.out) HN.out.2⟩, CA⟩
                  · rw [if_neg hq] at H
                    have q0 : decide (t1.f0 > 0) = false := decide_eq_false hq
                    have q1 : (t1.f0 > 0) = False := eq_false hq
                    clear hq
                    by_cases he : s1.f1 = t1.f2
                    · rw [if_pos he] at H
                      have H' := Aside0.mk H
                      have e2 : (s1.f1.toList == t1.f2.toList) = true := by rw [he]; exact beq_iff_eq.mpr rfl
                      have e3 : (s1.f1.toList != t1.f2.toList) = false := by rw [he]; exact bne_eq_false_iff_eq.mpr rfl
                      clear he H
                      go_wp2_with fail
                      go_roundg m1
                      case measure => omega
                      case rel => exact ⟨out, s2, t2, H', ⟨Nat.le_trans (takQ_len HS.out) HN.out.1, Nat.le_trans (takQ_len HT.out) HN.out.2⟩, C9⟩
                    · rw [if_neg he] at H
                      simp only [Option.some.injEq, Prod.mk.injEq] at H
                      obtain ⟨rfl, rfl⟩ := H
                      have e2 : (s1.f1.toList == t1.f2.toList) = false := beq_eq_false_iff_ne.mpr (fun z => he (ba_inj z))
                      have e3 : (s1.f1.toList != t1.f2.toList) = true := bne_iff_ne.mpr (fun z => he (ba_inj z))
                      clear he
                      go_wp2_with fail
                      go_ret2
                      exact ⟨_, rfl, Kd.R_nil _ _ _ _ _, C9.out.bel⟩
              · rw [if_neg hn] at H
                have n0 : decide (szQ q < szQ p) = false := decide_eq_false hn
                clear hn
                obtain ⟨⟨s1, s2⟩, hs, H2⟩ := Option.bind_eq_some_iff.mp H
                clear H
                dsimp only at H2
                obtain ⟨⟨t1, t2⟩, ht, H⟩ := Option.bind_eq_some_iff.mp H2
                dsimp only at H
                have HS := Aside0.mk hs
                have HT := Aside0.mk ht
                clear hs ht H2
                go_upto_region 14 with (first | (go_at_call 81; with_reducible refine (l3_size _ gx p x _ C0.out.rx).mono ?_; rintro e wd ⟨rfl, ⟨nd, hnd⟩⟩; have C1 := Aside0.mk (C0.out.below (hnd ▸ pw_below_drewN (Below.refl _ _) nd)); clear hnd) | (go_at_call 81; with_reducible refine (l3_size _ gy q y _ C1.out.ry).mono ?_; rintro e wd ⟨rfl, ⟨nd, hnd⟩⟩; have C2 := Aside0.mk (C1.out.below (hnd ▸ pw_below_drewN (Below.refl _ _) nd)); clear hnd))
                clear n0
                go_upto_region 15 with (first | (go_at_call 80; with_reducible refine (l3_take _ gx p x _ (szQ p) s1 s2 C2.out.rx (cmpB_x _ _ _) C2.out.lt.2.2 (by have := HN.out.1; simp only [List.length_cons] at this; omega) HS.out).mono ?_; rintro e w3 ⟨rfl, hx3, hk3⟩; have C4 := Aside0.mk (C2.out.takeX hx3 hk3); clear hx3 hk3) | ((with_reducible refine gate_dst (N := 10) rfl ?_); refine box_event ?hg (N := 10) ?hd (cs := #[.int .i64 0, .string (⟨#[]⟩ : ByteArray), .string (⟨#[]⟩ : ByteArray)]) (t := 53) ?hr ?_; (case hd => rfl); (case hg => rfl); (case hr => first | (go_simp; done) | (go_simp; rfl)); intro gp hg_ w4 hbox hb; have BX := Aside0.mk hbox; have GB := Aside0.mk hg_; have BB := Aside0.mk hb; have z0 := (blk_cell hbox 0).trans (show _ = some (Value.int .i64 0) from rfl); have z1 := (blk_cell hbox 1).trans (show _ = some (Value.string ⟨#[]⟩) from rfl); have z2 := (blk_cell hbox 2).trans (show _ = some (Value.string ⟨#[]⟩) from rfl); have f0 := blk_frozen hbox 0; have f1 := blk_frozen hbox 1; have f2 := blk_frozen hbox 2; clear hbox hb hg_))
                have C6 := Aside0.mk (C4.out.box3 (g := gp) BB.out GB.out (.int .i64 s1.f0) (.string s1.f1) (.string s1.f2))
                have B6 := Aside0.mk (blk3 BX.out s1.f0 s1.f1 s1.f2)
                have L6 := Aside0.mk (show gp < w4.heap.size ∧ w.heap.size ≤ gp from ⟨blk_lt BX.out, by rw [GB.out]; exact C4.out.bel.size⟩)
                have NX := Aside0.mk (C4.out.fresh GB.out)
                clear C4 BX GB BB z0 z1 z2 f0 f1 f2
                generalize ((w4.setCell ⟨gp, 0, none⟩ (.int .i64 s1.f0)).setCell ⟨gp, 1, none⟩ (.string s1.f1)).setCell ⟨gp, 2, none⟩ (.string s1.f2) = v4 at C6 B6 ⊢
                go_upto_region 16 with (first | (go_at_call 80; with_reducible refine (l3_take _ gy q y _ (szQ p) t1 t2 C6.out.ry (cmpB_y _ _ _) C6.out.lt.2.2 (by have := HN.out.2; simp only [List.length_cons] at this; omega) HT.out).mono ?_; rintro e w5 ⟨rfl, hx5, hk5⟩; have C7 := Aside0.mk (C6.out.takeY hx5 hk5); have K5 := Aside0.mk hk5; clear hx5 hk5) | ((with_reducible refine gate_dst (N := 11) rfl ?_); refine box_event ?hg (N := 11) ?hd (cs := #[.int .i64 0, .string (⟨#[]⟩ : ByteArray), .string (⟨#[]⟩ : ByteArray)]) (t := 53) ?hr ?_; (case hd => rfl); (case hg => rfl); (case hr => first | (go_simp; done) | (go_simp; rfl)); intro gq hg_ w6 hbox hb; have BX := Aside0.mk hbox; have GB := Aside0.mk hg_; have BB := Aside0.mk hb; have z0 := (blk_cell hbox 0).trans (show _ = some (Value.int .i64 0) from rfl); have z1 := (blk_cell hbox 1).trans (show _ = some (Value.string ⟨#[]⟩) from rfl); have z2 := (blk_cell hbox 2).trans (show _ = some (Value.string ⟨#[]⟩) from rfl); have f0 := blk_frozen hbox 0; have f1 := blk_frozen hbox 1; have f2 := blk_frozen hbox 2; clear hbox hb hg_))
                have B8 := Aside0.mk (blk_below (blk_kept B6.out K5.out.kept NX.out.2) BB.out)
                have C9 := Aside0.mk (C7.out.box3 (g := gq) BB.out GB.out (.int .i64 t1.f0) (.string t1.f1) (.string t1.f2))
                have NQ := Aside0.mk (show gp ≠ gq from by rw [GB.out]; exact Nat.ne_of_lt (blk_lt (blk_kept B6.out K5.out.kept NX.out.2)))
                have B9 := Aside0.mk (blk3 BX.out t1.f0 t1.f1 t1.f2)
                have D9 := Aside0.mk (blk_far (blk_far (blk_far B8.out (p := ⟨gq, 0, none⟩) NQ.out (.int .i64 t1.f0)) (p := ⟨gq, 1, none⟩) NQ.out (.string t1.f1)) (p := ⟨gq, 2, none⟩) NQ.out (.string t1.f2))
                clear C7 BX GB BB z0 z1 z2 f0 f1 f2 B8 B6 C6 K5
                generalize ((w6.setCell ⟨gq, 0, none⟩ (.int .i64 t1.f0)).setCell ⟨gq, 1, none⟩ (.string t1.f1)).setCell ⟨gq, 2, none⟩ (.string t1.f2) = v6 at C9 B9 D9 ⊢
                have a0 := (blk_cell D9.out 0).trans (show _ = some (Value.int .i64 s1.f0) from rfl)
                have a1 := (blk_cell D9.out 1).trans (show _ = some (Value.string s1.f1) from rfl)
                have a2 := (blk_cell D9.out 2).trans (show _ = some (Value.string s1.f2) from rfl)
                have b0 := (blk_cell B9.out 0).trans (show _ = some (Value.int .i64 t1.f0) from rfl)
                have b1 := (blk_cell B9.out 1).trans (show _ = some (Value.string t1.f1) from rfl)
                have b2 := (blk_cell B9.out 2).trans (show _ = some (Value.string t1.f2) from rfl)
                by_cases hk : 0 < s1.f0
                · rw [if_pos hk] at H
                  have k0 : decide (s1.f0 > 0) = true := decide_eq_true hk
                  have k1 : (s1.f0 > 0) = True := eq_true hk
                  clear hk
                  obtain ⟨o, hadd, H⟩ := Option.bind_eq_some_iff.mp H
                  have HADD := Aside0.mk hadd
                  have H' := Aside0.mk H
                  clear hadd H
                  go_wp2_with (first | (go_at_call 41; with_reducible refine (spec_l3Add.calls k (fun k_ => u6.ownBlock = some k_) u6 out t1.f0 t1.f1 t1.f2 o w _ C9.out.bel C9.out.row HADD.out).mono ?_; rintro e w4 ⟨v7, rfl, hr4, hb4, hk4⟩; have CA := Aside0.mk (C9.out.add hr4 hb4 hk4); clear hr4 hb4 hk4))
                  go_roundg m1
                  case measure => omega
                  case rel => exact ⟨o, s2, t2, H', ⟨Nat.le_trans (takQ_len HS.out) HN.out.1, Nat.le_trans (takQ_len HT.out) HN.out.2⟩, CA⟩
                · rw [if_neg hk] at H
                  have k0 : decide (s1.f0 > 0) = false := decide_eq_false hk
                  have k1 : (s1.f0 > 0) = False := eq_false hk
                  clear hk
                  by_cases hq : 0 < t1.f0
                  · rw [if_pos hq] at H
                    have q0 : decide (t1.f0 > 0) = true := decide_eq_true hq
                    have q1 : (t1.f0 > 0) = True := eq_true hq
                    clear hq
                    obtain ⟨o, hadd, H⟩ := Option.bind_eq_some_iff.mp H
                    have HADD := Aside0.mk hadd
                    have H' := Aside0.mk H
                    clear hadd H
                    go_wp2_with (first | (go_at_call 41; with_reducible refine (spec_l3Add.calls k (fun k_ => u6.ownBlock = some k_) u6 out s1.f0 s1.f1 s1.f2 o w _ C9.out.bel C9.out.row HADD.out).mono ?_; rintro e w4 ⟨v7, rfl, hr4, hb4, hk4⟩; have CA := Aside0.mk (C9.out.add hr4 hb4 hk4); clear hr4 hb4 hk4))
                    go_roundg m1
                    case measure => omega
                    case rel => exact ⟨o, s2, t2, H', ⟨Nat.le_trans (takQ_len HS.out) HN.out.1, Nat.le_trans (takQ_len HT.out) HN.out.2⟩, CA⟩
                  · rw [if_neg hq] at H
                    have q0 : decide (t1.f0 > 0) = false := decide_eq_false hq
                    have q1 : (t1.f0 > 0) = False := eq_false hq
                    clear hq
                    by_cases he : s1.f1 = t1.f2
                    · rw [if_pos he] at H
                      have H' := Aside0.mk H
                      have e2 : (s1.f1.toList == t1.f2.toList) = true := by rw [he]; exact beq_iff_eq.mpr rfl
                      have e3 : (s1.f1.toList != t1.f2.toList) = false := by rw [he]; exact bne_eq_false_iff_eq.mpr rfl
                      clear he H
                      go_wp2_with fail
                      go_roundg m1
                      case measure => omega
                      case rel => exact ⟨out, s2, t2, H', ⟨Nat.le_trans (takQ_len HS.out) HN.out.1, Nat.le_trans (takQ_len HT.out) HN.out.2⟩, C9⟩
                    · rw [if_neg he] at H
                      simp only [Option.some.injEq, Prod.mk.injEq] at H
                      obtain ⟨rfl, rfl⟩ := H
                      have e2 : (s1.f1.toList == t1.f2.toList) = false := beq_eq_false_iff_ne.mpr (fun z => he (ba_inj z))
                      have e3 : (s1.f1.toList != t1.f2.toList) = true := bne_iff_ne.mpr (fun z => he (ba_inj z))
                      clear he
                      go_wp2_with fail
                      go_ret2
                      exact ⟨_, rfl, Kd.R_nil _ _ _ _ _, C9.out.bel⟩
            · rw [if_neg hq] at H
              have eB0 : (q.f1.toList == ([] : List UInt8)) = false := beq_eq_false_iff_ne.mpr hq
              have eB1 : (q.f1.toList != ([] : List UInt8)) = true := bne_iff_ne.mpr hq
              have eB2 : q.f1.toList.isEmpty = false := List.isEmpty_eq_false_iff.mpr hq
              clear hq
              obtain ⟨o, hadd, H⟩ := Option.bind_eq_some_iff.mp H
              have HADD := Aside0.mk hadd
              have H' := Aside0.mk H
              clear hadd H
              go_wp2_with (first | (go_at_call 79; with_reducible refine (l3_done_cons _ gx p x _ C0.out.rx).mono ?_; rintro e w_ ⟨rfl, rfl⟩) | (go_at_call 79; with_reducible refine (l3_done_cons _ gy q y _ C0.out.ry).mono ?_; rintro e w_ ⟨rfl, rfl⟩) | (go_at_call 81; with_reducible refine (l3_size _ gy q y _ C0.out.ry).mono ?_; rintro e wd ⟨rfl, ⟨nd, hnd⟩⟩; have C1 := Aside0.mk (C0.out.below (hnd ▸ pw_below_drewN (Below.refl _ _) nd)); clear hnd) | (go_at_call 80; with_reducible refine (l3_take _ gy q y _ (szQ q) q y C1.out.ry (cmpB_y _ _ _) C1.out.lt.2.2 (by have := HN.out.2; simp only [List.length_cons] at this; omega) (takQ_all q y)).mono ?_; rintro e w3 ⟨rfl, hx3, hk3⟩; have C2 := Aside0.mk (C1.out.takeY hx3 hk3); clear hx3 hk3) | (go_at_call 41; with_reducible refine (spec_l3Add.calls k (fun k_ => u6.ownBlock = some k_) u6 out q.f0 q.f1 q.f2 o w _ C2.out.bel C2.out.row HADD.out).mono ?_; rintro e w4 ⟨v7, rfl, hr4, hb4, hk4⟩; have C3 := Aside0.mk (C2.out.add hr4 hb4 hk4); clear hr4 hb4 hk4))
              go_roundg m1
              case measure => omega
              case rel => exact ⟨o, (p :: x), y, H', ⟨by have := HN.out; simp only [List.length_cons] at this ⊢; omega⟩, C3⟩
        · rw [cmpS_drop hd] at H
          have dB0 : (p.f2.toList == ([] : List UInt8)) = false := beq_eq_false_iff_ne.mpr hd
          have dB1 : (p.f2.toList != ([] : List UInt8)) = true := bne_iff_ne.mpr hd
          have dB2 : p.f2.toList.isEmpty = false := List.isEmpty_eq_false_iff.mpr hd
          clear hd
          obtain ⟨o, hadd, H⟩ := Option.bind_eq_some_iff.mp H
          have HADD := Aside0.mk hadd
          have H' := Aside0.mk H
          clear hadd H
          go_wp2_with (first | (go_at_call 79; with_reducible refine (l3_done_cons _ gx p x _ C0.out.rx).mono ?_; rintro e w_ ⟨rfl, rfl⟩) | (go_at_call 81; with_reducible refine (l3_size _ gx p x _ C0.out.rx).mono ?_; rintro e wd ⟨rfl, ⟨nd, hnd⟩⟩; have C1 := Aside0.mk (C0.out.below (hnd ▸ pw_below_drewN (Below.refl _ _) nd)); clear hnd) | (go_at_call 80; with_reducible refine (l3_take _ gx p x _ (szQ p) p x C1.out.rx (cmpB_x _ _ _) C1.out.lt.2.2 (by have := HN.out.1; simp only [List.length_cons] at this; omega) (takQ_all p x)).mono ?_; rintro e w3 ⟨rfl, hx3, hk3⟩; have C2 := Aside0.mk (C1.out.takeX hx3 hk3); clear hx3 hk3) | (go_at_call 41; with_reducible refine (spec_l3Add.calls k (fun k_ => u6.ownBlock = some k_) u6 out p.f0 p.f1 p.f2 o w _ C2.out.bel C2.out.row HADD.out).mono ?_; rintro e w4 ⟨v7, rfl, hr4, hb4, hk4⟩; have C3 := Aside0.mk (C2.out.add hr4 hb4 hk4); clear hr4 hb4 hk4))
          go_roundg m1
          case measure => omega
          case rel => exact ⟨o, x, y, H', ⟨by have := HN.out; simp only [List.length_cons] at this ⊢; omega⟩, C3⟩
theorem cmpS_mono (k : Nat) : ∀ (m : Nat) (out x y : List S53), LeO (cmpS k m out x y) (cmpS (k + 1) (m + 1) out x y)
  | 0, out, x, y => by rw [cmpS]; exact LeO.none _
  | m + 1, out, [], [] => by rw [cmpS, cmpS]; exact LeO.refl _
  | m + 1, out, p :: x, [] => by
    rw [cmpS, cmpS]
    exact LeO.ite (LeO.refl _) (LeO.bind (spec_l3Add.mono _ _ _ _ _) (fun _ => cmpS_mono k m _ _ _))
  | m + 1, out, [], q :: y => by
    rw [cmpS, cmpS]
    exact LeO.ite (LeO.refl _) (LeO.bind (spec_l3Add.mono _ _ _ _ _) (fun _ => cmpS_mono k m _ _ _))
  | m + 1, out, p :: x, q :: y => by
    rw [cmpS, cmpS]
    exact LeO.ite (LeO.ite (LeO.bind (LeO.refl _) (fun _ => LeO.bind (LeO.refl _) (fun _ => LeO.ite (LeO.bind (spec_l3Add.mono _ _ _ _ _) (fun _ => cmpS_mono k m _ _ _)) (LeO.ite (LeO.bind (spec_l3Add.mono _ _ _ _ _) (fun _ => cmpS_mono k m _ _ _)) (LeO.ite (cmpS_mono k m _ _ _) (LeO.refl _))))))
      (LeO.bind (spec_l3Add.mono _ _ _ _ _) (fun _ => cmpS_mono k m _ _ _))) (LeO.bind (spec_l3Add.mono _ _ _ _ _) (fun _ => cmpS_mono k m _ _ _))
def spec_l3Compose.f (k : Nat) (a b : List S53) : Option (List S53 × Bool) := if a.length ≤ 1000 ∧ b.length ≤ 1000 then cmpS k k [] a b else none
theorem spec_l3Compose.mono : ∀ a0 a1 k, LeO (spec_l3Compose.f k a0 a1) (spec_l3Compose.f (k + 1) a0 a1) := by
  intro a0 a1 k
  unfold spec_l3Compose.f
  exact LeO.ite (cmpS_mono k k _ _ _) (LeO.refl _)
theorem spec_l3Compose.calls (k : Nat) (A0 : Option Addr) (c0 : Nat) (l0 : List S53) (A1 : Option Addr) (c1 : Nat) (l1 : List S53) (r1 : List S53) (r2 : Bool) (w : World) (hr0 : Kd.C k53 w A0 l0.length l0) (hc0 : l0.length ≤ c0) (hr1 : Kd.C k53 w A1 l1.length l1) (hc1 : l1.length ≤ c1) (h : spec_l3Compose.f k l0 l1 = some (r1, r2)) :
    Calls Try.prog 62 #[.slice A0 l0.length c0, .slice A1 l1.length c1] w fun e w' => ∃ v0_ : Value, e = .returned (.tuple #[v0_, .bool r2]) ∧ Kd.R k53 53 w' w.heap.size (fun _ => True) v0_ r1 ∧ Below w.heap.size w w' := by
  unfold spec_l3Compose.f at h
  by_cases hl : l0.length ≤ 1000 ∧ l1.length ≤ 1000
  · rw [if_pos hl] at h
    exact l3_compose k k A0 A1 c0 c1 l0 l1 r1 r2 w hr0 hc0 hr1 hc1 hl.1 hl.2 h
  · rw [if_neg hl] at h; cases h

/-! ### spec_ComposeOps: function 33 -/
def spec_ComposeOps.j0 : Nat → List (S53) → List (S53) → Bool → Option ((List (S53)) × Bool)
  | 0, _, _, _ => none
  | k + 1, x0, x1, x15 => if x15 = true then (some (([] : List (S53)), false)) else ((spec_l3Normal.f k x0).bind fun t180 => ((spec_l3Normal.f k x1).bind fun t183 => ((spec_l3Compose.f k t180 t183).bind fun bt186 => (if bt186.2 = true then ((spec_GoodOp.f k bt186.1).bind fun t190 => (if t190 = true then (some (bt186.1, true)) else (some (([] : List (S53)), false)))) else (some (([] : List (S53)), false))))))
def spec_ComposeOps.f (k : Nat) (l0 : List (S53)) (l1 : List (S53)) : Option ((List (S53)) × Bool) := (spec_GoodOp.f k l0).bind fun t178 => (if t178 = true then ((spec_GoodOp.f k l1).bind fun t179 => (spec_ComposeOps.j0 k l0 l1 (!t179))) else (spec_ComposeOps.j0 k l0 l1 true))
theorem spec_ComposeOps.mono_l : ∀ k, (∀ y0 y1 y2, LeO (spec_ComposeOps.j0 k y0 y1 y2) (spec_ComposeOps.j0 (k + 1) y0 y1 y2))
  | 0 => fun _ _ _ r h => by simp [spec_ComposeOps.j0] at h
  | k + 1 => by
    have ih0 := spec_ComposeOps.mono_l k
    · intro y0 y1 y2
      unfold spec_ComposeOps.j0
      repeat' first
      | (with_reducible exact ih0 _ _ _)
      | (with_reducible exact spec_GoodOp.mono _ _)
      | (with_reducible exact spec_l3Compose.mono _ _ _)
      | (with_reducible exact spec_l3Normal.mono _ _)
      | (with_reducible exact LeO.refl _)
      | (with_reducible exact LeO.none _)
      | (with_reducible refine LeO.ite ?_ ?_)
      | (with_reducible refine LeO.bind ?_ (fun _ => ?_))
      | exact ih0 _ _ _
      | exact spec_GoodOp.mono _ _
      | exact spec_l3Compose.mono _ _ _
      | exact spec_l3Normal.mono _ _
      | exact LeO.none _
      | refine LeO.ite ?_ ?_
      | refine LeO.bind ?_ (fun _ => ?_)
theorem spec_ComposeOps.mono : ∀ a0 a1 k, LeO (spec_ComposeOps.f k a0 a1) (spec_ComposeOps.f (k + 1) a0 a1) := by
  intro a0 a1 k
  have ih0 := spec_ComposeOps.mono_l k
  unfold spec_ComposeOps.f
  repeat' first
      | (with_reducible exact ih0 _ _ _)
      | (with_reducible exact spec_GoodOp.mono _ _)
      | (with_reducible exact spec_l3Compose.mono _ _ _)
      | (with_reducible exact spec_l3Normal.mono _ _)
      | (with_reducible exact LeO.refl _)
      | (with_reducible exact LeO.none _)
      | (with_reducible refine LeO.ite ?_ ?_)
      | (with_reducible refine LeO.bind ?_ (fun _ => ?_))
      | exact ih0 _ _ _
      | exact spec_GoodOp.mono _ _
      | exact spec_l3Compose.mono _ _ _
      | exact spec_l3Normal.mono _ _
      | exact LeO.none _
      | refine LeO.ite ?_ ?_
      | refine LeO.bind ?_ (fun _ => ?_)
set_option maxHeartbeats 8000000 in
set_option maxRecDepth 100000 in
theorem spec_ComposeOps.calls (k : Nat) (A0 : Option Addr) (c0 : Nat) (l0 : List (S53)) (A1 : Option Addr) (c1 : Nat) (l1 : List (S53)) (r1 : List (S53)) (r2 : Bool) (w : World) (hr0 : Kd.C k53 w A0 l0.length l0) (hc0 : l0.length ≤ c0) (hr1 : Kd.C k53 w A1 l1.length l1) (hc1 : l1.length ≤ c1) (h : spec_ComposeOps.f k l0 l1 = some (r1, r2)) :
    Calls Try.prog 33 #[.slice A0 l0.length c0, .slice A1 l1.length c1] w fun e w' => ∃ v0_ : Value, e = .returned (.tuple #[v0_, .bool r2]) ∧ Kd.R k53 53 w' w.heap.size (fun _ => True) v0_ r1 ∧ Below w.heap.size w w' := by
  have HR0 := Aside0.mk hr0
  have HC0 := Aside0.mk hc0
  clear hr0 hc0
  have HR1 := Aside0.mk hr1
  have HC1 := Aside0.mk hc1
  clear hr1 hc1
  have HB := Aside0.mk (Below.refl w.heap.size w)
  have H : ((spec_GoodOp.f k l0).bind fun t178 => (if t178 = true then ((spec_GoodOp.f k l1).bind fun t179 => (spec_ComposeOps.j0 k l0 l1 (!t179))) else (spec_ComposeOps.j0 k l0 l1 true))) = some (r1, r2) := h
  clear h
  have HC3 := Aside0.mk H
  clear H
  go_enter Try.func33, Try.ntmps33
  go_upto_region 1 with (fail)
  go_cut [15] (fun v15 wc => ∃ (kq : Nat) (x15_2 : Bool), v15 = .bool x15_2 ∧ Aside0 (spec_ComposeOps.j0 kq l0 l1 x15_2 = some (r1, r2)) ∧ Aside0 (kq ≤ k) ∧ Aside0 (Below w.heap.size w wc))
  case first =>
    have H := HC3.out
    clear HC3
    replace H := Option.bind_eq_some_iff.mp H
    obtain ⟨t178, A40, H⟩ := H
    replace H : (if t178 = true then ((spec_GoodOp.f k l1).bind fun t179 => (spec_ComposeOps.j0 k l0 l1 (!t179))) else (spec_ComposeOps.j0 k l0 l1 true)) = some (r1, r2) := H
    have A4 := Aside0.mk A40
    clear A40
    by_cases c5 : t178 = true
    · subst c5
      have H1 : ((spec_GoodOp.f k l1).bind fun t179 => (spec_ComposeOps.j0 k l0 l1 (!t179))) = some (r1, r2) := by rw [if_pos rfl] at H; exact H
      clear H
      have H := H1
      clear H1
      replace H := Option.bind_eq_some_iff.mp H
      obtain ⟨t179, A60, H⟩ := H
      replace H : (spec_ComposeOps.j0 k l0 l1 (!t179)) = some (r1, r2) := H
      have A6 := Aside0.mk A60
      clear A60
      have H' := Aside0.mk H
      clear H
      go_wp2_with (first | ((with_reducible refine gate_callee (f := 20) rfl ?_); refine goesL_ (some 9) rfl rfl Try.func20 (by kernel_rfl) rfl #[.slice A0 l0.length c0] rfl (by (try simp only [List.map_toArray, List.map_cons, List.map_nil]); first | done | rfl | (simp only [List.length_drop, List.length_take]; rfl)) ?_; (with_reducible refine (spec_GoodOp.calls k _ _ l0 true _ ?side1 ?side2 A4.out).mono ?_); (case side1 => repeat (first | exact (Kd.C_below HR0.out HB.out) | (with_reducible refine Kd.C_alloc ?_ _) | (with_reducible refine Kd.C_drewN ?_ _) | (with_reducible refine Kd.C_drew ?_))); (case side2 => exact HC0.out); rintro e w7 ⟨rfl, hb⟩; refine ⟨_, rfl, ?_⟩; have n0_ := Aside0.mk (below_step (by repeat (first | (with_reducible first | exact HB.out | apply below_alloc | apply pw_below_drewN | apply below_drew1) | exact HB.out)) hb); clear HB; have HB := n0_; clear n0_; (try clear hb); (try clear hb2); (try clear hk); (try clear hi)) | (go_at_call 20; (with_reducible refine (spec_GoodOp.calls k _ _ l1 t179 _ ?side1 ?side2 A6.out).mono ?_); (case side1 => repeat (first | exact (Kd.C_below HR1.out HB.out) | (with_reducible refine Kd.C_alloc ?_ _) | (with_reducible refine Kd.C_drewN ?_ _) | (with_reducible refine Kd.C_drew ?_))); (case side2 => exact HC1.out); rintro e w8 ⟨rfl, hb⟩; have n0_ := Aside0.mk (below_step (by repeat (first | (with_reducible first | exact HB.out | apply below_alloc | apply pw_below_drewN | apply below_drew1) | exact HB.out)) hb); clear HB; have HB := n0_; clear n0_; (try clear hb); (try clear hb2); (try clear hk); (try clear hi)))
      go_meet
      case rel => exact ⟨_, (!t179), (by first | rfl | (simp; done) | (simp [*]; done)), H', ⟨by first | omega | exact Nat.le_refl _⟩, ⟨by repeat (first | (with_reducible first | exact HB.out | apply below_alloc | apply pw_below_drewN | apply below_drew1) | exact HB.out)⟩⟩
    · replace c5 := Bool.eq_false_iff.mpr c5
      subst c5
      have H1 : (spec_ComposeOps.j0 k l0 l1 true) = some (r1, r2) := by rw [if_neg (show ¬ (false = true) by decide)] at H; exact H
      clear H
      have H := H1
      clear H1
      have H' := Aside0.mk H
      clear H
      go_wp2_with (first | ((with_reducible refine gate_callee (f := 20) rfl ?_); refine goesL_ (some 9) rfl rfl Try.func20 (by kernel_rfl) rfl #[.slice A0 l0.length c0] rfl (by (try simp only [List.map_toArray, List.map_cons, List.map_nil]); first | done | rfl | (simp only [List.length_drop, List.length_take]; rfl)) ?_; (with_reducible refine (spec_GoodOp.calls k _ _ l0 false _ ?side1 ?side2 A4.out).mono ?_); (case side1 => repeat (first | exact (Kd.C_below HR0.out HB.out) | (with_reducible refine Kd.C_alloc ?_ _) | (with_reducible refine Kd.C_drewN ?_ _) | (with_reducible refine Kd.C_drew ?_))); (case side2 => exact HC0.out); rintro e w9 ⟨rfl, hb⟩; refine ⟨_, rfl, ?_⟩; have n0_ := Aside0.mk (below_step (by repeat (first | (with_reducible first | exact HB.out | apply below_alloc | apply pw_below_drewN | apply below_drew1) | exact HB.out)) hb); clear HB; have HB := n0_; clear n0_; (try clear hb); (try clear hb2); (try clear hk); (try clear hi)))
      go_meet
      case rel => exact ⟨_, (true), (by first | rfl | (simp; done) | (simp [*]; done)), H', ⟨by first | omega | exact Nat.le_refl _⟩, ⟨by repeat (first | (with_reducible first | exact HB.out | apply below_alloc | apply pw_below_drewN | apply below_drew1) | exact HB.out)⟩⟩
  case rest =>
    clear HC3
    try clear c1
    try clear c2
    try clear p2
    try clear c3
    try clear c5
    obtain ⟨kq, x15_2, rfl, HA, HJ2, HB⟩ := hcut
    cases kq with
    | zero => exact absurd HA.out (by simp [spec_ComposeOps.j0])
    | succ kj2 =>
      have H := HA.out
      clear HA
      simp only [spec_ComposeOps.j0] at H
      by_cases c10 : x15_2 = true
      · subst c10
        have H1 : (some (([] : List (S53)), false)) = some (r1, r2) := by rw [if_pos rfl] at H; exact H
        clear H
        have H := H1
        clear H1
        simp only [Option.some.injEq, Prod.mk.injEq] at H
        obtain ⟨rfl, rfl⟩ := H
        go_wp2
        go_ret2
        exact ⟨_, by first | rfl | (simp [errW_none, errW_some] <;> rfl) | (simp [*, errW_none, errW_some] <;> rfl), by first | exact Kd.R_nil _ _ _ _ _ | exact Kd.N_nil _ _ _ _ _ | exact Kd.V_nil _ _ _ _ _ | exact Kd.Q_nil _ _ _ _ _ | exact Kd.S_nil _ _ _ _ _, by repeat (first | (with_reducible first | exact HB.out | apply below_alloc | apply pw_below_drewN | apply below_drew1) | exact HB.out)⟩
      · replace c10 := Bool.eq_false_iff.mpr c10
        subst c10
        have H1 : ((spec_l3Normal.f kj2 l0).bind fun t180 => ((spec_l3Normal.f kj2 l1).bind fun t183 => ((spec_l3Compose.f kj2 t180 t183).bind fun bt186 => (if bt186.2 = true then ((spec_GoodOp.f kj2 bt186.1).bind fun t190 => (if t190 = true then (some (bt186.1, true)) else (some (([] : List (S53)), false)))) else (some (([] : List (S53)), false)))))) = some (r1, r2) := by rw [if_neg (show ¬ (false = true) by decide)] at H; exact H
        clear H
        have H := H1
        clear H1
        replace H := Option.bind_eq_some_iff.mp H
        obtain ⟨t180, A110, H⟩ := H
        replace H : ((spec_l3Normal.f kj2 l1).bind fun t183 => ((spec_l3Compose.f kj2 t180 t183).bind fun bt186 => (if bt186.2 = true then ((spec_GoodOp.f kj2 bt186.1).bind fun t190 => (if t190 = true then (some (bt186.1, true)) else (some (([] : List (S53)), false)))) else (some (([] : List (S53)), false))))) = some (r1, r2) := H
        have A11 := Aside0.mk A110
        clear A110
        replace H := Option.bind_eq_some_iff.mp H
        obtain ⟨t183, A120, H⟩ := H
        replace H : ((spec_l3Compose.f kj2 t180 t183).bind fun bt186 => (if bt186.2 = true then ((spec_GoodOp.f kj2 bt186.1).bind fun t190 => (if t190 = true then (some (bt186.1, true)) else (some (([] : List (S53)), false)))) else (some (([] : List (S53)), false)))) = some (r1, r2) := H
        have A12 := Aside0.mk A120
        clear A120
        replace H := Option.bind_eq_some_iff.mp H
        obtain ⟨⟨t186, t187⟩, A130, H⟩ := H
        replace H : (if t187 = true then ((spec_GoodOp.f kj2 t186).bind fun t190 => (if t190 = true then (some (t186, true)) else (some (([] : List (S53)), false)))) else (some (([] : List (S53)), false))) = some (r1, r2) := H
        have A13 := Aside0.mk A130
        clear A130
        by_cases c14 : t187 = true
        · subst c14
          have H1 : ((spec_GoodOp.f kj2 t186).bind fun t190 => (if t190 = true then (some (t186, true)) else (some (([] : List (S53)), false)))) = some (r1, r2) := by rw [if_pos rfl] at H; exact H
          clear H
          have H := H1
          clear H1
          replace H := Option.bind_eq_some_iff.mp H
          obtain ⟨t190, A150, H⟩ := H
          replace H : (if t190 = true then (some (t186, true)) else (some (([] : List (S53)), false))) = some (r1, r2) := H
          have A15 := Aside0.mk A150
          clear A150
          by_cases c16 : t190 = true
          · subst c16
            have H1 : (some (t186, true)) = some (r1, r2) := by rw [if_pos rfl] at H; exact H
            clear H
            have H := H1
            clear H1
            simp only [Option.some.injEq, Prod.mk.injEq] at H
            obtain ⟨rfl, rfl⟩ := H
            go_wp2_with (first | ((with_reducible refine gate_callee (f := 61) rfl ?_); refine goesL_ (some 18) rfl rfl Try.func61 (by kernel_rfl) rfl #[.slice A0 l0.length c0] rfl (by (try simp only [List.map_toArray, List.map_cons, List.map_nil]); first | done | rfl | (simp only [List.length_drop, List.length_take]; rfl)) ?_; (with_reducible refine (spec_l3Normal.calls kj2 _ _ l0 t180 _ ?side1 ?side2 A11.out).mono ?_); (case side1 => repeat (first | exact (Kd.C_below HR0.out HB.out) | (with_reducible refine Kd.C_alloc ?_ _) | (with_reducible refine Kd.C_drewN ?_ _) | (with_reducible refine Kd.C_drew ?_))); (case side2 => exact HC0.out); rintro e w17 ⟨v181, rfl, ho0, hb⟩; refine ⟨_, rfl, ?_⟩; have n0_ := Aside0.mk (Kd.R_lower ho0 (below_size (by repeat (first | (with_reducible first | exact HB.out | apply below_alloc | apply pw_below_drewN | apply below_drew1) | exact HB.out)))); have n1_ := Aside0.mk (below_step (by repeat (first | (with_reducible first | exact HB.out | apply below_alloc | apply pw_below_drewN | apply below_drew1) | exact HB.out)) hb); clear HB; have HO182 := n0_; have HB := n1_; clear n0_ n1_; (try clear hb); (try clear hb2); (try clear hk); (try clear hi); (try clear ho0)) | ((with_reducible refine gate_callee (f := 61) rfl ?_); refine goesL_ (some 20) rfl rfl Try.func61 (by kernel_rfl) rfl #[.slice A1 l1.length c1] rfl (by (try simp only [List.map_toArray, List.map_cons, List.map_nil]); first | done | rfl | (simp only [List.length_drop, List.length_take]; rfl)) ?_; (with_reducible refine (spec_l3Normal.calls kj2 _ _ l1 t183 _ ?side1 ?side2 A12.out).mono ?_); (case side1 => repeat (first | exact (Kd.C_below HR1.out HB.out) | (with_reducible refine Kd.C_alloc ?_ _) | (with_reducible refine Kd.C_drewN ?_ _) | (with_reducible refine Kd.C_drew ?_))); (case side2 => exact HC1.out); rintro e w18 ⟨v184, rfl, ho0, hb⟩; refine ⟨_, rfl, ?_⟩; have n0_ := Aside0.mk (Kd.R_elder' (by (with_reducible repeat (first | apply Kd.R_alloc | apply Kd.R_drewN | apply Kd.R_drew)); exact HO182.out) (Kd.R_base ho0) hb); have n1_ := Aside0.mk (Kd.R_lower (Kd.R_new' ho0 (Kd.R_lt (by (with_reducible repeat (first | apply Kd.R_alloc | apply Kd.R_drewN | apply Kd.R_drew)); exact HO182.out))) (below_size (by repeat (first | (with_reducible first | exact HB.out | apply below_alloc | apply pw_below_drewN | apply below_drew1) | exact HB.out)))); have n2_ := Aside0.mk (below_step (by repeat (first | (with_reducible first | exact HB.out | apply below_alloc | apply pw_below_drewN | apply below_drew1) | exact HB.out)) hb); clear HO182; clear HB; have HO182 := n0_; have HO185 := n1_; have HB := n2_; clear n0_ n1_ n2_; (try clear hb); (try clear hb2); (try clear hk); (try clear hi); (try clear ho0); obtain ⟨Ao19, co19, eo19⟩ := Kd.R_slice HO182.out; subst eo19; obtain ⟨Ao20, co20, eo20⟩ := Kd.R_slice HO185.out; subst eo20) | ((with_reducible refine gate_callee (f := 62) rfl ?_); refine goesL_ (some 21) rfl rfl Try.func62 (by kernel_rfl) rfl #[.slice Ao19 t180.length co19, .slice Ao20 t183.length co20] rfl (by (try simp only [List.map_toArray, List.map_cons, List.map_nil]); first | done | rfl | (simp only [List.length_drop, List.length_take]; rfl)) ?_; (with_reducible refine (spec_l3Compose.calls kj2 _ _ t180 _ _ t183 t186 true _ ?side1 ?side2 ?side3 ?side4 A13.out).mono ?_); (case side1 => repeat (first | exact (Kd.R_reads' HO182.out).2.2 | (with_reducible refine Kd.C_alloc ?_ _) | (with_reducible refine Kd.C_drewN ?_ _) | (with_reducible refine Kd.C_drew ?_))); (case side2 => exact (Kd.R_reads' HO182.out).2.1); (case side3 => repeat (first | exact (Kd.R_reads' HO185.out).2.2 | (with_reducible refine Kd.C_alloc ?_ _) | (with_reducible refine Kd.C_drewN ?_ _) | (with_reducible refine Kd.C_drew ?_))); (case side4 => exact (Kd.R_reads' HO185.out).2.1); rintro e w21 ⟨v188, rfl, ho0, hb⟩; refine ⟨_, rfl, ?_⟩; have n0_ := Aside0.mk (Kd.R_elder' (by (with_reducible repeat (first | apply Kd.R_alloc | apply Kd.R_drewN | apply Kd.R_drew)); exact HO182.out) (Kd.R_base ho0) hb); have n1_ := Aside0.mk (Kd.R_elder' (by (with_reducible repeat (first | apply Kd.R_alloc | apply Kd.R_drewN | apply Kd.R_drew)); exact HO185.out) (Kd.R_base ho0) hb); have n2_ := Aside0.mk (Kd.R_lower (Kd.R_new' (Kd.R_new' ho0 (Kd.R_lt (by (with_reducible repeat (first | apply Kd.R_alloc | apply Kd.R_drewN | apply Kd.R_drew)); exact HO182.out))) (Kd.R_lt (by (with_reducible repeat (first | apply Kd.R_alloc | apply Kd.R_drewN | apply Kd.R_drew)); exact HO185.out))) (below_size (by repeat (first | (with_reducible first | exact HB.out | apply below_alloc | apply pw_below_drewN | apply below_drew1) | exact HB.out)))); have n3_ := Aside0.mk (below_step (by repeat (first | (with_reducible first | exact HB.out | apply below_alloc | apply pw_below_drewN | apply below_drew1) | exact HB.out)) hb); clear HO182; clear HO185; clear HB; have HO182 := n0_; have HO185 := n1_; have HO189 := n2_; have HB := n3_; clear n0_ n1_ n2_ n3_; (try clear hb); (try clear hb2); (try clear hk); (try clear hi); (try clear ho0); obtain ⟨Ao22, co22, eo22⟩ := Kd.R_slice HO189.out; subst eo22) | (go_at_call 20; (with_reducible refine (spec_GoodOp.calls kj2 _ _ t186 true _ ?side1 ?side2 A15.out).mono ?_); (case side1 => repeat (first | exact (Kd.R_reads' HO189.out).2.2 | (with_reducible refine Kd.C_alloc ?_ _) | (with_reducible refine Kd.C_drewN ?_ _) | (with_reducible refine Kd.C_drew ?_))); (case side2 => exact (Kd.R_reads' HO189.out).2.1); rintro e w23 ⟨rfl, hb⟩; have n0_ := Aside0.mk (Kd.R_below (by (with_reducible repeat (first | apply Kd.R_alloc | apply Kd.R_drewN | apply Kd.R_drew)); exact HO182.out) hb); have n1_ := Aside0.mk (Kd.R_below (by (with_reducible repeat (first | apply Kd.R_alloc | apply Kd.R_drewN | apply Kd.R_drew)); exact HO185.out) hb); have n2_ := Aside0.mk (Kd.R_below (by (with_reducible repeat (first | apply Kd.R_alloc | apply Kd.R_drewN | apply Kd.R_drew)); exact HO189.out) hb); have n3_ := Aside0.mk (below_step (by repeat (first | (with_reducible first | exact HB.out | apply below_alloc | apply pw_below_drewN | apply below_drew1) | exact HB.out)) hb); clear HO182; clear HO185; clear HO189; clear HB; have HO182 := n0_; have HO185 := n1_; have HO189 := n2_; have HB := n3_; clear n0_ n1_ n2_ n3_; (try clear hb); (try clear hb2); (try clear hk); (try clear hi)))
            go_ret2
            exact ⟨_, by first | rfl | (simp [errW_none, errW_some] <;> rfl) | (simp [*, errW_none, errW_some] <;> rfl), by (with_reducible repeat (first | apply Kd.R_alloc | apply Kd.R_drewN | apply Kd.R_drew)); exact Kd.R_mono HO189.out (fun _ hk => trivial), by repeat (first | (with_reducible first | exact HB.out | apply below_alloc | apply pw_below_drewN | apply below_drew1) | exact HB.out)⟩
          · replace c16 := Bool.eq_false_iff.mpr c16
            subst c16
            have H1 : (some (([] : List (S53)), false)) = some (r1, r2) := by rw [if_neg (show ¬ (false = true) by decide)] at H; exact H
            clear H
            have H := H1
            clear H1
            simp only [Option.some.injEq, Prod.mk.injEq] at H
            obtain ⟨rfl, rfl⟩ := H
            go_wp2_with (first | ((with_reducible refine gate_callee (f := 61) rfl ?_); refine goesL_ (some 18) rfl rfl Try.func61 (by kernel_rfl) rfl #[.slice A0 l0.length c0] rfl (by (try simp only [List.map_toArray, List.map_cons, List.map_nil]); first | done | rfl | (simp only [List.length_drop, List.length_take]; rfl)) ?_; (with_reducible refine (spec_l3Normal.calls kj2 _ _ l0 t180 _ ?side1 ?side2 A11.out).mono ?_); (case side1 => repeat (first | exact (Kd.C_below HR0.out HB.out) | (with_reducible refine Kd.C_alloc ?_ _) | (with_reducible refine Kd.C_drewN ?_ _) | (with_reducible refine Kd.C_drew ?_))); (case side2 => exact HC0.out); rintro e w24 ⟨v181, rfl, ho0, hb⟩; refine ⟨_, rfl, ?_⟩; have n0_ := Aside0.mk (Kd.R_lower ho0 (below_size (by repeat (first | (with_reducible first | exact HB.out | apply below_alloc | apply pw_below_drewN | apply below_drew1) | exact HB.out)))); have n1_ := Aside0.mk (below_step (by repeat (first | (with_reducible first | exact HB.out | apply below_alloc | apply pw_below_drewN | apply below_drew1) | exact HB.out)) hb); clear HB; have HO182 := n0_; have HB := n1_; clear n0_ n1_; (try clear hb); (try clear hb2); (try clear hk); (try clear hi); (try clear ho0)) | ((with_reducible refine gate_callee (f := 61) rfl ?_); refine goesL_ (some 20) rfl rfl Try.func61 (by kernel_rfl) rfl #[.slice A1 l1.length c1] rfl (by (try simp only [List.map_toArray, List.map_cons, List.map_nil]); first | done | rfl | (simp only [List.length_drop, List.length_take]; rfl)) ?_; (with_reducible refine (spec_l3Normal.calls kj2 _ _ l1 t183 _ ?side1 ?side2 A12.out).mono ?_); (case side1 => repeat (first | exact (Kd.C_below HR1.out HB.out) | (with_reducible refine Kd.C_alloc ?_ _) | (with_reducible refine Kd.C_drewN ?_ _) | (with_reducible refine Kd.C_drew ?_))); (case side2 => exact HC1.out); rintro e w25 ⟨v184, rfl, ho0, hb⟩; refine ⟨_, rfl, ?_⟩; have n0_ := Aside0.mk (Kd.R_elder' (by (with_reducible repeat (first | apply Kd.R_alloc | apply Kd.R_drewN | apply Kd.R_drew)); exact HO182.out) (Kd.R_base ho0) hb); have n1_ := Aside0.mk (Kd.R_lower (Kd.R_new' ho0 (Kd.R_lt (by (with_reducible repeat (first | apply Kd.R_alloc | apply Kd.R_drewN | apply Kd.R_drew)); exact HO182.out))) (below_size (by repeat (first | (with_reducible first | exact HB.out | apply below_alloc | apply pw_below_drewN | apply below_drew1) | exact HB.out)))); have n2_ := Aside0.mk (below_step (by repeat (first | (with_reducible first | exact HB.out | apply below_alloc | apply pw_below_drewN | apply below_drew1) | exact HB.out)) hb); clear HO182; clear HB; have HO182 := n0_; have HO185 := n1_; have HB := n2_; clear n0_ n1_ n2_; (try clear hb); (try clear hb2); (try clear hk); (try clear hi); (try clear ho0); obtain ⟨Ao26, co26, eo26⟩ := Kd.R_slice HO182.out; subst eo26; obtain ⟨Ao27, co27, eo27⟩ := Kd.R_slice HO185.out; subst eo27) | ((with_reducible refine gate_callee (f := 62) rfl ?_); refine goesL_ (some 21) rfl rfl Try.func62 (by kernel_rfl) rfl #[.slice Ao26 t180.length co26, .slice Ao27 t183.length co27] rfl (by (try simp only [List.map_toArray, List.map_cons, List.map_nil]); first | done | rfl | (simp only [List.length_drop, List.length_take]; rfl)) ?_; (with_reducible refine (spec_l3Compose.calls kj2 _ _ t180 _ _ t183 t186 true _ ?side1 ?side2 ?side3 ?side4 A13.out).mono ?_); (case side1 => repeat (first | exact (Kd.R_reads' HO182.out).2.2 | (with_reducible refine Kd.C_alloc ?_ _) | (with_reducible refine Kd.C_drewN ?_ _) | (with_reducible refine Kd.C_drew ?_))); (case side2 => exact (Kd.R_reads' HO182.out).2.1); (case side3 => repeat (first | exact (Kd.R_reads' HO185.out).2.2 | (with_reducible refine Kd.C_alloc ?_ _) | (with_reducible refine Kd.C_drewN ?_ _) | (with_reducible refine Kd.C_drew ?_))); (case side4 => exact (Kd.R_reads' HO185.out).2.1); rintro e w28 ⟨v188, rfl, ho0, hb⟩; refine ⟨_, rfl, ?_⟩; have n0_ := Aside0.mk (Kd.R_elder' (by (with_reducible repeat (first | apply Kd.R_alloc | apply Kd.R_drewN | apply Kd.R_drew)); exact HO182.out) (Kd.R_base ho0) hb); have n1_ := Aside0.mk (Kd.R_elder' (by (with_reducible repeat (first | apply Kd.R_alloc | apply Kd.R_drewN | apply Kd.R_drew)); exact HO185.out) (Kd.R_base ho0) hb); have n2_ := Aside0.mk (Kd.R_lower (Kd.R_new' (Kd.R_new' ho0 (Kd.R_lt (by (with_reducible repeat (first | apply Kd.R_alloc | apply Kd.R_drewN | apply Kd.R_drew)); exact HO182.out))) (Kd.R_lt (by (with_reducible repeat (first | apply Kd.R_alloc | apply Kd.R_drewN | apply Kd.R_drew)); exact HO185.out))) (below_size (by repeat (first | (with_reducible first | exact HB.out | apply below_alloc | apply pw_below_drewN | apply below_drew1) | exact HB.out)))); have n3_ := Aside0.mk (below_step (by repeat (first | (with_reducible first | exact HB.out | apply below_alloc | apply pw_below_drewN | apply below_drew1) | exact HB.out)) hb); clear HO182; clear HO185; clear HB; have HO182 := n0_; have HO185 := n1_; have HO189 := n2_; have HB := n3_; clear n0_ n1_ n2_ n3_; (try clear hb); (try clear hb2); (try clear hk); (try clear hi); (try clear ho0); obtain ⟨Ao29, co29, eo29⟩ := Kd.R_slice HO189.out; subst eo29) | (go_at_call 20; (with_reducible refine (spec_GoodOp.calls kj2 _ _ t186 false _ ?side1 ?side2 A15.out).mono ?_); (case side1 => repeat (first | exact (Kd.R_reads' HO189.out).2.2 | (with_reducible refine Kd.C_alloc ?_ _) | (with_reducible refine Kd.C_drewN ?_ _) | (with_reducible refine Kd.C_drew ?_))); (case side2 => exact (Kd.R_reads' HO189.out).2.1); rintro e w30 ⟨rfl, hb⟩; have n0_ := Aside0.mk (Kd.R_below (by (with_reducible repeat (first | apply Kd.R_alloc | apply Kd.R_drewN | apply Kd.R_drew)); exact HO182.out) hb); have n1_ := Aside0.mk (Kd.R_below (by (with_reducible repeat (first | apply Kd.R_alloc | apply Kd.R_drewN | apply Kd.R_drew)); exact HO185.out) hb); have n2_ := Aside0.mk (Kd.R_below (by (with_reducible repeat (first | apply Kd.R_alloc | apply Kd.R_drewN | apply Kd.R_drew)); exact HO189.out) hb); have n3_ := Aside0.mk (below_step (by repeat (first | (with_reducible first | exact HB.out | apply below_alloc | apply pw_below_drewN | apply below_drew1) | exact HB.out)) hb); clear HO182; clear HO185; clear HO189; clear HB; have HO182 := n0_; have HO185 := n1_; have HO189 := n2_; have HB := n3_; clear n0_ n1_ n2_ n3_; (try clear hb); (try clear hb2); (try clear hk); (try clear hi)))
            go_ret2
            exact ⟨_, by first | rfl | (simp [errW_none, errW_some] <;> rfl) | (simp [*, errW_none, errW_some] <;> rfl), by first | exact Kd.R_nil _ _ _ _ _ | exact Kd.N_nil _ _ _ _ _ | exact Kd.V_nil _ _ _ _ _ | exact Kd.Q_nil _ _ _ _ _ | exact Kd.S_nil _ _ _ _ _, by repeat (first | (with_reducible first | exact HB.out | apply below_alloc | apply pw_below_drewN | apply below_drew1) | exact HB.out)⟩
        · replace c14 := Bool.eq_false_iff.mpr c14
          subst c14
          have H1 : (some (([] : List (S53)), false)) = some (r1, r2) := by rw [if_neg (show ¬ (false = true) by decide)] at H; exact H
          clear H
          have H := H1
          clear H1
          simp only [Option.some.injEq, Prod.mk.injEq] at H
          obtain ⟨rfl, rfl⟩ := H
          go_wp2_with (first | ((with_reducible refine gate_callee (f := 61) rfl ?_); refine goesL_ (some 18) rfl rfl Try.func61 (by kernel_rfl) rfl #[.slice A0 l0.length c0] rfl (by (try simp only [List.map_toArray, List.map_cons, List.map_nil]); first | done | rfl | (simp only [List.length_drop, List.length_take]; rfl)) ?_; (with_reducible refine (spec_l3Normal.calls kj2 _ _ l0 t180 _ ?side1 ?side2 A11.out).mono ?_); (case side1 => repeat (first | exact (Kd.C_below HR0.out HB.out) | (with_reducible refine Kd.C_alloc ?_ _) | (with_reducible refine Kd.C_drewN ?_ _) | (with_reducible refine Kd.C_drew ?_))); (case side2 => exact HC0.out); rintro e w31 ⟨v181, rfl, ho0, hb⟩; refine ⟨_, rfl, ?_⟩; have n0_ := Aside0.mk (Kd.R_lower ho0 (below_size (by repeat (first | (with_reducible first | exact HB.out | apply below_alloc | apply pw_below_drewN | apply below_drew1) | exact HB.out)))); have n1_ := Aside0.mk (below_step (by repeat (first | (with_reducible first | exact HB.out | apply below_alloc | apply pw_below_drewN | apply below_drew1) | exact HB.out)) hb); clear HB; have HO182 := n0_; have HB := n1_; clear n0_ n1_; (try clear hb); (try clear hb2); (try clear hk); (try clear hi); (try clear ho0)) | ((with_reducible refine gate_callee (f := 61) rfl ?_); refine goesL_ (some 20) rfl rfl Try.func61 (by kernel_rfl) rfl #[.slice A1 l1.length c1] rfl (by (try simp only [List.map_toArray, List.map_cons, List.map_nil]); first | done | rfl | (simp only [List.length_drop, List.length_take]; rfl)) ?_; (with_reducible refine (spec_l3Normal.calls kj2 _ _ l1 t183 _ ?side1 ?side2 A12.out).mono ?_); (case side1 => repeat (first | exact (Kd.C_below HR1.out HB.out) | (with_reducible refine Kd.C_alloc ?_ _) | (with_reducible refine Kd.C_drewN ?_ _) | (with_reducible refine Kd.C_drew ?_))); (case side2 => exact HC1.out); rintro e w32 ⟨v184, rfl, ho0, hb⟩; refine ⟨_, rfl, ?_⟩; have n0_ := Aside0.mk (Kd.R_elder' (by (with_reducible repeat (first | apply Kd.R_alloc | apply Kd.R_drewN | apply Kd.R_drew)); exact HO182.out) (Kd.R_base ho0) hb); have n1_ := Aside0.mk (Kd.R_lower (Kd.R_new' ho0 (Kd.R_lt (by (with_reducible repeat (first | apply Kd.R_alloc | apply Kd.R_drewN | apply Kd.R_drew)); exact HO182.out))) (below_size (by repeat (first | (with_reducible first | exact HB.out | apply below_alloc | apply pw_below_drewN | apply below_drew1) | exact HB.out)))); have n2_ := Aside0.mk (below_step (by repeat (first | (with_reducible first | exact HB.out | apply below_alloc | apply pw_below_drewN | apply below_drew1) | exact HB.out)) hb); clear HO182; clear HB; have HO182 := n0_; have HO185 := n1_; have HB := n2_; clear n0_ n1_ n2_; (try clear hb); (try clear hb2); (try clear hk); (try clear hi); (try clear ho0); obtain ⟨Ao33, co33, eo33⟩ := Kd.R_slice HO182.out; subst eo33; obtain ⟨Ao34, co34, eo34⟩ := Kd.R_slice HO185.out; subst eo34) | ((with_reducible refine gate_callee (f := 62) rfl ?_); refine goesL_ (some 21) rfl rfl Try.func62 (by kernel_rfl) rfl #[.slice Ao33 t180.length co33, .slice Ao34 t183.length co34] rfl (by (try simp only [List.map_toArray, List.map_cons, List.map_nil]); first | done | rfl | (simp only [List.length_drop, List.length_take]; rfl)) ?_; (with_reducible refine (spec_l3Compose.calls kj2 _ _ t180 _ _ t183 t186 false _ ?side1 ?side2 ?side3 ?side4 A13.out).mono ?_); (case side1 => repeat (first | exact (Kd.R_reads' HO182.out).2.2 | (with_reducible refine Kd.C_alloc ?_ _) | (with_reducible refine Kd.C_drewN ?_ _) | (with_reducible refine Kd.C_drew ?_))); (case side2 => exact (Kd.R_reads' HO182.out).2.1); (case side3 => repeat (first | exact (Kd.R_reads' HO185.out).2.2 | (with_reducible refine Kd.C_alloc ?_ _) | (with_reducible refine Kd.C_drewN ?_ _) | (with_reducible refine Kd.C_drew ?_))); (case side4 => exact (Kd.R_reads' HO185.out).2.1); rintro e w35 ⟨v188, rfl, ho0, hb⟩; refine ⟨_, rfl, ?_⟩; have n0_ := Aside0.mk (Kd.R_elder' (by (with_reducible repeat (first | apply Kd.R_alloc | apply Kd.R_drewN | apply Kd.R_drew)); exact HO182.out) (Kd.R_base ho0) hb); have n1_ := Aside0.mk (Kd.R_elder' (by (with_reducible repeat (first | apply Kd.R_alloc | apply Kd.R_drewN | apply Kd.R_drew)); exact HO185.out) (Kd.R_base ho0) hb); have n2_ := Aside0.mk (Kd.R_lower (Kd.R_new' (Kd.R_new' ho0 (Kd.R_lt (by (with_reducible repeat (first | apply Kd.R_alloc | apply Kd.R_drewN | apply Kd.R_drew)); exact HO182.out))) (Kd.R_lt (by (with_reducible repeat (first | apply Kd.R_alloc | apply Kd.R_drewN | apply Kd.R_drew)); exact HO185.out))) (below_size (by repeat (first | (with_reducible first | exact HB.out | apply below_alloc | apply pw_below_drewN | apply below_drew1) | exact HB.out)))); have n3_ := Aside0.mk (below_step (by repeat (first | (with_reducible first | exact HB.out | apply below_alloc | apply pw_below_drewN | apply below_drew1) | exact HB.out)) hb); clear HO182; clear HO185; clear HB; have HO182 := n0_; have HO185 := n1_; have HO189 := n2_; have HB := n3_; clear n0_ n1_ n2_ n3_; (try clear hb); (try clear hb2); (try clear hk); (try clear hi); (try clear ho0)))
          go_ret2
          exact ⟨_, by first | rfl | (simp [errW_none, errW_some] <;> rfl) | (simp [*, errW_none, errW_some] <;> rfl), by first | exact Kd.R_nil _ _ _ _ _ | exact Kd.N_nil _ _ _ _ _ | exact Kd.V_nil _ _ _ _ _ | exact Kd.Q_nil _ _ _ _ _ | exact Kd.S_nil _ _ _ _ _, by repeat (first | (with_reducible first | exact HB.out | apply below_alloc | apply pw_below_drewN | apply below_drew1) | exact HB.out)⟩

/-! ### impl_isName: function 77 -/
def impl_isName.f (a0 : Int) : Option (Bool) := if a0 ≥ 65 then (some (decide (a0 ≤ 70))) else (some false)
set_option maxHeartbeats 8000000 in
set_option maxRecDepth 100000 in
theorem impl_isName.calls (a0 : Int) (r : Bool) (w : World) (h : impl_isName.f a0 = some r) :
    Calls Try.prog 77 #[.int .u8 a0] w fun e w' => e = .returned (.bool r) ∧ Drawn0 w w' := by
  have H : (if a0 ≥ 65 then (some (decide (a0 ≤ 70))) else (some false)) = some r := h
  clear h
  by_cases c2 : a0 ≥ 65
  · rw [if_pos c2] at H
    have c2b0 : decide (65 ≤ a0) = true := decide_eq_true c2
    clear c2
    obtain rfl := Option.some.inj H
    go_enter Try.func77, Try.ntmps77
    go_wp2
    go_ret
    exact ⟨by first | rfl | (simp; done) | (simp [*]; done), by repeat (first | exact Drawn0.refl _ | apply Drawn0.step)⟩
  · rw [if_neg c2] at H
    have c2b0 : decide (65 ≤ a0) = false := decide_eq_false c2
    clear c2
    obtain rfl := Option.some.inj H
    go_enter Try.func77, Try.ntmps77
    go_wp2
    go_ret
    exact ⟨by first | rfl | (simp; done) | (simp [*]; done), by repeat (first | exact Drawn0.refl _ | apply Drawn0.step)⟩

/-! ### impl_isPlain: function 78 -/
def impl_isPlain.f (a0 : Int) : Option (Bool) := if a0 ≥ 97 then (if a0 ≤ 122 then (some true) else (if a0 ≥ 48 then (if a0 ≤ 57 then (some true) else (if a0 = 32 then (some true) else (if a0 = 46 then (some true) else (some (a0 == 44))))) else (if a0 = 32 then (some true) else (if a0 = 46 then (some true) else (some (a0 == 44)))))) else (if a0 ≥ 48 then (if a0 ≤ 57 then (some true) else (if a0 = 32 then (some true) else (if a0 = 46 then (some true) else (some (a0 == 44))))) else (if a0 = 32 then (some true) else (if a0 = 46 then (some true) else (some (a0 == 44)))))
set_option maxHeartbeats 8000000 in
set_option maxRecDepth 100000 in
theorem impl_isPlain.calls (a0 : Int) (r : Bool) (w : World) (h : impl_isPlain.f a0 = some r) :
    Calls Try.prog 78 #[.int .u8 a0] w fun e w' => e = .returned (.bool r) ∧ Drawn0 w w' := by
  have H : (if a0 ≥ 97 then (if a0 ≤ 122 then (some true) else (if a0 ≥ 48 then (if a0 ≤ 57 then (some true) else (if a0 = 32 then (some true) else (if a0 = 46 then (some true) else (some (a0 == 44))))) else (if a0 = 32 then (some true) else (if a0 = 46 then (some true) else (some (a0 == 44)))))) else (if a0 ≥ 48 then (if a0 ≤ 57 then (some true) else (if a0 = 32 then (some true) else (if a0 = 46 then (some true) else (some (a0 == 44))))) else (if a0 = 32 then (some true) else (if a0 = 46 then (some true) else (some (a0 == 44)))))) = some r := h
  clear h
  by_cases c2 : a0 ≥ 97
  · rw [if_pos c2] at H
    have c2b0 : decide (97 ≤ a0) = true := decide_eq_true c2
    clear c2
    by_cases c3 : a0 ≤ 122
    · rw [if_pos c3] at H
      have c3b0 : decide (a0 ≤ 122) = true := decide_eq_true c3
      clear c3
      obtain rfl := Option.some.inj H
      go_enter Try.func78, Try.ntmps78
      go_wp2
      go_ret
      exact ⟨by first | rfl | (simp; done) | (simp [*]; done), by repeat (first | exact Drawn0.refl _ | apply Drawn0.step)⟩
    · rw [if_neg c3] at H
      have c3b0 : decide (a0 ≤ 122) = false := decide_eq_false c3
      clear c3
      by_cases c4 : a0 ≥ 48
      · rw [if_pos c4] at H
        have c4b0 : decide (48 ≤ a0) = true := decide_eq_true c4
        clear c4
        by_cases c5 : a0 ≤ 57
        · rw [if_pos c5] at H
          have c5b0 : decide (a0 ≤ 57) = true := decide_eq_true c5
          clear c5
          obtain rfl := Option.some.inj H
          go_enter Try.func78, Try.ntmps78
          go_wp2
          go_ret
          exact ⟨by first | rfl | (simp; done) | (simp [*]; done), by repeat (first | exact Drawn0.refl _ | apply Drawn0.step)⟩
        · rw [if_neg c5] at H
          have c5b0 : decide (a0 ≤ 57) = false := decide_eq_false c5
          clear c5
          by_cases c6 : a0 = 32
          · rw [if_pos c6] at H
            have c6b0 : (a0 == 32) = true := beq_iff_eq.mpr c6
            have c6b1 : (a0 != 32) = false := bne_eq_false_iff_eq.mpr c6
            clear c6
            obtain rfl := Option.some.inj H
            go_enter Try.func78, Try.ntmps78
            go_wp2
            go_ret
            exact ⟨by first | rfl | (simp; done) | (simp [*]; done), by repeat (first | exact Drawn0.refl _ | apply Drawn0.step)⟩
          · rw [if_neg c6] at H
            have c6b0 : (a0 == 32) = false := beq_eq_false_iff_ne.mpr c6
            have c6b1 : (a0 != 32) = true := bne_iff_ne.mpr c6
            by_cases c7 : a0 = 46
            · rw [if_pos c7] at H
              have c7b0 : (a0 == 46) = true := beq_iff_eq.mpr c7
              have c7b1 : (a0 != 46) = false := bne_eq_false_iff_eq.mpr c7
              clear c7
              obtain rfl := Option.some.inj H
              go_enter Try.func78, Try.ntmps78
              go_wp2
              go_ret
              exact ⟨by first | rfl | (simp; done) | (simp [*]; done), by repeat (first | exact Drawn0.refl _ | apply Drawn0.step)⟩
            · rw [if_neg c7] at H
              have c7b0 : (a0 == 46) = false := beq_eq_false_iff_ne.mpr c7
              have c7b1 : (a0 != 46) = true := bne_iff_ne.mpr c7
              obtain rfl := Option.some.inj H
              go_enter Try.func78, Try.ntmps78
              go_wp2
              go_ret
              exact ⟨by first | rfl | (simp; done) | (simp [*]; done), by repeat (first | exact Drawn0.refl _ | apply Drawn0.step)⟩
      · rw [if_neg c4] at H
        have c4b0 : decide (48 ≤ a0) = false := decide_eq_false c4
        clear c4
        by_cases c8 : a0 = 32
        · rw [if_pos c8] at H
          have c8b0 : (a0 == 32) = true := beq_iff_eq.mpr c8
          have c8b1 : (a0 != 32) = false := bne_eq_false_iff_eq.mpr c8
          clear c8
          obtain rfl := Option.some.inj H
          go_enter Try.func78, Try.ntmps78
          go_wp2
          go_ret
          exact ⟨by first | rfl | (simp; done) | (simp [*]; done), by repeat (first | exact Drawn0.refl _ | apply Drawn0.step)⟩
        · rw [if_neg c8] at H
          have c8b0 : (a0 == 32) = false := beq_eq_false_iff_ne.mpr c8
          have c8b1 : (a0 != 32) = true := bne_iff_ne.mpr c8
          by_cases c9 : a0 = 46
          · rw [if_pos c9] at H
            have c9b0 : (a0 == 46) = true := beq_iff_eq.mpr c9
            have c9b1 : (a0 != 46) = false := bne_eq_false_iff_eq.mpr c9
            clear c9
            obtain rfl := Option.some.inj H
            go_enter Try.func78, Try.ntmps78
            go_wp2
            go_ret
            exact ⟨by first | rfl | (simp; done) | (simp [*]; done), by repeat (first | exact Drawn0.refl _ | apply Drawn0.step)⟩
          · rw [if_neg c9] at H
            have c9b0 : (a0 == 46) = false := beq_eq_false_iff_ne.mpr c9
            have c9b1 : (a0 != 46) = true := bne_iff_ne.mpr c9
            obtain rfl := Option.some.inj H
            go_enter Try.func78, Try.ntmps78
            go_wp2
            go_ret
            exact ⟨by first | rfl | (simp; done) | (simp [*]; done), by repeat (first | exact Drawn0.refl _ | apply Drawn0.step)⟩
  · rw [if_neg c2] at H
    have c2b0 : decide (97 ≤ a0) = false := decide_eq_false c2
    clear c2
    by_cases c10 : a0 ≥ 48
    · rw [if_pos c10] at H
      have c10b0 : decide (48 ≤ a0) = true := decide_eq_true c10
      clear c10
      by_cases c11 : a0 ≤ 57
      · rw [if_pos c11] at H
        have c11b0 : decide (a0 ≤ 57) = true := decide_eq_true c11
        clear c11
        obtain rfl := Option.some.inj H
        go_enter Try.func78, Try.ntmps78
        go_wp2
        go_ret
        exact ⟨by first | rfl | (simp; done) | (simp [*]; done), by repeat (first | exact Drawn0.refl _ | apply Drawn0.step)⟩
      · rw [if_neg c11] at H
        have c11b0 : decide (a0 ≤ 57) = false := decide_eq_false c11
        clear c11
        by_cases c12 : a0 = 32
        · rw [if_pos c12] at H
          have c12b0 : (a0 == 32) = true := beq_iff_eq.mpr c12
          have c12b1 : (a0 != 32) = false := bne_eq_false_iff_eq.mpr c12
          clear c12
          obtain rfl := Option.some.inj H
          go_enter Try.func78, Try.ntmps78
          go_wp2
          go_ret
          exact ⟨by first | rfl | (simp; done) | (simp [*]; done), by repeat (first | exact Drawn0.refl _ | apply Drawn0.step)⟩
        · rw [if_neg c12] at H
          have c12b0 : (a0 == 32) = false := beq_eq_false_iff_ne.mpr c12
          have c12b1 : (a0 != 32) = true := bne_iff_ne.mpr c12
          by_cases c13 : a0 = 46
          · rw [if_pos c13] at H
            have c13b0 : (a0 == 46) = true := beq_iff_eq.mpr c13
            have c13b1 : (a0 != 46) = false := bne_eq_false_iff_eq.mpr c13
            clear c13
            obtain rfl := Option.some.inj H
            go_enter Try.func78, Try.ntmps78
            go_wp2
            go_ret
            exact ⟨by first | rfl | (simp; done) | (simp [*]; done), by repeat (first | exact Drawn0.refl _ | apply Drawn0.step)⟩
          · rw [if_neg c13] at H
            have c13b0 : (a0 == 46) = false := beq_eq_false_iff_ne.mpr c13
            have c13b1 : (a0 != 46) = true := bne_iff_ne.mpr c13
            obtain rfl := Option.some.inj H
            go_enter Try.func78, Try.ntmps78
            go_wp2
            go_ret
            exact ⟨by first | rfl | (simp; done) | (simp [*]; done), by repeat (first | exact Drawn0.refl _ | apply Drawn0.step)⟩
    · rw [if_neg c10] at H
      have c10b0 : decide (48 ≤ a0) = false := decide_eq_false c10
      clear c10
      by_cases c14 : a0 = 32
      · rw [if_pos c14] at H
        have c14b0 : (a0 == 32) = true := beq_iff_eq.mpr c14
        have c14b1 : (a0 != 32) = false := bne_eq_false_iff_eq.mpr c14
        clear c14
        obtain rfl := Option.some.inj H
        go_enter Try.func78, Try.ntmps78
        go_wp2
        go_ret
        exact ⟨by first | rfl | (simp; done) | (simp [*]; done), by repeat (first | exact Drawn0.refl _ | apply Drawn0.step)⟩
      · rw [if_neg c14] at H
        have c14b0 : (a0 == 32) = false := beq_eq_false_iff_ne.mpr c14
        have c14b1 : (a0 != 32) = true := bne_iff_ne.mpr c14
        by_cases c15 : a0 = 46
        · rw [if_pos c15] at H
          have c15b0 : (a0 == 46) = true := beq_iff_eq.mpr c15
          have c15b1 : (a0 != 46) = false := bne_eq_false_iff_eq.mpr c15
          clear c15
          obtain rfl := Option.some.inj H
          go_enter Try.func78, Try.ntmps78
          go_wp2
          go_ret
          exact ⟨by first | rfl | (simp; done) | (simp [*]; done), by repeat (first | exact Drawn0.refl _ | apply Drawn0.step)⟩
        · rw [if_neg c15] at H
          have c15b0 : (a0 == 46) = false := beq_eq_false_iff_ne.mpr c15
          have c15b1 : (a0 != 46) = true := bne_iff_ne.mpr c15
          obtain rfl := Option.some.inj H
          go_enter Try.func78, Try.ntmps78
          go_wp2
          go_ret
          exact ⟨by first | rfl | (simp; done) | (simp [*]; done), by repeat (first | exact Drawn0.refl _ | apply Drawn0.step)⟩

end Go.Proofs.Ytlelpomnblaciaa.PFnExactComposeOps
