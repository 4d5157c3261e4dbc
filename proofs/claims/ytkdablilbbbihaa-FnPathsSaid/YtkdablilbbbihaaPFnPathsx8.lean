/- (thin) Written by a program of this session (wip/ovl.py) over the kit's print: plain functions with the answers of the Go functions, and the proofs that they are; no condition. -/
import Derived.Test.YtkdablilbbbihaaShelf
import Derived.Test.YtkdablilbbbihaaPFnPathsx0
import Derived.Test.YtkdablilbbbihaaPFnPathsx4
import Derived.Test.YtkdablilbbbihaaPFnPathsx5
import Derived.Test.YtkdablilbbbihaaPFnPathsx7
namespace Go.Proofs.Ytkdablilbbbihaa.PFnPaths
open Go.RowKit Go.Proofs.YtkdablilbbbihaaW.PrintWords Go.Proofs.YtkdablilbbbihaaW.PrintLast Go.Proofs.YtkdablilbbbihaaW.PrintMore
attribute [local go_sem] max2_int min2_int max_two min_two max_three min_three max_four min_four   -- for this text's walks alone
set_option linter.unusedVariables false
set_option linter.unusedSimpArgs false
/-! ### strings_Builder_WriteString: function 94 (by hand) -/
-- import Shelf
set_option maxHeartbeats 2000000 in
set_option maxRecDepth 100000 in
theorem builder_str (B b : Nat) (bs : List Value) (s : ByteArray) (w : World) (h : Lib.IsBuilder 87 5 B b bs w) (hlen : bs.length + s.size ≤ 140737488355328) (hBw : B ≤ w.heap.size) :
  Calls Try.prog 94 #[.pointer (some ⟨b, 0, none⟩), .string s] w fun e w' => e = .returned (.tuple #[.int .i64 (s.size : Int), .nilIface]) ∧ (Lib.BuilderAt 87 5 B b (.pointer (some ⟨b, 0, none⟩)) (bs ++ Lib.strCells s) w' ∧ Below B w w') := by
 obtain ⟨i0, hi, hz0, hz1, hz2⟩ := info_parts byte_info
 go_enter Try.func94, Try.ntmps94
 go_wp2_with (go_at_call 97; refine (builder_check B b bs _ h).mono ?_)
 rintro e w1 ⟨rfl, h1, hb1⟩
 obtain ⟨hB, v, hbk, hown, hne⟩ := h1
 have c0 : w1.cell? ⟨b, 0, none⟩ = some (.pointer (some ⟨b, 0, none⟩)) := by rw [Lib.cell_of_heap hbk]; rfl
 have c1 : w1.cell? ⟨b, 1, none⟩ = some v := by rw [Lib.cell_of_heap hbk]; rfl
 go_wp2_with (at_builtin; refine Lib.wpList_append_own_string _ rfl _ _ 49 9 rfl B 5 i0 Try.underlying49 Try.underlying9 hi hz0 hz1 hz2 _ _ _ rfl hown s rfl ?c1 ?c2 ?c3 ?_)
 case c1 => simp only [Go.maxLen]; omega
 case c2 => omega
 case c3 => have := hb1.size; omega
 intro v' w2 hown' hgrow _
 have hlt : b < w1.heap.size := by
  rcases Nat.lt_or_ge b w1.heap.size with h' | h'
  ·exact h'
  ·simp [Array.getElem?_eq_none h'] at hbk
 have hb2 : w2.heap[b]? = some (.cells #[.pointer (some ⟨b, 0, none⟩), v] 87 (0, 0)) := by
  rw [hgrow.block b hlt (fun e => hne e.symm)]
  exact hbk
 have d0 : w2.cell? ⟨b, 0, none⟩ = some (.pointer (some ⟨b, 0, none⟩)) := by rw [Lib.cell_of_heap hb2]; rfl
 have d1 : w2.cell? ⟨b, 1, none⟩ = some v := by rw [Lib.cell_of_heap hb2]; rfl
 have f1 : w2.frozen? ⟨b, 1, none⟩ = false := Lib.frozen_of_heap hb2 1
 obtain ⟨A', c', rfl⟩ := own_slice hown'
 go_wp2
 go_ret2
 refine ⟨rfl, ?_, ?_⟩
 ·exact Lib.BuilderAt.put (T := 87) (e := 5) hB hb2 (bs' := bs ++ Lib.strCells s) (by simpa [Lib.strCells] using hown') (by decide)
 ·exact (hb1.grown hgrow (by have := hb1.size; omega) (fun k hk => (hown.lt k hk).1)).setCell (p := ⟨b, 1, none⟩) hB _
/-! ### impl_write: function 83 (by hand) -/
-- import Shelf
def wrKids (g : Int → Option (List UInt8)) (l : List S54) (k : Int) : Nat → Nat → Option (List UInt8)
 | 0, _ => some []
 | d + 1, i => if (rd_T54 l (i : Int)).f2 = k then (g (i : Int)).bind fun a => (wrKids g l k d (i + 1)).bind fun b => some (a ++ b) else wrKids g l k d (i + 1)
/-- What is written of a node, by so many rounds. -/
def wrF (l : List S54) (away : Int) : Nat → Int → Option (List UInt8)
 | 0, _ => none
 | f + 1, k => if k = away then some [] else if 0 ≤ k ∧ k < (l.length : Int) then
   (wrKids (wrF l away f) l k (l.length - (k.toNat + 1)) (k.toNat + 1)).bind fun r => some (((rd_T54 l k).f0 ++ (rd_T54 l k).f1).toList ++ (r ++ if (rd_T54 l k).f0.toList = [] then [] else [47])) else none
theorem wrKids_mono {g h : Int → Option (List UInt8)} (l : List S54) (k : Int) (hg : ∀ i, LeO (g i) (h i)) : ∀ d i, LeO (wrKids g l k d i) (wrKids h l k d i)
 | 0, _ => LeO.refl _
 | d + 1, i => by
  unfold wrKids
  exact LeO.ite (LeO.bind (hg _) (fun _ => LeO.bind (wrKids_mono l k hg d (i + 1)) (fun _ => LeO.refl _))) (wrKids_mono l k hg d (i + 1))
theorem wrF_mono (l : List S54) (away : Int) : ∀ f k, LeO (wrF l away f k) (wrF l away (f + 1) k)
 | 0, _ => LeO.none _
 | f + 1, k => by
  rw [wrF, wrF]
  exact LeO.ite (LeO.refl _) (LeO.ite (LeO.bind (wrKids_mono l k (wrF_mono l away f) _ _) (fun _ => LeO.refl _)) (LeO.none _))
def natOfV (v : Value) : Nat := match v with | .int _ n => n.toNat | _ => 0
theorem byteCells_app (a : List UInt8) (s : ByteArray) : Lib.byteCells a ++ Lib.strCells s = Lib.byteCells (a ++ s.toList) := by
 rw [ByteArray.toList_eq]; simp [Lib.byteCells, Lib.strCells]
theorem byteCells_slash (a : List UInt8) : Lib.byteCells a ++ [.int .u8 47] = Lib.byteCells (a ++ [47]) := by simp [Lib.byteCells]
theorem bc_len (l : List UInt8) : (Lib.byteCells l).length = l.length := by simp [Lib.byteCells]
set_option maxHeartbeats 8000000 in
set_option maxRecDepth 100000 in
theorem write_calls (l : List S54) (A0 : Option Addr) (c0 : Nat) (w0 : World) (hr0 : Kd.C k54 w0 A0 l.length l) (hll : l.length ≤ 1000000) (away : Int) (b : Nat) : ∀ (f : Nat) (k : Int) (r bs : List UInt8) (w : World), wrF l away f k = some r → Lib.IsBuilder 87 5 w0.heap.size b (Lib.byteCells bs) w → Below w0.heap.size w0 w → bs.length + r.length ≤ 140737488355328 →
  Calls Try.prog 83 #[.pointer (some ⟨b, 0, none⟩), .slice A0 l.length c0, .int .i64 k, .int .i64 away] w fun e w' => e = .returned (.tuple #[]) ∧ Lib.IsBuilder 87 5 w0.heap.size b (Lib.byteCells (bs ++ r)) w' ∧ Below w0.heap.size w0 w'
 | 0, k, r, bs, w, h, _, _, _ => by cases h
 | f + 1, k, r, bs, w, h, hB, hbw, hlen => by
  have hu54 := Try.underlying54
  have ih := write_calls l A0 c0 w0 hr0 hll away b f
  have HLL := Aside0.mk hll
  rw [wrF] at h
  by_cases hk : k = away
  ·rw [if_pos hk] at h
   obtain rfl := Option.some.inj h
   have ck : decide (k = away) = true := decide_eq_true hk
   have ck2 : (k == away) = true := beq_iff_eq.mpr hk
   have HB := Aside0.mk hB
   have HW := Aside0.mk hbw
   clear h hB hbw hlen ih hr0 hll
   go_enter Try.func83, Try.ntmps83
   go_wp2_with fail
   ((try simp only [Exit.inBlock, Exit.then]); refine bodyPost_ret (results_none rfl _ _ _) rfl ?_)
   exact ⟨rfl, by rw [List.append_nil]; exact HB.out, HW.out⟩
  ·rw [if_neg hk] at h
   by_cases hin : 0 ≤ k ∧ k < (l.length : Int)
   ·rw [if_pos hin] at h
    obtain ⟨rr, hkids, h⟩ := Option.bind_eq_some_iff.mp h
    obtain rfl := Option.some.inj h
    generalize htl : (if (rd_T54 l k).f0.toList = [] then [] else [47] : List UInt8) = tl at hlen ⊢
    have HTL := Aside0.mk htl
    clear htl
    obtain ⟨kn, rfl⟩ := Int.eq_ofNat_of_zero_le hin.1
    simp only [Int.toNat_natCast] at hkids
    have ck : decide ((kn : Int) = away) = false := decide_eq_false hk
    have ck2 : ((kn : Int) == away) = false := beq_eq_false_iff_ne.mpr hk
    have HB := Aside0.mk hB
    have HW := Aside0.mk hbw
    have HR := Aside0.mk hr0
    have HK := Aside0.mk hkids
    have HL := Aside0.mk hlen
    have IH := Aside0.mk ih
    have HIN := Aside0.mk hin
    have p0 : (0 : Int) ≤ (kn : Int) := hin.1
    have q0 : (kn : Int) < (l.length : Int) := hin.2
    obtain ⟨ad, e3, hx0, hx1, hx2⟩ := at_T54 HR.out (kn : Int) p0 q0
    cases e3
    have HX0 := (HW.out.cell (World.block_lt_of_cell? w0 _ hx0)).trans hx0
    have HX1 := (HW.out.cell (World.block_lt_of_cell? w0 _ hx1)).trans hx1
    simp only [Int.toNat_natCast] at HX0 HX1
    have H00 := Aside0.mk hx0
    clear h hB hbw hlen ih hr0 hll hkids hin hx0 hx1 hx2
    have hcat : (rd_T54 l (kn : Int)).f0.size + (rd_T54 l (kn : Int)).f1.size ≤ 9223372036854775807 := by
     have := HL.out
     rw [List.length_append, List.length_append, ByteArray.toList_eq, data_length, ByteArray.size_append] at this; omega
    have hcat2 : (9223372036854775807 < (rd_T54 l (kn : Int)).f0.size + (rd_T54 l (kn : Int)).f1.size) = False := eq_false (Nat.not_lt.2 hcat)
    go_enter Try.func83, Try.ntmps83
    go_wp2_with fail
    -- REGION1
    refine start_ (n := 13) (S := fun w' => w'.cell? (ad.add (kn * 3)) = some (.string (rd_T54 l (kn : Int)).f0) ∧ w'.cell? ⟨(ad.add (kn * 3)).block, (ad.add (kn * 3)).off + 1, none⟩ = some (.string (rd_T54 l (kn : Int)).f1)) (ds := [12]) #[false, false, false, false, false, false, false, false, false, false, false, false, false] (by kernel_rfl) rfl rfl ⟨HX0, HX1⟩ (fun hHeld => ?_)
    have HBA := Aside0.mk (show Lib.IsBuilder 87 5 w0.heap.size b (Lib.byteCells bs) w.drew from HB.out)
    have HWA := Aside0.mk (show Below w0.heap.size w0 w.drew from below_drew1 HW.out)
    clear HB HW HX0 HX1
    generalize hq3 : w.drew = w3 at HBA HWA hHeld ⊢
    clear hq3
    refine pure_ (i := 0) (N := (some 12)) (v := ?_) (a' := ?_) #[true, false, false, false, false, false, false, false, false, false, false, false, false] rfl rfl (by kernel_rfl) (fun _ _ _ h => h) (Or.inl ⟨by rfl, ?_⟩) ?_ ?_
    rotate_left
    ·intro w'
     go_simp
     with_reducible rfl
    rotate_left
    ·simp only [Act.put, List.setIfInBounds_toArray, List.set_cons_zero, List.set_cons_succ, i64_w, i32_w]
     rfl
    refine pure_ (i := 1) (N := (some 13)) (v := ?_) (a' := ?_) #[true, true, false, false, false, false, false, false, false, false, false, false, false] rfl rfl (by kernel_rfl) (fun _ _ _ h => h) (Or.inl ⟨by rfl, ?_⟩) ?_ ?_
    rotate_left
    ·intro w'
     go_simp
     with_reducible rfl
    rotate_left
    ·simp only [Act.put, List.setIfInBounds_toArray, List.set_cons_zero, List.set_cons_succ, i64_w, i32_w]
     rfl
    refine pure_ (i := 2) (N := (some 14)) (v := ?_) (a' := ?_) #[true, true, true, false, false, false, false, false, false, false, false, false, false] rfl rfl (by kernel_rfl) (fun _ _ _ h => h) (Or.inl ⟨by rfl, ?_⟩) ?_ ?_
    rotate_left
    ·intro w'
     go_simp
     with_reducible rfl
    rotate_left
    ·simp only [Act.put, List.setIfInBounds_toArray, List.set_cons_zero, List.set_cons_succ, i64_w, i32_w]
     rfl
    refine pure_ (i := 3) (N := (some 15)) (v := ?_) (a' := ?_) #[true, true, true, true, false, false, false, false, false, false, false, false, false] rfl rfl (by kernel_rfl) (fun _ _ _ h => h) (Or.inl ⟨by rfl, ?_⟩) ?_ ?_
    rotate_left
    ·intro w'
     go_simp
     with_reducible rfl
    rotate_left
    ·simp only [Act.put, List.setIfInBounds_toArray, List.set_cons_zero, List.set_cons_succ, i64_w, i32_w]
     rfl
    refine pure_ (i := 4) (N := (some 16)) (v := ?_) (a' := ?_) #[true, true, true, true, true, false, false, false, false, false, false, false, false] rfl rfl (by kernel_rfl) (fun _ _ _ h => h) (Or.inl ⟨by rfl, ?_⟩) ?_ ?_
    rotate_left
    ·intro w'
     go_simp
     with_reducible rfl
    rotate_left
    ·simp only [Act.put, List.setIfInBounds_toArray, List.set_cons_zero, List.set_cons_succ, i64_w, i32_w]
     rfl
    refine take_ (i := 5) (N := (some 17)) (v := ?_) (a' := ?_) #[true, true, true, true, true, true, false, false, false, false, false, false, false] rfl rfl (by kernel_rfl) (fun _ _ _ h => h) (Or.inl ⟨by rfl, ?_⟩) hHeld ?_ ?_
    rotate_left
    ·rintro w' ⟨s0, s1⟩
     go_simp
     with_reducible rfl
    rotate_left
    ·simp only [Act.put, List.setIfInBounds_toArray, List.set_cons_zero, List.set_cons_succ, i64_w, i32_w]
     rfl
    refine pure_ (i := 6) (N := (some 18)) (v := ?_) (a' := ?_) #[true, true, true, true, true, true, true, false, false, false, false, false, false] rfl rfl (by kernel_rfl) (fun _ _ _ h => h) (Or.inl ⟨by rfl, ?_⟩) ?_ ?_
    rotate_left
    ·intro w'
     go_simp
     with_reducible rfl
    rotate_left
    ·simp only [Act.put, List.setIfInBounds_toArray, List.set_cons_zero, List.set_cons_succ, i64_w, i32_w]
     rfl
    refine pure_ (i := 7) (N := (some 19)) (v := ?_) (a' := ?_) #[true, true, true, true, true, true, true, true, false, false, false, false, false] rfl rfl (by kernel_rfl) (fun _ _ _ h => h) (Or.inl ⟨by rfl, ?_⟩) ?_ ?_
    rotate_left
    ·intro w'
     go_simp
     with_reducible rfl
    rotate_left
    ·simp only [Act.put, List.setIfInBounds_toArray, List.set_cons_zero, List.set_cons_succ, i64_w, i32_w]
     rfl
    refine pure_ (i := 8) (N := (some 20)) (v := ?_) (a' := ?_) #[true, true, true, true, true, true, true, true, true, false, false, false, false] rfl rfl (by kernel_rfl) (fun _ _ _ h => h) (Or.inl ⟨by rfl, ?_⟩) ?_ ?_
    rotate_left
    ·intro w'
     go_simp
     with_reducible rfl
    rotate_left
    ·simp only [Act.put, List.setIfInBounds_toArray, List.set_cons_zero, List.set_cons_succ, i64_w, i32_w]
     rfl
    refine pure_ (i := 9) (N := (some 21)) (v := ?_) (a' := ?_) #[true, true, true, true, true, true, true, true, true, true, false, false, false] rfl rfl (by kernel_rfl) (fun _ _ _ h => h) (Or.inl ⟨by rfl, ?_⟩) ?_ ?_
    rotate_left
    ·intro w'
     go_simp
     with_reducible rfl
    rotate_left
    ·simp only [Act.put, List.setIfInBounds_toArray, List.set_cons_zero, List.set_cons_succ, i64_w, i32_w]
     rfl
    refine take_ (i := 10) (N := (some 22)) (v := ?_) (a' := ?_) #[true, true, true, true, true, true, true, true, true, true, true, false, false] rfl rfl (by kernel_rfl) (fun _ _ _ h => h) (Or.inl ⟨by rfl, ?_⟩) hHeld ?_ ?_
    rotate_left
    ·rintro w' ⟨s0, s1⟩
     go_simp
     with_reducible rfl
    rotate_left
    ·simp only [Act.put, List.setIfInBounds_toArray, List.set_cons_zero, List.set_cons_succ, i64_w, i32_w]
     rfl
    refine pure_ (i := 11) (N := (some 23)) (v := ?_) (a' := ?_) #[true, true, true, true, true, true, true, true, true, true, true, true, false] rfl rfl (by kernel_rfl) (fun _ _ _ h => h) (Or.inl ⟨by rfl, ?_⟩) ?_ ?_
    rotate_left
    ·intro w'
     go_simp
     with_reducible rfl
    rotate_left
    ·simp only [Act.put, List.setIfInBounds_toArray, List.set_cons_zero, List.set_cons_succ, i64_w, i32_w]
     rfl
    refine last_ (i := 12) (N := some 24) #[true, true, true, true, true, true, true, true, true, true, true, true, true] rfl rfl (by kernel_rfl) (by decide) (fun K hK => ?_)
    refine goes_ Try.func94 (by kernel_rfl) rfl #[.pointer (some ⟨b, 0, none⟩), .string ((rd_T54 l (kn : Int)).f0 ++ (rd_T54 l (kn : Int)).f1)] (by rfl) rfl rfl (by (try simp only [List.map_toArray, List.map_cons, List.map_nil]); first | done | rfl) ?_
    refine (builder_str w0.heap.size b (Lib.byteCells bs) ((rd_T54 l (kn : Int)).f0 ++ (rd_T54 l (kn : Int)).f1) _ HBA.out ?s1 ?s2).mono ?_
    case s1 => have := HL.out; rw [bc_len, ByteArray.size_append]; rw [List.length_append, List.length_append, ByteArray.toList_eq, data_length, ByteArray.size_append] at this; omega
    case s2 => exact HWA.out.size
    rintro e w4 ⟨rfl, h1, hb1⟩
    rw [byteCells_app] at h1
    have HB1 := Aside0.mk h1
    have HW1 := Aside0.mk (HWA.out.trans hb1)
    clear h1 hb1 HBA HWA
    refine ⟨_, rfl, ?_⟩
    refine hK.out _ _ ?_
    clear hK K
    refine done_ (by kernel_rfl) ?_
    -- END1
    simp only [Act.put, List.setIfInBounds_toArray, List.set_cons_zero, List.set_cons_succ, i64_w, i32_w]
    generalize (Value.tuple #[Value.int IntKind.i64 ((((rd_T54 l (kn : Int)).f0 ++ (rd_T54 l (kn : Int)).f1).size : Nat) : Int), Value.nilIface]) = tv24
    go_wp2_with fail
    go_loopw [8] (fun v8 wr => ∃ i : Nat, v8 = .int .i64 (i : Int) ∧ Aside0 (kn + 1 ≤ i ∧ i ≤ l.length) ∧ ∃ acc rest : List UInt8, Aside0 (wrKids (wrF l away f) l (kn : Int) (l.length - i) i = some rest) ∧ Aside0 (acc ++ rest = rr) ∧ Aside0 (Lib.IsBuilder 87 5 w0.heap.size b (Lib.byteCells (bs ++ ((rd_T54 l (kn : Int)).f0 ++ (rd_T54 l (kn : Int)).f1).toList ++ acc)) wr) ∧ Aside0 (Below w0.heap.size w0 wr)) (fun i _ => l.length - natOfV i)
    case atStart =>
     have hk1 := HIN.out.2
     have hk0 := HLL.out
     refine ⟨kn + 1, ?_, ⟨by omega⟩, [], rr, HK, ⟨rfl⟩, ⟨by rw [List.append_nil]; exact .inr HB1.out⟩, HW1⟩
     first | rfl | (simp; done) | (congr 1; unfold wrap64; omega)
    case round =>
     obtain ⟨i, rfl, Hi, acc, rest, HKd, HAc, HBr, HWr⟩ := hrel
     clear HB1 HW1 HK
     have HKN := Aside0.mk q0
     by_cases hlt : i < l.length
     ·have d0 : decide ((i : Int) < (l.length : Int)) = true := decide_eq_true (by omega)
      have d1 : decide (i < l.length) = true := decide_eq_true hlt
      have p5 : (0 : Int) ≤ (i : Int) := by omega
      have q5 : (i : Int) < (l.length : Int) := by omega
      obtain ⟨ad2, e2, hy0, hy1, hy2⟩ := at_T54 HR.out (i : Int) p5 q5
      cases e2
      have HY2 := (HWr.out.cell (World.block_lt_of_cell? w0 _ hy2)).trans hy2
      simp only [Int.toNat_natCast] at HY2
      clear hy0 hy1 hy2
      have hkd := HKd.out
      rw [show l.length - i = (l.length - (i + 1)) + 1 by omega, wrKids] at hkd
      have HLT := Aside0.mk hlt
      by_cases hup : (rd_T54 l (i : Int)).f2 = (kn : Int)
      ·rw [if_pos hup] at hkd
       obtain ⟨ra, hra, hkd⟩ := Option.bind_eq_some_iff.mp hkd
       obtain ⟨rb, hrb, hkd⟩ := Option.bind_eq_some_iff.mp hkd
       obtain rfl := Option.some.inj hkd
       have u0 : decide ((rd_T54 l (i : Int)).f2 = (kn : Int)) = true := decide_eq_true hup
       have u1 : ((rd_T54 l (i : Int)).f2 == (kn : Int)) = true := beq_iff_eq.mpr hup
       have HRA := Aside0.mk hra
       have HRB := Aside0.mk hrb
       clear hra hrb hkd hup hlt
       have hcall := IH.out (i : Int) ra (bs ++ ((rd_T54 l (kn : Int)).f0 ++ (rd_T54 l (kn : Int)).f1).toList ++ acc) _ HRA.out HBr.out HWr.out (by have h9 := HL.out; rw [← HAc.out] at h9; simp only [List.length_append] at h9 ⊢; omega)
       go_wp2_with fail
       refine hcall.mono ?_
       rintro e w5 ⟨rfl, h1, hb1⟩
       have HB5 := Aside0.mk h1
       have HW5 := Aside0.mk hb1
       clear h1 hb1 hcall
       go_wp2_with fail
       have hl' := HLT.out
       have hi' := Hi.out
       have hll := HLL.out
       go_roundw
       case rel =>
        refine ⟨i + 1, ?_, ⟨by omega⟩, acc ++ ra, rb, HRB, ⟨by rw [List.append_assoc]; exact HAc.out⟩, ⟨by rw [← List.append_assoc]; exact HB5.out⟩, HW5⟩
        first | rfl | (simp; done) | (congr 1; unfold wrap64; omega)
       case measure =>
        show l.length - (wrap64 ((i : Int) + 1)).toNat < l.length - ((i : Int)).toNat
        unfold wrap64; omega
      ·rw [if_neg hup] at hkd
       have u0 : decide ((rd_T54 l (i : Int)).f2 = (kn : Int)) = false := decide_eq_false hup
       have u1 : ((rd_T54 l (i : Int)).f2 == (kn : Int)) = false := beq_eq_false_iff_ne.mpr hup
       have HRB := Aside0.mk hkd
       clear hkd hup hlt
       go_wp2_with fail
       have hl' := HLT.out
       have hi' := Hi.out
       have hll := HLL.out
       go_roundw
       case rel =>
        refine ⟨i + 1, ?_, ⟨by omega⟩, acc, rest, HRB, HAc, HBr, HWr⟩
        first | rfl | (simp; done) | (congr 1; unfold wrap64; omega)
       case measure =>
        show l.length - (wrap64 ((i : Int) + 1)).toNat < l.length - ((i : Int)).toNat
        unfold wrap64; omega
     ·have d0 : decide ((i : Int) < (l.length : Int)) = false := decide_eq_false (by omega)
      have d1 : decide (i < l.length) = false := decide_eq_false hlt
      have hkd := HKd.out
      rw [show l.length - i = 0 by omega, wrKids] at hkd
      obtain rfl := Option.some.inj hkd
      have hac := HAc.out
      rw [List.append_nil] at hac
      subst hac
      have HZ0 := (HWr.out.cell (World.block_lt_of_cell? w0 _ H00.out)).trans H00.out
      simp only [Int.toNat_natCast] at HZ0
      clear hkd hlt
      by_cases hn : (rd_T54 l (kn : Int)).f0.toList = ([] : List UInt8)
      ·have n0 : ((rd_T54 l (kn : Int)).f0.toList == ([] : List UInt8)) = true := beq_iff_eq.mpr hn
       have n1 : ((rd_T54 l (kn : Int)).f0.toList != ([] : List UInt8)) = false := bne_eq_false_iff_eq.mpr hn
       have n2 : (rd_T54 l (kn : Int)).f0.toList.isEmpty = true := List.isEmpty_iff.mpr hn
       have HN := Aside0.mk hn
       clear hn
       go_wp2_with fail
       go_end0
       refine ⟨rfl, ?_, HWr.out⟩
       have e9 := HTL.out; rw [if_pos HN.out] at e9; subst e9
       rw [List.append_nil, ← List.append_assoc]; exact HBr.out
      ·have n0 : ((rd_T54 l (kn : Int)).f0.toList == ([] : List UInt8)) = false := beq_eq_false_iff_ne.mpr hn
       have n1 : ((rd_T54 l (kn : Int)).f0.toList != ([] : List UInt8)) = true := bne_iff_ne.mpr hn
       have n2 : (rd_T54 l (kn : Int)).f0.toList.isEmpty = false := List.isEmpty_eq_false_iff.mpr hn
       have HN := Aside0.mk hn
       clear hn
       go_wp2_with (first | (go_at_call 93; refine (builder_byte w0.heap.size b (Lib.byteCells (bs ++ ((rd_T54 l (kn : Int)).f0 ++ (rd_T54 l (kn : Int)).f1).toList ++ acc)) 47 _ HBr.out ?t1 ?t2).mono ?_; (case t1 => have h9 := HL.out; have e9 := HTL.out; rw [if_neg HN.out] at e9; subst e9; rw [bc_len]; simp only [List.length_append, List.length_singleton] at h9 ⊢; omega); (case t2 => exact HWr.out.size); rintro e w5 ⟨rfl, h1, hb1⟩; rw [byteCells_slash] at h1; have HB5 := Aside0.mk h1; have HW5 := Aside0.mk (HWr.out.trans hb1); clear h1 hb1))
       go_end0
       refine ⟨rfl, ?_, HW5.out⟩
       have e9 := HTL.out; rw [if_neg HN.out] at e9; subst e9
       rw [← List.append_assoc, ← List.append_assoc]; exact .inr HB5.out
   ·rw [if_neg hin] at h; cases h
-- calls 93 97
/-! ### impl_flat: function 64 (by hand) -/
-- import Shelf
def impl_flat.f (k : Nat) (l0 : List S54) (a1 a2 : Int) : Option ByteArray := if l0.length ≤ 1000000 then (wrF l0 a2 k a1).bind fun r => if r.length ≤ 140737488355328 then some ⟨r.toArray⟩ else none else none
theorem impl_flat.mono : ∀ a0 a1 a2 k, LeO (impl_flat.f k a0 a1 a2) (impl_flat.f (k + 1) a0 a1 a2) := by
 intro l a1 a2 k
 unfold impl_flat.f
 exact LeO.ite (LeO.bind (wrF_mono l a2 k a1) (fun _ => LeO.refl _)) (LeO.none _)
set_option maxHeartbeats 4000000 in
set_option maxRecDepth 100000 in
theorem impl_flat.calls (k : Nat) (A0 : Option Addr) (c0 : Nat) (l0 : List S54) (a1 a2 : Int) (r : ByteArray) (w : World) (hr0 : Kd.C k54 w A0 l0.length l0) (hc0 : l0.length ≤ c0) (h : impl_flat.f k l0 a1 a2 = some r) :
  Calls Try.prog 64 #[.slice A0 l0.length c0, .int .i64 a1, .int .i64 a2] w fun e w' => e = .returned (.string r) ∧ Below w.heap.size w w' := by
 unfold impl_flat.f at h
 by_cases hl : l0.length ≤ 1000000
 ·rw [if_pos hl] at h
  obtain ⟨t, ht, h⟩ := Option.bind_eq_some_iff.mp h
  by_cases hz : t.length ≤ 140737488355328
  ·rw [if_pos hz] at h
   obtain rfl := Option.some.inj h
   have HC := Aside0.mk (fun (w1 : World) (hb : Lib.IsBuilder 87 5 w.heap.size w.heap.size (Lib.byteCells []) w1) (hw : Below w.heap.size w w1) => write_calls l0 A0 c0 w hr0 hl a2 w.heap.size k a1 t [] w1 ht hb hw (by simpa using hz))
   clear h hl ht hz hr0 hc0
   go_enter Try.func64, Try.ntmps64
   go_wp2_with (first | (go_at_call 83; refine (HC.out _ ?b0 ?b1).mono ?_; (case b0 => exact .inl ⟨Nat.le_refl _, .slice none 0 0, heap_alloc_new w _, own_nil _ _ _ _, by simp [Value.ownBlock]⟩); (case b1 => repeat (first | exact Below.refl _ _ | apply below_alloc)); rintro e w1 ⟨rfl, h1, hb1⟩; have HB1 := Aside0.mk h1; have HW1 := Aside0.mk hb1; clear h1 hb1) | (go_at_call 84; refine (Try.Builder_String_any w.heap.size w.heap.size ([] ++ t) _ HB1.out HW1.out.size).mono ?_; rintro e w2 ⟨rfl, hb2⟩; have HB2 := Aside0.mk hb2; clear hb2))
   go_ret
   exact ⟨rfl, HW1.out.trans HB2.out⟩
  ·rw [if_neg hz] at h; cases h
 ·rw [if_neg hl] at h; cases h
/-! ### impl_GoodTree: function 29 -/
def impl_GoodTree.l0 : Nat → List (S54) → Int → List (S54) → Int → Int → Option (Bool)
 | 0, _, _, _, _, _ => none
 | k + 1, x0, x3, x9, x10, x11 => if x11 < x10 then (if 0 ≤ x11 then (if x11 < (x9.length : Int) then (if (wrap64 (x3 + (wrap64 ((((rd_T54 x9 x11).f1).size : Int) + (wrap64 (2 * (((rd_T54 x9 x11).f0).size : Int))))))) > 300 then (some false) else (impl_GoodTree.l0 k x0 (wrap64 (x3 + (wrap64 ((((rd_T54 x9 x11).f1).size : Int) + (wrap64 (2 * (((rd_T54 x9 x11).f0).size : Int))))))) x9 x10 (wrap64 (x11 + 1)))) else (none)) else (none)) else ((impl_flat.f k x0 0 (-1)).bind fun t181 => ((impl_GoodDoc.f k t181).bind fun t182 => (some t182)))
def impl_GoodTree.f (k : Nat) (l0 : List (S54)) : Option (Bool) := (impl_shaped.f k l0).bind fun t178 => (if t178 = true then (impl_GoodTree.l0 k l0 0 l0 (l0.length : Int) 0) else (some false))
theorem impl_GoodTree.mono_l : ∀ k, (∀ y0 y1 y2 y3 y4, LeO (impl_GoodTree.l0 k y0 y1 y2 y3 y4) (impl_GoodTree.l0 (k + 1) y0 y1 y2 y3 y4))
 | 0 => fun _ _ _ _ _ r h => by simp [impl_GoodTree.l0] at h
 | k + 1 => by
  have ih0 := impl_GoodTree.mono_l k
  ·intro y0 y1 y2 y3 y4
   unfold impl_GoodTree.l0
   repeat' first
   | (with_reducible exact ih0 _ _ _ _ _)
   | (with_reducible exact impl_GoodDoc.mono _ _)
   | (with_reducible exact impl_flat.mono _ _ _ _)
   | (with_reducible exact impl_shaped.mono _ _)
   | (with_reducible exact LeO.refl _)
   | (with_reducible exact LeO.none _)
   | (with_reducible refine LeO.ite ?_ ?_)
   | (with_reducible refine LeO.bind ?_ (fun _ => ?_))
   | exact ih0 _ _ _ _ _
   | exact impl_GoodDoc.mono _ _
   | exact impl_flat.mono _ _ _ _
   | exact impl_shaped.mono _ _
   | exact LeO.none _
   | refine LeO.ite ?_ ?_
   | refine LeO.bind ?_ (fun _ => ?_)
theorem impl_GoodTree.mono : ∀ a0 k, LeO (impl_GoodTree.f k a0) (impl_GoodTree.f (k + 1) a0) := by
 intro a0 k
 have ih0 := impl_GoodTree.mono_l k
 unfold impl_GoodTree.f
 repeat' first
   | (with_reducible exact ih0 _ _ _ _ _)
   | (with_reducible exact impl_GoodDoc.mono _ _)
   | (with_reducible exact impl_flat.mono _ _ _ _)
   | (with_reducible exact impl_shaped.mono _ _)
   | (with_reducible exact LeO.refl _)
   | (with_reducible exact LeO.none _)
   | (with_reducible refine LeO.ite ?_ ?_)
   | (with_reducible refine LeO.bind ?_ (fun _ => ?_))
   | exact ih0 _ _ _ _ _
   | exact impl_GoodDoc.mono _ _
   | exact impl_flat.mono _ _ _ _
   | exact impl_shaped.mono _ _
   | exact LeO.none _
   | refine LeO.ite ?_ ?_
   | refine LeO.bind ?_ (fun _ => ?_)
set_option maxHeartbeats 8000000 in
set_option maxRecDepth 100000 in
theorem impl_GoodTree.calls (k : Nat) (A0 : Option Addr) (c0 : Nat) (l0 : List (S54)) (r : Bool) (w : World) (hr0 : Kd.C k54 w A0 l0.length l0) (hc0 : l0.length ≤ c0) (h : impl_GoodTree.f k l0 = some r) :
  Calls Try.prog 29 #[.slice A0 l0.length c0] w fun e w' => e = .returned (.bool r) ∧ Below w.heap.size w w' := by
 have hu54 := Try.underlying54
 have HR0 := Aside0.mk hr0
 have HC0 := Aside0.mk hc0
 clear hr0 hc0
 have HB := Aside0.mk (Below.refl w.heap.size w)
 have H : ((impl_shaped.f k l0).bind fun t178 => (if t178 = true then (impl_GoodTree.l0 k l0 0 l0 (l0.length : Int) 0) else (some false))) = some r := h
 clear h
 replace H := Option.bind_eq_some_iff.mp H
 obtain ⟨t178, A20, H⟩ := H
 replace H : (if t178 = true then (impl_GoodTree.l0 k l0 0 l0 (l0.length : Int) 0) else (some false)) = some r := H
 have A2 := Aside0.mk A20
 clear A20
 by_cases c3 : t178 = true
 ·subst c3
  have H1 : (impl_GoodTree.l0 k l0 0 l0 (l0.length : Int) 0) = some r := by rw [if_pos rfl] at H; exact H
  clear H
  have H := H1
  clear H1
  have H' := Aside0.mk H
  clear H
  go_enter Try.func29, Try.ntmps29
  go_wp2_with (first | ((with_reducible refine gate_callee (f := 63) rfl ?_); refine goesL_ (some 7) rfl rfl Try.func63 (by kernel_rfl) rfl #[.slice A0 l0.length c0] rfl (by first | rfl | (simp only [List.map_toArray, List.map_cons, List.map_nil]; rfl)) ?_; (with_reducible refine (impl_shaped.calls k _ _ l0 true _ ?side1 ?side2 A2.out).mono ?_); (case side1 => repeat (first | exact HR0.out | (with_reducible refine Kd.C_alloc ?_ _) | (with_reducible refine Kd.C_drewN ?_ _) | (with_reducible refine Kd.C_drew ?_))); (case side2 => exact HC0.out); rintro e w4 ⟨rfl, hb⟩; refine ⟨_, rfl, ?_⟩; have n0_ := Aside0.mk (below_step (by repeat (first | (with_reducible first | exact HB.out | apply below_alloc | apply pw_below_drewN | apply below_drew1) | exact HB.out)) hb); clear HB; have HB := n0_; clear n0_; (try clear hb); (try clear hb2); (try clear hk); (try clear hi)))
  go_loopg [3, 11] k (fun kq v3 v11 w' => ∃ (x3_1 : Int) (x11_1 : Int), v3 = .int .i64 x3_1 ∧ v11 = .int .i64 x11_1 ∧ Aside0 (impl_GoodTree.l0 kq l0 x3_1 l0 (l0.length : Int) x11_1 = some r) ∧ Aside0 (kq ≤ k) ∧ Aside0 (Below w.heap.size w w'))
  case atStart => exact ⟨(0), (0), (by first | rfl | (simp; done) | (simp [*]; done)), (by first | rfl | (simp; done) | (simp [*]; done)), H', ⟨Nat.le_refl _⟩, ⟨by repeat (first | (with_reducible first | exact HB.out | apply below_alloc | apply pw_below_drewN | apply below_drew1) | exact HB.out)⟩⟩
  case round =>
   clear H'
   try clear c2
   try clear p2
   try clear c3
   obtain ⟨x3_1, x11_1, rfl, rfl, HA, HK1, HB⟩ := hrel
   cases gk with
   | zero => exact absurd HA.out (by simp [impl_GoodTree.l0])
   | succ k1 =>
    have H := HA.out
    clear HA
    simp only [impl_GoodTree.l0] at H
    by_cases c5 : x11_1 < (l0.length : Int)
    ·rw [if_pos c5] at H
     have c5b0 : decide (x11_1 < (l0.length : Int)) = true := decide_eq_true c5
     clear c5
     by_cases c6 : 0 ≤ x11_1
     ·rw [if_pos c6] at H
      have c6b0 : decide (0 ≤ x11_1) = true := decide_eq_true c6
      clear c6
      by_cases c7 : x11_1 < (l0.length : Int)
      ·rw [if_pos c7] at H
       have c7b0 : decide (x11_1 < (l0.length : Int)) = true := decide_eq_true c7
       clear c7
       by_cases c8 : (wrap64 (x3_1 + (wrap64 ((((rd_T54 l0 x11_1).f1).size : Int) + (wrap64 (2 * (((rd_T54 l0 x11_1).f0).size : Int))))))) > 300
       ·rw [if_pos c8] at H
        have c8b0 : decide (300 < (wrap64 (x3_1 + (wrap64 ((((rd_T54 l0 x11_1).f1).size : Int) + (wrap64 (2 * (((rd_T54 l0 x11_1).f0).size : Int)))))))) = true := decide_eq_true c8
        clear c8
        obtain rfl := Option.some.inj H
        have p179 : 0 ≤ (x11_1 : Int) := of_decide_eq_true (by assumption)
        have q179 : x11_1 < (l0.length : Int) := of_decide_eq_true (by assumption)
        obtain ⟨ad179, e179, hx179_0, hx179_1, hx179_2⟩ := at_T54 HR0.out x11_1 p179 q179
        cases e179
        replace hx179_0 := (HB.out.cell (World.block_lt_of_cell? w _ hx179_0)).trans hx179_0
        replace hx179_1 := (HB.out.cell (World.block_lt_of_cell? w _ hx179_1)).trans hx179_1
        replace hx179_2 := (HB.out.cell (World.block_lt_of_cell? w _ hx179_2)).trans hx179_2
        replace p179 := eq_true p179
        replace q179 := eq_true q179
        go_wp2_with (first | ((with_reducible refine gate_dst (N := 5) rfl ?_); refine box_event ?hg (N := 5) ?hd (cs := #[.string (⟨#[]⟩ : ByteArray), .string (⟨#[]⟩ : ByteArray), .int .i64 0]) (t := 54) ?hr ?_; (case hd => rfl); (case hg => rfl); (case hr => first | (go_simp; done) | (go_simp; rfl)); intro gb180 hg w9 hbox hb; have n0_ := Aside0.mk (below_step (by repeat (first | (with_reducible first | exact HB.out | apply below_alloc | apply pw_below_drewN | apply below_drew1) | exact HB.out)) hb); have n1_ := Aside0.mk (hbox); have n2_ := Aside0.mk ((by rw [hg]; exact (below_size (by repeat (first | (with_reducible first | exact HB.out | apply below_alloc | apply pw_below_drewN | apply below_drew1) | exact HB.out))) : w.heap.size ≤ gb180)); have n3_ := Aside0.mk ((by rw [hg]; exact (below_size (by repeat (first | (with_reducible first | exact HB.out | apply below_alloc | apply pw_below_drewN | apply below_drew1) | exact HB.out))) : w.heap.size ≤ gb180)); clear HB; have HB := n0_; have BK180 := n1_; have GW180 := n2_; have GE180 := n3_; clear n0_ n1_ n2_ n3_; clear hb hbox hg; have hcz10_0 : w9.cell? ⟨gb180, 0, none⟩ = some (.string (⟨#[]⟩ : ByteArray)) := (blk_cell BK180.out 0).trans rfl; have hcz10_1 : w9.cell? ⟨gb180, 1, none⟩ = some (.string (⟨#[]⟩ : ByteArray)) := (blk_cell BK180.out 1).trans rfl; have hcz10_2 : w9.cell? ⟨gb180, 2, none⟩ = some (.int .i64 0) := (blk_cell BK180.out 2).trans rfl; have hfz10_0 := blk_frozen BK180.out 0; have hfz10_1 := blk_frozen BK180.out 1; have hfz10_2 := blk_frozen BK180.out 2))
        go_ret
        exact ⟨by first | rfl | (simp [errW_none, errW_some] <;> rfl) | (simp [errW_none, errW_some]; exact (show ∀ l_ : List UInt8, l_.isEmpty = !(l_ != []) from fun l_ => by cases l_ <;> rfl) _) | (simp [*, errW_none, errW_some] <;> rfl), by repeat (first | (with_reducible first | exact HB.out | apply below_alloc | apply pw_below_drewN | apply below_drew1 | refine below_set ?_ GE180.out) | exact HB.out)⟩
       ·rw [if_neg c8] at H
        have c8b0 : decide (300 < (wrap64 (x3_1 + (wrap64 ((((rd_T54 l0 x11_1).f1).size : Int) + (wrap64 (2 * (((rd_T54 l0 x11_1).f0).size : Int)))))))) = false := decide_eq_false c8
        clear c8
        have H' := Aside0.mk H
        clear H
        have p179 : 0 ≤ (x11_1 : Int) := of_decide_eq_true (by assumption)
        have q179 : x11_1 < (l0.length : Int) := of_decide_eq_true (by assumption)
        obtain ⟨ad179, e179, hx179_0, hx179_1, hx179_2⟩ := at_T54 HR0.out x11_1 p179 q179
        cases e179
        replace hx179_0 := (HB.out.cell (World.block_lt_of_cell? w _ hx179_0)).trans hx179_0
        replace hx179_1 := (HB.out.cell (World.block_lt_of_cell? w _ hx179_1)).trans hx179_1
        replace hx179_2 := (HB.out.cell (World.block_lt_of_cell? w _ hx179_2)).trans hx179_2
        replace p179 := eq_true p179
        replace q179 := eq_true q179
        go_wp2_with (first | ((with_reducible refine gate_dst (N := 5) rfl ?_); refine box_event ?hg (N := 5) ?hd (cs := #[.string (⟨#[]⟩ : ByteArray), .string (⟨#[]⟩ : ByteArray), .int .i64 0]) (t := 54) ?hr ?_; (case hd => rfl); (case hg => rfl); (case hr => first | (go_simp; done) | (go_simp; rfl)); intro gb180 hg w11 hbox hb; have n0_ := Aside0.mk (below_step (by repeat (first | (with_reducible first | exact HB.out | apply below_alloc | apply pw_below_drewN | apply below_drew1) | exact HB.out)) hb); have n1_ := Aside0.mk (hbox); have n2_ := Aside0.mk ((by rw [hg]; exact (below_size (by repeat (first | (with_reducible first | exact HB.out | apply below_alloc | apply pw_below_drewN | apply below_drew1) | exact HB.out))) : w.heap.size ≤ gb180)); have n3_ := Aside0.mk ((by rw [hg]; exact (below_size (by repeat (first | (with_reducible first | exact HB.out | apply below_alloc | apply pw_below_drewN | apply below_drew1) | exact HB.out))) : w.heap.size ≤ gb180)); clear HB; have HB := n0_; have BK180 := n1_; have GW180 := n2_; have GE180 := n3_; clear n0_ n1_ n2_ n3_; clear hb hbox hg; have hcz12_0 : w11.cell? ⟨gb180, 0, none⟩ = some (.string (⟨#[]⟩ : ByteArray)) := (blk_cell BK180.out 0).trans rfl; have hcz12_1 : w11.cell? ⟨gb180, 1, none⟩ = some (.string (⟨#[]⟩ : ByteArray)) := (blk_cell BK180.out 1).trans rfl; have hcz12_2 : w11.cell? ⟨gb180, 2, none⟩ = some (.int .i64 0) := (blk_cell BK180.out 2).trans rfl; have hfz12_0 := blk_frozen BK180.out 0; have hfz12_1 := blk_frozen BK180.out 1; have hfz12_2 := blk_frozen BK180.out 2))
        go_roundg k1
        case measure => have := HK1.out; omega
        case rel => exact ⟨(wrap64 (x3_1 + (wrap64 ((((rd_T54 l0 x11_1).f1).size : Int) + (wrap64 (2 * (((rd_T54 l0 x11_1).f0).size : Int))))))), (wrap64 (x11_1 + 1)), (by first | rfl | (simp; done) | (simp [*]; done)), (by first | rfl | (simp; done) | (simp [*]; done)), H', ⟨by have := HK1.out; omega⟩, ⟨by repeat (first | (with_reducible first | exact HB.out | apply below_alloc | apply pw_below_drewN | apply below_drew1 | refine below_set ?_ GE180.out) | exact HB.out)⟩⟩
      ·rw [if_neg c7] at H
       exact absurd H (by simp)
     ·rw [if_neg c6] at H
      exact absurd H (by simp)
    ·rw [if_neg c5] at H
     have c5b0 : decide (x11_1 < (l0.length : Int)) = false := decide_eq_false c5
     clear c5
     replace H := Option.bind_eq_some_iff.mp H
     obtain ⟨t181, A130, H⟩ := H
     replace H : ((impl_GoodDoc.f k1 t181).bind fun t182 => (some t182)) = some r := H
     have A13 := Aside0.mk A130
     clear A130
     replace H := Option.bind_eq_some_iff.mp H
     obtain ⟨t182, A140, H⟩ := H
     replace H : (some t182) = some r := H
     have A14 := Aside0.mk A140
     clear A140
     obtain rfl := Option.some.inj H
     go_wp2_with (first | ((with_reducible refine gate_callee (f := 64) rfl ?_); refine goesL_ (some 29) rfl rfl Try.func64 (by kernel_rfl) rfl #[.slice A0 l0.length c0, .int .i64 0, .int .i64 (-1)] rfl (by first | rfl | (simp only [List.map_toArray, List.map_cons, List.map_nil]; rfl)) ?_; (with_reducible refine (impl_flat.calls k1 _ _ l0 0 (-1) t181 _ ?side1 ?side2 A13.out).mono ?_); (case side1 => repeat (first | exact (Kd.C_below HR0.out HB.out) | (with_reducible refine Kd.C_alloc ?_ _) | (with_reducible refine Kd.C_drewN ?_ _) | (with_reducible refine Kd.C_drew ?_))); (case side2 => exact HC0.out); rintro e w15 ⟨rfl, hb⟩; refine ⟨_, rfl, ?_⟩; have n0_ := Aside0.mk (below_step (by repeat (first | (with_reducible first | exact HB.out | apply below_alloc | apply pw_below_drewN | apply below_drew1) | exact HB.out)) hb); clear HB; have HB := n0_; clear n0_; (try clear hb); (try clear hb2); (try clear hk); (try clear hi)) | ((with_reducible refine gate_callee (f := 48) rfl ?_); refine goesL_ (some 30) rfl rfl Try.func48 (by kernel_rfl) rfl #[.string t181] rfl (by first | rfl | (simp only [List.map_toArray, List.map_cons, List.map_nil]; rfl)) ?_; (with_reducible refine (impl_GoodDoc.calls k1 t181 t182 _ A14.out).mono ?_); rintro e w16 ⟨rfl, hb⟩; refine ⟨_, rfl, ?_⟩; have n0_ := Aside0.mk (below_step (by repeat (first | (with_reducible first | exact HB.out | apply below_alloc | apply pw_below_drewN | apply below_drew1) | exact HB.out)) hb); clear HB; have HB := n0_; clear n0_; (try clear hb); (try clear hb2); (try clear hk); (try clear hi)))
     go_ret
     exact ⟨by first | rfl | (simp [errW_none, errW_some] <;> rfl) | (simp [errW_none, errW_some]; exact (show ∀ l_ : List UInt8, l_.isEmpty = !(l_ != []) from fun l_ => by cases l_ <;> rfl) _) | (simp [*, errW_none, errW_some] <;> rfl), by repeat (first | (with_reducible first | exact HB.out | apply below_alloc | apply pw_below_drewN | apply below_drew1) | exact HB.out)⟩
 ·replace c3 := Bool.eq_false_iff.mpr c3
  subst c3
  have H1 : (some false) = some r := by rw [if_neg (show ¬ (false = true) by decide)] at H; exact H
  clear H
  have H := H1
  clear H1
  obtain rfl := Option.some.inj H
  go_enter Try.func29, Try.ntmps29
  go_wp2_with (first | ((with_reducible refine gate_callee (f := 63) rfl ?_); refine goesL_ (some 7) rfl rfl Try.func63 (by kernel_rfl) rfl #[.slice A0 l0.length c0] rfl (by first | rfl | (simp only [List.map_toArray, List.map_cons, List.map_nil]; rfl)) ?_; (with_reducible refine (impl_shaped.calls k _ _ l0 false _ ?side1 ?side2 A2.out).mono ?_); (case side1 => repeat (first | exact HR0.out | (with_reducible refine Kd.C_alloc ?_ _) | (with_reducible refine Kd.C_drewN ?_ _) | (with_reducible refine Kd.C_drew ?_))); (case side2 => exact HC0.out); rintro e w17 ⟨rfl, hb⟩; refine ⟨_, rfl, ?_⟩; have n0_ := Aside0.mk (below_step (by repeat (first | (with_reducible first | exact HB.out | apply below_alloc | apply pw_below_drewN | apply below_drew1) | exact HB.out)) hb); clear HB; have HB := n0_; clear n0_; (try clear hb); (try clear hb2); (try clear hk); (try clear hi)))
  go_ret
  exact ⟨by first | rfl | (simp [errW_none, errW_some] <;> rfl) | (simp [errW_none, errW_some]; exact (show ∀ l_ : List UInt8, l_.isEmpty = !(l_ != []) from fun l_ => by cases l_ <;> rfl) _) | (simp [*, errW_none, errW_some] <;> rfl), by repeat (first | (with_reducible first | exact HB.out | apply below_alloc | apply pw_below_drewN | apply below_drew1) | exact HB.out)⟩
/-! ### impl_hasNode: function 65 -/
def impl_hasNode.f (k : Nat) (l0 : List (S54)) (a1 : Int) : Option (Bool) := if a1 ≥ 0 then (if a1 < (l0.length : Int) then ((impl_GoodTree.f k l0).bind fun t183 => (some t183)) else (some false)) else (some false)
theorem impl_hasNode.mono : ∀ a0 a1 k, LeO (impl_hasNode.f k a0 a1) (impl_hasNode.f (k + 1) a0 a1) := by
 intro a0 a1 k
 unfold impl_hasNode.f
 repeat' first
   | (with_reducible exact impl_GoodTree.mono _ _)
   | (with_reducible exact LeO.refl _)
   | (with_reducible exact LeO.none _)
   | (with_reducible refine LeO.ite ?_ ?_)
   | (with_reducible refine LeO.bind ?_ (fun _ => ?_))
   | exact impl_GoodTree.mono _ _
   | exact LeO.none _
   | refine LeO.ite ?_ ?_
   | refine LeO.bind ?_ (fun _ => ?_)
set_option maxHeartbeats 8000000 in
set_option maxRecDepth 100000 in
theorem impl_hasNode.calls (k : Nat) (A0 : Option Addr) (c0 : Nat) (l0 : List (S54)) (a1 : Int) (r : Bool) (w : World) (hr0 : Kd.C k54 w A0 l0.length l0) (hc0 : l0.length ≤ c0) (h : impl_hasNode.f k l0 a1 = some r) :
  Calls Try.prog 65 #[.slice A0 l0.length c0, .int .i64 a1] w fun e w' => e = .returned (.bool r) ∧ Below w.heap.size w w' := by
 have HR0 := Aside0.mk hr0
 have HC0 := Aside0.mk hc0
 clear hr0 hc0
 have HB := Aside0.mk (Below.refl w.heap.size w)
 have H : (if a1 ≥ 0 then (if a1 < (l0.length : Int) then ((impl_GoodTree.f k l0).bind fun t183 => (some t183)) else (some false)) else (some false)) = some r := h
 clear h
 by_cases c3 : a1 ≥ 0
 ·rw [if_pos c3] at H
  have c3b0 : decide (0 ≤ a1) = true := decide_eq_true c3
  clear c3
  by_cases c4 : a1 < (l0.length : Int)
  ·rw [if_pos c4] at H
   have c4b0 : decide (a1 < (l0.length : Int)) = true := decide_eq_true c4
   clear c4
   replace H := Option.bind_eq_some_iff.mp H
   obtain ⟨t183, A50, H⟩ := H
   replace H : (some t183) = some r := H
   have A5 := Aside0.mk A50
   clear A50
   obtain rfl := Option.some.inj H
   go_enter Try.func65, Try.ntmps65
   go_wp2_with (first | (go_at_call 29; (with_reducible refine (impl_GoodTree.calls k _ _ l0 t183 _ ?side1 ?side2 A5.out).mono ?_); (case side1 => repeat (first | exact HR0.out | (with_reducible refine Kd.C_alloc ?_ _) | (with_reducible refine Kd.C_drewN ?_ _) | (with_reducible refine Kd.C_drew ?_))); (case side2 => exact HC0.out); rintro e w6 ⟨rfl, hb⟩; have n0_ := Aside0.mk (below_step (by repeat (first | (with_reducible first | exact HB.out | apply below_alloc | apply pw_below_drewN | apply below_drew1) | exact HB.out)) hb); clear HB; have HB := n0_; clear n0_; (try clear hb); (try clear hb2); (try clear hk); (try clear hi)))
   go_ret
   exact ⟨by first | rfl | (simp [errW_none, errW_some] <;> rfl) | (simp [errW_none, errW_some]; exact (show ∀ l_ : List UInt8, l_.isEmpty = !(l_ != []) from fun l_ => by cases l_ <;> rfl) _) | (simp [*, errW_none, errW_some] <;> rfl), by repeat (first | (with_reducible first | exact HB.out | apply below_alloc | apply pw_below_drewN | apply below_drew1) | exact HB.out)⟩
  ·rw [if_neg c4] at H
   have c4b0 : decide (a1 < (l0.length : Int)) = false := decide_eq_false c4
   clear c4
   obtain rfl := Option.some.inj H
   go_enter Try.func65, Try.ntmps65
   go_wp2
   go_ret
   exact ⟨by first | rfl | (simp [errW_none, errW_some] <;> rfl) | (simp [errW_none, errW_some]; exact (show ∀ l_ : List UInt8, l_.isEmpty = !(l_ != []) from fun l_ => by cases l_ <;> rfl) _) | (simp [*, errW_none, errW_some] <;> rfl), by repeat (first | (with_reducible first | exact HB.out | apply below_alloc | apply pw_below_drewN | apply below_drew1) | exact HB.out)⟩
 ·rw [if_neg c3] at H
  have c3b0 : decide (0 ≤ a1) = false := decide_eq_false c3
  clear c3
  obtain rfl := Option.some.inj H
  go_enter Try.func65, Try.ntmps65
  go_wp2
  go_ret
  exact ⟨by first | rfl | (simp [errW_none, errW_some] <;> rfl) | (simp [errW_none, errW_some]; exact (show ∀ l_ : List UInt8, l_.isEmpty = !(l_ != []) from fun l_ => by cases l_ <;> rfl) _) | (simp [*, errW_none, errW_some] <;> rfl), by repeat (first | (with_reducible first | exact HB.out | apply below_alloc | apply pw_below_drewN | apply below_drew1) | exact HB.out)⟩
/-! ### impl_SizeOf: function 33 -/
def impl_SizeOf.f (k : Nat) (l0 : List (S54)) (a1 : Int) : Option (Int × Bool) := (impl_hasNode.f k l0 a1).bind fun t184 => (if t184 = true then ((impl_flat.f k l0 a1 (-1)).bind fun t185 => (some ((t185.size : Int), true))) else (some (0, false)))
theorem impl_SizeOf.mono : ∀ a0 a1 k, LeO (impl_SizeOf.f k a0 a1) (impl_SizeOf.f (k + 1) a0 a1) := by
 intro a0 a1 k
 unfold impl_SizeOf.f
 repeat' first
   | (with_reducible exact impl_flat.mono _ _ _ _)
   | (with_reducible exact impl_hasNode.mono _ _ _)
   | (with_reducible exact LeO.refl _)
   | (with_reducible exact LeO.none _)
   | (with_reducible refine LeO.ite ?_ ?_)
   | (with_reducible refine LeO.bind ?_ (fun _ => ?_))
   | exact impl_flat.mono _ _ _ _
   | exact impl_hasNode.mono _ _ _
   | exact LeO.none _
   | refine LeO.ite ?_ ?_
   | refine LeO.bind ?_ (fun _ => ?_)
set_option maxHeartbeats 8000000 in
set_option maxRecDepth 100000 in
theorem impl_SizeOf.calls (k : Nat) (A0 : Option Addr) (c0 : Nat) (l0 : List (S54)) (a1 : Int) (r1 : Int) (r2 : Bool) (w : World) (hr0 : Kd.C k54 w A0 l0.length l0) (hc0 : l0.length ≤ c0) (h : impl_SizeOf.f k l0 a1 = some (r1, r2)) :
  Calls Try.prog 33 #[.slice A0 l0.length c0, .int .i64 a1] w fun e w' => e = .returned (.tuple #[.int .i64 r1, .bool r2]) ∧ Below w.heap.size w w' := by
 have HR0 := Aside0.mk hr0
 have HC0 := Aside0.mk hc0
 clear hr0 hc0
 have HB := Aside0.mk (Below.refl w.heap.size w)
 have H : ((impl_hasNode.f k l0 a1).bind fun t184 => (if t184 = true then ((impl_flat.f k l0 a1 (-1)).bind fun t185 => (some ((t185.size : Int), true))) else (some (0, false)))) = some (r1, r2) := h
 clear h
 replace H := Option.bind_eq_some_iff.mp H
 obtain ⟨t184, A30, H⟩ := H
 replace H : (if t184 = true then ((impl_flat.f k l0 a1 (-1)).bind fun t185 => (some ((t185.size : Int), true))) else (some (0, false))) = some (r1, r2) := H
 have A3 := Aside0.mk A30
 clear A30
 by_cases c4 : t184 = true
 ·subst c4
  have H1 : ((impl_flat.f k l0 a1 (-1)).bind fun t185 => (some ((t185.size : Int), true))) = some (r1, r2) := by rw [if_pos rfl] at H; exact H
  clear H
  have H := H1
  clear H1
  replace H := Option.bind_eq_some_iff.mp H
  obtain ⟨t185, A50, H⟩ := H
  replace H : (some ((t185.size : Int), true)) = some (r1, r2) := H
  have A5 := Aside0.mk A50
  clear A50
  simp only [Option.some.injEq, Prod.mk.injEq] at H
  obtain ⟨rfl, rfl⟩ := H
  go_enter Try.func33, Try.ntmps33
  go_wp2_with (first | ((with_reducible refine gate_callee (f := 65) rfl ?_); refine goesL_ (some 8) rfl rfl Try.func65 (by kernel_rfl) rfl #[.slice A0 l0.length c0, .int .i64 a1] rfl (by first | rfl | (simp only [List.map_toArray, List.map_cons, List.map_nil]; rfl)) ?_; (with_reducible refine (impl_hasNode.calls k _ _ l0 a1 true _ ?side1 ?side2 A3.out).mono ?_); (case side1 => repeat (first | exact HR0.out | (with_reducible refine Kd.C_alloc ?_ _) | (with_reducible refine Kd.C_drewN ?_ _) | (with_reducible refine Kd.C_drew ?_))); (case side2 => exact HC0.out); rintro e w6 ⟨rfl, hb⟩; refine ⟨_, rfl, ?_⟩; have n0_ := Aside0.mk (below_step (by repeat (first | (with_reducible first | exact HB.out | apply below_alloc | apply pw_below_drewN | apply below_drew1) | exact HB.out)) hb); clear HB; have HB := n0_; clear n0_; (try clear hb); (try clear hb2); (try clear hk); (try clear hi)) | ((with_reducible refine gate_callee (f := 64) rfl ?_); refine goesL_ (some 12) rfl rfl Try.func64 (by kernel_rfl) rfl #[.slice A0 l0.length c0, .int .i64 a1, .int .i64 (-1)] rfl (by first | rfl | (simp only [List.map_toArray, List.map_cons, List.map_nil]; rfl)) ?_; (with_reducible refine (impl_flat.calls k _ _ l0 a1 (-1) t185 _ ?side1 ?side2 A5.out).mono ?_); (case side1 => repeat (first | exact (Kd.C_below HR0.out HB.out) | (with_reducible refine Kd.C_alloc ?_ _) | (with_reducible refine Kd.C_drewN ?_ _) | (with_reducible refine Kd.C_drew ?_))); (case side2 => exact HC0.out); rintro e w7 ⟨rfl, hb⟩; refine ⟨_, rfl, ?_⟩; have n0_ := Aside0.mk (below_step (by repeat (first | (with_reducible first | exact HB.out | apply below_alloc | apply pw_below_drewN | apply below_drew1) | exact HB.out)) hb); clear HB; have HB := n0_; clear n0_; (try clear hb); (try clear hb2); (try clear hk); (try clear hi)))
  go_ret2
  exact ⟨by first | rfl | (simp [errW_none, errW_some] <;> rfl) | (simp [errW_none, errW_some]; exact (show ∀ l_ : List UInt8, l_.isEmpty = !(l_ != []) from fun l_ => by cases l_ <;> rfl) _) | (simp [*, errW_none, errW_some] <;> rfl), by repeat (first | (with_reducible first | exact HB.out | apply below_alloc | apply pw_below_drewN | apply below_drew1) | exact HB.out)⟩
 ·replace c4 := Bool.eq_false_iff.mpr c4
  subst c4
  have H1 : (some (0, false)) = some (r1, r2) := by rw [if_neg (show ¬ (false = true) by decide)] at H; exact H
  clear H
  have H := H1
  clear H1
  simp only [Option.some.injEq, Prod.mk.injEq] at H
  obtain ⟨rfl, rfl⟩ := H
  go_enter Try.func33, Try.ntmps33
  go_wp2_with (first | ((with_reducible refine gate_callee (f := 65) rfl ?_); refine goesL_ (some 8) rfl rfl Try.func65 (by kernel_rfl) rfl #[.slice A0 l0.length c0, .int .i64 a1] rfl (by first | rfl | (simp only [List.map_toArray, List.map_cons, List.map_nil]; rfl)) ?_; (with_reducible refine (impl_hasNode.calls k _ _ l0 a1 false _ ?side1 ?side2 A3.out).mono ?_); (case side1 => repeat (first | exact HR0.out | (with_reducible refine Kd.C_alloc ?_ _) | (with_reducible refine Kd.C_drewN ?_ _) | (with_reducible refine Kd.C_drew ?_))); (case side2 => exact HC0.out); rintro e w8 ⟨rfl, hb⟩; refine ⟨_, rfl, ?_⟩; have n0_ := Aside0.mk (below_step (by repeat (first | (with_reducible first | exact HB.out | apply below_alloc | apply pw_below_drewN | apply below_drew1) | exact HB.out)) hb); clear HB; have HB := n0_; clear n0_; (try clear hb); (try clear hb2); (try clear hk); (try clear hi)))
  go_ret2
  exact ⟨by first | rfl | (simp [errW_none, errW_some] <;> rfl) | (simp [errW_none, errW_some]; exact (show ∀ l_ : List UInt8, l_.isEmpty = !(l_ != []) from fun l_ => by cases l_ <;> rfl) _) | (simp [*, errW_none, errW_some] <;> rfl), by repeat (first | (with_reducible first | exact HB.out | apply below_alloc | apply pw_below_drewN | apply below_drew1) | exact HB.out)⟩
end Go.Proofs.Ytkdablilbbbihaa.PFnPaths
