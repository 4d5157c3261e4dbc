/- (thin) Written by a program of this session (wip/ovl.py) over the kit's print: plain functions with the answers of the Go functions, and the proofs that they are; no condition. -/
import Derived.Test.YtkdablilbbbihaaShelf
import Derived.Test.YtkdablilbbbihaaPFnPathsx0
import Derived.Test.YtkdablilbbbihaaPFnPathsx4
import Derived.Test.YtkdablilbbbihaaPFnPathsx5
namespace Go.Proofs.Ytkdablilbbbihaa.PFnPaths
open Go.RowKit Go.Proofs.YtkdablilbbbihaaW.PrintWords Go.Proofs.YtkdablilbbbihaaW.PrintLast Go.Proofs.YtkdablilbbbihaaW.PrintMore
attribute [local go_sem] max2_int min2_int max_two min_two max_three min_three max_four min_four   -- for this text's walks alone
set_option linter.unusedVariables false
set_option linter.unusedSimpArgs false
/-! ### impl_keepBytes: function 82 (by hand) -/
-- import Shelf
/-- The bytes of a text of which p holds. -/
def keepT (p : Int → Bool) (s : ByteArray) (n : Nat) : List UInt8 := (s.data.toList.take n).filter (fun c => p (c.toNat : Int))
def keepL (p : Int → Bool) (s : ByteArray) : ByteArray := ⟨(s.data.toList.filter (fun c => p (c.toNat : Int))).toArray⟩
theorem keepT_all (p : Int → Bool) (s : ByteArray) (n : Nat) (h : s.size ≤ n) : keepT p s n = s.data.toList.filter (fun c => p (c.toNat : Int)) := by
 unfold keepT; rw [List.take_of_length_le]; rw [data_length]; exact h
theorem keepT_len (p : Int → Bool) (s : ByteArray) (n : Nat) : (keepT p s n).length ≤ n := by
 unfold keepT; exact Nat.le_trans (List.length_filter_le _ _) (List.length_take_le _ _)
theorem byteCells_len (l : List UInt8) : (Lib.byteCells l).length = l.length := by simp [Lib.byteCells]
theorem keepT_next (p : Int → Bool) (s : ByteArray) (x : Int) (h0 : 0 ≤ x) (h1 : x < (s.size : Int)) :
  keepT p s (x + 1).toNat = if p (bt s x) = true then keepT p s x.toNat ++ [(bt s x).toNat.toUInt8] else keepT p s x.toNat := by
 obtain ⟨n, rfl⟩ := Int.eq_ofNat_of_zero_le h0
 have hn : n < s.data.toList.length := by rw [data_length]; omega
 have e : ((n : Int) + 1).toNat = n + 1 := by omega
 rw [e, Int.toNat_natCast]
 unfold keepT
 rw [List.take_succ_eq_append_getElem hn, List.filter_append]
 have hb : bt s (n : Int) = ((s.data.toList[n]'hn).toNat : Int) := by
  have := bt_at s (n : Int) (by simpa using (by omega : n < s.size))
  simp only [Int.toNat_natCast] at this
  rw [← this]; rfl
 have hu : ((bt s (n : Int)).toNat.toUInt8) = s.data.toList[n]'hn := by rw [hb]; simp
 rw [hu, hb]
 by_cases h : p ((s.data.toList[n]'hn).toNat : Int) = true
 ·rw [if_pos h]; simp only [List.filter_cons, List.filter_nil, h, if_true]
 ·rw [if_neg h]; simp only [List.filter_cons, List.filter_nil, h, if_false, List.append_nil, Bool.false_eq_true]
theorem byteCells_snoc (l : List UInt8) (s : ByteArray) (x : Int) : Lib.byteCells (l ++ [(bt s x).toNat.toUInt8]) = Lib.byteCells l ++ [.int .u8 (bt s x)] := by
 have h := bt_range s x
 have e : (((bt s x).toNat.toUInt8).toNat : Int) = bt s x := by
  rw [Nat.toUInt8, UInt8.toNat_ofNat_of_lt' (by show (bt s x).toNat < 256; omega)]; omega
 simp only [Lib.byteCells, List.map_append, List.map_cons, List.map_nil, e]
theorem builder_drewN {T e : TypeId} {B b : Nat} {bs : List Value} {w : World} (h : Lib.IsBuilder T e B b bs w) (n : Nat) : Lib.IsBuilder T e B b bs (w.drewN n) := h
theorem below_of_drewN {B n : Nat} {w w1 : World} (h : Below B (w.drewN n) w1) (_hB : B ≤ w.heap.size) : Below B w w1 := ⟨h.os, h.tape, h.output, h.size, h.block⟩
theorem below_join {B : Nat} {w w1 w2 : World} (h : Below B w w1) (k : Below B w1 w2) : Below B w w2 := h.trans k
theorem plain_total (c : Int) : ∃ b, impl_isPlain.f c = some b := by
 unfold impl_isPlain.f; repeat' split
 all_goals exact ⟨_, rfl⟩
def plainP (c : Int) : Bool := (impl_isPlain.f c).getD false
set_option maxHeartbeats 4000000 in
set_option maxRecDepth 100000 in
theorem keep_plain (s : ByteArray) (w : World) (hs : s.size ≤ 1073741824) :
  Calls Try.prog 82 #[.string s, .func (.func 79) #[] #[]] w fun e w' => e = .returned (.string (keepL plainP s)) ∧ Below w.heap.size w w' := by
 have HS := Aside0.mk hs
 clear hs
 go_enter Try.func82, Try.ntmps82
 go_wp2
 go_loopw [9] (fun v9 wr => ∃ xi : Int, v9 = .int .i64 xi ∧ Aside0 (0 ≤ xi ∧ xi ≤ (s.size : Int)) ∧ Aside0 (Lib.IsBuilder 87 5 w.heap.size w.heap.size (Lib.byteCells (keepT plainP s xi.toNat)) wr) ∧ Aside0 (Below w.heap.size w wr)) (fun i _ => s.size - (intOf i).toNat)
 case atStart => exact ⟨0, rfl, ⟨by omega, by omega⟩, ⟨.inl ⟨Nat.le_refl _, .slice none 0 0, heap_alloc_new w _, own_nil _ _ _ _, by simp [Value.ownBlock]⟩⟩, ⟨by repeat (first | exact Below.refl _ _ | apply below_alloc)⟩⟩
 case round =>
  obtain ⟨xi, rfl, HI, HBU, HB⟩ := hrel
  obtain ⟨h0, hle⟩ := HI.out
  have hss := HS.out
  have hbs := below_size HB.out
  have HBS := Aside0.mk hbs
  clear HI hbs
  by_cases hlt : xi < (s.size : Int)
  ·have Hw := Aside0.mk (show wrap64 (xi + 1) = xi + 1 by unfold wrap64; omega)
   have c3b0 : decide (xi < (s.size : Int)) = true := decide_eq_true hlt
   have hx6 := bt_at s xi
   have P6 := Aside0.mk h0
   have Q6 := Aside0.mk hlt
   have HT := Aside0.mk (keepT_next plainP s xi h0 hlt)
   have HL := Aside0.mk (keepT_len plainP s xi.toNat)
   have p6 := eq_true h0
   have q6 := eq_true hlt
   obtain ⟨pb, hpb⟩ : ∃ b, impl_isPlain.f (bt s xi) = some b := plain_total _
   have A7 := Aside0.mk hpb
   have hpp : plainP (bt s xi) = pb := by unfold plainP; rw [hpb]; rfl
   clear hss hle h0 hlt hpb
   cases pb with
   | true =>
    go_wp2_with (first | (go_at_call 79; (with_reducible refine (impl_isPlain.calls (bt s xi) true _ A7.out).mono ?_); rintro e w' ⟨rfl, ⟨nd, rfl⟩⟩) | (go_at_call 93; refine (builder_byte w.heap.size w.heap.size (Lib.byteCells (keepT plainP s xi.toNat)) (bt s xi) _ (builder_drewN HBU.out _) ?hl ?hb).mono ?_; (case hl => have := HL.out; have := HS.out; have := byteCells_len (keepT plainP s xi.toNat); have := Q6.out; have := P6.out; omega); (case hb => exact HBS.out); rintro e w1 ⟨rfl, h1, hb1⟩; have HBU1 := Aside0.mk h1; have HB1 := Aside0.mk hb1; clear h1 hb1))
    have hw := Hw.out
    have hq := Q6.out
    have hp := P6.out
    go_roundw
    case rel =>
     refine ⟨wrap64 (xi + 1), rfl, ⟨by omega, by omega⟩, ⟨.inr ?_⟩, ⟨below_join HB.out (below_of_drewN HB1.out HBS.out)⟩⟩
     have e1 := HBU1.out
     rw [hw, HT.out, hpp, if_pos rfl, byteCells_snoc]
     exact e1
    case measure => simp [intOf, hw]; omega
   | false =>
    go_wp2_with (first | (go_at_call 79; (with_reducible refine (impl_isPlain.calls (bt s xi) false _ A7.out).mono ?_); rintro e w' ⟨rfl, ⟨nd, rfl⟩⟩))
    have hw := Hw.out
    have hq := Q6.out
    have hp := P6.out
    go_roundw
    case rel =>
     refine ⟨wrap64 (xi + 1), rfl, ⟨by omega, by omega⟩, ⟨?_⟩, ⟨by repeat (first | exact HB.out | apply pw_below_drewN)⟩⟩
     have e1 := builder_drewN HBU.out nd
     rw [hw, HT.out, hpp, if_neg (by decide)]
     exact e1
    case measure => simp [intOf, hw]; omega
  ·have c3b0 : decide (xi < (s.size : Int)) = false := decide_eq_false hlt
   have he := Aside0.mk (keepT_all plainP s xi.toNat (by omega))
   clear hss hle h0 hlt
   go_wp2_with (first | (go_at_call 84; refine (Try.Builder_String_any w.heap.size w.heap.size (keepT plainP s xi.toNat) _ HBU.out HBS.out).mono ?_; rintro e w1 ⟨rfl, hb1⟩; have HB1 := Aside0.mk hb1; clear hb1))
   go_ret
   exact ⟨by rw [he.out]; rfl, below_join HB.out HB1.out⟩
def impl_keepBytes.f (a0 : ByteArray) : Option ByteArray := if a0.size ≤ 1073741824 then some (keepL plainP a0) else none
theorem impl_keepBytes.calls (a0 : ByteArray) (r : ByteArray) (w : World) (h : impl_keepBytes.f a0 = some r) :
  Calls Try.prog 82 #[.string a0, .func (.func 79) #[] #[]] w fun e w' => e = .returned (.string r) ∧ Below w.heap.size w w' := by
 unfold impl_keepBytes.f at h
 by_cases hs : a0.size ≤ 1073741824
 ·rw [if_pos hs] at h
  obtain rfl := Option.some.inj h
  exact keep_plain a0 w hs
 ·rw [if_neg hs] at h; cases h
end Go.Proofs.Ytkdablilbbbihaa.PFnPaths
