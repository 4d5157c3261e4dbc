/- (thin) Written by a program of this session (wip/ovl.py) over the kit's print: plain functions with the answers of the Go functions, and the proofs that they are; no condition. -/
import Derived.Test.YtmhcmcdppimcpaaBase
import Derived.Test.YtmhcmcdppimcpaaShelf
import Derived.Test.YtmhcmcdppimcpaaSortLay
import Derived.Test.YtmhcmcdppimcpaaPFnExactMoveMarksx0
namespace Go.Proofs.Ytmhcmcdppimcpaa.PFnExactMoveMarks
open Go.RowKit Go.Proofs.YtmhcmcdppimcpaaW.PrintWords Go.Proofs.YtmhcmcdppimcpaaW.PrintLast Go.Proofs.YtmhcmcdppimcpaaW.PrintMore
attribute [local go_sem] max2_int min2_int max_two min_two max_three min_three max_four min_four   -- for this text's walks alone
set_option linter.unusedVariables false
set_option linter.unusedSimpArgs false
-- import Base
-- import Shelf
-- import SortLay
-- fn: slices.SortFunc[[]loop.example/g00253/impl.Mark,loop.example/g00253/impl.Mark]
section SortMark
open Go.Sort (SWO pdq pdq_sorts PermIn SortedIn putCells flatK size_flatK HoldsK grow alloc_eq_grow grow_grow)
abbrev MkT := { x : Int × Int × ByteArray // 0 ≤ x.1 ∧ x.1 ≤ 1099511627776 }
instance : Inhabited MkT := ⟨⟨(0, 0, ⟨#[]⟩), by decide, by decide⟩⟩
def encM (x : MkT) : List Value := [.int .i64 x.1.1, .int .i64 x.1.2.1, .string x.1.2.2]
def cmpM (x y : MkT) : Int := if Lib.compareBytes x.1.2.2.data.toList y.1.2.2.data.toList != 0 then Lib.compareBytes x.1.2.2.data.toList y.1.2.2.data.toList else x.1.1 - y.1.1
theorem cb_self : ∀ l : List UInt8, Lib.compareBytes l l = 0
 | [] => rfl
 | a :: l => by
  unfold Lib.compareBytes
  rw [if_neg (UInt8.lt_irrefl a), if_neg (UInt8.lt_irrefl a)]
  exact cb_self l
theorem cb_zero : ∀ a b : List UInt8, Lib.compareBytes a b = 0 → a = b
 | [], [], _ => rfl
 | [], _ :: _, h => by simp [Lib.compareBytes] at h
 | _ :: _, [], h => by simp [Lib.compareBytes] at h
 | x :: a, y :: b, h => by
  unfold Lib.compareBytes at h
  by_cases h1 : x < y
  ·rw [if_pos h1] at h; cases h
  ·rw [if_neg h1] at h
   by_cases h2 : y < x
   ·rw [if_pos h2] at h; cases h
   ·rw [if_neg h2] at h
    have e : x = y := UInt8.le_antisymm (UInt8.not_lt.1 h2) (UInt8.not_lt.1 h1)
    rw [e, cb_zero a b h]
theorem cb_trans : ∀ a b c : List UInt8, Lib.compareBytes a b < 0 → Lib.compareBytes b c < 0 → Lib.compareBytes a c < 0
 | [], [], _, h, _ => by simp [Lib.compareBytes] at h
 | [], _ :: _, [], _, h => by simp [Lib.compareBytes] at h
 | [], _ :: _, _ :: _, _, _ => by simp [Lib.compareBytes]
 | _ :: _, [], _, h, _ => by simp [Lib.compareBytes] at h
 | _ :: _, _ :: _, [], _, h => by simp [Lib.compareBytes] at h
 | x :: a, y :: b, z :: c, h, k => by
  unfold Lib.compareBytes at h k ⊢
  have X := UInt8.lt_iff_toNat_lt (a := x) (b := y); have X2 := UInt8.lt_iff_toNat_lt (a := y) (b := x); have Y := UInt8.lt_iff_toNat_lt (a := y) (b := z); have Y2 := UInt8.lt_iff_toNat_lt (a := z) (b := y); have Z := UInt8.lt_iff_toNat_lt (a := x) (b := z); have Z2 := UInt8.lt_iff_toNat_lt (a := z) (b := x)
  by_cases h1 : x < z
  ·rw [if_pos h1]; decide
  ·rw [if_neg h1]
   by_cases h2 : z < x
   ·exfalso
    by_cases c1 : x < y
    ·have := X.1 c1
     by_cases c2 : y < z
     ·have := Y.1 c2; have := Z2.1 h2; omega
     ·rw [if_neg c2] at k
      by_cases c3 : z < y
      ·rw [if_pos c3] at k; omega
      ·exact h1 (Z.2 (by have : ¬ z.toNat < y.toNat := fun q => c3 (Y2.2 q); omega))
    ·rw [if_neg c1] at h
     by_cases c3 : y < x
     ·rw [if_pos c3] at h; omega
     ·by_cases c2 : y < z
      ·exact h1 (Z.2 (by have := Y.1 c2; have : ¬ y.toNat < x.toNat := fun q => c3 (X2.2 q); omega))
      ·rw [if_neg c2] at k
       by_cases c4 : z < y
       ·rw [if_pos c4] at k; omega
       ·have : ¬ x.toNat < y.toNat := fun q => c1 (X.2 q)
        have := Z2.1 h2
        have : ¬ y.toNat < x.toNat := fun q => c3 (X2.2 q)
        have : ¬ z.toNat < y.toNat := fun q => c4 (Y2.2 q)
        omega
   ·rw [if_neg h2]
    by_cases c1 : x < y
    ·exfalso
     have g1 := X.1 c1
     by_cases c2 : y < z
     ·exact h1 (Z.2 (by have := Y.1 c2; omega))
     ·rw [if_neg c2] at k
      by_cases c3 : z < y
      ·rw [if_pos c3] at k; omega
      ·have : ¬ z.toNat < y.toNat := fun q => c3 (Y2.2 q)
       exact h1 (Z.2 (by omega))
    ·rw [if_neg c1] at h
     by_cases c3 : y < x
     ·rw [if_pos c3] at h; omega
     ·rw [if_neg c3] at h
      by_cases c2 : y < z
      ·exfalso
       have : ¬ y.toNat < x.toNat := fun q => c3 (X2.2 q)
       exact h1 (Z.2 (by have := Y.1 c2; omega))
      ·rw [if_neg c2] at k
       by_cases c4 : z < y
       ·rw [if_pos c4] at k; omega
       ·rw [if_neg c4] at k
        exact cb_trans a b c h k
theorem cb_flip : ∀ a b : List UInt8, Lib.compareBytes a b < 0 ↔ 0 < Lib.compareBytes b a
 | [], [] => by simp [Lib.compareBytes]
 | [], _ :: _ => by simp [Lib.compareBytes]
 | _ :: _, [] => by simp [Lib.compareBytes]
 | x :: a, y :: b => by
  unfold Lib.compareBytes
  by_cases h1 : x < y
  ·have h2 : ¬ y < x := fun q => UInt8.lt_irrefl x (UInt8.lt_trans h1 q)
   rw [if_pos h1, if_neg h2, if_pos h1]; decide
  ·rw [if_neg h1]
   by_cases h2 : y < x
   ·rw [if_pos h2, if_pos h2]; decide
   ·rw [if_neg h2, if_neg h2, if_neg h1]
    exact cb_flip a b
theorem lt_cmpM (x y : MkT) : ltOf cmpM x y = true ↔ Lib.compareBytes x.1.2.2.data.toList y.1.2.2.data.toList < 0 ∨ (x.1.2.2 = y.1.2.2 ∧ x.1.1 < y.1.1) := by
 unfold ltOf cmpM
 rw [decide_eq_true_eq]
 by_cases h : Lib.compareBytes x.1.2.2.data.toList y.1.2.2.data.toList = 0
 ·have e := cb_zero _ _ h
  have e2 : x.1.2.2 = y.1.2.2 := ByteArray.ext (Array.toList_inj.1 e)
  rw [h]; simp [e2]; omega
 rw [if_pos (by simpa using h)]
 constructor
 ·exact fun q => .inl q
 rintro (q | ⟨q, _⟩)
 ·exact q
 rw [q] at h; exact absurd (cb_self _) h
theorem swo_cmpM : SWO (ltOf cmpM) where
 irrefl x := by
  rw [Bool.eq_false_iff]; intro h
  rcases (lt_cmpM x x).1 h with h | h
  ·rw [cb_self] at h; omega
  ·omega
 trans x y z h k := by
  rw [lt_cmpM] at *
  rcases h with h | ⟨h, h2⟩ <;> rcases k with k | ⟨k, k2⟩
  ·exact .inl (cb_trans _ _ _ h k)
  ·exact .inl (k ▸ h)
  ·exact .inl (h ▸ k)
  ·exact .inr ⟨h.trans k, by omega⟩
 ntrans x y z h k := by
  rw [Bool.eq_false_iff] at *
  intro q
  rcases (lt_cmpM x z).1 q with q | ⟨q, q2⟩
  ·by_cases c : Lib.compareBytes x.1.2.2.data.toList y.1.2.2.data.toList < 0
   ·exact h ((lt_cmpM x y).2 (.inl c))
   ·by_cases c2 : Lib.compareBytes y.1.2.2.data.toList x.1.2.2.data.toList < 0
    ·exact k ((lt_cmpM y z).2 (.inl (cb_trans _ _ _ c2 q)))
    ·have e : Lib.compareBytes x.1.2.2.data.toList y.1.2.2.data.toList = 0 := by
      have := (cb_flip y.1.2.2.data.toList x.1.2.2.data.toList); omega
     have e1 := cb_zero _ _ e
     rw [e1] at q
     exact k ((lt_cmpM y z).2 (.inl q))
  ·by_cases c : Lib.compareBytes x.1.2.2.data.toList y.1.2.2.data.toList = 0
   ·have e : x.1.2.2 = y.1.2.2 := ByteArray.ext (Array.toList_inj.1 (cb_zero _ _ c))
    by_cases c2 : x.1.1 < y.1.1
    ·exact h ((lt_cmpM x y).2 (.inr ⟨e, c2⟩))
    ·exact k ((lt_cmpM y z).2 (.inr ⟨e.symm.trans q, by omega⟩))
   ·have c1 : ¬ Lib.compareBytes x.1.2.2.data.toList y.1.2.2.data.toList < 0 := fun g => h ((lt_cmpM x y).2 (.inl g))
    have c2 : Lib.compareBytes y.1.2.2.data.toList x.1.2.2.data.toList < 0 := (cb_flip _ _).2 (by omega)
    rw [q] at c2
    exact k ((lt_cmpM y z).2 (.inl c2))
def okM (x : S67) : Bool := decide (0 ≤ x.f0) && decide (x.f0 ≤ 1099511627776)
def packM (l : List S67) : List MkT := l.map fun x => if h : 0 ≤ x.f0 ∧ x.f0 ≤ 1099511627776 then ⟨(x.f0, x.f1, x.f2), h⟩ else default
def unM (y : MkT) : S67 := ⟨y.1.1, y.1.2.1, y.1.2.2⟩
def sortM (l : List S67) : Array MkT := pdq (ltOf cmpM) (packM l).toArray 0 (packM l).toArray.size (Lib.bitLen (packM l).toArray.size) true true
def impl_Mark_73.f (l0 : List S67) : Option (List S67) := if l0.length = 0 then some [] else if 1000000 < l0.length then none else if l0.all okM = true then some ((sortM l0).toList.map unM) else none
theorem un_pack (l : List S67) (h : l.all okM = true) : (packM l).map unM = l := by
 unfold packM
 rw [List.map_map]
 conv => rhs; rw [← List.map_id l]
 refine List.map_congr_left fun x hx => ?_
 have := List.all_eq_true.1 h x hx
 unfold okM at this
 rw [Bool.and_eq_true, decide_eq_true_eq, decide_eq_true_eq] at this
 simp only [Function.comp]
 rw [dif_pos this]; rfl
set_option maxHeartbeats 1000000 in
theorem closure_sort (x y : MkT) (W : World) : Calls Try.prog 74 #[.agg #[.int .i64 x.1.1, .int .i64 x.1.2.1, .string x.1.2.2], .agg #[.int .i64 y.1.1, .int .i64 y.1.2.1, .string y.1.2.2]] W fun e w' => e = .returned (.int .i64 (cmpM x y)) ∧ ∃ q os', w' = grow (W.drewN q) os' := by
 have hw : wrap64 (x.1.1 - y.1.1) = x.1.1 - y.1.1 := by have := x.2; have := y.2; unfold wrap64; omega
 unfold cmpM
 have hcon := fun W' => Try.strings_Compare x.1.2.2 y.1.2.2 W'
 generalize Lib.compareBytes x.1.2.2.data.toList y.1.2.2.data.toList = r at hcon ⊢
 cases hb : (r != 0) with
 | true =>
  rw [if_pos rfl]
  go_enter Try.func74, Try.ntmps74
  go_wp2_with (go_at_call 75; refine (hcon _).mono ?_; rintro e w' ⟨rfl, rfl⟩)
  go_ret
  exact ⟨rfl, 0, _, by rw [alloc_eq_grow, alloc_eq_grow, grow_grow]; rfl⟩
 | false =>
  rw [if_neg (by decide)]
  go_enter Try.func74, Try.ntmps74
  go_wp2_with (go_at_call 75; refine (hcon _).mono ?_; rintro e w' ⟨rfl, rfl⟩)
  go_ret
  exact ⟨rfl, 0, _, by rw [alloc_eq_grow, alloc_eq_grow, grow_grow]; rfl⟩
theorem cmp_lays (blk off size : Nat) (w : World) : CmpLays Try.prog 74 #[] encM 3 cmpM blk off size w :=
 fun _ _ _ _ x y => closure_sort x y _
theorem reps_tail {α : Type} {R : α → List Value → Prop} {s : Nat} {p : α} {ps : List α} {cs : List Value} (h : Reps R s (p :: ps) cs) : R p (cs.take s) ∧ Reps R s ps (cs.drop s) := by
 refine ⟨?_, ?_, fun j q hq => ?_⟩
 ·have := h.2 0 p rfl
  simpa using this
 ·rw [List.length_drop, h.1, List.length_cons, Nat.add_mul, Nat.one_mul]; omega
 have := h.2 (j + 1) q (by simpa using hq)
 rw [List.drop_drop, show s + j * s = (j + 1) * s by rw [Nat.add_mul, Nat.one_mul]; omega]
 exact this
theorem reps_cons {α : Type} {R : α → List Value → Prop} {s : Nat} {p : α} {ps : List α} {c cs : List Value} (hp : R p c) (hc : c.length = s) (h : Reps R s ps cs) : Reps R s (p :: ps) (c ++ cs) := by
 refine ⟨by rw [List.length_append, h.1, hc, List.length_cons, Nat.add_mul, Nat.one_mul]; omega, fun j q hq => ?_⟩
 cases j with
 | zero =>
  obtain rfl : p = q := by simpa using hq
  rw [Nat.zero_mul, List.drop_zero, ← hc, List.take_left]
  exact hp
 | succ j =>
  have := h.2 j q (by simpa using hq)
  rw [show (j + 1) * s = c.length + j * s by rw [Nat.add_mul, Nat.one_mul, hc]; omega, ← List.drop_drop, List.drop_left]
  exact this
theorem inner_pack {w : World} {b : Nat} {ok : Nat → Prop} : ∀ (l : List S67) (inner : List Value), Reps (k67.M w b ok) 3 l inner → l.all okM = true → inner = (packM l).flatMap encM
 | [], inner, h, _ => by
  have := h.1
  simp at this
  subst this; rfl
 | x :: l, inner, h, ho => by
  obtain ⟨h1, h2⟩ := reps_tail h
  rw [List.all_cons, Bool.and_eq_true] at ho
  have e := k67_openM h1
  have ih := inner_pack l (inner.drop 3) h2 ho.2
  have hx := ho.1
  unfold okM at hx
  rw [Bool.and_eq_true, decide_eq_true_eq, decide_eq_true_eq] at hx
  have e2 : packM (x :: l) = ⟨(x.f0, x.f1, x.f2), hx⟩ :: packM l := by
   show (if h : 0 ≤ x.f0 ∧ x.f0 ≤ 1099511627776 then _ else _) :: _ = _
   rw [dif_pos hx]; rfl
  rw [← List.take_append_drop 3 inner, e, ih, e2, List.flatMap_cons]
  rfl
theorem reps_un {w : World} {b : Nat} {ok : Nat → Prop} : ∀ l : List MkT, Reps (k67.M w b ok) 3 (l.map unM) (l.flatMap encM)
 | [] => Reps.none _ _
 | x :: l => by
  rw [List.map_cons, List.flatMap_cons]
  exact reps_cons (k67_mkM w b ok (unM x)) rfl (reps_un l)
theorem flat_get : ∀ (l : List MkT) (t : Nat), t < l.length * 3 → (l.flatMap encM)[t]? = some ((encM (l[t / 3]!))[t % 3]!)
 | [], t, h => by simp at h
 | x :: l, t, h => by
  rw [List.flatMap_cons]
  rcases Nat.lt_or_ge t 3 with h3 | h3
  ·rw [List.getElem?_append_left (by exact h3)]
   have e1 : t / 3 = 0 := by omega
   have e2 : t % 3 = t := by omega
   rw [e1, e2]
   obtain rfl | rfl | rfl : t = 0 ∨ t = 1 ∨ t = 2 := by omega
   all_goals rfl
  ·rw [List.getElem?_append_right (by exact h3), show (encM x).length = 3 from rfl, flat_get l (t - 3) (by rw [List.length_cons] at h; omega)]
   have e1 : t / 3 = (t - 3) / 3 + 1 := by omega
   have e2 : t % 3 = (t - 3) % 3 := by omega
   rw [e1, e2]; rfl
theorem flatK_list (d : Array MkT) : (flatK encM 3 d).toList = d.toList.flatMap encM := by
 have hl : (d.toList.flatMap encM).length = d.size * 3 := by
  rw [List.length_flatMap]
  have : ∀ l : List MkT, (l.map fun a => (encM a).length).sum = l.length * 3 := fun l => by
   induction l with
   | nil => rfl
   | cons x l ih => rw [List.map_cons, List.sum_cons, ih, List.length_cons]; show 3 + _ = _; omega
  rw [this]; simp
 apply List.ext_getElem?
 intro t
 by_cases h : t < d.size * 3
 rotate_left
 ·rw [List.getElem?_eq_none (by simp; omega), List.getElem?_eq_none (by omega)]
 rw [flat_get d.toList t (by simpa using h)]
 unfold flatK
 rw [Array.toList_map, List.getElem?_map, Array.getElem?_toList, Array.getElem?_eq_getElem (by simpa using h)]
 simp
 have h' : t / 3 < d.size := by omega
 rw [getElem!_pos d (t / 3) h', Array.getElem?_eq_getElem h', Option.getD_some]
set_option maxHeartbeats 1000000 in
theorem impl_Mark_73.calls (P0_ : Nat → Prop) (u9000_ : Value) (l0 : List S67) (r1 : List S67) (w0 w : World) (hB : Below w0.heap.size w0 w) (ho0 : Kd.R k67 67 w w0.heap.size P0_ u9000_ l0) (h : impl_Mark_73.f l0 = some r1) :
  Calls Try.prog 73 #[u9000_, .func (.func 74) #[] #[]] w fun e w' => e = .returned (.tuple #[]) ∧ Kd.R k67 67 w' w0.heap.size (fun k_ => (P0_ k_ ∨ w.heap.size ≤ k_)) u9000_ r1 ∧ Below w0.heap.size w0 w' ∧ Kept w w' (fun k_ => P0_ k_) := by
 unfold impl_Mark_73.f at h
 by_cases c0 : l0.length = 0
 ·rw [if_pos c0] at h
  obtain rfl := Option.some.inj h
  obtain rfl : l0 = [] := List.length_eq_zero_iff.1 c0
  obtain ⟨A, c, rfl⟩ := Kd.R_slice ho0
  have hn := AnyF.slices_SortFunc_none Try.laysSortMark A c (.func (.func 74) #[] #[]) w
  change Calls Try.prog 73 _ _ _ at hn
  refine hn.mono ?_
  rintro e w' ⟨rfl, rfl⟩
  exact ⟨rfl, Kd.R_mono ho0 (fun _ q => .inl q), hB, Kept.refl _ _⟩
 rw [if_neg c0] at h
 by_cases c1 : 1000000 < l0.length
 ·rw [if_pos c1] at h; cases h
 rw [if_neg c1] at h
 have c2 : l0.all okM = true := by
  by_cases c2 : l0.all okM = true
  ·exact c2
  ·rw [if_neg c2] at h; cases h
 rw [if_pos c2] at h
 obtain rfl := Option.some.inj h
 obtain ⟨hP, inner, ho, hr⟩ := ho0
 rcases ho.2 with ⟨_, hn⟩ | ⟨g, cap, cur, rfl, hg, hh, hn, hcap, hsz, htk⟩
 ·exact absurd hn c0
 have hin := inner_pack l0 inner hr c2
 have hd : (packM l0).toArray.size = l0.length := by simp [packM]
 have eg : ∀ args w, (callFunc 74 args).run Try.prog w = .ok (.enter 74 args) w := enters_of Try.func74 (by kernel_rfl) rfl
 have hH : HoldsK encM 3 w g 0 (packM l0).toArray := by
  intro j hj
  rw [size_flatK, hd] at hj
  rw [Nat.zero_add]
  refine ⟨?_, blk_frozen hh j⟩
  rw [blk_cell hh j]
  have e1 : (cur.toList.take (l0.length * 3))[j]? = cur[j]? := by rw [List.getElem?_take_of_lt hj, Array.getElem?_toList]
  have e2 : cur.toList.take (l0.length * 3) = (flatK encM 3 (packM l0).toArray).toList := by rw [flatK_list]; exact htk.trans hin
  rw [← e1, e2, Array.getElem?_toList]
  have hs : j < (flatK encM 3 (packM l0).toArray).size := by rw [size_flatK, hd]; exact hj
  rw [Array.getElem?_eq_getElem hs, getElem!_pos _ j hs]; rfl
 have hcon := AnyQ.slices_SortFunc_eq Try.laysSortMark 3 Try.isAgg67 Try.sizeOf67 encM (fun _ => rfl) (fun x v hv => by simp [encM] at hv; rcases hv with rfl | rfl | rfl <;> rfl) cmpM swo_cmpM 74 #[] g 0 cap (packM l0).toArray w eg (cmp_lays g 0 _ w) hH (blk_lt hh) (by rw [hd]; omega)
 have hperm := (pdq_sorts (ltOf cmpM) swo_cmpM (packM l0).toArray 0 (packM l0).toArray.size (Lib.bitLen (packM l0).toArray.size) true true (Nat.zero_le _) (Nat.le_refl _) (Or.inl rfl)).1
 have hs' : (sortM l0).size = l0.length := (hperm.1).trans hd
 change Calls Try.prog 73 _ _ _ at hcon
 rw [show (Value.slice (some ⟨g, 0, none⟩) l0.length cap) = Value.slice (some ⟨g, 0, none⟩) (packM l0).toArray.size cap by rw [hd]]
 refine hcon.mono ?_
 rintro e w' ⟨rfl, n, os, rfl⟩
 have hb : ∀ i, i < w.heap.size → i ≠ g → (sortWorldK encM 3 w g 0 n (sortM l0) os).heap[i]? = w.heap[i]? := by
  intro i hi hne
  show ((w.heap.modify g _) ++ os)[i]? = _
  rw [Array.getElem?_append_left (by simpa using hi), Array.getElem?_modify, if_neg (fun e => hne e.symm)]
 have hgb : (sortWorldK encM 3 w g 0 n (sortM l0) os).heap[g]? = some (.cells (putCells id 0 (flatK encM 3 (sortM l0)) cur) 67 (0, 0)) := by
  show ((w.heap.modify g _) ++ os)[g]? = _
  rw [Array.getElem?_append_left (by simpa using blk_lt hh), Array.getElem?_modify, if_pos rfl, hh]; rfl
 have hsize : w.heap.size ≤ (sortWorldK encM 3 w g 0 n (sortM l0) os).heap.size := by
  show _ ≤ ((w.heap.modify g _) ++ os).size
  simp
 refine ⟨rfl, ⟨fun k hk => .inl (hP k hk), (sortM l0).toList.flatMap encM, ⟨?_, .inr ⟨g, cap, _, ?_, hg, hgb, ?_, hcap, ?_, ?_⟩⟩, reps_un _⟩, ⟨hB.os, hB.tape, hB.output, Nat.le_trans hB.size hsize, fun i hi => (hb i (Nat.lt_of_lt_of_le hi hB.size) (fun e => by omega)).trans (hB.block i hi)⟩, ⟨hsize, fun i hi hn => hb i hi (fun e => hn (e ▸ hP g rfl))⟩⟩
 ·rw [← flatK_list]; simp [size_flatK]; rfl
 ·simp [hs', show (packM l0).length = l0.length by unfold packM; rw [List.length_map]]
 ·simpa [hs'] using hn
 ·simp [putCells]; exact hsz
 rw [← flatK_list]
 apply List.ext_getElem?
 intro j
 have hlm : ((sortM l0).toList.map unM).length * k67.sz = (sortM l0).size * 3 := by rw [List.length_map, Array.length_toList]; rfl
 rw [hlm]
 by_cases hj : j < (sortM l0).size * 3
 rotate_left
 ·rw [List.getElem?_eq_none (by rw [List.length_take]; omega), List.getElem?_eq_none (by simp [size_flatK]; omega)]
 rw [List.getElem?_take_of_lt hj, Array.getElem?_toList, Array.getElem?_toList]
 have h1 : j < cur.size := by rw [hsz]; rw [hs'] at hj; exact Nat.lt_of_lt_of_le hj (Nat.mul_le_mul_right 3 hn)
 have h2 : j < (flatK encM 3 (sortM l0)).size := by rw [size_flatK]; exact hj
 unfold putCells
 rw [Array.getElem?_mapIdx, Array.getElem?_eq_getElem h1, Array.getElem?_eq_getElem h2]
 simp only [Option.map_some, Nat.zero_le, Nat.zero_add, Nat.sub_zero, true_and]
 rw [if_pos h2, getElem!_pos _ j h2]; rfl
end SortMark
end Go.Proofs.Ytmhcmcdppimcpaa.PFnExactMoveMarks
