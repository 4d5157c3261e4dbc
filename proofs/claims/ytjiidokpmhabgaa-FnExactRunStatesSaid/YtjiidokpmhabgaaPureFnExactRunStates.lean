/- FnExactRunStates over plain functions: at all states and words the program's RunStates and the reference's give one answer, and the states stay; no condition. -/
import Derived.Test.YtjiidokpmhabgaaPFnExactRunStatesx4
import Derived.Test.YtjiidokpmhabgaaBase
namespace Go.Proofs.Ytjiidokpmhabgaa.Pure
open Go.RowKit Go.Proofs.Ytjiidokpmhabgaa.PFnExactRunStates Go.Proofs.YtjiidokpmhabgaaW.PrintWords Go.Proofs.YtjiidokpmhabgaaW.PrintLast Go.Proofs.Ytjiidokpmhabgaa.Base
set_option linter.unusedVariables false
set_option linter.unusedSimpArgs false

def symB (c : Int) : Bool := decide (65 ≤ c ∧ c ≤ 70) || decide (c = 116)
def symI (c : Int) : Int := if c = 116 then 6 else c - 65
set_option maxRecDepth 100000 in
theorem index_all : ∀ n : Fin 256, Lib.indexByte [65, 66, 67, 68, 69, 70, 116] n.val.toUInt8 = (if symB (n.val : Int) = true then symI (n.val : Int) else -1) := by decide
theorem index_sym (c : Int) (h0 : 0 ≤ c) (h1 : c ≤ 255) : strings_IndexByte.f (⟨#[65, 66, 67, 68, 69, 70, 116]⟩ : ByteArray) c = some (if symB c = true then symI c else -1) := by
  obtain ⟨n, rfl⟩ := Int.eq_ofNat_of_zero_le h0
  have := index_all ⟨n, by omega⟩
  unfold strings_IndexByte.f
  exact congrArg some this
theorem symI_range {c : Int} (h : symB c = true) : 0 ≤ symI c ∧ symI c < 7 := by
  unfold symB at h
  simp only [Bool.or_eq_true, decide_eq_true_eq] at h
  unfold symI
  split <;> omega
theorem isSymbol_is (c : Int) (h0 : 0 ≤ c) (h1 : c ≤ 255) : impl_isSymbol.f c = some (symB c) := by
  unfold impl_isSymbol.f
  rw [index_sym c h0 h1]
  by_cases h : symB c = true
  · have := symI_range h
    rw [if_pos h, h]; simp; omega
  · rw [if_neg h, Bool.eq_false_iff.mpr h]; rfl
theorem l6Symbol_is (c : Int) : spec_l6Symbol.f c = some (symB c) := by
  unfold spec_l6Symbol.f spec_l1Open.f symB
  by_cases h : c ≥ 65
  · rw [if_pos h]
    by_cases g : c ≤ 70
    · simp [h, g]
    · have e : (c == 116) = decide (c = 116) := by rw [Bool.eq_iff_iff]; simp
      simp [h, g, e]
  · have e : (c == 116) = decide (c = 116) := by rw [Bool.eq_iff_iff]; simp
    rw [if_neg h]; simp [h, e]
theorem l6Index_is (c : Int) (h : symB c = true) : spec_l6Index.f c = some (symI c) := by
  have := symI_range h
  unfold spec_l6Index.f symI at *
  by_cases g : c = 116
  · rw [if_pos g, if_pos g]
  · rw [if_neg g, if_neg g]
    rw [if_neg g] at this
    congr 1
    omega
/-- A word: symbols alone, at most 60 of them. -/
def wordB (a : ByteArray) : Bool := (bytesOf a).all symB && decide ((a.size : Int) ≤ 60)
theorem spec_word_l (a : ByteArray) (ha : a.size ≤ 1048576) (d : Nat) : ∀ i : Nat, i + d = a.size → Ev (fun k => spec_l6Word.l0 k a (i : Int)) (((bytesOf a).drop i).all symB && decide ((a.size : Int) ≤ 60)) := by
  induction d with
  | zero =>
    intro i hi
    refine Ev.step (fun k => by rw [spec_l6Word.l0]) ?_
    refine ev_neg (by omega) (ev_ret ?_)
    rw [drop_end a i (by omega)]; rfl
  | succ d ih =>
    intro i hi
    refine Ev.step (fun k => by rw [spec_l6Word.l0]) ?_
    refine ev_pos (by omega) (ev_pos (by omega) (ev_eq (l6Symbol_is _) ?_))
    rw [drop_bytes a i (by omega), List.all_cons]
    refine ev_if (fun h => ?_) (fun h => ev_ret ?_)
    · rw [h, wrap_succ i (by omega)]; exact ih (i + 1) (by omega)
    · rw [Bool.eq_false_iff.mpr h]; rfl
theorem spec_l6Word_f (a : ByteArray) (ha : a.size ≤ 1048576) : Ev (fun k => spec_l6Word.f k a) (wordB a) := by
  unfold spec_l6Word.f wordB
  exact spec_word_l a ha a.size 0 (by omega)
theorem impl_word_l (a : ByteArray) (ha : a.size ≤ 1048576) (d : Nat) : ∀ i : Nat, i + d = a.size → Ev (fun k => impl_isWord.l0 k a (a.size : Int) (i : Int)) (((bytesOf a).drop i).all symB && decide ((a.size : Int) ≤ 60)) := by
  induction d with
  | zero =>
    intro i hi
    refine Ev.step (fun k => by rw [impl_isWord.l0]) ?_
    refine ev_neg (by omega) (ev_ret ?_)
    rw [drop_end a i (by omega)]; rfl
  | succ d ih =>
    intro i hi
    refine Ev.step (fun k => by rw [impl_isWord.l0]) ?_
    have hr := bt_range a i
    refine ev_pos (by omega) (ev_pos (by omega) (ev_pos (by omega) (ev_eq (isSymbol_is _ hr.1 hr.2) ?_)))
    rw [drop_bytes a i (by omega), List.all_cons]
    refine ev_if (fun h => ?_) (fun h => ev_ret ?_)
    · rw [h, wrap_succ i (by omega)]; exact ih (i + 1) (by omega)
    · rw [Bool.eq_false_iff.mpr h]; rfl
theorem impl_isWord_f (a : ByteArray) (ha : a.size ≤ 1048576) : Ev (fun k => impl_isWord.f k a) (wordB a) := by
  unfold impl_isWord.f wordB
  exact impl_word_l a ha a.size 0 (by omega)

theorem rd_int (l : List Int) (i : Nat) : rd l (i : Int) = gt (0 : Int) l i := rfl

theorem laws_eqIntS_l (l : List Int) (hl : l.length ≤ 4611686018427387904) (d : Nat) : ∀ i : Nat, i + d = l.length → Ev (fun k => laws_eqIntS.l0 k l l (i : Int)) true := by
  induction d with
  | zero => exact fun i hi => Ev.step (fun k => by rw [laws_eqIntS.l0]) (ev_neg (by omega) (ev_ret rfl))
  | succ d ih =>
    intro i hi
    refine Ev.step (fun k => by rw [laws_eqIntS.l0]) ?_
    refine ev_pos (by omega) (ev_pos (by omega) (ev_pos (by omega) (ev_pos rfl ?_)))
    rw [wrap_succ i (by omega)]
    exact ih (i + 1) (by omega)
theorem laws_eqIntS_f (l : List Int) (hl : l.length ≤ 4611686018427387904) : Ev (fun k => laws_eqIntS.f k l l) true := by
  unfold laws_eqIntS.f
  exact ev_pos rfl (laws_eqIntS_l l hl l.length 0 (by omega))

theorem laws_toIntS_l (l : List Int) (hl : l.length ≤ 1048576) (d : Nat) :
    ∀ i : Nat, i + d = l.length → Ev (fun k => laws_toIntS.l0 k l (l.take i ++ List.replicate (l.length - i) 0) (i : Int)) l := by
  induction d with
  | zero =>
    intro i hi
    refine Ev.step (fun k => by rw [laws_toIntS.l0]) ?_
    refine ev_neg (by omega) (ev_ret ?_)
    have : l.length - i = 0 := by omega
    rw [List.take_of_length_le (by omega), this]; simp
  | succ d ih =>
    intro i hi
    refine Ev.step (fun k => by rw [laws_toIntS.l0]) ?_
    refine ev_pos (by omega) (ev_pos (by omega) (ev_pos (by simp; omega) ?_))
    rw [wrap_succ i (by omega)]
    have ih' := ih (i + 1) (by omega)
    have e : (l.take i ++ List.replicate (l.length - i) 0).set (i : Int).toNat (rd l (i : Int)) = l.take (i + 1) ++ List.replicate (l.length - (i + 1)) 0 := by
      rw [Int.toNat_natCast, set_next _ _ _ _ _ (by simp; omega) (by omega), rd_int, gt_take (0 : Int) l i (by omega)]
    exact e ▸ ih'
theorem laws_toIntS_f (l : List Int) (hl : l.length ≤ 1048576) : Ev (fun k => laws_toIntS.f k l) l := by
  unfold laws_toIntS.f
  refine ev_pos (by omega) (ev_pos (by omega) ?_)
  exact laws_toIntS_l l hl l.length 0 (by omega)

abbrev LS := S44
abbrev IS := S45
def lzS : LS := z44
def izS : IS := z45
def cvS (x : LS) : IS := ⟨x.f0, x.f1, x.f2⟩
theorem rd_ls (l : List LS) (i : Nat) : rd_T44 l (i : Int) = gt lzS l i := rfl
theorem rd_is (l : List IS) (i : Nat) : rd_T45 l (i : Int) = gt izS l i := rfl
theorem laws_szState_f (x : LS) (left : Int) (h0 : 0 ≤ left) (h1 : left ≤ 1048576) (w0 : x.f0.size ≤ 9223372036854775807) (w2 : x.f2.length ≤ 9223372036854775807) :
    ∃ r, laws_szState.f x.f0 x.f1 x.f2 left = some r ∧ r ≤ 1048576 ∧ (0 ≤ r → x.f2.length ≤ 1048576) := by
  unfold laws_szState.f laws_szIntS.f
  rw [wrap_id (x := left - (x.f0.size : Int)) (by omega) (by omega)]
  by_cases c : left - (x.f0.size : Int) < 0
  · exact ⟨-1, by rw [if_pos c], by omega, by omega⟩
  · rw [if_neg c, wrap_id (by omega) (by omega)]
    by_cases c2 : left - (x.f0.size : Int) - (x.f2.length : Int) < 0
    · exact ⟨-1, by rw [if_pos c2]; simp, by omega, by omega⟩
    · exact ⟨left - (x.f0.size : Int) - (x.f2.length : Int), by rw [if_neg c2]; simp; omega, by omega, by omega⟩
theorem laws_szStateS_l (l : List LS) (hl : l.length ≤ 1048576) (hw : ∀ x ∈ l, x.f0.size ≤ 9223372036854775807 ∧ x.f2.length ≤ 9223372036854775807) (d : Nat) :
    ∀ (i : Nat) (left : Int), i + d = l.length → 0 ≤ left → left ≤ 1048576 → ∃ r, Ev (fun k => laws_szStateS.l0 k l left (i : Int)) r ∧ (0 ≤ r → ∀ x ∈ l.drop i, x.f2.length ≤ 1048576) := by
  induction d with
  | zero =>
    intro i left hi h0 h1
    refine ⟨left, Ev.step (fun k => by rw [laws_szStateS.l0]) (ev_neg (by omega) (ev_ret rfl)), fun _ x hx => ?_⟩
    rw [List.drop_eq_nil_of_le (by omega)] at hx; cases hx
  | succ d ih =>
    intro i left hi h0 h1
    have hm := hw _ (gt_mem lzS l i (by omega))
    obtain ⟨v, hv, hv1, hv2⟩ := laws_szState_f (gt lzS l i) left h0 h1 hm.1 hm.2
    by_cases c : v < 0
    · refine ⟨-1, Ev.step (fun k => by rw [laws_szStateS.l0]) ?_, by omega⟩
      exact ev_pos (by omega) (ev_pos (by omega) (ev_eq hv (ev_pos c (ev_ret rfl))))
    · obtain ⟨r, hr, hr2⟩ := ih (i + 1) v (by omega) (by omega) hv1
      refine ⟨r, Ev.step (fun k => by rw [laws_szStateS.l0]) ?_, fun h x hx => ?_⟩
      · refine ev_pos (by omega) (ev_pos (by omega) (ev_eq hv (ev_neg c ?_)))
        rw [wrap_succ i (by omega)]; exact hr
      · rw [gt_drop lzS l i (by omega)] at hx
        rcases List.mem_cons.1 hx with rfl | hx
        · exact hv2 (by omega)
        · exact hr2 h x hx
theorem laws_szStateS_f (l : List LS) (hl : l.length ≤ 9223372036854775807) (hw : ∀ x ∈ l, x.f0.size ≤ 9223372036854775807 ∧ x.f2.length ≤ 9223372036854775807) :
    ∃ r, Ev (fun k => laws_szStateS.f k l 1048576) r ∧ (0 ≤ r → l.length ≤ 1048576 ∧ ∀ x ∈ l, x.f2.length ≤ 1048576) := by
  have e : wrap64 (1048576 - (l.length : Int)) = 1048576 - (l.length : Int) := wrap_id (by omega) (by omega)
  by_cases c : 1048576 - (l.length : Int) < 0
  · refine ⟨-1, ?_, by omega⟩
    unfold laws_szStateS.f
    rw [e]; exact ev_pos c (ev_ret rfl)
  · obtain ⟨r, hr, hr2⟩ := laws_szStateS_l l (by omega) hw l.length 0 (1048576 - (l.length : Int)) (by omega) (by omega) (by omega)
    refine ⟨r, ?_, fun h => ⟨by omega, by simpa using hr2 h⟩⟩
    unfold laws_szStateS.f
    rw [e]; exact ev_neg c hr
theorem laws_toStateS_l (l : List LS) (hl : l.length ≤ 1048576) (hw : ∀ x ∈ l, x.f2.length ≤ 1048576) (d : Nat) :
    ∀ i : Nat, i + d = l.length → Ev (fun k => laws_toStateS.l0 k l ((l.take i).map cvS ++ List.replicate (l.length - i) izS) (i : Int)) (l.map cvS) := by
  induction d with
  | zero =>
    intro i hi
    refine Ev.step (fun k => by rw [laws_toStateS.l0]) ?_
    refine ev_neg (by omega) (ev_ret ?_)
    have : l.length - i = 0 := by omega
    rw [List.take_of_length_le (by omega), this]; simp
  | succ d ih =>
    intro i hi
    have hm := hw _ (gt_mem lzS l i (by omega))
    refine Ev.step (fun k => by rw [laws_toStateS.l0]) ?_
    refine ev_pos (by omega) (ev_pos (by omega) ?_)
    simp only [rd_ls]
    have ht : Ev (fun k => laws_toState.f k (gt lzS l i).f0 (gt lzS l i).f1 (gt lzS l i).f2) ((gt lzS l i).f0, (gt lzS l i).f1, (gt lzS l i).f2) := by
      unfold laws_toState.f
      exact Ev.bind (laws_toIntS_f _ hm) (ev_ret rfl)
    refine Ev.bind ht (ev_pos (by simp; omega) ?_)
    rw [wrap_succ i (by omega)]
    have ih' := ih (i + 1) (by omega)
    have e : ((l.take i).map cvS ++ List.replicate (l.length - i) izS).set (i : Int).toNat (⟨(gt lzS l i).f0, (gt lzS l i).f1, (gt lzS l i).f2⟩ : IS) = (l.take (i + 1)).map cvS ++ List.replicate (l.length - (i + 1)) izS := by
      rw [Int.toNat_natCast, set_next _ _ _ _ _ (by simp; omega) (by omega), gt_take lzS l i (by omega), List.map_append]; rfl
    exact e ▸ ih'
theorem laws_toStateS_f (l : List LS) (hl : l.length ≤ 1048576) (hw : ∀ x ∈ l, x.f2.length ≤ 1048576) : Ev (fun k => laws_toStateS.f k l) (l.map cvS) := by
  unfold laws_toStateS.f
  refine ev_pos (by omega) (ev_pos (by omega) ?_)
  exact laws_toStateS_l l hl hw l.length 0 (by omega)
theorem laws_eqStateS_l (l : List IS) (hl : l.length ≤ 1048576) (hw : ∀ x ∈ l, x.f2.length ≤ 1048576) (d : Nat) : ∀ i : Nat, i + d = l.length → Ev (fun k => laws_eqStateS.l0 k l l (i : Int)) true := by
  induction d with
  | zero => exact fun i hi => Ev.step (fun k => by rw [laws_eqStateS.l0]) (ev_neg (by omega) (ev_ret rfl))
  | succ d ih =>
    intro i hi
    have hm := hw _ (gt_mem izS l i (by omega))
    refine Ev.step (fun k => by rw [laws_eqStateS.l0]) ?_
    have he : Ev (fun k => laws_eqState.f k (gt izS l i).f0 (gt izS l i).f1 (gt izS l i).f2 (gt izS l i).f0 (gt izS l i).f1 (gt izS l i).f2) true := by
      unfold laws_eqState.f
      exact ev_pos rfl (ev_neg (by simp) (Ev.bind (laws_eqIntS_f _ (by omega)) (ev_pos rfl (ev_ret rfl))))
    refine ev_pos (by omega) (ev_pos (by omega) (ev_pos (by omega) (Ev.bind he (ev_pos rfl ?_))))
    rw [wrap_succ i (by omega)]
    exact ih (i + 1) (by omega)
theorem laws_eqStateS_f (l : List IS) (hl : l.length ≤ 1048576) (hw : ∀ x ∈ l, x.f2.length ≤ 1048576) : Ev (fun k => laws_eqStateS.f k l l) true := by
  unfold laws_eqStateS.f
  exact ev_pos rfl (laws_eqStateS_l l hl hw l.length 0 (by omega))

/-- A state of so many: seven next ones, each of them one of so many. -/
def okS (m : Int) (s : IS) : Bool := decide ((s.f2.length : Int) = 7) && s.f2.all (fun n => decide (0 ≤ n ∧ n < m))
def stp (l : List IS) (at_ c : Int) : Int := rd (rd_T45 l at_).f2 (symI c)
def runS (l : List IS) : List Int → Int → Int
  | [], at_ => at_
  | c :: r, at_ => runS l r (stp l at_ c)
def endS (l : List IS) (a : ByteArray) : Bool × Bool := ((rd_T45 l (runS l (bytesOf a) 0)).f1, true)
def ansS (l : List IS) (a : ByteArray) : Bool × Bool :=
  if l.all (okS (l.length : Int)) = true ∧ (1 ≤ l.length ∧ l.length ≤ 60) ∧ wordB a = true then endS l a else (false, false)
theorem stp_range {l : List IS} (ho : l.all (okS (l.length : Int)) = true) {at_ c : Int} (h0 : 0 ≤ at_) (h1 : at_ < (l.length : Int)) (hc : symB c = true) :
    ((rd_T45 l at_).f2.length : Int) = 7 ∧ 0 ≤ stp l at_ c ∧ stp l at_ c < (l.length : Int) := by
  obtain ⟨n, rfl⟩ := Int.eq_ofNat_of_zero_le h0
  have hm := List.all_eq_true.1 ho _ (gt_mem izS l n (by omega))
  unfold okS at hm
  rw [Bool.and_eq_true, decide_eq_true_eq] at hm
  obtain ⟨h7, hn⟩ := hm
  have hs := symI_range hc
  obtain ⟨j, hj⟩ := Int.eq_ofNat_of_zero_le hs.1
  unfold stp
  rw [rd_is, hj]
  refine ⟨h7, ?_⟩
  have := List.all_eq_true.1 hn _ (gt_mem 0 (gt izS l n).f2 j (by omega))
  exact of_decide_eq_true this
theorem spec_run_l (l : List IS) (a : ByteArray) (ha : a.size ≤ 1048576) (ho : l.all (okS (l.length : Int)) = true) (hw : (bytesOf a).all symB = true) (d : Nat) :
    ∀ (i : Nat) (at_ : Int), i + d = a.size → 0 ≤ at_ → at_ < (l.length : Int) → Ev (fun k => spec_RunStates.l2 k l a at_ (i : Int)) ((rd_T45 l (runS l ((bytesOf a).drop i) at_)).f1, true) := by
  induction d with
  | zero =>
    intro i at_ hi h0 h1
    refine Ev.step (fun k => by rw [spec_RunStates.l2]) ?_
    rw [drop_end a i (by omega)]
    exact ev_neg (by omega) (ev_pos h0 (ev_pos h1 (ev_ret rfl)))
  | succ d ih =>
    intro i at_ hi h0 h1
    have hc : symB (bt a i) = true := by
      have := List.all_eq_true.1 hw (bt a i) (by have := drop_bytes a i (by omega); exact List.mem_of_mem_drop (i := i) (by rw [this]; exact List.mem_cons_self ..))
      exact this
    obtain ⟨h7, g0, g1⟩ := stp_range ho h0 h1 hc
    have hs := symI_range hc
    refine Ev.step (fun k => by rw [spec_RunStates.l2]) ?_
    refine ev_pos (by omega) (ev_pos h0 (ev_pos h1 (ev_pos (by omega) (ev_eq (l6Index_is _ hc) (ev_pos hs.1 (ev_pos (by omega) ?_))))))
    rw [wrap_succ i (by omega), drop_bytes a i (by omega)]
    exact ih (i + 1) _ (by omega) g0 g1
theorem impl_run_l (l : List IS) (a : ByteArray) (ha : a.size ≤ 1048576) (ho : l.all (okS (l.length : Int)) = true) (hw : (bytesOf a).all symB = true) (d : Nat) :
    ∀ (i : Nat) (at_ : Int), i + d = a.size → 0 ≤ at_ → at_ < (l.length : Int) → Ev (fun k => impl_RunStates.l1 k l a at_ (i : Int)) ((rd_T45 l (runS l ((bytesOf a).drop i) at_)).f1, true) := by
  induction d with
  | zero =>
    intro i at_ hi h0 h1
    refine Ev.step (fun k => by rw [impl_RunStates.l1]) ?_
    rw [drop_end a i (by omega)]
    exact ev_neg (by omega) (ev_pos h0 (ev_pos h1 (ev_ret rfl)))
  | succ d ih =>
    intro i at_ hi h0 h1
    have hc : symB (bt a i) = true := by
      have := List.all_eq_true.1 hw (bt a i) (by have := drop_bytes a i (by omega); exact List.mem_of_mem_drop (i := i) (by rw [this]; exact List.mem_cons_self ..))
      exact this
    obtain ⟨h7, g0, g1⟩ := stp_range ho h0 h1 hc
    have hs := symI_range hc
    have hr := bt_range a i
    have hi' : strings_IndexByte.f (⟨#[65, 66, 67, 68, 69, 70, 116]⟩ : ByteArray) (bt a i) = some (symI (bt a i)) := by rw [index_sym _ hr.1 hr.2, if_pos hc]
    refine Ev.step (fun k => by rw [impl_RunStates.l1]) ?_
    refine ev_pos (by omega) (ev_pos h0 (ev_pos h1 (ev_pos (by omega) (ev_eq hi' (ev_pos hs.1 (ev_pos (by omega) ?_))))))
    rw [wrap_succ i (by omega), drop_bytes a i (by omega)]
    exact ih (i + 1) _ (by omega) g0 g1
/-- The numbers of one state, behind some. -/
theorem spec_next_l (l L : List IS) (a : ByteArray) (m i : Int) (x : List Int) (f0 : ByteArray) (f1 : Bool) (hx : x.length ≤ 1048576) (hl : l.length ≤ 1048576) {r : Bool × Bool}
    (h : (x.all (fun n => decide (0 ≤ n ∧ n < (l.length : Int)))) = true → Ev (fun k => if (x.length : Int) = 7 then spec_RunStates.l0 k l a L m (wrap64 (i + 1)) else some (false, false)) r)
    (h2 : (x.all (fun n => decide (0 ≤ n ∧ n < (l.length : Int)))) = false → r = (false, false)) (d : Nat) :
    ∀ j : Nat, j + d = x.length → (x.take j).all (fun n => decide (0 ≤ n ∧ n < (l.length : Int))) = true → Ev (fun k => spec_RunStates.l1 k l a L m i x (x.length : Int) (j : Int) f0 f1 x) r := by
  induction d with
  | zero =>
    intro j hj ht
    refine Ev.step (fun k => by rw [spec_RunStates.l1]) ?_
    rw [List.take_of_length_le (by omega)] at ht
    exact ev_neg (by omega) (h ht)
  | succ d ih =>
    intro j hj ht
    refine Ev.step (fun k => by rw [spec_RunStates.l1]) ?_
    refine ev_pos (by omega) (ev_pos (by omega) (ev_pos (by omega) ?_))
    have e : wrap64 ((l.length : Int) - 1) = (l.length : Int) - 1 := wrap_id (by omega) (by omega)
    rw [e, rd_int]
    by_cases c : 0 ≤ gt (0 : Int) x j ∧ gt (0 : Int) x j < (l.length : Int)
    · refine ev_eq (a := true) (by unfold spec_l1In.f; rw [if_pos c.1]; simp; omega) (ev_pos rfl ?_)
      rw [wrap_succ j (by omega)]
      refine ih (j + 1) (by omega) ?_
      rw [gt_take (0 : Int) x j (by omega), List.all_append, ht]
      simp only [List.all_cons, List.all_nil, Bool.and_true, Bool.true_and]
      exact decide_eq_true c
    · have hf : (x.all (fun n => decide (0 ≤ n ∧ n < (l.length : Int)))) = false := by
        rw [Bool.eq_false_iff]
        intro hh
        exact c (of_decide_eq_true (List.all_eq_true.1 hh _ (gt_mem (0 : Int) x j (by omega))))
      rw [h2 hf]
      refine ev_eq (a := false) ?_ (ev_neg (by simp) (ev_ret rfl))
      unfold spec_l1In.f
      by_cases c0 : gt (0 : Int) x j ≥ 0
      · rw [if_pos c0]; simp; omega
      · rw [if_neg c0]
theorem spec_states_l (l : List IS) (a : ByteArray) (hl : l.length ≤ 1048576) (hx : ∀ x ∈ l, x.f2.length ≤ 1048576) (ha : a.size ≤ 1048576) (d : Nat) :
    ∀ i : Nat, i + d = l.length → (l.take i).all (okS (l.length : Int)) = true → Ev (fun k => spec_RunStates.l0 k l a l (l.length : Int) (i : Int)) (ansS l a) := by
  induction d with
  | zero =>
    intro i hi ht
    rw [List.take_of_length_le (by omega)] at ht
    refine Ev.step (fun k => by rw [spec_RunStates.l0]) ?_
    refine ev_neg (by omega) ?_
    by_cases c : 1 ≤ l.length ∧ l.length ≤ 60
    · refine ev_eq (a := true) (by unfold spec_l1In.f; rw [if_pos (by omega)]; simp; omega) (ev_pos rfl (Ev.bind (spec_l6Word_f a ha) ?_))
      by_cases g : wordB a = true
      · have gw : (bytesOf a).all symB = true := by unfold wordB at g; rw [Bool.and_eq_true] at g; exact g.1
        rw [g]
        refine Ev.step (fun k => by rw [spec_RunStates.j2]) ?_
        refine ev_neg (by simp) ?_
        unfold ansS endS
        rw [if_pos ⟨ht, c, g⟩]
        exact spec_run_l l a ha ht gw a.size 0 0 (by omega) (by omega) (by omega)
      · rw [Bool.eq_false_iff.mpr g]
        refine Ev.step (fun k => by rw [spec_RunStates.j2]) ?_
        refine ev_pos rfl (ev_ret ?_)
        unfold ansS
        rw [if_neg (fun h => g h.2.2)]
    · have e : spec_l1In.f (l.length : Int) 1 60 = some false := by
        unfold spec_l1In.f
        by_cases c0 : (l.length : Int) ≥ 1
        · rw [if_pos c0]; simp; omega
        · rw [if_neg c0]
      refine ev_eq e (ev_neg (by simp) ?_)
      refine Ev.step (fun k => by rw [spec_RunStates.j2]) ?_
      refine ev_pos rfl (ev_ret ?_)
      unfold ansS
      rw [if_neg (fun h => c h.2.1)]
  | succ d ih =>
    intro i hi ht
    refine Ev.step (fun k => by rw [spec_RunStates.l0]) ?_
    refine ev_pos (by omega) (ev_pos (by omega) (ev_pos (by omega) ?_))
    rw [rd_is]
    have hm := gt_mem izS l i (by omega)
    have hbad : okS (l.length : Int) (gt izS l i) = false → ansS l a = (false, false) := by
      intro h
      unfold ansS
      rw [if_neg (fun g => by rw [List.all_eq_true.1 g.1 _ hm] at h; cases h)]
    refine spec_next_l l l a (l.length : Int) (i : Int) (gt izS l i).f2 _ _ (hx _ hm) hl ?_ ?_ (gt izS l i).f2.length 0 (by omega) rfl
    · intro hall
      refine ev_if (fun h7 => ?_) (fun h7 => ev_ret ?_)
      · rw [wrap_succ i (by omega)]
        refine ih (i + 1) (by omega) ?_
        rw [gt_take izS l i (by omega), List.all_append, ht]
        simp only [List.all_cons, List.all_nil, Bool.and_true, Bool.true_and]
        unfold okS; rw [hall, decide_eq_true h7]; rfl
      · exact (hbad (by unfold okS; rw [decide_eq_false h7]; rfl)).symm
    · intro hall
      exact hbad (by unfold okS; rw [hall, Bool.and_false])
theorem spec_RunStates_f (l : List IS) (a : ByteArray) (hl : l.length ≤ 1048576) (hx : ∀ x ∈ l, x.f2.length ≤ 1048576) (ha : a.size ≤ 1048576) : Ev (fun k => spec_RunStates.f k l a) (ansS l a) := by
  unfold spec_RunStates.f
  exact spec_states_l l a hl hx ha l.length 0 (by omega) rfl
theorem idxOut_is (m : Int) : ∀ (l : List Int) (i : Int), 0 ≤ i → (0 ≤ idxOut m l i ↔ ¬ l.all (fun n => decide (0 ≤ n ∧ n < m)) = true)
  | [], i, h => by simp [idxOut]
  | n :: r, i, h => by
    unfold idxOut outB
    have ih := idxOut_is m r (i + 1) (by omega)
    by_cases c : 0 ≤ n ∧ n < m
    · have e1 : decide (n < 0) = false := decide_eq_false (by omega)
      have e2 : decide (m ≤ n) = false := decide_eq_false (by omega)
      rw [e1, e2, Bool.or_false, if_neg (by simp), ih, List.all_cons, decide_eq_true c, Bool.true_and]
    · have e : (decide (n < 0) || decide (m ≤ n)) = true := by
        rw [Bool.or_eq_true, decide_eq_true_eq, decide_eq_true_eq]; omega
      rw [if_pos e, List.all_cons, decide_eq_false c, Bool.false_and]
      simp [h]
theorem impl_states_l (l : List IS) (a : ByteArray) (h1 : 1 ≤ l.length ∧ l.length ≤ 60) (ha : a.size ≤ 1048576) (hw : wordB a = true) (d : Nat) :
    ∀ i : Nat, i + d = l.length → (l.take i).all (okS (l.length : Int)) = true → Ev (fun k => impl_RunStates.l0 k l a (i : Int)) (ansS l a) := by
  induction d with
  | zero =>
    intro i hi ht
    rw [List.take_of_length_le (by omega)] at ht
    have gw : (bytesOf a).all symB = true := by unfold wordB at hw; rw [Bool.and_eq_true] at hw; exact hw.1
    refine Ev.step (fun k => by rw [impl_RunStates.l0]) ?_
    refine ev_neg (by omega) ?_
    unfold ansS endS
    rw [if_pos ⟨ht, h1, hw⟩]
    exact impl_run_l l a ha ht gw a.size 0 0 (by omega) (by omega) (by omega)
  | succ d ih =>
    intro i hi ht
    refine Ev.step (fun k => by rw [impl_RunStates.l0]) ?_
    refine ev_pos (by omega) (ev_pos (by omega) ?_)
    rw [rd_is]
    have hm := gt_mem izS l i (by omega)
    have hbad : okS (l.length : Int) (gt izS l i) = false → ansS l a = (false, false) := by
      intro h
      unfold ansS
      rw [if_neg (fun g => by rw [List.all_eq_true.1 g.1 _ hm] at h; cases h)]
    refine ev_if (fun h7 => ?_) (fun h7 => ev_ret ?_)
    · have hio := idxOut_is (l.length : Int) (gt izS l i).f2 0 (by omega)
      refine ev_if (fun ho => ev_ret ?_) (fun ho => ?_)
      · exact (hbad (by unfold okS; rw [Bool.eq_false_iff.mpr (hio.1 ho), Bool.and_false])).symm
      · have hall : (gt izS l i).f2.all (fun n => decide (0 ≤ n ∧ n < (l.length : Int))) = true := by
          by_cases g : (gt izS l i).f2.all (fun n => decide (0 ≤ n ∧ n < (l.length : Int))) = true
          · exact g
          · exact absurd (hio.2 g) ho
        rw [wrap_succ i (by omega)]
        refine ih (i + 1) (by omega) ?_
        rw [gt_take izS l i (by omega), List.all_append, ht]
        simp only [List.all_cons, List.all_nil, Bool.and_true, Bool.true_and]
        unfold okS; rw [hall, decide_eq_true h7]; rfl
    · exact (hbad (by unfold okS; rw [decide_eq_false h7]; rfl)).symm
theorem impl_RunStates_f (l : List IS) (a : ByteArray) (ha : a.size ≤ 1048576) : Ev (fun k => impl_RunStates.f k l a) (ansS l a) := by
  unfold impl_RunStates.f
  refine ev_if (fun c => ev_ret ?_) (fun c => ?_)
  · unfold ansS; rw [if_neg (fun h => by omega)]
  refine ev_if (fun c2 => ev_ret ?_) (fun c2 => ?_)
  · unfold ansS; rw [if_neg (fun h => by omega)]
  refine Ev.bind (impl_isWord_f a ha) (ev_if (fun h => ?_) (fun h => ev_ret ?_))
  · exact impl_states_l l a (by omega) ha h l.length 0 (by omega) rfl
  · unfold ansS; rw [if_neg (fun g => h g.2.2)]
theorem FnExactRunStates : laws_FnExactRunStates.Pure := by
  intro l a hl hw ha
  refine Ev.rounds ?_
  unfold laws_FnExactRunStates.f
  refine ev_if (fun _ => ev_ret rfl) (fun hs => ?_)
  obtain ⟨v, hv, hb⟩ := laws_szStateS_f l hl (fun x hx => ⟨(hw x hx).1, (hw x hx).2.2.1⟩)
  refine Ev.bind hv (ev_if (fun _ => ev_ret rfl) (fun h => ?_))
  obtain ⟨h1, h2⟩ := hb (by omega)
  have hl' : (l.map cvS).length ≤ 1048576 := by simpa using h1
  have hx' : ∀ x ∈ l.map cvS, x.f2.length ≤ 1048576 := fun x hx => by obtain ⟨y, hy, rfl⟩ := List.mem_map.1 hx; exact h2 y hy
  have ha' : a.size ≤ 1048576 := by omega
  refine Ev.bind (laws_toStateS_f l h1 h2) (Ev.bind (spec_RunStates_f _ a hl' hx' ha') (Ev.bind (laws_toStateS_f l h1 h2) (Ev.bind (impl_RunStates_f _ a ha') (ev_neg (by simp) ?_))))
  rw [bne_self_eq_false]
  refine Ev.step (fun k => by rw [laws_FnExactRunStates.j0]) ?_
  refine ev_neg (by simp) ?_
  exact Ev.bind (laws_toStateS_f l h1 h2) (Ev.bind (laws_eqStateS_f _ hl' hx') (ev_pos rfl (ev_ret rfl)))

end Go.Proofs.Ytjiidokpmhabgaa.Pure
