/- What a statement's arguments read as: rows of structs of whole numbers, bools, texts and rows, as plain lists. Nothing of the program stands here. -/
import Derived.Test.YtoagljlnfakgjaaWWords
import Derived.Test.YtoagljlnfakgjaaWLast
import Derived.ProofKit
import Derived.Deep.Slices
import Derived.Deep.Strs
import Derived.Lib.SmallJoins
import Derived.WideShapes
import Derived.OpenShut
namespace Go.Proofs.Ytoagljlnfakgjaa.Read
open Go.RowKit Go.Proofs.YtoagljlnfakgjaaW.PrintWords Go.Proofs.YtoagljlnfakgjaaW.PrintLast

/-- Whatever reads as data of type t holds the cells of some x of the kind d, and x is as wf says. -/
def Opens {α : Type} (d : Kd α) (P : Program) (t : TypeId) (wf : α → Prop) : Prop :=
  P.cellsOf t = d.sz ∧ ∀ (H : Type) (enc : TypeId × Value → H) (W : World) (base : Nat) (spare : Nat → Bool) (held : Bool) (fuel : Nat) (cs : List Value) (x : DataW H × List MemPlace),
    DataW.trod enc P W base spare held fuel t cs = some x → ∃ y, d.K W y cs ∧ wf y

theorem opens_int {P : Program} {t : TypeId} {k : IntKind} (ht : P.underlying t = some (.int k)) (hc : P.cellsOf t = 1) : Opens (Kd.int k) P t (fun x => (Lit.int k x).wf = true) := by
  refine ⟨hc, fun H enc W base spare held fuel cs x h => ?_⟩
  obtain ⟨n, rfl, _, hw⟩ := DataW.trod_int ht h
  exact ⟨n, rfl, hw⟩
theorem opens_bool {P : Program} {t : TypeId} (ht : P.underlying t = some .bool) (hc : P.cellsOf t = 1) : Opens Kd.bool P t (fun _ => True) := by
  refine ⟨hc, fun H enc W base spare held fuel cs x h => ?_⟩
  obtain ⟨n, rfl, _⟩ := DataW.trod_bool ht h
  exact ⟨n, rfl, trivial⟩
theorem opens_string {P : Program} {t : TypeId} (ht : P.underlying t = some .string) (hc : P.cellsOf t = 1) : Opens Kd.string P t (fun s => s.size ≤ 9223372036854775807) := by
  refine ⟨hc, fun H enc W base spare held fuel cs x h => ?_⟩
  obtain ⟨n, rfl, _, hw⟩ := DataW.trod_string ht h
  exact ⟨n, rfl, by simpa [Go.maxLen] using hw⟩

theorem pick_list {α : Type} (Q : Nat → α → Prop) : ∀ n : Nat, (∀ i, i < n → ∃ y, Q i y) → ∃ l : List α, l.length = n ∧ ∀ i y, l[i]? = some y → Q i y
  | 0, _ => ⟨[], rfl, fun i y h => by simp at h⟩
  | n + 1, h => by
    obtain ⟨l, hl, hq⟩ := pick_list Q n (fun i hi => h i (by omega))
    obtain ⟨y, hy⟩ := h n (by omega)
    refine ⟨l ++ [y], by simp [hl], fun i z hz => ?_⟩
    rcases Nat.lt_or_ge i l.length with hi | hi
    · rw [List.getElem?_append_left hi] at hz; exact hq i z hz
    · have h1 := (List.getElem?_eq_some_iff.1 hz).1
      rw [List.length_append, List.length_singleton] at h1
      have h2 : i = l.length := by omega
      subst h2
      have h3 : y = z := by simpa using hz
      subst h3; rw [hl]; exact hy

/-- A row that is read. -/
theorem opens_rows {α : Type} {d : Kd α} {P : Program} {t e : TypeId} {wf : α → Prop} (ht : P.underlying t = some (.slice e)) (he : Opens d P e wf)
    {H : Type} {enc : TypeId × Value → H} {W : World} {base : Nat} {spare : Nat → Bool} {held : Bool} {fuel : Nat} {cs : List Value} {x : DataW H × List MemPlace}
    (h : DataW.trod enc P W base spare held fuel t cs = some x) :
    ∃ (a : Option Addr) (c : Nat) (l : List α), cs = [.slice a l.length c] ∧ l.length ≤ c ∧ d.C W a l.length l ∧ l.length ≤ 9223372036854775807 ∧ ∀ y ∈ l, wf y := by
  rcases Go.Deep.open_slice ht h with ⟨rfl, _⟩ | ⟨a, len, cap, m, n, D, Pl, rfl, hb, hl, hm, hmm, _, hel⟩
  · exact ⟨none, 0, [], rfl, Nat.le_refl _, Kd.C_nil d W, by simp, fun y hy => by cases hy⟩
  · have hlm : len ≤ m := by rw [hmm]; split <;> omega
    have hM : len ≤ 9223372036854775807 := by have : cap ≤ 9223372036854775807 := by simpa [Go.maxLen] using hm
                                              omega
    obtain ⟨l, hln, hq⟩ := pick_list (fun i y => wf y ∧ ∃ c : List Value, c.length = d.sz ∧ d.K W y c ∧ ∀ j u, c[j]? = some u → W.cell? (a.add (i * d.sz + j)) = some u) len (fun i hi => by
      obtain ⟨cs', hcs, htr⟩ := hel i (by omega)
      obtain ⟨y, hK, hw⟩ := he.2 H enc W base spare held n cs' _ htr
      obtain ⟨_, hlen, hcell⟩ := World.cells?_some hcs
      rw [he.1] at hlen hcell
      refine ⟨y, hw, cs', hlen, hK, fun j u hu => ?_⟩
      have hj : j < d.sz := by rw [← hlen]; exact (List.getElem?_eq_some_iff.1 hu).1
      have := hcell j hj
      rw [Go.Deep.add_add] at this
      rw [this]; exact hu)
    subst hln
    refine ⟨some a, cap, l, rfl, hl, ⟨rfl, hM, fun _ => ⟨a, rfl, fun j p hp => (hq j p hp).2⟩⟩, hM, fun y hy => ?_⟩
    obtain ⟨i, hi, rfl⟩ := List.getElem_of_mem hy
    exact (hq i _ (List.getElem?_eq_getElem hi)).1

theorem opens_slice {α : Type} {d : Kd α} {P : Program} {t e : TypeId} {wf : α → Prop} (ht : P.underlying t = some (.slice e)) (hc : P.cellsOf t = 1) (he : Opens d P e wf) :
    Opens (Kd.slice e d) P t (fun l => l.length ≤ 9223372036854775807 ∧ ∀ x ∈ l, wf x) := by
  refine ⟨hc, fun H enc W base spare held fuel cs x h => ?_⟩
  obtain ⟨a, c, l, rfl, hl, hC, hm, hw⟩ := opens_rows ht he h
  exact ⟨l, ⟨a, c, rfl, hl, hC⟩, hm, hw⟩

theorem take_drop_len {α : Type} {cs : List α} {a b n : Nat} (h : cs.length = n) (hab : a + b ≤ n) : ((cs.drop a).take b).length = b := by
  rw [List.length_take, List.length_drop]; omega

theorem opens_struct3 {α β γ δ : Type} {d0 : Kd α} {d1 : Kd β} {d2 : Kd γ} {P : Program} {t : TypeId} {f0 f1 f2 : Field} {w0 : α → Prop} {w1 : β → Prop} {w2 : γ → Prop} (f : δ → α × β × γ) (g : α × β × γ → δ) (hg : ∀ x, f (g x) = x)
    (ht : P.underlying t = some (.struct #[f0, f1, f2])) (h0 : Opens d0 P f0.type w0) (h1 : Opens d1 P f1.type w1) (h2 : Opens d2 P f2.type w2)
    (ho : f0.offset = 0 ∧ f1.offset = d0.sz ∧ f2.offset = d0.sz + d1.sz) (hc : P.cellsOf t = d0.sz + (d1.sz + d2.sz)) :
    Opens (Kd.iso (Kd.pair d0 (Kd.pair d1 d2)) f) P t (fun x => w0 (f x).1 ∧ w1 (f x).2.1 ∧ w2 (f x).2.2) := by
  refine ⟨hc, fun H enc W base spare held fuel cs x h => ?_⟩
  obtain ⟨y0, y1, y2, n, _, hl, e0, e1, e2⟩ := Go.Deep.trod_struct3 ht h
  obtain ⟨o0, o1, o2⟩ := ho
  rw [h0.1, o0] at e0; rw [h1.1, o1] at e1; rw [h2.1, o2] at e2; rw [hc] at hl
  obtain ⟨z0, k0, q0⟩ := h0.2 H enc W base spare held n _ _ e0
  obtain ⟨z1, k1, q1⟩ := h1.2 H enc W base spare held n _ _ e1
  obtain ⟨z2, k2, q2⟩ := h2.2 H enc W base spare held n _ _ e2
  have hcs : cs = (cs.drop 0).take d0.sz ++ ((cs.drop d0.sz).take d1.sz ++ (cs.drop (d0.sz + d1.sz)).take d2.sz) := by
    rw [List.drop_zero]
    have a1 : (cs.drop (d0.sz + d1.sz)).take d2.sz = cs.drop (d0.sz + d1.sz) := List.take_of_length_le (by rw [List.length_drop]; omega)
    rw [a1, ← List.drop_drop, List.take_append_drop, List.take_append_drop]
  refine ⟨g (z0, z1, z2), ?_, ?_⟩
  · show (Kd.pair d0 (Kd.pair d1 d2)).K W (f (g (z0, z1, z2))) cs
    rw [hg]
    exact ⟨_, _, hcs, k0, _, _, rfl, k1, k2⟩
  · simp only [hg]; exact ⟨q0, q1, q2⟩

/-- What an argument that is a slice reads as. -/
def IsRows {α : Type} (d : Kd α) (wf : α → Prop) (w : World) (a : Option Addr) (len cap : Nat) (l : List α) : Prop :=
  l.length = len ∧ len ≤ cap ∧ d.C w a len l ∧ len ≤ 9223372036854775807 ∧ ∀ y ∈ l, wf y
theorem rows_of {α : Type} {d : Kd α} {P : Program} {t e : TypeId} {wf : α → Prop} (ht : P.underlying t = some (.slice e)) (he : Opens d P e wf)
    {H : Type} {enc : TypeId × Value → H} {W : World} {base : Nat} {spare : Nat → Bool} {held : Bool} {a : Option Addr} {len cap : Nat} {D : DataW H} {ps : List MemPlace}
    (h : DataW.Trod enc P W base spare held t (.slice a len cap) D ps) : ∃ l, IsRows d wf W a len cap l := by
  obtain ⟨fuel, hf⟩ := h
  obtain ⟨a', c, l, hcs, hl, hC, hm, hw⟩ := opens_rows ht he hf
  simp [Value.cells] at hcs
  obtain ⟨rfl, rfl, rfl⟩ := hcs
  exact ⟨l, rfl, hl, hC, hm, hw⟩
/-- What an argument that is a struct of three cells reads as. -/
def IsAgg3 {α : Type} (d : Kd α) (wf : α → Prop) (v : Value) (x : α) : Prop := wf x ∧ ∃ v0 v1 v2, v = .agg #[v0, v1, v2] ∧ ∀ w, d.K w x [v0, v1, v2]

end Go.Proofs.Ytoagljlnfakgjaa.Read
