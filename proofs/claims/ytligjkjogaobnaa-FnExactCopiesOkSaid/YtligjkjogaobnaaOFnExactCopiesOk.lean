/- An argument that can be read as data (structs, slices, strings, whole numbers, bools, nested in whatever way) is given as a value of the printed kinds: what the readers of a row (DataW.trod) tell is what the printed contracts want (Kd.K, Kd.C). -/
import Derived.Test.YtligjkjogaobnaaTFnExactCopiesOkApart
import Derived.Test.YtligjkjogaobnaaTFnExactCopiesOkFoot
import Derived.Test.YtligjkjogaobnaaTFnExactCopiesOkGuard
import Derived.Test.YtligjkjogaobnaaTFnExactCopiesOkInv
import Derived.Test.YtligjkjogaobnaaTFnExactCopiesOkKept
import Derived.Test.YtligjkjogaobnaaTFnExactCopiesOkLast
import Derived.Test.YtligjkjogaobnaaTFnExactCopiesOkMore
import Derived.Test.YtligjkjogaobnaaTFnExactCopiesOkN
import Derived.Test.YtligjkjogaobnaaTFnExactCopiesOkRepsOne
import Derived.Test.YtligjkjogaobnaaTFnExactCopiesOkShare
import Derived.Test.YtligjkjogaobnaaTFnExactCopiesOkTab
import Derived.Test.YtligjkjogaobnaaTFnExactCopiesOkWords
import Derived.ChangeSlices
import Derived.ChangeArms
import Derived.Deep.Slices
import Derived.OpenShut
namespace Go.Proofs.YtligjkjogaobnaaO
open Go.ChangeShapes Go.WideShapes Go.Proofs.YtligjkjogaobnaaW.PrintWords

/-- Whatever reads as data of type t is of the kind 'd', and fulfils 'G'. -/
def Opens (P : Program) {α : Type} (d : Kd α) (t : TypeId) (G : α → Prop) : Prop :=
  ∀ (H : Type) (enc : TypeId × Value → H) (W : World) (base : Nat) (spare : Nat → Bool) (held : Bool) (fuel : Nat) (cs : List Value) (x : DataW H × List MemPlace),
    DataW.trod enc P W base spare held fuel t cs = some x → ∃ y : α, d.K W y cs ∧ G y

/-- The same of a row of fields in line. -/
def OpensF (P : Program) {α : Type} (d : Kd α) (fs : List Field) (off : Nat) (G : α → Prop) : Prop :=
  ∀ (H : Type) (enc : TypeId × Value → H) (W : World) (base : Nat) (spare : Nat → Bool) (held : Bool) (fuel : Nat) (cs : List Value) (xs : List (DataW H × List MemPlace)),
    cs.length = off + d.sz →
    (∀ (i : Nat) (f : Field), fs[i]? = some f → DataW.trod enc P W base spare held fuel f.type ((cs.drop f.offset).take (P.cellsOf f.type)) = xs[i]?) →
    fs.length ≤ xs.length → ∃ y : α, d.K W y (cs.drop off) ∧ G y

theorem opens_int {P : Program} {t : TypeId} {k : IntKind} (h : P.underlying t = some (.int k)) : Opens P (Kd.int k) t (fun n => (Lit.int k n).wf = true) := by
  intro H enc W base spare held fuel cs x hx
  obtain ⟨n, rfl, _, hw⟩ := DataW.trod_int h hx
  exact ⟨n, rfl, hw⟩
theorem opens_bool {P : Program} {t : TypeId} (h : P.underlying t = some .bool) : Opens P Kd.bool t (fun _ => True) := by
  intro H enc W base spare held fuel cs x hx
  obtain ⟨n, rfl, _⟩ := DataW.trod_bool h hx
  exact ⟨n, rfl, trivial⟩
theorem opens_string {P : Program} {t : TypeId} (h : P.underlying t = some .string) : Opens P Kd.string t (fun s => s.size ≤ maxLen) := by
  intro H enc W base spare held fuel cs x hx
  obtain ⟨n, rfl, _, hm⟩ := DataW.trod_string h hx
  exact ⟨n, rfl, hm⟩

theorem cells_get {w : World} {base : Nat} {a : Addr} {n : Nat} {cs : List Value} (h : w.cells? base a n = some cs) : cs.length = n ∧ ∀ i u, cs[i]? = some u → w.cell? (a.add i) = some u := by
  have hl : cs.length = n := by
    unfold World.cells? at h
    split at h
    · have := mapM_some_length h
      simpa using this
    · cases h
  refine ⟨hl, fun i u hu => ?_⟩
  have hi : i < n := by
    rw [← hl]
    exact (List.getElem?_eq_some_iff.1 hu).1
  unfold World.cells? at h
  split at h
  · have := mapM_some_get h i i (by simp [hi])
    rw [this]; exact hu
  · cases h

theorem opens_slice {P : Program} {α : Type} {d : Kd α} {t e : TypeId} {G : α → Prop} (ht : P.underlying t = some (.slice e)) (hc : P.cellsOf e = d.sz) (he : Opens P d e G) (q : Nat) :
    Opens P (Kd.slice q d) t (fun xs => xs.length ≤ maxLen ∧ ∀ x ∈ xs, G x) := by
  intro H enc W base spare held fuel cs x hx
  rcases Go.Deep.open_slice ht hx with ⟨rfl, _⟩ | ⟨a, len, cap, m, n, D, Pl, rfl, _, hl, hm, hmm, _, hel⟩
  · exact ⟨[], ⟨none, 0, rfl, Nat.le_refl _, rfl, by simp, fun h => absurd h (by simp)⟩, by simp, by simp⟩
  · have hlm : len ≤ m := by rw [hmm]; split <;> omega
    have key : ∀ i, i < len → ∃ y : α, (∃ c, c.length = d.sz ∧ d.K W y c ∧ ∀ j u, c[j]? = some u → W.cell? (a.add (i * d.sz + j)) = some u) ∧ G y := by
      intro i hi
      obtain ⟨cs', h1, h2⟩ := hel i (by omega)
      obtain ⟨y, hy, hg⟩ := he H enc W base spare held n cs' _ h2
      obtain ⟨hl', hcell⟩ := cells_get h1
      refine ⟨y, ⟨cs', by rw [hl', hc], hy, fun j u hu => ?_⟩, hg⟩
      have := hcell j u hu
      rw [Go.Deep.add_add, hc] at this
      exact this
    have hz : ∃ xs : List α, xs.length = len ∧ ∀ (i : Nat) (y : α), xs[i]? = some y → (∃ c, c.length = d.sz ∧ d.K W y c ∧ ∀ j u, c[j]? = some u → W.cell? (a.add (i * d.sz + j)) = some u) ∧ G y := by
      have : ∀ n, n ≤ len → ∃ xs : List α, xs.length = n ∧ ∀ (i : Nat) (y : α), xs[i]? = some y → (∃ c, c.length = d.sz ∧ d.K W y c ∧ ∀ j u, c[j]? = some u → W.cell? (a.add (i * d.sz + j)) = some u) ∧ G y := by
        intro n
        induction n with
        | zero => exact fun _ => ⟨[], rfl, fun i y h => by simp at h⟩
        | succ n ih =>
          intro hn
          obtain ⟨xs, hxl, hxs⟩ := ih (by omega)
          obtain ⟨y, hy⟩ := key n (by omega)
          refine ⟨xs ++ [y], by simp [hxl], fun i z hz => ?_⟩
          by_cases hi : i < xs.length
          · rw [List.getElem?_append_left hi] at hz
            exact hxs i z hz
          · rw [List.getElem?_append_right (by omega)] at hz
            have hi' : i - xs.length = 0 := by
              have := (List.getElem?_eq_some_iff.1 hz).1
              simp at this
              omega
            rw [hi'] at hz
            simp at hz
            subst hz
            have : i = n := by omega
            subst this
            exact hy
      exact this len (Nat.le_refl _)
    obtain ⟨xs, rfl, hxs⟩ := hz
    refine ⟨xs, ⟨some a, cap, rfl, hl, rfl, by unfold maxLen at hm; omega, fun _ => ⟨a, rfl, fun j p hp => (hxs j p hp).1⟩⟩, by omega, fun y hy => ?_⟩
    obtain ⟨i, hi⟩ := List.mem_iff_getElem?.1 hy
    exact (hxs i y hi).2

theorem opensF_one {P : Program} {α : Type} {d : Kd α} {f : Field} {off : Nat} {G : α → Prop} (ho : f.offset = off) (hc : P.cellsOf f.type = d.sz) (h : Opens P d f.type G) : OpensF P d [f] off G := by
  intro H enc W base spare held fuel cs xs hl hx hn
  have h0 := hx 0 f rfl
  obtain ⟨x, hx0⟩ : ∃ x, xs[0]? = some x := ⟨xs[0]'(by simp at hn; omega), List.getElem?_eq_getElem _⟩
  rw [hx0, ho, hc, List.take_of_length_le (by simp; omega)] at h0
  exact h H enc W base spare held fuel _ x h0

theorem opensF_cons {P : Program} {α β : Type} {d : Kd α} {d' : Kd β} {f : Field} {fs : List Field} {off : Nat} {G : α → Prop} {G' : β → Prop} (ho : f.offset = off) (hc : P.cellsOf f.type = d.sz) (h : Opens P d f.type G) (h' : OpensF P d' fs (off + d.sz) G') :
    OpensF P (Kd.pair d d') (f :: fs) off (fun x => G x.1 ∧ G' x.2) := by
  intro H enc W base spare held fuel cs xs hl hx hn
  have hl' : cs.length = off + (d.sz + d'.sz) := hl
  have h0 := hx 0 f rfl
  obtain ⟨x, hx0⟩ : ∃ x, xs[0]? = some x := ⟨xs[0]'(by simp at hn; omega), List.getElem?_eq_getElem _⟩
  rw [hx0, ho, hc] at h0
  obtain ⟨y, hy, hg⟩ := h H enc W base spare held fuel _ x h0
  obtain ⟨y', hy', hg'⟩ := h' H enc W base spare held fuel cs (xs.drop 1) (by omega) (fun i g hi => by
    have := hx (i + 1) g (by simpa using hi)
    rw [this, List.getElem?_drop, Nat.add_comm 1 i]) (by simp at hn ⊢; omega)
  refine ⟨(y, y'), ⟨_, _, ?_, hy, hy'⟩, hg, hg'⟩
  have e : cs.drop (off + d.sz) = (cs.drop off).drop d.sz := by rw [List.drop_drop]
  rw [e, List.take_append_drop]

theorem opens_struct {P : Program} {α : Type} {d : Kd α} {t : TypeId} {fs : Array Field} {G : α → Prop} (ht : P.underlying t = some (.struct fs)) (hc : P.cellsOf t = d.sz) (h : OpensF P d fs.toList 0 G) : Opens P d t G := by
  intro H enc W base spare held fuel cs x hx
  obtain ⟨xs, n, rfl, _, hl, hxl, hf⟩ := DataW.trod_struct ht hx
  obtain ⟨y, hy, hg⟩ := h H enc W base spare held n cs xs (by omega) (fun i f hi => hf i f (by simpa using hi)) (by simpa using Nat.le_of_eq hxl.symm)
  exact ⟨y, by simpa using hy, hg⟩

theorem opens_iso {P : Program} {α β : Type} {d : Kd α} {t : TypeId} {G : α → Prop} {G' : β → Prop} (f : β → α) (g : α → β) (hfg : ∀ a, f (g a) = a) (h : Opens P d t G) (hG : ∀ a, G a → G' (g a)) : Opens P (Kd.iso d f) t G' := by
  intro H enc W base spare held fuel cs x hx
  obtain ⟨y, hy, hg⟩ := h H enc W base spare held fuel cs x hx
  refine ⟨g y, ?_, hG y hg⟩
  show d.K W (f (g y)) cs
  rw [hfg]
  exact hy

/-- A slice that comes as an argument. -/
theorem opens_arg_slice {P : Program} {α : Type} {d : Kd α} {t e : TypeId} {G : α → Prop} {q : Nat} (h : Opens P (Kd.slice q d) t (fun xs => xs.length ≤ maxLen ∧ ∀ x ∈ xs, G x)) (_ht : P.underlying t = some (.slice e))
    {H : Type} {enc : TypeId × Value → H} {W : World} {base : Nat} {spare : Nat → Bool} {held : Bool} {a : Option Addr} {len cap : Nat} {x : DataW H} {ps : List MemPlace}
    (hx : DataW.Trod enc P W base spare held t (.slice a len cap) x ps) : ∃ l : List α, len = l.length ∧ l.length ≤ cap ∧ Kd.C d W a l.length l ∧ l.length ≤ maxLen ∧ ∀ y ∈ l, G y := by
  obtain ⟨fuel, hf⟩ := hx
  obtain ⟨l, ⟨A, c, he, hl, hC⟩, hm, hg⟩ := h H enc W base spare held fuel _ _ hf
  have he' : [Value.slice a len cap] = [.slice A l.length c] := by simpa [Value.cells] using he
  simp only [List.cons.injEq, Value.slice.injEq, and_true] at he'
  obtain ⟨rfl, rfl, rfl⟩ := he'
  exact ⟨l, rfl, hl, hC, hm, hg⟩

/-- A struct that comes as an argument. -/
theorem opens_arg_struct {P : Program} {α : Type} {d : Kd α} {t : TypeId} {fs : Array Field} {G : α → Prop} (h : Opens P d t G) (ht : P.underlying t = some (.struct fs))
    {H : Type} {enc : TypeId × Value → H} {W : World} {r : Reach} {base base' : Nat} {spare : Nat → Bool} {held : Bool} {v : Value} {x : DataW H} {ps : List MemPlace}
    (hv : Value.okWide P W r base' t v) (hx : DataW.Trod enc P W base spare held t v x ps) : ∃ (y : α) (cs : List Value), v = .agg cs.toArray ∧ d.K W y cs ∧ G y := by
  unfold Value.okWide at hv
  rw [ht] at hv
  obtain ⟨cs, rfl, _, _⟩ := hv
  obtain ⟨fuel, hf⟩ := hx
  obtain ⟨y, hy, hg⟩ := h H enc W base spare held fuel _ _ hf
  exact ⟨y, cs.toList, by simp, by simpa [Value.cells] using hy, hg⟩
end Go.Proofs.YtligjkjogaobnaaO
