import Derived.Test.YtligjkjogaobnaaPFnExactCopiesOkx12
namespace Go.Proofs.Ytligjkjogaobnaa.PFnExactCopiesOk
open Go.RowKit Go.Proofs.YtligjkjogaobnaaW.PrintWords Go.Proofs.YtligjkjogaobnaaW.PrintLast
set_option linter.unusedVariables false
/-! #### struct type 93 -/
structure S93 where
  f0 : (List S208)
def z93 : S93 := ⟨([] : List S208)⟩
def k93 : Kd S93 := Kd.iso (Kd.slice 208 k208) (fun x : S93 => x.f0)
theorem k93_open {w : World} {x : S93} {cs : List Value} (h : k93.K w x cs) : ∃ A0 c0, cs = [.slice A0 x.f0.length c0] ∧ x.f0.length ≤ c0 ∧ k208.C w A0 x.f0.length x.f0 := by
  obtain ⟨A0, c0, rfl, l0, g0⟩ := h
  exact ⟨A0, c0, rfl, l0, g0⟩
theorem k93_openM {w : World} {base : Nat} {ok : Nat → Prop} {x : S93} {cs : List Value} (h : k93.M w base ok x cs) : ∃ v0, cs = [v0] ∧ k208.R 208 w base ok v0 x.f0 := by
  obtain ⟨v0, rfl, g0⟩ := h
  exact ⟨v0, rfl, g0⟩
theorem k93_mk (w : World) (x : S93) {A0 : Option Addr} {c0 : Nat} (l0 : x.f0.length ≤ c0) (g0 : k208.C w A0 x.f0.length x.f0) : k93.K w x [.slice A0 x.f0.length c0] := ⟨A0, c0, rfl, l0, g0⟩
theorem k93_mkM (w : World) (base : Nat) (ok : Nat → Prop) (x : S93) {v0 : Value} (g0 : k208.R 208 w base ok v0 x.f0) : k93.M w base ok x [v0] := ⟨v0, rfl, g0⟩
def rd_T93 (xs : List S93) (i : Int) : S93 := xs.getD i.toNat z93
theorem at_T93 {w : World} {A : Option Addr} {n : Nat} {xs : List S93} (h : Kd.C k93 w A n xs) (i : Int) (h0 : 0 ≤ i) (h1 : i < n) : ∃ ad A0 c0, A = some ad ∧ w.cell? (ad.add i.toNat) = some (.slice A0 (rd_T93 xs i).f0.length c0) ∧ (rd_T93 xs i).f0.length ≤ c0 ∧ k208.C w A0 (rd_T93 xs i).f0.length (rd_T93 xs i).f0 := by
  obtain ⟨ad, c, e, _, hK, hc0⟩ := Kd.C_get h z93 i h0 h1
  have hc : ∀ j u, c[j]? = some u → w.cell? (ad.add (i.toNat * 1 + j)) = some u := hc0
  obtain ⟨A0, c0, rfl, l0, g0⟩ := k93_open hK
  exact ⟨ad, A0, c0, e, by have hq := hc 0 _ rfl; rwa [Nat.mul_one, Nat.add_zero] at hq, l0, g0⟩
def G250 (x : S250) : Prop := (Lit.int .i64 x.f0).wf = true ∧ (Lit.int .i64 x.f1).wf = true ∧ x.f2.size ≤ maxLen ∧ x.f3.size ≤ maxLen
def G252 (x : S252) : Prop := x.f0.size ≤ maxLen ∧ x.f1.size ≤ maxLen
def G271 (x : S271) : Prop := (Lit.int .i64 x.f0).wf = true ∧ (Lit.int .i64 x.f1).wf = true
def G256 (x : S256) : Prop := x.f0.size ≤ maxLen ∧ (Lit.int .i64 x.f1).wf = true ∧ (x.f2.length ≤ maxLen ∧ ∀ y ∈ x.f2, y.size ≤ maxLen) ∧ x.f3.size ≤ maxLen ∧ (Lit.int .i64 x.f4).wf = true ∧ (x.f5.length ≤ maxLen ∧ ∀ y ∈ x.f5, G271 y)
def G208 (x : S208) : Prop := x.f0.size ≤ maxLen ∧ (Lit.int .i64 x.f1).wf = true ∧ (x.f2.length ≤ maxLen ∧ ∀ y ∈ x.f2, G250 y) ∧ (x.f3.length ≤ maxLen ∧ ∀ y ∈ x.f3, G252 y) ∧ (x.f4.length ≤ maxLen ∧ ∀ y ∈ x.f4, G256 y)
def G93 (x : S93) : Prop := (x.f0.length ≤ maxLen ∧ ∀ y ∈ x.f0, G208 y)
def G48 (x : S48) : Prop := True ∧ (Lit.int .i64 x.f1).wf = true
def G141 (x : S141) : Prop := (Lit.int .i64 x.f0).wf = true ∧ (Lit.int .i64 x.f1).wf = true ∧ (Lit.int .i64 x.f2).wf = true ∧ True ∧ (x.f4.length ≤ maxLen ∧ ∀ y ∈ x.f4, G48 y) ∧ (x.f5.length ≤ maxLen ∧ ∀ y ∈ x.f5, G48 y)
/-- What is left to prove of FnExactCopiesOk. -/
def laws_FnExactCopiesOk.Pure : Prop := ∀ (y0 : S93) (l1 : List S141), G93 y0 → l1.length ≤ maxLen → (∀ y ∈ l1, G141 y) → ∃ k, laws_FnExactCopiesOk.f k y0.f0 l1 = some true
end Go.Proofs.Ytligjkjogaobnaa.PFnExactCopiesOk
