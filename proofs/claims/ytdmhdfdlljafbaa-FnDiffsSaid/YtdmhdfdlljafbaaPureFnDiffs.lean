/- What is left of the law FnDiffs: over lists and numbers alone. No condition beyond the statement's own. -/
import Derived.Test.YtdmhdfdlljafbaaPFnDiffsx
import Derived.Test.YtdmhdfdlljafbaaV
namespace Go.Proofs.Ytdmhdfdlljafbaa.PFnDiffs
open Go.RowKit Go.Proofs.YtdmhdfdlljafbaaW.PrintWords Go.Proofs.YtdmhdfdlljafbaaW.PrintLast Go.Proofs.YtdmhdfdlljafbaaW.PrintMore Go.Proofs.YtdmhdfdlljafbaaV
set_option linter.unusedVariables false
set_option linter.unusedSimpArgs false
theorem rd132 {l : List S132} {i : Nat} (h : i < l.length) : rd_T132 l (i : Int) = l[i] := by
  unfold rd_T132
  simp [List.getD, List.getElem?_eq_getElem h]
theorem rds132 {l : List S132} {i : Nat} (h : i < l.length) (v : S132) : rd_T132 (l.set i v) (i : Int) = v := by
  unfold rd_T132
  simp [List.getD, h]

theorem rd134 {l : List S134} {i : Nat} (h : i < l.length) : rd_T134 l (i : Int) = l[i] := by
  unfold rd_T134
  simp [List.getD, List.getElem?_eq_getElem h]
theorem rds134 {l : List S134} {i : Nat} (h : i < l.length) (v : S134) : rd_T134 (l.set i v) (i : Int) = v := by
  unfold rd_T134
  simp [List.getD, h]

theorem ev_spec_l1New (xs : List Int) (hl : xs.length ≤ 1048576) : EvP (fun k => spec_l1New.f k xs) (fun r => r.1 = xs ∧ Cur xs r.2.1) := by
  unfold spec_l1New.f
  have key : ∀ i, i ≤ xs.length → ∀ h : Int, EvP (fun k => spec_l1New.l0 k xs h (i : Int)) (fun r => r.1 = xs ∧ Cur xs r.2.1) := by
    refine down (P := fun i => ∀ h : Int, EvP (fun k => spec_l1New.l0 k xs h (i : Int)) (fun r => r.1 = xs ∧ Cur xs r.2.1)) xs.length ?_ ?_
    · intro h
      refine EvP_succ ?_
      simp only [spec_l1New.l0]
      exact EvP_neg (by omega) (EvP_now ⟨rfl, by show Cur xs 0; unfold Cur; omega⟩)
    · intro i hi ih h
      refine EvP_succ ?_
      simp only [spec_l1New.l0]
      refine EvP_pos (by omega) (EvP_ite (fun _ => EvP_pos (by omega) ?_) (fun _ => EvP_now ⟨rfl, by show Cur xs 0; unfold Cur; omega⟩))
      rw [wr1 hi (by omega)]
      exact ih _
  exact key 0 (Nat.zero_le _) _

theorem so_spec_l1Byte (xs : List Int) (p s : Int) (hc : Cur xs p) : SoP (spec_l1Byte.f xs p s) (fun r => 0 ≤ r.1 ∧ r.1 ≤ 255 ∧ Cur xs r.2.1) := by
  unfold spec_l1Byte.f
  unfold Cur at hc
  refine SoP_ite (fun h => SoP_pos (by omega) (SoP_now ⟨(band255 _).1, (band255 _).2, ?_⟩)) (fun h => SoP_now ⟨(band255 _).1, (band255 _).2, ?_⟩)
  · show Cur xs (wrap64 (p + 1))
    rw [wr (by omega) (by omega)]
    unfold Cur; omega
  · exact hc

theorem so_spec_l1Below (xs : List Int) (p s a : Int) (hc : Cur xs p) (ha : 0 < a) (hb : a ≤ 256) : SoP (spec_l1Below.f xs p s a) (fun r => 0 ≤ r.1 ∧ r.1 < a ∧ Cur xs r.2.1) := by
  unfold spec_l1Below.f
  refine SoP_neg (by omega) (SoP_pos hb (SoP_bind (so_spec_l1Byte xs p s hc) (fun r h => SoP_neg (by omega) (SoP_now ?_))))
  exact ⟨(tmod_range _ _ h.1 ha).1, (tmod_range _ _ h.1 ha).2, h.2.2⟩

theorem so_spec_l1Once (xs : List Int) (p s a : Int) (hc : Cur xs p) (ha : 0 < a) (hb : a ≤ 256) : SoP (spec_l1Once.f xs p s a) (fun r => Cur xs r.2.1) := by
  unfold spec_l1Once.f
  exact SoP_bind (so_spec_l1Below xs p s a hc ha hb) (fun r h => SoP_now h.2.2)

theorem so_spec_l1PickInt (xs : List Int) (p s : Int) (l : List Int) (hc : Cur xs p) (ha : 0 < l.length) (hb : l.length ≤ 256) : SoP (spec_l1PickInt.f xs p s l) (fun r => r.1 ∈ l ∧ Cur xs r.2.1) := by
  unfold spec_l1PickInt.f
  refine SoP_bind (so_spec_l1Below xs p s (l.length : Int) hc (by omega) (by omega)) (fun r h => SoP_pos h.1 (SoP_pos h.2.1 (SoP_now ⟨?_, h.2.2⟩)))
  obtain ⟨n, hn⟩ : ∃ n : Nat, r.1 = (n : Int) := ⟨r.1.toNat, by omega⟩
  show rd l r.1 ∈ l
  rw [hn, rdI (show n < l.length by omega)]
  exact List.getElem_mem _

theorem so_spec_l1DrawWord (xs : List Int) (p s : Int) (hc : Cur xs p) : SoP (spec_l1DrawWord.f xs p s) (fun r => Cur xs r.2.1) := by
  unfold spec_l1DrawWord.f
  exact SoP_bind (so_spec_l1PickInt xs p s _ hc (by decide) (by decide)) (fun r h => SoP_now h.2)

theorem so_spec_l3DrawVal (xs : List Int) (p s : Int) (hc : Cur xs p) : SoP (spec_l3DrawVal.f xs p s) (fun r => Cur xs r.2.2.1) := by
  unfold spec_l3DrawVal.f
  refine SoP_bind (so_spec_l1Once xs p s 3 hc (by omega) (by omega)) (fun r h => SoP_ite (fun _ => ?_) (fun _ => ?_))
  · exact SoP_bind (so_spec_l1PickInt xs _ _ _ h (by decide) (by decide)) (fun r h => SoP_now h.2)
  · exact SoP_bind (so_spec_l1DrawWord xs _ _ h) (fun r h => SoP_now h)

theorem ev_spec_l21DrawVals_j1 (xs : List Int) (p s : Int) (out : List S132) (hc : Cur xs p) (ho : out.length ≤ 100) : EvP (fun k => spec_l21DrawVals.j1 k out xs p s) (fun r => r.1.length ≤ 100 ∧ Cur xs r.2.1) := by
  refine EvP_succ ?_
  simp only [spec_l21DrawVals.j1]
  refine EvP_bindS (so_spec_l1Once xs p s 15 hc (by omega) (by omega)) (fun r h => EvP_ite (fun _ => ?_) (fun _ => EvP_now ⟨ho, h⟩))
  refine EvP_bindS (so_spec_l1Below xs _ _ 2 h (by omega) (by omega)) (fun q hq => ?_)
  obtain ⟨q0, q1, q2⟩ := hq
  rw [wr (x := 8 + q.1) (by omega) (by omega)]
  refine EvP_pos (by omega) (EvP_pos (by omega) (EvP_now ⟨?_, q2⟩))
  show (List.replicate _ _).length ≤ 100
  rw [List.length_replicate]
  omega
theorem ev_spec_l21DrawVals (xs : List Int) (p s : Int) (hc : Cur xs p) : EvP (fun k => spec_l21DrawVals.f k xs p s) (fun r => r.1.length ≤ 100 ∧ Cur xs r.2.1) := by
  unfold spec_l21DrawVals.f
  have key : ∀ i, i ≤ 3 → ∀ (out : List S132) (p s : Int), out.length ≤ i → Cur xs p → EvP (fun k => spec_l21DrawVals.l0 k out (i : Int) xs p s) (fun r => r.1.length ≤ 100 ∧ Cur xs r.2.1) := by
    refine down (P := fun i => ∀ (out : List S132) (p s : Int), out.length ≤ i → Cur xs p → EvP (fun k => spec_l21DrawVals.l0 k out (i : Int) xs p s) (fun r => r.1.length ≤ 100 ∧ Cur xs r.2.1)) 3 ?_ ?_
    · intro out p s ho hc
      refine EvP_succ ?_
      simp only [spec_l21DrawVals.l0]
      refine EvP_neg (by omega) (EvP_bindS (so_spec_l1Once xs p s 9 hc (by omega) (by omega)) (fun r h => EvP_ite (fun _ => ?_) (fun _ => ?_)))
      · refine EvP_bindS (so_spec_l3DrawVal xs _ _ h) (fun q hq => EvP_pos (by omega) ?_)
        exact ev_spec_l21DrawVals_j1 xs _ _ _ hq (by rw [List.length_append]; simp; omega)
      · exact ev_spec_l21DrawVals_j1 xs _ _ _ h (by omega)
    · intro i hi ih out p s ho hc
      refine EvP_succ ?_
      simp only [spec_l21DrawVals.l0]
      refine EvP_pos (by omega) (EvP_bindS (so_spec_l1Below xs p s 3 hc (by omega) (by omega)) (fun r h => EvP_pos (by omega) ?_))
      rw [wr1 hi (by omega)]
      exact ih _ _ _ (by rw [List.length_append]; simp; omega) h.2.2
  exact key 0 (by omega) [] p s (by simp) hc

theorem ev_spec_DrawDiffOf (xs : List Int) (hl : xs.length ≤ 1048576) : EvP (fun k => spec_DrawDiffOf.f k xs) (fun r => r.1.length ≤ 100 ∧ r.2.length ≤ 100) := by
  unfold spec_DrawDiffOf.f
  refine EvP_bind (ev_spec_l1New xs hl) (fun r h => ?_)
  obtain ⟨h1, h2⟩ := h
  rw [h1]
  exact EvP_bind (ev_spec_l21DrawVals xs _ _ h2) (fun q hq => EvP_bind (ev_spec_l21DrawVals xs _ _ hq.2) (fun u hu => EvP_now ⟨hq.1, hu.1⟩))

def vne (a b : S132) : Bool := (!(a.f0 == b.f0) || !(a.f1 == b.f1))
theorem vne_comm (a b : S132) : vne a b = vne b a := by
  unfold vne
  have e1 : (a.f0 == b.f0) = (b.f0 == a.f0) := by rw [Bool.eq_iff_iff, beq_iff_eq, beq_iff_eq]; exact eq_comm
  have e2 : (a.f1 == b.f1) = (b.f1 == a.f1) := by rw [Bool.eq_iff_iff, beq_iff_eq, beq_iff_eq]; exact eq_comm
  rw [e1, e2]
theorem vne_self (a : S132) : vne a a = false := by simp [vne]
theorem vne_eq {a b : S132} (h : vne a b = false) : a = b := by
  cases a; cases b
  simpa [vne] using h
def diffGo (i : Int) (a b : List S132) : List S134 := match a, b with
  | x :: xs, y :: ys => if vne x y = true then (⟨i, y⟩ : S134) :: diffGo (i + 1) xs ys else diffGo (i + 1) xs ys
  | _, _ => []
def diffOf (a b : List S132) : List S134 := if a.length = b.length ∧ a.length ≤ 8 then diffGo 0 a b else []
theorem diffGo_length (i : Int) (a b : List S132) : (diffGo i a b).length ≤ a.length := by
  induction a generalizing i b with
  | nil => simp [diffGo]
  | cons x xs ih =>
    cases b with
    | nil => simp [diffGo]
    | cons y ys =>
      have := ih (i + 1) ys
      unfold diffGo
      split <;> simp <;> omega
theorem diffOf_length (a b : List S132) : (diffOf a b).length ≤ 8 := by
  unfold diffOf
  split
  · have := diffGo_length 0 a b; omega
  · simp
theorem diffGo_self (i : Int) (a : List S132) : diffGo i a a = [] := by
  induction a generalizing i with
  | nil => rfl
  | cons x xs ih => unfold diffGo; rw [vne_self]; simpa using ih (i + 1)

theorem ev_impl_DiffOf (a b : List S132) (ha : a.length ≤ 2000000000) (hb : b.length ≤ 2000000000) : Ev (fun k => impl_DiffOf.f k a b) (diffOf a b) := by
  unfold impl_DiffOf.f diffOf
  by_cases c : a.length = b.length ∧ a.length ≤ 8
  · rw [if_pos c]
    have key : ∀ i, i ≤ b.length → ∀ out : List S134, out.length ≤ i → Ev (fun k => impl_DiffOf.l0 k a out b (b.length : Int) (i : Int)) (out ++ diffGo (i : Int) (a.drop i) (b.drop i)) := by
      refine down (P := fun i => ∀ out : List S134, out.length ≤ i → Ev (fun k => impl_DiffOf.l0 k a out b (b.length : Int) (i : Int)) (out ++ diffGo (i : Int) (a.drop i) (b.drop i))) b.length ?_ ?_
      · intro out ho
        refine Ev_succ ?_
        simp only [impl_DiffOf.l0]
        refine Ev_neg (by omega) ?_
        rw [List.drop_of_length_le (show a.length ≤ b.length by omega)]
        simp only [diffGo, List.append_nil]
        exact Ev.now _
      · intro i hi' ih out ho
        have hi : i < a.length := by omega
        refine Ev_succ ?_
        simp only [impl_DiffOf.l0]
        refine Ev_pos (by omega) (Ev_pos (by omega) (Ev_pos (by omega) (Ev_pos (by omega) ?_)))
        rw [List.drop_eq_getElem_cons hi, List.drop_eq_getElem_cons hi', rd132 hi, rd132 hi', wr1 hi (by omega), diffGo, vne_comm]
        refine Ev_ite (fun h => ?_) (fun h => ?_)
        · rw [if_pos (show vne b[i] a[i] = true from h)]
          refine Ev_pos (by omega) ?_
          have := ih (out ++ [(⟨(i : Int), b[i]⟩ : S134)]) (by simp; omega)
          rw [List.append_assoc] at this
          exact this
        · rw [if_neg (show ¬ vne b[i] a[i] = true from h)]
          exact ih out (by omega)
    refine Ev_pos (by omega) (Ev_succ ?_)
    simp only [impl_DiffOf.j0]
    refine Ev_neg (by simp; omega) ?_
    have := key 0 (Nat.zero_le _) [] (by simp)
    simpa using this
  · rw [if_neg c]
    refine Ev_ite (fun h => Ev_succ ?_) (fun h => Ev_succ ?_)
    · simp only [impl_DiffOf.j0]
      exact Ev_pos (decide_eq_true (by omega)) (Ev.now _)
    · simp only [impl_DiffOf.j0]
      exact Ev_pos (by simp) (Ev.now _)

theorem ev_spec_l3DrawCells (xs : List Int) (p s : Int) (hc : Cur xs p) : EvP (fun k => spec_l3DrawCells.f k xs p s) (fun r => r.1.length ≤ 4 ∧ Cur xs r.2.1) := by
  unfold spec_l3DrawCells.f
  have key : ∀ i, i ≤ 4 → ∀ (out : List S134) (p s : Int), out.length ≤ i → Cur xs p → EvP (fun k => spec_l3DrawCells.l0 k out (i : Int) xs p s) (fun r => r.1.length ≤ 4 ∧ Cur xs r.2.1) := by
    refine down (P := fun i => ∀ (out : List S134) (p s : Int), out.length ≤ i → Cur xs p → EvP (fun k => spec_l3DrawCells.l0 k out (i : Int) xs p s) (fun r => r.1.length ≤ 4 ∧ Cur xs r.2.1)) 4 ?_ ?_
    · intro out p s ho hc
      refine EvP_succ ?_
      simp only [spec_l3DrawCells.l0]
      exact EvP_neg (by omega) (EvP_now ⟨ho, hc⟩)
    · intro i hi ih out p s ho hc
      refine EvP_succ ?_
      simp only [spec_l3DrawCells.l0]
      rw [wr1 hi (by omega)]
      refine EvP_pos (by omega) (EvP_bindS (so_spec_l1Once xs p s 2 hc (by omega) (by omega)) (fun r h => EvP_ite (fun _ => ?_) (fun _ => ih _ _ _ (by omega) h)))
      refine EvP_bindS (so_spec_l3DrawVal xs _ _ h) (fun q hq => EvP_pos (by omega) ?_)
      exact ih _ _ _ (by rw [List.length_append]; simp; omega) hq
  exact key 0 (by omega) [] p s (by simp) hc

theorem ev_spec_l21DrawCells (xs : List Int) (p s : Int) (hc : Cur xs p) : EvP (fun k => spec_l21DrawCells.f k xs p s) (fun r => r.1.length ≤ 5 ∧ Cur xs r.2.1) := by
  unfold spec_l21DrawCells.f
  refine EvP_bind (ev_spec_l3DrawCells xs p s hc) (fun r h => EvP_bindS (so_spec_l1Once xs _ _ 6 h.2 (by omega) (by omega)) (fun q hq => EvP_ite (fun _ => ?_) (fun _ => EvP_now ⟨by have := h.1; show r.1.length ≤ 5; omega, hq⟩)))
  refine EvP_bindS (so_spec_l1PickInt xs _ _ _ hq (by decide) (by decide)) (fun u hu => EvP_pos (by have := h.1; omega) (EvP_now ⟨?_, hu.2⟩))
  have := h.1
  show (r.1 ++ _).length ≤ 5
  rw [List.length_append]; simp; omega

theorem ev_spec_DrawPatch (xs : List Int) (hl : xs.length ≤ 1048576) : EvP (fun k => spec_DrawPatch.f k xs) (fun r => r.1.length ≤ 100 ∧ r.2.length ≤ 5) := by
  unfold spec_DrawPatch.f
  refine EvP_bind (ev_spec_l1New xs hl) (fun r h => ?_)
  obtain ⟨h1, h2⟩ := h
  rw [h1]
  exact EvP_bind (ev_spec_l21DrawVals xs _ _ h2) (fun q hq => EvP_bind (ev_spec_l21DrawCells xs _ _ hq.2) (fun u hu => EvP_now ⟨hq.1, hu.1⟩))

theorem ev_spec_DrawApart (xs : List Int) (hl : xs.length ≤ 1048576) : EvP (fun k => spec_DrawApart.f k xs) (fun r => r.1.length ≤ 5 ∧ r.2.length ≤ 5) := by
  unfold spec_DrawApart.f
  refine EvP_bind (ev_spec_l1New xs hl) (fun r h => ?_)
  obtain ⟨h1, h2⟩ := h
  rw [h1]
  exact EvP_bind (ev_spec_l21DrawCells xs _ _ h2) (fun q hq => EvP_bind (ev_spec_l21DrawCells xs _ _ hq.2) (fun u hu => EvP_now ⟨hq.1, hu.1⟩))

def apart (a b : List S134) : Bool := a.all fun c => b.all fun d => !(decide (c.f0 = d.f0))

theorem ev_impl_Apart (a b : List S134) (ha : a.length ≤ 2000000000) (hb : b.length ≤ 2000000000) : Ev (fun k => impl_Apart.f k a b) (apart a b) := by
  unfold impl_Apart.f
  have inner : ∀ (i : Nat) (hi : i < a.length) (r : Bool), ((b.all fun d => !(decide (a[i].f0 = d.f0))) = true → Ev (fun k => impl_Apart.l0 k b a (a.length : Int) ((i + 1 : Nat) : Int)) r) → ((b.all fun d => !(decide (a[i].f0 = d.f0))) = false → r = false) →
      ∀ j, j ≤ b.length → ((b.take j).all fun d => !(decide (a[i].f0 = d.f0))) = true → Ev (fun k => impl_Apart.l1 k b a (a.length : Int) (i : Int) b (b.length : Int) (j : Int) a[i].f0 a[i].f1.f0 a[i].f1.f1) r := by
    intro i hi r ht hf
    refine down (P := fun j => ((b.take j).all fun d => !(decide (a[i].f0 = d.f0))) = true → Ev (fun k => impl_Apart.l1 k b a (a.length : Int) (i : Int) b (b.length : Int) (j : Int) a[i].f0 a[i].f1.f0 a[i].f1.f1) r) b.length ?_ ?_
    · intro h
      rw [List.take_length] at h
      refine Ev_succ ?_
      simp only [impl_Apart.l1]
      refine Ev_neg (by omega) ?_
      rw [wr1 hi (by omega)]
      exact ht h
    · intro j hj ih h
      refine Ev_succ ?_
      simp only [impl_Apart.l1]
      refine Ev_pos (by omega) (Ev_pos (by omega) (Ev_pos (by omega) ?_))
      rw [rd134 hj, wr1 hj (by omega)]
      refine Ev_ite (fun he => ?_) (fun he => ?_)
      · refine Ev_eq (hf ?_).symm
        rw [← Bool.not_eq_true, List.all_eq_true]
        intro hall
        have := hall _ (List.getElem_mem hj)
        simp [he] at this
      · refine ih ?_
        rw [List.take_succ_eq_append_getElem hj, List.all_append, h]
        simp [he]
  have := evAllL (fun k i => impl_Apart.l0 k b a (a.length : Int) i) a (fun c => b.all fun d => !(decide (c.f0 = d.f0))) true ?_ (fun i hi r ht hf => ?_)
  · simpa [apart] using this
  · refine Ev_succ ?_
    simp only [impl_Apart.l0]
    exact Ev_neg (by omega) (Ev.now _)
  · refine Ev_succ ?_
    simp only [impl_Apart.l0]
    refine Ev_pos (by omega) (Ev_pos (by omega) (Ev_pos (by omega) ?_))
    rw [rd134 hi]
    exact inner i hi r ht hf 0 (Nat.zero_le _) (by simp)

theorem ev_sameCells (l : List S134) (hl : l.length ≤ 2000000000) : Ev (fun k => laws_sameCells.f k l l) true := by
  unfold laws_sameCells.f
  refine Ev_pos rfl ?_
  refine down (P := fun i => Ev (fun k => laws_sameCells.l0 k l l (i : Int)) true) l.length ?_ ?_ 0 (Nat.zero_le _)
  · refine Ev_succ ?_
    simp only [laws_sameCells.l0]
    exact Ev_neg (by omega) (Ev.now _)
  · intro i hi ih
    refine Ev_succ ?_
    simp only [laws_sameCells.l0]
    refine Ev_pos (by omega) (Ev_pos (by omega) (Ev_pos (by omega) (Ev_neg (by simp) ?_)))
    rw [wr1 hi (by omega)]
    exact ih

theorem ev_spec_DiffOf (a b : List S132) (ha : a.length ≤ 2000000000) (hb : b.length ≤ 2000000000) : Ev (fun k => spec_DiffOf.f k a b) (diffOf a b) := by
  unfold spec_DiffOf.f diffOf
  by_cases c : a.length = b.length ∧ a.length ≤ 8
  · rw [if_pos c]
    have key : ∀ i, i ≤ a.length → ∀ out : List S134, out.length ≤ i → Ev (fun k => spec_DiffOf.l0 k a b out (i : Int)) (out ++ diffGo (i : Int) (a.drop i) (b.drop i)) := by
      refine down (P := fun i => ∀ out : List S134, out.length ≤ i → Ev (fun k => spec_DiffOf.l0 k a b out (i : Int)) (out ++ diffGo (i : Int) (a.drop i) (b.drop i))) a.length ?_ ?_
      · intro out ho
        refine Ev_succ ?_
        simp only [spec_DiffOf.l0]
        refine Ev_neg (by omega) (Ev_succ ?_)
        simp only [spec_DiffOf.j1]
        refine Ev_neg (by simp) ?_
        rw [List.drop_length]
        simp only [diffGo, List.append_nil]
        exact Ev.now _
      · intro i hi ih out ho
        refine Ev_succ ?_
        simp only [spec_DiffOf.l0]
        refine Ev_pos (by omega) (Ev_pos (by omega) (Ev_succ ?_))
        simp only [spec_DiffOf.j1]
        have hi' : i < b.length := by omega
        refine Ev_pos (decide_eq_true (by omega)) (Ev_pos (by omega) (Ev_pos (by omega) (Ev_pos (by omega) ?_)))
        rw [List.drop_eq_getElem_cons hi, List.drop_eq_getElem_cons hi', rd132 hi, rd132 hi', wr1 hi (by omega), diffGo]
        refine Ev_ite (fun h => ?_) (fun h => ?_)
        · rw [if_pos (show vne a[i] b[i] = true from h)]
          refine Ev_pos (by omega) ?_
          have := ih (out ++ [(⟨(i : Int), b[i]⟩ : S134)]) (by simp; omega)
          rw [List.append_assoc] at this
          exact this
        · rw [if_neg (show ¬ vne a[i] b[i] = true from h)]
          exact ih out (by omega)
    have := key 0 (Nat.zero_le _) [] (by simp)
    simpa using this
  · rw [if_neg c]
    refine Ev_succ ?_
    simp only [spec_DiffOf.l0]
    have fin : Ev (fun k => spec_DiffOf.j1 k a b ([] : List S134) 0 false) [] := by
      refine Ev_succ ?_
      simp only [spec_DiffOf.j1]
      exact Ev_neg (by simp) (Ev.now _)
    refine Ev_ite (fun h1 => ?_) (fun h1 => fin)
    refine Ev_ite (fun h2 => ?_) (fun h2 => fin)
    rw [show decide ((a.length : Int) ≤ 8) = false from decide_eq_false (by omega)]
    exact fin

theorem ev_sameVals (l : List S132) (hl : l.length ≤ 2000000000) : Ev (fun k => laws_sameVals.f k l l) true := by
  unfold laws_sameVals.f
  refine Ev_pos rfl ?_
  refine down (P := fun i => Ev (fun k => laws_sameVals.l0 k l l (i : Int)) true) l.length ?_ ?_ 0 (Nat.zero_le _)
  · refine Ev_succ ?_
    simp only [laws_sameVals.l0]
    exact Ev_neg (by omega) (Ev.now _)
  · intro i hi ih
    refine Ev_succ ?_
    simp only [laws_sameVals.l0]
    refine Ev_pos (by omega) (Ev_pos (by omega) (Ev_pos (by omega) (Ev_neg (by simp) ?_)))
    rw [wr1 hi (by omega)]
    exact ih

theorem v_impl_within (a b c : Int) : impl_within.f a b c = some (decide (b ≤ a ∧ a ≤ c)) := by
  unfold impl_within.f
  by_cases h : a ≥ b
  · rw [if_pos h]
    simp [show b ≤ a from h]
  · rw [if_neg h]
    simp [show ¬ b ≤ a from h]

theorem v_impl_copyVals (l : List S132) (hl : l.length ≤ 2000000000) : impl_copyVals.f l = some l := by
  unfold impl_copyVals.f
  simp only [Option.bind_some, List.nil_append, List.length_nil, Nat.zero_add]
  rw [if_pos (by omega)]

def setC (out : List S132) (c : S134) : List S132 := if 0 ≤ c.f0 ∧ c.f0 ≤ (out.length : Int) - 1 then out.set c.f0.toNat c.f1 else out
def patch (f : List S132) (cs : List S134) : List S132 := cs.foldl setC f
theorem setC_length (out : List S132) (c : S134) : (setC out c).length = out.length := by
  unfold setC; split <;> simp
theorem foldC_length (cs : List S134) (out : List S132) : (cs.foldl setC out).length = out.length := by
  induction cs generalizing out with
  | nil => rfl
  | cons c cs ih => rw [List.foldl_cons, ih, setC_length]
theorem patch_length (f : List S132) (cs : List S134) : (patch f cs).length = f.length := foldC_length cs f

theorem ev_impl_Patch (f : List S132) (cs : List S134) (hf : f.length ≤ 2000000000) (hc : cs.length ≤ 2000000000) : Ev (fun k => impl_Patch.f k f cs) (patch f cs) := by
  unfold impl_Patch.f patch
  refine Ev_some (v_impl_copyVals f hf) ?_
  refine (down (P := fun i => ∀ out : List S132, out.length = f.length → Ev (fun k => impl_Patch.l0 k out cs (cs.length : Int) (i : Int)) ((cs.drop i).foldl setC out)) cs.length ?_ ?_ 0 (Nat.zero_le _)) f rfl
  · intro out ho
    refine Ev_succ ?_
    simp only [impl_Patch.l0]
    refine Ev_neg (by omega) ?_
    rw [List.drop_length]
    exact Ev.now _
  · intro i hi ih out ho
    refine Ev_succ ?_
    simp only [impl_Patch.l0, v_impl_within, Option.bind_some]
    refine Ev_pos (by omega) (Ev_pos (by omega) (Ev_pos (by omega) ?_))
    rw [List.drop_eq_getElem_cons hi, rd134 hi, wr1 hi (by omega), List.foldl_cons, wr (x := (out.length : Int) - 1) (by omega) (by omega)]
    refine Ev_ite (fun h => ?_) (fun h => ?_)
    · have h' := of_decide_eq_true h
      refine Ev_pos (by omega) (Ev_pos (by omega) ?_)
      have e : setC out cs[i] = out.set cs[i].f0.toNat cs[i].f1 := by unfold setC; rw [if_pos h']
      rw [e]
      exact ih _ (by simpa using ho)
    · have h' : ¬ (0 ≤ cs[i].f0 ∧ cs[i].f0 ≤ (out.length : Int) - 1) := fun e => h (decide_eq_true e)
      have e : setC out cs[i] = out := by unfold setC; rw [if_neg h']
      rw [e]
      exact ih _ ho

theorem v_spec_l1In (a b c : Int) : spec_l1In.f a b c = some (decide (b ≤ a ∧ a ≤ c)) := by
  unfold spec_l1In.f
  by_cases h : a ≥ b
  · rw [if_pos h]
    simp [show b ≤ a from h]
  · rw [if_neg h]
    simp [show ¬ b ≤ a from h]

theorem ev_spec_Patch (f : List S132) (cs : List S134) (hf : f.length ≤ 2000000000) (hc : cs.length ≤ 2000000000) : Ev (fun k => spec_Patch.f k f cs) (patch f cs) := by
  unfold spec_Patch.f patch
  simp only [Option.bind_some, List.nil_append, List.length_nil, Nat.zero_add]
  refine Ev_pos (by omega) ?_
  refine (down (P := fun i => ∀ out : List S132, out.length = f.length → Ev (fun k => spec_Patch.l0 k cs out (i : Int)) ((cs.drop i).foldl setC out)) cs.length ?_ ?_ 0 (Nat.zero_le _)) f rfl
  · intro out ho
    refine Ev_succ ?_
    simp only [spec_Patch.l0]
    refine Ev_neg (by omega) ?_
    rw [List.drop_length]
    exact Ev.now _
  · intro i hi ih out ho
    refine Ev_succ ?_
    simp only [spec_Patch.l0, v_spec_l1In, Option.bind_some]
    refine Ev_pos (by omega) (Ev_pos (by omega) ?_)
    rw [List.drop_eq_getElem_cons hi, rd134 hi, wr1 hi (by omega), List.foldl_cons, wr (x := (out.length : Int) - 1) (by omega) (by omega)]
    refine Ev_ite (fun h => ?_) (fun h => ?_)
    · have h' := of_decide_eq_true h
      refine Ev_pos (by omega) (Ev_pos (by omega) ?_)
      have e : setC out cs[i] = out.set cs[i].f0.toNat cs[i].f1 := by unfold setC; rw [if_pos h']
      rw [e]
      exact ih _ (by simpa using ho)
    · have h' : ¬ (0 ≤ cs[i].f0 ∧ cs[i].f0 ≤ (out.length : Int) - 1) := fun e => h (decide_eq_true e)
      have e : setC out cs[i] = out := by unfold setC; rw [if_neg h']
      rw [e]
      exact ih _ ho

theorem ev_spec_Apart (a b : List S134) (ha : a.length ≤ 2000000000) (hb : b.length ≤ 2000000000) : Ev (fun k => spec_Apart.f k a b) (apart a b) := by
  unfold spec_Apart.f
  have inner : ∀ (i : Nat) (hi : i < a.length) (r : Bool), ((b.all fun d => !(decide (a[i].f0 = d.f0))) = true → Ev (fun k => spec_Apart.l0 k a b ((i + 1 : Nat) : Int)) r) → ((b.all fun d => !(decide (a[i].f0 = d.f0))) = false → r = false) →
      ∀ j, j ≤ b.length → ((b.take j).all fun d => !(decide (a[i].f0 = d.f0))) = true → Ev (fun k => spec_Apart.l1 k a b (i : Int) (j : Int)) r := by
    intro i hi r ht hf
    refine down (P := fun j => ((b.take j).all fun d => !(decide (a[i].f0 = d.f0))) = true → Ev (fun k => spec_Apart.l1 k a b (i : Int) (j : Int)) r) b.length ?_ ?_
    · intro h
      rw [List.take_length] at h
      refine Ev_succ ?_
      simp only [spec_Apart.l1]
      refine Ev_neg (by omega) ?_
      rw [wr1 hi (by omega)]
      exact ht h
    · intro j hj ih h
      refine Ev_succ ?_
      simp only [spec_Apart.l1]
      refine Ev_pos (by omega) (Ev_pos (by omega) (Ev_pos (by omega) (Ev_pos (by omega) ?_)))
      rw [rd134 hi, rd134 hj, wr1 hj (by omega)]
      refine Ev_ite (fun he => ?_) (fun he => ?_)
      · refine Ev_eq (hf ?_).symm
        rw [← Bool.not_eq_true, List.all_eq_true]
        intro hall
        have := hall _ (List.getElem_mem hj)
        simp [he] at this
      · refine ih ?_
        rw [List.take_succ_eq_append_getElem hj, List.all_append, h]
        simp [he]
  have := evAllL (fun k i => spec_Apart.l0 k a b i) a (fun c => b.all fun d => !(decide (c.f0 = d.f0))) true ?_ (fun i hi r ht hf => ?_)
  · simpa [apart] using this
  · refine Ev_succ ?_
    simp only [spec_Apart.l0]
    exact Ev_neg (by omega) (Ev.now _)
  · refine Ev_succ ?_
    simp only [spec_Apart.l0]
    exact Ev_pos (by omega) (inner i hi r ht hf 0 (Nat.zero_le _) (by simp))

theorem setC_out (o : List S132) (c : S134) (h : ¬ (0 ≤ c.f0 ∧ c.f0 ≤ (o.length : Int) - 1)) : setC o c = o := by unfold setC; rw [if_neg h]
theorem setC_comm (o : List S132) (c d : S134) (h : c.f0 ≠ d.f0) : setC (setC o c) d = setC (setC o d) c := by
  have hl := setC_length o c
  have hl' := setC_length o d
  by_cases h1 : 0 ≤ c.f0 ∧ c.f0 ≤ (o.length : Int) - 1
  · by_cases h2 : 0 ≤ d.f0 ∧ d.f0 ≤ (o.length : Int) - 1
    · have e1 : setC o c = o.set c.f0.toNat c.f1 := by unfold setC; rw [if_pos h1]
      have e2 : setC o d = o.set d.f0.toNat d.f1 := by unfold setC; rw [if_pos h2]
      have e3 : setC (o.set c.f0.toNat c.f1) d = (o.set c.f0.toNat c.f1).set d.f0.toNat d.f1 := by unfold setC; rw [if_pos (by simpa using h2)]
      have e4 : setC (o.set d.f0.toNat d.f1) c = (o.set d.f0.toNat d.f1).set c.f0.toNat c.f1 := by unfold setC; rw [if_pos (by simpa using h1)]
      rw [e1, e2, e3, e4, List.set_comm _ _ (by omega)]
    · have e2 : setC o d = o := by unfold setC; rw [if_neg h2]
      have e3 : setC (setC o c) d = setC o c := setC_out _ _ (by rw [hl]; exact h2)
      rw [e3, e2]
  · have e1 : setC o c = o := by unfold setC; rw [if_neg h1]
    have e3 : setC (setC o d) c = setC o d := setC_out _ _ (by rw [hl']; exact h1)
    rw [e1, e3]
theorem foldC_one (ys : List S134) (o : List S132) (c : S134) (h : ∀ d ∈ ys, c.f0 ≠ d.f0) : ys.foldl setC (setC o c) = setC (ys.foldl setC o) c := by
  induction ys generalizing o with
  | nil => rfl
  | cons y ys ih =>
    rw [List.foldl_cons, List.foldl_cons, setC_comm o c y (h y List.mem_cons_self), ih _ (fun d hd => h d (List.mem_cons_of_mem _ hd))]
theorem patch_comm (f : List S132) (x y : List S134) (h : apart x y = true) : patch (patch f x) y = patch (patch f y) x := by
  unfold patch
  induction x generalizing f with
  | nil => rfl
  | cons c cs ih =>
    unfold apart at h
    rw [List.all_cons, Bool.and_eq_true] at h
    have hc : ∀ d ∈ y, c.f0 ≠ d.f0 := by
      intro d hd
      have := List.all_eq_true.1 h.1 d hd
      simpa using this
    rw [List.foldl_cons, List.foldl_cons, ih (setC f c) (by unfold apart; exact h.2), foldC_one y f c hc]
theorem patch_diff (pre a b : List S132) (h : a.length = b.length) : (diffGo (pre.length : Int) a b).foldl setC (pre ++ a) = pre ++ b := by
  induction a generalizing pre b with
  | nil =>
    cases b with
    | nil => rfl
    | cons y ys => simp at h
  | cons x xs ih =>
    cases b with
    | nil => simp at h
    | cons y ys =>
      have hl : xs.length = ys.length := by simpa using h
      have step := ih (pre ++ [y]) ys hl
      rw [List.length_append, List.length_singleton, List.append_assoc, List.append_assoc] at step
      have e : ((pre.length + 1 : Nat) : Int) = (pre.length : Int) + 1 := by omega
      rw [e] at step
      unfold diffGo
      split
      · rw [List.foldl_cons]
        have : setC (pre ++ x :: xs) (⟨(pre.length : Int), y⟩ : S134) = pre ++ y :: xs := by
          unfold setC
          rw [if_pos (by simp; omega)]
          simp
        rw [this]
        exact step
      · rename_i hv
        have : x = y := vne_eq (by simpa using hv)
        subst this
        exact step
theorem apart_comm (x y : List S134) : apart x y = apart y x := by
  rw [Bool.eq_iff_iff]
  unfold apart
  simp only [List.all_eq_true, Bool.not_eq_true', decide_eq_false_iff_not]
  constructor
  · exact fun h d hd c hc e => h c hc d hd e.symm
  · exact fun h c hc d hd e => h d hd c hc e.symm
theorem pure_law : laws_FnDiffs.Pure := by
  intro l0 hm _ _
  refine EvP_true (g := fun k => laws_FnDiffs.f k l0) ?_
  unfold laws_FnDiffs.f
  refine EvP_some rfl ?_
  refine EvP_ite (fun _ => EvP_now rfl) (fun hb => ?_)
  have hl : l0.length ≤ 1048576 := by
    have : ¬ (l0.length : Int) > 1048576 := fun e => hb (decide_eq_true e)
    omega
  refine EvP_bind (ev_spec_DrawDiffOf l0 hl) (fun ab hab => ?_)
  obtain ⟨a, b⟩ := ab
  obtain ⟨ha, hb'⟩ := hab
  dsimp only at ha hb' ⊢
  have dl := diffOf_length a b
  refine EvP_bindE (ev_impl_DiffOf a b (by omega) (by omega)) ?_
  refine EvP_bind (ev_spec_DrawPatch l0 hl) (fun fc hfc => ?_)
  obtain ⟨f, cells⟩ := fc
  obtain ⟨hf, hc⟩ := hfc
  dsimp only at hf hc ⊢
  refine EvP_bind (ev_spec_DrawApart l0 hl) (fun xy hxy => ?_)
  obtain ⟨x, y⟩ := xy
  obtain ⟨hx, hy⟩ := hxy
  dsimp only at hx hy ⊢
  have pl := patch_length f cells
  refine EvP_bindE (ev_impl_Apart x y (by omega) (by omega)) ?_
  refine EvP_bindE (ev_spec_DiffOf a b (by omega) (by omega)) ?_
  refine EvP_bindE (ev_sameCells _ (by omega)) (EvP_pos (by simp) ?_)
  refine EvP_bindE (ev_impl_Patch f cells (by omega) (by omega)) ?_
  refine EvP_bindE (ev_spec_Patch f cells (by omega) (by omega)) ?_
  refine EvP_bindE (ev_sameVals _ (by omega)) (EvP_pos (by simp) ?_)
  refine EvP_bindE (ev_spec_Apart x y (by omega) (by omega)) (EvP_neg (by simp) ?_)
  refine EvP_bindE (ev_impl_Apart y x (by omega) (by omega)) (EvP_succ ?_)
  simp only [laws_FnDiffs.j0]
  refine EvP_neg (by rw [apart_comm]; simp) ?_
  have last : ∀ q : Bool, q = false → EvP (fun k => laws_FnDiffs.j1 k a b (diffOf a b) f cells q) (fun r => r = true) := by
    intro q hq
    refine EvP_succ ?_
    simp only [laws_FnDiffs.j1]
    refine EvP_neg (by simp [hq]) ?_
    refine EvP_bindE (ev_impl_DiffOf a a (by omega) (by omega)) ?_
    have hd : diffOf a a = [] := by
      unfold diffOf
      split
      · exact diffGo_self 0 a
      · rfl
    rw [hd]
    refine EvP_pos (by simp) ?_
    have fin : EvP (fun k => (impl_Patch.f k f cells).bind fun t => some ((t.length : Int) == (f.length : Int))) (fun r => r = true) :=
      EvP_bindE (ev_impl_Patch f cells (by omega) (by omega)) (EvP_now (by rw [pl]; simp))
    refine EvP_ite (fun h1 => ?_) (fun h1 => fin)
    refine EvP_ite (fun h2 => fin) (fun h2 => ?_)
    refine EvP_bindE (ev_impl_Patch a _ (by omega) (by omega)) ?_
    have e : patch a (diffOf a b) = b := by
      unfold diffOf patch
      rw [if_pos ⟨by omega, by omega⟩]
      have := patch_diff [] a b (by omega)
      simpa using this
    rw [e]
    refine EvP_bindE (ev_sameVals _ (by omega)) (EvP_pos (by simp) fin)
  refine EvP_ite (fun hp => ?_) (fun hp => last false rfl)
  have p1 := patch_length f x
  have p2 := patch_length f y
  have p3 := patch_length (patch f x) y
  refine EvP_bindE (ev_impl_Patch f x (by omega) (by omega)) ?_
  refine EvP_bindE (ev_impl_Patch _ y (by omega) (by omega)) ?_
  refine EvP_bindE (ev_impl_Patch f y (by omega) (by omega)) ?_
  refine EvP_bindE (ev_impl_Patch _ x (by omega) (by omega)) ?_
  rw [← patch_comm f x y hp]
  refine EvP_bindE (ev_sameVals _ (by omega)) ?_
  exact last _ rfl

end Go.Proofs.Ytdmhdfdlljafbaa.PFnDiffs
namespace Go.Proofs.Ytdmhdfdlljafbaa.Pure
theorem FnDiffs : Go.Proofs.Ytdmhdfdlljafbaa.PFnDiffs.laws_FnDiffs.Pure := Go.Proofs.Ytdmhdfdlljafbaa.PFnDiffs.pure_law
end Go.Proofs.Ytdmhdfdlljafbaa.Pure
