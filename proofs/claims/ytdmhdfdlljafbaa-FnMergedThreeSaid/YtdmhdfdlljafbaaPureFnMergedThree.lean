/- What is left of the law FnMergedThree: over lists and numbers alone. No condition beyond the statement's own. -/
import Derived.Test.YtdmhdfdlljafbaaPFnMergedThreex
import Derived.Test.YtdmhdfdlljafbaaV
namespace Go.Proofs.Ytdmhdfdlljafbaa.PFnMergedThree
open Go.RowKit Go.Proofs.YtdmhdfdlljafbaaW.PrintWords Go.Proofs.YtdmhdfdlljafbaaW.PrintLast Go.Proofs.YtdmhdfdlljafbaaW.PrintMore Go.Proofs.YtdmhdfdlljafbaaV
set_option linter.unusedVariables false
set_option linter.unusedSimpArgs false
theorem rd64 {l : List S64} {i : Nat} (h : i < l.length) : rd_T64 l (i : Int) = l[i] := by
  unfold rd_T64
  simp [List.getD, List.getElem?_eq_getElem h]
theorem rds64 {l : List S64} {i : Nat} (h : i < l.length) (v : S64) : rd_T64 (l.set i v) (i : Int) = v := by
  unfold rd_T64
  simp [List.getD, h]

theorem v_spec_l1In (a b c : Int) : spec_l1In.f a b c = some (decide (b ≤ a ∧ a ≤ c)) := by
  unfold spec_l1In.f
  by_cases h : a ≥ b
  · rw [if_pos h]
    simp [show b ≤ a from h]
  · rw [if_neg h]
    simp [show ¬ b ≤ a from h]

def nOk (l : List S64) (i : Nat) : Bool := decide (1 ≤ (rd_T64 l (i : Int)).f0 ∧ (rd_T64 l (i : Int)).f0 ≤ 1000000) && decide (1 ≤ (rd_T64 l (i : Int)).f1 ∧ (rd_T64 l (i : Int)).f1 ≤ 16777215) && (decide (i = 0) || decide ((rd_T64 l ((i - 1 : Nat) : Int)).f0 < (rd_T64 l (i : Int)).f0))
def notesOk (l : List S64) : Bool := (List.range l.length).all (nOk l) && decide ((l.length : Int) ≤ 130)

theorem ev_spec_NotesOk (l : List S64) (hl : l.length ≤ 2000000000) : Ev (fun k => spec_NotesOk.f k l) (notesOk l) := by
  unfold spec_NotesOk.f
  refine evAll (fun k i => spec_NotesOk.l0 k l i) l (nOk l) _ ?_ (fun i hi r ht hf => ?_)
  · refine Ev_succ ?_
    simp only [spec_NotesOk.l0]
    exact Ev_neg (by omega) (Ev.now _)
  · refine Ev_succ ?_
    simp only [spec_NotesOk.l0, v_spec_l1In, Option.bind_some]
    refine Ev_pos (by omega) (Ev_pos (by omega) ?_)
    rw [wr1 hi (by omega)]
    refine Ev_ite (fun h1 => ?_) (fun h1 => ?_)
    · refine Ev_ite (fun h2 => ?_) (fun h2 => ?_)
      · refine Ev_ite (fun h3 => ?_) (fun h3 => ?_)
        · have e : wrap64 ((i : Int) - 1) = ((i - 1 : Nat) : Int) := by rw [wr (by omega) (by omega)]; omega
          rw [e]
          refine Ev_pos (by omega) (Ev_pos (by omega) ?_)
          refine Ev_ite (fun h4 => ?_) (fun h4 => ?_)
          · refine Ev_eq (hf ?_).symm
            unfold nOk
            rw [show decide (i = 0) = false from decide_eq_false (by omega), show decide ((rd_T64 l ((i - 1 : Nat) : Int)).f0 < (rd_T64 l (i : Int)).f0) = false from decide_eq_false (by omega)]
            simp
          · refine ht ?_
            unfold nOk
            rw [show decide ((rd_T64 l ((i - 1 : Nat) : Int)).f0 < (rd_T64 l (i : Int)).f0) = true from decide_eq_true (by omega), h1, h2]
            simp
        · refine ht ?_
          unfold nOk
          rw [show decide (i = 0) = true from decide_eq_true (by omega), h1, h2]
          simp
      · refine Ev_eq (hf ?_).symm
        unfold nOk
        rw [Bool.eq_false_iff.mpr h2]
        simp
    · refine Ev_eq (hf ?_).symm
      unfold nOk
      rw [Bool.eq_false_iff.mpr h1]
      simp

theorem v_spec_l1Max (a b : Int) : spec_l1Max.f a b = some (mx a b) := by
  unfold spec_l1Max.f mx
  by_cases h : a > b
  · rw [if_pos h, if_neg (by omega)]
  · rw [if_neg h]
    by_cases h' : a < b
    · rw [if_pos h']
    · rw [if_neg h']
      congr 1
      omega

def mrg (a b : List S64) : List S64 :=
  match a, b with
  | [], ys => ys
  | xs, [] => xs
  | x :: xs, y :: ys => if x.f0 < y.f0 then x :: mrg xs (y :: ys) else if y.f0 < x.f0 then y :: mrg (x :: xs) ys else (⟨x.f0, mx x.f1 y.f1⟩ : S64) :: mrg xs ys
termination_by a.length + b.length
theorem mrg_nil (ys : List S64) : mrg [] ys = ys := by unfold mrg; rfl
theorem mrg_nil_right (xs : List S64) : mrg xs [] = xs := by
  cases xs with
  | nil => exact mrg_nil _
  | cons x xs => unfold mrg; rfl
theorem mrg_cons (x y : S64) (xs ys : List S64) : mrg (x :: xs) (y :: ys) = if x.f0 < y.f0 then x :: mrg xs (y :: ys) else if y.f0 < x.f0 then y :: mrg (x :: xs) ys else (⟨x.f0, mx x.f1 y.f1⟩ : S64) :: mrg xs ys := by
  rw [mrg]
theorem mrg_length (a b : List S64) : (mrg a b).length ≤ a.length + b.length := by
  fun_induction mrg a b <;> simp_all <;> omega

theorem ev_spec_l22Merge_from (a b : List S64) (ha : a.length ≤ 2000000000) (hb : b.length ≤ 2000000000) : ∀ (d i j : Nat) (out : List S64), i ≤ a.length → j ≤ b.length → (a.length - i) + (b.length - j) = d → out.length + d ≤ 4000000000 →
    Ev (fun k => spec_l22Merge.l0 k a b out (i : Int) (j : Int)) (out ++ mrg (a.drop i) (b.drop j)) := by
  intro d
  induction d using Nat.strongRecOn with
  | _ d ih =>
    intro i j out hi hj hd ho
    refine Ev_succ ?_
    simp only [spec_l22Merge.l0]
    by_cases h1 : i < a.length
    · refine Ev_pos (by omega) (Ev_succ ?_)
      simp only [spec_l22Merge.j1]
      refine Ev_pos (by simp) ?_
      rw [List.drop_eq_getElem_cons h1]
      by_cases h2 : j < b.length
      · refine Ev_neg (by omega) (Ev_pos (by omega) (Ev_pos (by omega) (Ev_pos (by omega) (Ev_pos (by omega) (Ev_succ ?_)))))
        simp only [spec_l22Merge.j2]
        rw [List.drop_eq_getElem_cons h2, rd64 h1, rd64 h2, mrg_cons, wr1 h1 (by omega), wr1 h2 (by omega)]
        refine Ev_ite (fun c => ?_) (fun c => ?_)
        · have c' : a[i].f0 < b[j].f0 := by simpa using c
          rw [if_pos c', ← List.drop_eq_getElem_cons h2]
          refine Ev_pos (by omega) (Ev_pos (by omega) (Ev_pos (by omega) ?_))
          have := ih (d - 1) (by omega) (i + 1) j (out ++ [a[i]]) (by omega) hj (by omega) (by simp; omega)
          rw [List.append_assoc] at this
          exact this
        · have c' : ¬ a[i].f0 < b[j].f0 := by simpa using c
          rw [if_neg c']
          refine Ev_neg (by omega) (Ev_pos (by omega) (Ev_pos (by omega) (Ev_pos (by omega) (Ev_pos (by omega) ?_))))
          refine Ev_ite (fun e => ?_) (fun e => ?_)
          · rw [if_pos e, ← List.drop_eq_getElem_cons h1]
            refine Ev_pos (by omega) ?_
            have := ih (d - 1) (by omega) i (j + 1) (out ++ [b[j]]) hi (by omega) (by omega) (by simp; omega)
            rw [List.append_assoc] at this
            exact this
          · rw [if_neg e]
            refine Ev_some (v_spec_l1Max _ _) (Ev_pos (by omega) ?_)
            have := ih (d - 2) (by omega) (i + 1) (j + 1) (out ++ [(⟨a[i].f0, mx a[i].f1 b[j].f1⟩ : S64)]) (by omega) (by omega) (by omega) (by simp; omega)
            rw [List.append_assoc] at this
            exact this
      · refine Ev_pos (by omega) (Ev_succ ?_)
        simp only [spec_l22Merge.j2]
        refine Ev_pos (by simp) (Ev_pos (by omega) (Ev_pos (by omega) (Ev_pos (by omega) ?_)))
        rw [rd64 h1, wr1 h1 (by omega)]
        have := ih (d - 1) (by omega) (i + 1) j (out ++ [a[i]]) (by omega) hj (by omega) (by simp; omega)
        rw [List.append_assoc] at this
        rw [List.drop_of_length_le (show b.length ≤ j by omega), mrg_nil_right] at this ⊢
        exact this
    · refine Ev_neg (by omega) (Ev_succ ?_)
      simp only [spec_l22Merge.j1]
      by_cases h2 : j < b.length
      · refine Ev_pos (decide_eq_true (by omega)) (Ev_neg (by omega) (Ev_neg (by omega) (Ev_succ ?_)))
        simp only [spec_l22Merge.j2]
        refine Ev_neg (by simp) (Ev_pos (by omega) (Ev_pos (by omega) (Ev_pos (by omega) (Ev_pos (by omega) ?_))))
        rw [rd64 h2, wr1 h2 (by omega)]
        have := ih (d - 1) (by omega) i (j + 1) (out ++ [b[j]]) hi (by omega) (by omega) (by simp; omega)
        rw [List.append_assoc] at this
        rw [List.drop_of_length_le (show a.length ≤ i by omega), mrg_nil] at this ⊢
        rw [List.drop_eq_getElem_cons h2]
        exact this
      · refine Ev_neg (by simp; omega) ?_
        rw [List.drop_of_length_le (show a.length ≤ i by omega), List.drop_of_length_le (show b.length ≤ j by omega), mrg_nil, List.append_nil]
        exact Ev.now _
theorem ev_spec_l22Merge (a b : List S64) (ha : a.length ≤ 2000000000) (hb : b.length ≤ 2000000000) : Ev (fun k => spec_l22Merge.f k a b) (mrg a b) := by
  unfold spec_l22Merge.f
  have := ev_spec_l22Merge_from a b ha hb _ 0 0 [] (Nat.zero_le _) (Nat.zero_le _) rfl (by simp; omega)
  simpa using this

def mergeNotes (a b : List S64) : List S64 := if (notesOk a && notesOk b && notesOk (mrg a b)) = true then mrg a b else a
theorem mergeNotes_length (a b : List S64) : (mergeNotes a b).length ≤ a.length + b.length := by
  unfold mergeNotes
  split
  · exact mrg_length a b
  · omega

theorem ev_spec_MergeNotes (a b : List S64) (ha : a.length ≤ 1000000000) (hb : b.length ≤ 1000000000) : Ev (fun k => spec_MergeNotes.f k a b) (mergeNotes a b) := by
  unfold spec_MergeNotes.f
  simp only [Option.bind_some, List.nil_append, List.length_nil, Nat.zero_add]
  refine Ev_pos (by omega) ?_
  refine Ev.bind (ev_spec_NotesOk a (by omega)) ?_
  unfold mergeNotes
  cases h : notesOk a with
  | false =>
    refine Ev_neg (by simp) (Ev_succ ?_)
    simp only [spec_MergeNotes.j0]
    exact Ev_pos (by simp) (Ev_eq (by simp))
  | true =>
    refine Ev_pos (by simp) (Ev.bind (ev_spec_NotesOk b (by omega)) (Ev_succ ?_))
    simp only [spec_MergeNotes.j0]
    cases h' : notesOk b with
    | false => exact Ev_pos (by simp) (Ev_eq (by simp))
    | true =>
      have hl := mrg_length a b
      refine Ev_neg (by simp) (Ev.bind (ev_spec_l22Merge a b (by omega) (by omega)) (Ev.bind (ev_spec_NotesOk _ (by omega)) ?_))
      refine Ev_ite (fun c => ?_) (fun c => ?_)
      · exact Ev_eq (by simp [c])
      · exact Ev_eq (by simp [c])

theorem ev_spec_l1New (xs : List Int) (hl : xs.length ≤ 1048576) : EvP (fun k => spec_l1New.f k xs) (fun r => r.1 = xs ∧ Cur xs r.2.1) := by
  unfold spec_l1New.f
  have key : ∀ i, i ≤ xs.length → ∀ h : Int, EvP (fun k => spec_l1New.l0 k xs h (i : Int)) (fun r => r.1 = xs ∧ Cur xs r.2.1) := by
    refine down (P := fun i => ∀ h : Int, EvP (fun k => spec_l1New.l0 k xs h (i : Int)) (fun r => r.1 = xs ∧ Cur xs r.2.1)) xs.length ?_ ?_
    · intro h
      refine EvP_succ ?_
      simp only [spec_l1New.l0]
      exact EvP_neg (by omega) (EvP_now ⟨rfl, by show Cur xs 0; unfold Cur; omega⟩)
    · intro i hi ih h
      refine EvP_succ ?_
      simp only [spec_l1New.l0]
      refine EvP_pos (by omega) (EvP_ite (fun _ => EvP_pos (by omega) ?_) (fun _ => EvP_now ⟨rfl, by show Cur xs 0; unfold Cur; omega⟩))
      rw [wr1 hi (by omega)]
      exact ih _
  exact key 0 (Nat.zero_le _) _

theorem so_spec_l1Byte (xs : List Int) (p s : Int) (hc : Cur xs p) : SoP (spec_l1Byte.f xs p s) (fun r => 0 ≤ r.1 ∧ r.1 ≤ 255 ∧ Cur xs r.2.1) := by
  unfold spec_l1Byte.f
  unfold Cur at hc
  refine SoP_ite (fun h => SoP_pos (by omega) (SoP_now ⟨(band255 _).1, (band255 _).2, ?_⟩)) (fun h => SoP_now ⟨(band255 _).1, (band255 _).2, ?_⟩)
  · show Cur xs (wrap64 (p + 1))
    rw [wr (by omega) (by omega)]
    unfold Cur; omega
  · exact hc

theorem so_spec_l1Below (xs : List Int) (p s a : Int) (hc : Cur xs p) (ha : 0 < a) (hb : a ≤ 256) : SoP (spec_l1Below.f xs p s a) (fun r => 0 ≤ r.1 ∧ r.1 < a ∧ Cur xs r.2.1) := by
  unfold spec_l1Below.f
  refine SoP_neg (by omega) (SoP_pos hb (SoP_bind (so_spec_l1Byte xs p s hc) (fun r h => SoP_neg (by omega) (SoP_now ?_))))
  exact ⟨(tmod_range _ _ h.1 ha).1, (tmod_range _ _ h.1 ha).2, h.2.2⟩

theorem ev_spec_l3DrawNotes (xs : List Int) (p s : Int) (hc : Cur xs p) : EvP (fun k => spec_l3DrawNotes.f k xs p s) (fun r => r.1.length ≤ 25 ∧ Cur xs r.2.1) := by
  unfold spec_l3DrawNotes.f
  have key : ∀ (d : Nat) (n : Int) (out : List S64) (p s : Int), 1 ≤ n → n ≤ 40 → (25 - n).toNat ≤ d → (out.length : Int) + 1 ≤ n → out.length ≤ 25 → Cur xs p → EvP (fun k => spec_l3DrawNotes.l0 k out n xs p s) (fun r => r.1.length ≤ 25 ∧ Cur xs r.2.1) := by
    intro d
    induction d with
    | zero =>
      intro n out p s h1 h2 h3 h4 h5 hc
      refine EvP_succ ?_
      simp only [spec_l3DrawNotes.l0]
      exact EvP_neg (by omega) (EvP_now ⟨h5, hc⟩)
    | succ d ih =>
      intro n out p s h1 h2 h3 h4 h5 hc
      refine EvP_succ ?_
      simp only [spec_l3DrawNotes.l0]
      refine EvP_ite (fun hn => ?_) (fun hn => EvP_now ⟨h5, hc⟩)
      refine EvP_bindS (so_spec_l1Below xs p s 5 hc (by omega) (by omega)) (fun r h => EvP_pos (by omega) ?_)
      refine EvP_bindS (so_spec_l1Below xs _ _ 12 h.2.2 (by omega) (by omega)) (fun q hq => ?_)
      obtain ⟨q0, q1, q2⟩ := hq
      rw [wr (x := n + 1) (by omega) (by omega), wr (x := n + 1 + q.1) (by omega) (by omega)]
      exact ih _ _ _ _ (by omega) (by omega) (by omega) (by rw [List.length_append]; simp; omega) (by rw [List.length_append]; simp; omega) q2
  exact key 24 1 [] p s (by omega) (by omega) (by omega) (by simp) (by simp) hc

theorem ev_spec_l22Draw (xs : List Int) (p s : Int) (hc : Cur xs p) : EvP (fun k => spec_l22Draw.f k xs p s) (fun r => r.1.length ≤ 200 ∧ Cur xs r.2.1) := by
  unfold spec_l22Draw.f
  have key : ∀ (d : Nat) (n : Int) (out : List S64) (p s : Int), 0 ≤ n → n ≤ 131 → (131 - n).toNat ≤ d → (out.length : Int) = n → Cur xs p → EvP (fun k => spec_l22Draw.l0 k out n xs p s) (fun r => r.1.length ≤ 200 ∧ Cur xs r.2.1) := by
    intro d
    induction d with
    | zero =>
      intro n out p s h1 h2 h3 h4 hc
      refine EvP_succ ?_
      simp only [spec_l22Draw.l0]
      refine EvP_bindS (so_spec_l1Below xs p s 2 hc (by omega) (by omega)) (fun r h => ?_)
      obtain ⟨r0, r1, r2⟩ := h
      rw [wr (x := 130 + r.1) (by omega) (by omega)]
      exact EvP_neg (by omega) (EvP_now ⟨by show out.length ≤ 200; omega, r2⟩)
    | succ d ih =>
      intro n out p s h1 h2 h3 h4 hc
      refine EvP_succ ?_
      simp only [spec_l22Draw.l0]
      refine EvP_bindS (so_spec_l1Below xs p s 2 hc (by omega) (by omega)) (fun r h => ?_)
      obtain ⟨r0, r1, r2⟩ := h
      rw [wr (x := 130 + r.1) (by omega) (by omega)]
      refine EvP_ite (fun hn => EvP_pos (by omega) ?_) (fun hn => EvP_now ⟨by show out.length ≤ 200; omega, r2⟩)
      rw [wr (x := n + 1) (by omega) (by omega)]
      exact ih _ _ _ _ (by omega) (by omega) (by omega) (by rw [List.length_append]; simp; omega) r2
  refine EvP_bind (ev_spec_l3DrawNotes xs p s hc) (fun r h => EvP_bindS (so_spec_l1Below xs _ _ 14 h.2 (by omega) (by omega)) (fun q hq => ?_))
  obtain ⟨q0, q1, q2⟩ := hq
  have h1 := h.1
  refine EvP_ite (fun _ => ?_) (fun _ => EvP_ite (fun _ => ?_) (fun _ => EvP_now ⟨by show r.1.length ≤ 200; omega, q2⟩))
  · refine EvP_bindS (so_spec_l1Below xs _ _ 40 q2 (by omega) (by omega)) (fun u hu => EvP_bindS (so_spec_l1Below xs _ _ 2 hu.2.2 (by omega) (by omega)) (fun v hv => EvP_pos (by omega) (EvP_now ⟨?_, hv.2.2⟩)))
    show (r.1 ++ _).length ≤ 200
    rw [List.length_append]; simp; omega
  · exact key 131 _ _ _ _ (by omega) (by omega) (by omega) rfl q2

theorem so_spec_l1Once (xs : List Int) (p s a : Int) (hc : Cur xs p) (ha : 0 < a) (hb : a ≤ 256) : SoP (spec_l1Once.f xs p s a) (fun r => Cur xs r.2.1) := by
  unfold spec_l1Once.f
  exact SoP_bind (so_spec_l1Below xs p s a hc ha hb) (fun r h => SoP_now h.2.2)

theorem ev_spec_l22DrawTwo (xs : List Int) (hl : xs.length ≤ 1048576) : EvP (fun k => spec_l22DrawTwo.f k xs) (fun r => r.1.length ≤ 400 ∧ r.2.length ≤ 400) := by
  unfold spec_l22DrawTwo.f
  refine EvP_bind (ev_spec_l1New xs hl) (fun r h => ?_)
  obtain ⟨h1, h2⟩ := h
  rw [h1]
  refine EvP_bind (ev_spec_l22Draw xs _ _ h2) (fun q hq => EvP_bind (ev_spec_l22Draw xs _ _ hq.2) (fun u hu => EvP_bindS (so_spec_l1Once xs _ _ 3 hu.2 (by omega) (by omega)) (fun v hv => ?_)))
  have hq1 := hq.1
  have hu1 := hu.1
  have hm := mergeNotes_length q.1 u.1
  refine EvP_ite (fun _ => ?_) (fun _ => EvP_now ⟨by show q.1.length ≤ 400; omega, by show u.1.length ≤ 400; omega⟩)
  exact EvP_bindE (ev_spec_MergeNotes q.1 u.1 (by omega) (by omega)) (EvP_now ⟨by show (mergeNotes q.1 u.1).length ≤ 400; omega, by show u.1.length ≤ 400; omega⟩)

theorem ev_spec_DrawMergeNotes (xs : List Int) (hl : xs.length ≤ 1048576) : EvP (fun k => spec_DrawMergeNotes.f k xs) (fun r => r.1.length ≤ 400 ∧ r.2.length ≤ 400) := by
  unfold spec_DrawMergeNotes.f
  exact EvP_bind (ev_spec_l22DrawTwo xs hl) (fun r h => EvP_now h)

theorem ev_spec_DrawCovers (xs : List Int) (hl : xs.length ≤ 1048576) : EvP (fun k => spec_DrawCovers.f k xs) (fun r => r.1.length ≤ 400 ∧ r.2.length ≤ 400) := by
  unfold spec_DrawCovers.f
  exact EvP_bind (ev_spec_l22DrawTwo xs hl) (fun r h => EvP_now h)

theorem v_impl_within (a b c : Int) : impl_within.f a b c = some (decide (b ≤ a ∧ a ≤ c)) := by
  unfold impl_within.f
  by_cases h : a ≥ b
  · rw [if_pos h]
    simp [show b ≤ a from h]
  · rw [if_neg h]
    simp [show ¬ b ≤ a from h]

theorem v_impl_isId (a : Int) : impl_isId.f a = some (decide (1 ≤ a ∧ a ≤ 1000000)) := by
  unfold impl_isId.f
  rw [v_impl_within]
  rfl

theorem ev_impl_NotesOk (l : List S64) (hl : l.length ≤ 2000000000) : Ev (fun k => impl_NotesOk.f k l) (notesOk l) := by
  unfold impl_NotesOk.f
  refine evAll (fun k i => impl_NotesOk.l0 k l l (l.length : Int) i) l (nOk l) _ ?_ (fun i hi r ht hf => ?_)
  · refine Ev_succ ?_
    simp only [impl_NotesOk.l0]
    exact Ev_neg (by omega) (Ev.now _)
  · refine Ev_succ ?_
    simp only [impl_NotesOk.l0, v_impl_within, v_impl_isId, Option.bind_some]
    refine Ev_pos (by omega) (Ev_pos (by omega) (Ev_pos (by omega) ?_))
    rw [wr1 hi (by omega)]
    refine Ev_ite (fun h1 => ?_) (fun h1 => ?_)
    · refine Ev_ite (fun h2 => ?_) (fun h2 => ?_)
      · refine Ev_ite (fun h3 => ?_) (fun h3 => ?_)
        · have e : wrap64 ((i : Int) - 1) = ((i - 1 : Nat) : Int) := by rw [wr (by omega) (by omega)]; omega
          rw [e]
          refine Ev_pos (by omega) (Ev_pos (by omega) ?_)
          refine Ev_ite (fun h4 => ?_) (fun h4 => ?_)
          · refine Ev_eq (hf ?_).symm
            unfold nOk
            rw [show decide (i = 0) = false from decide_eq_false (by omega), show decide ((rd_T64 l ((i - 1 : Nat) : Int)).f0 < (rd_T64 l (i : Int)).f0) = false from decide_eq_false (by omega)]
            simp
          · refine ht ?_
            unfold nOk
            rw [show decide ((rd_T64 l ((i - 1 : Nat) : Int)).f0 < (rd_T64 l (i : Int)).f0) = true from decide_eq_true (by omega), h1, h2]
            simp
        · refine ht ?_
          unfold nOk
          rw [show decide (i = 0) = true from decide_eq_true (by omega), h1, h2]
          simp
      · refine Ev_eq (hf ?_).symm
        unfold nOk
        rw [Bool.eq_false_iff.mpr h2]
        simp
    · refine Ev_eq (hf ?_).symm
      unfold nOk
      rw [Bool.eq_false_iff.mpr h1]
      simp

theorem v_impl_copyNotes (l : List S64) (hl : l.length ≤ 2000000000) : impl_copyNotes.f l = some l := by
  unfold impl_copyNotes.f
  simp only [Option.bind_some, List.nil_append, List.length_nil, Nat.zero_add]
  rw [if_pos (by omega)]

theorem ev_impl_MergeNotes_from (a b : List S64) (ha : a.length ≤ 2000000000) (hb : b.length ≤ 2000000000) : ∀ (d i j : Nat) (out : List S64), i ≤ a.length → j ≤ b.length → (a.length - i) + (b.length - j) = d → out.length + d ≤ 2000000000 →
    Ev (fun k => impl_MergeNotes.l0 k a b out (i : Int) (j : Int)) (if notesOk (out ++ mrg (a.drop i) (b.drop j)) = true then out ++ mrg (a.drop i) (b.drop j) else a) := by
  intro d
  induction d using Nat.strongRecOn with
  | _ d ih =>
    intro i j out hi hj hd ho
    refine Ev_succ ?_
    simp only [impl_MergeNotes.l0]
    by_cases h1 : i < a.length
    · refine Ev_pos (by omega) (Ev_succ ?_)
      simp only [impl_MergeNotes.j2]
      refine Ev_pos (by simp) ?_
      rw [List.drop_eq_getElem_cons h1]
      by_cases h2 : j < b.length
      · refine Ev_neg (by omega) (Ev_pos (by omega) (Ev_pos (by omega) (Ev_pos (by omega) (Ev_pos (by omega) (Ev_succ ?_)))))
        simp only [impl_MergeNotes.j3]
        rw [List.drop_eq_getElem_cons h2, rd64 h1, rd64 h2, mrg_cons, wr1 h1 (by omega), wr1 h2 (by omega)]
        refine Ev_ite (fun c => ?_) (fun c => ?_)
        · have c' : a[i].f0 < b[j].f0 := by simpa using c
          rw [if_pos c', ← List.drop_eq_getElem_cons h2]
          refine Ev_pos (by omega) (Ev_pos (by omega) (Ev_pos (by omega) ?_))
          have := ih (d - 1) (by omega) (i + 1) j (out ++ [a[i]]) (by omega) hj (by omega) (by simp; omega)
          rw [List.append_assoc] at this
          exact this
        · have c' : ¬ a[i].f0 < b[j].f0 := by simpa using c
          rw [if_neg c']
          refine Ev_neg (by omega) (Ev_pos (by omega) (Ev_pos (by omega) (Ev_pos (by omega) (Ev_pos (by omega) ?_))))
          refine Ev_ite (fun e => ?_) (fun e => ?_)
          · rw [if_pos e, ← List.drop_eq_getElem_cons h1]
            refine Ev_pos (by omega) ?_
            have := ih (d - 1) (by omega) i (j + 1) (out ++ [b[j]]) hi (by omega) (by omega) (by simp; omega)
            rw [List.append_assoc] at this
            exact this
          · rw [if_neg e]
            refine Ev_pos (by omega) ?_
            have := ih (d - 2) (by omega) (i + 1) (j + 1) (out ++ [(⟨a[i].f0, mx a[i].f1 b[j].f1⟩ : S64)]) (by omega) (by omega) (by omega) (by simp; omega)
            rw [List.append_assoc] at this
            exact this
      · refine Ev_pos (by omega) (Ev_succ ?_)
        simp only [impl_MergeNotes.j3]
        refine Ev_pos (by simp) (Ev_pos (by omega) (Ev_pos (by omega) (Ev_pos (by omega) ?_)))
        rw [rd64 h1, wr1 h1 (by omega)]
        have := ih (d - 1) (by omega) (i + 1) j (out ++ [a[i]]) (by omega) hj (by omega) (by simp; omega)
        rw [List.append_assoc] at this
        rw [List.drop_of_length_le (show b.length ≤ j by omega), mrg_nil_right] at this ⊢
        exact this
    · refine Ev_neg (by omega) (Ev_succ ?_)
      simp only [impl_MergeNotes.j2]
      by_cases h2 : j < b.length
      · refine Ev_pos (decide_eq_true (by omega)) (Ev_neg (by omega) (Ev_neg (by omega) (Ev_succ ?_)))
        simp only [impl_MergeNotes.j3]
        refine Ev_neg (by simp) (Ev_pos (by omega) (Ev_pos (by omega) (Ev_pos (by omega) (Ev_pos (by omega) ?_))))
        rw [rd64 h2, wr1 h2 (by omega)]
        have := ih (d - 1) (by omega) i (j + 1) (out ++ [b[j]]) hi (by omega) (by omega) (by simp; omega)
        rw [List.append_assoc] at this
        rw [List.drop_of_length_le (show a.length ≤ i by omega), mrg_nil] at this ⊢
        rw [List.drop_eq_getElem_cons h2]
        exact this
      · refine Ev_neg (by simp; omega) ?_
        rw [List.drop_of_length_le (show a.length ≤ i by omega), List.drop_of_length_le (show b.length ≤ j by omega), mrg_nil, List.append_nil]
        refine Ev.bind (ev_impl_NotesOk out (by omega)) ?_
        refine Ev_ite (fun c => ?_) (fun c => ?_)
        · rw [if_pos c]; exact Ev.now _
        · rw [if_neg c]
          exact Ev_some (v_impl_copyNotes a ha) (Ev.now _)
theorem ev_impl_MergeNotes (a b : List S64) (ha : a.length ≤ 1000000000) (hb : b.length ≤ 1000000000) : Ev (fun k => impl_MergeNotes.f k a b) (mergeNotes a b) := by
  unfold impl_MergeNotes.f
  refine Ev.bind (ev_impl_NotesOk a (by omega)) ?_
  unfold mergeNotes
  cases h : notesOk a with
  | false =>
    refine Ev_neg (by simp) (Ev_succ ?_)
    simp only [impl_MergeNotes.j0]
    exact Ev_pos (by simp) (Ev_some (v_impl_copyNotes a (by omega)) (Ev_eq (by simp)))
  | true =>
    refine Ev_pos (by simp) (Ev.bind (ev_impl_NotesOk b (by omega)) (Ev_succ ?_))
    simp only [impl_MergeNotes.j0]
    cases h' : notesOk b with
    | false => exact Ev_pos (by simp) (Ev_some (v_impl_copyNotes a (by omega)) (Ev_eq (by simp)))
    | true =>
      refine Ev_neg (by simp) ?_
      have := ev_impl_MergeNotes_from a b (by omega) (by omega) _ 0 0 [] (Nat.zero_le _) (Nat.zero_le _) rfl (by simp; omega)
      simpa using this

theorem ev_sameNotes (l : List S64) (hl : l.length ≤ 2000000000) : Ev (fun k => laws_sameNotes.f k l l) true := by
  unfold laws_sameNotes.f
  refine Ev_pos rfl ?_
  refine down (P := fun i => Ev (fun k => laws_sameNotes.l0 k l l (i : Int)) true) l.length ?_ ?_ 0 (Nat.zero_le _)
  · refine Ev_succ ?_
    simp only [laws_sameNotes.l0]
    exact Ev_neg (by omega) (Ev.now _)
  · intro i hi ih
    refine Ev_succ ?_
    simp only [laws_sameNotes.l0]
    refine Ev_pos (by omega) (Ev_pos (by omega) (Ev_pos (by omega) (Ev_neg (by simp) ?_)))
    rw [wr1 hi (by omega)]
    exact ih

def noteOf (l : List S64) (id : Int) : Int := match l with
  | [] => 0
  | x :: xs => if x.f0 = id then x.f1 else noteOf xs id

def SrtN (l : List S64) : Prop := l.Pairwise (fun x y => x.f0 < y.f0)
def PosN (l : List S64) : Prop := ∀ x ∈ l, 1 ≤ x.f1
theorem lookN_nonneg {l : List S64} (h : PosN l) (id : Int) : 0 ≤ noteOf l id := by
  induction l with
  | nil => unfold noteOf; omega
  | cons x xs ih =>
    unfold noteOf
    have := h x List.mem_cons_self
    have := ih (fun y hy => h y (List.mem_cons_of_mem _ hy))
    split <;> omega
theorem lookN_lt {l : List S64} (id : Int) (h : ∀ x ∈ l, id < x.f0) : noteOf l id = 0 := by
  induction l with
  | nil => unfold noteOf; rfl
  | cons x xs ih =>
    unfold noteOf
    have := h x List.mem_cons_self
    rw [if_neg (by omega)]
    exact ih (fun y hy => h y (List.mem_cons_of_mem _ hy))
theorem srtN_tail {x : S64} {xs : List S64} (h : SrtN (x :: xs)) : SrtN xs := (List.pairwise_cons.1 h).2
theorem srtN_head {x : S64} {xs : List S64} (h : SrtN (x :: xs)) : ∀ y ∈ xs, x.f0 < y.f0 := (List.pairwise_cons.1 h).1
theorem posN_tail {x : S64} {xs : List S64} (h : PosN (x :: xs)) : PosN xs := fun y hy => h y (List.mem_cons_of_mem _ hy)
theorem lookN_below {x : S64} {xs : List S64} (h : SrtN (x :: xs)) (id : Int) (hid : id < x.f0) : noteOf (x :: xs) id = 0 := by
  apply lookN_lt
  intro y hy
  rcases List.mem_cons.1 hy with rfl | hy
  · exact hid
  · have := srtN_head h y hy; omega
theorem lookN_head {x : S64} {xs : List S64} : noteOf (x :: xs) x.f0 = x.f1 := by
  unfold noteOf; rw [if_pos rfl]
theorem idsN_mrg (a b : List S64) : ∀ x ∈ mrg a b, (∃ y ∈ a, y.f0 = x.f0) ∨ ∃ y ∈ b, y.f0 = x.f0 := by
  fun_induction mrg a b with
  | case1 ys => exact fun x hx => .inr ⟨x, hx, rfl⟩
  | case2 xs h => exact fun x hx => .inl ⟨x, hx, rfl⟩
  | case3 x xs y ys h ih =>
    intro z hz
    rcases List.mem_cons.1 hz with rfl | hz
    · exact .inl ⟨_, List.mem_cons_self, rfl⟩
    · rcases ih z hz with ⟨w, hw, e⟩ | ⟨w, hw, e⟩
      · exact .inl ⟨w, List.mem_cons_of_mem _ hw, e⟩
      · exact .inr ⟨w, hw, e⟩
  | case4 x xs y ys h h' ih =>
    intro z hz
    rcases List.mem_cons.1 hz with rfl | hz
    · exact .inr ⟨_, List.mem_cons_self, rfl⟩
    · rcases ih z hz with ⟨w, hw, e⟩ | ⟨w, hw, e⟩
      · exact .inl ⟨w, hw, e⟩
      · exact .inr ⟨w, List.mem_cons_of_mem _ hw, e⟩
  | case5 x xs y ys h h' ih =>
    intro z hz
    rcases List.mem_cons.1 hz with rfl | hz
    · exact .inl ⟨x, List.mem_cons_self, rfl⟩
    · rcases ih z hz with ⟨w, hw, e⟩ | ⟨w, hw, e⟩
      · exact .inl ⟨w, List.mem_cons_of_mem _ hw, e⟩
      · exact .inr ⟨w, List.mem_cons_of_mem _ hw, e⟩
theorem srtN_mrg (a b : List S64) (ha : SrtN a) (hb : SrtN b) : SrtN (mrg a b) := by
  fun_induction mrg a b with
  | case1 ys => exact hb
  | case2 xs h => exact ha
  | case3 x xs y ys h ih =>
    refine List.pairwise_cons.2 ⟨fun z hz => ?_, ih (srtN_tail ha) hb⟩
    rcases idsN_mrg _ _ z hz with ⟨w, hw, e⟩ | ⟨w, hw, e⟩
    · have := srtN_head ha w hw; omega
    · rcases List.mem_cons.1 hw with rfl | hw
      · omega
      · have := srtN_head hb w hw; omega
  | case4 x xs y ys h h' ih =>
    refine List.pairwise_cons.2 ⟨fun z hz => ?_, ih ha (srtN_tail hb)⟩
    rcases idsN_mrg _ _ z hz with ⟨w, hw, e⟩ | ⟨w, hw, e⟩
    · rcases List.mem_cons.1 hw with rfl | hw
      · omega
      · have := srtN_head ha w hw; omega
    · have := srtN_head hb w hw; omega
  | case5 x xs y ys h h' ih =>
    refine List.pairwise_cons.2 ⟨fun z hz => ?_, ih (srtN_tail ha) (srtN_tail hb)⟩
    show x.f0 < z.f0
    rcases idsN_mrg _ _ z hz with ⟨w, hw, e⟩ | ⟨w, hw, e⟩
    · have := srtN_head ha w hw; omega
    · have := srtN_head hb w hw; omega
theorem posN_mrg (a b : List S64) (ha : PosN a) (hb : PosN b) : PosN (mrg a b) := by
  fun_induction mrg a b with
  | case1 ys => exact hb
  | case2 xs h => exact ha
  | case3 x xs y ys h ih =>
    intro z hz
    rcases List.mem_cons.1 hz with rfl | hz
    · exact ha _ List.mem_cons_self
    · exact ih (posN_tail ha) hb z hz
  | case4 x xs y ys h h' ih =>
    intro z hz
    rcases List.mem_cons.1 hz with rfl | hz
    · exact hb _ List.mem_cons_self
    · exact ih ha (posN_tail hb) z hz
  | case5 x xs y ys h h' ih =>
    intro z hz
    rcases List.mem_cons.1 hz with rfl | hz
    · have := ha x List.mem_cons_self
      have := hb y List.mem_cons_self
      show 1 ≤ mx x.f1 y.f1
      unfold mx; split <;> omega
    · exact ih (posN_tail ha) (posN_tail hb) z hz
theorem lookN_mrg (a b : List S64) (ha : SrtN a) (hb : SrtN b) (pa : PosN a) (pb : PosN b) (id : Int) : noteOf (mrg a b) id = mx (noteOf a id) (noteOf b id) := by
  fun_induction mrg a b with
  | case1 ys =>
    have := lookN_nonneg pb id
    rw [show noteOf [] id = 0 from by unfold noteOf; rfl]
    unfold mx; split <;> omega
  | case2 xs h =>
    have := lookN_nonneg pa id
    rw [show noteOf [] id = 0 from by unfold noteOf; rfl]
    unfold mx; split <;> omega
  | case3 x xs y ys h ih =>
    have ih := ih (srtN_tail ha) hb (posN_tail pa) pb
    have p1 := pa x List.mem_cons_self
    by_cases e : x.f0 = id
    · have hz := lookN_below hb id (by omega)
      rw [hz, ← e, lookN_head, lookN_head]
      unfold mx; split <;> omega
    · rw [noteOf, if_neg e, ih]
      rw [show noteOf (x :: xs) id = noteOf xs id from by rw [noteOf, if_neg e]]
  | case4 x xs y ys h h' ih =>
    have ih := ih ha (srtN_tail hb) pa (posN_tail pb)
    have p1 := pb y List.mem_cons_self
    by_cases e : y.f0 = id
    · have hz := lookN_below ha id (by omega)
      rw [hz, ← e, lookN_head, lookN_head]
      unfold mx; split <;> omega
    · rw [noteOf, if_neg e, ih]
      rw [show noteOf (y :: ys) id = noteOf ys id from by rw [noteOf, if_neg e]]
  | case5 x xs y ys h h' ih =>
    have ih := ih (srtN_tail ha) (srtN_tail hb) (posN_tail pa) (posN_tail pb)
    have exy : x.f0 = y.f0 := by omega
    by_cases e : x.f0 = id
    · rw [noteOf, if_pos e, ← e, lookN_head]
      rw [exy, lookN_head]
    · rw [noteOf, if_neg e, ih]
      rw [show noteOf (x :: xs) id = noteOf xs id from by rw [noteOf, if_neg e], show noteOf (y :: ys) id = noteOf ys id from by rw [noteOf, if_neg (by omega)]]
theorem extN (a b : List S64) (ha : SrtN a) (hb : SrtN b) (pa : PosN a) (pb : PosN b) (h : ∀ id, noteOf a id = noteOf b id) : a = b := by
  induction a generalizing b with
  | nil =>
    cases b with
    | nil => rfl
    | cons y ys =>
      have := h y.f0
      rw [lookN_head] at this
      have hp := pb y List.mem_cons_self
      unfold noteOf at this
      omega
  | cons x xs ih =>
    cases b with
    | nil =>
      have := h x.f0
      rw [lookN_head] at this
      have hp := pa x List.mem_cons_self
      unfold noteOf at this
      omega
    | cons y ys =>
      have hx := h x.f0
      have hy := h y.f0
      rw [lookN_head] at hx hy
      have px := pa x List.mem_cons_self
      have py := pb y List.mem_cons_self
      have e : x.f0 = y.f0 := by
        by_cases c : x.f0 < y.f0
        · rw [lookN_below hb _ c] at hx; omega
        · by_cases c' : y.f0 < x.f0
          · rw [lookN_below ha _ c'] at hy; omega
          · omega
      rw [e, lookN_head] at hx
      have exy : x = y := by cases x; cases y; simp_all
      subst exy
      rw [ih ys (srtN_tail ha) (srtN_tail hb) (posN_tail pa) (posN_tail pb) (fun id => ?_)]
      by_cases c : x.f0 = id
      · have h1 := lookN_lt (l := xs) id (fun z hz => by have := srtN_head ha z hz; omega)
        have h2 := lookN_lt (l := ys) id (fun z hz => by have := srtN_head hb z hz; omega)
        rw [h1, h2]
      · have := h id
        rw [noteOf, if_neg c, noteOf, if_neg c] at this
        exact this
theorem mx_comm (a b : Int) : mx a b = mx b a := by unfold mx; split <;> split <;> omega
theorem mx_assoc (a b c : Int) : mx (mx a b) c = mx a (mx b c) := by unfold mx; repeat' split <;> omega
theorem mx_self (a : Int) : mx a a = a := by unfold mx; split <;> rfl
theorem mrgN_comm (a b : List S64) (ha : SrtN a) (hb : SrtN b) (pa : PosN a) (pb : PosN b) : mrg a b = mrg b a :=
  extN _ _ (srtN_mrg _ _ ha hb) (srtN_mrg _ _ hb ha) (posN_mrg _ _ pa pb) (posN_mrg _ _ pb pa) (fun id => by rw [lookN_mrg _ _ ha hb pa pb, lookN_mrg _ _ hb ha pb pa, mx_comm])
theorem mrgN_assoc (a b c : List S64) (ha : SrtN a) (hb : SrtN b) (hc : SrtN c) (pa : PosN a) (pb : PosN b) (pc : PosN c) : mrg (mrg a b) c = mrg a (mrg b c) :=
  extN _ _ (srtN_mrg _ _ (srtN_mrg _ _ ha hb) hc) (srtN_mrg _ _ ha (srtN_mrg _ _ hb hc)) (posN_mrg _ _ (posN_mrg _ _ pa pb) pc) (posN_mrg _ _ pa (posN_mrg _ _ pb pc)) (fun id => by
    rw [lookN_mrg _ _ (srtN_mrg _ _ ha hb) hc (posN_mrg _ _ pa pb) pc, lookN_mrg _ _ ha hb pa pb, lookN_mrg _ _ ha (srtN_mrg _ _ hb hc) pa (posN_mrg _ _ pb pc), lookN_mrg _ _ hb hc pb pc, mx_assoc])
theorem mrgN_self (a : List S64) (ha : SrtN a) (pa : PosN a) : mrg a a = a :=
  extN _ _ (srtN_mrg _ _ ha ha) ha (posN_mrg _ _ pa pa) pa (fun id => by rw [lookN_mrg _ _ ha ha pa pa, mx_self])
theorem notesOk_iff (l : List S64) : notesOk l = true ↔ (∀ x ∈ l, 1 ≤ x.f0 ∧ x.f0 ≤ 1000000 ∧ 1 ≤ x.f1 ∧ x.f1 ≤ 16777215) ∧ SrtN l ∧ l.length ≤ 130 := by
  unfold notesOk
  rw [Bool.and_eq_true, List.all_eq_true, decide_eq_true_iff]
  have key : ∀ i (h : i < l.length), nOk l i = true ↔ (1 ≤ l[i].f0 ∧ l[i].f0 ≤ 1000000 ∧ 1 ≤ l[i].f1 ∧ l[i].f1 ≤ 16777215) ∧ (0 < i → (l[i - 1]'(by omega)).f0 < l[i].f0) := by
    intro i h
    unfold nOk
    rw [rd64 h, rd64 (show i - 1 < l.length by omega)]
    simp only [Bool.and_eq_true, Bool.or_eq_true, decide_eq_true_iff]
    constructor
    · rintro ⟨⟨⟨h1, h2⟩, h3, h4⟩, h5⟩
      exact ⟨⟨h1, h2, h3, h4⟩, fun hi => h5.resolve_left (by omega)⟩
    · rintro ⟨⟨h1, h2, h3, h4⟩, h5⟩
      refine ⟨⟨⟨h1, h2⟩, h3, h4⟩, ?_⟩
      by_cases hi : i = 0
      · exact .inl hi
      · exact .inr (h5 (by omega))
  constructor
  · rintro ⟨h, hl⟩
    have h' : ∀ i (hi : i < l.length), _ := fun i hi => (key i hi).1 (h i (List.mem_range.2 hi))
    refine ⟨fun x hx => ?_, ?_, by omega⟩
    · obtain ⟨i, hi, rfl⟩ := List.getElem_of_mem hx
      exact (h' i hi).1
    · have : ∀ d i (hj : i + d + 1 < l.length), (l[i]'(by omega)).f0 < (l[i + d + 1]'hj).f0 := by
        intro d
        induction d with
        | zero => intro i hj; exact (h' (i + 0 + 1) hj).2 (by omega)
        | succ d ih =>
          intro i hj
          have a := ih i (by omega)
          have b := (h' (i + (d + 1) + 1) hj).2 (by omega)
          have e : i + (d + 1) + 1 - 1 = i + d + 1 := by omega
          simp only [e] at b
          omega
      refine List.pairwise_iff_getElem.2 (fun i j hi hj hij => ?_)
      have := this (j - i - 1) i (by omega)
      have e : i + (j - i - 1) + 1 = j := by omega
      simp only [e] at this
      exact this
  · rintro ⟨h, hs, hl⟩
    refine ⟨fun i hi => ?_, by omega⟩
    have hi := List.mem_range.1 hi
    refine (key i hi).2 ⟨h _ (List.getElem_mem hi), fun h0 => ?_⟩
    exact List.pairwise_iff_getElem.1 hs (i - 1) i (by omega) hi (by omega)
theorem notesOk_srt {l : List S64} (h : notesOk l = true) : SrtN l := ((notesOk_iff l).1 h).2.1
theorem notesOk_pos {l : List S64} (h : notesOk l = true) : PosN l := fun x hx => (((notesOk_iff l).1 h).1 x hx).2.2.1
theorem notesOk_len {l : List S64} (h : notesOk l = true) : l.length ≤ 130 := ((notesOk_iff l).1 h).2.2

theorem mrg_ok {a b : List S64} (ha : notesOk a = true) (hb : notesOk b = true) (h : a.length + b.length ≤ 130) : notesOk (mrg a b) = true := by
  refine (notesOk_iff _).2 ⟨?_, srtN_mrg a b (notesOk_srt ha) (notesOk_srt hb), by have := mrg_length a b; omega⟩
  have ra := ((notesOk_iff _).1 ha).1
  have rb := ((notesOk_iff _).1 hb).1
  clear ha hb h
  fun_induction mrg a b with
  | case1 ys => exact rb
  | case2 xs h => exact ra
  | case3 x xs y ys h ih =>
    intro z hz
    rcases List.mem_cons.1 hz with rfl | hz
    · exact ra _ List.mem_cons_self
    · exact ih (fun w hw => ra w (List.mem_cons_of_mem _ hw)) rb z hz
  | case4 x xs y ys h h' ih =>
    intro z hz
    rcases List.mem_cons.1 hz with rfl | hz
    · exact rb _ List.mem_cons_self
    · exact ih ra (fun w hw => rb w (List.mem_cons_of_mem _ hw)) z hz
  | case5 x xs y ys h h' ih =>
    intro z hz
    rcases List.mem_cons.1 hz with rfl | hz
    · have := ra x List.mem_cons_self
      have := rb y List.mem_cons_self
      show 1 ≤ x.f0 ∧ x.f0 ≤ 1000000 ∧ 1 ≤ mx x.f1 y.f1 ∧ mx x.f1 y.f1 ≤ 16777215
      unfold mx
      split <;> omega
    · exact ih (fun w hw => ra w (List.mem_cons_of_mem _ hw)) (fun w hw => rb w (List.mem_cons_of_mem _ hw)) z hz
theorem mergeNotes_ok {a b : List S64} (ha : notesOk a = true) (hb : notesOk b = true) (h : a.length + b.length ≤ 130) : mergeNotes a b = mrg a b := by
  unfold mergeNotes
  rw [if_pos (by rw [ha, hb, mrg_ok ha hb h]; rfl)]
theorem pure_law : laws_FnMergedThree.Pure := by
  intro l0 hm _ _
  refine EvP_true (g := fun k => laws_FnMergedThree.f k l0) ?_
  unfold laws_FnMergedThree.f
  refine EvP_some rfl ?_
  refine EvP_ite (fun _ => EvP_now rfl) (fun hb => ?_)
  have hl : l0.length ≤ 1048576 := by
    have : ¬ (l0.length : Int) > 1048576 := fun e => hb (decide_eq_true e)
    omega
  refine EvP_bind (ev_spec_DrawMergeNotes l0 hl) (fun ab hab => ?_)
  obtain ⟨a, b⟩ := ab
  obtain ⟨ha, hb'⟩ := hab
  dsimp only at ha hb' ⊢
  refine EvP_bind (ev_spec_DrawCovers l0 hl) (fun cd hcd => ?_)
  obtain ⟨c, d⟩ := cd
  obtain ⟨hc, hd⟩ := hcd
  dsimp only at hc hd ⊢
  have m1 := mergeNotes_length a b
  refine EvP_bindE (ev_impl_MergeNotes a b (by omega) (by omega)) ?_
  refine EvP_bindE (ev_spec_MergeNotes a b (by omega) (by omega)) ?_
  refine EvP_bindE (ev_sameNotes _ (by omega)) (EvP_pos (by simp) ?_)
  have out : EvP (fun k => laws_FnMergedThree.j0 k a b c (mergeNotes a b) true) (fun r => r = true) := by
    refine EvP_succ ?_
    simp only [laws_FnMergedThree.j0]
    exact EvP_pos (by simp) (EvP_now rfl)
  refine EvP_bindE (ev_impl_NotesOk a (by omega)) (EvP_ite (fun oa => ?_) (fun _ => out))
  refine EvP_bindE (ev_impl_NotesOk b (by omega)) (EvP_ite (fun ob => ?_) (fun _ => out))
  refine EvP_bindE (ev_impl_NotesOk c (by omega)) (EvP_ite (fun oc => ?_) (fun _ => out))
  rw [wr (x := (a.length : Int) + (b.length : Int)) (by omega) (by omega), wr (by omega) (by omega)]
  by_cases h : (a.length : Int) + (b.length : Int) + (c.length : Int) > 130
  · rw [decide_eq_true h]; exact out
  rw [decide_eq_false h]
  refine EvP_succ ?_
  simp only [laws_FnMergedThree.j0]
  refine EvP_neg (by simp) ?_
  have e1 := mergeNotes_ok oa ob (by omega)
  have e2 := mergeNotes_ok ob oc (by omega)
  have l1 := mrg_length a b
  have l2 := mrg_length b c
  have o1 := mrg_ok oa ob (by omega)
  have o2 := mrg_ok ob oc (by omega)
  have e3 := mergeNotes_ok o1 oc (by omega)
  have e4 := mergeNotes_ok oa o2 (by omega)
  have e5 := mergeNotes_ok ob oa (by omega)
  have assoc := mrgN_assoc a b c (notesOk_srt oa) (notesOk_srt ob) (notesOk_srt oc) (notesOk_pos oa) (notesOk_pos ob) (notesOk_pos oc)
  have comm := mrgN_comm b a (notesOk_srt ob) (notesOk_srt oa) (notesOk_pos ob) (notesOk_pos oa)
  have l3 := mrg_length (mrg a b) c
  rw [e1]
  refine EvP_bindE (ev_impl_MergeNotes (mrg a b) c (by omega) (by omega)) ?_
  refine EvP_bindE (ev_impl_MergeNotes b c (by omega) (by omega)) ?_
  rw [e2]
  refine EvP_bindE (ev_impl_MergeNotes a (mrg b c) (by omega) (by omega)) ?_
  rw [e3, e4, ← assoc]
  refine EvP_bindE (ev_sameNotes _ (by omega)) (EvP_pos (by simp) ?_)
  refine EvP_bindE (ev_impl_MergeNotes b a (by omega) (by omega)) ?_
  rw [e5, comm]
  exact EvP_bindE (ev_sameNotes _ (by omega)) (EvP_now rfl)

end Go.Proofs.Ytdmhdfdlljafbaa.PFnMergedThree
namespace Go.Proofs.Ytdmhdfdlljafbaa.Pure
theorem FnMergedThree : Go.Proofs.Ytdmhdfdlljafbaa.PFnMergedThree.laws_FnMergedThree.Pure := Go.Proofs.Ytdmhdfdlljafbaa.PFnMergedThree.pure_law
end Go.Proofs.Ytdmhdfdlljafbaa.Pure
