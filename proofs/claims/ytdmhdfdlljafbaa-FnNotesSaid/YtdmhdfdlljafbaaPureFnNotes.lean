/- What is left of the law FnNotes: over lists and numbers alone. No condition beyond the statement's own. -/
import Derived.Test.YtdmhdfdlljafbaaPFnNotesx
import Derived.Test.YtdmhdfdlljafbaaVFnNotes
namespace Go.Proofs.Ytdmhdfdlljafbaa.PFnNotes
open Go.RowKit Go.Proofs.YtdmhdfdlljafbaaW.PrintWords Go.Proofs.YtdmhdfdlljafbaaW.PrintLast Go.Proofs.YtdmhdfdlljafbaaW.PrintMore Go.Proofs.YtdmhdfdlljafbaaV
set_option linter.unusedVariables false
set_option linter.unusedSimpArgs false
theorem rd64 {l : List S64} {i : Nat} (h : i < l.length) : rd_T64 l (i : Int) = l[i] := by
  unfold rd_T64
  simp [List.getD, List.getElem?_eq_getElem h]
theorem rds64 {l : List S64} {i : Nat} (h : i < l.length) (v : S64) : rd_T64 (l.set i v) (i : Int) = v := by
  unfold rd_T64
  simp [List.getD, h]

theorem v_spec_l1In (a b c : Int) : spec_l1In.f a b c = some (decide (b ≤ a ∧ a ≤ c)) := by
  unfold spec_l1In.f
  by_cases h : a ≥ b
  · rw [if_pos h]
    simp [show b ≤ a from h]
  · rw [if_neg h]
    simp [show ¬ b ≤ a from h]

def nOk (l : List S64) (i : Nat) : Bool := decide (1 ≤ (rd_T64 l (i : Int)).f0 ∧ (rd_T64 l (i : Int)).f0 ≤ 1000000) && decide (1 ≤ (rd_T64 l (i : Int)).f1 ∧ (rd_T64 l (i : Int)).f1 ≤ 16777215) && (decide (i = 0) || decide ((rd_T64 l ((i - 1 : Nat) : Int)).f0 < (rd_T64 l (i : Int)).f0))
def notesOk (l : List S64) : Bool := (List.range l.length).all (nOk l) && decide ((l.length : Int) ≤ 130)

theorem ev_spec_NotesOk (l : List S64) (hl : l.length ≤ 2000000000) : Ev (fun k => spec_NotesOk.f k l) (notesOk l) := by
  unfold spec_NotesOk.f
  refine evAll (fun k i => spec_NotesOk.l0 k l i) l (nOk l) _ ?_ (fun i hi r ht hf => ?_)
  · refine Ev_succ ?_
    simp only [spec_NotesOk.l0]
    exact Ev_neg (by omega) (Ev.now _)
  · refine Ev_succ ?_
    simp only [spec_NotesOk.l0, v_spec_l1In, Option.bind_some]
    refine Ev_pos (by omega) (Ev_pos (by omega) ?_)
    rw [wr1 hi (by omega)]
    refine Ev_ite (fun h1 => ?_) (fun h1 => ?_)
    · refine Ev_ite (fun h2 => ?_) (fun h2 => ?_)
      · refine Ev_ite (fun h3 => ?_) (fun h3 => ?_)
        · have e : wrap64 ((i : Int) - 1) = ((i - 1 : Nat) : Int) := by rw [wr (by omega) (by omega)]; omega
          rw [e]
          refine Ev_pos (by omega) (Ev_pos (by omega) ?_)
          refine Ev_ite (fun h4 => ?_) (fun h4 => ?_)
          · refine Ev_eq (hf ?_).symm
            unfold nOk
            rw [show decide (i = 0) = false from decide_eq_false (by omega), show decide ((rd_T64 l ((i - 1 : Nat) : Int)).f0 < (rd_T64 l (i : Int)).f0) = false from decide_eq_false (by omega)]
            simp
          · refine ht ?_
            unfold nOk
            rw [show decide ((rd_T64 l ((i - 1 : Nat) : Int)).f0 < (rd_T64 l (i : Int)).f0) = true from decide_eq_true (by omega), h1, h2]
            simp
        · refine ht ?_
          unfold nOk
          rw [show decide (i = 0) = true from decide_eq_true (by omega), h1, h2]
          simp
      · refine Ev_eq (hf ?_).symm
        unfold nOk
        rw [Bool.eq_false_iff.mpr h2]
        simp
    · refine Ev_eq (hf ?_).symm
      unfold nOk
      rw [Bool.eq_false_iff.mpr h1]
      simp

theorem v_spec_l1Max (a b : Int) : spec_l1Max.f a b = some (mx a b) := by
  unfold spec_l1Max.f mx
  by_cases h : a > b
  · rw [if_pos h, if_neg (by omega)]
  · rw [if_neg h]
    by_cases h' : a < b
    · rw [if_pos h']
    · rw [if_neg h']
      congr 1
      omega

def mrg (a b : List S64) : List S64 :=
  match a, b with
  | [], ys => ys
  | xs, [] => xs
  | x :: xs, y :: ys => if x.f0 < y.f0 then x :: mrg xs (y :: ys) else if y.f0 < x.f0 then y :: mrg (x :: xs) ys else (⟨x.f0, mx x.f1 y.f1⟩ : S64) :: mrg xs ys
termination_by a.length + b.length
theorem mrg_nil (ys : List S64) : mrg [] ys = ys := by unfold mrg; rfl
theorem mrg_nil_right (xs : List S64) : mrg xs [] = xs := by
  cases xs with
  | nil => exact mrg_nil _
  | cons x xs => unfold mrg; rfl
theorem mrg_cons (x y : S64) (xs ys : List S64) : mrg (x :: xs) (y :: ys) = if x.f0 < y.f0 then x :: mrg xs (y :: ys) else if y.f0 < x.f0 then y :: mrg (x :: xs) ys else (⟨x.f0, mx x.f1 y.f1⟩ : S64) :: mrg xs ys := by
  rw [mrg]
theorem mrg_length (a b : List S64) : (mrg a b).length ≤ a.length + b.length := by
  fun_induction mrg a b <;> simp_all <;> omega

theorem ev_spec_l22Merge_from (a b : List S64) (ha : a.length ≤ 2000000000) (hb : b.length ≤ 2000000000) : ∀ (d i j : Nat) (out : List S64), i ≤ a.length → j ≤ b.length → (a.length - i) + (b.length - j) = d → out.length + d ≤ 4000000000 →
    Ev (fun k => spec_l22Merge.l0 k a b out (i : Int) (j : Int)) (out ++ mrg (a.drop i) (b.drop j)) := by
  intro d
  induction d using Nat.strongRecOn with
  | _ d ih =>
    intro i j out hi hj hd ho
    refine Ev_succ ?_
    simp only [spec_l22Merge.l0]
    by_cases h1 : i < a.length
    · refine Ev_pos (by omega) (Ev_succ ?_)
      simp only [spec_l22Merge.j1]
      refine Ev_pos (by simp) ?_
      rw [List.drop_eq_getElem_cons h1]
      by_cases h2 : j < b.length
      · refine Ev_neg (by omega) (Ev_pos (by omega) (Ev_pos (by omega) (Ev_pos (by omega) (Ev_pos (by omega) (Ev_succ ?_)))))
        simp only [spec_l22Merge.j2]
        rw [List.drop_eq_getElem_cons h2, rd64 h1, rd64 h2, mrg_cons, wr1 h1 (by omega), wr1 h2 (by omega)]
        refine Ev_ite (fun c => ?_) (fun c => ?_)
        · have c' : a[i].f0 < b[j].f0 := by simpa using c
          rw [if_pos c', ← List.drop_eq_getElem_cons h2]
          refine Ev_pos (by omega) (Ev_pos (by omega) (Ev_pos (by omega) ?_))
          have := ih (d - 1) (by omega) (i + 1) j (out ++ [a[i]]) (by omega) hj (by omega) (by simp; omega)
          rw [List.append_assoc] at this
          exact this
        · have c' : ¬ a[i].f0 < b[j].f0 := by simpa using c
          rw [if_neg c']
          refine Ev_neg (by omega) (Ev_pos (by omega) (Ev_pos (by omega) (Ev_pos (by omega) (Ev_pos (by omega) ?_))))
          refine Ev_ite (fun e => ?_) (fun e => ?_)
          · rw [if_pos e, ← List.drop_eq_getElem_cons h1]
            refine Ev_pos (by omega) ?_
            have := ih (d - 1) (by omega) i (j + 1) (out ++ [b[j]]) hi (by omega) (by omega) (by simp; omega)
            rw [List.append_assoc] at this
            exact this
          · rw [if_neg e]
            refine Ev_some (v_spec_l1Max _ _) (Ev_pos (by omega) ?_)
            have := ih (d - 2) (by omega) (i + 1) (j + 1) (out ++ [(⟨a[i].f0, mx a[i].f1 b[j].f1⟩ : S64)]) (by omega) (by omega) (by omega) (by simp; omega)
            rw [List.append_assoc] at this
            exact this
      · refine Ev_pos (by omega) (Ev_succ ?_)
        simp only [spec_l22Merge.j2]
        refine Ev_pos (by simp) (Ev_pos (by omega) (Ev_pos (by omega) (Ev_pos (by omega) ?_)))
        rw [rd64 h1, wr1 h1 (by omega)]
        have := ih (d - 1) (by omega) (i + 1) j (out ++ [a[i]]) (by omega) hj (by omega) (by simp; omega)
        rw [List.append_assoc] at this
        rw [List.drop_of_length_le (show b.length ≤ j by omega), mrg_nil_right] at this ⊢
        exact this
    · refine Ev_neg (by omega) (Ev_succ ?_)
      simp only [spec_l22Merge.j1]
      by_cases h2 : j < b.length
      · refine Ev_pos (decide_eq_true (by omega)) (Ev_neg (by omega) (Ev_neg (by omega) (Ev_succ ?_)))
        simp only [spec_l22Merge.j2]
        refine Ev_neg (by simp) (Ev_pos (by omega) (Ev_pos (by omega) (Ev_pos (by omega) (Ev_pos (by omega) ?_))))
        rw [rd64 h2, wr1 h2 (by omega)]
        have := ih (d - 1) (by omega) i (j + 1) (out ++ [b[j]]) hi (by omega) (by omega) (by simp; omega)
        rw [List.append_assoc] at this
        rw [List.drop_of_length_le (show a.length ≤ i by omega), mrg_nil] at this ⊢
        rw [List.drop_eq_getElem_cons h2]
        exact this
      · refine Ev_neg (by simp; omega) ?_
        rw [List.drop_of_length_le (show a.length ≤ i by omega), List.drop_of_length_le (show b.length ≤ j by omega), mrg_nil, List.append_nil]
        exact Ev.now _
theorem ev_spec_l22Merge (a b : List S64) (ha : a.length ≤ 2000000000) (hb : b.length ≤ 2000000000) : Ev (fun k => spec_l22Merge.f k a b) (mrg a b) := by
  unfold spec_l22Merge.f
  have := ev_spec_l22Merge_from a b ha hb _ 0 0 [] (Nat.zero_le _) (Nat.zero_le _) rfl (by simp; omega)
  simpa using this

def mergeNotes (a b : List S64) : List S64 := if (notesOk a && notesOk b && notesOk (mrg a b)) = true then mrg a b else a
theorem mergeNotes_length (a b : List S64) : (mergeNotes a b).length ≤ a.length + b.length := by
  unfold mergeNotes
  split
  · exact mrg_length a b
  · omega

theorem ev_spec_MergeNotes (a b : List S64) (ha : a.length ≤ 1000000000) (hb : b.length ≤ 1000000000) : Ev (fun k => spec_MergeNotes.f k a b) (mergeNotes a b) := by
  unfold spec_MergeNotes.f
  simp only [Option.bind_some, List.nil_append, List.length_nil, Nat.zero_add]
  refine Ev_pos (by omega) ?_
  refine Ev.bind (ev_spec_NotesOk a (by omega)) ?_
  unfold mergeNotes
  cases h : notesOk a with
  | false =>
    refine Ev_neg (by simp) (Ev_succ ?_)
    simp only [spec_MergeNotes.j0]
    exact Ev_pos (by simp) (Ev_eq (by simp))
  | true =>
    refine Ev_pos (by simp) (Ev.bind (ev_spec_NotesOk b (by omega)) (Ev_succ ?_))
    simp only [spec_MergeNotes.j0]
    cases h' : notesOk b with
    | false => exact Ev_pos (by simp) (Ev_eq (by simp))
    | true =>
      have hl := mrg_length a b
      refine Ev_neg (by simp) (Ev.bind (ev_spec_l22Merge a b (by omega) (by omega)) (Ev.bind (ev_spec_NotesOk _ (by omega)) ?_))
      refine Ev_ite (fun c => ?_) (fun c => ?_)
      · exact Ev_eq (by simp [c])
      · exact Ev_eq (by simp [c])

theorem ev_spec_l1New (xs : List Int) (hl : xs.length ≤ 1048576) : EvP (fun k => spec_l1New.f k xs) (fun r => r.1 = xs ∧ Cur xs r.2.1) := by
  unfold spec_l1New.f
  have key : ∀ i, i ≤ xs.length → ∀ h : Int, EvP (fun k => spec_l1New.l0 k xs h (i : Int)) (fun r => r.1 = xs ∧ Cur xs r.2.1) := by
    refine down (P := fun i => ∀ h : Int, EvP (fun k => spec_l1New.l0 k xs h (i : Int)) (fun r => r.1 = xs ∧ Cur xs r.2.1)) xs.length ?_ ?_
    · intro h
      refine EvP_succ ?_
      simp only [spec_l1New.l0]
      exact EvP_neg (by omega) (EvP_now ⟨rfl, by show Cur xs 0; unfold Cur; omega⟩)
    · intro i hi ih h
      refine EvP_succ ?_
      simp only [spec_l1New.l0]
      refine EvP_pos (by omega) (EvP_ite (fun _ => EvP_pos (by omega) ?_) (fun _ => EvP_now ⟨rfl, by show Cur xs 0; unfold Cur; omega⟩))
      rw [wr1 hi (by omega)]
      exact ih _
  exact key 0 (Nat.zero_le _) _

theorem so_spec_l1Byte (xs : List Int) (p s : Int) (hc : Cur xs p) : SoP (spec_l1Byte.f xs p s) (fun r => 0 ≤ r.1 ∧ r.1 ≤ 255 ∧ Cur xs r.2.1) := by
  unfold spec_l1Byte.f
  unfold Cur at hc
  refine SoP_ite (fun h => SoP_pos (by omega) (SoP_now ⟨(band255 _).1, (band255 _).2, ?_⟩)) (fun h => SoP_now ⟨(band255 _).1, (band255 _).2, ?_⟩)
  · show Cur xs (wrap64 (p + 1))
    rw [wr (by omega) (by omega)]
    unfold Cur; omega
  · exact hc

theorem so_spec_l1Below (xs : List Int) (p s a : Int) (hc : Cur xs p) (ha : 0 < a) (hb : a ≤ 256) : SoP (spec_l1Below.f xs p s a) (fun r => 0 ≤ r.1 ∧ r.1 < a ∧ Cur xs r.2.1) := by
  unfold spec_l1Below.f
  refine SoP_neg (by omega) (SoP_pos hb (SoP_bind (so_spec_l1Byte xs p s hc) (fun r h => SoP_neg (by omega) (SoP_now ?_))))
  exact ⟨(tmod_range _ _ h.1 ha).1, (tmod_range _ _ h.1 ha).2, h.2.2⟩

theorem ev_spec_l3DrawNotes (xs : List Int) (p s : Int) (hc : Cur xs p) : EvP (fun k => spec_l3DrawNotes.f k xs p s) (fun r => r.1.length ≤ 25 ∧ Cur xs r.2.1) := by
  unfold spec_l3DrawNotes.f
  have key : ∀ (d : Nat) (n : Int) (out : List S64) (p s : Int), 1 ≤ n → n ≤ 40 → (25 - n).toNat ≤ d → (out.length : Int) + 1 ≤ n → out.length ≤ 25 → Cur xs p → EvP (fun k => spec_l3DrawNotes.l0 k out n xs p s) (fun r => r.1.length ≤ 25 ∧ Cur xs r.2.1) := by
    intro d
    induction d with
    | zero =>
      intro n out p s h1 h2 h3 h4 h5 hc
      refine EvP_succ ?_
      simp only [spec_l3DrawNotes.l0]
      exact EvP_neg (by omega) (EvP_now ⟨h5, hc⟩)
    | succ d ih =>
      intro n out p s h1 h2 h3 h4 h5 hc
      refine EvP_succ ?_
      simp only [spec_l3DrawNotes.l0]
      refine EvP_ite (fun hn => ?_) (fun hn => EvP_now ⟨h5, hc⟩)
      refine EvP_bindS (so_spec_l1Below xs p s 5 hc (by omega) (by omega)) (fun r h => EvP_pos (by omega) ?_)
      refine EvP_bindS (so_spec_l1Below xs _ _ 12 h.2.2 (by omega) (by omega)) (fun q hq => ?_)
      obtain ⟨q0, q1, q2⟩ := hq
      rw [wr (x := n + 1) (by omega) (by omega), wr (x := n + 1 + q.1) (by omega) (by omega)]
      exact ih _ _ _ _ (by omega) (by omega) (by omega) (by rw [List.length_append]; simp; omega) (by rw [List.length_append]; simp; omega) q2
  exact key 24 1 [] p s (by omega) (by omega) (by omega) (by simp) (by simp) hc

theorem ev_spec_l22Draw (xs : List Int) (p s : Int) (hc : Cur xs p) : EvP (fun k => spec_l22Draw.f k xs p s) (fun r => r.1.length ≤ 200 ∧ Cur xs r.2.1) := by
  unfold spec_l22Draw.f
  have key : ∀ (d : Nat) (n : Int) (out : List S64) (p s : Int), 0 ≤ n → n ≤ 131 → (131 - n).toNat ≤ d → (out.length : Int) = n → Cur xs p → EvP (fun k => spec_l22Draw.l0 k out n xs p s) (fun r => r.1.length ≤ 200 ∧ Cur xs r.2.1) := by
    intro d
    induction d with
    | zero =>
      intro n out p s h1 h2 h3 h4 hc
      refine EvP_succ ?_
      simp only [spec_l22Draw.l0]
      refine EvP_bindS (so_spec_l1Below xs p s 2 hc (by omega) (by omega)) (fun r h => ?_)
      obtain ⟨r0, r1, r2⟩ := h
      rw [wr (x := 130 + r.1) (by omega) (by omega)]
      exact EvP_neg (by omega) (EvP_now ⟨by show out.length ≤ 200; omega, r2⟩)
    | succ d ih =>
      intro n out p s h1 h2 h3 h4 hc
      refine EvP_succ ?_
      simp only [spec_l22Draw.l0]
      refine EvP_bindS (so_spec_l1Below xs p s 2 hc (by omega) (by omega)) (fun r h => ?_)
      obtain ⟨r0, r1, r2⟩ := h
      rw [wr (x := 130 + r.1) (by omega) (by omega)]
      refine EvP_ite (fun hn => EvP_pos (by omega) ?_) (fun hn => EvP_now ⟨by show out.length ≤ 200; omega, r2⟩)
      rw [wr (x := n + 1) (by omega) (by omega)]
      exact ih _ _ _ _ (by omega) (by omega) (by omega) (by rw [List.length_append]; simp; omega) r2
  refine EvP_bind (ev_spec_l3DrawNotes xs p s hc) (fun r h => EvP_bindS (so_spec_l1Below xs _ _ 14 h.2 (by omega) (by omega)) (fun q hq => ?_))
  obtain ⟨q0, q1, q2⟩ := hq
  have h1 := h.1
  refine EvP_ite (fun _ => ?_) (fun _ => EvP_ite (fun _ => ?_) (fun _ => EvP_now ⟨by show r.1.length ≤ 200; omega, q2⟩))
  · refine EvP_bindS (so_spec_l1Below xs _ _ 40 q2 (by omega) (by omega)) (fun u hu => EvP_bindS (so_spec_l1Below xs _ _ 2 hu.2.2 (by omega) (by omega)) (fun v hv => EvP_pos (by omega) (EvP_now ⟨?_, hv.2.2⟩)))
    show (r.1 ++ _).length ≤ 200
    rw [List.length_append]; simp; omega
  · exact key 131 _ _ _ _ (by omega) (by omega) (by omega) rfl q2

theorem so_spec_l1Once (xs : List Int) (p s a : Int) (hc : Cur xs p) (ha : 0 < a) (hb : a ≤ 256) : SoP (spec_l1Once.f xs p s a) (fun r => Cur xs r.2.1) := by
  unfold spec_l1Once.f
  exact SoP_bind (so_spec_l1Below xs p s a hc ha hb) (fun r h => SoP_now h.2.2)

theorem ev_spec_l22DrawTwo (xs : List Int) (hl : xs.length ≤ 1048576) : EvP (fun k => spec_l22DrawTwo.f k xs) (fun r => r.1.length ≤ 400 ∧ r.2.length ≤ 400) := by
  unfold spec_l22DrawTwo.f
  refine EvP_bind (ev_spec_l1New xs hl) (fun r h => ?_)
  obtain ⟨h1, h2⟩ := h
  rw [h1]
  refine EvP_bind (ev_spec_l22Draw xs _ _ h2) (fun q hq => EvP_bind (ev_spec_l22Draw xs _ _ hq.2) (fun u hu => EvP_bindS (so_spec_l1Once xs _ _ 3 hu.2 (by omega) (by omega)) (fun v hv => ?_)))
  have hq1 := hq.1
  have hu1 := hu.1
  have hm := mergeNotes_length q.1 u.1
  refine EvP_ite (fun _ => ?_) (fun _ => EvP_now ⟨by show q.1.length ≤ 400; omega, by show u.1.length ≤ 400; omega⟩)
  exact EvP_bindE (ev_spec_MergeNotes q.1 u.1 (by omega) (by omega)) (EvP_now ⟨by show (mergeNotes q.1 u.1).length ≤ 400; omega, by show u.1.length ≤ 400; omega⟩)

theorem ev_spec_DrawMergeNotes (xs : List Int) (hl : xs.length ≤ 1048576) : EvP (fun k => spec_DrawMergeNotes.f k xs) (fun r => r.1.length ≤ 400 ∧ r.2.length ≤ 400) := by
  unfold spec_DrawMergeNotes.f
  exact EvP_bind (ev_spec_l22DrawTwo xs hl) (fun r h => EvP_now h)

theorem ev_spec_DrawCovers (xs : List Int) (hl : xs.length ≤ 1048576) : EvP (fun k => spec_DrawCovers.f k xs) (fun r => r.1.length ≤ 400 ∧ r.2.length ≤ 400) := by
  unfold spec_DrawCovers.f
  exact EvP_bind (ev_spec_l22DrawTwo xs hl) (fun r h => EvP_now h)

theorem v_impl_within (a b c : Int) : impl_within.f a b c = some (decide (b ≤ a ∧ a ≤ c)) := by
  unfold impl_within.f
  by_cases h : a ≥ b
  · rw [if_pos h]
    simp [show b ≤ a from h]
  · rw [if_neg h]
    simp [show ¬ b ≤ a from h]

theorem v_impl_isId (a : Int) : impl_isId.f a = some (decide (1 ≤ a ∧ a ≤ 1000000)) := by
  unfold impl_isId.f
  rw [v_impl_within]
  rfl

theorem ev_impl_NotesOk (l : List S64) (hl : l.length ≤ 2000000000) : Ev (fun k => impl_NotesOk.f k l) (notesOk l) := by
  unfold impl_NotesOk.f
  refine evAll (fun k i => impl_NotesOk.l0 k l l (l.length : Int) i) l (nOk l) _ ?_ (fun i hi r ht hf => ?_)
  · refine Ev_succ ?_
    simp only [impl_NotesOk.l0]
    exact Ev_neg (by omega) (Ev.now _)
  · refine Ev_succ ?_
    simp only [impl_NotesOk.l0, v_impl_within, v_impl_isId, Option.bind_some]
    refine Ev_pos (by omega) (Ev_pos (by omega) (Ev_pos (by omega) ?_))
    rw [wr1 hi (by omega)]
    refine Ev_ite (fun h1 => ?_) (fun h1 => ?_)
    · refine Ev_ite (fun h2 => ?_) (fun h2 => ?_)
      · refine Ev_ite (fun h3 => ?_) (fun h3 => ?_)
        · have e : wrap64 ((i : Int) - 1) = ((i - 1 : Nat) : Int) := by rw [wr (by omega) (by omega)]; omega
          rw [e]
          refine Ev_pos (by omega) (Ev_pos (by omega) ?_)
          refine Ev_ite (fun h4 => ?_) (fun h4 => ?_)
          · refine Ev_eq (hf ?_).symm
            unfold nOk
            rw [show decide (i = 0) = false from decide_eq_false (by omega), show decide ((rd_T64 l ((i - 1 : Nat) : Int)).f0 < (rd_T64 l (i : Int)).f0) = false from decide_eq_false (by omega)]
            simp
          · refine ht ?_
            unfold nOk
            rw [show decide ((rd_T64 l ((i - 1 : Nat) : Int)).f0 < (rd_T64 l (i : Int)).f0) = true from decide_eq_true (by omega), h1, h2]
            simp
        · refine ht ?_
          unfold nOk
          rw [show decide (i = 0) = true from decide_eq_true (by omega), h1, h2]
          simp
      · refine Ev_eq (hf ?_).symm
        unfold nOk
        rw [Bool.eq_false_iff.mpr h2]
        simp
    · refine Ev_eq (hf ?_).symm
      unfold nOk
      rw [Bool.eq_false_iff.mpr h1]
      simp

theorem v_impl_copyNotes (l : List S64) (hl : l.length ≤ 2000000000) : impl_copyNotes.f l = some l := by
  unfold impl_copyNotes.f
  simp only [Option.bind_some, List.nil_append, List.length_nil, Nat.zero_add]
  rw [if_pos (by omega)]

theorem ev_impl_MergeNotes_from (a b : List S64) (ha : a.length ≤ 2000000000) (hb : b.length ≤ 2000000000) : ∀ (d i j : Nat) (out : List S64), i ≤ a.length → j ≤ b.length → (a.length - i) + (b.length - j) = d → out.length + d ≤ 2000000000 →
    Ev (fun k => impl_MergeNotes.l0 k a b out (i : Int) (j : Int)) (if notesOk (out ++ mrg (a.drop i) (b.drop j)) = true then out ++ mrg (a.drop i) (b.drop j) else a) := by
  intro d
  induction d using Nat.strongRecOn with
  | _ d ih =>
    intro i j out hi hj hd ho
    refine Ev_succ ?_
    simp only [impl_MergeNotes.l0]
    by_cases h1 : i < a.length
    · refine Ev_pos (by omega) (Ev_succ ?_)
      simp only [impl_MergeNotes.j2]
      refine Ev_pos (by simp) ?_
      rw [List.drop_eq_getElem_cons h1]
      by_cases h2 : j < b.length
      · refine Ev_neg (by omega) (Ev_pos (by omega) (Ev_pos (by omega) (Ev_pos (by omega) (Ev_pos (by omega) (Ev_succ ?_)))))
        simp only [impl_MergeNotes.j3]
        rw [List.drop_eq_getElem_cons h2, rd64 h1, rd64 h2, mrg_cons, wr1 h1 (by omega), wr1 h2 (by omega)]
        refine Ev_ite (fun c => ?_) (fun c => ?_)
        · have c' : a[i].f0 < b[j].f0 := by simpa using c
          rw [if_pos c', ← List.drop_eq_getElem_cons h2]
          refine Ev_pos (by omega) (Ev_pos (by omega) (Ev_pos (by omega) ?_))
          have := ih (d - 1) (by omega) (i + 1) j (out ++ [a[i]]) (by omega) hj (by omega) (by simp; omega)
          rw [List.append_assoc] at this
          exact this
        · have c' : ¬ a[i].f0 < b[j].f0 := by simpa using c
          rw [if_neg c']
          refine Ev_neg (by omega) (Ev_pos (by omega) (Ev_pos (by omega) (Ev_pos (by omega) (Ev_pos (by omega) ?_))))
          refine Ev_ite (fun e => ?_) (fun e => ?_)
          · rw [if_pos e, ← List.drop_eq_getElem_cons h1]
            refine Ev_pos (by omega) ?_
            have := ih (d - 1) (by omega) i (j + 1) (out ++ [b[j]]) hi (by omega) (by omega) (by simp; omega)
            rw [List.append_assoc] at this
            exact this
          · rw [if_neg e]
            refine Ev_pos (by omega) ?_
            have := ih (d - 2) (by omega) (i + 1) (j + 1) (out ++ [(⟨a[i].f0, mx a[i].f1 b[j].f1⟩ : S64)]) (by omega) (by omega) (by omega) (by simp; omega)
            rw [List.append_assoc] at this
            exact this
      · refine Ev_pos (by omega) (Ev_succ ?_)
        simp only [impl_MergeNotes.j3]
        refine Ev_pos (by simp) (Ev_pos (by omega) (Ev_pos (by omega) (Ev_pos (by omega) ?_)))
        rw [rd64 h1, wr1 h1 (by omega)]
        have := ih (d - 1) (by omega) (i + 1) j (out ++ [a[i]]) (by omega) hj (by omega) (by simp; omega)
        rw [List.append_assoc] at this
        rw [List.drop_of_length_le (show b.length ≤ j by omega), mrg_nil_right] at this ⊢
        exact this
    · refine Ev_neg (by omega) (Ev_succ ?_)
      simp only [impl_MergeNotes.j2]
      by_cases h2 : j < b.length
      · refine Ev_pos (decide_eq_true (by omega)) (Ev_neg (by omega) (Ev_neg (by omega) (Ev_succ ?_)))
        simp only [impl_MergeNotes.j3]
        refine Ev_neg (by simp) (Ev_pos (by omega) (Ev_pos (by omega) (Ev_pos (by omega) (Ev_pos (by omega) ?_))))
        rw [rd64 h2, wr1 h2 (by omega)]
        have := ih (d - 1) (by omega) i (j + 1) (out ++ [b[j]]) hi (by omega) (by omega) (by simp; omega)
        rw [List.append_assoc] at this
        rw [List.drop_of_length_le (show a.length ≤ i by omega), mrg_nil] at this ⊢
        rw [List.drop_eq_getElem_cons h2]
        exact this
      · refine Ev_neg (by simp; omega) ?_
        rw [List.drop_of_length_le (show a.length ≤ i by omega), List.drop_of_length_le (show b.length ≤ j by omega), mrg_nil, List.append_nil]
        refine Ev.bind (ev_impl_NotesOk out (by omega)) ?_
        refine Ev_ite (fun c => ?_) (fun c => ?_)
        · rw [if_pos c]; exact Ev.now _
        · rw [if_neg c]
          exact Ev_some (v_impl_copyNotes a ha) (Ev.now _)
theorem ev_impl_MergeNotes (a b : List S64) (ha : a.length ≤ 1000000000) (hb : b.length ≤ 1000000000) : Ev (fun k => impl_MergeNotes.f k a b) (mergeNotes a b) := by
  unfold impl_MergeNotes.f
  refine Ev.bind (ev_impl_NotesOk a (by omega)) ?_
  unfold mergeNotes
  cases h : notesOk a with
  | false =>
    refine Ev_neg (by simp) (Ev_succ ?_)
    simp only [impl_MergeNotes.j0]
    exact Ev_pos (by simp) (Ev_some (v_impl_copyNotes a (by omega)) (Ev_eq (by simp)))
  | true =>
    refine Ev_pos (by simp) (Ev.bind (ev_impl_NotesOk b (by omega)) (Ev_succ ?_))
    simp only [impl_MergeNotes.j0]
    cases h' : notesOk b with
    | false => exact Ev_pos (by simp) (Ev_some (v_impl_copyNotes a (by omega)) (Ev_eq (by simp)))
    | true =>
      refine Ev_neg (by simp) ?_
      have := ev_impl_MergeNotes_from a b (by omega) (by omega) _ 0 0 [] (Nat.zero_le _) (Nat.zero_le _) rfl (by simp; omega)
      simpa using this

theorem ev_sameNotes (l : List S64) (hl : l.length ≤ 2000000000) : Ev (fun k => laws_sameNotes.f k l l) true := by
  unfold laws_sameNotes.f
  refine Ev_pos rfl ?_
  refine down (P := fun i => Ev (fun k => laws_sameNotes.l0 k l l (i : Int)) true) l.length ?_ ?_ 0 (Nat.zero_le _)
  · refine Ev_succ ?_
    simp only [laws_sameNotes.l0]
    exact Ev_neg (by omega) (Ev.now _)
  · intro i hi ih
    refine Ev_succ ?_
    simp only [laws_sameNotes.l0]
    refine Ev_pos (by omega) (Ev_pos (by omega) (Ev_pos (by omega) (Ev_neg (by simp) ?_)))
    rw [wr1 hi (by omega)]
    exact ih

theorem ev_spec_DrawAddNote (xs : List Int) (hl : xs.length ≤ 1048576) : EvP (fun k => spec_DrawAddNote.f k xs) (fun r => r.1.length ≤ 200) := by
  unfold spec_DrawAddNote.f
  refine EvP_bind (ev_spec_l1New xs hl) (fun r h => ?_)
  obtain ⟨h1, h2⟩ := h
  rw [h1]
  exact EvP_bind (ev_spec_l22Draw xs _ _ h2) (fun q hq => EvP_bindS (so_spec_l1Below xs _ _ 26 hq.2 (by omega) (by omega)) (fun u hu => EvP_bindS (so_spec_l1Below xs _ _ 7 hu.2.2 (by omega) (by omega)) (fun v hv => EvP_now hq.1)))

def noteOf (l : List S64) (id : Int) : Int := match l with
  | [] => 0
  | x :: xs => if x.f0 = id then x.f1 else noteOf xs id

theorem ev_impl_NoteOf (l : List S64) (id : Int) (hl : l.length ≤ 2000000000) : Ev (fun k => impl_NoteOf.f k l id) (noteOf l id) := by
  unfold impl_NoteOf.f
  refine down (P := fun i => Ev (fun k => impl_NoteOf.l0 k id l (l.length : Int) (i : Int)) (noteOf (l.drop i) id)) l.length ?_ ?_ 0 (Nat.zero_le _)
  · refine Ev_succ ?_
    simp only [impl_NoteOf.l0]
    rw [List.drop_length]
    exact Ev_neg (by omega) (Ev.now _)
  · intro i hi ih
    refine Ev_succ ?_
    simp only [impl_NoteOf.l0]
    rw [List.drop_eq_getElem_cons hi, rd64 hi, wr1 hi (by omega)]
    unfold noteOf
    refine Ev_pos (by omega) (Ev_pos (by omega) (Ev_pos (by omega) ?_))
    by_cases h : l[i].f0 = id
    · rw [if_pos h]; exact Ev_pos h (Ev.now _)
    · rw [if_neg h]; exact Ev_neg h ih

theorem mx_comm (a b : Int) : mx a b = mx b a := by unfold mx; split <;> split <;> omega
theorem mx_assoc (a b c : Int) : mx (mx a b) c = mx a (mx b c) := by unfold mx; repeat' split <;> omega
theorem mx_self (a : Int) : mx a a = a := by unfold mx; split <;> rfl

def SrtN (l : List S64) : Prop := l.Pairwise (fun x y => x.f0 < y.f0)
def PosN (l : List S64) : Prop := ∀ x ∈ l, 1 ≤ x.f1
theorem lookN_nonneg {l : List S64} (h : PosN l) (id : Int) : 0 ≤ noteOf l id := by
  induction l with
  | nil => unfold noteOf; omega
  | cons x xs ih =>
    unfold noteOf
    have := h x List.mem_cons_self
    have := ih (fun y hy => h y (List.mem_cons_of_mem _ hy))
    split <;> omega
theorem lookN_lt {l : List S64} (id : Int) (h : ∀ x ∈ l, id < x.f0) : noteOf l id = 0 := by
  induction l with
  | nil => unfold noteOf; rfl
  | cons x xs ih =>
    unfold noteOf
    have := h x List.mem_cons_self
    rw [if_neg (by omega)]
    exact ih (fun y hy => h y (List.mem_cons_of_mem _ hy))
theorem srtN_tail {x : S64} {xs : List S64} (h : SrtN (x :: xs)) : SrtN xs := (List.pairwise_cons.1 h).2
theorem srtN_head {x : S64} {xs : List S64} (h : SrtN (x :: xs)) : ∀ y ∈ xs, x.f0 < y.f0 := (List.pairwise_cons.1 h).1
theorem posN_tail {x : S64} {xs : List S64} (h : PosN (x :: xs)) : PosN xs := fun y hy => h y (List.mem_cons_of_mem _ hy)
theorem lookN_below {x : S64} {xs : List S64} (h : SrtN (x :: xs)) (id : Int) (hid : id < x.f0) : noteOf (x :: xs) id = 0 := by
  apply lookN_lt
  intro y hy
  rcases List.mem_cons.1 hy with rfl | hy
  · exact hid
  · have := srtN_head h y hy; omega
theorem lookN_head {x : S64} {xs : List S64} : noteOf (x :: xs) x.f0 = x.f1 := by
  unfold noteOf; rw [if_pos rfl]
theorem idsN_mrg (a b : List S64) : ∀ x ∈ mrg a b, (∃ y ∈ a, y.f0 = x.f0) ∨ ∃ y ∈ b, y.f0 = x.f0 := by
  fun_induction mrg a b with
  | case1 ys => exact fun x hx => .inr ⟨x, hx, rfl⟩
  | case2 xs h => exact fun x hx => .inl ⟨x, hx, rfl⟩
  | case3 x xs y ys h ih =>
    intro z hz
    rcases List.mem_cons.1 hz with rfl | hz
    · exact .inl ⟨_, List.mem_cons_self, rfl⟩
    · rcases ih z hz with ⟨w, hw, e⟩ | ⟨w, hw, e⟩
      · exact .inl ⟨w, List.mem_cons_of_mem _ hw, e⟩
      · exact .inr ⟨w, hw, e⟩
  | case4 x xs y ys h h' ih =>
    intro z hz
    rcases List.mem_cons.1 hz with rfl | hz
    · exact .inr ⟨_, List.mem_cons_self, rfl⟩
    · rcases ih z hz with ⟨w, hw, e⟩ | ⟨w, hw, e⟩
      · exact .inl ⟨w, hw, e⟩
      · exact .inr ⟨w, List.mem_cons_of_mem _ hw, e⟩
  | case5 x xs y ys h h' ih =>
    intro z hz
    rcases List.mem_cons.1 hz with rfl | hz
    · exact .inl ⟨x, List.mem_cons_self, rfl⟩
    · rcases ih z hz with ⟨w, hw, e⟩ | ⟨w, hw, e⟩
      · exact .inl ⟨w, List.mem_cons_of_mem _ hw, e⟩
      · exact .inr ⟨w, List.mem_cons_of_mem _ hw, e⟩
theorem srtN_mrg (a b : List S64) (ha : SrtN a) (hb : SrtN b) : SrtN (mrg a b) := by
  fun_induction mrg a b with
  | case1 ys => exact hb
  | case2 xs h => exact ha
  | case3 x xs y ys h ih =>
    refine List.pairwise_cons.2 ⟨fun z hz => ?_, ih (srtN_tail ha) hb⟩
    rcases idsN_mrg _ _ z hz with ⟨w, hw, e⟩ | ⟨w, hw, e⟩
    · have := srtN_head ha w hw; omega
    · rcases List.mem_cons.1 hw with rfl | hw
      · omega
      · have := srtN_head hb w hw; omega
  | case4 x xs y ys h h' ih =>
    refine List.pairwise_cons.2 ⟨fun z hz => ?_, ih ha (srtN_tail hb)⟩
    rcases idsN_mrg _ _ z hz with ⟨w, hw, e⟩ | ⟨w, hw, e⟩
    · rcases List.mem_cons.1 hw with rfl | hw
      · omega
      · have := srtN_head ha w hw; omega
    · have := srtN_head hb w hw; omega
  | case5 x xs y ys h h' ih =>
    refine List.pairwise_cons.2 ⟨fun z hz => ?_, ih (srtN_tail ha) (srtN_tail hb)⟩
    show x.f0 < z.f0
    rcases idsN_mrg _ _ z hz with ⟨w, hw, e⟩ | ⟨w, hw, e⟩
    · have := srtN_head ha w hw; omega
    · have := srtN_head hb w hw; omega
theorem posN_mrg (a b : List S64) (ha : PosN a) (hb : PosN b) : PosN (mrg a b) := by
  fun_induction mrg a b with
  | case1 ys => exact hb
  | case2 xs h => exact ha
  | case3 x xs y ys h ih =>
    intro z hz
    rcases List.mem_cons.1 hz with rfl | hz
    · exact ha _ List.mem_cons_self
    · exact ih (posN_tail ha) hb z hz
  | case4 x xs y ys h h' ih =>
    intro z hz
    rcases List.mem_cons.1 hz with rfl | hz
    · exact hb _ List.mem_cons_self
    · exact ih ha (posN_tail hb) z hz
  | case5 x xs y ys h h' ih =>
    intro z hz
    rcases List.mem_cons.1 hz with rfl | hz
    · have := ha x List.mem_cons_self
      have := hb y List.mem_cons_self
      show 1 ≤ mx x.f1 y.f1
      unfold mx; split <;> omega
    · exact ih (posN_tail ha) (posN_tail hb) z hz
theorem lookN_mrg (a b : List S64) (ha : SrtN a) (hb : SrtN b) (pa : PosN a) (pb : PosN b) (id : Int) : noteOf (mrg a b) id = mx (noteOf a id) (noteOf b id) := by
  fun_induction mrg a b with
  | case1 ys =>
    have := lookN_nonneg pb id
    rw [show noteOf [] id = 0 from by unfold noteOf; rfl]
    unfold mx; split <;> omega
  | case2 xs h =>
    have := lookN_nonneg pa id
    rw [show noteOf [] id = 0 from by unfold noteOf; rfl]
    unfold mx; split <;> omega
  | case3 x xs y ys h ih =>
    have ih := ih (srtN_tail ha) hb (posN_tail pa) pb
    have p1 := pa x List.mem_cons_self
    by_cases e : x.f0 = id
    · have hz := lookN_below hb id (by omega)
      rw [hz, ← e, lookN_head, lookN_head]
      unfold mx; split <;> omega
    · rw [noteOf, if_neg e, ih]
      rw [show noteOf (x :: xs) id = noteOf xs id from by rw [noteOf, if_neg e]]
  | case4 x xs y ys h h' ih =>
    have ih := ih ha (srtN_tail hb) pa (posN_tail pb)
    have p1 := pb y List.mem_cons_self
    by_cases e : y.f0 = id
    · have hz := lookN_below ha id (by omega)
      rw [hz, ← e, lookN_head, lookN_head]
      unfold mx; split <;> omega
    · rw [noteOf, if_neg e, ih]
      rw [show noteOf (y :: ys) id = noteOf ys id from by rw [noteOf, if_neg e]]
  | case5 x xs y ys h h' ih =>
    have ih := ih (srtN_tail ha) (srtN_tail hb) (posN_tail pa) (posN_tail pb)
    have exy : x.f0 = y.f0 := by omega
    by_cases e : x.f0 = id
    · rw [noteOf, if_pos e, ← e, lookN_head]
      rw [exy, lookN_head]
    · rw [noteOf, if_neg e, ih]
      rw [show noteOf (x :: xs) id = noteOf xs id from by rw [noteOf, if_neg e], show noteOf (y :: ys) id = noteOf ys id from by rw [noteOf, if_neg (by omega)]]
theorem extN (a b : List S64) (ha : SrtN a) (hb : SrtN b) (pa : PosN a) (pb : PosN b) (h : ∀ id, noteOf a id = noteOf b id) : a = b := by
  induction a generalizing b with
  | nil =>
    cases b with
    | nil => rfl
    | cons y ys =>
      have := h y.f0
      rw [lookN_head] at this
      have hp := pb y List.mem_cons_self
      unfold noteOf at this
      omega
  | cons x xs ih =>
    cases b with
    | nil =>
      have := h x.f0
      rw [lookN_head] at this
      have hp := pa x List.mem_cons_self
      unfold noteOf at this
      omega
    | cons y ys =>
      have hx := h x.f0
      have hy := h y.f0
      rw [lookN_head] at hx hy
      have px := pa x List.mem_cons_self
      have py := pb y List.mem_cons_self
      have e : x.f0 = y.f0 := by
        by_cases c : x.f0 < y.f0
        · rw [lookN_below hb _ c] at hx; omega
        · by_cases c' : y.f0 < x.f0
          · rw [lookN_below ha _ c'] at hy; omega
          · omega
      rw [e, lookN_head] at hx
      have exy : x = y := by cases x; cases y; simp_all
      subst exy
      rw [ih ys (srtN_tail ha) (srtN_tail hb) (posN_tail pa) (posN_tail pb) (fun id => ?_)]
      by_cases c : x.f0 = id
      · have h1 := lookN_lt (l := xs) id (fun z hz => by have := srtN_head ha z hz; omega)
        have h2 := lookN_lt (l := ys) id (fun z hz => by have := srtN_head hb z hz; omega)
        rw [h1, h2]
      · have := h id
        rw [noteOf, if_neg c, noteOf, if_neg c] at this
        exact this
theorem mrgN_comm (a b : List S64) (ha : SrtN a) (hb : SrtN b) (pa : PosN a) (pb : PosN b) : mrg a b = mrg b a :=
  extN _ _ (srtN_mrg _ _ ha hb) (srtN_mrg _ _ hb ha) (posN_mrg _ _ pa pb) (posN_mrg _ _ pb pa) (fun id => by rw [lookN_mrg _ _ ha hb pa pb, lookN_mrg _ _ hb ha pb pa, mx_comm])
theorem mrgN_assoc (a b c : List S64) (ha : SrtN a) (hb : SrtN b) (hc : SrtN c) (pa : PosN a) (pb : PosN b) (pc : PosN c) : mrg (mrg a b) c = mrg a (mrg b c) :=
  extN _ _ (srtN_mrg _ _ (srtN_mrg _ _ ha hb) hc) (srtN_mrg _ _ ha (srtN_mrg _ _ hb hc)) (posN_mrg _ _ (posN_mrg _ _ pa pb) pc) (posN_mrg _ _ pa (posN_mrg _ _ pb pc)) (fun id => by
    rw [lookN_mrg _ _ (srtN_mrg _ _ ha hb) hc (posN_mrg _ _ pa pb) pc, lookN_mrg _ _ ha hb pa pb, lookN_mrg _ _ ha (srtN_mrg _ _ hb hc) pa (posN_mrg _ _ pb pc), lookN_mrg _ _ hb hc pb pc, mx_assoc])
theorem mrgN_self (a : List S64) (ha : SrtN a) (pa : PosN a) : mrg a a = a :=
  extN _ _ (srtN_mrg _ _ ha ha) ha (posN_mrg _ _ pa pa) pa (fun id => by rw [lookN_mrg _ _ ha ha pa pa, mx_self])
theorem notesOk_iff (l : List S64) : notesOk l = true ↔ (∀ x ∈ l, 1 ≤ x.f0 ∧ x.f0 ≤ 1000000 ∧ 1 ≤ x.f1 ∧ x.f1 ≤ 16777215) ∧ SrtN l ∧ l.length ≤ 130 := by
  unfold notesOk
  rw [Bool.and_eq_true, List.all_eq_true, decide_eq_true_iff]
  have key : ∀ i (h : i < l.length), nOk l i = true ↔ (1 ≤ l[i].f0 ∧ l[i].f0 ≤ 1000000 ∧ 1 ≤ l[i].f1 ∧ l[i].f1 ≤ 16777215) ∧ (0 < i → (l[i - 1]'(by omega)).f0 < l[i].f0) := by
    intro i h
    unfold nOk
    rw [rd64 h, rd64 (show i - 1 < l.length by omega)]
    simp only [Bool.and_eq_true, Bool.or_eq_true, decide_eq_true_iff]
    constructor
    · rintro ⟨⟨⟨h1, h2⟩, h3, h4⟩, h5⟩
      exact ⟨⟨h1, h2, h3, h4⟩, fun hi => h5.resolve_left (by omega)⟩
    · rintro ⟨⟨h1, h2, h3, h4⟩, h5⟩
      refine ⟨⟨⟨h1, h2⟩, h3, h4⟩, ?_⟩
      by_cases hi : i = 0
      · exact .inl hi
      · exact .inr (h5 (by omega))
  constructor
  · rintro ⟨h, hl⟩
    have h' : ∀ i (hi : i < l.length), _ := fun i hi => (key i hi).1 (h i (List.mem_range.2 hi))
    refine ⟨fun x hx => ?_, ?_, by omega⟩
    · obtain ⟨i, hi, rfl⟩ := List.getElem_of_mem hx
      exact (h' i hi).1
    · have : ∀ d i (hj : i + d + 1 < l.length), (l[i]'(by omega)).f0 < (l[i + d + 1]'hj).f0 := by
        intro d
        induction d with
        | zero => intro i hj; exact (h' (i + 0 + 1) hj).2 (by omega)
        | succ d ih =>
          intro i hj
          have a := ih i (by omega)
          have b := (h' (i + (d + 1) + 1) hj).2 (by omega)
          have e : i + (d + 1) + 1 - 1 = i + d + 1 := by omega
          simp only [e] at b
          omega
      refine List.pairwise_iff_getElem.2 (fun i j hi hj hij => ?_)
      have := this (j - i - 1) i (by omega)
      have e : i + (j - i - 1) + 1 = j := by omega
      simp only [e] at this
      exact this
  · rintro ⟨h, hs, hl⟩
    refine ⟨fun i hi => ?_, by omega⟩
    have hi := List.mem_range.1 hi
    refine (key i hi).2 ⟨h _ (List.getElem_mem hi), fun h0 => ?_⟩
    exact List.pairwise_iff_getElem.1 hs (i - 1) i (by omega) hi (by omega)
theorem notesOk_srt {l : List S64} (h : notesOk l = true) : SrtN l := ((notesOk_iff l).1 h).2.1
theorem notesOk_pos {l : List S64} (h : notesOk l = true) : PosN l := fun x hx => (((notesOk_iff l).1 h).1 x hx).2.2.1
theorem notesOk_len {l : List S64} (h : notesOk l = true) : l.length ≤ 130 := ((notesOk_iff l).1 h).2.2

def insN (l : List S64) (n : S64) : List S64 := match l with
  | [] => [n]
  | x :: xs => if x.f0 < n.f0 then x :: insN xs n else if x.f0 = n.f0 then n :: xs else n :: x :: xs
theorem insN_length (l : List S64) (n : S64) : (insN l n).length ≤ l.length + 1 := by
  induction l with
  | nil => simp [insN]
  | cons x xs ih =>
    unfold insN
    split
    · simp; omega
    · split <;> simp
theorem mem_insN (l : List S64) (n : S64) : n ∈ insN l n := by
  induction l with
  | nil => simp [insN]
  | cons x xs ih =>
    unfold insN
    split
    · exact List.mem_cons_of_mem _ ih
    · split <;> exact List.mem_cons_self
theorem mrg_ins (l : List S64) (id v : Int) (h : noteOf l id < v) : mrg l [⟨id, v⟩] = insN l ⟨id, v⟩ := by
  induction l with
  | nil => rw [mrg_nil]; rfl
  | cons x xs ih =>
    rw [mrg_cons, insN]
    by_cases c : x.f0 < id
    · rw [if_pos c, if_pos c, ih (by rw [noteOf, if_neg (by omega)] at h; exact h)]
    · rw [if_neg c, if_neg c]
      by_cases e : x.f0 = id
      · rw [noteOf, if_pos e] at h
        rw [if_pos e, if_neg (by simp only; omega), mrg_nil_right]
        simp only [e]
        unfold mx
        rw [if_pos h]
      · rw [if_neg e, if_pos (by simp only; omega), mrg_nil_right]
theorem mrg_old (l : List S64) (id v : Int) (hs : SrtN l) (hv : 1 ≤ v) (h : v ≤ noteOf l id) : mrg l [⟨id, v⟩] = l := by
  induction l with
  | nil => rw [noteOf] at h; omega
  | cons x xs ih =>
    rw [mrg_cons]
    by_cases c : x.f0 < id
    · rw [if_pos c, ih (srtN_tail hs) (by rw [noteOf, if_neg (by omega)] at h; exact h)]
    · rw [if_neg c]
      by_cases e : x.f0 = id
      · rw [noteOf, if_pos e] at h
        rw [if_neg (by simp only; omega), mrg_nil_right]
        have : mx x.f1 v = x.f1 := by unfold mx; rw [if_neg (by omega)]
        simp only [this]
      · rw [lookN_below hs id (by omega)] at h
        omega
def addNote (l : List S64) (id v : Int) : List S64 := if (notesOk l && !(decide (v ≤ noteOf l id)) && notesOk (insN l ⟨id, v⟩)) = true then insN l ⟨id, v⟩ else l
theorem addNote_eq (l : List S64) (id v : Int) : mergeNotes l [⟨id, v⟩] = addNote l id v := by
  unfold mergeNotes addNote
  cases h : notesOk l with
  | false => simp
  | true =>
    by_cases c : v ≤ noteOf l id
    · simp only [c, decide_true, Bool.not_true, Bool.and_false, Bool.false_and, Bool.false_eq_true, if_false]
      split
      · rename_i e
        simp only [Bool.and_eq_true] at e
        have := ((notesOk_iff _).1 e.1.2).1 ⟨id, v⟩ List.mem_cons_self
        exact mrg_old l id v (notesOk_srt h) this.2.2.1 c
      · rfl
    · rw [mrg_ins l id v (by omega)]
      have : notesOk (insN l ⟨id, v⟩) = true → notesOk [(⟨id, v⟩ : S64)] = true := by
        intro e
        have m := ((notesOk_iff _).1 e).1 _ (mem_insN l ⟨id, v⟩)
        refine (notesOk_iff _).2 ⟨fun x hx => ?_, List.pairwise_singleton _ _, by simp⟩
        rw [List.mem_singleton.1 hx]
        exact m
      by_cases e : notesOk (insN l ⟨id, v⟩) = true
      · simp [c, e, this e]
      · simp [c, e]
theorem ev_impl_AddNote (l : List S64) (id v : Int) (hl : l.length ≤ 500000000) : Ev (fun k => impl_AddNote.f k l id v) (addNote l id v) := by
  have fin : ∀ (i : Nat) (rest : List S64), i ≤ l.length → rest.length ≤ l.length → Ev (fun k => impl_AddNote.j4 k l id v l (i : Int) rest) (if notesOk (l.take i ++ [⟨id, v⟩] ++ rest) = true then l.take i ++ [⟨id, v⟩] ++ rest else l) := by
    intro i rest hi hr
    have ht : (l.take i).length ≤ l.length := List.length_take_le' _ _
    refine Ev_succ ?_
    simp only [impl_AddNote.j4]
    rw [Int.toNat_natCast]
    refine Ev_pos (by omega) (Ev_pos (by omega) (Ev_some (v_impl_copyNotes _ (by omega)) (Ev_pos (by omega) ?_)))
    simp only [Option.bind_some]
    refine Ev_pos (by simp only [List.length_append, List.length_cons, List.length_nil]; omega) ?_
    refine Ev.bind (ev_impl_NotesOk _ (by simp only [List.length_append, List.length_cons, List.length_nil]; omega)) ?_
    refine Ev_ite (fun c => ?_) (fun c => ?_)
    · rw [if_pos c]; exact Ev.now _
    · rw [if_neg c]; exact Ev.now _
  have at_ : ∀ (i : Nat), i ≤ l.length → (∀ h : i < l.length, ¬ l[i].f0 < id) → ∀ r, (if notesOk (l.take i ++ insN (l.drop i) ⟨id, v⟩) = true then l.take i ++ insN (l.drop i) ⟨id, v⟩ else l) = r →
      Ev (fun k => impl_AddNote.j2 k l id v l (i : Int)) r := by
    intro i hi hn r hr
    have hd : (l.drop i).length ≤ l.length := by simp
    refine Ev_succ ?_
    simp only [impl_AddNote.j2]
    rw [Int.toNat_natCast]
    refine Ev_pos (by omega) (Ev_pos (by omega) (Ev_some (v_impl_copyNotes _ (by omega)) ?_))
    by_cases c : i < l.length
    · have hz : rd_T64 (l.drop i) 0 = l[i] := by
        have := rd64 (l := l.drop i) (i := 0) (by rw [List.length_drop]; omega)
        simpa using this
      have hdl : (l.drop i).length = l.length - i := List.length_drop
      refine Ev_pos (by omega) (Ev_pos (by omega) (Ev_succ ?_))
      simp only [impl_AddNote.j3]
      rw [hz]
      have hc := List.drop_eq_getElem_cons c
      by_cases e : l[i].f0 = id
      · refine Ev_pos (by simp [e]) (Ev_pos (by omega) ?_)
        have e1 : (l.drop i).drop (1 : Int).toNat = l.drop (i + 1) := by rw [hc]; rfl
        have := fin i (l.drop (i + 1)) hi (by simp only [List.length_drop]; omega)
        rw [e1, ← hr, hc, insN, if_neg (hn c), if_pos e]
        rw [List.append_assoc] at this
        exact this
      · refine Ev_neg (by simp [e]) ?_
        have := fin i (l.drop i) hi hd
        rw [← hr]
        rw [show insN (l.drop i) ⟨id, v⟩ = [⟨id, v⟩] ++ l.drop i from by rw [hc, insN, if_neg (hn c), if_neg e]; rfl]
        rw [← List.append_assoc]
        exact this
    · have h0 : l.drop i = [] := List.drop_of_length_le (by omega)
      rw [h0]
      refine Ev_neg (by simp) (Ev_succ ?_)
      simp only [impl_AddNote.j3]
      refine Ev_neg (by simp) ?_
      have := fin i [] hi (by simp)
      rw [← hr, h0, show insN [] (⟨id, v⟩ : S64) = [⟨id, v⟩] from rfl]
      rw [List.append_nil] at this
      exact this
  have loop : ∀ i, i ≤ l.length → ∀ r, (if notesOk (l.take i ++ insN (l.drop i) ⟨id, v⟩) = true then l.take i ++ insN (l.drop i) ⟨id, v⟩ else l) = r → Ev (fun k => impl_AddNote.l0 k l id v l (i : Int)) r := by
    refine down (P := fun i => ∀ r, (if notesOk (l.take i ++ insN (l.drop i) ⟨id, v⟩) = true then l.take i ++ insN (l.drop i) ⟨id, v⟩ else l) = r → Ev (fun k => impl_AddNote.l0 k l id v l (i : Int)) r) l.length ?_ ?_
    · intro r hr
      refine Ev_succ ?_
      simp only [impl_AddNote.l0]
      exact Ev_neg (by omega) (at_ l.length (Nat.le_refl _) (fun h => by omega) r hr)
    · intro i hi ih r hr
      refine Ev_succ ?_
      simp only [impl_AddNote.l0]
      rw [rd64 hi, wr1 hi (by omega)]
      refine Ev_pos (by omega) (Ev_pos (by omega) ?_)
      refine Ev_ite (fun c => ?_) (fun c => ?_)
      · refine ih r ?_
        have e : l.take (i + 1) ++ insN (l.drop (i + 1)) ⟨id, v⟩ = l.take i ++ (l[i] :: insN (l.drop (i + 1)) ⟨id, v⟩) := by
          rw [List.take_succ_eq_append_getElem hi, List.append_assoc]
          rfl
        rw [← hr, List.drop_eq_getElem_cons hi, insN, if_pos c, e]
      · exact at_ i (by omega) (fun _ => c) r hr
  unfold impl_AddNote.f
  refine Ev_some (v_impl_copyNotes l (by omega)) (Ev.bind (ev_impl_NotesOk l (by omega)) ?_)
  unfold addNote
  cases h : notesOk l with
  | false =>
    refine Ev_neg (by simp) (Ev_succ ?_)
    simp only [impl_AddNote.j0]
    exact Ev_pos (by simp) (Ev_eq (by simp))
  | true =>
    refine Ev_pos (by simp) (Ev.bind (ev_impl_NoteOf l id (by omega)) (Ev_succ ?_))
    simp only [impl_AddNote.j0]
    by_cases c : v ≤ noteOf l id
    · exact Ev_pos (by simp [c]) (Ev_eq (by simp [c]))
    · refine Ev_neg (by simp [c]) (loop 0 (Nat.zero_le _) _ ?_)
      simp [c]

theorem ev_spec_DrawNoteOf (xs : List Int) (hl : xs.length ≤ 1048576) : EvP (fun k => spec_DrawNoteOf.f k xs) (fun r => r.1.length ≤ 200) := by
  unfold spec_DrawNoteOf.f
  refine EvP_bind (ev_spec_l1New xs hl) (fun r h => ?_)
  obtain ⟨h1, h2⟩ := h
  rw [h1]
  exact EvP_bind (ev_spec_l22Draw xs _ _ h2) (fun q hq => EvP_bindS (so_spec_l1Below xs _ _ 26 hq.2 (by omega) (by omega)) (fun u hu => EvP_now hq.1))

def covers (a b : List S64) : Bool := b.all fun n => decide (n.f1 ≤ noteOf a n.f0)

theorem ev_impl_Covers (a b : List S64) (ha : a.length ≤ 2000000000) (hb : b.length ≤ 2000000000) : Ev (fun k => impl_Covers.f k a b) (covers a b && (notesOk a && notesOk b)) := by
  have loop : Ev (fun k => impl_Covers.l0 k a b (b.length : Int) 0) (covers a b && true) := by
    refine evAllL (fun k i => impl_Covers.l0 k a b (b.length : Int) i) b _ _ ?_ (fun i hi r ht hf => ?_)
    · refine Ev_succ ?_
      simp only [impl_Covers.l0]
      exact Ev_neg (by omega) (Ev.now _)
    · refine Ev_succ ?_
      simp only [impl_Covers.l0]
      refine Ev_pos (by omega) (Ev_pos (by omega) (Ev_pos (by omega) ?_))
      rw [rd64 hi, wr1 hi (by omega)]
      refine Ev.bind (ev_impl_NoteOf a _ ha) ?_
      refine Ev_ite (fun h => ?_) (fun h => ?_)
      · exact Ev_eq (hf (decide_eq_false (by omega))).symm
      · exact ht (decide_eq_true (by omega))
  unfold impl_Covers.f
  refine Ev.bind (ev_impl_NotesOk a ha) ?_
  cases h : notesOk a with
  | true =>
    refine Ev_pos (by simp) (Ev.bind (ev_impl_NotesOk b hb) ?_)
    refine Ev_succ ?_
    simp only [impl_Covers.j0]
    cases h' : notesOk b with
    | true =>
      refine Ev_neg (by simp) ?_
      simpa using loop
    | false => exact Ev_pos (by simp) (Ev_eq (by simp))
  | false =>
    refine Ev_neg (by simp) ?_
    refine Ev_succ ?_
    simp only [impl_Covers.j0]
    exact Ev_pos (by simp) (Ev_eq (by simp))

theorem ev_spec_NoteOf (l : List S64) (id : Int) (hl : l.length ≤ 2000000000) : Ev (fun k => spec_NoteOf.f k l id) (noteOf l id) := by
  unfold spec_NoteOf.f
  refine down (P := fun i => Ev (fun k => spec_NoteOf.l0 k l id (i : Int)) (noteOf (l.drop i) id)) l.length ?_ ?_ 0 (Nat.zero_le _)
  · refine Ev_succ ?_
    simp only [spec_NoteOf.l0]
    rw [List.drop_length]
    exact Ev_neg (by omega) (Ev.now _)
  · intro i hi ih
    refine Ev_succ ?_
    simp only [spec_NoteOf.l0]
    rw [List.drop_eq_getElem_cons hi, rd64 hi, wr1 hi (by omega)]
    unfold noteOf
    refine Ev_pos (by omega) (Ev_pos (by omega) ?_)
    by_cases h : l[i].f0 = id
    · rw [if_pos h]; exact Ev_pos h (Ev.now _)
    · rw [if_neg h]; exact Ev_neg h ih

theorem ev_spec_Covers (a b : List S64) (ha : a.length ≤ 2000000000) (hb : b.length ≤ 2000000000) : Ev (fun k => spec_Covers.f k a b) (covers a b && (notesOk a && notesOk b)) := by
  unfold spec_Covers.f
  refine evAllL (fun k i => spec_Covers.l0 k a b i) b _ _ ?_ (fun i hi r ht hf => ?_)
  · refine Ev_succ ?_
    simp only [spec_Covers.l0]
    refine Ev_neg (by omega) ?_
    refine Ev.bind (ev_spec_NotesOk a ha) ?_
    cases h : notesOk a with
    | true =>
      refine Ev_pos (by simp) (Ev.bind (ev_spec_NotesOk b hb) ?_)
      exact Ev_eq (by simp)
    | false => exact Ev_neg (by simp) (Ev_eq (by simp))
  · refine Ev_succ ?_
    simp only [spec_Covers.l0]
    refine Ev_pos (by omega) (Ev_pos (by omega) ?_)
    rw [rd64 hi, wr1 hi (by omega)]
    refine Ev.bind (ev_spec_NoteOf a _ ha) ?_
    refine Ev_ite (fun h => ?_) (fun h => ?_)
    · exact Ev_eq (hf (decide_eq_false (by omega))).symm
    · exact ht (decide_eq_true (by omega))

theorem ev_spec_AddNote (l : List S64) (id v : Int) (hl : l.length ≤ 1000000000) : Ev (fun k => spec_AddNote.f k l id v) (mergeNotes l [⟨id, v⟩]) := by
  unfold spec_AddNote.f
  exact Ev.bind (ev_spec_MergeNotes l _ hl (by simp)) (Ev.now _)

theorem look_mem {l : List S64} (hs : SrtN l) {n : S64} (hn : n ∈ l) : noteOf l n.f0 = n.f1 := by
  induction l with
  | nil => simp at hn
  | cons x xs ih =>
    rcases List.mem_cons.1 hn with rfl | hn
    · exact lookN_head
    · have := srtN_head hs n hn
      rw [noteOf, if_neg (by omega)]
      exact ih (srtN_tail hs) hn
theorem mx_left (a b : Int) : a ≤ mx a b := by unfold mx; split <;> omega
theorem mx_right (a b : Int) : b ≤ mx a b := by unfold mx; split <;> omega
theorem covers_self {a : List S64} (ha : SrtN a) : covers a a = true := by
  unfold covers
  rw [List.all_eq_true]
  intro n hn
  rw [decide_eq_true_iff, look_mem ha hn]
  exact Int.le_refl _
theorem covers_left {a b : List S64} (ha : SrtN a) (hb : SrtN b) (pa : PosN a) (pb : PosN b) : covers (mrg a b) a = true := by
  unfold covers
  rw [List.all_eq_true]
  intro n hn
  rw [decide_eq_true_iff, lookN_mrg a b ha hb pa pb, look_mem ha hn]
  exact mx_left _ _
theorem covers_right {a b : List S64} (ha : SrtN a) (hb : SrtN b) (pa : PosN a) (pb : PosN b) : covers (mrg a b) b = true := by
  unfold covers
  rw [List.all_eq_true]
  intro n hn
  rw [decide_eq_true_iff, lookN_mrg a b ha hb pa pb, look_mem hb hn]
  exact mx_right _ _
theorem pure_law : laws_FnNotes.Pure := by
  intro l0 hm _ _
  refine EvP_true (g := fun k => laws_FnNotes.f k l0) ?_
  unfold laws_FnNotes.f
  refine EvP_some rfl ?_
  refine EvP_ite (fun _ => EvP_now rfl) (fun hb => ?_)
  have hl : l0.length ≤ 1048576 := by
    have : ¬ (l0.length : Int) > 1048576 := fun e => hb (decide_eq_true e)
    omega
  refine EvP_bind (ev_spec_DrawMergeNotes l0 hl) (fun ab hab => ?_)
  obtain ⟨a, b⟩ := ab
  obtain ⟨ha, hb'⟩ := hab
  dsimp only at ha hb' ⊢
  have m1 := mergeNotes_length a b
  refine EvP_bindE (ev_impl_MergeNotes a b (by omega) (by omega)) ?_
  refine EvP_bind (ev_spec_DrawCovers l0 hl) (fun cd hcd => ?_)
  obtain ⟨c, d⟩ := cd
  obtain ⟨hc, hd⟩ := hcd
  dsimp only at hc hd ⊢
  refine EvP_bind (ev_spec_DrawAddNote l0 hl) (fun eiv he => ?_)
  obtain ⟨e, id, v⟩ := eiv
  dsimp only at he ⊢
  refine EvP_bindE (ev_impl_AddNote e id v (by omega)) ?_
  refine EvP_bind (ev_spec_DrawNoteOf l0 hl) (fun gk hg => ?_)
  obtain ⟨g, k⟩ := gk
  dsimp only at hg ⊢
  have m2 := mergeNotes_length e [⟨id, v⟩]
  have m3 : ([⟨id, v⟩] : List S64).length = 1 := rfl
  refine EvP_bindE (ev_spec_MergeNotes a b (by omega) (by omega)) ?_
  refine EvP_bindE (ev_sameNotes _ (by omega)) (EvP_pos (by simp) ?_)
  refine EvP_bindE (ev_impl_Covers c d (by omega) (by omega)) ?_
  refine EvP_bindE (ev_spec_Covers c d (by omega) (by omega)) (EvP_neg (by simp) ?_)
  refine EvP_bindE (ev_spec_AddNote e id v (by omega)) ?_
  rw [← addNote_eq]
  refine EvP_bindE (ev_sameNotes _ (by omega)) (EvP_pos (by simp) ?_)
  refine EvP_bindE (ev_impl_NoteOf g k (by omega)) ?_
  refine EvP_bindE (ev_spec_NoteOf g k (by omega)) (EvP_succ ?_)
  simp only [laws_FnNotes.j0]
  refine EvP_neg (by simp) ?_
  -- where one of the two is not right, nothing is merged
  have same : mergeNotes a b = a → EvP (fun k => (laws_sameNotes.f k (mergeNotes a b) a).bind fun t => some t) (fun r => r = true) := by
    intro h
    rw [h]
    exact EvP_bindE (ev_sameNotes a (by omega)) (EvP_now rfl)
  refine EvP_bindE (ev_impl_NotesOk a (by omega)) ?_
  cases oa : notesOk a with
  | false =>
    refine EvP_neg (by simp) (EvP_succ ?_)
    simp only [laws_FnNotes.j1]
    exact EvP_pos (by simp) (same (by unfold mergeNotes; simp [oa]))
  | true =>
  refine EvP_pos (by simp) (EvP_bindE (ev_impl_NotesOk b (by omega)) (EvP_succ ?_))
  simp only [laws_FnNotes.j1]
  cases ob : notesOk b with
  | false => exact EvP_pos (by simp) (same (by unfold mergeNotes; simp [ob]))
  | true =>
  have sa := notesOk_srt oa
  have sb := notesOk_srt ob
  have pa := notesOk_pos oa
  have pb := notesOk_pos ob
  refine EvP_neg (by simp) (EvP_bindE (ev_impl_Covers _ b (by omega) (by omega)) ?_)
  -- what the loop and its end need
  have go : ∀ m : List S64, m = mergeNotes a b → m.length ≤ 1000 → (∀ n ∈ m, n.f1 ≤ noteOf a n.f0 ∨ n.f1 ≤ noteOf b n.f0) → (covers m a && (notesOk m && notesOk a)) = true → mergeNotes m b = m →
      EvP (fun k => laws_FnNotes.l0 k a b m 0) (fun r => r = true) := by
    intro m _ hml hn hcov hmm
    refine down (P := fun i => EvP (fun k => laws_FnNotes.l0 k a b m (i : Int)) (fun r => r = true)) m.length ?_ ?_ 0 (Nat.zero_le _)
    · refine EvP_succ ?_
      simp only [laws_FnNotes.l0]
      refine EvP_neg (by omega) ?_
      refine EvP_bindE (ev_impl_Covers m a (by omega) (by omega)) (EvP_pos hcov ?_)
      refine EvP_bindE (ev_impl_MergeNotes m b (by omega) (by omega)) ?_
      rw [hmm]
      refine EvP_bindE (ev_sameNotes m (by omega)) (EvP_pos (by simp) ?_)
      refine EvP_bindE (ev_impl_MergeNotes a a (by omega) (by omega)) ?_
      have : mergeNotes a a = a := by
        unfold mergeNotes
        rw [mrgN_self a sa pa]
        simp
      rw [this]
      exact EvP_bindE (ev_sameNotes a (by omega)) (EvP_now rfl)
    · intro i hi ih
      refine EvP_succ ?_
      simp only [laws_FnNotes.l0]
      refine EvP_pos (by omega) (EvP_pos (by omega) ?_)
      rw [rd64 hi, wr1 hi (by omega)]
      refine EvP_bindE (ev_impl_NoteOf a _ (by omega)) ?_
      refine EvP_ite (fun h1 => ?_) (fun _ => ih)
      refine EvP_bindE (ev_impl_NoteOf b _ (by omega)) ?_
      refine EvP_ite (fun h2 => ?_) (fun _ => ih)
      rcases hn _ (List.getElem_mem hi) with h | h <;> omega
  have lm := mrg_length a b
  by_cases om : notesOk (mrg a b) = true
  · have e1 : mergeNotes a b = mrg a b := by unfold mergeNotes; rw [if_pos (by rw [oa, ob, om]; rfl)]
    have sm := notesOk_srt om
    rw [e1] at go ⊢
    rw [covers_right sa sb pa pb, om, ob]
    refine EvP_pos (by simp) (go _ rfl (by omega) (fun n hn => ?_) (by rw [covers_left sa sb pa pb, om, oa]; rfl) ?_)
    · have h := look_mem sm hn
      rw [lookN_mrg a b sa sb pa pb] at h
      unfold mx at h
      split at h <;> omega
    · have e2 : mrg (mrg a b) b = mrg a b := by rw [mrgN_assoc a b b sa sb sb pa pb pb, mrgN_self b sb pb]
      unfold mergeNotes
      rw [e2]
      split <;> rfl
  · have e1 : mergeNotes a b = a := by unfold mergeNotes; rw [if_neg (by rw [oa, ob]; simpa using om)]
    have same' := same e1
    rw [e1] at go same' ⊢
    refine EvP_ite (fun h => ?_) (fun _ => same')
    refine go _ rfl (by omega) (fun n hn => .inl (by rw [look_mem sa hn]; exact Int.le_refl _)) (by rw [covers_self sa, oa]; rfl) e1

end Go.Proofs.Ytdmhdfdlljafbaa.PFnNotes
namespace Go.Proofs.Ytdmhdfdlljafbaa.Pure
theorem FnNotes : Go.Proofs.Ytdmhdfdlljafbaa.PFnNotes.laws_FnNotes.Pure := Go.Proofs.Ytdmhdfdlljafbaa.PFnNotes.pure_law
end Go.Proofs.Ytdmhdfdlljafbaa.Pure
