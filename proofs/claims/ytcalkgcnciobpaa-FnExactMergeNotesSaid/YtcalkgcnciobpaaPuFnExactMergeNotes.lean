/- What is left of the law FnExactMergeNotes: over lists and numbers alone. No condition beyond the statement's own. -/
import Derived.Test.YtcalkgcnciobpaaKnFnExactMergeNotes
import Derived.Test.YtcalkgcnciobpaaV
namespace Go.Proofs.Ytcalkgcnciobpaa.PFnExactMergeNotes
open Go.RowKit Go.Proofs.YtcalkgcnciobpaaW.PrintWords Go.Proofs.YtcalkgcnciobpaaW.PrintLast Go.Proofs.YtcalkgcnciobpaaW.PrintMore Go.Proofs.YtcalkgcnciobpaaV
set_option linter.unusedVariables false
set_option linter.unusedSimpArgs false
theorem rd89 {l : List S89} {i : Nat} (h : i < l.length) : rd_T89 l (i : Int) = l[i] := by
  unfold rd_T89
  simp [List.getD, List.getElem?_eq_getElem h]
theorem rds89 {l : List S89} {i : Nat} (h : i < l.length) (v : S89) : rd_T89 (l.set i v) (i : Int) = v := by
  unfold rd_T89
  simp [List.getD, h]

theorem rd87 {l : List S87} {i : Nat} (h : i < l.length) : rd_T87 l (i : Int) = l[i] := by
  unfold rd_T87
  simp [List.getD, List.getElem?_eq_getElem h]
theorem rds87 {l : List S87} {i : Nat} (h : i < l.length) (v : S87) : rd_T87 (l.set i v) (i : Int) = v := by
  unfold rd_T87
  simp [List.getD, h]

theorem sz_ok_Note (l : List S89) (a : Int) (ha : 0 ≤ a) (hb : a ≤ 1048576) (hl : (l.length : Int) ≤ a) : laws_szNoteS.f l a = some (a - l.length) := by
  unfold laws_szNoteS.f
  rw [wr (by omega) (by omega), if_neg (by omega)]
theorem sz_big_Note (l : List S89) (a : Int) (ha : 0 ≤ a) (hb : a ≤ 1048576) (hm : l.length ≤ maxLen) (hl : ¬ (l.length : Int) ≤ a) : laws_szNoteS.f l a = some (-1) := by
  unfold maxLen at hm
  unfold laws_szNoteS.f
  rw [wr (by omega) (by omega), if_pos (by omega)]

def cv_Note (x : S89) : S87 := ⟨x.f0, x.f1⟩
theorem ev_toNoteS (l : List S89) (hl : l.length ≤ 1048576) : Ev (fun k => laws_toNoteS.f k l) (l.map cv_Note) := by
  unfold laws_toNoteS.f
  refine Ev_pos (by omega) ?_
  rw [Int.toNat_natCast]
  refine Ev_pos (by omega) ?_
  refine evFill (fun k xs i => laws_toNoteS.l0 k l xs i) l cv_Note z87 (fun xs hx => ?_) (fun xs i hi r hx ih => ?_)
  · refine Ev_succ ?_
    simp only [laws_toNoteS.l0]
    exact Ev_neg (by omega) (Ev.now _)
  · refine Ev_succ ?_
    simp only [laws_toNoteS.l0]
    refine Ev_pos (by omega) (Ev_pos (by omega) (Ev_some rfl (Ev_pos (by omega) ?_)))
    rw [wr1 hi (by omega), rd89 hi, Int.toNat_natCast]
    exact ih

theorem eqr_Note (a0 : Int) (a1 : Int) : laws_eqNote.f a0 a1 a0 a1 = some true := by
  simp [laws_eqNote.f]
theorem ev_eqNoteS (l : List S87) (hl : l.length ≤ 2000000000) : Ev (fun k => laws_eqNoteS.f k l l) true := by
  unfold laws_eqNoteS.f
  refine Ev_pos rfl ?_
  refine down (P := fun i => Ev (fun k => laws_eqNoteS.l0 k l l (i : Int)) true) l.length ?_ ?_ 0 (Nat.zero_le _)
  · refine Ev_succ ?_
    simp only [laws_eqNoteS.l0]
    exact Ev_neg (by omega) (Ev.now _)
  · intro i hi ih
    refine Ev_succ ?_
    simp only [laws_eqNoteS.l0]
    refine Ev_pos (by omega) (Ev_pos (by omega) (Ev_pos (by omega) (Ev_some (eqr_Note _ _) (Ev_pos rfl ?_))))
    rw [wr1 hi (by omega)]
    exact ih

theorem v_spec_l1In (a b c : Int) : spec_l1In.f a b c = some (decide (b ≤ a ∧ a ≤ c)) := by
  unfold spec_l1In.f
  by_cases h : a ≥ b
  · rw [if_pos h]
    simp [show b ≤ a from h]
  · rw [if_neg h]
    simp [show ¬ b ≤ a from h]

def nOk (l : List S87) (i : Nat) : Bool := decide (1 ≤ (rd_T87 l (i : Int)).f0 ∧ (rd_T87 l (i : Int)).f0 ≤ 1000000) && decide (1 ≤ (rd_T87 l (i : Int)).f1 ∧ (rd_T87 l (i : Int)).f1 ≤ 16777215) && (decide (i = 0) || decide ((rd_T87 l ((i - 1 : Nat) : Int)).f0 < (rd_T87 l (i : Int)).f0))
def notesOk (l : List S87) : Bool := (List.range l.length).all (nOk l) && decide ((l.length : Int) ≤ 130)

theorem ev_spec_NotesOk (l : List S87) (hl : l.length ≤ 2000000000) : Ev (fun k => spec_NotesOk.f k l) (notesOk l) := by
  unfold spec_NotesOk.f
  refine evAll (fun k i => spec_NotesOk.l0 k l i) l (nOk l) _ ?_ (fun i hi r ht hf => ?_)
  · refine Ev_succ ?_
    simp only [spec_NotesOk.l0]
    exact Ev_neg (by omega) (Ev.now _)
  · refine Ev_succ ?_
    simp only [spec_NotesOk.l0, v_spec_l1In, Option.bind_some]
    refine Ev_pos (by omega) (Ev_pos (by omega) ?_)
    rw [wr1 hi (by omega)]
    refine Ev_ite (fun h1 => ?_) (fun h1 => ?_)
    · refine Ev_ite (fun h2 => ?_) (fun h2 => ?_)
      · refine Ev_ite (fun h3 => ?_) (fun h3 => ?_)
        · have e : wrap64 ((i : Int) - 1) = ((i - 1 : Nat) : Int) := by rw [wr (by omega) (by omega)]; omega
          rw [e]
          refine Ev_pos (by omega) (Ev_pos (by omega) ?_)
          refine Ev_ite (fun h4 => ?_) (fun h4 => ?_)
          · refine Ev_eq (hf ?_).symm
            unfold nOk
            rw [show decide (i = 0) = false from decide_eq_false (by omega), show decide ((rd_T87 l ((i - 1 : Nat) : Int)).f0 < (rd_T87 l (i : Int)).f0) = false from decide_eq_false (by omega)]
            simp
          · refine ht ?_
            unfold nOk
            rw [show decide ((rd_T87 l ((i - 1 : Nat) : Int)).f0 < (rd_T87 l (i : Int)).f0) = true from decide_eq_true (by omega), h1, h2]
            simp
        · refine ht ?_
          unfold nOk
          rw [show decide (i = 0) = true from decide_eq_true (by omega), h1, h2]
          simp
      · refine Ev_eq (hf ?_).symm
        unfold nOk
        rw [Bool.eq_false_iff.mpr h2]
        simp
    · refine Ev_eq (hf ?_).symm
      unfold nOk
      rw [Bool.eq_false_iff.mpr h1]
      simp

theorem v_spec_l1Max (a b : Int) : spec_l1Max.f a b = some (mx a b) := by
  unfold spec_l1Max.f mx
  by_cases h : a > b
  · rw [if_pos h, if_neg (by omega)]
  · rw [if_neg h]
    by_cases h' : a < b
    · rw [if_pos h']
    · rw [if_neg h']
      congr 1
      omega

def mrg (a b : List S87) : List S87 :=
  match a, b with
  | [], ys => ys
  | xs, [] => xs
  | x :: xs, y :: ys => if x.f0 < y.f0 then x :: mrg xs (y :: ys) else if y.f0 < x.f0 then y :: mrg (x :: xs) ys else (⟨x.f0, mx x.f1 y.f1⟩ : S87) :: mrg xs ys
termination_by a.length + b.length
theorem mrg_nil (ys : List S87) : mrg [] ys = ys := by unfold mrg; rfl
theorem mrg_nil_right (xs : List S87) : mrg xs [] = xs := by
  cases xs with
  | nil => exact mrg_nil _
  | cons x xs => unfold mrg; rfl
theorem mrg_cons (x y : S87) (xs ys : List S87) : mrg (x :: xs) (y :: ys) = if x.f0 < y.f0 then x :: mrg xs (y :: ys) else if y.f0 < x.f0 then y :: mrg (x :: xs) ys else (⟨x.f0, mx x.f1 y.f1⟩ : S87) :: mrg xs ys := by
  rw [mrg]
theorem mrg_length (a b : List S87) : (mrg a b).length ≤ a.length + b.length := by
  fun_induction mrg a b <;> simp_all <;> omega

theorem ev_spec_l22Merge_from (a b : List S87) (ha : a.length ≤ 2000000000) (hb : b.length ≤ 2000000000) : ∀ (d i j : Nat) (out : List S87), i ≤ a.length → j ≤ b.length → (a.length - i) + (b.length - j) = d → out.length + d ≤ 4000000000 →
    Ev (fun k => spec_l22Merge.l0 k a b out (i : Int) (j : Int)) (out ++ mrg (a.drop i) (b.drop j)) := by
  intro d
  induction d using Nat.strongRecOn with
  | _ d ih =>
    intro i j out hi hj hd ho
    refine Ev_succ ?_
    simp only [spec_l22Merge.l0]
    by_cases h1 : i < a.length
    · refine Ev_pos (by omega) (Ev_succ ?_)
      simp only [spec_l22Merge.j1]
      refine Ev_pos (by simp) ?_
      rw [List.drop_eq_getElem_cons h1]
      by_cases h2 : j < b.length
      · refine Ev_neg (by omega) (Ev_pos (by omega) (Ev_pos (by omega) (Ev_pos (by omega) (Ev_pos (by omega) (Ev_succ ?_)))))
        simp only [spec_l22Merge.j2]
        rw [List.drop_eq_getElem_cons h2, rd87 h1, rd87 h2, mrg_cons, wr1 h1 (by omega), wr1 h2 (by omega)]
        refine Ev_ite (fun c => ?_) (fun c => ?_)
        · have c' : a[i].f0 < b[j].f0 := by simpa using c
          rw [if_pos c', ← List.drop_eq_getElem_cons h2]
          refine Ev_pos (by omega) (Ev_pos (by omega) (Ev_pos (by omega) ?_))
          have := ih (d - 1) (by omega) (i + 1) j (out ++ [a[i]]) (by omega) hj (by omega) (by simp; omega)
          rw [List.append_assoc] at this
          exact this
        · have c' : ¬ a[i].f0 < b[j].f0 := by simpa using c
          rw [if_neg c']
          refine Ev_neg (by omega) (Ev_pos (by omega) (Ev_pos (by omega) (Ev_pos (by omega) (Ev_pos (by omega) ?_))))
          refine Ev_ite (fun e => ?_) (fun e => ?_)
          · rw [if_pos e, ← List.drop_eq_getElem_cons h1]
            refine Ev_pos (by omega) ?_
            have := ih (d - 1) (by omega) i (j + 1) (out ++ [b[j]]) hi (by omega) (by omega) (by simp; omega)
            rw [List.append_assoc] at this
            exact this
          · rw [if_neg e]
            refine Ev_some (v_spec_l1Max _ _) (Ev_pos (by omega) ?_)
            have := ih (d - 2) (by omega) (i + 1) (j + 1) (out ++ [(⟨a[i].f0, mx a[i].f1 b[j].f1⟩ : S87)]) (by omega) (by omega) (by omega) (by simp; omega)
            rw [List.append_assoc] at this
            exact this
      · refine Ev_pos (by omega) (Ev_succ ?_)
        simp only [spec_l22Merge.j2]
        refine Ev_pos (by simp) (Ev_pos (by omega) (Ev_pos (by omega) (Ev_pos (by omega) ?_)))
        rw [rd87 h1, wr1 h1 (by omega)]
        have := ih (d - 1) (by omega) (i + 1) j (out ++ [a[i]]) (by omega) hj (by omega) (by simp; omega)
        rw [List.append_assoc] at this
        rw [List.drop_of_length_le (show b.length ≤ j by omega), mrg_nil_right] at this ⊢
        exact this
    · refine Ev_neg (by omega) (Ev_succ ?_)
      simp only [spec_l22Merge.j1]
      by_cases h2 : j < b.length
      · refine Ev_pos (decide_eq_true (by omega)) (Ev_neg (by omega) (Ev_neg (by omega) (Ev_succ ?_)))
        simp only [spec_l22Merge.j2]
        refine Ev_neg (by simp) (Ev_pos (by omega) (Ev_pos (by omega) (Ev_pos (by omega) (Ev_pos (by omega) ?_))))
        rw [rd87 h2, wr1 h2 (by omega)]
        have := ih (d - 1) (by omega) i (j + 1) (out ++ [b[j]]) hi (by omega) (by omega) (by simp; omega)
        rw [List.append_assoc] at this
        rw [List.drop_of_length_le (show a.length ≤ i by omega), mrg_nil] at this ⊢
        rw [List.drop_eq_getElem_cons h2]
        exact this
      · refine Ev_neg (by simp; omega) ?_
        rw [List.drop_of_length_le (show a.length ≤ i by omega), List.drop_of_length_le (show b.length ≤ j by omega), mrg_nil, List.append_nil]
        exact Ev.now _
theorem ev_spec_l22Merge (a b : List S87) (ha : a.length ≤ 2000000000) (hb : b.length ≤ 2000000000) : Ev (fun k => spec_l22Merge.f k a b) (mrg a b) := by
  unfold spec_l22Merge.f
  have := ev_spec_l22Merge_from a b ha hb _ 0 0 [] (Nat.zero_le _) (Nat.zero_le _) rfl (by simp; omega)
  simpa using this

def mergeNotes (a b : List S87) : List S87 := if (notesOk a && notesOk b && notesOk (mrg a b)) = true then mrg a b else a
theorem mergeNotes_length (a b : List S87) : (mergeNotes a b).length ≤ a.length + b.length := by
  unfold mergeNotes
  split
  · exact mrg_length a b
  · omega

theorem ev_spec_MergeNotes (a b : List S87) (ha : a.length ≤ 1000000000) (hb : b.length ≤ 1000000000) : Ev (fun k => spec_MergeNotes.f k a b) (mergeNotes a b) := by
  unfold spec_MergeNotes.f
  simp only [Option.bind_some, List.nil_append, List.length_nil, Nat.zero_add]
  refine Ev_pos (by omega) ?_
  refine Ev.bind (ev_spec_NotesOk a (by omega)) ?_
  unfold mergeNotes
  cases h : notesOk a with
  | false =>
    refine Ev_neg (by simp) (Ev_succ ?_)
    simp only [spec_MergeNotes.j0]
    exact Ev_pos (by simp) (Ev_eq (by simp))
  | true =>
    refine Ev_pos (by simp) (Ev.bind (ev_spec_NotesOk b (by omega)) (Ev_succ ?_))
    simp only [spec_MergeNotes.j0]
    cases h' : notesOk b with
    | false => exact Ev_pos (by simp) (Ev_eq (by simp))
    | true =>
      have hl := mrg_length a b
      refine Ev_neg (by simp) (Ev.bind (ev_spec_l22Merge a b (by omega) (by omega)) (Ev.bind (ev_spec_NotesOk _ (by omega)) ?_))
      refine Ev_ite (fun c => ?_) (fun c => ?_)
      · exact Ev_eq (by simp [c])
      · exact Ev_eq (by simp [c])

theorem v_impl_within (a b c : Int) : impl_within.f a b c = some (decide (b ≤ a ∧ a ≤ c)) := by
  unfold impl_within.f
  by_cases h : a ≥ b
  · rw [if_pos h]
    simp [show b ≤ a from h]
  · rw [if_neg h]
    simp [show ¬ b ≤ a from h]

theorem v_impl_isId (a : Int) : impl_isId.f a = some (decide (1 ≤ a ∧ a ≤ 1000000)) := by
  unfold impl_isId.f
  rw [v_impl_within]
  rfl

theorem ev_impl_NotesOk (l : List S87) (hl : l.length ≤ 2000000000) : Ev (fun k => impl_NotesOk.f k l) (notesOk l) := by
  unfold impl_NotesOk.f
  refine evAll (fun k i => impl_NotesOk.l0 k l l (l.length : Int) i) l (nOk l) _ ?_ (fun i hi r ht hf => ?_)
  · refine Ev_succ ?_
    simp only [impl_NotesOk.l0]
    exact Ev_neg (by omega) (Ev.now _)
  · refine Ev_succ ?_
    simp only [impl_NotesOk.l0, v_impl_within, v_impl_isId, Option.bind_some]
    refine Ev_pos (by omega) (Ev_pos (by omega) (Ev_pos (by omega) ?_))
    rw [wr1 hi (by omega)]
    refine Ev_ite (fun h1 => ?_) (fun h1 => ?_)
    · refine Ev_ite (fun h2 => ?_) (fun h2 => ?_)
      · refine Ev_ite (fun h3 => ?_) (fun h3 => ?_)
        · have e : wrap64 ((i : Int) - 1) = ((i - 1 : Nat) : Int) := by rw [wr (by omega) (by omega)]; omega
          rw [e]
          refine Ev_pos (by omega) (Ev_pos (by omega) ?_)
          refine Ev_ite (fun h4 => ?_) (fun h4 => ?_)
          · refine Ev_eq (hf ?_).symm
            unfold nOk
            rw [show decide (i = 0) = false from decide_eq_false (by omega), show decide ((rd_T87 l ((i - 1 : Nat) : Int)).f0 < (rd_T87 l (i : Int)).f0) = false from decide_eq_false (by omega)]
            simp
          · refine ht ?_
            unfold nOk
            rw [show decide ((rd_T87 l ((i - 1 : Nat) : Int)).f0 < (rd_T87 l (i : Int)).f0) = true from decide_eq_true (by omega), h1, h2]
            simp
        · refine ht ?_
          unfold nOk
          rw [show decide (i = 0) = true from decide_eq_true (by omega), h1, h2]
          simp
      · refine Ev_eq (hf ?_).symm
        unfold nOk
        rw [Bool.eq_false_iff.mpr h2]
        simp
    · refine Ev_eq (hf ?_).symm
      unfold nOk
      rw [Bool.eq_false_iff.mpr h1]
      simp

theorem v_impl_copyNotes (l : List S87) (hl : l.length ≤ 2000000000) : impl_copyNotes.f l = some l := by
  unfold impl_copyNotes.f
  simp only [Option.bind_some, List.nil_append, List.length_nil, Nat.zero_add]
  rw [if_pos (by omega)]

theorem ev_impl_MergeNotes_from (a b : List S87) (ha : a.length ≤ 2000000000) (hb : b.length ≤ 2000000000) : ∀ (d i j : Nat) (out : List S87), i ≤ a.length → j ≤ b.length → (a.length - i) + (b.length - j) = d → out.length + d ≤ 2000000000 →
    Ev (fun k => impl_MergeNotes.l0 k a b out (i : Int) (j : Int)) (if notesOk (out ++ mrg (a.drop i) (b.drop j)) = true then out ++ mrg (a.drop i) (b.drop j) else a) := by
  intro d
  induction d using Nat.strongRecOn with
  | _ d ih =>
    intro i j out hi hj hd ho
    refine Ev_succ ?_
    simp only [impl_MergeNotes.l0]
    by_cases h1 : i < a.length
    · refine Ev_pos (by omega) (Ev_succ ?_)
      simp only [impl_MergeNotes.j2]
      refine Ev_pos (by simp) ?_
      rw [List.drop_eq_getElem_cons h1]
      by_cases h2 : j < b.length
      · refine Ev_neg (by omega) (Ev_pos (by omega) (Ev_pos (by omega) (Ev_pos (by omega) (Ev_pos (by omega) (Ev_succ ?_)))))
        simp only [impl_MergeNotes.j3]
        rw [List.drop_eq_getElem_cons h2, rd87 h1, rd87 h2, mrg_cons, wr1 h1 (by omega), wr1 h2 (by omega)]
        refine Ev_ite (fun c => ?_) (fun c => ?_)
        · have c' : a[i].f0 < b[j].f0 := by simpa using c
          rw [if_pos c', ← List.drop_eq_getElem_cons h2]
          refine Ev_pos (by omega) (Ev_pos (by omega) (Ev_pos (by omega) ?_))
          have := ih (d - 1) (by omega) (i + 1) j (out ++ [a[i]]) (by omega) hj (by omega) (by simp; omega)
          rw [List.append_assoc] at this
          exact this
        · have c' : ¬ a[i].f0 < b[j].f0 := by simpa using c
          rw [if_neg c']
          refine Ev_neg (by omega) (Ev_pos (by omega) (Ev_pos (by omega) (Ev_pos (by omega) (Ev_pos (by omega) ?_))))
          refine Ev_ite (fun e => ?_) (fun e => ?_)
          · rw [if_pos e, ← List.drop_eq_getElem_cons h1]
            refine Ev_pos (by omega) ?_
            have := ih (d - 1) (by omega) i (j + 1) (out ++ [b[j]]) hi (by omega) (by omega) (by simp; omega)
            rw [List.append_assoc] at this
            exact this
          · rw [if_neg e]
            refine Ev_pos (by omega) ?_
            have := ih (d - 2) (by omega) (i + 1) (j + 1) (out ++ [(⟨a[i].f0, mx a[i].f1 b[j].f1⟩ : S87)]) (by omega) (by omega) (by omega) (by simp; omega)
            rw [List.append_assoc] at this
            exact this
      · refine Ev_pos (by omega) (Ev_succ ?_)
        simp only [impl_MergeNotes.j3]
        refine Ev_pos (by simp) (Ev_pos (by omega) (Ev_pos (by omega) (Ev_pos (by omega) ?_)))
        rw [rd87 h1, wr1 h1 (by omega)]
        have := ih (d - 1) (by omega) (i + 1) j (out ++ [a[i]]) (by omega) hj (by omega) (by simp; omega)
        rw [List.append_assoc] at this
        rw [List.drop_of_length_le (show b.length ≤ j by omega), mrg_nil_right] at this ⊢
        exact this
    · refine Ev_neg (by omega) (Ev_succ ?_)
      simp only [impl_MergeNotes.j2]
      by_cases h2 : j < b.length
      · refine Ev_pos (decide_eq_true (by omega)) (Ev_neg (by omega) (Ev_neg (by omega) (Ev_succ ?_)))
        simp only [impl_MergeNotes.j3]
        refine Ev_neg (by simp) (Ev_pos (by omega) (Ev_pos (by omega) (Ev_pos (by omega) (Ev_pos (by omega) ?_))))
        rw [rd87 h2, wr1 h2 (by omega)]
        have := ih (d - 1) (by omega) i (j + 1) (out ++ [b[j]]) hi (by omega) (by omega) (by simp; omega)
        rw [List.append_assoc] at this
        rw [List.drop_of_length_le (show a.length ≤ i by omega), mrg_nil] at this ⊢
        rw [List.drop_eq_getElem_cons h2]
        exact this
      · refine Ev_neg (by simp; omega) ?_
        rw [List.drop_of_length_le (show a.length ≤ i by omega), List.drop_of_length_le (show b.length ≤ j by omega), mrg_nil, List.append_nil]
        refine Ev.bind (ev_impl_NotesOk out (by omega)) ?_
        refine Ev_ite (fun c => ?_) (fun c => ?_)
        · rw [if_pos c]; exact Ev.now _
        · rw [if_neg c]
          exact Ev_some (v_impl_copyNotes a ha) (Ev.now _)
theorem ev_impl_MergeNotes (a b : List S87) (ha : a.length ≤ 1000000000) (hb : b.length ≤ 1000000000) : Ev (fun k => impl_MergeNotes.f k a b) (mergeNotes a b) := by
  unfold impl_MergeNotes.f
  refine Ev.bind (ev_impl_NotesOk a (by omega)) ?_
  unfold mergeNotes
  cases h : notesOk a with
  | false =>
    refine Ev_neg (by simp) (Ev_succ ?_)
    simp only [impl_MergeNotes.j0]
    exact Ev_pos (by simp) (Ev_some (v_impl_copyNotes a (by omega)) (Ev_eq (by simp)))
  | true =>
    refine Ev_pos (by simp) (Ev.bind (ev_impl_NotesOk b (by omega)) (Ev_succ ?_))
    simp only [impl_MergeNotes.j0]
    cases h' : notesOk b with
    | false => exact Ev_pos (by simp) (Ev_some (v_impl_copyNotes a (by omega)) (Ev_eq (by simp)))
    | true =>
      refine Ev_neg (by simp) ?_
      have := ev_impl_MergeNotes_from a b (by omega) (by omega) _ 0 0 [] (Nat.zero_le _) (Nat.zero_le _) rfl (by simp; omega)
      simpa using this

def el_Note (a : Int) : S87 := ⟨a, a + 1⟩
def mk_Note (n : Nat) (a : Int) : List S87 := (List.range n).map fun i : Nat => el_Note (a + 2 * (i : Int))

theorem ev_markNoteS (l : List S87) (a : Int) (h0 : 0 ≤ a) (hb : a + 2 * (l.length : Int) ≤ 1000000000000) : Ev (fun k => laws_markNoteS.f k l a) (a + 2 * (l.length : Int), mk_Note l.length a) := by
  unfold laws_markNoteS.f
  refine evMark (fun k xs a i => laws_markNoteS.l0 k xs a i) 2 (by omega) el_Note l a h0 hb (fun xs a hx => ?_) (fun xs i a r hi hx h0 hb ih => ?_)
  · refine Ev_succ ?_
    simp only [laws_markNoteS.l0]
    exact Ev_neg (by omega) (Ev.now _)
  · refine Ev_succ ?_
    simp only [laws_markNoteS.l0]
    refine Ev_pos (by omega) (Ev_pos (by omega) ?_)
    have e1 : wrap64 (a + 1) = a + 1 := wr (by omega) (by omega)
    have e2 : wrap64 (a + 1 + 1) = a + 2 := by rw [wr (by omega) (by omega)]; omega
    simp only [e1, e2, Option.bind_some, Int.toNat_natCast, List.set_set]
    rw [wr1 (n := l.length) (by omega) (by omega)]
    have hi' : i < xs.length := by omega
    simp only [rds87 hi', List.length_set, List.set_set] at ih ⊢
    first | exact ih | (simp only [rd87 hi'] at ih ⊢; exact ih)

theorem ev_heldNoteS (m : Nat) (a : Int) (h0 : 0 ≤ a) (hb : a + 2 * (m : Int) ≤ 1000000000000) : Ev (fun k => laws_heldNoteS.f k (mk_Note m a) a) (a + 2 * (m : Int)) := by
  unfold laws_heldNoteS.f
  have hl : (mk_Note m a).length = m := by simp [mk_Note]
  have key : ∀ i, i ≤ m → Ev (fun k => laws_heldNoteS.l0 k (mk_Note m a) (a + 2 * (i : Int)) (i : Int)) (a + 2 * (m : Int)) := by
    refine down (P := fun i => Ev (fun k => laws_heldNoteS.l0 k (mk_Note m a) (a + 2 * (i : Int)) (i : Int)) (a + 2 * (m : Int))) m ?_ ?_
    · refine Ev_succ ?_
      simp only [laws_heldNoteS.l0]
      exact Ev_neg (by omega) (Ev.now _)
    · intro i hi ih
      have hi' : i < (mk_Note m a).length := by omega
      have hr : rd_T87 (mk_Note m a) (i : Int) = el_Note (a + 2 * (i : Int)) := by
        rw [rd87 hi']
        simp [mk_Note]
      refine Ev_succ ?_
      simp only [laws_heldNoteS.l0]
      refine Ev_pos (by omega) (Ev_pos (by omega) ?_)
      have e1 : wrap64 (a + 2 * (i : Int) + 1) = a + 2 * (i : Int) + 1 := wr (by omega) (by omega)
      have e2 : wrap64 (a + 2 * (i : Int) + 1 + 1) = a + 2 * (i : Int) + 2 := by rw [wr (by omega) (by omega)]; omega
      rw [hr]
      simp only [e1, e2, el_Note, bne_self_eq_false, if_true, if_false, Bool.false_eq_true]
      rw [wr1 (n := m) hi (by omega)]
      have e : a + 2 * ((i + 1 : Nat) : Int) = a + 2 * (i : Int) + 2 := by omega
      rw [e] at ih
      exact ih
  have := key 0 (Nat.zero_le _)
  simpa using this

theorem pure_law : laws_FnExactMergeNotes.Pure := by
  intro l0 l1 hm hg hm1 hg1
  refine Ev.rounds (g := fun k => laws_FnExactMergeNotes.f k l0 l1) ?_
  unfold laws_FnExactMergeNotes.f
  by_cases h0 : (l0.length : Int) ≤ 1048576
  · rw [sz_ok_Note l0 _ (by omega) (by omega) h0]
    simp only [Option.bind_some]
    refine Ev_neg (by omega) ?_
    by_cases h1 : (l1.length : Int) ≤ 1048576 - l0.length
    · rw [sz_ok_Note l1 _ (by omega) (by omega) h1]
      simp only [Option.bind_some]
      have hn : (l0.map cv_Note).length ≤ 1048576 := by rw [List.length_map]; omega
      have hn1 : (l1.map cv_Note).length ≤ 1048576 := by rw [List.length_map]; omega
      have hr := mergeNotes_length (l0.map cv_Note) (l1.map cv_Note)
      have t0 := ev_toNoteS l0 (by omega)
      have t1 := ev_toNoteS l1 (by omega)
      have m0 := ev_impl_MergeNotes (l0.map cv_Note) (l1.map cv_Note) (by omega) (by omega)
      refine Ev_neg (by omega) ?_
      refine Ev.bind t0 ?_
      refine Ev.bind t1 ?_
      refine Ev.bind (ev_spec_MergeNotes _ _ (by omega) (by omega)) ?_
      refine Ev.bind t0 ?_
      refine Ev.bind t1 ?_
      refine Ev.bind m0 ?_
      refine Ev.bind (ev_eqNoteS _ (by omega)) ?_
      refine Ev_pos (by simp) ?_
      refine Ev.bind t0 ?_
      refine Ev.bind (ev_eqNoteS _ (by omega)) ?_
      refine Ev_pos (by simp) ?_
      refine Ev.bind t1 ?_
      refine Ev.bind (ev_eqNoteS _ (by omega)) ?_
      refine Ev_pos (by simp) ?_
      refine Ev.bind (ev_markNoteS _ 1 (by omega) (by omega)) ?_
      refine Ev.bind (ev_markNoteS _ _ (by simp only; omega) (by simp only; omega)) ?_
      refine Ev_neg (by simp only; omega) ?_
      refine Ev.bind (ev_eqNoteS _ (by omega)) ?_
      refine Ev_succ ?_
      simp only [laws_FnExactMergeNotes.j0]
      refine Ev_neg (by simp) ?_
      refine Ev.bind (ev_markNoteS _ 1 (by omega) (by omega)) ?_
      refine Ev.bind (ev_heldNoteS _ 1 (by omega) (by omega)) ?_
      refine Ev_neg (by omega) ?_
      refine Ev_pos (by simp) ?_
      refine Ev.bind t0 ?_
      refine Ev.bind t1 ?_
      refine Ev.bind m0 ?_
      refine Ev.bind (ev_eqNoteS _ (by omega)) ?_
      refine Ev_pos (by simp) ?_
      refine Ev.bind (ev_heldNoteS _ 1 (by omega) (by omega)) ?_
      refine Ev_neg (by omega) ?_
      exact Ev_pos (by simp) (Ev.now _)
    · rw [sz_big_Note l1 _ (by omega) (by omega) hm1 h1]
      simp only [Option.bind_some]
      exact Ev_pos (by omega) (Ev.now _)
  · rw [sz_big_Note l0 _ (by omega) (by omega) hm h0]
    simp only [Option.bind_some]
    exact Ev_pos (by omega) (Ev.now _)

end Go.Proofs.Ytcalkgcnciobpaa.PFnExactMergeNotes
namespace Go.Proofs.Ytcalkgcnciobpaa.PureOf
theorem FnExactMergeNotes : Go.Proofs.Ytcalkgcnciobpaa.PFnExactMergeNotes.laws_FnExactMergeNotes.Pure := Go.Proofs.Ytcalkgcnciobpaa.PFnExactMergeNotes.pure_law
end Go.Proofs.Ytcalkgcnciobpaa.PureOf
