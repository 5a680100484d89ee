/- What is left of the law FnExactCovers: over lists and numbers alone. No condition beyond the statement's own. -/
import Derived.Test.YtcalkgcnciobpaaKnFnExactCovers
import Derived.Test.YtcalkgcnciobpaaV
namespace Go.Proofs.Ytcalkgcnciobpaa.PFnExactCovers
open Go.RowKit Go.Proofs.YtcalkgcnciobpaaW.PrintWords Go.Proofs.YtcalkgcnciobpaaW.PrintLast Go.Proofs.YtcalkgcnciobpaaW.PrintMore Go.Proofs.YtcalkgcnciobpaaV
set_option linter.unusedVariables false
set_option linter.unusedSimpArgs false
theorem rd89 {l : List S89} {i : Nat} (h : i < l.length) : rd_T89 l (i : Int) = l[i] := by
  unfold rd_T89
  simp [List.getD, List.getElem?_eq_getElem h]
theorem rds89 {l : List S89} {i : Nat} (h : i < l.length) (v : S89) : rd_T89 (l.set i v) (i : Int) = v := by
  unfold rd_T89
  simp [List.getD, h]

theorem rd87 {l : List S87} {i : Nat} (h : i < l.length) : rd_T87 l (i : Int) = l[i] := by
  unfold rd_T87
  simp [List.getD, List.getElem?_eq_getElem h]
theorem rds87 {l : List S87} {i : Nat} (h : i < l.length) (v : S87) : rd_T87 (l.set i v) (i : Int) = v := by
  unfold rd_T87
  simp [List.getD, h]

theorem sz_ok_Note (l : List S89) (a : Int) (ha : 0 ≤ a) (hb : a ≤ 1048576) (hl : (l.length : Int) ≤ a) : laws_szNoteS.f l a = some (a - l.length) := by
  unfold laws_szNoteS.f
  rw [wr (by omega) (by omega), if_neg (by omega)]
theorem sz_big_Note (l : List S89) (a : Int) (ha : 0 ≤ a) (hb : a ≤ 1048576) (hm : l.length ≤ maxLen) (hl : ¬ (l.length : Int) ≤ a) : laws_szNoteS.f l a = some (-1) := by
  unfold maxLen at hm
  unfold laws_szNoteS.f
  rw [wr (by omega) (by omega), if_pos (by omega)]

def cv_Note (x : S89) : S87 := ⟨x.f0, x.f1⟩
theorem ev_toNoteS (l : List S89) (hl : l.length ≤ 1048576) : Ev (fun k => laws_toNoteS.f k l) (l.map cv_Note) := by
  unfold laws_toNoteS.f
  refine Ev_pos (by omega) ?_
  rw [Int.toNat_natCast]
  refine Ev_pos (by omega) ?_
  refine evFill (fun k xs i => laws_toNoteS.l0 k l xs i) l cv_Note z87 (fun xs hx => ?_) (fun xs i hi r hx ih => ?_)
  · refine Ev_succ ?_
    simp only [laws_toNoteS.l0]
    exact Ev_neg (by omega) (Ev.now _)
  · refine Ev_succ ?_
    simp only [laws_toNoteS.l0]
    refine Ev_pos (by omega) (Ev_pos (by omega) (Ev_some rfl (Ev_pos (by omega) ?_)))
    rw [wr1 hi (by omega), rd89 hi, Int.toNat_natCast]
    exact ih

theorem eqr_Note (a0 : Int) (a1 : Int) : laws_eqNote.f a0 a1 a0 a1 = some true := by
  simp [laws_eqNote.f]
theorem ev_eqNoteS (l : List S87) (hl : l.length ≤ 2000000000) : Ev (fun k => laws_eqNoteS.f k l l) true := by
  unfold laws_eqNoteS.f
  refine Ev_pos rfl ?_
  refine down (P := fun i => Ev (fun k => laws_eqNoteS.l0 k l l (i : Int)) true) l.length ?_ ?_ 0 (Nat.zero_le _)
  · refine Ev_succ ?_
    simp only [laws_eqNoteS.l0]
    exact Ev_neg (by omega) (Ev.now _)
  · intro i hi ih
    refine Ev_succ ?_
    simp only [laws_eqNoteS.l0]
    refine Ev_pos (by omega) (Ev_pos (by omega) (Ev_pos (by omega) (Ev_some (eqr_Note _ _) (Ev_pos rfl ?_))))
    rw [wr1 hi (by omega)]
    exact ih

def noteOf (l : List S87) (id : Int) : Int := match l with
  | [] => 0
  | x :: xs => if x.f0 = id then x.f1 else noteOf xs id

theorem ev_spec_NoteOf (l : List S87) (id : Int) (hl : l.length ≤ 2000000000) : Ev (fun k => spec_NoteOf.f k l id) (noteOf l id) := by
  unfold spec_NoteOf.f
  refine down (P := fun i => Ev (fun k => spec_NoteOf.l0 k l id (i : Int)) (noteOf (l.drop i) id)) l.length ?_ ?_ 0 (Nat.zero_le _)
  · refine Ev_succ ?_
    simp only [spec_NoteOf.l0]
    rw [List.drop_length]
    exact Ev_neg (by omega) (Ev.now _)
  · intro i hi ih
    refine Ev_succ ?_
    simp only [spec_NoteOf.l0]
    rw [List.drop_eq_getElem_cons hi, rd87 hi, wr1 hi (by omega)]
    unfold noteOf
    refine Ev_pos (by omega) (Ev_pos (by omega) ?_)
    by_cases h : l[i].f0 = id
    · rw [if_pos h]; exact Ev_pos h (Ev.now _)
    · rw [if_neg h]; exact Ev_neg h ih

theorem v_spec_l1In (a b c : Int) : spec_l1In.f a b c = some (decide (b ≤ a ∧ a ≤ c)) := by
  unfold spec_l1In.f
  by_cases h : a ≥ b
  · rw [if_pos h]
    simp [show b ≤ a from h]
  · rw [if_neg h]
    simp [show ¬ b ≤ a from h]

def nOk (l : List S87) (i : Nat) : Bool := decide (1 ≤ (rd_T87 l (i : Int)).f0 ∧ (rd_T87 l (i : Int)).f0 ≤ 1000000) && decide (1 ≤ (rd_T87 l (i : Int)).f1 ∧ (rd_T87 l (i : Int)).f1 ≤ 16777215) && (decide (i = 0) || decide ((rd_T87 l ((i - 1 : Nat) : Int)).f0 < (rd_T87 l (i : Int)).f0))
def notesOk (l : List S87) : Bool := (List.range l.length).all (nOk l) && decide ((l.length : Int) ≤ 130)

theorem ev_spec_NotesOk (l : List S87) (hl : l.length ≤ 2000000000) : Ev (fun k => spec_NotesOk.f k l) (notesOk l) := by
  unfold spec_NotesOk.f
  refine evAll (fun k i => spec_NotesOk.l0 k l i) l (nOk l) _ ?_ (fun i hi r ht hf => ?_)
  · refine Ev_succ ?_
    simp only [spec_NotesOk.l0]
    exact Ev_neg (by omega) (Ev.now _)
  · refine Ev_succ ?_
    simp only [spec_NotesOk.l0, v_spec_l1In, Option.bind_some]
    refine Ev_pos (by omega) (Ev_pos (by omega) ?_)
    rw [wr1 hi (by omega)]
    refine Ev_ite (fun h1 => ?_) (fun h1 => ?_)
    · refine Ev_ite (fun h2 => ?_) (fun h2 => ?_)
      · refine Ev_ite (fun h3 => ?_) (fun h3 => ?_)
        · have e : wrap64 ((i : Int) - 1) = ((i - 1 : Nat) : Int) := by rw [wr (by omega) (by omega)]; omega
          rw [e]
          refine Ev_pos (by omega) (Ev_pos (by omega) ?_)
          refine Ev_ite (fun h4 => ?_) (fun h4 => ?_)
          · refine Ev_eq (hf ?_).symm
            unfold nOk
            rw [show decide (i = 0) = false from decide_eq_false (by omega), show decide ((rd_T87 l ((i - 1 : Nat) : Int)).f0 < (rd_T87 l (i : Int)).f0) = false from decide_eq_false (by omega)]
            simp
          · refine ht ?_
            unfold nOk
            rw [show decide ((rd_T87 l ((i - 1 : Nat) : Int)).f0 < (rd_T87 l (i : Int)).f0) = true from decide_eq_true (by omega), h1, h2]
            simp
        · refine ht ?_
          unfold nOk
          rw [show decide (i = 0) = true from decide_eq_true (by omega), h1, h2]
          simp
      · refine Ev_eq (hf ?_).symm
        unfold nOk
        rw [Bool.eq_false_iff.mpr h2]
        simp
    · refine Ev_eq (hf ?_).symm
      unfold nOk
      rw [Bool.eq_false_iff.mpr h1]
      simp

def covers (a b : List S87) : Bool := b.all fun n => decide (n.f1 ≤ noteOf a n.f0)

theorem ev_spec_Covers (a b : List S87) (ha : a.length ≤ 2000000000) (hb : b.length ≤ 2000000000) : Ev (fun k => spec_Covers.f k a b) (covers a b && (notesOk a && notesOk b)) := by
  unfold spec_Covers.f
  refine evAllL (fun k i => spec_Covers.l0 k a b i) b _ _ ?_ (fun i hi r ht hf => ?_)
  · refine Ev_succ ?_
    simp only [spec_Covers.l0]
    refine Ev_neg (by omega) ?_
    refine Ev.bind (ev_spec_NotesOk a ha) ?_
    cases h : notesOk a with
    | true =>
      refine Ev_pos (by simp) (Ev.bind (ev_spec_NotesOk b hb) ?_)
      exact Ev_eq (by simp)
    | false => exact Ev_neg (by simp) (Ev_eq (by simp))
  · refine Ev_succ ?_
    simp only [spec_Covers.l0]
    refine Ev_pos (by omega) (Ev_pos (by omega) ?_)
    rw [rd87 hi, wr1 hi (by omega)]
    refine Ev.bind (ev_spec_NoteOf a _ ha) ?_
    refine Ev_ite (fun h => ?_) (fun h => ?_)
    · exact Ev_eq (hf (decide_eq_false (by omega))).symm
    · exact ht (decide_eq_true (by omega))

theorem ev_impl_NoteOf (l : List S87) (id : Int) (hl : l.length ≤ 2000000000) : Ev (fun k => impl_NoteOf.f k l id) (noteOf l id) := by
  unfold impl_NoteOf.f
  refine down (P := fun i => Ev (fun k => impl_NoteOf.l0 k id l (l.length : Int) (i : Int)) (noteOf (l.drop i) id)) l.length ?_ ?_ 0 (Nat.zero_le _)
  · refine Ev_succ ?_
    simp only [impl_NoteOf.l0]
    rw [List.drop_length]
    exact Ev_neg (by omega) (Ev.now _)
  · intro i hi ih
    refine Ev_succ ?_
    simp only [impl_NoteOf.l0]
    rw [List.drop_eq_getElem_cons hi, rd87 hi, wr1 hi (by omega)]
    unfold noteOf
    refine Ev_pos (by omega) (Ev_pos (by omega) (Ev_pos (by omega) ?_))
    by_cases h : l[i].f0 = id
    · rw [if_pos h]; exact Ev_pos h (Ev.now _)
    · rw [if_neg h]; exact Ev_neg h ih

theorem v_impl_within (a b c : Int) : impl_within.f a b c = some (decide (b ≤ a ∧ a ≤ c)) := by
  unfold impl_within.f
  by_cases h : a ≥ b
  · rw [if_pos h]
    simp [show b ≤ a from h]
  · rw [if_neg h]
    simp [show ¬ b ≤ a from h]

theorem v_impl_isId (a : Int) : impl_isId.f a = some (decide (1 ≤ a ∧ a ≤ 1000000)) := by
  unfold impl_isId.f
  rw [v_impl_within]
  rfl

theorem ev_impl_NotesOk (l : List S87) (hl : l.length ≤ 2000000000) : Ev (fun k => impl_NotesOk.f k l) (notesOk l) := by
  unfold impl_NotesOk.f
  refine evAll (fun k i => impl_NotesOk.l0 k l l (l.length : Int) i) l (nOk l) _ ?_ (fun i hi r ht hf => ?_)
  · refine Ev_succ ?_
    simp only [impl_NotesOk.l0]
    exact Ev_neg (by omega) (Ev.now _)
  · refine Ev_succ ?_
    simp only [impl_NotesOk.l0, v_impl_within, v_impl_isId, Option.bind_some]
    refine Ev_pos (by omega) (Ev_pos (by omega) (Ev_pos (by omega) ?_))
    rw [wr1 hi (by omega)]
    refine Ev_ite (fun h1 => ?_) (fun h1 => ?_)
    · refine Ev_ite (fun h2 => ?_) (fun h2 => ?_)
      · refine Ev_ite (fun h3 => ?_) (fun h3 => ?_)
        · have e : wrap64 ((i : Int) - 1) = ((i - 1 : Nat) : Int) := by rw [wr (by omega) (by omega)]; omega
          rw [e]
          refine Ev_pos (by omega) (Ev_pos (by omega) ?_)
          refine Ev_ite (fun h4 => ?_) (fun h4 => ?_)
          · refine Ev_eq (hf ?_).symm
            unfold nOk
            rw [show decide (i = 0) = false from decide_eq_false (by omega), show decide ((rd_T87 l ((i - 1 : Nat) : Int)).f0 < (rd_T87 l (i : Int)).f0) = false from decide_eq_false (by omega)]
            simp
          · refine ht ?_
            unfold nOk
            rw [show decide ((rd_T87 l ((i - 1 : Nat) : Int)).f0 < (rd_T87 l (i : Int)).f0) = true from decide_eq_true (by omega), h1, h2]
            simp
        · refine ht ?_
          unfold nOk
          rw [show decide (i = 0) = true from decide_eq_true (by omega), h1, h2]
          simp
      · refine Ev_eq (hf ?_).symm
        unfold nOk
        rw [Bool.eq_false_iff.mpr h2]
        simp
    · refine Ev_eq (hf ?_).symm
      unfold nOk
      rw [Bool.eq_false_iff.mpr h1]
      simp

theorem ev_impl_Covers (a b : List S87) (ha : a.length ≤ 2000000000) (hb : b.length ≤ 2000000000) : Ev (fun k => impl_Covers.f k a b) (covers a b && (notesOk a && notesOk b)) := by
  have loop : Ev (fun k => impl_Covers.l0 k a b (b.length : Int) 0) (covers a b && true) := by
    refine evAllL (fun k i => impl_Covers.l0 k a b (b.length : Int) i) b _ _ ?_ (fun i hi r ht hf => ?_)
    · refine Ev_succ ?_
      simp only [impl_Covers.l0]
      exact Ev_neg (by omega) (Ev.now _)
    · refine Ev_succ ?_
      simp only [impl_Covers.l0]
      refine Ev_pos (by omega) (Ev_pos (by omega) (Ev_pos (by omega) ?_))
      rw [rd87 hi, wr1 hi (by omega)]
      refine Ev.bind (ev_impl_NoteOf a _ ha) ?_
      refine Ev_ite (fun h => ?_) (fun h => ?_)
      · exact Ev_eq (hf (decide_eq_false (by omega))).symm
      · exact ht (decide_eq_true (by omega))
  unfold impl_Covers.f
  refine Ev.bind (ev_impl_NotesOk a ha) ?_
  cases h : notesOk a with
  | true =>
    refine Ev_pos (by simp) (Ev.bind (ev_impl_NotesOk b hb) ?_)
    refine Ev_succ ?_
    simp only [impl_Covers.j0]
    cases h' : notesOk b with
    | true =>
      refine Ev_neg (by simp) ?_
      simpa using loop
    | false => exact Ev_pos (by simp) (Ev_eq (by simp))
  | false =>
    refine Ev_neg (by simp) ?_
    refine Ev_succ ?_
    simp only [impl_Covers.j0]
    exact Ev_pos (by simp) (Ev_eq (by simp))

theorem pure_law : laws_FnExactCovers.Pure := by
  intro l0 l1 hm hg hm1 hg1
  refine Ev.rounds (g := fun k => laws_FnExactCovers.f k l0 l1) ?_
  unfold laws_FnExactCovers.f
  by_cases h0 : (l0.length : Int) ≤ 1048576
  · rw [sz_ok_Note l0 _ (by omega) (by omega) h0]
    simp only [Option.bind_some]
    refine Ev_neg (by omega) ?_
    by_cases h1 : (l1.length : Int) ≤ 1048576 - l0.length
    · rw [sz_ok_Note l1 _ (by omega) (by omega) h1]
      simp only [Option.bind_some]
      have hn : (l0.map cv_Note).length ≤ 2000000000 := by rw [List.length_map]; omega
      have hn1 : (l1.map cv_Note).length ≤ 2000000000 := by rw [List.length_map]; omega
      have t0 := ev_toNoteS l0 (by omega)
      have t1 := ev_toNoteS l1 (by omega)
      refine Ev_neg (by omega) ?_
      refine Ev.bind t0 ?_
      refine Ev.bind t1 ?_
      refine Ev.bind (ev_spec_Covers _ _ hn hn1) ?_
      refine Ev.bind t0 ?_
      refine Ev.bind t1 ?_
      refine Ev.bind (ev_impl_Covers _ _ hn hn1) ?_
      refine Ev_neg (by simp) ?_
      refine Ev.bind t0 ?_
      refine Ev.bind (ev_eqNoteS _ hn) ?_
      refine Ev_pos (by simp) ?_
      refine Ev.bind t1 ?_
      refine Ev.bind (ev_eqNoteS _ hn1) ?_
      exact Ev_pos (by simp) (Ev.now _)
    · rw [sz_big_Note l1 _ (by omega) (by omega) hm1 h1]
      simp only [Option.bind_some]
      exact Ev_pos (by omega) (Ev.now _)
  · rw [sz_big_Note l0 _ (by omega) (by omega) hm h0]
    simp only [Option.bind_some]
    exact Ev_pos (by omega) (Ev.now _)

end Go.Proofs.Ytcalkgcnciobpaa.PFnExactCovers
namespace Go.Proofs.Ytcalkgcnciobpaa.PureOf
theorem FnExactCovers : Go.Proofs.Ytcalkgcnciobpaa.PFnExactCovers.laws_FnExactCovers.Pure := Go.Proofs.Ytcalkgcnciobpaa.PFnExactCovers.pure_law
end Go.Proofs.Ytcalkgcnciobpaa.PureOf
