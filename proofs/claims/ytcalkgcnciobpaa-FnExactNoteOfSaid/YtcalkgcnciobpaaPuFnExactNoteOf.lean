/- What is left of the law FnExactNoteOf: over lists and numbers alone. No condition beyond the statement's own. -/
import Derived.Test.YtcalkgcnciobpaaKnFnExactNoteOf
import Derived.Test.YtcalkgcnciobpaaV
namespace Go.Proofs.Ytcalkgcnciobpaa.PFnExactNoteOf
open Go.RowKit Go.Proofs.YtcalkgcnciobpaaW.PrintWords Go.Proofs.YtcalkgcnciobpaaW.PrintLast Go.Proofs.YtcalkgcnciobpaaW.PrintMore Go.Proofs.YtcalkgcnciobpaaV
set_option linter.unusedVariables false
set_option linter.unusedSimpArgs false
theorem rd89 {l : List S89} {i : Nat} (h : i < l.length) : rd_T89 l (i : Int) = l[i] := by
  unfold rd_T89
  simp [List.getD, List.getElem?_eq_getElem h]
theorem rds89 {l : List S89} {i : Nat} (h : i < l.length) (v : S89) : rd_T89 (l.set i v) (i : Int) = v := by
  unfold rd_T89
  simp [List.getD, h]

theorem rd87 {l : List S87} {i : Nat} (h : i < l.length) : rd_T87 l (i : Int) = l[i] := by
  unfold rd_T87
  simp [List.getD, List.getElem?_eq_getElem h]
theorem rds87 {l : List S87} {i : Nat} (h : i < l.length) (v : S87) : rd_T87 (l.set i v) (i : Int) = v := by
  unfold rd_T87
  simp [List.getD, h]

theorem sz_ok_Note (l : List S89) (a : Int) (ha : 0 ≤ a) (hb : a ≤ 1048576) (hl : (l.length : Int) ≤ a) : laws_szNoteS.f l a = some (a - l.length) := by
  unfold laws_szNoteS.f
  rw [wr (by omega) (by omega), if_neg (by omega)]
theorem sz_big_Note (l : List S89) (a : Int) (ha : 0 ≤ a) (hb : a ≤ 1048576) (hm : l.length ≤ maxLen) (hl : ¬ (l.length : Int) ≤ a) : laws_szNoteS.f l a = some (-1) := by
  unfold maxLen at hm
  unfold laws_szNoteS.f
  rw [wr (by omega) (by omega), if_pos (by omega)]

def noteOf (l : List S87) (id : Int) : Int := match l with
  | [] => 0
  | x :: xs => if x.f0 = id then x.f1 else noteOf xs id
theorem ev_spec_NoteOf (l : List S87) (id : Int) (hl : l.length ≤ 2000000000) : Ev (fun k => spec_NoteOf.f k l id) (noteOf l id) := by
  unfold spec_NoteOf.f
  refine down (P := fun i => Ev (fun k => spec_NoteOf.l0 k l id (i : Int)) (noteOf (l.drop i) id)) l.length ?_ ?_ 0 (Nat.zero_le _)
  · refine Ev_succ ?_
    simp only [spec_NoteOf.l0]
    rw [List.drop_length]
    exact Ev_neg (by omega) (Ev.now _)
  · intro i hi ih
    refine Ev_succ ?_
    simp only [spec_NoteOf.l0]
    rw [List.drop_eq_getElem_cons hi, rd87 hi, wr1 hi (by omega)]
    unfold noteOf
    refine Ev_pos (by omega) (Ev_pos (by omega) ?_)
    by_cases h : l[i].f0 = id
    · rw [if_pos h]; exact Ev_pos h (Ev.now _)
    · rw [if_neg h]; exact Ev_neg h ih

def cv_Note (x : S89) : S87 := ⟨x.f0, x.f1⟩
theorem ev_toNoteS (l : List S89) (hl : l.length ≤ 1048576) : Ev (fun k => laws_toNoteS.f k l) (l.map cv_Note) := by
  unfold laws_toNoteS.f
  refine Ev_pos (by omega) ?_
  rw [Int.toNat_natCast]
  refine Ev_pos (by omega) ?_
  refine evFill (fun k xs i => laws_toNoteS.l0 k l xs i) l cv_Note z87 (fun xs hx => ?_) (fun xs i hi r hx ih => ?_)
  · refine Ev_succ ?_
    simp only [laws_toNoteS.l0]
    exact Ev_neg (by omega) (Ev.now _)
  · refine Ev_succ ?_
    simp only [laws_toNoteS.l0]
    refine Ev_pos (by omega) (Ev_pos (by omega) (Ev_some rfl (Ev_pos (by omega) ?_)))
    rw [wr1 hi (by omega), rd89 hi, Int.toNat_natCast]
    exact ih

theorem ev_impl_NoteOf (l : List S87) (id : Int) (hl : l.length ≤ 2000000000) : Ev (fun k => impl_NoteOf.f k l id) (noteOf l id) := by
  unfold impl_NoteOf.f
  refine down (P := fun i => Ev (fun k => impl_NoteOf.l0 k id l (l.length : Int) (i : Int)) (noteOf (l.drop i) id)) l.length ?_ ?_ 0 (Nat.zero_le _)
  · refine Ev_succ ?_
    simp only [impl_NoteOf.l0]
    rw [List.drop_length]
    exact Ev_neg (by omega) (Ev.now _)
  · intro i hi ih
    refine Ev_succ ?_
    simp only [impl_NoteOf.l0]
    rw [List.drop_eq_getElem_cons hi, rd87 hi, wr1 hi (by omega)]
    unfold noteOf
    refine Ev_pos (by omega) (Ev_pos (by omega) (Ev_pos (by omega) ?_))
    by_cases h : l[i].f0 = id
    · rw [if_pos h]; exact Ev_pos h (Ev.now _)
    · rw [if_neg h]; exact Ev_neg h ih

theorem eqr_Note (a0 : Int) (a1 : Int) : laws_eqNote.f a0 a1 a0 a1 = some true := by
  simp [laws_eqNote.f]
theorem ev_eqNoteS (l : List S87) (hl : l.length ≤ 2000000000) : Ev (fun k => laws_eqNoteS.f k l l) true := by
  unfold laws_eqNoteS.f
  refine Ev_pos rfl ?_
  refine down (P := fun i => Ev (fun k => laws_eqNoteS.l0 k l l (i : Int)) true) l.length ?_ ?_ 0 (Nat.zero_le _)
  · refine Ev_succ ?_
    simp only [laws_eqNoteS.l0]
    exact Ev_neg (by omega) (Ev.now _)
  · intro i hi ih
    refine Ev_succ ?_
    simp only [laws_eqNoteS.l0]
    refine Ev_pos (by omega) (Ev_pos (by omega) (Ev_pos (by omega) (Ev_some (eqr_Note _ _) (Ev_pos rfl ?_))))
    rw [wr1 hi (by omega)]
    exact ih

theorem pure_law : laws_FnExactNoteOf.Pure := by
  intro l0 a1 hm hg _
  refine Ev.rounds (g := fun k => laws_FnExactNoteOf.f k l0 a1) ?_
  unfold laws_FnExactNoteOf.f
  by_cases h0 : (l0.length : Int) ≤ 1048576
  · rw [sz_ok_Note l0 _ (by omega) (by omega) h0]
    simp only [Option.bind_some]
    have hn : (l0.map cv_Note).length ≤ 2000000000 := by rw [List.length_map]; omega
    refine Ev_neg (by omega) (Ev.bind (ev_toNoteS l0 (by omega)) (Ev.bind (ev_spec_NoteOf _ _ hn) (Ev.bind (ev_toNoteS l0 (by omega)) (Ev.bind (ev_impl_NoteOf _ _ hn) ?_))))
    first
      | exact Ev_pos rfl (Ev.bind (ev_toNoteS l0 (by omega)) (Ev.bind (ev_eqNoteS _ hn) (Ev_pos rfl (Ev.now _))))
      | exact Ev_neg (by simp) (Ev.bind (ev_toNoteS l0 (by omega)) (Ev.bind (ev_eqNoteS _ hn) (Ev_pos rfl (Ev.now _))))
  · rw [sz_big_Note l0 _ (by omega) (by omega) hm h0]
    simp only [Option.bind_some]
    exact Ev_pos (by omega) (Ev.now _)

end Go.Proofs.Ytcalkgcnciobpaa.PFnExactNoteOf
namespace Go.Proofs.Ytcalkgcnciobpaa.PureOf
theorem FnExactNoteOf : Go.Proofs.Ytcalkgcnciobpaa.PFnExactNoteOf.laws_FnExactNoteOf.Pure := Go.Proofs.Ytcalkgcnciobpaa.PFnExactNoteOf.pure_law
end Go.Proofs.Ytcalkgcnciobpaa.PureOf
