/- What is left of the law FnExactDiffOf: over lists and numbers alone. No condition beyond the statement's own. -/
import Derived.Test.YtcalkgcnciobpaaKnFnExactDiffOf
import Derived.Test.YtcalkgcnciobpaaV
namespace Go.Proofs.Ytcalkgcnciobpaa.PFnExactDiffOf
open Go.RowKit Go.Proofs.YtcalkgcnciobpaaW.PrintWords Go.Proofs.YtcalkgcnciobpaaW.PrintLast Go.Proofs.YtcalkgcnciobpaaW.PrintMore Go.Proofs.YtcalkgcnciobpaaV
set_option linter.unusedVariables false
set_option linter.unusedSimpArgs false
theorem rd75 {l : List S75} {i : Nat} (h : i < l.length) : rd_T75 l (i : Int) = l[i] := by
  unfold rd_T75
  simp [List.getD, List.getElem?_eq_getElem h]
theorem rds75 {l : List S75} {i : Nat} (h : i < l.length) (v : S75) : rd_T75 (l.set i v) (i : Int) = v := by
  unfold rd_T75
  simp [List.getD, h]

theorem rd93 {l : List S93} {i : Nat} (h : i < l.length) : rd_T93 l (i : Int) = l[i] := by
  unfold rd_T93
  simp [List.getD, List.getElem?_eq_getElem h]
theorem rds93 {l : List S93} {i : Nat} (h : i < l.length) (v : S93) : rd_T93 (l.set i v) (i : Int) = v := by
  unfold rd_T93
  simp [List.getD, h]

theorem rd95 {l : List S95} {i : Nat} (h : i < l.length) : rd_T95 l (i : Int) = l[i] := by
  unfold rd_T95
  simp [List.getD, List.getElem?_eq_getElem h]
theorem rds95 {l : List S95} {i : Nat} (h : i < l.length) (v : S95) : rd_T95 (l.set i v) (i : Int) = v := by
  unfold rd_T95
  simp [List.getD, h]

theorem eqr_Cell (a0 : Int) (a1 : Bool) (a2 : Int) : laws_eqCell.f a0 a1 a2 a0 a1 a2 = some true := by
  simp [laws_eqCell.f, laws_eqVal.f]
theorem ev_eqCellS (l : List S93) (hl : l.length ≤ 2000000000) : Ev (fun k => laws_eqCellS.f k l l) true := by
  unfold laws_eqCellS.f
  refine Ev_pos rfl ?_
  refine down (P := fun i => Ev (fun k => laws_eqCellS.l0 k l l (i : Int)) true) l.length ?_ ?_ 0 (Nat.zero_le _)
  · refine Ev_succ ?_
    simp only [laws_eqCellS.l0]
    exact Ev_neg (by omega) (Ev.now _)
  · intro i hi ih
    refine Ev_succ ?_
    simp only [laws_eqCellS.l0]
    refine Ev_pos (by omega) (Ev_pos (by omega) (Ev_pos (by omega) (Ev_some (eqr_Cell _ _ _) (Ev_pos rfl ?_))))
    rw [wr1 hi (by omega)]
    exact ih

theorem sz_ok_Val (l : List S95) (a : Int) (ha : 0 ≤ a) (hb : a ≤ 1048576) (hl : (l.length : Int) ≤ a) : laws_szValS.f l a = some (a - l.length) := by
  unfold laws_szValS.f
  rw [wr (by omega) (by omega), if_neg (by omega)]
theorem sz_big_Val (l : List S95) (a : Int) (ha : 0 ≤ a) (hb : a ≤ 1048576) (hm : l.length ≤ maxLen) (hl : ¬ (l.length : Int) ≤ a) : laws_szValS.f l a = some (-1) := by
  unfold maxLen at hm
  unfold laws_szValS.f
  rw [wr (by omega) (by omega), if_pos (by omega)]

def vne (a b : S75) : Bool := (!(a.f0 == b.f0) || !(a.f1 == b.f1))
theorem vne_comm (a b : S75) : vne a b = vne b a := by
  unfold vne
  have e1 : (a.f0 == b.f0) = (b.f0 == a.f0) := by rw [Bool.eq_iff_iff, beq_iff_eq, beq_iff_eq]; exact eq_comm
  have e2 : (a.f1 == b.f1) = (b.f1 == a.f1) := by rw [Bool.eq_iff_iff, beq_iff_eq, beq_iff_eq]; exact eq_comm
  rw [e1, e2]
theorem vne_self (a : S75) : vne a a = false := by simp [vne]
theorem vne_eq {a b : S75} (h : vne a b = false) : a = b := by
  cases a; cases b
  simpa [vne] using h
def diffGo (i : Int) (a b : List S75) : List S93 := match a, b with
  | x :: xs, y :: ys => if vne x y = true then (⟨i, y⟩ : S93) :: diffGo (i + 1) xs ys else diffGo (i + 1) xs ys
  | _, _ => []
def diffOf (a b : List S75) : List S93 := if a.length = b.length ∧ a.length ≤ 8 then diffGo 0 a b else []
theorem diffGo_length (i : Int) (a b : List S75) : (diffGo i a b).length ≤ a.length := by
  induction a generalizing i b with
  | nil => simp [diffGo]
  | cons x xs ih =>
    cases b with
    | nil => simp [diffGo]
    | cons y ys =>
      have := ih (i + 1) ys
      unfold diffGo
      split <;> simp <;> omega
theorem diffOf_length (a b : List S75) : (diffOf a b).length ≤ 8 := by
  unfold diffOf
  split
  · have := diffGo_length 0 a b; omega
  · simp
theorem diffGo_self (i : Int) (a : List S75) : diffGo i a a = [] := by
  induction a generalizing i with
  | nil => rfl
  | cons x xs ih => unfold diffGo; rw [vne_self]; simpa using ih (i + 1)

theorem ev_spec_DiffOf (a b : List S75) (ha : a.length ≤ 2000000000) (hb : b.length ≤ 2000000000) : Ev (fun k => spec_DiffOf.f k a b) (diffOf a b) := by
  unfold spec_DiffOf.f diffOf
  by_cases c : a.length = b.length ∧ a.length ≤ 8
  · rw [if_pos c]
    have key : ∀ i, i ≤ a.length → ∀ out : List S93, out.length ≤ i → Ev (fun k => spec_DiffOf.l0 k a b out (i : Int)) (out ++ diffGo (i : Int) (a.drop i) (b.drop i)) := by
      refine down (P := fun i => ∀ out : List S93, out.length ≤ i → Ev (fun k => spec_DiffOf.l0 k a b out (i : Int)) (out ++ diffGo (i : Int) (a.drop i) (b.drop i))) a.length ?_ ?_
      · intro out ho
        refine Ev_succ ?_
        simp only [spec_DiffOf.l0]
        refine Ev_neg (by omega) (Ev_succ ?_)
        simp only [spec_DiffOf.j1]
        refine Ev_neg (by simp) ?_
        rw [List.drop_length]
        simp only [diffGo, List.append_nil]
        exact Ev.now _
      · intro i hi ih out ho
        refine Ev_succ ?_
        simp only [spec_DiffOf.l0]
        refine Ev_pos (by omega) (Ev_pos (by omega) (Ev_succ ?_))
        simp only [spec_DiffOf.j1]
        have hi' : i < b.length := by omega
        refine Ev_pos (decide_eq_true (by omega)) (Ev_pos (by omega) (Ev_pos (by omega) (Ev_pos (by omega) ?_)))
        rw [List.drop_eq_getElem_cons hi, List.drop_eq_getElem_cons hi', rd75 hi, rd75 hi', wr1 hi (by omega), diffGo]
        refine Ev_ite (fun h => ?_) (fun h => ?_)
        · rw [if_pos (show vne a[i] b[i] = true from h)]
          refine Ev_pos (by omega) ?_
          have := ih (out ++ [(⟨(i : Int), b[i]⟩ : S93)]) (by simp; omega)
          rw [List.append_assoc] at this
          exact this
        · rw [if_neg (show ¬ vne a[i] b[i] = true from h)]
          exact ih out (by omega)
    have := key 0 (Nat.zero_le _) [] (by simp)
    simpa using this
  · rw [if_neg c]
    refine Ev_succ ?_
    simp only [spec_DiffOf.l0]
    have fin : Ev (fun k => spec_DiffOf.j1 k a b ([] : List S93) 0 false) [] := by
      refine Ev_succ ?_
      simp only [spec_DiffOf.j1]
      exact Ev_neg (by simp) (Ev.now _)
    refine Ev_ite (fun h1 => ?_) (fun h1 => fin)
    refine Ev_ite (fun h2 => ?_) (fun h2 => fin)
    rw [show decide ((a.length : Int) ≤ 8) = false from decide_eq_false (by omega)]
    exact fin

def cv_Val (x : S95) : S75 := ⟨x.f0, x.f1⟩
theorem ev_toValS (l : List S95) (hl : l.length ≤ 1048576) : Ev (fun k => laws_toValS.f k l) (l.map cv_Val) := by
  unfold laws_toValS.f
  refine Ev_pos (by omega) ?_
  rw [Int.toNat_natCast]
  refine Ev_pos (by omega) ?_
  refine evFill (fun k xs i => laws_toValS.l0 k l xs i) l cv_Val z75 (fun xs hx => ?_) (fun xs i hi r hx ih => ?_)
  · refine Ev_succ ?_
    simp only [laws_toValS.l0]
    exact Ev_neg (by omega) (Ev.now _)
  · refine Ev_succ ?_
    simp only [laws_toValS.l0]
    refine Ev_pos (by omega) (Ev_pos (by omega) (Ev_some rfl (Ev_pos (by omega) ?_)))
    rw [wr1 hi (by omega), rd95 hi, Int.toNat_natCast]
    exact ih

theorem ev_impl_DiffOf (a b : List S75) (ha : a.length ≤ 2000000000) (hb : b.length ≤ 2000000000) : Ev (fun k => impl_DiffOf.f k a b) (diffOf a b) := by
  unfold impl_DiffOf.f diffOf
  by_cases c : a.length = b.length ∧ a.length ≤ 8
  · rw [if_pos c]
    have key : ∀ i, i ≤ b.length → ∀ out : List S93, out.length ≤ i → Ev (fun k => impl_DiffOf.l0 k a out b (b.length : Int) (i : Int)) (out ++ diffGo (i : Int) (a.drop i) (b.drop i)) := by
      refine down (P := fun i => ∀ out : List S93, out.length ≤ i → Ev (fun k => impl_DiffOf.l0 k a out b (b.length : Int) (i : Int)) (out ++ diffGo (i : Int) (a.drop i) (b.drop i))) b.length ?_ ?_
      · intro out ho
        refine Ev_succ ?_
        simp only [impl_DiffOf.l0]
        refine Ev_neg (by omega) ?_
        rw [List.drop_of_length_le (show a.length ≤ b.length by omega)]
        simp only [diffGo, List.append_nil]
        exact Ev.now _
      · intro i hi' ih out ho
        have hi : i < a.length := by omega
        refine Ev_succ ?_
        simp only [impl_DiffOf.l0]
        refine Ev_pos (by omega) (Ev_pos (by omega) (Ev_pos (by omega) (Ev_pos (by omega) ?_)))
        rw [List.drop_eq_getElem_cons hi, List.drop_eq_getElem_cons hi', rd75 hi, rd75 hi', wr1 hi (by omega), diffGo, vne_comm]
        refine Ev_ite (fun h => ?_) (fun h => ?_)
        · rw [if_pos (show vne b[i] a[i] = true from h)]
          refine Ev_pos (by omega) ?_
          have := ih (out ++ [(⟨(i : Int), b[i]⟩ : S93)]) (by simp; omega)
          rw [List.append_assoc] at this
          exact this
        · rw [if_neg (show ¬ vne b[i] a[i] = true from h)]
          exact ih out (by omega)
    refine Ev_pos (by omega) (Ev_succ ?_)
    simp only [impl_DiffOf.j0]
    refine Ev_neg (by simp; omega) ?_
    have := key 0 (Nat.zero_le _) [] (by simp)
    simpa using this
  · rw [if_neg c]
    refine Ev_ite (fun h => Ev_succ ?_) (fun h => Ev_succ ?_)
    · simp only [impl_DiffOf.j0]
      exact Ev_pos (decide_eq_true (by omega)) (Ev.now _)
    · simp only [impl_DiffOf.j0]
      exact Ev_pos (by simp) (Ev.now _)

theorem eqr_Val (a0 : Bool) (a1 : Int) : laws_eqVal.f a0 a1 a0 a1 = some true := by
  simp [laws_eqVal.f]
theorem ev_eqValS (l : List S75) (hl : l.length ≤ 2000000000) : Ev (fun k => laws_eqValS.f k l l) true := by
  unfold laws_eqValS.f
  refine Ev_pos rfl ?_
  refine down (P := fun i => Ev (fun k => laws_eqValS.l0 k l l (i : Int)) true) l.length ?_ ?_ 0 (Nat.zero_le _)
  · refine Ev_succ ?_
    simp only [laws_eqValS.l0]
    exact Ev_neg (by omega) (Ev.now _)
  · intro i hi ih
    refine Ev_succ ?_
    simp only [laws_eqValS.l0]
    refine Ev_pos (by omega) (Ev_pos (by omega) (Ev_pos (by omega) (Ev_some (eqr_Val _ _) (Ev_pos rfl ?_))))
    rw [wr1 hi (by omega)]
    exact ih

def el_Val (a : Int) : S75 := ⟨(Int.tmod (a) 3 == 0), a + 1⟩
def mk_Val (n : Nat) (a : Int) : List S75 := (List.range n).map fun i : Nat => el_Val (a + 2 * (i : Int))

theorem ev_markValS (l : List S75) (a : Int) (h0 : 0 ≤ a) (hb : a + 2 * (l.length : Int) ≤ 1000000000000) : Ev (fun k => laws_markValS.f k l a) (a + 2 * (l.length : Int), mk_Val l.length a) := by
  unfold laws_markValS.f
  refine evMark (fun k xs a i => laws_markValS.l0 k xs a i) 2 (by omega) el_Val l a h0 hb (fun xs a hx => ?_) (fun xs i a r hi hx h0 hb ih => ?_)
  · refine Ev_succ ?_
    simp only [laws_markValS.l0]
    exact Ev_neg (by omega) (Ev.now _)
  · refine Ev_succ ?_
    simp only [laws_markValS.l0]
    refine Ev_pos (by omega) (Ev_pos (by omega) ?_)
    have e1 : wrap64 (a + 1) = a + 1 := wr (by omega) (by omega)
    have e2 : wrap64 (a + 1 + 1) = a + 2 := by rw [wr (by omega) (by omega)]; omega
    simp only [e1, e2, Option.bind_some, Int.toNat_natCast, List.set_set]
    rw [wr1 (n := l.length) (by omega) (by omega)]
    have hi' : i < xs.length := by omega
    simp only [rds75 hi', List.length_set, List.set_set] at ih ⊢
    first | exact ih | (simp only [rd75 hi'] at ih ⊢; exact ih)

def el_Cell (a : Int) : S93 := ⟨a, (⟨(Int.tmod (a + 1) 3 == 0), a + 2⟩ : S75)⟩
def mk_Cell (n : Nat) (a : Int) : List S93 := (List.range n).map fun i : Nat => el_Cell (a + 3 * (i : Int))

theorem ev_markCellS (l : List S93) (a : Int) (h0 : 0 ≤ a) (hb : a + 3 * (l.length : Int) ≤ 1000000000000) : Ev (fun k => laws_markCellS.f k l a) (a + 3 * (l.length : Int), mk_Cell l.length a) := by
  unfold laws_markCellS.f
  refine evMark (fun k xs a i => laws_markCellS.l0 k xs a i) 3 (by omega) el_Cell l a h0 hb (fun xs a hx => ?_) (fun xs i a r hi hx h0 hb ih => ?_)
  · refine Ev_succ ?_
    simp only [laws_markCellS.l0]
    exact Ev_neg (by omega) (Ev.now _)
  · refine Ev_succ ?_
    simp only [laws_markCellS.l0]
    refine Ev_pos (by omega) (Ev_pos (by omega) ?_)
    have e1 : wrap64 (a + 1) = a + 1 := wr (by omega) (by omega)
    have e2 : wrap64 (a + 1 + 1) = a + 2 := by rw [wr (by omega) (by omega)]; omega
    have e3 : wrap64 (a + 2 + 1) = a + 3 := by rw [wr (by omega) (by omega)]; omega
    simp only [e1, e2, e3, Option.bind_some, Int.toNat_natCast, List.set_set]
    rw [wr1 (n := l.length) (by omega) (by omega)]
    have hi' : i < xs.length := by omega
    simp only [rds93 hi', List.length_set, List.set_set] at ih ⊢
    first | exact ih | (simp only [rd93 hi'] at ih ⊢; exact ih)

theorem ev_heldCellS (m : Nat) (a : Int) (h0 : 0 ≤ a) (hb : a + 3 * (m : Int) ≤ 1000000000000) : Ev (fun k => laws_heldCellS.f k (mk_Cell m a) a) (a + 3 * (m : Int)) := by
  unfold laws_heldCellS.f
  have hl : (mk_Cell m a).length = m := by simp [mk_Cell]
  have key : ∀ i, i ≤ m → Ev (fun k => laws_heldCellS.l0 k (mk_Cell m a) (a + 3 * (i : Int)) (i : Int)) (a + 3 * (m : Int)) := by
    refine down (P := fun i => Ev (fun k => laws_heldCellS.l0 k (mk_Cell m a) (a + 3 * (i : Int)) (i : Int)) (a + 3 * (m : Int))) m ?_ ?_
    · refine Ev_succ ?_
      simp only [laws_heldCellS.l0]
      exact Ev_neg (by omega) (Ev.now _)
    · intro i hi ih
      have hi' : i < (mk_Cell m a).length := by omega
      have hr : rd_T93 (mk_Cell m a) (i : Int) = el_Cell (a + 3 * (i : Int)) := by
        rw [rd93 hi']
        simp [mk_Cell]
      refine Ev_succ ?_
      simp only [laws_heldCellS.l0]
      refine Ev_pos (by omega) (Ev_pos (by omega) ?_)
      have e1 : wrap64 (a + 3 * (i : Int) + 1) = a + 3 * (i : Int) + 1 := wr (by omega) (by omega)
      have e2 : wrap64 (a + 3 * (i : Int) + 1 + 1) = a + 3 * (i : Int) + 2 := by rw [wr (by omega) (by omega)]; omega
      have e3 : wrap64 (a + 3 * (i : Int) + 2 + 1) = a + 3 * (i : Int) + 3 := by rw [wr (by omega) (by omega)]; omega
      rw [hr]
      simp only [e1, e2, e3, el_Cell, bne_self_eq_false, if_true, if_false, Bool.false_eq_true]
      rw [wr1 (n := m) hi (by omega)]
      have e : a + 3 * ((i + 1 : Nat) : Int) = a + 3 * (i : Int) + 3 := by omega
      rw [e] at ih
      exact ih
  have := key 0 (Nat.zero_le _)
  simpa using this

theorem pure_law : laws_FnExactDiffOf.Pure := by
  intro l0 l1 hm hg hm1 hg1
  refine Ev.rounds (g := fun k => laws_FnExactDiffOf.f k l0 l1) ?_
  unfold laws_FnExactDiffOf.f
  by_cases h0 : (l0.length : Int) ≤ 1048576
  · rw [sz_ok_Val l0 _ (by omega) (by omega) h0]
    simp only [Option.bind_some]
    refine Ev_neg (by omega) ?_
    by_cases h1 : (l1.length : Int) ≤ 1048576 - l0.length
    · rw [sz_ok_Val l1 _ (by omega) (by omega) h1]
      simp only [Option.bind_some]
      have hn : (l0.map cv_Val).length ≤ 1048576 := by rw [List.length_map]; omega
      have hn1 : (l1.map cv_Val).length ≤ 1048576 := by rw [List.length_map]; omega
      have hr := diffOf_length (l0.map cv_Val) (l1.map cv_Val)
      have t0 := ev_toValS l0 (by omega)
      have t1 := ev_toValS l1 (by omega)
      have m0 := ev_impl_DiffOf (l0.map cv_Val) (l1.map cv_Val) (by omega) (by omega)
      refine Ev_neg (by omega) ?_
      refine Ev.bind t0 ?_
      refine Ev.bind t1 ?_
      refine Ev.bind (ev_spec_DiffOf _ _ (by omega) (by omega)) ?_
      refine Ev.bind t0 ?_
      refine Ev.bind t1 ?_
      refine Ev.bind m0 ?_
      refine Ev.bind (ev_eqCellS _ (by omega)) ?_
      refine Ev_pos (by simp) ?_
      refine Ev.bind t0 ?_
      refine Ev.bind (ev_eqValS _ (by omega)) ?_
      refine Ev_pos (by simp) ?_
      refine Ev.bind t1 ?_
      refine Ev.bind (ev_eqValS _ (by omega)) ?_
      refine Ev_pos (by simp) ?_
      refine Ev.bind (ev_markValS _ 1 (by omega) (by omega)) ?_
      refine Ev.bind (ev_markValS _ _ (by simp only; omega) (by simp only; omega)) ?_
      refine Ev_neg (by simp only; omega) ?_
      refine Ev.bind (ev_eqCellS _ (by omega)) ?_
      refine Ev_succ ?_
      simp only [laws_FnExactDiffOf.j0]
      refine Ev_neg (by simp) ?_
      refine Ev.bind (ev_markCellS _ 1 (by omega) (by omega)) ?_
      refine Ev.bind (ev_heldCellS _ 1 (by omega) (by omega)) ?_
      refine Ev_neg (by omega) ?_
      refine Ev_pos (by simp) ?_
      refine Ev.bind t0 ?_
      refine Ev.bind t1 ?_
      refine Ev.bind m0 ?_
      refine Ev.bind (ev_eqCellS _ (by omega)) ?_
      refine Ev_pos (by simp) ?_
      refine Ev.bind (ev_heldCellS _ 1 (by omega) (by omega)) ?_
      refine Ev_neg (by omega) ?_
      exact Ev_pos (by simp) (Ev.now _)
    · rw [sz_big_Val l1 _ (by omega) (by omega) hm1 h1]
      simp only [Option.bind_some]
      exact Ev_pos (by omega) (Ev.now _)
  · rw [sz_big_Val l0 _ (by omega) (by omega) hm h0]
    simp only [Option.bind_some]
    exact Ev_pos (by omega) (Ev.now _)

end Go.Proofs.Ytcalkgcnciobpaa.PFnExactDiffOf
namespace Go.Proofs.Ytcalkgcnciobpaa.PureOf
theorem FnExactDiffOf : Go.Proofs.Ytcalkgcnciobpaa.PFnExactDiffOf.laws_FnExactDiffOf.Pure := Go.Proofs.Ytcalkgcnciobpaa.PFnExactDiffOf.pure_law
end Go.Proofs.Ytcalkgcnciobpaa.PureOf
