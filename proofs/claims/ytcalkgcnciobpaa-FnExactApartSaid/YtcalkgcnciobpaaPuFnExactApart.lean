/- What is left of the law FnExactApart: over lists and numbers alone. No condition beyond the statement's own. -/
import Derived.Test.YtcalkgcnciobpaaKnFnExactApart
import Derived.Test.YtcalkgcnciobpaaV
namespace Go.Proofs.Ytcalkgcnciobpaa.PFnExactApart
open Go.RowKit Go.Proofs.YtcalkgcnciobpaaW.PrintWords Go.Proofs.YtcalkgcnciobpaaW.PrintLast Go.Proofs.YtcalkgcnciobpaaW.PrintMore Go.Proofs.YtcalkgcnciobpaaV
set_option linter.unusedVariables false
set_option linter.unusedSimpArgs false
theorem rd95 {l : List S95} {i : Nat} (h : i < l.length) : rd_T95 l (i : Int) = l[i] := by
  unfold rd_T95
  simp [List.getD, List.getElem?_eq_getElem h]
theorem rds95 {l : List S95} {i : Nat} (h : i < l.length) (v : S95) : rd_T95 (l.set i v) (i : Int) = v := by
  unfold rd_T95
  simp [List.getD, h]

theorem rd97 {l : List S97} {i : Nat} (h : i < l.length) : rd_T97 l (i : Int) = l[i] := by
  unfold rd_T97
  simp [List.getD, List.getElem?_eq_getElem h]
theorem rds97 {l : List S97} {i : Nat} (h : i < l.length) (v : S97) : rd_T97 (l.set i v) (i : Int) = v := by
  unfold rd_T97
  simp [List.getD, h]

theorem rd75 {l : List S75} {i : Nat} (h : i < l.length) : rd_T75 l (i : Int) = l[i] := by
  unfold rd_T75
  simp [List.getD, List.getElem?_eq_getElem h]
theorem rds75 {l : List S75} {i : Nat} (h : i < l.length) (v : S75) : rd_T75 (l.set i v) (i : Int) = v := by
  unfold rd_T75
  simp [List.getD, h]

theorem rd93 {l : List S93} {i : Nat} (h : i < l.length) : rd_T93 l (i : Int) = l[i] := by
  unfold rd_T93
  simp [List.getD, List.getElem?_eq_getElem h]
theorem rds93 {l : List S93} {i : Nat} (h : i < l.length) (v : S93) : rd_T93 (l.set i v) (i : Int) = v := by
  unfold rd_T93
  simp [List.getD, h]

theorem sz_ok_Cell (l : List S97) (a : Int) (ha : 0 ≤ a) (hb : a ≤ 1048576) (hl : (l.length : Int) ≤ a) : laws_szCellS.f l a = some (a - l.length) := by
  unfold laws_szCellS.f
  rw [wr (by omega) (by omega), if_neg (by omega)]
theorem sz_big_Cell (l : List S97) (a : Int) (ha : 0 ≤ a) (hb : a ≤ 1048576) (hm : l.length ≤ maxLen) (hl : ¬ (l.length : Int) ≤ a) : laws_szCellS.f l a = some (-1) := by
  unfold maxLen at hm
  unfold laws_szCellS.f
  rw [wr (by omega) (by omega), if_pos (by omega)]

def apart (a b : List S93) : Bool := a.all fun c => b.all fun d => !(decide (c.f0 = d.f0))
theorem ev_spec_Apart (a b : List S93) (ha : a.length ≤ 2000000000) (hb : b.length ≤ 2000000000) : Ev (fun k => spec_Apart.f k a b) (apart a b) := by
  unfold spec_Apart.f
  have inner : ∀ (i : Nat) (hi : i < a.length) (r : Bool), ((b.all fun d => !(decide (a[i].f0 = d.f0))) = true → Ev (fun k => spec_Apart.l0 k a b ((i + 1 : Nat) : Int)) r) → ((b.all fun d => !(decide (a[i].f0 = d.f0))) = false → r = false) →
      ∀ j, j ≤ b.length → ((b.take j).all fun d => !(decide (a[i].f0 = d.f0))) = true → Ev (fun k => spec_Apart.l1 k a b (i : Int) (j : Int)) r := by
    intro i hi r ht hf
    refine down (P := fun j => ((b.take j).all fun d => !(decide (a[i].f0 = d.f0))) = true → Ev (fun k => spec_Apart.l1 k a b (i : Int) (j : Int)) r) b.length ?_ ?_
    · intro h
      rw [List.take_length] at h
      refine Ev_succ ?_
      simp only [spec_Apart.l1]
      refine Ev_neg (by omega) ?_
      rw [wr1 hi (by omega)]
      exact ht h
    · intro j hj ih h
      refine Ev_succ ?_
      simp only [spec_Apart.l1]
      refine Ev_pos (by omega) (Ev_pos (by omega) (Ev_pos (by omega) (Ev_pos (by omega) ?_)))
      rw [rd93 hi, rd93 hj, wr1 hj (by omega)]
      refine Ev_ite (fun he => ?_) (fun he => ?_)
      · refine Ev_eq (hf ?_).symm
        rw [← Bool.not_eq_true, List.all_eq_true]
        intro hall
        have := hall _ (List.getElem_mem hj)
        simp [he] at this
      · refine ih ?_
        rw [List.take_succ_eq_append_getElem hj, List.all_append, h]
        simp [he]
  have := evAllL (fun k i => spec_Apart.l0 k a b i) a (fun c => b.all fun d => !(decide (c.f0 = d.f0))) true ?_ (fun i hi r ht hf => ?_)
  · simpa [apart] using this
  · refine Ev_succ ?_
    simp only [spec_Apart.l0]
    exact Ev_neg (by omega) (Ev.now _)
  · refine Ev_succ ?_
    simp only [spec_Apart.l0]
    exact Ev_pos (by omega) (inner i hi r ht hf 0 (Nat.zero_le _) (by simp))

def cv_Cell (x : S97) : S93 := ⟨x.f0, (⟨x.f1.f0, x.f1.f1⟩ : S75)⟩
theorem ev_toCellS (l : List S97) (hl : l.length ≤ 1048576) : Ev (fun k => laws_toCellS.f k l) (l.map cv_Cell) := by
  unfold laws_toCellS.f
  refine Ev_pos (by omega) ?_
  rw [Int.toNat_natCast]
  refine Ev_pos (by omega) ?_
  refine evFill (fun k xs i => laws_toCellS.l0 k l xs i) l cv_Cell z93 (fun xs hx => ?_) (fun xs i hi r hx ih => ?_)
  · refine Ev_succ ?_
    simp only [laws_toCellS.l0]
    exact Ev_neg (by omega) (Ev.now _)
  · refine Ev_succ ?_
    simp only [laws_toCellS.l0]
    refine Ev_pos (by omega) (Ev_pos (by omega) (Ev_some rfl (Ev_pos (by omega) ?_)))
    rw [wr1 hi (by omega), rd97 hi, Int.toNat_natCast]
    exact ih

theorem ev_impl_Apart (a b : List S93) (ha : a.length ≤ 2000000000) (hb : b.length ≤ 2000000000) : Ev (fun k => impl_Apart.f k a b) (apart a b) := by
  unfold impl_Apart.f
  have inner : ∀ (i : Nat) (hi : i < a.length) (r : Bool), ((b.all fun d => !(decide (a[i].f0 = d.f0))) = true → Ev (fun k => impl_Apart.l0 k b a (a.length : Int) ((i + 1 : Nat) : Int)) r) → ((b.all fun d => !(decide (a[i].f0 = d.f0))) = false → r = false) →
      ∀ j, j ≤ b.length → ((b.take j).all fun d => !(decide (a[i].f0 = d.f0))) = true → Ev (fun k => impl_Apart.l1 k b a (a.length : Int) (i : Int) b (b.length : Int) (j : Int) a[i].f0 a[i].f1.f0 a[i].f1.f1) r := by
    intro i hi r ht hf
    refine down (P := fun j => ((b.take j).all fun d => !(decide (a[i].f0 = d.f0))) = true → Ev (fun k => impl_Apart.l1 k b a (a.length : Int) (i : Int) b (b.length : Int) (j : Int) a[i].f0 a[i].f1.f0 a[i].f1.f1) r) b.length ?_ ?_
    · intro h
      rw [List.take_length] at h
      refine Ev_succ ?_
      simp only [impl_Apart.l1]
      refine Ev_neg (by omega) ?_
      rw [wr1 hi (by omega)]
      exact ht h
    · intro j hj ih h
      refine Ev_succ ?_
      simp only [impl_Apart.l1]
      refine Ev_pos (by omega) (Ev_pos (by omega) (Ev_pos (by omega) ?_))
      rw [rd93 hj, wr1 hj (by omega)]
      refine Ev_ite (fun he => ?_) (fun he => ?_)
      · refine Ev_eq (hf ?_).symm
        rw [← Bool.not_eq_true, List.all_eq_true]
        intro hall
        have := hall _ (List.getElem_mem hj)
        simp [he] at this
      · refine ih ?_
        rw [List.take_succ_eq_append_getElem hj, List.all_append, h]
        simp [he]
  have := evAllL (fun k i => impl_Apart.l0 k b a (a.length : Int) i) a (fun c => b.all fun d => !(decide (c.f0 = d.f0))) true ?_ (fun i hi r ht hf => ?_)
  · simpa [apart] using this
  · refine Ev_succ ?_
    simp only [impl_Apart.l0]
    exact Ev_neg (by omega) (Ev.now _)
  · refine Ev_succ ?_
    simp only [impl_Apart.l0]
    refine Ev_pos (by omega) (Ev_pos (by omega) (Ev_pos (by omega) ?_))
    rw [rd93 hi]
    exact inner i hi r ht hf 0 (Nat.zero_le _) (by simp)

theorem eqr_Cell (a0 : Int) (a1 : Bool) (a2 : Int) : laws_eqCell.f a0 a1 a2 a0 a1 a2 = some true := by
  simp [laws_eqCell.f, laws_eqVal.f]
theorem ev_eqCellS (l : List S93) (hl : l.length ≤ 2000000000) : Ev (fun k => laws_eqCellS.f k l l) true := by
  unfold laws_eqCellS.f
  refine Ev_pos rfl ?_
  refine down (P := fun i => Ev (fun k => laws_eqCellS.l0 k l l (i : Int)) true) l.length ?_ ?_ 0 (Nat.zero_le _)
  · refine Ev_succ ?_
    simp only [laws_eqCellS.l0]
    exact Ev_neg (by omega) (Ev.now _)
  · intro i hi ih
    refine Ev_succ ?_
    simp only [laws_eqCellS.l0]
    refine Ev_pos (by omega) (Ev_pos (by omega) (Ev_pos (by omega) (Ev_some (eqr_Cell _ _ _) (Ev_pos rfl ?_))))
    rw [wr1 hi (by omega)]
    exact ih

theorem pure_law : laws_FnExactApart.Pure := by
  intro l0 l1 hm hg hm1 hg1
  refine Ev.rounds (g := fun k => laws_FnExactApart.f k l0 l1) ?_
  unfold laws_FnExactApart.f
  by_cases h0 : (l0.length : Int) ≤ 1048576
  · rw [sz_ok_Cell l0 _ (by omega) (by omega) h0]
    simp only [Option.bind_some]
    refine Ev_neg (by omega) ?_
    by_cases h1 : (l1.length : Int) ≤ 1048576 - l0.length
    · rw [sz_ok_Cell l1 _ (by omega) (by omega) h1]
      simp only [Option.bind_some]
      have hn : (l0.map cv_Cell).length ≤ 2000000000 := by rw [List.length_map]; omega
      have hn1 : (l1.map cv_Cell).length ≤ 2000000000 := by rw [List.length_map]; omega
      have t0 := ev_toCellS l0 (by omega)
      have t1 := ev_toCellS l1 (by omega)
      refine Ev_neg (by omega) ?_
      refine Ev.bind t0 ?_
      refine Ev.bind t1 ?_
      refine Ev.bind (ev_spec_Apart _ _ hn hn1) ?_
      refine Ev.bind t0 ?_
      refine Ev.bind t1 ?_
      refine Ev.bind (ev_impl_Apart _ _ hn hn1) ?_
      refine Ev_neg (by simp) ?_
      refine Ev.bind t0 ?_
      refine Ev.bind (ev_eqCellS _ hn) ?_
      refine Ev_pos rfl ?_
      refine Ev.bind t1 ?_
      refine Ev.bind (ev_eqCellS _ hn1) ?_
      exact Ev_pos rfl (Ev.now _)
    · rw [sz_big_Cell l1 _ (by omega) (by omega) hm1 h1]
      simp only [Option.bind_some]
      exact Ev_pos (by omega) (Ev.now _)
  · rw [sz_big_Cell l0 _ (by omega) (by omega) hm h0]
    simp only [Option.bind_some]
    exact Ev_pos (by omega) (Ev.now _)

end Go.Proofs.Ytcalkgcnciobpaa.PFnExactApart
namespace Go.Proofs.Ytcalkgcnciobpaa.PureOf
theorem FnExactApart : Go.Proofs.Ytcalkgcnciobpaa.PFnExactApart.laws_FnExactApart.Pure := Go.Proofs.Ytcalkgcnciobpaa.PFnExactApart.pure_law
end Go.Proofs.Ytcalkgcnciobpaa.PureOf
