/- What is left of the law FnExactEventsOk: over lists and numbers alone. No condition beyond the statement's own. -/
import Derived.Test.YtcalkgcnciobpaaKnFnExactEventsOk
import Derived.Test.YtcalkgcnciobpaaV
namespace Go.Proofs.Ytcalkgcnciobpaa.PFnExactEventsOk
open Go.RowKit Go.Proofs.YtcalkgcnciobpaaW.PrintWords Go.Proofs.YtcalkgcnciobpaaW.PrintLast Go.Proofs.YtcalkgcnciobpaaW.PrintMore Go.Proofs.YtcalkgcnciobpaaV
set_option linter.unusedVariables false
set_option linter.unusedSimpArgs false
theorem rd23 {l : List S23} {i : Nat} (h : i < l.length) : rd_T23 l (i : Int) = l[i] := by
  unfold rd_T23
  simp [List.getD, List.getElem?_eq_getElem h]
theorem rds23 {l : List S23} {i : Nat} (h : i < l.length) (v : S23) : rd_T23 (l.set i v) (i : Int) = v := by
  unfold rd_T23
  simp [List.getD, h]

theorem rd25 {l : List S25} {i : Nat} (h : i < l.length) : rd_T25 l (i : Int) = l[i] := by
  unfold rd_T25
  simp [List.getD, List.getElem?_eq_getElem h]
theorem rds25 {l : List S25} {i : Nat} (h : i < l.length) (v : S25) : rd_T25 (l.set i v) (i : Int) = v := by
  unfold rd_T25
  simp [List.getD, h]

theorem sz_ok_Event (l : List S23) (a : Int) (ha : 0 ≤ a) (hb : a ≤ 1048576) (hl : (l.length : Int) ≤ a) : laws_szEventS.f l a = some (a - l.length) := by
  unfold laws_szEventS.f
  rw [wr (by omega) (by omega), if_neg (by omega)]
theorem sz_big_Event (l : List S23) (a : Int) (ha : 0 ≤ a) (hb : a ≤ 1048576) (hm : l.length ≤ maxLen) (hl : ¬ (l.length : Int) ≤ a) : laws_szEventS.f l a = some (-1) := by
  unfold maxLen at hm
  unfold laws_szEventS.f
  rw [wr (by omega) (by omega), if_pos (by omega)]

theorem v_spec_l1In (a b c : Int) : spec_l1In.f a b c = some (decide (b ≤ a ∧ a ≤ c)) := by
  unfold spec_l1In.f
  by_cases h : a ≥ b
  · rw [if_pos h]
    simp [show b ≤ a from h]
  · rw [if_neg h]
    simp [show ¬ b ≤ a from h]

def evOk (e : S25) : Bool := decide (1 ≤ e.f0 ∧ e.f0 ≤ 1000000) && decide (0 ≤ e.f1 ∧ e.f1 ≤ 6) && decide (0 ≤ e.f2 ∧ e.f2 ≤ 1000000) && decide (0 ≤ e.f3 ∧ e.f3 ≤ 7)
def eventsOk (l : List S25) : Bool := l.all evOk && decide ((l.length : Int) ≤ 3000)
theorem ev_spec_EventsOk (l : List S25) (hl : l.length ≤ 2000000000) : Ev (fun k => spec_EventsOk.f k l) (eventsOk l) := by
  unfold spec_EventsOk.f
  refine evAllL (fun k i => spec_EventsOk.l0 k l i) l evOk _ ?_ (fun i hi r ht hf => ?_)
  · refine Ev_succ ?_
    simp only [spec_EventsOk.l0]
    exact Ev_neg (by omega) (Ev.now _)
  · refine Ev_succ ?_
    simp only [spec_EventsOk.l0, v_spec_l1In, Option.bind_some]
    refine Ev_pos (by omega) (Ev_pos (by omega) ?_)
    rw [rd25 hi, wr1 hi (by omega)]
    repeat' (refine Ev_ite (fun _ => ?_) (fun _ => ?_))
    all_goals first
      | exact ht (by simp_all [evOk])
      | exact Ev_eq (hf (by simp_all [evOk] <;> (intros; omega))).symm

def cv_Event (x : S23) : S25 := ⟨x.f0, x.f1, x.f2, x.f3⟩
theorem ev_toEventS (l : List S23) (hl : l.length ≤ 1048576) : Ev (fun k => laws_toEventS.f k l) (l.map cv_Event) := by
  unfold laws_toEventS.f
  refine Ev_pos (by omega) ?_
  rw [Int.toNat_natCast]
  refine Ev_pos (by omega) ?_
  refine evFill (fun k xs i => laws_toEventS.l0 k l xs i) l cv_Event z25 (fun xs hx => ?_) (fun xs i hi r hx ih => ?_)
  · refine Ev_succ ?_
    simp only [laws_toEventS.l0]
    exact Ev_neg (by omega) (Ev.now _)
  · refine Ev_succ ?_
    simp only [laws_toEventS.l0]
    refine Ev_pos (by omega) (Ev_pos (by omega) (Ev_some rfl (Ev_pos (by omega) ?_)))
    rw [wr1 hi (by omega), rd23 hi, Int.toNat_natCast]
    exact ih

theorem v_impl_within (a b c : Int) : impl_within.f a b c = some (decide (b ≤ a ∧ a ≤ c)) := by
  unfold impl_within.f
  by_cases h : a ≥ b
  · rw [if_pos h]
    simp [show b ≤ a from h]
  · rw [if_neg h]
    simp [show ¬ b ≤ a from h]

theorem v_impl_isId (a : Int) : impl_isId.f a = some (decide (1 ≤ a ∧ a ≤ 1000000)) := by
  unfold impl_isId.f
  rw [v_impl_within]
  rfl

theorem ev_impl_EventsOk (l : List S25) (hl : l.length ≤ 2000000000) : Ev (fun k => impl_EventsOk.f k l) (eventsOk l) := by
  unfold impl_EventsOk.f
  refine evAllL (fun k i => impl_EventsOk.l0 k l l (l.length : Int) i) l evOk _ ?_ (fun i hi r ht hf => ?_)
  · refine Ev_succ ?_
    simp only [impl_EventsOk.l0]
    exact Ev_neg (by omega) (Ev.now _)
  · refine Ev_succ ?_
    simp only [impl_EventsOk.l0, v_impl_within, v_impl_isId, Option.bind_some]
    refine Ev_pos (by omega) (Ev_pos (by omega) (Ev_pos (by omega) ?_))
    rw [rd25 hi, wr1 hi (by omega)]
    repeat' (refine Ev_ite (fun _ => ?_) (fun _ => ?_))
    all_goals first
      | exact ht (by simp_all [evOk])
      | exact Ev_eq (hf (by simp_all [evOk] <;> (intros; omega))).symm

theorem eqr_Event (a0 : Int) (a1 : Int) (a2 : Int) (a3 : Int) : laws_eqEvent.f a0 a1 a2 a3 a0 a1 a2 a3 = some true := by
  simp [laws_eqEvent.f]
theorem ev_eqEventS (l : List S25) (hl : l.length ≤ 2000000000) : Ev (fun k => laws_eqEventS.f k l l) true := by
  unfold laws_eqEventS.f
  refine Ev_pos rfl ?_
  refine down (P := fun i => Ev (fun k => laws_eqEventS.l0 k l l (i : Int)) true) l.length ?_ ?_ 0 (Nat.zero_le _)
  · refine Ev_succ ?_
    simp only [laws_eqEventS.l0]
    exact Ev_neg (by omega) (Ev.now _)
  · intro i hi ih
    refine Ev_succ ?_
    simp only [laws_eqEventS.l0]
    refine Ev_pos (by omega) (Ev_pos (by omega) (Ev_pos (by omega) (Ev_some (eqr_Event _ _ _ _) (Ev_pos rfl ?_))))
    rw [wr1 hi (by omega)]
    exact ih

theorem pure_law : laws_FnExactEventsOk.Pure := by
  intro l0 hm hg
  refine Ev.rounds (g := fun k => laws_FnExactEventsOk.f k l0) ?_
  unfold laws_FnExactEventsOk.f
  by_cases h0 : (l0.length : Int) ≤ 1048576
  · rw [sz_ok_Event l0 _ (by omega) (by omega) h0]
    simp only [Option.bind_some]
    have hn : (l0.map cv_Event).length ≤ 2000000000 := by rw [List.length_map]; omega
    exact Ev_neg (by omega) (Ev.bind (ev_toEventS l0 (by omega)) (Ev.bind (ev_spec_EventsOk _ hn) (Ev.bind (ev_toEventS l0 (by omega)) (Ev.bind (ev_impl_EventsOk _ hn)
      (Ev_neg (by simp) (Ev.bind (ev_toEventS l0 (by omega)) (Ev.bind (ev_eqEventS _ hn) (Ev_pos rfl (Ev.now _)))))))))
  · rw [sz_big_Event l0 _ (by omega) (by omega) hm h0]
    simp only [Option.bind_some]
    exact Ev_pos (by omega) (Ev.now _)

end Go.Proofs.Ytcalkgcnciobpaa.PFnExactEventsOk
namespace Go.Proofs.Ytcalkgcnciobpaa.PureOf
theorem FnExactEventsOk : Go.Proofs.Ytcalkgcnciobpaa.PFnExactEventsOk.laws_FnExactEventsOk.Pure := Go.Proofs.Ytcalkgcnciobpaa.PFnExactEventsOk.pure_law
end Go.Proofs.Ytcalkgcnciobpaa.PureOf
